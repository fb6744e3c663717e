-- Merged by a program of this session (wip/tool/pack.py) out of its own texts for this claim.
import Derived.Test.YtaememmnhmebcaaGreatDoorKFnExactPaperBody12
set_option maxHeartbeats 8000000
set_option maxRecDepth 100000
set_option linter.unusedSimpArgs false
set_option linter.unusedVariables false
namespace Go.Proofs.YtaememmnhmebcaaGreatDoor.QB
open Go.RowKit Go.Proofs.YtaememmnhmebcaaGreatDoorW.PrintWords Go.Proofs.YtaememmnhmebcaaGreatDoorW.PrintLast Go.Proofs.YtaememmnhmebcaaGreatDoorW.PrintMore
attribute [local go_sem] max2_int min2_int max_two min_two max_three min_three max_four min_four   -- for this text's walks alone
theorem impl_plain.calls (k:Nat) (a0:ByteArray) (A1:Option Addr) (c1:Nat) (l1:List ByteArray) (r1:ByteArray) (r2:List (S77)) (w:World) (hr1:Kd.C Kd.string w A1 l1.length l1) (hc1:l1.length≤c1) (H:impl_plain.f k a0 l1=some (r1,r2)) :
  Calls Tryz.prog 44 #[.string a0,.slice A1 l1.length c1] w fun e w'=>∃ v1_:Value,e=.returned (.agg #[.string r1,v1_])∧Kd.S k77 77 w' w.heap.size (fun _=>True) v1_ r2∧Below w.heap.size w w':=by
 have hu46:=Tryz.underlying46;have hu77:=Tryz.underlying77;have HR1:=am hr1;have HC1:=am hc1;clear hr1 hc1;have HB:=am (Below.refl w.heap.size w);unfold impl_plain.f at H;have H':=am H;clear H
 go_in
 go_wp2_with (first|((with_reducible refine gate_dst (N:=4) rfl ?_);refine bz 4 (cs:=#[.string (⟨#[]⟩:ByteArray),.slice none 0 0]) (t:=46) HB ?_;clear HB;intro gb23 hg w3 BK23 GW23 hb HB;clear hb hg)|((with_reducible refine gate_dst (N:=5) rfl ?_);refine bz 5 (cs:=#[.string (⟨#[]⟩:ByteArray),.slice none 0 0]) (t:=46) HB ?_;clear HB;intro gb25 hg w4 BK25 GW25 hb HB;have NB23_25:=na hg BK23;have NB25_23:=nc hg BK23;replace BK23:=bb BK23 hb;clear hb hg;have hnb5:=NB25_23.out;have hnc5:=NB23_25.out;have hcz6:=cf2 BK25))
 go_loopg [12] k (fun kq v12 w'=>∃ (x12_1:Int) (x29_1:List (S77)) (u438001:Value),v12=.int .i64 x12_1∧Aside0 (impl_plain.l0 kq l1 (l1.length:Int) x12_1 a0 x29_1=some (r1,r2))∧Aside0 (kq≤k)∧Aside0 (Kd.S k77 77 w' w.heap.size (fun _=>True) u438001 x29_1)∧Aside0 (w'.heap[gb23]? = some (.cells #[.string (⟨#[]⟩:ByteArray),(.slice none 0 0)] 46 (0,0)))∧Aside0 (w'.heap[gb25]? = some (.cells #[.string a0,u438001] 46 (0,0)))∧Aside0 (Below w.heap.size w w'))
 case atStart=>exact ⟨(0),(([]:List (S77))),(.slice none 0 0),fg,H',⟨Nat.le_refl _⟩,⟨by first|exact Kd.S_nil _ _ _ _ _|exact Kd.N_nil _ _ _ _ _|exact Kd.V_nil _ _ _ _ _|exact Kd.Q_nil _ _ _ _ _|exact Kd.R_nil _ _ _ _ _⟩,⟨ks BK23⟩,⟨kp BK25⟩,⟨bs HB⟩⟩
 case round =>
  clear H'
  try clear c1
  try clear hcz6
  try clear BK23
  try clear BK25
  obtain ⟨x12_1,x29_1,u438001,rfl,HA,HK1,HO_438001,BK23,BK25,HB⟩:=hrel
  cases gk with
  | zero=>exact absurd HA.out (by simp [impl_plain.l0])
  | succ k1 =>
   have H:=HA.out;clear HA;simp only [impl_plain.l0] at H
   revert H;refine id2 ?_ ?_
   ·intro c7b0 H
    revert H;refine id1 ?_
    intro c8b0 H
    revert H;refine id1 ?_
    intro c9b0 H;obtain ⟨y26,hy26⟩:∃ y_:List ByteArray,y_=(([rdOf ByteArray.empty l1 x12_1]:List ByteArray)):=⟨_,rfl⟩
    replace H:(if x29_1.length<5864062014805 then (impl_plain.l0 k1 l1 (l1.length:Int) (wrap64 (x12_1+1)) a0 (x29_1++[(⟨y26⟩:S77)])) else (none))=some (r1,r2):=ye hy26 H
    have Ny26:=am hy26;clear hy26
    revert H;refine ip1 ?_
    intro c10 H;have LMc10:=am c10;clear c10;obtain ⟨y28,hy28⟩:∃ y_:List (S77),y_=(x29_1++[(⟨y26⟩:S77)]):=⟨_,rfl⟩
    replace H:(impl_plain.l0 k1 l1 (l1.length:Int) (wrap64 (x12_1+1)) a0 y28)=some (r1,r2):=ye hy28 H
    have Ny28:=am hy28;clear hy28;have H':=am H;clear H;have p27:0≤(x12_1:Int):=oa;have q27:x12_1<(l1.length:Int):=oa;obtain ⟨ad27,e27,hx27_0⟩:=Kd.at_string HR1.out x12_1 p27 q27
    cases e27
    replace hx27_0:=cb HB hx27_0;replace p27:=eq_true p27;replace q27:=eq_true q27;have hnb11:=NB25_23.out;have hnc11:=NB23_25.out;have hcz12:=cf2 BK25
    go_wp2_with (first|((with_reducible refine gate_dst (N:=19) rfl ?_);refine rl Kd.string 9 (N:=19) (xs:=([rdOf ByteArray.empty l1 x12_1]:List ByteArray)) (inner:=[.string (rdOf ByteArray.empty l1 x12_1)]) ?hp ?_;(case hp=>exact (Reps.one (show Kd.M Kd.string _ _ _ (rdOf ByteArray.empty l1 x12_1) [.string (rdOf ByteArray.empty l1 x12_1)] from rfl) (Reps.none _ _)));intro v32 w13 ho14 hb hg_ hnew_;clear hg_ hnew_;(first|rw [← Ny26.out] at ho14|(simp only [Int.reduceToNat] at ho14;rw [← Ny26.out] at ho14));have n0_:=am (Kd.S_elder' (by (with_reducible repeat (first|apply Kd.S_alloc|apply Kd.S_drewN|apply Kd.S_drew));exact HO_438001.out) (Kd.R_base ho14) hb);have n1_:=am (Kd.R_lower ho14 (below_size (bs HB)));have n2_:=am (blk_below (ks BK23) hb);have n3_:=am (blk_below (ks BK25) hb);have n4_:=am (below_step (bs HB) hb);clear HO_438001;clear BK23;clear BK25;clear HB;have HO_438001:=n0_;have HO30:=n1_;have BK23:=n2_;have BK25:=n3_;have HB:=n4_;clear n0_ n1_ n2_ n3_ n4_;clear hb ho14;obtain ⟨Ao15,co15,eo15⟩:=Kd.R_slice HO30.out;subst eo15)|((with_reducible refine gate_builtin (b:=.append) (xs:=#[.tmp 17,.tmp 21]) rfl ?_);at_builtin;refine Kd.S_append k77 (w0:=w) w.heap.size rfl (.tmp 17) (.tmp 21) 44 77 (.agg #[(.slice none 0 0)]) 24 rfl Tryz.underlying44 info77 rfl (by decide) (by omega) u438001 x29_1 (⟨y26⟩:S77) [.slice Ao15 y26.length co15] (fun _=>True) (fun k_=>some k_=(.slice Ao15 y26.length co15:Value).ownBlock) rfl rfl ?aP (fun k_ hk_=>((Kd.R_mono (ok':=fun k_=>((fun _=>True)) k_∧some k_≠(u438001:Value).ownBlock) (Kd.R_apart' (HO30.out) (Kd.S_typed HO_438001.out) (by decide)) (fun k_ hk=>⟨trivial,hk.2⟩))).1 k_ hk_.symm) ?aF ?aO ?aB ?aS ?aL ?_;(case aP=>exact k77_mkM _ _ _ (⟨y26⟩:S77) (Kd.R_mono (Kd.R_tight rfl (Kd.R_mono (ok':=fun k_=>((fun _=>True)) k_∧some k_≠(u438001:Value).ownBlock) (Kd.R_apart' (HO30.out) (Kd.S_typed HO_438001.out) (by decide)) (fun k_ hk=>⟨trivial,hk.2⟩))) (fun _ h_=>h_)));(case aB=>exact (bs HB));(case aF=>exact (fun _ _=>trivial));(case aO=>exact (by (with_reducible repeat (first|apply Kd.S_alloc|apply Kd.S_drewN|apply Kd.S_drew));exact Kd.S_mono HO_438001.out (fun k_ hk=>⟨trivial,fun e_=>hk.2 e_⟩)));(case aS=>exact (below_size (bs HB)));(case aL=>have:=LMc10.out;omega);intro v33 w16 ho hb hg hat;rw [← Ny28.out] at ho;have n0_:=am (blk_grown (ks BK23) hg (Kd.S_ne HO_438001.out BK23.out (by decide)));have n1_:=am (blk_grown (ks BK25) hg (Kd.S_ne HO_438001.out BK25.out (by decide)));have n2_:=am (hb);have n3_:=am (ho);clear BK23;clear BK25;clear HB;clear HO_438001;clear HO30;have BK23:=n0_;have BK25:=n1_;have HB:=n2_;have HO31:=n3_;clear n0_ n1_ n2_ n3_;clear ho hb hg hat;obtain ⟨Ao17,co17,eo17⟩:=Kd.S_slice HO31.out;subst eo17;have hcz18:=cf2 BK25))
    go_roundg k1
    case measure=>have:=HK1.out;omega
    case rel=>exact ⟨(wrap64 (x12_1+1)),(y28),(.slice Ao17 y28.length co17),fg,H',⟨by have:=HK1.out;omega⟩,⟨by (with_reducible repeat (first|apply Kd.S_alloc|apply Kd.S_drewN|apply Kd.S_drew));exact Kd.S_mono (Kd.S_far (p:=⟨gb25,1,none⟩) (Kd.S_types HO31.out BK25.out (by decide)) (fun _ hk=>hk.2) (.slice Ao17 y28.length co17)) (fun _ hk=>trivial)⟩,⟨ks BK23⟩,⟨kp BK25⟩,⟨bs HB⟩⟩
   ·intro c7b0 H;replace H:=sj2 H;obtain ⟨rfl,rfl⟩:=H;have hnb19:=NB25_23.out;have hnc19:=NB23_25.out;have hcz20:=cf2 BK25;have hcz21:=cf2 BK23;obtain ⟨Ao22,co22,eo22⟩:=Kd.S_slice HO_438001.out;subst eo22
    go_wp2
    refine bodyPost_ret (results_cell_row rfl _ _ gb23 46 #[.string a0,.slice Ao22 x29_1.length co22] (0,0) _ rfl (kp BK23) Tryz.underlying46 rfl (by kernel_rfl)) rfl ?_
    exact ⟨_,ff,by (with_reducible repeat (first|apply Kd.S_alloc|apply Kd.S_drewN|apply Kd.S_drew));exact Kd.S_mono (Kd.S_far (p:=⟨gb23,1,none⟩) (Kd.S_far (p:=⟨gb23,0,none⟩) (Kd.S_types HO_438001.out BK23.out (by decide)) (fun _ hk=>hk.2) (.string a0)) (fun _ hk=>hk.2) (.slice Ao22 x29_1.length co22)) (fun _ hk=>trivial),bs HB⟩
theorem impl_tableOf_1.calls (a0:ByteArray) (r1:ByteArray) (r2:Int) (r3:Int) (r4:ByteArray) (w:World) (H:impl_tableOf_1.f a0=some (r1,r2,r3,r4)) :
  Calls Tryz.prog 81 #[.string a0] w fun e w'=>e=.returned (.agg #[.string r1,.int .i64 r2,.int .i64 r3,.string r4])∧Below w.heap.size w w':=by
 have hu87:=Tryz.underlying87;have HB:=am (Below.refl w.heap.size w);unfold impl_tableOf_1.f at H;replace H:=sj4 H;obtain ⟨rfl,rfl,rfl,rfl⟩:=H
 go_in
 go_wp2_with (first|((with_reducible refine gate_dst (N:=2) rfl ?_);refine bz 2 (cs:=#[.string (⟨#[]⟩:ByteArray),.int .i64 0,.int .i64 0,.string (⟨#[]⟩:ByteArray)]) (t:=87) HB ?_;clear HB;intro gb5 hg w2 BK5 GW5 hb HB;clear hb hg;have hcz3:=cf4 BK5))
 refine bodyPost_ret (results_cell_row rfl _ _ gb5 87 #[.string (⟨#[68,79,67]⟩:ByteArray),.int .i64 1,.int .i64 1,.string a0] (0,0) _ rfl (kp BK5) Tryz.underlying87 rfl (by kernel_rfl)) rfl ?_
 exact ⟨ff,bs HB⟩
theorem impl_tableOf_2.calls (a0:ByteArray) (a1:ByteArray) (r1:ByteArray) (r2:Int) (r3:Int) (r4:ByteArray) (w:World) (H:impl_tableOf_2.f a0 a1=some (r1,r2,r3,r4)) :
  Calls Tryz.prog 82 #[.string a0,.string a1] w fun e w'=>e=.returned (.agg #[.string r1,.int .i64 r2,.int .i64 r3,.string r4])∧Below w.heap.size w w':=by
 have hu87:=Tryz.underlying87;have HB:=am (Below.refl w.heap.size w);unfold impl_tableOf_2.f at H;replace H:=sj4 H;obtain ⟨rfl,rfl,rfl,rfl⟩:=H
 go_in
 go_wp2_with (first|((with_reducible refine gate_dst (N:=4) rfl ?_);refine bz 4 (cs:=#[.string (⟨#[]⟩:ByteArray),.int .i64 0,.int .i64 0,.string (⟨#[]⟩:ByteArray)]) (t:=87) HB ?_;clear HB;intro gb5 hg w3 BK5 GW5 hb HB;clear hb hg;have hcz4:=cf4 BK5))
 refine bodyPost_ret (results_cell_row rfl _ _ gb5 87 #[.string a0,.int .i64 1,.int .i64 20,.string a1] (0,0) _ rfl (kp BK5) Tryz.underlying87 rfl (by kernel_rfl)) rfl ?_
 exact ⟨ff,bs HB⟩
theorem impl_tableOf.calls (k:Nat) (a0:Int) (r:List (S87)) (w:World) (H:impl_tableOf.f k a0=some r) :
  Calls Tryz.prog 62 #[.int .i64 a0] w fun e w'=>∃ v0_:Value,e=.returned (v0_)∧Kd.R k87 87 w' w.heap.size (fun _=>True) v0_ r∧Below w.heap.size w w':=by
 have hu87:=Tryz.underlying87;have HB:=am (Below.refl w.heap.size w);unfold impl_tableOf.f at H
 revert H;refine ie2 ?_ ?_
 ·intro c2b0 c2b1 H;replace H:=bo H;obtain ⟨⟨t58,t59,t60,t61⟩,A3,H⟩:=H;(try dsimp only at H);replace H:=bo H;obtain ⟨⟨t66,t68,t69,t70⟩,A4,H⟩:=H;(try dsimp only at H);obtain ⟨y52,hy52⟩:∃ y_:List (S87),y_=(([(⟨t58,t59,t60,t61⟩:S87),(⟨(⟨#[78,79,84]⟩:ByteArray),0,2,(⟨#[116]⟩:ByteArray)⟩:S87),(⟨t66,t68,t69,t70⟩:S87)]:List (S87))):=⟨_,rfl⟩
  replace H:(some y52)=some r:=ye hy52 H
  have Ny52:=am hy52;clear hy52;obtain rfl:=si H
  go_in
  try go_wp2_with (first|((with_reducible refine gate_dst (N:=4) rfl ?_);refine bz 4 (cs:=#[.string (⟨#[]⟩:ByteArray),.int .i64 0,.int .i64 0,.string (⟨#[]⟩:ByteArray)]) (t:=87) HB ?_;clear HB;intro gb17 hg w5 BK17 GW17 hb HB;clear hb hg;have hcz6:=cf4 BK17))
  have n0_:Aside0 (((((w5.setCell ⟨gb17,0,none⟩ (.string (⟨#[78,79,84]⟩:ByteArray))).setCell ⟨gb17,1,none⟩ (.int .i64 0)).setCell ⟨gb17,2,none⟩ (.int .i64 2)).setCell ⟨gb17,3,none⟩ (.string (⟨#[116]⟩:ByteArray))).heap[gb17]? = some (.cells #[.string (⟨#[78,79,84]⟩:ByteArray),.int .i64 0,.int .i64 2,.string (⟨#[116]⟩:ByteArray)] 87 (0,0))):=⟨kp BK17⟩;have n1_:Aside0 (Below w.heap.size w ((((w5.setCell ⟨gb17,0,none⟩ (.string (⟨#[78,79,84]⟩:ByteArray))).setCell ⟨gb17,1,none⟩ (.int .i64 0)).setCell ⟨gb17,2,none⟩ (.int .i64 2)).setCell ⟨gb17,3,none⟩ (.string (⟨#[116]⟩:ByteArray)))):=⟨bs HB⟩;(try clear BK17);(try clear HB)
  generalize ((((w5.setCell ⟨gb17,0,none⟩ (.string (⟨#[78,79,84]⟩:ByteArray))).setCell ⟨gb17,1,none⟩ (.int .i64 0)).setCell ⟨gb17,2,none⟩ (.int .i64 2)).setCell ⟨gb17,3,none⟩ (.string (⟨#[116]⟩:ByteArray)))=w7 at n0_ n1_ ⊢
  have BK17:=n0_;have HB:=n1_;clear n0_ n1_;replace BK17:=am (blk_drew BK17.out);replace HB:=am (below_drew1 HB.out);refine sta 7 (hb4 BK17) (fun hHeld=>?_)
  generalize w7.drew=w8 at BK17 HB hHeld ⊢
  refine pure_ (i:=0) (N:=some 10) (v:=?_) (a':=?_) #[true,false,false,false,false,false,false] rfl rfl (by kernel_rfl) (fun _ _ _ h=>h) (Or.inl ⟨by rfl,?_⟩) ?_ ?_
  rotate_left
  ·intro w'
   go_simp
   (with_reducible rfl)
  rotate_left
  ·simp only [Act.put,List.setIfInBounds_toArray,List.set_cons_zero,List.set_cons_succ,i64_w,i32_w]
   rfl
  refine pure_ (i:=3) (N:=some 13) (v:=?_) (a':=?_) #[true,false,false,true,false,false,false] rfl rfl (by kernel_rfl) (fun _ _ _ h=>h) (Or.inl ⟨by rfl,?_⟩) ?_ ?_
  rotate_left
  ·intro w'
   go_simp
   (with_reducible rfl)
  rotate_left
  ·simp only [Act.put,List.setIfInBounds_toArray,List.set_cons_zero,List.set_cons_succ,i64_w,i32_w]
   rfl
  refine take_ (i:=2) (N:=some 12) (v:=?_) (a':=?_) #[true,false,true,true,false,false,false] rfl rfl (by kernel_rfl) (fun _ _ _ h=>h) (Or.inl ⟨by rfl,?_⟩) hHeld ?_ ?_
  rotate_left
  ·rintro w' ⟨s0,s1,s2,s3⟩
   go_simp
   (with_reducible rfl)
  rotate_left
  ·simp only [Act.put,List.setIfInBounds_toArray,List.set_cons_zero,List.set_cons_succ,i64_w,i32_w]
   rfl
  refine one_ (i:=1) (N:=some 11) #[true,true,true,true,false,false,false] rfl rfl (by kernel_rfl) (by decide) (fun K hK=>?_);refine goesV_ Tryz.func81 (by kernel_rfl) rfl #[.string (⟨#[114,100]⟩:ByteArray)] (by rfl) rfl rfl (by rfl) (by (try simp only [List.map_toArray,List.map_cons,List.map_nil]);first|done|rfl|(simp only [List.length_drop,List.length_take];rfl)) ?_;(with_reducible refine (impl_tableOf_1.calls (⟨#[114,100]⟩:ByteArray) t58 t59 t60 t61 _ A3.out).mono ?_);rintro e w9 ⟨rfl,hb⟩;refine ⟨_,rfl,?_⟩;replace BK17:=am (blk_below (g:=gb17) (o:=.cells #[.string (⟨#[78,79,84]⟩:ByteArray),.int .i64 0,.int .i64 2,.string (⟨#[116]⟩:ByteArray)] 87 (0,0)) (ks BK17) hb);replace HB:=bq HB hb;(try clear hb);(try clear hb2);(try clear hk);(try clear hi);refine hK.out _ _ (hb4 BK17).out (fun hHeld=>?_);clear hK K;refine nA 11 ?_;refine one_ (i:=4) (N:=some 14) #[true,true,true,true,true,false,false] rfl rfl (by kernel_rfl) (by decide) (fun K hK=>?_);refine goesV_ Tryz.func82 (by kernel_rfl) rfl #[.string (⟨#[76,73,78]⟩:ByteArray),.string (⟨#[110,114,113,63,110]⟩:ByteArray)] (by rfl) rfl rfl (by rfl) (by (try simp only [List.map_toArray,List.map_cons,List.map_nil]);first|done|rfl|(simp only [List.length_drop,List.length_take];rfl)) ?_;(with_reducible refine (impl_tableOf_2.calls (⟨#[76,73,78]⟩:ByteArray) (⟨#[110,114,113,63,110]⟩:ByteArray) t66 t68 t69 t70 _ A4.out).mono ?_);rintro e w10 ⟨rfl,hb⟩;refine ⟨_,rfl,?_⟩;replace BK17:=am (blk_below (g:=gb17) (o:=.cells #[.string (⟨#[78,79,84]⟩:ByteArray),.int .i64 0,.int .i64 2,.string (⟨#[116]⟩:ByteArray)] 87 (0,0)) (ks BK17) hb);replace HB:=bq HB hb;(try clear hb);(try clear hb2);(try clear hk);(try clear hi);refine hK.out _ _ (hb4 BK17).out (fun hHeld=>?_);clear hK K;refine nA 14 ?_;refine one_ (i:=5) (N:=some 15) #[true,true,true,true,true,true,false] rfl rfl (by kernel_rfl) (by decide) (fun K hK=>?_);refine Kd.R_lit_step k87 _ 87 ?hg (N:=15) ?hd (xs:=([(⟨t58,t59,t60,t61⟩:S87),(⟨(⟨#[78,79,84]⟩:ByteArray),0,2,(⟨#[116]⟩:ByteArray)⟩:S87),(⟨t66,t68,t69,t70⟩:S87)]:List (S87))) (inner:=[.string t58,.int .i64 t59,.int .i64 t60,.string t61,.string (⟨#[78,79,84]⟩:ByteArray),.int .i64 0,.int .i64 2,.string (⟨#[116]⟩:ByteArray),.string t66,.int .i64 t68,.int .i64 t69,.string t70]) (ok:=fun _=>True) (okp:=fun _=>True) ?hr ?hp (fun _ hk=>hk) trivial (Below.refl _ _) (Nat.le_refl _) (by simp) ?_;(case hd=>rfl);(case hg=>rfl);(case hr=>first|(go_simp;done)|(go_simp;rfl));(case hp=>exact (Reps.c4 (show Kd.M k87 _ _ _ (⟨t58,t59,t60,t61⟩:S87) [.string t58,.int .i64 t59,.int .i64 t60,.string t61] from (k87_mkM _ _ _ (⟨t58,t59,t60,t61⟩:S87) )) (Reps.c4 (show Kd.M k87 _ _ _ (⟨(⟨#[78,79,84]⟩:ByteArray),0,2,(⟨#[116]⟩:ByteArray)⟩:S87) [.string (⟨#[78,79,84]⟩:ByteArray),.int .i64 0,.int .i64 2,.string (⟨#[116]⟩:ByteArray)] from (k87_mkM _ _ _ (⟨(⟨#[78,79,84]⟩:ByteArray),0,2,(⟨#[116]⟩:ByteArray)⟩:S87) )) (Reps.c4 (show Kd.M k87 _ _ _ (⟨t66,t68,t69,t70⟩:S87) [.string t66,.int .i64 t68,.int .i64 t69,.string t70] from (k87_mkM _ _ _ (⟨t66,t68,t69,t70⟩:S87) )) (Reps.none _ _)))));intro v457 w11 ho12 hb hg_ hnew_;clear hg_ hnew_
  (first|rw [← Ny52.out] at ho12|(simp only [Int.reduceToNat] at ho12;rw [← Ny52.out] at ho12))
  have HO458:=am (Kd.R_lower (Kd.R_newB ho12 (g:=gb17) (o:=.cells #[.string (⟨#[78,79,84]⟩:ByteArray),.int .i64 0,.int .i64 2,.string (⟨#[116]⟩:ByteArray)] 87 (0,0)) (ks BK17)) (below_size (bs HB)));replace BK17:=am (blk_below (g:=gb17) (o:=.cells #[.string (⟨#[78,79,84]⟩:ByteArray),.int .i64 0,.int .i64 2,.string (⟨#[116]⟩:ByteArray)] 87 (0,0)) (ks BK17) hb);replace HB:=bq HB hb;clear hb ho12;refine hK.out _ _ (hb4 BK17).out (fun hHeld=>?_);clear hK K;refine nA 15 ?_;refine pure_ (i:=6) (N:=some 2) (v:=?_) (a':=?_) #[true,true,true,true,true,true,true] rfl rfl (by kernel_rfl) (fun _ _ _ h=>h) (Or.inl ⟨by rfl,?_⟩) ?_ ?_
  rotate_left
  ·intro w'
   go_simp
   (with_reducible rfl)
  rotate_left
  ·simp only [Act.put,List.setIfInBounds_toArray,List.set_cons_zero,List.set_cons_succ,i64_w,i32_w]
   rfl
  refine done_ (by kernel_rfl) ?_
  try go_wp2
  go_ret
  exact ⟨_,ff,by (with_reducible repeat (first|apply Kd.R_alloc|apply Kd.R_drewN|apply Kd.R_drew));exact Kd.R_mono HO458.out (fun _ hk=>trivial),bs HB⟩
 ·intro c2 c2b0 c2b1 H;have HC13:=am H;clear H
  go_in
  go_upto_if 16 with (first|((with_reducible refine gate_dst (N:=4) rfl ?_);refine bz 4 (cs:=#[.string (⟨#[]⟩:ByteArray),.int .i64 0,.int .i64 0,.string (⟨#[]⟩:ByteArray)]) (t:=87) HB ?_;clear HB;intro gb17 hg w14 BK17 GW17 hb HB;clear hb hg;have hcz15:=cf4 BK17))
  (try simp only [Act.put,List.setIfInBounds_toArray,List.set_cons_zero,List.set_cons_succ])
  go_cut [16] (fun v16 wc=>∃ (kq:Nat) (x16_12:Bool),v16=.bool x16_12∧Aside0 (impl_tableOf.j0 kq a0 x16_12 (⟨#[78,79,84]⟩:ByteArray) 0 2 (⟨#[116]⟩:ByteArray)=some r)∧Aside0 (kq≤k)∧Aside0 (wc.heap[gb17]? = some (.cells #[.string (⟨#[78,79,84]⟩:ByteArray),.int .i64 0,.int .i64 2,.string (⟨#[116]⟩:ByteArray)] 87 (0,0)))∧Aside0 (Below w.heap.size w wc))
  case first =>
   have H:=HC13.out;clear HC13
   revert H;refine ie2 ?_ ?_
   ·intro c16b0 c16b1 H
    (first|rw [c16b0]|(simp only [i64_w,i32_w];rw [c16b0])|rw [c16b1]|skip)
    have H':=am H;clear H
    go_wp2
    go_meet
    case rel=>exact ⟨_,((a0 == 2)),fg,H',⟨fl⟩,⟨kp BK17⟩,⟨bs HB⟩⟩
   ·intro c16 c16b0 c16b1 H
    (first|rw [c16b0]|(simp only [i64_w,i32_w];rw [c16b0])|rw [c16b1]|skip)
    have H':=am H;clear H
    go_wp2
    go_meet
    case rel=>exact ⟨_,((a0 == 4)),fg,H',⟨fl⟩,⟨kp BK17⟩,⟨bs HB⟩⟩
  case rest =>
   clear HC13
   try clear c2
   try clear c2b0
   try clear c2b1
   try clear hcz15
   obtain ⟨kq,x16_12,rfl,HA,HJ12,BK17,HB⟩:=hcut
   cases kq with
   | zero=>exact absurd HA.out (by simp [impl_tableOf.j0])
   | succ kj12 =>
    have H:=HA.out;clear HA;simp only [impl_tableOf.j0] at H
    obtain rfl|rfl:=bt x16_12
    ·replace H:=itT H;replace H:=bo H;obtain ⟨⟨t71,t72,t74,t80⟩,A18,H⟩:=H;(try dsimp only at H);replace H:=bo H;obtain ⟨⟨t83,t85,t86,t88⟩,A19,H⟩:=H;(try dsimp only at H);obtain ⟨y53,hy53⟩:∃ y_:List (S87),y_=(([(⟨t71,t72,t74,t80⟩:S87),(⟨t83,t85,t86,t88⟩:S87)]:List (S87))):=⟨_,rfl⟩
     replace H:(some y53)=some r:=ye hy53 H
     have Ny53:=am hy53;clear hy53;obtain rfl:=si H
     go_wp2_with (first|(go_at_call 81;(with_reducible refine (impl_tableOf_1.calls (⟨#[114,114,100]⟩:ByteArray) t71 t72 t74 t80 _ A18.out).mono ?_);rintro e w20 ⟨rfl,hb⟩;replace BK17:=am (blk_below (g:=gb17) (o:=.cells #[.string (⟨#[78,79,84]⟩:ByteArray),.int .i64 0,.int .i64 2,.string (⟨#[116]⟩:ByteArray)] 87 (0,0)) (ks BK17) hb);replace HB:=bq HB hb;(try clear hb);(try clear hb2);(try clear hk);(try clear hi))|(go_at_call 82;(with_reducible refine (impl_tableOf_2.calls (⟨#[76,73,78]⟩:ByteArray) (⟨#[110,113,63,116]⟩:ByteArray) t83 t85 t86 t88 _ A19.out).mono ?_);rintro e w21 ⟨rfl,hb⟩;replace BK17:=am (blk_below (g:=gb17) (o:=.cells #[.string (⟨#[78,79,84]⟩:ByteArray),.int .i64 0,.int .i64 2,.string (⟨#[116]⟩:ByteArray)] 87 (0,0)) (ks BK17) hb);replace HB:=bq HB hb;(try clear hb);(try clear hb2);(try clear hk);(try clear hi))|((with_reducible refine gate_dst (N:=23) rfl ?_);refine rl k87 87 (N:=23) (xs:=([(⟨t71,t72,t74,t80⟩:S87),(⟨t83,t85,t86,t88⟩:S87)]:List (S87))) (inner:=[.string t71,.int .i64 t72,.int .i64 t74,.string t80,.string t83,.int .i64 t85,.int .i64 t86,.string t88]) ?hp ?_;(case hp=>exact (Reps.c4 (show Kd.M k87 _ _ _ (⟨t71,t72,t74,t80⟩:S87) [.string t71,.int .i64 t72,.int .i64 t74,.string t80] from (k87_mkM _ _ _ (⟨t71,t72,t74,t80⟩:S87) )) (Reps.c4 (show Kd.M k87 _ _ _ (⟨t83,t85,t86,t88⟩:S87) [.string t83,.int .i64 t85,.int .i64 t86,.string t88] from (k87_mkM _ _ _ (⟨t83,t85,t86,t88⟩:S87) )) (Reps.none _ _))));intro v468 w22 ho23 hb hg_ hnew_;clear hg_ hnew_;(first|rw [← Ny53.out] at ho23|(simp only [Int.reduceToNat] at ho23;rw [← Ny53.out] at ho23));have HO469:=am (Kd.R_lower (Kd.R_newB ho23 (g:=gb17) (o:=.cells #[.string (⟨#[78,79,84]⟩:ByteArray),.int .i64 0,.int .i64 2,.string (⟨#[116]⟩:ByteArray)] 87 (0,0)) (ks BK17)) (below_size (bs HB)));replace BK17:=am (blk_below (g:=gb17) (o:=.cells #[.string (⟨#[78,79,84]⟩:ByteArray),.int .i64 0,.int .i64 2,.string (⟨#[116]⟩:ByteArray)] 87 (0,0)) (ks BK17) hb);replace HB:=bq HB hb;clear hb ho23))
     go_ret
     exact ⟨_,ff,by (with_reducible repeat (first|apply Kd.R_alloc|apply Kd.R_drewN|apply Kd.R_drew));exact Kd.R_mono HO469.out (fun _ hk=>trivial),bs HB⟩
    ·replace H:=itF H
     revert H;refine ie2 ?_ ?_
     ·intro c24b0 c24b1 H;replace H:=bo H;obtain ⟨⟨t89,t90,t91,t92⟩,A25,H⟩:=H;(try dsimp only at H);replace H:=bo H;obtain ⟨⟨t93,t94,t95,t96⟩,A26,H⟩:=H;(try dsimp only at H);obtain ⟨y54,hy54⟩:∃ y_:List (S87),y_=(([(⟨t89,t90,t91,t92⟩:S87),(⟨(⟨#[78,79,84]⟩:ByteArray),0,2,(⟨#[116]⟩:ByteArray)⟩:S87),(⟨t93,t94,t95,t96⟩:S87)]:List (S87))):=⟨_,rfl⟩
      replace H:(some y54)=some r:=ye hy54 H
      have Ny54:=am hy54;clear hy54;obtain rfl:=si H
      try go_wp2
      replace BK17:=am (blk_drew BK17.out);replace HB:=am (below_drew1 HB.out);refine sta 7 (hb4 BK17) (fun hHeld=>?_)
      generalize wc.drew=w27 at BK17 HB hHeld ⊢
      refine pure_ (i:=0) (N:=some 26) (v:=?_) (a':=?_) #[true,false,false,false,false,false,false] rfl rfl (by kernel_rfl) (fun _ _ _ h=>h) (Or.inl ⟨by rfl,?_⟩) ?_ ?_
      rotate_left
      ·intro w'
       go_simp
       (with_reducible rfl)
      rotate_left
      ·simp only [Act.put,List.setIfInBounds_toArray,List.set_cons_zero,List.set_cons_succ,i64_w,i32_w]
       rfl
      refine pure_ (i:=3) (N:=some 29) (v:=?_) (a':=?_) #[true,false,false,true,false,false,false] rfl rfl (by kernel_rfl) (fun _ _ _ h=>h) (Or.inl ⟨by rfl,?_⟩) ?_ ?_
      rotate_left
      ·intro w'
       go_simp
       (with_reducible rfl)
      rotate_left
      ·simp only [Act.put,List.setIfInBounds_toArray,List.set_cons_zero,List.set_cons_succ,i64_w,i32_w]
       rfl
      refine take_ (i:=2) (N:=some 28) (v:=?_) (a':=?_) #[true,false,true,true,false,false,false] rfl rfl (by kernel_rfl) (fun _ _ _ h=>h) (Or.inl ⟨by rfl,?_⟩) hHeld ?_ ?_
      rotate_left
      ·rintro w' ⟨s0,s1,s2,s3⟩
       go_simp
       (with_reducible rfl)
      rotate_left
      ·simp only [Act.put,List.setIfInBounds_toArray,List.set_cons_zero,List.set_cons_succ,i64_w,i32_w]
       rfl
      refine one_ (i:=1) (N:=some 27) #[true,true,true,true,false,false,false] rfl rfl (by kernel_rfl) (by decide) (fun K hK=>?_);refine goesV_ Tryz.func81 (by kernel_rfl) rfl #[.string (⟨#[114,114,100]⟩:ByteArray)] (by rfl) rfl rfl (by rfl) (by (try simp only [List.map_toArray,List.map_cons,List.map_nil]);first|done|rfl|(simp only [List.length_drop,List.length_take];rfl)) ?_;(with_reducible refine (impl_tableOf_1.calls (⟨#[114,114,100]⟩:ByteArray) t89 t90 t91 t92 _ A25.out).mono ?_);rintro e w28 ⟨rfl,hb⟩;refine ⟨_,rfl,?_⟩;replace BK17:=am (blk_below (g:=gb17) (o:=.cells #[.string (⟨#[78,79,84]⟩:ByteArray),.int .i64 0,.int .i64 2,.string (⟨#[116]⟩:ByteArray)] 87 (0,0)) (ks BK17) hb);replace HB:=bq HB hb;(try clear hb);(try clear hb2);(try clear hk);(try clear hi);refine hK.out _ _ (hb4 BK17).out (fun hHeld=>?_);clear hK K;refine nA 27 ?_;refine one_ (i:=4) (N:=some 30) #[true,true,true,true,true,false,false] rfl rfl (by kernel_rfl) (by decide) (fun K hK=>?_);refine goesV_ Tryz.func82 (by kernel_rfl) rfl #[.string (⟨#[76,73,78]⟩:ByteArray),.string (⟨#[110,113]⟩:ByteArray)] (by rfl) rfl rfl (by rfl) (by (try simp only [List.map_toArray,List.map_cons,List.map_nil]);first|done|rfl|(simp only [List.length_drop,List.length_take];rfl)) ?_;(with_reducible refine (impl_tableOf_2.calls (⟨#[76,73,78]⟩:ByteArray) (⟨#[110,113]⟩:ByteArray) t93 t94 t95 t96 _ A26.out).mono ?_);rintro e w29 ⟨rfl,hb⟩;refine ⟨_,rfl,?_⟩;replace BK17:=am (blk_below (g:=gb17) (o:=.cells #[.string (⟨#[78,79,84]⟩:ByteArray),.int .i64 0,.int .i64 2,.string (⟨#[116]⟩:ByteArray)] 87 (0,0)) (ks BK17) hb);replace HB:=bq HB hb;(try clear hb);(try clear hb2);(try clear hk);(try clear hi);refine hK.out _ _ (hb4 BK17).out (fun hHeld=>?_);clear hK K;refine nA 30 ?_;refine one_ (i:=5) (N:=some 31) #[true,true,true,true,true,true,false] rfl rfl (by kernel_rfl) (by decide) (fun K hK=>?_);refine Kd.R_lit_step k87 _ 87 ?hg (N:=31) ?hd (xs:=([(⟨t89,t90,t91,t92⟩:S87),(⟨(⟨#[78,79,84]⟩:ByteArray),0,2,(⟨#[116]⟩:ByteArray)⟩:S87),(⟨t93,t94,t95,t96⟩:S87)]:List (S87))) (inner:=[.string t89,.int .i64 t90,.int .i64 t91,.string t92,.string (⟨#[78,79,84]⟩:ByteArray),.int .i64 0,.int .i64 2,.string (⟨#[116]⟩:ByteArray),.string t93,.int .i64 t94,.int .i64 t95,.string t96]) (ok:=fun _=>True) (okp:=fun _=>True) ?hr ?hp (fun _ hk=>hk) trivial (Below.refl _ _) (Nat.le_refl _) (by simp) ?_;(case hd=>rfl);(case hg=>rfl);(case hr=>first|(go_simp;done)|(go_simp;rfl));(case hp=>exact (Reps.c4 (show Kd.M k87 _ _ _ (⟨t89,t90,t91,t92⟩:S87) [.string t89,.int .i64 t90,.int .i64 t91,.string t92] from (k87_mkM _ _ _ (⟨t89,t90,t91,t92⟩:S87) )) (Reps.c4 (show Kd.M k87 _ _ _ (⟨(⟨#[78,79,84]⟩:ByteArray),0,2,(⟨#[116]⟩:ByteArray)⟩:S87) [.string (⟨#[78,79,84]⟩:ByteArray),.int .i64 0,.int .i64 2,.string (⟨#[116]⟩:ByteArray)] from (k87_mkM _ _ _ (⟨(⟨#[78,79,84]⟩:ByteArray),0,2,(⟨#[116]⟩:ByteArray)⟩:S87) )) (Reps.c4 (show Kd.M k87 _ _ _ (⟨t93,t94,t95,t96⟩:S87) [.string t93,.int .i64 t94,.int .i64 t95,.string t96] from (k87_mkM _ _ _ (⟨t93,t94,t95,t96⟩:S87) )) (Reps.none _ _)))));intro v479 w30 ho31 hb hg_ hnew_;clear hg_ hnew_
      (first|rw [← Ny54.out] at ho31|(simp only [Int.reduceToNat] at ho31;rw [← Ny54.out] at ho31))
      have HO480:=am (Kd.R_lower (Kd.R_newB ho31 (g:=gb17) (o:=.cells #[.string (⟨#[78,79,84]⟩:ByteArray),.int .i64 0,.int .i64 2,.string (⟨#[116]⟩:ByteArray)] 87 (0,0)) (ks BK17)) (below_size (bs HB)));replace BK17:=am (blk_below (g:=gb17) (o:=.cells #[.string (⟨#[78,79,84]⟩:ByteArray),.int .i64 0,.int .i64 2,.string (⟨#[116]⟩:ByteArray)] 87 (0,0)) (ks BK17) hb);replace HB:=bq HB hb;clear hb ho31;refine hK.out _ _ (hb4 BK17).out (fun hHeld=>?_);clear hK K;refine nA 31 ?_;refine pure_ (i:=6) (N:=some 2) (v:=?_) (a':=?_) #[true,true,true,true,true,true,true] rfl rfl (by kernel_rfl) (fun _ _ _ h=>h) (Or.inl ⟨by rfl,?_⟩) ?_ ?_
      rotate_left
      ·intro w'
       go_simp
       (with_reducible rfl)
      rotate_left
      ·simp only [Act.put,List.setIfInBounds_toArray,List.set_cons_zero,List.set_cons_succ,i64_w,i32_w]
       rfl
      refine done_ (by kernel_rfl) ?_
      try go_wp2
      go_ret
      exact ⟨_,ff,by (with_reducible repeat (first|apply Kd.R_alloc|apply Kd.R_drewN|apply Kd.R_drew));exact Kd.R_mono HO480.out (fun _ hk=>trivial),bs HB⟩
     ·intro c24 c24b0 c24b1 H
      revert H;refine ie2 ?_ ?_
      ·intro c32b0 c32b1 H;replace H:=bo H;obtain ⟨⟨t97,t98,t99,t484⟩,A33,H⟩:=H;(try dsimp only at H);replace H:=bo H;obtain ⟨⟨t485,t486,t487,t488⟩,A34,H⟩:=H;(try dsimp only at H);obtain ⟨y55,hy55⟩:∃ y_:List (S87),y_=(([(⟨t97,t98,t99,t484⟩:S87),(⟨t485,t486,t487,t488⟩:S87)]:List (S87))):=⟨_,rfl⟩
       replace H:(some y55)=some r:=ye hy55 H
       have Ny55:=am hy55;clear hy55;obtain rfl:=si H
       go_wp2_with (first|(go_at_call 81;(with_reducible refine (impl_tableOf_1.calls (⟨#[114,100]⟩:ByteArray) t97 t98 t99 t484 _ A33.out).mono ?_);rintro e w35 ⟨rfl,hb⟩;replace BK17:=am (blk_below (g:=gb17) (o:=.cells #[.string (⟨#[78,79,84]⟩:ByteArray),.int .i64 0,.int .i64 2,.string (⟨#[116]⟩:ByteArray)] 87 (0,0)) (ks BK17) hb);replace HB:=bq HB hb;(try clear hb);(try clear hb2);(try clear hk);(try clear hi))|(go_at_call 82;(with_reducible refine (impl_tableOf_2.calls (⟨#[73,84,77]⟩:ByteArray) (⟨#[114,110]⟩:ByteArray) t485 t486 t487 t488 _ A34.out).mono ?_);rintro e w36 ⟨rfl,hb⟩;replace BK17:=am (blk_below (g:=gb17) (o:=.cells #[.string (⟨#[78,79,84]⟩:ByteArray),.int .i64 0,.int .i64 2,.string (⟨#[116]⟩:ByteArray)] 87 (0,0)) (ks BK17) hb);replace HB:=bq HB hb;(try clear hb);(try clear hb2);(try clear hk);(try clear hi))|((with_reducible refine gate_dst (N:=38) rfl ?_);refine rl k87 87 (N:=38) (xs:=([(⟨t97,t98,t99,t484⟩:S87),(⟨t485,t486,t487,t488⟩:S87)]:List (S87))) (inner:=[.string t97,.int .i64 t98,.int .i64 t99,.string t484,.string t485,.int .i64 t486,.int .i64 t487,.string t488]) ?hp ?_;(case hp=>exact (Reps.c4 (show Kd.M k87 _ _ _ (⟨t97,t98,t99,t484⟩:S87) [.string t97,.int .i64 t98,.int .i64 t99,.string t484] from (k87_mkM _ _ _ (⟨t97,t98,t99,t484⟩:S87) )) (Reps.c4 (show Kd.M k87 _ _ _ (⟨t485,t486,t487,t488⟩:S87) [.string t485,.int .i64 t486,.int .i64 t487,.string t488] from (k87_mkM _ _ _ (⟨t485,t486,t487,t488⟩:S87) )) (Reps.none _ _))));intro v490 w37 ho38 hb hg_ hnew_;clear hg_ hnew_;(first|rw [← Ny55.out] at ho38|(simp only [Int.reduceToNat] at ho38;rw [← Ny55.out] at ho38));have HO491:=am (Kd.R_lower (Kd.R_newB ho38 (g:=gb17) (o:=.cells #[.string (⟨#[78,79,84]⟩:ByteArray),.int .i64 0,.int .i64 2,.string (⟨#[116]⟩:ByteArray)] 87 (0,0)) (ks BK17)) (below_size (bs HB)));replace BK17:=am (blk_below (g:=gb17) (o:=.cells #[.string (⟨#[78,79,84]⟩:ByteArray),.int .i64 0,.int .i64 2,.string (⟨#[116]⟩:ByteArray)] 87 (0,0)) (ks BK17) hb);replace HB:=bq HB hb;clear hb ho38))
       go_ret
       exact ⟨_,ff,by (with_reducible repeat (first|apply Kd.R_alloc|apply Kd.R_drewN|apply Kd.R_drew));exact Kd.R_mono HO491.out (fun _ hk=>trivial),bs HB⟩
      ·intro c32 c32b0 c32b1 H
       revert H;refine ie2 ?_ ?_
       ·intro c39b0 c39b1 H;replace H:=bo H;obtain ⟨⟨t492,t493,t494,t495⟩,A40,H⟩:=H;(try dsimp only at H);replace H:=bo H;obtain ⟨⟨t496,t497,t498,t499⟩,A41,H⟩:=H;(try dsimp only at H);obtain ⟨y56,hy56⟩:∃ y_:List (S87),y_=(([(⟨t492,t493,t494,t495⟩:S87),(⟨t496,t497,t498,t499⟩:S87)]:List (S87))):=⟨_,rfl⟩
        replace H:(some y56)=some r:=ye hy56 H
        have Ny56:=am hy56;clear hy56;obtain rfl:=si H
        go_wp2_with (first|(go_at_call 81;(with_reducible refine (impl_tableOf_1.calls (⟨#[114,100]⟩:ByteArray) t492 t493 t494 t495 _ A40.out).mono ?_);rintro e w42 ⟨rfl,hb⟩;replace BK17:=am (blk_below (g:=gb17) (o:=.cells #[.string (⟨#[78,79,84]⟩:ByteArray),.int .i64 0,.int .i64 2,.string (⟨#[116]⟩:ByteArray)] 87 (0,0)) (ks BK17) hb);replace HB:=bq HB hb;(try clear hb);(try clear hb2);(try clear hk);(try clear hi))|(go_at_call 82;(with_reducible refine (impl_tableOf_2.calls (⟨#[73,84,77]⟩:ByteArray) (⟨#[114,122,63,116]⟩:ByteArray) t496 t497 t498 t499 _ A41.out).mono ?_);rintro e w43 ⟨rfl,hb⟩;replace BK17:=am (blk_below (g:=gb17) (o:=.cells #[.string (⟨#[78,79,84]⟩:ByteArray),.int .i64 0,.int .i64 2,.string (⟨#[116]⟩:ByteArray)] 87 (0,0)) (ks BK17) hb);replace HB:=bq HB hb;(try clear hb);(try clear hb2);(try clear hk);(try clear hi))|((with_reducible refine gate_dst (N:=45) rfl ?_);refine rl k87 87 (N:=45) (xs:=([(⟨t492,t493,t494,t495⟩:S87),(⟨t496,t497,t498,t499⟩:S87)]:List (S87))) (inner:=[.string t492,.int .i64 t493,.int .i64 t494,.string t495,.string t496,.int .i64 t497,.int .i64 t498,.string t499]) ?hp ?_;(case hp=>exact (Reps.c4 (show Kd.M k87 _ _ _ (⟨t492,t493,t494,t495⟩:S87) [.string t492,.int .i64 t493,.int .i64 t494,.string t495] from (k87_mkM _ _ _ (⟨t492,t493,t494,t495⟩:S87) )) (Reps.c4 (show Kd.M k87 _ _ _ (⟨t496,t497,t498,t499⟩:S87) [.string t496,.int .i64 t497,.int .i64 t498,.string t499] from (k87_mkM _ _ _ (⟨t496,t497,t498,t499⟩:S87) )) (Reps.none _ _))));intro v501 w44 ho45 hb hg_ hnew_;clear hg_ hnew_;(first|rw [← Ny56.out] at ho45|(simp only [Int.reduceToNat] at ho45;rw [← Ny56.out] at ho45));have HO502:=am (Kd.R_lower (Kd.R_newB ho45 (g:=gb17) (o:=.cells #[.string (⟨#[78,79,84]⟩:ByteArray),.int .i64 0,.int .i64 2,.string (⟨#[116]⟩:ByteArray)] 87 (0,0)) (ks BK17)) (below_size (bs HB)));replace BK17:=am (blk_below (g:=gb17) (o:=.cells #[.string (⟨#[78,79,84]⟩:ByteArray),.int .i64 0,.int .i64 2,.string (⟨#[116]⟩:ByteArray)] 87 (0,0)) (ks BK17) hb);replace HB:=bq HB hb;clear hb ho45))
        go_ret
        exact ⟨_,ff,by (with_reducible repeat (first|apply Kd.R_alloc|apply Kd.R_drewN|apply Kd.R_drew));exact Kd.R_mono HO502.out (fun _ hk=>trivial),bs HB⟩
       ·intro c39 c39b0 c39b1 H
        revert H;refine ie2 ?_ ?_
        ·intro c46b0 c46b1 H;replace H:=bo H;obtain ⟨⟨t503,t504,t505,t506⟩,A47,H⟩:=H;(try dsimp only at H);obtain ⟨y57,hy57⟩:∃ y_:List (S87),y_=(([(⟨t503,t504,t505,t506⟩:S87),(⟨(⟨#[65,67,75]⟩:ByteArray),1,1,(⟨#[110,110,63,110]⟩:ByteArray)⟩:S87)]:List (S87))):=⟨_,rfl⟩
         replace H:(some y57)=some r:=ye hy57 H
         have Ny57:=am hy57;clear hy57;obtain rfl:=si H
         go_wp2_with (first|(go_at_call 81;(with_reducible refine (impl_tableOf_1.calls (⟨#[114,100]⟩:ByteArray) t503 t504 t505 t506 _ A47.out).mono ?_);rintro e w48 ⟨rfl,hb⟩;replace BK17:=am (blk_below (g:=gb17) (o:=.cells #[.string (⟨#[78,79,84]⟩:ByteArray),.int .i64 0,.int .i64 2,.string (⟨#[116]⟩:ByteArray)] 87 (0,0)) (ks BK17) hb);replace HB:=bq HB hb;(try clear hb);(try clear hb2);(try clear hk);(try clear hi))|((with_reducible refine gate_dst (N:=51) rfl ?_);refine rl k87 87 (N:=51) (xs:=([(⟨t503,t504,t505,t506⟩:S87),(⟨(⟨#[65,67,75]⟩:ByteArray),1,1,(⟨#[110,110,63,110]⟩:ByteArray)⟩:S87)]:List (S87))) (inner:=[.string t503,.int .i64 t504,.int .i64 t505,.string t506,.string (⟨#[65,67,75]⟩:ByteArray),.int .i64 1,.int .i64 1,.string (⟨#[110,110,63,110]⟩:ByteArray)]) ?hp ?_;(case hp=>exact (Reps.c4 (show Kd.M k87 _ _ _ (⟨t503,t504,t505,t506⟩:S87) [.string t503,.int .i64 t504,.int .i64 t505,.string t506] from (k87_mkM _ _ _ (⟨t503,t504,t505,t506⟩:S87) )) (Reps.c4 (show Kd.M k87 _ _ _ (⟨(⟨#[65,67,75]⟩:ByteArray),1,1,(⟨#[110,110,63,110]⟩:ByteArray)⟩:S87) [.string (⟨#[65,67,75]⟩:ByteArray),.int .i64 1,.int .i64 1,.string (⟨#[110,110,63,110]⟩:ByteArray)] from (k87_mkM _ _ _ (⟨(⟨#[65,67,75]⟩:ByteArray),1,1,(⟨#[110,110,63,110]⟩:ByteArray)⟩:S87) )) (Reps.none _ _))));intro v508 w49 ho50 hb hg_ hnew_;clear hg_ hnew_;(first|rw [← Ny57.out] at ho50|(simp only [Int.reduceToNat] at ho50;rw [← Ny57.out] at ho50));have HO509:=am (Kd.R_lower (Kd.R_newB ho50 (g:=gb17) (o:=.cells #[.string (⟨#[78,79,84]⟩:ByteArray),.int .i64 0,.int .i64 2,.string (⟨#[116]⟩:ByteArray)] 87 (0,0)) (ks BK17)) (below_size (bs HB)));replace BK17:=am (blk_below (g:=gb17) (o:=.cells #[.string (⟨#[78,79,84]⟩:ByteArray),.int .i64 0,.int .i64 2,.string (⟨#[116]⟩:ByteArray)] 87 (0,0)) (ks BK17) hb);replace HB:=bq HB hb;clear hb ho50))
         go_ret
         exact ⟨_,ff,by (with_reducible repeat (first|apply Kd.R_alloc|apply Kd.R_drewN|apply Kd.R_drew));exact Kd.R_mono HO509.out (fun _ hk=>trivial),bs HB⟩
        ·intro c46 c46b0 c46b1 H;obtain rfl:=si H
         go_wp2
         go_ret
         exact ⟨_,ff,by first|exact Kd.R_nil _ _ _ _ _|exact Kd.N_nil _ _ _ _ _|exact Kd.V_nil _ _ _ _ _|exact Kd.Q_nil _ _ _ _ _|exact Kd.S_nil _ _ _ _ _,bs HB⟩
theorem impl_lineTag.calls (k:Nat) (a0:Int) (r:ByteArray) (w:World) (H:impl_lineTag.f k a0=some r) :
  Calls Tryz.prog 46 #[.int .i64 a0] w fun e w'=>e=.returned (.string r)∧Below w.heap.size w w':=by
 have HB:=am (Below.refl w.heap.size w);unfold impl_lineTag.f at H;replace H:=bo H;obtain ⟨t9,A2,H⟩:=H;obtain ⟨ji3,hji3⟩:∃ j_:Int,(wrap64 ((t9.length:Int) - 1))=j_:=⟨_,rfl⟩
 replace H:(if 0≤(ji3) then (if (ji3)<(t9.length:Int) then (some ((rd_T87 t9 (ji3)).f0)) else (none)) else (none))=some r:=by first|(rw [hji3] at H;exact H)|(simp only [hji3] at H ⊢;exact H)
 (try rw [hji3] at A2)
 have hji3w:(IntKind.i64.wrap ((t9.length:Int) - 1))=ji3:=(i64_w _).trans hji3
 by_cases c4:0≤(ji3)
 ·rw [if_pos c4] at H;have c4b0:decide (0≤(ji3))=true:=decide_eq_true c4;clear c4
  revert H;refine id1 ?_
  intro c5b0 H;obtain rfl:=si H
  go_in
  go_wp2_with (first|((first|((with_reducible refine gate_callee (f:=62) rfl ?_);refine goesL_ (some 5) rfl rfl Tryz.func62 (by kernel_rfl) rfl #[.int .i64 a0] rfl (by (try simp only [List.map_toArray,List.map_cons,List.map_nil]);first|done|rfl|(simp only [List.length_drop,List.length_take];rfl)) ?_;(with_reducible refine (impl_tableOf.calls k a0 t9 _ A2.out).mono ?_);rintro e w6 ⟨v11,rfl,ho0,hb⟩;refine ⟨_,rfl,?_⟩)|(go_at_call 62;(with_reducible refine (impl_tableOf.calls k a0 t9 _ A2.out).mono ?_);rintro e w6 ⟨v11,rfl,ho0,hb⟩));have HO10:=am (Kd.R_lower ho0 (below_size (bs HB)));replace HB:=bq HB hb;(try clear hb);(try clear hb2);(try clear hk);(try clear hi);(try clear ho0);obtain ⟨Ao7,co7,eo7⟩:=Kd.R_slice HO10.out;subst eo7;have p8:0≤((ji3):Int):=oa;have q8:(ji3)<(t9.length:Int):=oa;obtain ⟨ad8,e8,hx8_0,hx8_1,hx8_2,hx8_3⟩:=at_T87 (Kd.R_reads' HO10.out).2.2 (ji3) p8 q8;cases e8;replace p8:=eq_true p8;replace q8:=eq_true q8))
  go_ret
  exact ⟨by first|rfl|(simp [errW_none,errW_some] <;> rfl)|(simp only [← hji3];first|rfl|(simp [errW_none,errW_some] <;> rfl))|(simp [*,errW_none,errW_some] <;> rfl),bs HB⟩
 ·rw [if_neg c4] at H
  exact absurd H (by simp)
theorem impl_fields.calls (k:Nat) (a0:Int) (r:ByteArray) (w:World) (H:impl_fields.f k a0=some r) :
  Calls Tryz.prog 73 #[.int .i64 a0] w fun e w'=>e=.returned (.string r)∧Drawn0 w w':=by
 unfold impl_fields.f at H
 revert H;refine ie2 ?_ ?_
 ·intro c2b0 c2b1 H;obtain rfl:=si H
  go_in
  go_wp2
  go_ret
  exact ⟨fg,dr⟩
 ·intro c2 c2b0 c2b1 H;have HC3:=am H;clear H
  go_in
  go_upto_if 6 with (fail)
  go_cut [6] (fun v6 wc=>∃ (kq:Nat) (x6_2:Bool),v6=.bool x6_2∧Aside0 (impl_fields.j0 kq a0 x6_2=some r)∧Aside0 (kq≤k)∧Drawn0 w wc)
  case first =>
   have H:=HC3.out;clear HC3
   revert H;refine ie2 ?_ ?_
   ·intro c4b0 c4b1 H
    (first|rw [c4b0]|(simp only [i64_w,i32_w];rw [c4b0])|rw [c4b1]|skip)
    have H':=am H;clear H
    go_wp2
    go_meet
    case rel=>exact ⟨_,((a0 == 2)),fg,H',⟨fl⟩,by repeat (first|exact Drawn0.refl _|apply Drawn0.step)⟩
   ·intro c4 c4b0 c4b1 H
    (first|rw [c4b0]|(simp only [i64_w,i32_w];rw [c4b0])|rw [c4b1]|skip)
    have H':=am H;clear H
    go_wp2
    go_meet
    case rel=>exact ⟨_,((a0 == 4)),fg,H',⟨fl⟩,by repeat (first|exact Drawn0.refl _|apply Drawn0.step)⟩
  case rest =>
   clear HC3
   try clear c2
   try clear c2b0
   try clear c2b1
   obtain ⟨kq,x6_2,rfl,HA,HJ2,⟨mc2,rfl⟩⟩:=hcut
   cases kq with
   | zero=>exact absurd HA.out (by simp [impl_fields.j0])
   | succ kj2 =>
    have H:=HA.out;clear HA;simp only [impl_fields.j0] at H
    obtain rfl|rfl:=bt x6_2
    ·replace H:=itT H;obtain rfl:=si H
     go_wp2
     go_ret
     exact ⟨fg,dr⟩
    ·replace H:=itF H
     revert H;refine ie2 ?_ ?_
     ·intro c6b0 c6b1 H;obtain rfl:=si H
      go_wp2
      go_ret
      exact ⟨fg,dr⟩
     ·intro c6 c6b0 c6b1 H
      revert H;refine ie2 ?_ ?_
      ·intro c7b0 c7b1 H;obtain rfl:=si H
       go_wp2
       go_ret
       exact ⟨fg,dr⟩
      ·intro c7 c7b0 c7b1 H
       revert H;refine ie2 ?_ ?_
       ·intro c8b0 c8b1 H;obtain rfl:=si H
        go_wp2
        go_ret
        exact ⟨fg,dr⟩
       ·intro c8 c8b0 c8b1 H
        revert H;refine ie2 ?_ ?_
        ·intro c9b0 c9b1 H;obtain rfl:=si H
         go_wp2
         go_ret
         exact ⟨fg,dr⟩
        ·intro c9 c9b0 c9b1 H;obtain rfl:=si H
         go_wp2
         go_ret
         exact ⟨fg,dr⟩
theorem impl_isText.calls (a0:Int) (r:Bool) (w:World) (H:impl_isText.f a0=some r) :
  Calls Tryz.prog 74 #[.int .i32 a0] w fun e w'=>e=.returned (.bool r)∧Drawn0 w w':=by
 unfold impl_isText.f at H
 revert H;refine ie2 ?_ ?_
 ·intro c2b0 c2b1 H;obtain rfl:=si H
  go_in
  go_wp2
  go_ret
  exact ⟨fg,dr⟩
 ·intro c2 c2b0 c2b1 H;obtain rfl:=si H
  go_in
  go_wp2
  go_ret
  exact ⟨fg,dr⟩
theorem impl_lineParts_text (g:Nat) (x:Int) (w:World):Calls Tryz.prog 75 #[.pointer (some ⟨g,0,none⟩),.int .i32 x] w fun e w'=>e=.returned (.pointer (some ⟨g,if x=73 then 1 else 4,none⟩))∧w'=w:=by
 have hu:=Tryz.underlying63
 by_cases c:x=73
 ·subst c
  go_enter Tryz.func75,Tryz.ntmps75
  go_wp2
  go_ret
  exact ⟨rfl,rfl⟩
 ·have c1:(x == 73)=false:=beq_eq_false_iff_ne.mpr c;rw [if_neg c]
  go_enter Tryz.func75,Tryz.ntmps75
  go_wp2
  go_ret
  exact ⟨rfl,rfl⟩
theorem impl_lineParts_number (g:Nat) (x:Int) (w:World):Calls Tryz.prog 76 #[.pointer (some ⟨g,0,none⟩),.int .i32 x] w fun e w'=>e=.returned (.pointer (some ⟨g,if x=78 then 0 else if x=81 then 2 else 3,none⟩))∧w'=w:=by
 have hu:=Tryz.underlying63
 by_cases c:x=78
 ·subst c
  go_enter Tryz.func76,Tryz.ntmps76
  go_wp2
  go_ret
  exact ⟨rfl,rfl⟩
 ·have c1:(x == 78)=false:=beq_eq_false_iff_ne.mpr c;rw [if_neg c]
  by_cases d:x=81
  ·subst d
   go_enter Tryz.func76,Tryz.ntmps76
   go_wp2
   go_ret
   exact ⟨rfl,rfl⟩
  ·have d1:(x == 81)=false:=beq_eq_false_iff_ne.mpr d;rw [if_neg d]
   go_enter Tryz.func76,Tryz.ntmps76
   go_wp2
   go_ret
   exact ⟨rfl,rfl⟩
theorem impl_lineParts_drop {s:ByteArray} {p:Nat} {c:UInt8} {cs:List UInt8} (h:s.data.toList.drop p=c :: cs):∃ hp:p<s.size,s[p]'hp=c∧s.data.toList.drop (p+1)=cs:=by
 have hl:=congrArg List.length h
 rw [List.length_drop,List.length_cons] at hl
 have hs:s.data.toList.length=s.size:=rfl
 have hp:p<s.size:=by omega
 have e:=List.drop_eq_getElem_cons (l:=s.data.toList) (i:=p) (by omega)
 rw [h] at e
 injection e with e1 e2
 exact ⟨hp,by rw [e1];rfl,e2.symm⟩
theorem impl_lineParts_ne {s:ByteArray} {p k kb:Nat} {W:World} {t:TypeId} {cs:Array Value} {z:Nat × Nat} (hit:W.heap[kb]? = some (.stringIter s p)) (h:W.heap[k]? = some (.cells cs t z)):k≠kb:=by
 rintro rfl
 rw [hit] at h
 cases h
theorem impl_lineParts_R {α:Type} {d:Kd α} {e base:Nat} {ok:Nat→Prop} {W:World} {v:Value} {xs:List α} {s:ByteArray} {p kb:Nat} (q:Nat) (h:d.R e W base ok v xs) (hit:W.heap[kb]? = some (.stringIter s p)):d.R e (W.iterAt kb s q) base ok v xs :=
 Kd.R_mono (Kd.R_step (Kd.R_bound h) (fun k hk _=>by
  obtain ⟨_,_,_,_,_,c,hc⟩:=hk
  exact Lib.iterAt_other W kb k s q (impl_lineParts_ne hit hc))) (fun _ hk=>hk.1)
theorem impl_lineParts_own {α:Type} {d:Kd α} {e base:Nat} {ok:Nat→Prop} {W:World} {v:Value} {xs:List α} {s:ByteArray} {p kb:Nat} (h:d.R e W base ok v xs) (hit:W.heap[kb]? = some (.stringIter s p)):some kb≠v.ownBlock:=fun e_=>by
 obtain ⟨c,hc⟩:=Kd.R_typed h kb e_.symm
 exact impl_lineParts_ne hit hc rfl
theorem impl_lineParts_lt {s:ByteArray} {p kb:Nat} {W:World} (hit:W.heap[kb]? = some (.stringIter s p)):kb<W.heap.size:=by
 obtain ⟨h,_⟩:=Array.getElem?_eq_some_iff.mp hit
 exact h
theorem impl_lineParts_it {s:ByteArray} {p kb:Nat} {W W1:World} (hit:W.heap[kb]? = some (.stringIter s p)) (hb:Below W.heap.size W W1):W1.heap[kb]? = some (.stringIter s p):=(hb.block kb (impl_lineParts_lt hit)).trans hit
theorem impl_lineParts_ig {s:ByteArray} {p kb:Nat} {W W1:World} {row:Option Nat} (hit:W.heap[kb]? = some (.stringIter s p)) (hg:W.grownBy W1 row) (hne:some kb≠row):W1.heap[kb]? = some (.stringIter s p):=(hg.block kb (impl_lineParts_lt hit) hne).trans hit
theorem impl_lineParts.calls (k:Nat) (a0:Int) (f0:Int) (f1:ByteArray) (f2 f3:Int) (f4:ByteArray) (r:List ByteArray) (w:World) (hTF:TbF w) (h:impl_lineParts.f k a0 f0 f1 f2 f3 f4=some r) :
  Calls Tryz.prog 47 #[.int .i64 a0,.agg #[.int .i64 f0,.string f1,.int .i64 f2,.int .i64 f3,.string f4]] w fun e w'=>∃ v0_:Value,e=.returned (v0_)∧Kd.R Kd.string 9 w' w.heap.size (fun _=>True) v0_ r∧Below w.heap.size w w':=by
 have HTF:=am hTF;clear hTF;have hu:=Tryz.underlying63;have hu9:=Tryz.underlying9;have HB:=am (Below.refl w.heap.size w);obtain ⟨s,A1,H⟩:=Option.bind_eq_some_iff.mp (show (impl_fields.f k a0).bind (fun s=>impl_lineParts.l0 f0 f1 f2 f3 f4 s.data.toList [])=some r from h);clear h;replace A1:=am A1;replace H:=am H
 go_in
 go_wp2_with (first|((with_reducible refine gate_dst (N:=3) rfl ?_);refine bx 3 (cs:=#[.int .i64 f0,.string f1,.int .i64 f2,.int .i64 f3,.string f4]) (t:=63) ?_;intro gb hg w3 hbox hb;have BK:=am (hbox);have GE:=am ((gs hg (bs HB)));replace HB:=bq HB hb;clear hb hbox hg)|((with_reducible refine gate_dst (N:=8) rfl ?_);refine rl Kd.string 9 (N:=8) (xs:=([]:List ByteArray)) (inner:=[]) ?hp ?_;(case hp=>exact (Reps.none _ _));intro v1 w6 ho7 hb hg_ hnew_;clear hg_ hnew_;have HO:=am (Kd.R_lower ho7 (below_size (bs HB)));replace BK:=am (blk_below (ks BK) hb);replace HB:=bq HB hb;clear hb ho7)|(go_at_call 73;(with_reducible refine (impl_fields.calls k a0 s _ A1.out).mono ?_);rintro e w' ⟨rfl,⟨nd,rfl⟩⟩))
 have hbk:gb<w6.heap.size:=blk_lt BK.out;have hit:((w6.drewN nd).iter s 0).heap[w6.heap.size]? = some (.stringIter s 0):=World.iter_heap (w6.drewN nd) s 0;have hge:w.heap.size≤w6.heap.size:=HB.out.size;replace HO:=am (show Kd.R Kd.string 9 ((w6.drewN nd).iter s 0) w.heap.size (fun _=>True) v1 [] from by show Kd.R Kd.string 9 ((w6.drewN nd).alloc (.stringIter s 0)) w.heap.size (fun _=>True) v1 [];exact rs HO);replace BK:=am (show ((w6.drewN nd).iter s 0).heap[gb]? = _ from blk_alloc (blk_drewN BK.out _) _);replace HB:=am (show Below w.heap.size w ((w6.drewN nd).iter s 0) from by show Below w.heap.size w ((w6.drewN nd).alloc (.stringIter s 0));exact bs HB)
 generalize (w6.drewN nd).iter s 0=W at hit HO BK HB ⊢
 generalize w6.heap.size=kb at hit hge hbk ⊢
 go_loopg [5] s.size (fun gk v5 wx=>∃ (p:Nat) (acc:List ByteArray),Aside0 (impl_lineParts.l0 f0 f1 f2 f3 f4 (s.data.toList.drop p) acc=some r)∧Aside0 (s.size≤p+gk)∧Aside0 (Kd.R Kd.string 9 wx w.heap.size (fun _=>True) v5 acc)∧Aside0 (wx.heap[kb]? = some (.stringIter s p))∧Aside0 (wx.heap[gb]? = some (.cells #[.int .i64 f0,.string f1,.int .i64 f2,.int .i64 f3,.string f4] 63 (0,0)))∧Aside0 (Below w.heap.size w wx))
 case atStart=>exact ⟨0,[],H,⟨by omega⟩,HO,⟨hit⟩,BK,HB⟩
 case round =>
  clear H HO BK HB hit;obtain ⟨p,acc,H,HG,HO,hit,BK,HB⟩:=hrel
  cases hd:s.data.toList.drop p with
  | nil =>
   have hp:¬ p<s.size:=by have:=congrArg List.length hd;rw [List.length_drop,List.length_nil,show s.data.toList.length=s.size from rfl] at this;omega
   replace H:=H.out;rw [hd] at H;obtain rfl:=si H;clear H
   have hnx:∀ ty,(Instr.next (.pointer (some ⟨kb,0,none⟩)) true ty).run Tryz.prog wr=_:=fun ty=>Lib.run_next_end_at wr kb s p ty hit.out hp
   go_wp2
   go_ret
   exact ⟨_,rfl,HO.out,HB.out⟩
  | cons c cs =>
   obtain ⟨hp,hc,hdr⟩:=impl_lineParts_drop hd;replace H:=H.out;rw [hd] at H;clear hd
   unfold impl_lineParts.l0 at H
   revert H;refine ip1 ?_
   intro hl H;replace hl:=am hl
   have HU:∀ z:Nat,c.toNat=z→z<128→∀ ty,(Instr.next (.pointer (some ⟨kb,0,none⟩)) true ty).run Tryz.prog wr=.ok (.tuple #[.bool true,.int .i64 p,.int .i32 z]) (wr.iterAt kb s (p+1)):=by
    intro z hz hlt ty;have e:=decode_ascii s p hp (by rw [hc];omega)
    rw [hc,hz] at e
    have:=Lib.run_next_any_at (P:=Tryz.prog) wr kb s p ty hit.out hp
    rw [e] at this
    exact this
   have hit2:=Lib.iterAt_heap wr kb s p (p+1) hit.out;have BK2:=am (show (wr.iterAt kb s (p+1)).heap[gb]? = _ from (Lib.iterAt_other wr kb gb s (p+1) (impl_lineParts_ne hit.out BK.out)).trans BK.out);replace HO:=am (impl_lineParts_R (p+1) HO.out hit.out);replace HB:=am (Lib.below_iterAt HB.out (k:=kb) hge s (p+1));clear hit BK hc
   generalize wr.iterAt kb s (p+1)=W1 at HU hit2 BK2 HO HB
   replace hit2:=am hit2;replace hdr:=am hdr;obtain ⟨g1,rfl⟩:∃ g1,gk=g1+1:=⟨gk - 1,by have:=HG.out;omega⟩
   revert H;refine ip2 ?_ ?_
   ·intro c1 H;have hnx:=HU 77 (by rw [c1];rfl) (by omega);clear HU
    revert H;refine ip2 ?_ ?_
    ·intro c2 H;have H':=am H;clear H;have hcz:=cf5 BK2;have b0:(f3 == 0)=true:=beq_iff_eq.mpr c2;have b1:(f3 != 0)=false:=bne_eq_false_iff_eq.mpr c2;clear c1 c2
     go_wp2
     go_roundg g1
     case measure=>omega
     case rel=>exact ⟨p+1,acc,by rw [hdr.out];exact H',⟨by have:=HG.out;omega⟩,HO,hit2,BK2,HB⟩
    ·intro c2 H;replace H:=bo H;obtain ⟨d,A2,H⟩:=H;have H':=am H;clear H;have hcz:=cf5 BK2;have b0:(f3 == 0)=false:=beq_eq_false_iff_ne.mpr c2;have b1:(f3 != 0)=true:=bne_iff_ne.mpr c2;clear c1 c2
     go_wp2_with (first|(go_at_call 74;(with_reducible refine (impl_isText.calls _ false _ rfl).mono ?_);rintro e w' ⟨rfl,⟨nd2,rfl⟩⟩;replace hit2:=am (show (W1.drewN nd2).heap[kb]? = _ from hit2.out);replace BK2:=am (blk_drewN BK2.out nd2);replace HO:=am (Kd.R_drewN HO.out nd2);replace HB:=am (pw_below_drewN HB.out nd2))|(go_at_call 76;refine (impl_lineParts_number gb _ _).mono ?_;rintro e w' ⟨rfl,rfl⟩)|(go_at_call 45;(with_reducible refine (impl_decimal.calls f3 d _ (tbF HTF HB.out) A2.out).mono ?_);rintro e w8 ⟨rfl,hb⟩;replace hit2:=am (impl_lineParts_it hit2.out hb);replace BK2:=bb BK2 hb;replace HO:=am (Kd.R_below HO.out hb);replace HB:=am (below_step HB.out hb);clear hb)|((with_reducible refine gate_builtin (b:=.append) (xs:=#[.tmp 15,.tmp 21]) rfl ?_);at_builtin;refine Kd.R_append Kd.string (w0:=w) w.heap.size rfl (.tmp 15) (.tmp 21) 22 9 (.string ⟨#[]⟩) 16 rfl Tryz.underlying22 info9 rfl (by decide) (by omega) u5 acc d [.string d] (fun _=>True) (fun _=>False) rfl rfl ?aP (fun _ hk=>hk.elim) (fun _ _=>trivial) ?aO ?aB ?aS ?aL ?_;(case aP=>exact rfl);(case aB=>exact HB.out);(case aO=>exact HO.out);(case aS=>exact HB.out.size);(case aL=>have:=hl.out;omega);intro v2 w9 ho hb hg hat;replace hit2:=am (impl_lineParts_ig hit2.out hg (impl_lineParts_own HO.out hit2.out));replace BK2:=am (blk_grown (ks BK2) hg (Kd.R_ne HO.out BK2.out (by decide)));replace HO:=am ho;replace HB:=am hb;clear ho hb hg hat))
     go_roundg g1
     case measure=>omega
     case rel=>exact ⟨p+1,acc++[d],by rw [hdr.out];exact H',⟨by have:=HG.out;omega⟩,HO,hit2,BK2,HB⟩
   ·intro c1 H
    revert H;refine ip2 ?_ ?_
    ·intro c3 H;have hnx:=HU 84 (by rw [c3];rfl) (by omega);clear HU
     revert H;refine ip2 ?_ ?_
     ·intro c2 H;have H':=am H;clear H;have hcz:=cf5 BK2;have b0:(f4.toList == ([]:List UInt8))=true:=beq_iff_eq.mpr c2;have b1:(f4.toList != ([]:List UInt8))=false:=bne_eq_false_iff_eq.mpr c2;have b2:f4.toList.isEmpty=true:=List.isEmpty_iff.mpr c2;clear c1 c2 c3
      go_wp2
      go_roundg g1
      case measure=>omega
      case rel=>exact ⟨p+1,acc,by rw [hdr.out];exact H',⟨by have:=HG.out;omega⟩,HO,hit2,BK2,HB⟩
     ·intro c2 H;have H':=am H;clear H;have hcz:=cf5 BK2;have b0:(f4.toList == ([]:List UInt8))=false:=beq_eq_false_iff_ne.mpr c2;have b1:(f4.toList != ([]:List UInt8))=true:=bne_iff_ne.mpr c2
      have b2:f4.toList.isEmpty=false:=by cases h:f4.toList with|nil=>exact absurd h c2|cons _ _=>rfl
      clear c1 c2 c3
      go_wp2_with (first|(go_at_call 74;(with_reducible refine (impl_isText.calls _ true _ rfl).mono ?_);rintro e w' ⟨rfl,⟨nd2,rfl⟩⟩;replace hit2:=am (show (W1.drewN nd2).heap[kb]? = _ from hit2.out);replace BK2:=am (blk_drewN BK2.out nd2);replace HO:=am (Kd.R_drewN HO.out nd2);replace HB:=am (pw_below_drewN HB.out nd2))|(go_at_call 75;refine (impl_lineParts_text gb _ _).mono ?_;rintro e w' ⟨rfl,rfl⟩)|((with_reducible refine gate_builtin (b:=.append) (xs:=#[.tmp 43,.tmp 48]) rfl ?_);at_builtin;refine Kd.R_append Kd.string (w0:=w) w.heap.size rfl (.tmp 43) (.tmp 48) 22 9 (.string ⟨#[]⟩) 16 rfl Tryz.underlying22 info9 rfl (by decide) (by omega) u5 acc f4 [.string f4] (fun _=>True) (fun _=>False) rfl rfl ?aP (fun _ hk=>hk.elim) (fun _ _=>trivial) ?aO ?aB ?aS ?aL ?_;(case aP=>exact rfl);(case aB=>exact HB.out);(case aO=>exact HO.out);(case aS=>exact HB.out.size);(case aL=>have:=hl.out;omega);intro v2 w9 ho hb hg hat;replace hit2:=am (impl_lineParts_ig hit2.out hg (impl_lineParts_own HO.out hit2.out));replace BK2:=am (blk_grown (ks BK2) hg (Kd.R_ne HO.out BK2.out (by decide)));replace HO:=am ho;replace HB:=am hb;clear ho hb hg hat))
      go_roundg g1
      case measure=>omega
      case rel=>exact ⟨p+1,acc++[f4],by rw [hdr.out];exact H',⟨by have:=HG.out;omega⟩,HO,hit2,BK2,HB⟩
    ·intro c3 H
     revert H;refine ip2 ?_ ?_
     ·intro c4 H;have hnx:=HU 73 (by rw [c4];rfl) (by omega);clear HU;have H':=am H;clear H;have hcz:=cf5 BK2;clear c1 c3 c4
      go_wp2_with (first|(go_at_call 74;(with_reducible refine (impl_isText.calls _ true _ rfl).mono ?_);rintro e w' ⟨rfl,⟨nd2,rfl⟩⟩;replace hit2:=am (show (W1.drewN nd2).heap[kb]? = _ from hit2.out);replace BK2:=am (blk_drewN BK2.out nd2);replace HO:=am (Kd.R_drewN HO.out nd2);replace HB:=am (pw_below_drewN HB.out nd2))|(go_at_call 75;refine (impl_lineParts_text gb _ _).mono ?_;rintro e w' ⟨rfl,rfl⟩)|((with_reducible refine gate_builtin (b:=.append) (xs:=#[.tmp 43,.tmp 48]) rfl ?_);at_builtin;refine Kd.R_append Kd.string (w0:=w) w.heap.size rfl (.tmp 43) (.tmp 48) 22 9 (.string ⟨#[]⟩) 16 rfl Tryz.underlying22 info9 rfl (by decide) (by omega) u5 acc f1 [.string f1] (fun _=>True) (fun _=>False) rfl rfl ?aP (fun _ hk=>hk.elim) (fun _ _=>trivial) ?aO ?aB ?aS ?aL ?_;(case aP=>exact rfl);(case aB=>exact HB.out);(case aO=>exact HO.out);(case aS=>exact HB.out.size);(case aL=>have:=hl.out;omega);intro v2 w9 ho hb hg hat;replace hit2:=am (impl_lineParts_ig hit2.out hg (impl_lineParts_own HO.out hit2.out));replace BK2:=am (blk_grown (ks BK2) hg (Kd.R_ne HO.out BK2.out (by decide)));replace HO:=am ho;replace HB:=am hb;clear ho hb hg hat))
      go_roundg g1
      case measure=>omega
      case rel=>exact ⟨p+1,acc++[f1],by rw [hdr.out];exact H',⟨by have:=HG.out;omega⟩,HO,hit2,BK2,HB⟩
     ·intro c4 H
      revert H;refine ip2 ?_ ?_
      ·intro c5 H;have hnx:=HU 78 (by rw [c5];rfl) (by omega);clear HU;replace H:=bo H;obtain ⟨d,A2,H⟩:=H;have H':=am H;clear H;have hcz:=cf5 BK2;clear c1 c3 c4 c5
       go_wp2_with (first|(go_at_call 74;(with_reducible refine (impl_isText.calls _ false _ rfl).mono ?_);rintro e w' ⟨rfl,⟨nd2,rfl⟩⟩;replace hit2:=am (show (W1.drewN nd2).heap[kb]? = _ from hit2.out);replace BK2:=am (blk_drewN BK2.out nd2);replace HO:=am (Kd.R_drewN HO.out nd2);replace HB:=am (pw_below_drewN HB.out nd2))|(go_at_call 76;refine (impl_lineParts_number gb _ _).mono ?_;rintro e w' ⟨rfl,rfl⟩)|(go_at_call 45;(with_reducible refine (impl_decimal.calls f0 d _ (tbF HTF HB.out) A2.out).mono ?_);rintro e w8 ⟨rfl,hb⟩;replace hit2:=am (impl_lineParts_it hit2.out hb);replace BK2:=bb BK2 hb;replace HO:=am (Kd.R_below HO.out hb);replace HB:=am (below_step HB.out hb);clear hb)|((with_reducible refine gate_builtin (b:=.append) (xs:=#[.tmp 15,.tmp 21]) rfl ?_);at_builtin;refine Kd.R_append Kd.string (w0:=w) w.heap.size rfl (.tmp 15) (.tmp 21) 22 9 (.string ⟨#[]⟩) 16 rfl Tryz.underlying22 info9 rfl (by decide) (by omega) u5 acc d [.string d] (fun _=>True) (fun _=>False) rfl rfl ?aP (fun _ hk=>hk.elim) (fun _ _=>trivial) ?aO ?aB ?aS ?aL ?_;(case aP=>exact rfl);(case aB=>exact HB.out);(case aO=>exact HO.out);(case aS=>exact HB.out.size);(case aL=>have:=hl.out;omega);intro v2 w9 ho hb hg hat;replace hit2:=am (impl_lineParts_ig hit2.out hg (impl_lineParts_own HO.out hit2.out));replace BK2:=am (blk_grown (ks BK2) hg (Kd.R_ne HO.out BK2.out (by decide)));replace HO:=am ho;replace HB:=am hb;clear ho hb hg hat))
       go_roundg g1
       case measure=>omega
       case rel=>exact ⟨p+1,acc++[d],by rw [hdr.out];exact H',⟨by have:=HG.out;omega⟩,HO,hit2,BK2,HB⟩
      ·intro c5 H
       revert H;refine ip2 ?_ ?_
       ·intro c6 H;have hnx:=HU 81 (by rw [c6];rfl) (by omega);clear HU;replace H:=bo H;obtain ⟨d,A2,H⟩:=H;have H':=am H;clear H;have hcz:=cf5 BK2;clear c1 c3 c4 c5 c6
        go_wp2_with (first|(go_at_call 74;(with_reducible refine (impl_isText.calls _ false _ rfl).mono ?_);rintro e w' ⟨rfl,⟨nd2,rfl⟩⟩;replace hit2:=am (show (W1.drewN nd2).heap[kb]? = _ from hit2.out);replace BK2:=am (blk_drewN BK2.out nd2);replace HO:=am (Kd.R_drewN HO.out nd2);replace HB:=am (pw_below_drewN HB.out nd2))|(go_at_call 76;refine (impl_lineParts_number gb _ _).mono ?_;rintro e w' ⟨rfl,rfl⟩)|(go_at_call 45;(with_reducible refine (impl_decimal.calls f2 d _ (tbF HTF HB.out) A2.out).mono ?_);rintro e w8 ⟨rfl,hb⟩;replace hit2:=am (impl_lineParts_it hit2.out hb);replace BK2:=bb BK2 hb;replace HO:=am (Kd.R_below HO.out hb);replace HB:=am (below_step HB.out hb);clear hb)|((with_reducible refine gate_builtin (b:=.append) (xs:=#[.tmp 15,.tmp 21]) rfl ?_);at_builtin;refine Kd.R_append Kd.string (w0:=w) w.heap.size rfl (.tmp 15) (.tmp 21) 22 9 (.string ⟨#[]⟩) 16 rfl Tryz.underlying22 info9 rfl (by decide) (by omega) u5 acc d [.string d] (fun _=>True) (fun _=>False) rfl rfl ?aP (fun _ hk=>hk.elim) (fun _ _=>trivial) ?aO ?aB ?aS ?aL ?_;(case aP=>exact rfl);(case aB=>exact HB.out);(case aO=>exact HO.out);(case aS=>exact HB.out.size);(case aL=>have:=hl.out;omega);intro v2 w9 ho hb hg hat;replace hit2:=am (impl_lineParts_ig hit2.out hg (impl_lineParts_own HO.out hit2.out));replace BK2:=am (blk_grown (ks BK2) hg (Kd.R_ne HO.out BK2.out (by decide)));replace HO:=am ho;replace HB:=am hb;clear ho hb hg hat))
        go_roundg g1
        case measure=>omega
        case rel=>exact ⟨p+1,acc++[d],by rw [hdr.out];exact H',⟨by have:=HG.out;omega⟩,HO,hit2,BK2,HB⟩
       ·intro c6 H
        cases H
end Go.Proofs.YtaememmnhmebcaaGreatDoor.QB

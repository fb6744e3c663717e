-- Merged by a program of this session (wip/tool/pack.py) out of its own texts for this claim.
import Derived.Test.YtaememmnhmebcaaGreatDoorKFnExactPaperBody6
set_option maxHeartbeats 8000000
set_option maxRecDepth 100000
set_option linter.unusedSimpArgs false
set_option linter.unusedVariables false
namespace Go.Proofs.YtaememmnhmebcaaGreatDoor.QB
open Go.RowKit Go.Proofs.YtaememmnhmebcaaGreatDoorW.PrintWords Go.Proofs.YtaememmnhmebcaaGreatDoorW.PrintLast Go.Proofs.YtaememmnhmebcaaGreatDoorW.PrintMore
attribute [local go_sem] max2_int min2_int max_two min_two max_three min_three max_four min_four   -- for this text's walks alone
def spec_l05Body.T3:Bool × List (List Nat × List Nat):=(true,[([],[]),([0],[0]),([],[]),([2],[2]),([],[]),([4],[4]),([5],[5]),([1,3,6],[1,3,6]),([7,6,0,1,2,3,4,5,6,7],[7])])
def spec_l05Body.B3:List Nat:=[0,1,0,4,0,16,48,127,255]
theorem spec_l05Body.tab3:rtab .any (opsOf Tryz.f16 3)=spec_l05Body.T3:=by kernel_rfl
theorem spec_l05Body.bits3:waitsOk spec_l05Body.T3.2 spec_l05Body.B3=true:=by kernel_rfl
def spec_l05Body.T12:Bool × List (List Nat × List Nat):=(true,[([],[]),([],[]),([1],[1]),([],[]),([3],[3]),([],[]),([4,5],[4,5]),([6],[6]),([2,7],[2,7]),([8],[8]),([0,9,8],[0,9]),([10,10,0,1,2,3,4,5,6,7,8,9,10],[0,10])])
def spec_l05Body.B12:List Nat:=[0,0,2,0,8,0,56,120,254,510,1023,2047]
theorem spec_l05Body.tab12:rtab .any (opsOf Tryz.f16 12)=spec_l05Body.T12:=by kernel_rfl
theorem spec_l05Body.bits12:waitsOk spec_l05Body.T12.2 spec_l05Body.B12=true:=by kernel_rfl
theorem spec_l05Body.calls (k:Nat) (a0_0:Int) (a0_1:ByteArray) (a0_2:ByteArray) (a0_3:Int) (A0_4:Option Addr) (c0_4:Nat) (l0_4:List ByteArray) (A0_5:Option Addr) (c0_5:Nat) (l0_5:List (S63)) (r:List (S46)) (w:World) (hr0_4:Kd.C Kd.string w A0_4 l0_4.length l0_4) (hc0_4:l0_4.length≤c0_4) (hr0_5:Kd.C k63 w A0_5 l0_5.length l0_5) (hc0_5:l0_5.length≤c0_5) (H:spec_l05Body.f k a0_0 a0_1 a0_2 a0_3 l0_4 l0_5=some r) :
  Calls Tryz.prog 16 #[.agg #[.int .i64 a0_0,.string a0_1,.string a0_2,.int .i64 a0_3,.slice A0_4 l0_4.length c0_4,.slice A0_5 l0_5.length c0_5]] w fun e w'=>∃ v0_:Value,e=.returned (v0_)∧Kd.N k46 46 w' w.heap.size (fun k_=>(w.heap.size≤k_)) v0_ r∧Below w.heap.size w w':=by
 have hu31:=Tryz.underlying31;have hu63:=Tryz.underlying63;have HR0_4:=am hr0_4;have HC0_4:=am hc0_4;clear hr0_4 hc0_4;have HR0_5:=am hr0_5;have HC0_5:=am hc0_5;clear hr0_5 hc0_5;have HB:=am (Below.refl w.heap.size w);unfold spec_l05Body.f at H;replace H:=bo H;obtain ⟨t75,A2,H⟩:=H;obtain ⟨y65,hy65⟩:∃ y_:List ByteArray,y_=(([a0_1,t75]:List ByteArray)):=⟨_,rfl⟩
 replace H:((spec_l05Has.f a0_0).bind fun t82=>(if t82=true then ((spec_l01Dec.f k a0_3).bind fun t70=>(spec_l05Body.j0 k (([a0_1,a0_2,t70]:List ByteArray)) a0_0 a0_1 a0_2 a0_3 l0_4 l0_5)) else (spec_l05Body.j0 k y65 a0_0 a0_1 a0_2 a0_3 l0_4 l0_5)))=some r:=ye hy65 H
 have Ny65:=am hy65;clear hy65;replace H:=bo H;obtain ⟨t82,A3,H⟩:=H
 go_in
 try go_wp2_with (first|((with_reducible refine gate_dst (N:=1) rfl ?_);refine bz 1 (cs:=#[.int .i64 a0_0,.string a0_1,.string a0_2,.int .i64 a0_3,.slice A0_4 l0_4.length c0_4,.slice A0_5 l0_5.length c0_5]) (t:=31) HB ?_;clear HB;intro gb45 hg w4 BK45 GW45 hb HB;clear hb hg))
 replace BK45:=am (blk_drew BK45.out);replace HB:=am (below_drew1 HB.out);refine sta 7 (hb6 BK45) (fun hHeld=>?_)
 generalize w4.drew=w5 at BK45 HB hHeld ⊢
 refine pure_ (i:=0) (N:=some 7) (v:=?_) (a':=?_) #[true,false,false,false,false,false,false] rfl rfl (by kernel_rfl) (fun _ _ _ h=>h) (Or.inl ⟨by rfl,?_⟩) ?_ ?_
 rotate_left
 ·intro w'
  go_simp
  (with_reducible rfl)
 rotate_left
 ·simp only [Act.put,List.setIfInBounds_toArray,List.set_cons_zero,List.set_cons_succ,i64_w,i32_w]
  rfl
 refine pure_ (i:=2) (N:=some 9) (v:=?_) (a':=?_) #[true,false,true,false,false,false,false] rfl rfl (by kernel_rfl) (fun _ _ _ h=>h) (Or.inl ⟨by rfl,?_⟩) ?_ ?_
 rotate_left
 ·intro w'
  go_simp
  (with_reducible rfl)
 rotate_left
 ·simp only [Act.put,List.setIfInBounds_toArray,List.set_cons_zero,List.set_cons_succ,i64_w,i32_w]
  rfl
 refine take_ (i:=1) (N:=some 8) (v:=?_) (a':=?_) #[true,true,true,false,false,false,false] rfl rfl (by kernel_rfl) (fun _ _ _ h=>h) (Or.inl ⟨by rfl,?_⟩) hHeld ?_ ?_
 rotate_left
 ·rintro w' ⟨s0,s1,s2,s3,s4,s5⟩
  go_simp
  (with_reducible rfl)
 rotate_left
 ·simp only [Act.put,List.setIfInBounds_toArray,List.set_cons_zero,List.set_cons_succ,i64_w,i32_w]
  rfl
 refine take_ (i:=3) (N:=some 10) (v:=?_) (a':=?_) #[true,true,true,true,false,false,false] rfl rfl (by kernel_rfl) (fun _ _ _ h=>h) (Or.inl ⟨by rfl,?_⟩) hHeld ?_ ?_
 rotate_left
 ·rintro w' ⟨s0,s1,s2,s3,s4,s5⟩
  go_simp
  (with_reducible rfl)
 rotate_left
 ·simp only [Act.put,List.setIfInBounds_toArray,List.set_cons_zero,List.set_cons_succ,i64_w,i32_w]
  rfl
 refine one_ (i:=4) (N:=some 11) #[true,true,true,true,true,false,false] rfl rfl (by kernel_rfl) (by decide) (fun K hK=>?_);refine gA Tryz.func33 #[.int .i64 a0_3] ?_;(with_reducible refine (spec_l01Dec.calls k a0_3 t75 _ A2.out).mono ?_);rintro e w6 ⟨rfl,hb⟩;refine ⟨_,rfl,?_⟩;replace BK45:=bb BK45 hb;replace HB:=bq HB hb;(try clear hb);(try clear hb2);(try clear hk);(try clear hi);refine hK.out _ _ (hb6 BK45).out (fun hHeld=>?_);clear hK K;refine nA 11 ?_;refine one_ (i:=5) (N:=some 12) #[true,true,true,true,true,true,false] rfl rfl (by kernel_rfl) (by decide) (fun K hK=>?_);refine Kd.R_lit_step Kd.string _ 9 ?hg (N:=12) ?hd (xs:=([a0_1,t75]:List ByteArray)) (inner:=[.string a0_1,.string t75]) (ok:=fun _=>True) (okp:=fun _=>True) ?hr ?hp (fun _ hk=>hk) trivial (Below.refl _ _) (Nat.le_refl _) (by simp) ?_;(case hd=>rfl);(case hg=>rfl);(case hr=>first|(go_simp;done)|(go_simp;rfl));(case hp=>exact (Reps.one (show Kd.M Kd.string _ _ _ a0_1 [.string a0_1] from rfl) (Reps.one (show Kd.M Kd.string _ _ _ t75 [.string t75] from rfl) (Reps.none _ _))));intro v87 w7 ho8 hb hg_ hnew_;clear hg_ hnew_
 (first|rw [← Ny65.out] at ho8|(simp only [Int.reduceToNat] at ho8;rw [← Ny65.out] at ho8))
 have HO62:=am (Kd.R_lower (Kd.R_newM (M:=fun k_=>(w.heap.size≤k_)) ho8 (below_size (bs HB)) (fun k_ h_=>h_)) (below_size (bs HB)));replace BK45:=bb BK45 hb;replace HB:=bq HB hb;clear hb ho8;refine hK.out _ _ (hb6 BK45).out (fun hHeld=>?_);clear hK K;refine nA 12 ?_;refine pure_ (i:=6) (N:=some 3) (v:=?_) (a':=?_) #[true,true,true,true,true,true,true] rfl rfl (by kernel_rfl) (fun _ _ _ h=>h) (Or.inl ⟨by rfl,?_⟩) ?_ ?_
 rotate_left
 ·intro w'
  go_simp
  (with_reducible rfl)
 rotate_left
 ·simp only [Act.put,List.setIfInBounds_toArray,List.set_cons_zero,List.set_cons_succ,i64_w,i32_w]
  rfl
 refine done_ (by kernel_rfl) ?_;have hcz9:=cf6 BK45
 try go_wp2_with (fail)
 go_at_call 34;(with_reducible refine (spec_l05Has.calls a0_0 t82 _ A3.out).mono ?_);rintro e w' ⟨rfl,⟨nd,rfl⟩⟩;have HC10:=am H;clear H
 go_upto_if 15 with (fail)
 go_cut [3] (fun v3 wc=>∃ (kq:Nat) (x3_9:List ByteArray),Aside0 (spec_l05Body.j0 kq x3_9 a0_0 a0_1 a0_2 a0_3 l0_4 l0_5=some r)∧Aside0 (kq≤k)∧Aside0 (Kd.R Kd.string 9 wc w.heap.size (fun k_=>(w.heap.size≤k_)) v3 x3_9)∧Aside0 (wc.heap[gb45]? = some (.cells #[.int .i64 a0_0,.string a0_1,.string a0_2,.int .i64 a0_3,(.slice A0_4 l0_4.length c0_4),(.slice A0_5 l0_5.length c0_5)] 31 (0,0)))∧Aside0 (Below w.heap.size w wc))
 case first =>
  have H:=HC10.out;clear HC10
  obtain rfl|rfl:=bt t82
  ·replace H:=itT H;replace H:=bo H;obtain ⟨t70,A12,H⟩:=H;obtain ⟨y66,hy66⟩:∃ y_:List ByteArray,y_=(([a0_1,a0_2,t70]:List ByteArray)):=⟨_,rfl⟩
   replace H:(spec_l05Body.j0 k y66 a0_0 a0_1 a0_2 a0_3 l0_4 l0_5)=some r:=ye hy66 H
   have Ny66:=am hy66;clear hy66;have H':=am H;clear H
   try go_wp2
   (try (rw [drewN_self w7];generalize hq_:World.drewN w7 _=w7;have n0_:Aside0 (Kd.R Kd.string 9 w7 w.heap.size (fun k_=>(w.heap.size≤k_)) v87 y65):=⟨by rw [← hq_];exact (by (with_reducible repeat (first|apply Kd.R_alloc|apply Kd.R_drewN|apply Kd.R_drew));exact Kd.R_mono HO62.out (fun _ hk=>hk.1))⟩;have n1_:Aside0 (w7.heap[gb45]? = some (.cells #[.int .i64 a0_0,.string a0_1,.string a0_2,.int .i64 a0_3,.slice A0_4 l0_4.length c0_4,.slice A0_5 l0_5.length c0_5] 31 (0,0))):=⟨by rw [← hq_];exact (ks BK45)⟩;have n2_:Aside0 (Below w.heap.size w w7):=⟨by rw [← hq_];exact (bs HB)⟩;clear HO62 BK45 HB hq_;have HO62:=n0_;have BK45:=n1_;have HB:=n2_;clear n0_ n1_ n2_))
   replace HO62:=am (Kd.R_drew HO62.out);replace BK45:=am (blk_drew BK45.out);replace HB:=am (below_drew1 HB.out);refine sta 9 (hb6 BK45) (fun hHeld=>?_);refine with_tabW spec_l05Body.tab3 spec_l05Body.bits3 (fun HT_ HW_=>?_)
   generalize w7.drew=w13 at HO62 BK45 HB hHeld ⊢
   refine pz1 0 ?_;refine pz1 2 ?_;refine pz1 4 ?_;refine ta 1 ?_;refine ta 3 ?_;refine ta 5 ?_;refine oA 6 22 HT_ (fun K hK=>?_);refine gA Tryz.func33 #[.int .i64 a0_3] ?_;(with_reducible refine (spec_l01Dec.calls k a0_3 t70 _ A12.out).mono ?_);rintro e w14 ⟨rfl,hb⟩;refine ⟨_,rfl,?_⟩;replace HO62:=am (Kd.R_below (rs HO62) hb);replace BK45:=bb BK45 hb;replace HB:=bq HB hb;(try clear hb);(try clear hb2);(try clear hk);(try clear hi);refine hK.out _ _ (hb6 BK45).out (fun hHeld=>?_);clear hK K;refine nA 22 ?_;refine oA 7 23 HT_ (fun K hK=>?_);refine Kd.R_lit_step Kd.string _ 9 ?hg (N:=23) ?hd (xs:=([a0_1,a0_2,t70]:List ByteArray)) (inner:=[.string a0_1,.string a0_2,.string t70]) (ok:=fun _=>True) (okp:=fun _=>True) ?hr ?hp (fun _ hk=>hk) trivial (Below.refl _ _) (Nat.le_refl _) (by simp) ?_;(case hd=>rfl);(case hg=>rfl);(case hr=>first|(go_simp;done)|(go_simp;rfl));(case hp=>exact (Reps.one (show Kd.M Kd.string _ _ _ a0_1 [.string a0_1] from rfl) (Reps.one (show Kd.M Kd.string _ _ _ a0_2 [.string a0_2] from rfl) (Reps.one (show Kd.M Kd.string _ _ _ t70 [.string t70] from rfl) (Reps.none _ _)))));intro v94 w15 ho16 hb hg_ hnew_;clear hg_ hnew_
   (first|rw [← Ny66.out] at ho16|(simp only [Int.reduceToNat] at ho16;rw [← Ny66.out] at ho16))
   have HO88:=am (Kd.R_lower (Kd.R_new' (Kd.R_newM (M:=fun k_=>(w.heap.size≤k_)) ho16 (below_size (bs HB)) (fun k_ h_=>h_)) (Kd.R_lt (rs HO62))) (below_size (bs HB)));replace HO62:=am (Kd.R_elder' (rs HO62) (Kd.R_base ho16) hb);replace BK45:=bb BK45 hb;replace HB:=bq HB hb;clear hb ho16;refine hK.out _ _ (hb6 BK45).out (fun hHeld=>?_);clear hK K;refine nA 23 ?_;refine pz1 8 ?_;refine done_ (done_of HT_.out (by kernel_rfl)) ?_
   try go_wp2
   go_meet
   case rel=>exact ⟨_,(y66),H',⟨fl⟩,⟨by (with_reducible repeat (first|apply Kd.R_alloc|apply Kd.R_drewN|apply Kd.R_drew));exact Kd.R_mono HO88.out (fun _ hk=>hk.1.1)⟩,⟨ks BK45⟩,⟨bs HB⟩⟩
  ·replace H:=itF H;have H':=am H;clear H
   go_wp2
   go_meet
   case rel=>exact ⟨_,(y65),H',⟨fl⟩,⟨by (with_reducible repeat (first|apply Kd.R_alloc|apply Kd.R_drewN|apply Kd.R_drew));exact Kd.R_mono HO62.out (fun _ hk=>hk.1)⟩,⟨ks BK45⟩,⟨bs HB⟩⟩
 case rest =>
  clear HC10
  try clear hcz9
  obtain ⟨kq,x3_9,HA,HJ9,HO_3,BK45,HB⟩:=hcut
  cases kq with
  | zero=>exact absurd HA.out (by simp [spec_l05Body.j0])
  | succ kj9 =>
   have H:=HA.out;clear HA;simp only [spec_l05Body.j0] at H;replace H:=bo H;obtain ⟨⟨t71,t72⟩,A17,H⟩:=H;(try dsimp only at H);obtain ⟨y69,hy69⟩:∃ y_:List (S46),y_=(([(⟨t71,t72⟩:S46)]:List (S46))):=⟨_,rfl⟩
   replace H:(spec_l05Body.l0 kj9 y69 0 a0_0 a0_1 a0_2 a0_3 l0_4 l0_5)=some r:=ye hy69 H
   have Ny69:=am hy69;clear hy69;have H':=am H;clear H;obtain ⟨Ao18,co18,eo18⟩:=Kd.R_slice HO_3.out;subst eo18
   go_wp2_with (first|((first|((with_reducible refine gate_callee (f:=35) rfl ?_);refine goesL_ (some 25) rfl rfl Tryz.func35 (by kernel_rfl) rfl #[.string (⟨#[68,79,67]⟩:ByteArray),.slice Ao18 x3_9.length co18] rfl (by (try simp only [List.map_toArray,List.map_cons,List.map_nil]);first|done|rfl|(simp only [List.length_drop,List.length_take];rfl)) ?_;(with_reducible refine (spec_l03Seg.calls kj9 (⟨#[68,79,67]⟩:ByteArray) _ _ x3_9 t71 t72 _ ?side1 ?side2 A17.out).mono ?_);(case side1=>exact sd (Kd.R_reads' HO_3.out).2.2);(case side2=>exact (Kd.R_reads' HO_3.out).2.1);rintro e w19 ⟨v89,rfl,ho0,hb⟩;refine ⟨_,rfl,?_⟩)|(go_at_call 35;(with_reducible refine (spec_l03Seg.calls kj9 (⟨#[68,79,67]⟩:ByteArray) _ _ x3_9 t71 t72 _ ?side1 ?side2 A17.out).mono ?_);(case side1=>exact sd (Kd.R_reads' HO_3.out).2.2);(case side2=>exact (Kd.R_reads' HO_3.out).2.1);rintro e w19 ⟨v89,rfl,ho0,hb⟩));have HO83:=am (Kd.N_lower (Kd.N_mono (ok':=fun k_=>(w.heap.size≤k_)∧some k_≠(.slice Ao18 x3_9.length co18:Value).ownBlock∧k_≠gb45) (Kd.S_N (Kd.S_bound ho0)) (fun k_ hk_=>⟨(Nat.le_trans (below_size (bs HB)) hk_.2.1),(Kd.fresh' (Kd.R_lt (rs HO_3)) k_ hk_.2.1),(Kd.freshB (g:=gb45) (o:=.cells #[.int .i64 a0_0,.string a0_1,.string a0_2,.int .i64 a0_3,.slice A0_4 l0_4.length c0_4,.slice A0_5 l0_5.length c0_5] 31 (0,0)) (ks BK45) k_ hk_.2.1)⟩)) (below_size (bs HB)));replace HO_3:=am (Kd.R_below (rs HO_3) hb);replace BK45:=bb BK45 hb;replace HB:=bq HB hb;(try clear hb);(try clear hb2);(try clear hk);(try clear hi);(try clear ho0);obtain ⟨Ao20,co20,eo20⟩:=Kd.N_slice HO83.out;subst eo20)|((with_reducible refine gate_dst (N:=26) rfl ?_);refine Kd.N_lit k46 _ 46 ?hg (N':=26) ?hd (xs:=([(⟨t71,t72⟩:S46)]:List (S46))) (inner:=[.string t71,.slice Ao20 t72.length co20]) (ok:=(fun k_=>(w.heap.size≤k_)∧some k_≠(.slice Ao18 x3_9.length co18:Value).ownBlock∧k_≠gb45)) (okp:=(fun k_=>(w.heap.size≤k_)∧some k_≠(.slice Ao18 x3_9.length co18:Value).ownBlock∧k_≠gb45)) ?hr ?hp (fun _ hk=>hk) ((show ∀ k_,w19.heap.size≤k_→(fun k_=>(w.heap.size≤k_)∧some k_≠(.slice Ao18 x3_9.length co18:Value).ownBlock∧k_≠gb45) k_ from fun k_ hk=>⟨(Nat.le_trans (below_size (bs HB)) hk),Kd.fresh' (Kd.R_lt (rs HO_3)) k_ hk,Kd.freshB (g:=gb45) (o:=.cells #[.int .i64 a0_0,.string a0_1,.string a0_2,.int .i64 a0_3,.slice A0_4 l0_4.length c0_4,.slice A0_5 l0_5.length c0_5] 31 (0,0)) (ks BK45) k_ hk⟩) _ (Nat.le_refl _)) (Below.refl _ _) (Nat.le_refl _) (by simp) ?_;(case hd=>rfl);(case hg=>rfl);(case hr=>first|(go_simp;done)|(go_simp;rfl));(case hp=>exact (Reps.c2 (show Kd.FK k46 _ _ (⟨t71,t72⟩:S46) [.string t71,.slice Ao20 t72.length co20] from (k46_mkF _ _ (⟨t71,t72⟩:S46) (Kd.N_reads' (Kd.N_mono (ok':=(fun k_=>(w.heap.size≤k_)∧some k_≠(.slice Ao18 x3_9.length co18:Value).ownBlock∧k_≠gb45)) (HO83.out) (fun k_ hk=>⟨hk.1,⟨hk.2.1,hk.2.2⟩⟩))).2.1 (Kd.N_F (Kd.N_mono (ok':=(fun k_=>(w.heap.size≤k_)∧some k_≠(.slice Ao18 x3_9.length co18:Value).ownBlock∧k_≠gb45)) (HO83.out) (fun k_ hk=>⟨hk.1,⟨hk.2.1,hk.2.2⟩⟩))))) (Reps.none _ _)));intro v95 w21 ho22 hb hg_ hnew_;clear hg_ hnew_;(first|rw [← Ny69.out] at ho22|(simp only [Int.reduceToNat] at ho22;rw [← Ny69.out] at ho22));have n0_:=am (Kd.R_below (rs HO_3) hb);have n1_:=am (Kd.N_lower ho22 (below_size (bs HB)));have n2_:=am (blk_below (ks BK45) hb);have n3_:=am (below_step (bs HB) hb);clear HO_3;clear BK45;clear HB;clear HO83;have HO_3:=n0_;have HO90:=n1_;have BK45:=n2_;have HB:=n3_;clear n0_ n1_ n2_ n3_;clear hb ho22))
   go_loopg [4,5] kj9 (fun kq v4 v5 w'=>∃ (x4_2:List (S46)) (x5_2:Int),v5=.int .i64 x5_2∧Aside0 (spec_l05Body.l0 kq x4_2 x5_2 a0_0 a0_1 a0_2 a0_3 l0_4 l0_5=some r)∧Aside0 (kq≤kj9)∧Aside0 (Kd.N k46 46 w' w.heap.size (fun k_=>(w.heap.size≤k_)∧k_≠gb45) v4 x4_2)∧Aside0 (w'.heap[gb45]? = some (.cells #[.int .i64 a0_0,.string a0_1,.string a0_2,.int .i64 a0_3,(.slice A0_4 l0_4.length c0_4),(.slice A0_5 l0_5.length c0_5)] 31 (0,0)))∧Aside0 (Below w.heap.size w w'))
   case atStart=>exact ⟨(y69),(0),fg,H',⟨Nat.le_refl _⟩,⟨by (with_reducible repeat (first|apply Kd.N_alloc|apply Kd.N_drewN|apply Kd.N_drew));exact Kd.N_mono HO90.out (fun _ hk=>⟨hk.1,hk.2.2⟩)⟩,⟨ks BK45⟩,⟨bs HB⟩⟩
   case round =>
    clear H'
    try clear c2
    try clear hcz9
    try clear BK45
    obtain ⟨x4_2,x5_2,rfl,HA,HK2,HO_4,BK45,HB⟩:=hrel
    cases gk with
    | zero=>exact absurd HA.out (by simp [spec_l05Body.l0])
    | succ k2 =>
     have H:=HA.out;clear HA;simp only [spec_l05Body.l0] at H
     revert H;refine id2 ?_ ?_
     ·intro c23b0 H
      revert H;refine id1 ?_
      intro c24b0 H;obtain ⟨y48,hy48⟩:∃ y_:List ByteArray,y_=(([rdOf ByteArray.empty l0_4 x5_2]:List ByteArray)):=⟨_,rfl⟩
      replace H:((spec_l03Seg.f k2 (⟨#[78,79,84]⟩:ByteArray) y48).bind fun bt228=>(if x4_2.length<3518437208883 then (spec_l05Body.l0 k2 (x4_2++[(⟨bt228.1,bt228.2⟩:S46)]) (wrap64 (x5_2+1)) a0_0 a0_1 a0_2 a0_3 l0_4 l0_5) else (none)))=some r:=ye hy48 H
      have Ny48:=am hy48;clear hy48;replace H:=bo H;obtain ⟨⟨t76,t77⟩,A25,H⟩:=H;(try dsimp only at H)
      revert H;refine ip1 ?_
      intro c26 H;have LMc26:=am c26;clear c26;obtain ⟨y73,hy73⟩:∃ y_:List (S46),y_=(x4_2++[(⟨t76,t77⟩:S46)]):=⟨_,rfl⟩
      replace H:(spec_l05Body.l0 k2 y73 (wrap64 (x5_2+1)) a0_0 a0_1 a0_2 a0_3 l0_4 l0_5)=some r:=ye hy73 H
      have Ny73:=am hy73;clear hy73;have H':=am H;clear H;have hcz27:=cf6 BK45;have p49:0≤(x5_2:Int):=oa;have q49:x5_2<(l0_4.length:Int):=oa;obtain ⟨ad49,e49,hx49_0⟩:=Kd.at_string HR0_4.out x5_2 p49 q49
      cases e49
      replace hx49_0:=cb HB hx49_0;replace p49:=eq_true p49;replace q49:=eq_true q49
      go_wp2_with (first|((with_reducible refine gate_dst (N:=40) rfl ?_);refine rl Kd.string 9 (N:=40) (xs:=([rdOf ByteArray.empty l0_4 x5_2]:List ByteArray)) (inner:=[.string (rdOf ByteArray.empty l0_4 x5_2)]) ?hp ?_;(case hp=>exact (Reps.one (show Kd.M Kd.string _ _ _ (rdOf ByteArray.empty l0_4 x5_2) [.string (rdOf ByteArray.empty l0_4 x5_2)] from rfl) (Reps.none _ _)));intro v96 w28 ho29 hb hg_ hnew_;clear hg_ hnew_;(first|rw [← Ny48.out] at ho29|(simp only [Int.reduceToNat] at ho29;rw [← Ny48.out] at ho29));have n0_:=am (Kd.N_elder' (by (with_reducible repeat (first|apply Kd.N_alloc|apply Kd.N_drewN|apply Kd.N_drew));exact HO_4.out) (Kd.R_base ho29) hb);have n1_:=am (Kd.R_lower (Kd.R_newM (M:=fun k_=>(w.heap.size≤k_)) ho29 (below_size (bs HB)) (fun k_ h_=>h_)) (below_size (bs HB)));have n2_:=am (blk_below (ks BK45) hb);have n3_:=am (below_step (bs HB) hb);clear HO_4;clear BK45;clear HB;have HO_4:=n0_;have HO50:=n1_;have BK45:=n2_;have HB:=n3_;clear n0_ n1_ n2_ n3_;clear hb ho29;obtain ⟨Ao30,co30,eo30⟩:=Kd.R_slice HO50.out;subst eo30)|((first|((with_reducible refine gate_callee (f:=35) rfl ?_);refine goesL_ (some 41) rfl rfl Tryz.func35 (by kernel_rfl) rfl #[.string (⟨#[78,79,84]⟩:ByteArray),.slice Ao30 y48.length co30] rfl (by (try simp only [List.map_toArray,List.map_cons,List.map_nil]);first|done|rfl|(simp only [List.length_drop,List.length_take];rfl)) ?_;(with_reducible refine (spec_l03Seg.calls k2 (⟨#[78,79,84]⟩:ByteArray) _ _ y48 t76 t77 _ ?side1 ?side2 A25.out).mono ?_);(case side1=>exact sd (Kd.R_reads' HO50.out).2.2);(case side2=>exact (Kd.R_reads' HO50.out).2.1);rintro e w31 ⟨v91,rfl,ho0,hb⟩;refine ⟨_,rfl,?_⟩)|(go_at_call 35;(with_reducible refine (spec_l03Seg.calls k2 (⟨#[78,79,84]⟩:ByteArray) _ _ y48 t76 t77 _ ?side1 ?side2 A25.out).mono ?_);(case side1=>exact sd (Kd.R_reads' HO50.out).2.2);(case side2=>exact (Kd.R_reads' HO50.out).2.1);rintro e w31 ⟨v91,rfl,ho0,hb⟩));have n0_:=am (Kd.N_elder' (by (with_reducible repeat (first|apply Kd.N_alloc|apply Kd.N_drewN|apply Kd.N_drew));exact HO_4.out) (by first|exact Kd.N_base ho0|exact Kd.S_base ho0) hb);have n1_:=am (Kd.R_below (rs HO50) hb);have n2_:=am (Kd.N_lower (Kd.N_mono (ok':=fun k_=>(w.heap.size≤k_)∧some k_≠(u4:Value).ownBlock∧some k_≠(.slice Ao30 y48.length co30:Value).ownBlock∧k_≠gb45) (Kd.S_N (Kd.S_bound ho0)) (fun k_ hk_=>⟨(Nat.le_trans (below_size (bs HB)) hk_.2.1),(Kd.fresh' (Kd.N_lt (by (with_reducible repeat (first|apply Kd.N_alloc|apply Kd.N_drewN|apply Kd.N_drew));exact HO_4.out)) k_ hk_.2.1),(Kd.fresh' (Kd.R_lt (rs HO50)) k_ hk_.2.1),(Kd.freshB (g:=gb45) (o:=.cells #[.int .i64 a0_0,.string a0_1,.string a0_2,.int .i64 a0_3,.slice (some ad49) l0_4.length c0_4,.slice A0_5 l0_5.length c0_5] 31 (0,0)) (ks BK45) k_ hk_.2.1)⟩)) (below_size (bs HB)));have n3_:=am (blk_below (ks BK45) hb);have n4_:=am (below_step (bs HB) hb);clear HO_4;clear HO50;clear BK45;clear HB;have HO_4:=n0_;have HO50:=n1_;have HO85:=n2_;have BK45:=n3_;have HB:=n4_;clear n0_ n1_ n2_ n3_ n4_;(try clear hb);(try clear hb2);(try clear hk);(try clear hi);(try clear ho0);obtain ⟨Ao33,co33,eo33⟩:=Kd.N_slice HO85.out;subst eo33)|((with_reducible refine gate_builtin (b:=.append) (xs:=#[.tmp 34,.tmp 42]) rfl ?_);at_builtin;refine Kd.N_append k46 (w0:=w) w.heap.size rfl (.tmp 34) (.tmp 42) 27 46 (.agg #[(.string ⟨#[]⟩),(.slice none 0 0)]) 40 rfl Tryz.underlying27 info46 rfl (by decide) (by omega) u4 x4_2 (⟨t76,t77⟩:S46) [.string t76,.slice Ao33 t77.length co33] (fun k_=>(w.heap.size≤k_)∧some k_≠(.slice Ao30 y48.length co30:Value).ownBlock∧k_≠gb45) (fun k_=>((fun k_=>(w.heap.size≤k_)∧some k_≠(.slice Ao30 y48.length co30:Value).ownBlock∧k_≠gb45)) k_∧some k_≠(u4:Value).ownBlock) rfl rfl ?aP (fun _ hk=>hk) ?aF ?aO ?aB ?aS ?aL ?_;(case aP=>exact (k46_mkF _ _ (⟨t76,t77⟩:S46) (Kd.N_reads' (Kd.N_mono (ok':=(fun k_=>((fun k_=>(w.heap.size≤k_)∧some k_≠(.slice Ao30 y48.length co30:Value).ownBlock∧k_≠gb45)) k_∧some k_≠(u4:Value).ownBlock)) (HO85.out) (fun k_ hk=>⟨⟨hk.1,⟨hk.2.2.1,hk.2.2.2⟩⟩,hk.2.1⟩))).2.1 (Kd.N_F (Kd.N_mono (ok':=(fun k_=>((fun k_=>(w.heap.size≤k_)∧some k_≠(.slice Ao30 y48.length co30:Value).ownBlock∧k_≠gb45)) k_∧some k_≠(u4:Value).ownBlock)) (HO85.out) (fun k_ hk=>⟨⟨hk.1,⟨hk.2.2.1,hk.2.2.2⟩⟩,hk.2.1⟩)))));(case aB=>exact (bs HB));(case aF=>exact (fun k_ hk=>⟨(Nat.le_trans (below_size (bs HB)) hk),Kd.fresh' (Kd.R_lt (rs HO50)) k_ hk,Kd.freshB (g:=gb45) (o:=.cells #[.int .i64 a0_0,.string a0_1,.string a0_2,.int .i64 a0_3,.slice (some ad49) l0_4.length c0_4,.slice A0_5 l0_5.length c0_5] 31 (0,0)) (ks BK45) k_ hk⟩));(case aO=>exact (by (with_reducible repeat (first|apply Kd.N_alloc|apply Kd.N_drewN|apply Kd.N_drew));exact Kd.N_mono HO_4.out (fun _ hk=>⟨hk.1.1.1,⟨hk.1.2,hk.1.1.2⟩⟩)));(case aS=>exact (below_size (bs HB)));(case aL=>have:=LMc26.out;omega);intro v97 w32 ho hb hg hat;rw [← Ny73.out] at ho;have n0_:=am (blk_grown (ks BK45) hg (Kd.N_ne HO_4.out BK45.out (by decide)));have n1_:=am (Kd.R_over' (rs HO50) (Kd.N_typed (by (with_reducible repeat (first|apply Kd.N_alloc|apply Kd.N_drewN|apply Kd.N_drew));exact HO_4.out)) (by decide) hg);have n2_:=am (hb);have n3_:=am (ho);clear BK45;clear HO50;clear HB;clear HO_4;clear HO85;have BK45:=n0_;have HO50:=n1_;have HB:=n2_;have HO92:=n3_;clear n0_ n1_ n2_ n3_;clear ho hb hg hat))
      go_roundg k2
      case measure=>have:=HJ9.out;have:=HK2.out;omega
      case rel=>exact ⟨(y73),(wrap64 (x5_2+1)),fg,H',⟨by have:=HJ9.out;have:=HK2.out;omega⟩,⟨by (with_reducible repeat (first|apply Kd.N_alloc|apply Kd.N_drewN|apply Kd.N_drew));exact Kd.N_mono HO92.out (fun _ hk=>⟨hk.1,hk.2.2⟩)⟩,⟨ks BK45⟩,⟨bs HB⟩⟩
     ·intro c23b0 H;have H':=am H;clear H;have hcz34:=cf6 BK45
      go_wp2
      go_loopg [4,6] k2 (fun kq v4 v6 w'=>∃ (x4_3:List (S46)) (x6_3:Int),v6=.int .i64 x6_3∧Aside0 (spec_l05Body.l1 kq x4_3 x6_3 a0_0 a0_1 a0_2 a0_3 l0_4 l0_5=some r)∧Aside0 (kq≤k2)∧Aside0 (Kd.N k46 46 w' w.heap.size (fun k_=>(w.heap.size≤k_)∧k_≠gb45) v4 x4_3)∧Aside0 (w'.heap[gb45]? = some (.cells #[.int .i64 a0_0,.string a0_1,.string a0_2,.int .i64 a0_3,(.slice A0_4 l0_4.length c0_4),(.slice A0_5 l0_5.length c0_5)] 31 (0,0)))∧Aside0 (Below w.heap.size w w'))
      case atStart=>exact ⟨(x4_2),(0),fg,H',⟨Nat.le_refl _⟩,⟨by (with_reducible repeat (first|apply Kd.N_alloc|apply Kd.N_drewN|apply Kd.N_drew));exact HO_4.out⟩,⟨ks BK45⟩,⟨bs HB⟩⟩
      case round =>
       clear H'
       try clear c2
       try clear c23b0
       try clear hcz34
       try clear hcz9
       try clear BK45
       obtain ⟨x4_3,x6_3,rfl,HA,HK3,HO_4,BK45,HB⟩:=hrel
       cases gk with
       | zero=>exact absurd HA.out (by simp [spec_l05Body.l1])
       | succ k3 =>
        have H:=HA.out;clear HA;simp only [spec_l05Body.l1] at H
        revert H;refine id2 ?_ ?_
        ·intro c35b0 H
         revert H;refine id1 ?_
         intro c36b0 H;replace H:=bo H;obtain ⟨⟨t80,t81⟩,A37,H⟩:=H;(try dsimp only at H)
         revert H;refine ip1 ?_
         intro c38 H;have LMc38:=am c38;clear c38;obtain ⟨y74,hy74⟩:∃ y_:List (S46),y_=(x4_3++[(⟨t80,t81⟩:S46)]):=⟨_,rfl⟩
         replace H:(spec_l05Body.l1 k3 y74 (wrap64 (x6_3+1)) a0_0 a0_1 a0_2 a0_3 l0_4 l0_5)=some r:=ye hy74 H
         have Ny74:=am hy74;clear hy74;have H':=am H;clear H;have hcz39:=cf6 BK45
         try go_wp2
         replace HO_4:=am (Kd.N_drew HO_4.out);replace BK45:=am (blk_drew BK45.out);replace HB:=am (below_drew1 HB.out);have p47:0≤(x6_3:Int):=oa;have q47:x6_3<(l0_5.length:Int):=oa;obtain ⟨ad47,e47,hx47_0,hx47_1,hx47_2,hx47_3,hx47_4⟩:=at_T63 HR0_5.out x6_3 p47 q47;have hw47_4:=hx47_4;have hw47_3:=hx47_3;have hw47_2:=hx47_2;have hw47_1:=hx47_1;have hw47_0:=hx47_0
         cases e47
         replace hx47_0:=cb HB hx47_0;replace hx47_1:=cb HB hx47_1;replace hx47_2:=cb HB hx47_2;replace hx47_3:=cb HB hx47_3;replace hx47_4:=cb HB hx47_4;replace p47:=eq_true p47;replace q47:=eq_true q47;refine sta 12 (hb6a BK45 (hca (cb HB hw47_0) (hca (cb HB hw47_1) (hca (cb HB hw47_2) (hca (cb HB hw47_3) (hc (cb HB hw47_4))))))) (fun hHeld=>?_);refine with_tabW spec_l05Body.tab12 spec_l05Body.bits12 (fun HT_ HW_=>?_)
         generalize wr.drew=w40 at HO_4 BK45 HB hx47_0 hx47_1 hx47_2 hx47_3 hx47_4 hHeld ⊢
         refine pz2 0 ?_;refine pz1 3 ?_;refine pz1 5 ?_;refine ta 2 ?_;refine ta 4 ?_;refine pz1 6 ?_;refine ta 7 ?_;refine oA 8 59 HT_ (fun K hK=>?_);refine gA Tryz.func36 #[.int .i64 a0_0,.agg #[.int .i64 ((rd_T63 l0_5 x6_3).f0),.string ((rd_T63 l0_5 x6_3).f1),.int .i64 ((rd_T63 l0_5 x6_3).f2),.int .i64 ((rd_T63 l0_5 x6_3).f3),.string ((rd_T63 l0_5 x6_3).f4)]] ?_;(with_reducible refine (spec_l05Line.calls k3 a0_0 ((rd_T63 l0_5 x6_3).f0) ((rd_T63 l0_5 x6_3).f1) ((rd_T63 l0_5 x6_3).f2) ((rd_T63 l0_5 x6_3).f3) ((rd_T63 l0_5 x6_3).f4) t80 t81 _ A37.out).mono ?_);rintro e w41 ⟨v98,rfl,ho0,hb⟩;refine ⟨_,rfl,?_⟩;have n0_:=am (Kd.N_elder' (by (with_reducible repeat (first|apply Kd.N_alloc|apply Kd.N_drewN|apply Kd.N_drew));exact HO_4.out) (by first|exact Kd.N_base ho0|exact Kd.S_base ho0) hb);have n1_:=am (Kd.N_lower (Kd.N_mono (ok':=fun k_=>(w.heap.size≤k_)∧some k_≠(u4:Value).ownBlock∧k_≠gb45) (Kd.S_N (Kd.S_bound ho0)) (fun k_ hk_=>⟨(Nat.le_trans (below_size (bs HB)) hk_.2.1),(Kd.fresh' (Kd.N_lt (by (with_reducible repeat (first|apply Kd.N_alloc|apply Kd.N_drewN|apply Kd.N_drew));exact HO_4.out)) k_ hk_.2.1),(Kd.freshB (g:=gb45) (o:=.cells #[.int .i64 a0_0,.string a0_1,.string a0_2,.int .i64 a0_3,.slice A0_4 l0_4.length c0_4,.slice (some ad47) l0_5.length c0_5] 31 (0,0)) (ks BK45) k_ hk_.2.1)⟩)) (below_size (bs HB)));have n2_:=am (blk_below (ks BK45) hb);have n3_:=am (below_step (bs HB) hb);clear HO_4;clear BK45;clear HB;have HO_4:=n0_;have HO86:=n1_;have BK45:=n2_;have HB:=n3_;clear n0_ n1_ n2_ n3_;(try clear hb);(try clear hb2);(try clear hk);(try clear hi);(try clear ho0);obtain ⟨Ao43,co43,eo43⟩:=Kd.N_slice HO86.out
         (first|subst eo43|(injection eo43 with f1_ f2_ f3_;have f4_:=f1_.symm;have f5_:=f3_.symm;clear f1_ f2_ f3_;subst f4_;subst f5_))
         refine hK.out _ _ (hb6a BK45 (hca (cb HB hw47_0) (hca (cb HB hw47_1) (hca (cb HB hw47_2) (hca (cb HB hw47_3) (hc (cb HB hw47_4))))))).out (fun hHeld=>?_);clear hK K;refine nA 59 ?_;refine oA 9 60 HT_ (fun K hK=>?_);refine value_ (w1:=?_) (v:=?_) (by rfl) rfl ?_ ?_
         rotate_left 2
         ·go_simp
          constructor
          ·rfl
          ·rfl
         refine hK.out _ _ ⟨(blk_cell (blk_alloc BK45.out _) 0).trans rfl,(blk_cell (blk_alloc BK45.out _) 1).trans rfl,(blk_cell (blk_alloc BK45.out _) 2).trans rfl,(blk_cell (blk_alloc BK45.out _) 3).trans rfl,(blk_cell (blk_alloc BK45.out _) 4).trans rfl,(blk_cell (blk_alloc BK45.out _) 5).trans rfl,(World.cell?_alloc_lt _ _ _ (World.block_lt_of_cell? _ _ (((cb HB hw47_0).trans rfl)))).trans (((cb HB hw47_0).trans rfl)),(World.cell?_alloc_lt _ _ _ (World.block_lt_of_cell? _ _ (((cb HB hw47_1).trans rfl)))).trans (((cb HB hw47_1).trans rfl)),(World.cell?_alloc_lt _ _ _ (World.block_lt_of_cell? _ _ (((cb HB hw47_2).trans rfl)))).trans (((cb HB hw47_2).trans rfl)),(World.cell?_alloc_lt _ _ _ (World.block_lt_of_cell? _ _ (((cb HB hw47_3).trans rfl)))).trans (((cb HB hw47_3).trans rfl)),(World.cell?_alloc_lt _ _ _ (World.block_lt_of_cell? _ _ (((cb HB hw47_4).trans rfl)))).trans (((cb HB hw47_4).trans rfl))⟩ (fun hHeld=>?_);clear hK K;refine nA 60 ?_;refine oA 10 61 HT_ (fun K hK=>?_);refine Kd.N_append_step k46 (w0:=w) w.heap.size (by rfl) (.tmp 51) (.tmp 60) 27 46 (.agg #[(.string ⟨#[]⟩),(.slice none 0 0)]) 40 rfl Tryz.underlying27 info46 rfl (by decide) (by omega) u4 x4_3 (⟨t80,t81⟩:S46) [.string t80,.slice Ao43 t81.length co43] (fun k_=>(w.heap.size≤k_)∧k_≠gb45) (fun k_=>((fun k_=>(w.heap.size≤k_)∧k_≠gb45)) k_∧some k_≠(u4:Value).ownBlock) rfl rfl ?aP (fun _ hk=>hk) ?aF ?aO ?aB ?aS ?aL ?_
         (case aP=>exact (k46_mkF _ _ (⟨t80,t81⟩:S46) (Kd.N_reads' (Kd.N_mono (ok':=(fun k_=>((fun k_=>(w.heap.size≤k_)∧k_≠gb45)) k_∧some k_≠(u4:Value).ownBlock)) (HO86.out) (fun k_ hk=>⟨⟨hk.1,hk.2.2⟩,hk.2.1⟩))).2.1 (Kd.N_F (Kd.N_mono (ok':=(fun k_=>((fun k_=>(w.heap.size≤k_)∧k_≠gb45)) k_∧some k_≠(u4:Value).ownBlock)) (HO86.out) (fun k_ hk=>⟨⟨hk.1,hk.2.2⟩,hk.2.1⟩)))))
         (case aB=>exact (bs HB))
         (case aF=>exact (fun k_ hk=>⟨(Nat.le_trans (below_size (bs HB)) hk),Kd.freshB (g:=gb45) (o:=.cells #[.int .i64 a0_0,.string a0_1,.string a0_2,.int .i64 a0_3,.slice A0_4 l0_4.length c0_4,.slice (some ad47) l0_5.length c0_5] 31 (0,0)) (ks BK45) k_ hk⟩))
         (case aO=>exact (by (with_reducible repeat (first|apply Kd.N_alloc|apply Kd.N_drewN|apply Kd.N_drew));exact Kd.N_mono HO_4.out (fun _ hk=>⟨hk.1.1,hk.1.2⟩)))
         (case aS=>exact (below_size (bs HB)))
         (case aL=>have:=LMc38.out;omega)
         intro v99 w42 ho hb hg hat
         rw [← Ny74.out] at ho
         have n0_:=am (blk_grown (ks BK45) hg (Kd.N_ne HO_4.out BK45.out (by decide)));have n1_:=am (hb);have n2_:=am (ho);clear BK45;clear HB;clear HO_4;clear HO86;have BK45:=n0_;have HB:=n1_;have HO93:=n2_;clear n0_ n1_ n2_;clear ho hb hg hat;refine hK.out _ _ (hb6a BK45 (hca (cb HB hw47_0) (hca (cb HB hw47_1) (hca (cb HB hw47_2) (hca (cb HB hw47_3) (hc (cb HB hw47_4))))))).out (fun hHeld=>?_);clear hK K;refine nA 61 ?_;refine pz1 11 ?_;refine done_ (done_of HT_.out (by kernel_rfl)) ?_
         try go_wp2
         go_roundg k3
         case measure=>have:=HJ9.out;have:=HK2.out;have:=HK3.out;omega
         case rel=>exact ⟨(y74),(wrap64 (x6_3+1)),fg,H',⟨by have:=HJ9.out;have:=HK2.out;have:=HK3.out;omega⟩,⟨by (with_reducible repeat (first|apply Kd.N_alloc|apply Kd.N_drewN|apply Kd.N_drew));exact HO93.out⟩,⟨ks BK45⟩,⟨bs HB⟩⟩
        ·intro c35b0 H;obtain rfl:=si H;have hcz44:=cf6 BK45
         go_wp2
         go_ret
         exact ⟨_,ff,by (with_reducible repeat (first|apply Kd.N_alloc|apply Kd.N_drewN|apply Kd.N_drew));exact Kd.N_mono HO_4.out (fun _ hk=>hk.1),bs HB⟩
theorem spec_l02Tag.calls (k:Nat) (a0:ByteArray) (r:Bool) (w:World) (H:spec_l02Tag.f k a0=some r) :
  Calls Tryz.prog 51 #[.string a0] w fun e w'=>e=.returned (.bool r)∧Drawn0 w w':=by
 unfold spec_l02Tag.f at H
 revert H;refine ie2 ?_ ?_
 ·intro c2b0 c2b1 H;have H':=am H;clear H
  go_in
  go_wp2
  go_loopg [3] k (fun kq v3 w'=>∃ (x3_1:Int),v3=.int .i64 x3_1∧Aside0 (spec_l02Tag.l0 kq a0 x3_1=some r)∧Aside0 (kq≤k)∧Drawn0 w w')
  case atStart=>exact ⟨(0),fg,H',⟨Nat.le_refl _⟩,by repeat (first|exact Drawn0.refl _|apply Drawn0.step)⟩
  case round =>
   clear H'
   try clear c2b0
   try clear c2b1
   obtain ⟨x3_1,rfl,HA,HK1,⟨m1,rfl⟩⟩:=hrel
   cases gk with
   | zero=>exact absurd HA.out (by simp [spec_l02Tag.l0])
   | succ k1 =>
    have H:=HA.out;clear HA;simp only [spec_l02Tag.l0] at H
    revert H;refine id2 ?_ ?_
    ·intro c3b0 H
     revert H;refine id1 ?_
     intro c4b0 H
     revert H;refine id1 ?_
     intro c5b0 H
     revert H;refine id2 ?_ ?_
     ·intro c7b0 H;obtain rfl:=si H;have p6:0≤(x3_1:Int):=oa;have q6:x3_1<(a0.size:Int):=oa;have hx6:=bt_at a0 x3_1;replace p6:=eq_true p6;replace q6:=eq_true q6
      go_wp2
      go_ret
      exact ⟨fg,dr⟩
     ·intro c7b0 H
      revert H;refine ip2 ?_ ?_
      ·intro c9 H;have c9b0:decide (90<(bt a0 x3_1))=true:=decide_eq_true c9;clear c9;obtain rfl:=si H;have p6:0≤(x3_1:Int):=oa;have q6:x3_1<(a0.size:Int):=oa;have hx6:=bt_at a0 x3_1;replace p6:=eq_true p6;replace q6:=eq_true q6;have p8:0≤(x3_1:Int):=oa;have q8:x3_1<(a0.size:Int):=oa;have hx8:=bt_at a0 x3_1;replace p8:=eq_true p8;replace q8:=eq_true q8
       go_wp2
       go_ret
       exact ⟨fg,dr⟩
      ·intro c9 H;have c9b0:decide (90<(bt a0 x3_1))=false:=decide_eq_false c9;clear c9;have H':=am H;clear H;have p6:0≤(x3_1:Int):=oa;have q6:x3_1<(a0.size:Int):=oa;have hx6:=bt_at a0 x3_1;replace p6:=eq_true p6;replace q6:=eq_true q6;have p8:0≤(x3_1:Int):=oa;have q8:x3_1<(a0.size:Int):=oa;have hx8:=bt_at a0 x3_1;replace p8:=eq_true p8;replace q8:=eq_true q8
       go_wp2
       go_roundg k1
       case measure=>have:=HK1.out;omega
       case rel=>exact ⟨(wrap64 (x3_1+1)),fg,H',⟨by have:=HK1.out;omega⟩,by repeat (first|exact Drawn0.refl _|apply Drawn0.step)⟩
    ·intro c3b0 H;obtain rfl:=si H
     go_wp2
     go_ret
     exact ⟨fg,dr⟩
 ·intro c2 c2b0 c2b1 H;obtain rfl:=si H
  go_in
  go_wp2
  go_ret
  exact ⟨fg,dr⟩
theorem spec_l02Part.calls (k:Nat) (a0:ByteArray) (r:Bool) (w:World) (H:spec_l02Part.f k a0=some r) :
  Calls Tryz.prog 52 #[.string a0] w fun e w'=>e=.returned (.bool r)∧Drawn0 w w':=by
 unfold spec_l02Part.f at H
 revert H;refine ip2 ?_ ?_
 ·intro c2 H;have c2b0:decide (40<(a0.size:Int))=true:=decide_eq_true c2;have c2b1:decide (40<a0.size)=true:=decide_eq_true (by omega);clear c2;obtain rfl:=si H
  go_in
  go_wp2
  go_ret
  exact ⟨fg,dr⟩
 ·intro c2 H;have c2b0:decide (40<(a0.size:Int))=false:=decide_eq_false c2;have c2b1:decide (40<a0.size)=false:=decide_eq_false (by omega);clear c2;have H':=am H;clear H
  go_in
  go_wp2
  go_loopg [3] k (fun kq v3 w'=>∃ (x3_1:Int),v3=.int .i64 x3_1∧Aside0 (spec_l02Part.l0 kq a0 x3_1=some r)∧Aside0 (kq≤k)∧Drawn0 w w')
  case atStart=>exact ⟨(0),fg,H',⟨Nat.le_refl _⟩,by repeat (first|exact Drawn0.refl _|apply Drawn0.step)⟩
  case round =>
   clear H'
   try clear c2
   try clear c2b0
   try clear c2b1
   obtain ⟨x3_1,rfl,HA,HK1,⟨m1,rfl⟩⟩:=hrel
   cases gk with
   | zero=>exact absurd HA.out (by simp [spec_l02Part.l0])
   | succ k1 =>
    have H:=HA.out;clear HA;simp only [spec_l02Part.l0] at H
    revert H;refine id2 ?_ ?_
    ·intro c3b0 H
     revert H;refine id1 ?_
     intro c4b0 H
     revert H;refine id2 ?_ ?_
     ·intro c6b0 H;obtain rfl:=si H;have p5:0≤(x3_1:Int):=oa;have q5:x3_1<(a0.size:Int):=oa;have hx5:=bt_at a0 x3_1;replace p5:=eq_true p5;replace q5:=eq_true q5
      go_wp2
      go_ret
      exact ⟨fg,dr⟩
     ·intro c6b0 H
      revert H;refine ip2 ?_ ?_
      ·intro c8 H;have c8b0:decide (126<(bt a0 x3_1))=true:=decide_eq_true c8;clear c8;obtain rfl:=si H;have p5:0≤(x3_1:Int):=oa;have q5:x3_1<(a0.size:Int):=oa;have hx5:=bt_at a0 x3_1;replace p5:=eq_true p5;replace q5:=eq_true q5;have p7:0≤(x3_1:Int):=oa;have q7:x3_1<(a0.size:Int):=oa;have hx7:=bt_at a0 x3_1;replace p7:=eq_true p7;replace q7:=eq_true q7
       go_wp2
       go_ret
       exact ⟨fg,dr⟩
      ·intro c8 H;have c8b0:decide (126<(bt a0 x3_1))=false:=decide_eq_false c8;clear c8;have H':=am H;clear H;have p5:0≤(x3_1:Int):=oa;have q5:x3_1<(a0.size:Int):=oa;have hx5:=bt_at a0 x3_1;replace p5:=eq_true p5;replace q5:=eq_true q5;have p7:0≤(x3_1:Int):=oa;have q7:x3_1<(a0.size:Int):=oa;have hx7:=bt_at a0 x3_1;replace p7:=eq_true p7;replace q7:=eq_true q7
       go_wp2
       go_roundg k1
       case measure=>have:=HK1.out;omega
       case rel=>exact ⟨(wrap64 (x3_1+1)),fg,H',⟨by have:=HK1.out;omega⟩,by repeat (first|exact Drawn0.refl _|apply Drawn0.step)⟩
    ·intro c3b0 H;obtain rfl:=si H
     go_wp2
     go_ret
     exact ⟨fg,dr⟩
theorem spec_l02Empty.calls (A0_0:Option Addr) (c0_0:Nat) (l0_0:List ByteArray) (r:Bool) (w:World) (hr0_0:Kd.C Kd.string w A0_0 l0_0.length l0_0) (hc0_0:l0_0.length≤c0_0) (H:spec_l02Empty.f l0_0=some r) :
  Calls Tryz.prog 53 #[.agg #[.slice A0_0 l0_0.length c0_0]] w fun e w'=>e=.returned (.bool r)∧Below w.heap.size w w':=by
 have hu77:=Tryz.underlying77;have HR0_0:=am hr0_0;have HC0_0:=am hc0_0;clear hr0_0 hc0_0;have HB:=am (Below.refl w.heap.size w);unfold spec_l02Empty.f at H
 revert H;refine ie2 ?_ ?_
 ·intro c2b0 c2b1 H
  revert H;refine id1k ?_
  intro c3 c3b0 H;have c3b1:decide (0<l0_0.length)=true:=decide_eq_true (by omega);clear c3;obtain rfl:=si H
  go_in
  go_wp2_with (first|((with_reducible refine gate_dst (N:=1) rfl ?_);refine bz 1 (cs:=#[.slice A0_0 l0_0.length c0_0]) (t:=77) HB ?_;clear HB;intro gb9 hg w4 BK9 GW9 hb HB;clear hb hg;have hcz5:=cf1 BK9;have p8:0≤(0:Int):=(by omega);have q8:0<(l0_0.length:Int):=oa;obtain ⟨ad8,e8,hx8_0⟩:=Kd.at_string HR0_0.out 0 p8 q8;cases e8;have qi8:(0<l0_0.length)=True:=eq_true (by omega);(try rw [show ((0:Int)).toNat=0 from rfl] at hx8_0);(try rw [Addr.add_zero'] at hx8_0);replace hx8_0:=cb HB hx8_0;replace p8:=eq_true p8;replace q8:=eq_true q8))
  go_ret
  exact ⟨ff,bs HB⟩
 ·intro c2 c2b0 c2b1 H;obtain rfl:=si H
  go_in
  go_wp2_with (first|((with_reducible refine gate_dst (N:=1) rfl ?_);refine bz 1 (cs:=#[.slice A0_0 l0_0.length c0_0]) (t:=77) HB ?_;clear HB;intro gb9 hg w6 BK9 GW9 hb HB;clear hb hg;have hcz7:=cf1 BK9))
  go_ret
  exact ⟨ff,bs HB⟩
theorem spec_SegmentRight.calls (k:Nat) (a0_0:ByteArray) (A0_1:Option Addr) (c0_1:Nat) (l0_1:List (S77)) (r:Bool) (w:World) (hr0_1:Kd.C k77 w A0_1 l0_1.length l0_1) (hc0_1:l0_1.length≤c0_1) (H:spec_SegmentRight.f k a0_0 l0_1=some r) :
  Calls Tryz.prog 30 #[.agg #[.string a0_0,.slice A0_1 l0_1.length c0_1]] w fun e w'=>e=.returned (.bool r)∧Below w.heap.size w w':=by
 have hu46:=Tryz.underlying46;have hu77:=Tryz.underlying77;have HR0_1:=am hr0_1;have HC0_1:=am hc0_1;clear hr0_1 hc0_1;have HB:=am (Below.refl w.heap.size w);unfold spec_SegmentRight.f at H;have HC2:=am H;clear H
 go_in
 go_upto_region 1 with (first|((with_reducible refine gate_dst (N:=1) rfl ?_);(try (refine gate_guard (by rfl) ?_;dsimp only));refine bz 1 (cs:=#[.string a0_0,.slice A0_1 l0_1.length c0_1]) (t:=46) HB ?_;clear HB;intro gb19 hg w3 BK19 GW19 hb HB;clear hb hg))
 (try simp only [Act.put,List.setIfInBounds_toArray,List.set_cons_zero,List.set_cons_succ])
 go_cut [15] (fun v15 wc=>∃ (kq:Nat) (x15_1:Bool),v15=.bool x15_1∧Aside0 (spec_SegmentRight.j0 kq x15_1 a0_0 l0_1=some r)∧Aside0 (kq≤k)∧Aside0 (wc.heap[gb19]? = some (.cells #[.string a0_0,(.slice A0_1 l0_1.length c0_1)] 46 (0,0)))∧Aside0 (Below w.heap.size w wc))
 case first =>
  have H:=HC2.out;clear HC2;replace H:=bo H;obtain ⟨t36,A4,H⟩:=H;have hcz5:=cf2 BK19
  try go_wp2_with (fail)
  go_at_call 51;(with_reducible refine (spec_l02Tag.calls k a0_0 t36 _ A4.out).mono ?_);rintro e w' ⟨rfl,⟨nd,rfl⟩⟩
  obtain rfl|rfl:=bt t36
  ·replace H:=itT H;have H':=am H;clear H;have hcz7:=cf2 BK19
   go_wp2
   go_meet
   case rel=>exact ⟨_,(decide ((l0_1.length:Int)>10)),fg,H',⟨fl⟩,⟨ks BK19⟩,⟨bs HB⟩⟩
  ·replace H:=itF H;have H':=am H;clear H
   go_wp2
   go_meet
   case rel=>exact ⟨_,(true),fg,H',⟨fl⟩,⟨ks BK19⟩,⟨bs HB⟩⟩
 case rest =>
  clear HC2
  obtain ⟨kq,x15_1,rfl,HA,HJ1,BK19,HB⟩:=hcut
  cases kq with
  | zero=>exact absurd HA.out (by simp [spec_SegmentRight.j0])
  | succ kj1 =>
   have H:=HA.out;clear HA;simp only [spec_SegmentRight.j0] at H
   obtain rfl|rfl:=bt x15_1
   ·replace H:=itT H;obtain rfl:=si H
    go_wp2
    go_ret
    exact ⟨ff,bs HB⟩
   ·replace H:=itF H;have H':=am H;clear H
    go_wp2
    go_loopg [3] kj1 (fun kq v3 w'=>∃ (x3_2:Int),v3=.int .i64 x3_2∧Aside0 (spec_SegmentRight.l0 kq x3_2 a0_0 l0_1=some r)∧Aside0 (kq≤kj1)∧Aside0 (w'.heap[gb19]? = some (.cells #[.string a0_0,(.slice A0_1 l0_1.length c0_1)] 46 (0,0)))∧Aside0 (Below w.heap.size w w'))
    case atStart=>exact ⟨(0),fg,H',⟨Nat.le_refl _⟩,⟨ks BK19⟩,⟨bs HB⟩⟩
    case round =>
     clear H'
     try clear BK19
     obtain ⟨x3_2,rfl,HA,HK2,BK19,HB⟩:=hrel
     cases gk with
     | zero=>exact absurd HA.out (by simp [spec_SegmentRight.l0])
     | succ k2 =>
      have H:=HA.out;clear HA;simp only [spec_SegmentRight.l0] at H
      revert H;refine id2 ?_ ?_
      ·intro c9b0 H
       revert H;refine id1 ?_
       intro c10b0 H;have HC11:=am H;clear H;have hcz12:=cf2 BK19;have p6:0≤(x3_2:Int):=oa;have q6:x3_2<(l0_1.length:Int):=oa;obtain ⟨ad6,A6_0,c6_0,e6,hx6_0,hl6_0,hi6_0⟩:=at_T77 HR0_1.out x3_2 p6 q6
       cases e6
       replace hx6_0:=cb HB hx6_0;have HR6_0:=am hi6_0;have HC6_0:=am hl6_0;clear hi6_0 hl6_0;replace p6:=eq_true p6;replace q6:=eq_true q6
       go_upto_region 7 with (fail)
       go_cut [50] (fun v50 wc=>∃ (kq:Nat) (x50_10:Bool),v50=.bool x50_10∧Aside0 (spec_SegmentRight.j2 kq x3_2 ((rd_T77 l0_1 x3_2).f0) x50_10 a0_0 l0_1=some r)∧Aside0 (kq≤k2)∧Aside0 (wc.heap[gb19]? = some (.cells #[.string a0_0,(.slice (some ad6) l0_1.length c0_1)] 46 (0,0)))∧Aside0 (Below w.heap.size w wc))
       case first =>
        have H:=HC11.out;clear HC11
        revert H;refine id2k ?_ ?_
        ·intro c13 c13b0 H;have c13b1:decide (((rd_T77 l0_1 x3_2).f0).length<1)=true:=decide_eq_true (by omega);clear c13
         (first|rw [c13b0]|(simp only [i64_w,i32_w];rw [c13b0])|rw [c13b1]|skip)
         have H':=am H;clear H
         go_wp2
         go_meet
         case rel=>exact ⟨_,(true),fg,H',⟨by have:=HJ1.out;have:=HK2.out;first|omega|exact Nat.le_refl _⟩,⟨ks BK19⟩,⟨bs HB⟩⟩
        ·intro c13 c13b0 H;have c13b1:decide (((rd_T77 l0_1 x3_2).f0).length<1)=false:=decide_eq_false (by omega);clear c13
         (first|rw [c13b0]|(simp only [i64_w,i32_w];rw [c13b0])|rw [c13b1]|skip)
         revert H;refine ip2 ?_ ?_
         ·intro c14 H;have c14b0:decide (4<(((rd_T77 l0_1 x3_2).f0).length:Int))=true:=decide_eq_true c14;have c14b1:decide (4<((rd_T77 l0_1 x3_2).f0).length)=true:=decide_eq_true (by omega);clear c14;have H':=am H;clear H
          go_wp2
          go_meet
          case rel=>exact ⟨_,(true),fg,H',⟨by have:=HJ1.out;have:=HK2.out;first|omega|exact Nat.le_refl _⟩,⟨ks BK19⟩,⟨bs HB⟩⟩
         ·intro c14 H;have c14b0:decide (4<(((rd_T77 l0_1 x3_2).f0).length:Int))=false:=decide_eq_false c14;have c14b1:decide (4<((rd_T77 l0_1 x3_2).f0).length)=false:=decide_eq_false (by omega);clear c14
          revert H;refine ip2 ?_ ?_
          ·intro c15 H;have c15b0:decide (1<(((rd_T77 l0_1 x3_2).f0).length:Int))=true:=decide_eq_true c15;have c15b1:decide (1<((rd_T77 l0_1 x3_2).f0).length)=true:=decide_eq_true (by omega);clear c15;obtain ⟨ji16,hji16⟩:∃ j_:Int,(wrap64 ((((rd_T77 l0_1 x3_2).f0).length:Int) - 1))=j_:=⟨_,rfl⟩
           replace H:(if 0≤(ji16) then (if (ji16)<(((rd_T77 l0_1 x3_2).f0).length:Int) then (spec_SegmentRight.j2 k2 x3_2 ((rd_T77 l0_1 x3_2).f0) ((rdOf ByteArray.empty ((rd_T77 l0_1 x3_2).f0) (ji16)).toList == ([]:List UInt8)) a0_0 l0_1) else (none)) else (none))=some r:=by first|(rw [hji16] at H;exact H)|(simp only [hji16] at H ⊢;exact H)
           have hji16w:(IntKind.i64.wrap ((((rd_T77 l0_1 x3_2).f0).length:Int) - 1))=ji16:=(i64_w _).trans hji16
           revert H;refine id1 ?_
           intro c17b0 H
           revert H;refine id1 ?_
           intro c18b0 H;have H':=am H;clear H;have p33:0≤((ji16):Int):=oa;have q33:(ji16)<(((rd_T77 l0_1 x3_2).f0).length:Int):=oa;obtain ⟨ad33,e33,hx33_0⟩:=Kd.at_string HR6_0.out (ji16) p33 q33
           cases e33
           replace hx33_0:=cb HB hx33_0;replace p33:=eq_true p33;replace q33:=eq_true q33
           go_wp2
           go_meet
           case rel=>exact ⟨_,(((rdOf ByteArray.empty ((rd_T77 l0_1 x3_2).f0) (ji16)).toList == ([]:List UInt8))),(by first|rfl|(simp;done)|(simp only [← hji16] <;> (first|rfl|simp))|(simp [*];done)),H',⟨by have:=HJ1.out;have:=HK2.out;first|omega|exact Nat.le_refl _⟩,⟨ks BK19⟩,⟨bs HB⟩⟩
          ·intro c15 H;have c15b0:decide (1<(((rd_T77 l0_1 x3_2).f0).length:Int))=false:=decide_eq_false c15;have c15b1:decide (1<((rd_T77 l0_1 x3_2).f0).length)=false:=decide_eq_false (by omega);clear c15;have H':=am H;clear H
           go_wp2
           go_meet
           case rel=>exact ⟨_,(false),fg,H',⟨by have:=HJ1.out;have:=HK2.out;first|omega|exact Nat.le_refl _⟩,⟨ks BK19⟩,⟨bs HB⟩⟩
       case rest =>
        clear HC11
        try clear c9b0
        try clear c10b0
        try clear hcz12
        try clear hx6_0
        try clear p6
        try clear q6
        obtain ⟨kq,x50_10,rfl,HA,HJ10,BK19,HB⟩:=hcut
        cases kq with
        | zero=>exact absurd HA.out (by simp [spec_SegmentRight.j2])
        | succ kj10 =>
         have H:=HA.out;clear HA;simp only [spec_SegmentRight.j2] at H
         obtain rfl|rfl:=bt x50_10
         ·replace H:=itT H;obtain rfl:=si H
          go_wp2
          go_ret
          exact ⟨ff,bs HB⟩
         ·replace H:=itF H;have H':=am H;clear H
          go_wp2
          go_loopg [5] kj10 (fun kq v5 w'=>∃ (x5_4:Int),v5=.int .i64 x5_4∧Aside0 (spec_SegmentRight.l1 kq x3_2 ((rd_T77 l0_1 x3_2).f0) x5_4 a0_0 l0_1=some r)∧Aside0 (kq≤kj10)∧Aside0 (w'.heap[gb19]? = some (.cells #[.string a0_0,(.slice (some ad6) l0_1.length c0_1)] 46 (0,0)))∧Aside0 (Below w.heap.size w w'))
          case atStart=>exact ⟨(0),fg,H',⟨Nat.le_refl _⟩,⟨ks BK19⟩,⟨bs HB⟩⟩
          case round =>
           clear H'
           try clear c9b0
           try clear c10b0
           try clear hcz12
           try clear hx6_0
           try clear p6
           try clear q6
           try clear BK19
           obtain ⟨x5_4,rfl,HA,HK4,BK19,HB⟩:=hrel
           cases gk with
           | zero=>exact absurd HA.out (by simp [spec_SegmentRight.l1])
           | succ k4 =>
            have H:=HA.out;clear HA;simp only [spec_SegmentRight.l1] at H
            revert H;refine id2 ?_ ?_
            ·intro c20b0 H
             revert H;refine id1 ?_
             intro c21b0 H;replace H:=bo H;obtain ⟨t37,A22,H⟩:=H;have p34:0≤(x5_4:Int):=oa;have q34:x5_4<(((rd_T77 l0_1 x3_2).f0).length:Int):=oa;obtain ⟨ad34,e34,hx34_0⟩:=Kd.at_string HR6_0.out x5_4 p34 q34
             cases e34
             replace hx34_0:=cb HB hx34_0;replace p34:=eq_true p34;replace q34:=eq_true q34
             try go_wp2_with (fail)
             go_at_call 52;(with_reducible refine (spec_l02Part.calls k4 (rdOf ByteArray.empty ((rd_T77 l0_1 x3_2).f0) x5_4) t37 _ A22.out).mono ?_);rintro e w' ⟨rfl,⟨nd,rfl⟩⟩
             obtain rfl|rfl:=bt t37
             ·replace H:=itT H;have H':=am H;clear H
              go_wp2
              go_roundg k4
              case measure=>have:=HJ1.out;have:=HK2.out;have:=HJ10.out;have:=HK4.out;omega
              case rel=>exact ⟨(wrap64 (x5_4+1)),fg,H',⟨by have:=HJ1.out;have:=HK2.out;have:=HJ10.out;have:=HK4.out;omega⟩,⟨ks BK19⟩,⟨bs HB⟩⟩
             ·replace H:=itF H;obtain rfl:=si H
              go_wp2
              go_ret
              exact ⟨ff,bs HB⟩
            ·intro c20b0 H;have H':=am H;clear H
             go_wp2
             go_roundg k4
             case measure=>have:=HJ1.out;have:=HK2.out;have:=HJ10.out;have:=HK4.out;omega
             case rel=>exact ⟨(wrap64 (x3_2+1)),fg,H',⟨by have:=HJ1.out;have:=HK2.out;have:=HJ10.out;have:=HK4.out;omega⟩,⟨ks BK19⟩,⟨bs HB⟩⟩
      ·intro c9b0 H
       revert H;refine ie2 ?_ ?_
       ·intro c24b0 c24b1 H;obtain rfl:=si H;have hcz25:=cf2 BK19
        go_wp2
        go_ret
        exact ⟨ff,bs HB⟩
       ·intro c24 c24b0 c24b1 H
        have c24b2:¬ (l0_1=[]):=fun h_=>c24 (by rw [h_];rfl)
        obtain ⟨ji26,hji26⟩:∃ j_:Int,(wrap64 ((l0_1.length:Int) - 1))=j_:=⟨_,rfl⟩
        replace H:(if 0≤(ji26) then (if (ji26)<(l0_1.length:Int) then ((spec_l02Empty.f ((rd_T77 l0_1 (ji26)).f0)).bind fun t35=>(some (!t35))) else (none)) else (none))=some r:=by first|(rw [hji26] at H;exact H)|(simp only [hji26] at H ⊢;exact H)
        have hji26w:(IntKind.i64.wrap ((l0_1.length:Int) - 1))=ji26:=(i64_w _).trans hji26
        by_cases c27:0≤(ji26)
        ·rw [if_pos c27] at H;have c27b0:decide (0≤(ji26))=true:=decide_eq_true c27;clear c27
         revert H;refine id1 ?_
         intro c28b0 H;replace H:=bo H;obtain ⟨t35,A29,H⟩:=H;obtain rfl:=si H;have hcz30:=cf2 BK19;have p23:0≤((ji26):Int):=oa;have q23:(ji26)<(l0_1.length:Int):=oa;obtain ⟨ad23,A23_0,c23_0,e23,hx23_0,hl23_0,hi23_0⟩:=at_T77 HR0_1.out (ji26) p23 q23
         cases e23
         replace hx23_0:=cb HB hx23_0;have HR23_0:=am hi23_0;have HC23_0:=am hl23_0;clear hi23_0 hl23_0;replace p23:=eq_true p23;replace q23:=eq_true q23
         go_wp2_with (first|(go_at_call 53;(with_reducible refine (spec_l02Empty.calls _ _ ((rd_T77 l0_1 (ji26)).f0) t35 _ (Kd.C_below HR23_0.out (bs HB)) HC23_0.out A29.out).mono ?_);rintro e w31 ⟨rfl,hb⟩;replace BK19:=bb BK19 hb;replace HB:=bq HB hb;(try clear hb);(try clear hb2);(try clear hk);(try clear hi)))
         go_ret
         exact ⟨by first|rfl|(simp [errW_none,errW_some] <;> rfl)|(simp only [← hji26];first|rfl|(simp [errW_none,errW_some] <;> rfl))|(simp [*,errW_none,errW_some] <;> rfl),bs HB⟩
        ·rw [if_neg c27] at H
         exact absurd H (by simp)
end Go.Proofs.YtaememmnhmebcaaGreatDoor.QB

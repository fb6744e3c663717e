-- Merged by a program of this session (wip/tool/pack.py) out of its own texts for this claim.
import Derived.Test.YtaememmnhmebcaaGreatDoorKFnExactPaperBody5
set_option maxHeartbeats 8000000
set_option maxRecDepth 100000
set_option linter.unusedSimpArgs false
set_option linter.unusedVariables false
namespace Go.Proofs.YtaememmnhmebcaaGreatDoor.QB
open Go.RowKit Go.Proofs.YtaememmnhmebcaaGreatDoorW.PrintWords Go.Proofs.YtaememmnhmebcaaGreatDoorW.PrintLast Go.Proofs.YtaememmnhmebcaaGreatDoorW.PrintMore
attribute [local go_sem] max2_int min2_int max_two min_two max_three min_three max_four min_four   -- for this text's walks alone
def spec_l03Seg.T5:Bool × List (List Nat × List Nat):=(true,[([],[]),([0],[0]),([],[]),([],[]),([2,3],[2,3]),([4],[4]),([5],[5]),([6],[6]),([7],[7]),([1,8],[1,8]),([0,1,2,3,4,5,6,7,8,9],[]),([10,9,9,0,1,2,3,4,5,6,7,8,9],[9,10])])
def spec_l03Seg.B5:List Nat:=[0,1,0,0,12,28,60,124,252,511,1023,2047]
theorem spec_l03Seg.tab5:rtab .any (opsOf Tryz.f35 5)=spec_l03Seg.T5:=by kernel_rfl
theorem spec_l03Seg.bits5:waitsOk spec_l03Seg.T5.2 spec_l03Seg.B5=true:=by kernel_rfl
theorem spec_l03Seg.calls (k:Nat) (a0:ByteArray) (A1:Option Addr) (c1:Nat) (l1:List ByteArray) (r1:ByteArray) (r2:List (S77)) (w:World) (hr1:Kd.C Kd.string w A1 l1.length l1) (hc1:l1.length≤c1) (H:spec_l03Seg.f k a0 l1=some (r1,r2)) :
  Calls Tryz.prog 35 #[.string a0,.slice A1 l1.length c1] w fun e w'=>∃ v1_:Value,e=.returned (.agg #[.string r1,v1_])∧Kd.S k77 77 w' w.heap.size (fun _=>True) v1_ r2∧Below w.heap.size w w':=by
 have hu46:=Tryz.underlying46;have hu77:=Tryz.underlying77;have HR1:=am hr1;have HC1:=am hc1;clear hr1 hc1;have HB:=am (Below.refl w.heap.size w);unfold spec_l03Seg.f at H;have H':=am H;clear H
 go_in
 go_wp2_with (first|((with_reducible refine gate_dst (N:=4) rfl ?_);refine bz 4 (cs:=#[.string (⟨#[]⟩:ByteArray),.slice none 0 0]) (t:=46) HB ?_;clear HB;intro gb27 hg w3 BK27 GW27 hb HB;clear hb hg)|((with_reducible refine gate_dst (N:=5) rfl ?_);refine bz 5 (cs:=#[.string (⟨#[]⟩:ByteArray),.slice none 0 0]) (t:=46) HB ?_;clear HB;intro gb26 hg w4 BK26 GW26 hb HB;have NB27_26:=na hg BK27;have NB26_27:=nc hg BK27;replace BK27:=bb BK27 hb;clear hb hg;have hnb5:=NB26_27.out;have hnc5:=NB27_26.out;have hcz6:=cf2 BK26))
 go_loopg [6] k (fun kq v6 w'=>∃ (x6_1:Int) (x31_1:List (S77)) (u133001:Value),v6=.int .i64 x6_1∧Aside0 (spec_l03Seg.l0 kq l1 x6_1 a0 x31_1=some (r1,r2))∧Aside0 (kq≤k)∧Aside0 (Kd.S k77 77 w' w.heap.size (fun _=>True) u133001 x31_1)∧Aside0 (w'.heap[gb27]? = some (.cells #[.string (⟨#[]⟩:ByteArray),(.slice none 0 0)] 46 (0,0)))∧Aside0 (w'.heap[gb26]? = some (.cells #[.string a0,u133001] 46 (0,0)))∧Aside0 (Below w.heap.size w w'))
 case atStart=>exact ⟨(0),(([]:List (S77))),(.slice none 0 0),fg,H',⟨Nat.le_refl _⟩,⟨by first|exact Kd.S_nil _ _ _ _ _|exact Kd.N_nil _ _ _ _ _|exact Kd.V_nil _ _ _ _ _|exact Kd.Q_nil _ _ _ _ _|exact Kd.R_nil _ _ _ _ _⟩,⟨ks BK27⟩,⟨kp BK26⟩,⟨bs HB⟩⟩
 case round =>
  clear H'
  try clear c1
  try clear hcz6
  try clear BK27
  try clear BK26
  obtain ⟨x6_1,x31_1,u133001,rfl,HA,HK1,HO_133001,BK27,BK26,HB⟩:=hrel
  cases gk with
  | zero=>exact absurd HA.out (by simp [spec_l03Seg.l0])
  | succ k1 =>
   have H:=HA.out;clear HA;simp only [spec_l03Seg.l0] at H
   revert H;refine id2 ?_ ?_
   ·intro c7b0 H
    revert H;refine id1 ?_
    intro c8b0 H;obtain ⟨y29,hy29⟩:∃ y_:List ByteArray,y_=(([rdOf ByteArray.empty l1 x6_1]:List ByteArray)):=⟨_,rfl⟩
    replace H:(if x31_1.length<5864062014805 then (spec_l03Seg.l0 k1 l1 (wrap64 (x6_1+1)) a0 (x31_1++[(⟨y29⟩:S77)])) else (none))=some (r1,r2):=ye hy29 H
    have Ny29:=am hy29;clear hy29
    revert H;refine ip1 ?_
    intro c9 H;have LMc9:=am c9;clear c9;obtain ⟨y30,hy30⟩:∃ y_:List (S77),y_=(x31_1++[(⟨y29⟩:S77)]):=⟨_,rfl⟩
    replace H:(spec_l03Seg.l0 k1 l1 (wrap64 (x6_1+1)) a0 y30)=some (r1,r2):=ye hy30 H
    have Ny30:=am hy30;clear hy30;have H':=am H;clear H
    try go_wp2
    replace HO_133001:=am (Kd.S_drew HO_133001.out);replace BK27:=am (blk_drew BK27.out);replace BK26:=am (blk_drew BK26.out);replace HB:=am (below_drew1 HB.out);have p28:0≤(x6_1:Int):=oa;have q28:x6_1<(l1.length:Int):=oa;obtain ⟨ad28,e28,hx28_0⟩:=Kd.at_string HR1.out x6_1 p28 q28;have hw28_0:=hx28_0
    cases e28
    replace hx28_0:=cb HB hx28_0;replace p28:=eq_true p28;replace q28:=eq_true q28;refine stad 12 [11] (hb2a BK26 (hc (cb HB hw28_0))) (fun hHeld=>?_);refine with_tabW spec_l03Seg.tab5 spec_l03Seg.bits5 (fun HT_ HW_=>?_)
    generalize wr.drew=w10 at HO_133001 BK27 BK26 HB hx28_0 hHeld ⊢
    refine pz1 0 ?_;refine pz3 2 ?_;refine ta 1 ?_;refine ta 5 ?_;refine oA 6 21 HT_ (fun K hK=>?_);refine Kd.R_lit_step Kd.string _ 9 ?hg (N:=21) ?hd (xs:=([rdOf ByteArray.empty l1 x6_1]:List ByteArray)) (inner:=[.string (rdOf ByteArray.empty l1 x6_1)]) (ok:=fun _=>True) (okp:=fun _=>True) ?hr ?hp (fun _ hk=>hk) trivial (Below.refl _ _) (Nat.le_refl _) (by simp) ?_;(case hd=>rfl);(case hg=>rfl);(case hr=>first|(go_simp;done)|(go_simp;rfl));(case hp=>exact (Reps.one (show Kd.M Kd.string _ _ _ (rdOf ByteArray.empty l1 x6_1) [.string (rdOf ByteArray.empty l1 x6_1)] from rfl) (Reps.none _ _)));intro v34 w11 ho12 hb hg_ hnew_;clear hg_ hnew_
    (first|rw [← Ny29.out] at ho12|(simp only [Int.reduceToNat] at ho12;rw [← Ny29.out] at ho12))
    have n0_:=am (Kd.S_elder' (by (with_reducible repeat (first|apply Kd.S_alloc|apply Kd.S_drewN|apply Kd.S_drew));exact HO_133001.out) (Kd.R_base ho12) hb);have n1_:=am (Kd.R_lower ho12 (below_size (bs HB)));have n2_:=am (blk_below (ks BK27) hb);have n3_:=am (blk_below (ks BK26) hb);have n4_:=am (below_step (bs HB) hb);clear HO_133001;clear BK27;clear BK26;clear HB;have HO_133001:=n0_;have HO32:=n1_;have BK27:=n2_;have BK26:=n3_;have HB:=n4_;clear n0_ n1_ n2_ n3_ n4_;clear hb ho12;obtain ⟨Ao13,co13,eo13⟩:=Kd.R_slice HO32.out
    (first|subst eo13|(injection eo13 with f1_ f2_ f3_;have f4_:=f1_.symm;have f5_:=f3_.symm;clear f1_ f2_ f3_;subst f4_;subst f5_))
    refine hK.out _ _ (hb2a BK26 (hc (cb HB hw28_0))).out (fun hHeld=>?_);clear hK K;refine nA 21 ?_;refine pz1 7 ?_;refine oA 8 23 HT_ (fun K hK=>?_);refine value_ (w1:=?_) (v:=?_) (by rfl) rfl ?_ ?_
    rotate_left 2
    ·go_simp
     constructor
     ·rfl
     ·rfl
    refine hK.out _ _ ⟨(blk_cell (blk_alloc BK26.out _) 0).trans rfl,(blk_cell (blk_alloc BK26.out _) 1).trans rfl,(World.cell?_alloc_lt _ _ _ (World.block_lt_of_cell? _ _ (((cb HB hw28_0).trans rfl)))).trans (((cb HB hw28_0).trans rfl))⟩ (fun hHeld=>?_);clear hK K;refine nA 23 ?_;refine oA 9 24 HT_ (fun K hK=>?_);refine Kd.S_append_step k77 (w0:=w) w.heap.size (by rfl) (.tmp 16) (.tmp 23) 44 77 (.agg #[(.slice none 0 0)]) 24 rfl Tryz.underlying44 info77 rfl (by decide) (by omega) u133001 x31_1 (⟨y29⟩:S77) [.slice Ao13 y29.length co13] (fun _=>True) (fun k_=>some k_=(.slice Ao13 y29.length co13:Value).ownBlock) rfl rfl ?aP (fun k_ hk_=>((Kd.R_mono (ok':=fun k_=>((fun _=>True)) k_∧some k_≠(u133001:Value).ownBlock) (Kd.R_apart' (HO32.out) (Kd.S_typed HO_133001.out) (by decide)) (fun k_ hk=>⟨trivial,hk.2⟩))).1 k_ hk_.symm) ?aF ?aO ?aB ?aS ?aL ?_
    (case aP=>exact k77_mkM _ _ _ (⟨y29⟩:S77) (Kd.R_mono (Kd.R_tight rfl (Kd.R_mono (ok':=fun k_=>((fun _=>True)) k_∧some k_≠(u133001:Value).ownBlock) (Kd.R_apart' (HO32.out) (Kd.S_typed HO_133001.out) (by decide)) (fun k_ hk=>⟨trivial,hk.2⟩))) (fun _ h_=>h_)))
    (case aB=>exact (bs HB))
    (case aF=>exact (fun _ _=>trivial))
    (case aO=>exact (by (with_reducible repeat (first|apply Kd.S_alloc|apply Kd.S_drewN|apply Kd.S_drew));exact Kd.S_mono HO_133001.out (fun k_ hk=>⟨trivial,fun e_=>hk.2 e_⟩)))
    (case aS=>exact (below_size (bs HB)))
    (case aL=>have:=LMc9.out;omega)
    intro v36 w14 ho hb hg hat
    rw [← Ny30.out] at ho
    have n0_:=am (blk_grown (ks BK27) hg (Kd.S_ne HO_133001.out BK27.out (by decide)));have n1_:=am (blk_grown (ks BK26) hg (Kd.S_ne HO_133001.out BK26.out (by decide)));have n2_:=am (hb);have n3_:=am (ho);clear BK27;clear BK26;clear HB;clear HO_133001;clear HO32;have BK27:=n0_;have BK26:=n1_;have HB:=n2_;have HO33:=n3_;clear n0_ n1_ n2_ n3_;clear ho hb hg hat;obtain ⟨Ao15,co15,eo15⟩:=Kd.S_slice HO33.out
    (first|subst eo15|(injection eo15 with f1_ f2_ f3_;have f4_:=f1_.symm;have f5_:=f3_.symm;clear f1_ f2_ f3_;subst f4_;subst f5_))
    refine hK.out _ _ (hb2a BK26 (hc (cb HB hw28_0))).out (fun hHeld=>?_);clear hK K;refine nA 24 ?_;refine pz1 10 ?_;refine last_ (i:=11) (N:=none) #[true,true,true,true,true,true,true,true,true,true,true,true] rfl rfl (one_of HT_.out (by kernel_rfl)) (by decide) (fun K hK=>?_);have hs16:w14.cell? ⟨gb26,1,none⟩=some (u133001):=(blk_cell BK26.out 1).trans rfl;have hfs16:=blk_frozen BK26.out 1;have hns16_0:=NB27_26.out;have hms16_0:=NB26_27.out;refine skip_ (w1:=?_) (by rfl) rfl ?_ ?_
    rotate_left
    ·go_simp
     rfl
    refine hK.out _ _ ?_;clear hK K;refine done_ (done_of HT_.out (by kernel_rfl)) ?_
    try go_wp2
    go_roundg k1
    case measure=>have:=HK1.out;omega
    case rel=>exact ⟨(wrap64 (x6_1+1)),(y30),(.slice Ao15 y30.length co15),fg,H',⟨by have:=HK1.out;omega⟩,⟨by (with_reducible repeat (first|apply Kd.S_alloc|apply Kd.S_drewN|apply Kd.S_drew));exact Kd.S_mono (Kd.S_far (p:=⟨gb26,1,none⟩) (Kd.S_types HO33.out BK26.out (by decide)) (fun _ hk=>hk.2) (.slice Ao15 y30.length co15)) (fun _ hk=>trivial)⟩,⟨ks BK27⟩,⟨kp BK26⟩,⟨bs HB⟩⟩
   ·intro c7b0 H;replace H:=sj2 H;obtain ⟨rfl,rfl⟩:=H;have hnb17:=NB26_27.out;have hnc17:=NB27_26.out;have hcz18:=cf2 BK26;have hcz19:=cf2 BK27;obtain ⟨Ao20,co20,eo20⟩:=Kd.S_slice HO_133001.out;subst eo20
    go_wp2
    refine bodyPost_ret (results_cell_row rfl _ _ gb27 46 #[.string a0,.slice Ao20 x31_1.length co20] (0,0) _ rfl (kp BK27) Tryz.underlying46 rfl (by kernel_rfl)) rfl ?_
    exact ⟨_,ff,by (with_reducible repeat (first|apply Kd.S_alloc|apply Kd.S_drewN|apply Kd.S_drew));exact Kd.S_mono (Kd.S_far (p:=⟨gb27,1,none⟩) (Kd.S_far (p:=⟨gb27,0,none⟩) (Kd.S_types HO_133001.out BK27.out (by decide)) (fun _ hk=>hk.2) (.string a0)) (fun _ hk=>hk.2) (.slice Ao20 x31_1.length co20)) (fun _ hk=>trivial),bs HB⟩
def spec_l05Line.T3:Bool × List (List Nat × List Nat):=(true,[([],[]),([0],[0]),([1],[1]),([],[]),([3],[3]),([4,2],[4]),([2,5],[2,5]),([6,5,0,1,2,3,4,5,6],[6])])
def spec_l05Line.B3:List Nat:=[0,1,3,0,8,31,63,127]
theorem spec_l05Line.tab3:rtab .any (opsOf Tryz.f36 3)=spec_l05Line.T3:=by kernel_rfl
theorem spec_l05Line.bits3:waitsOk spec_l05Line.T3.2 spec_l05Line.B3=true:=by kernel_rfl
def spec_l05Line.T5:Bool × List (List Nat × List Nat):=(true,[([],[]),([0],[0]),([1],[1]),([],[]),([3],[3]),([],[]),([5],[5]),([6,2],[6]),([2,4,7],[2,4,7]),([8,7,0,1,2,3,4,5,6,7,8],[8])])
def spec_l05Line.B5:List Nat:=[0,1,3,0,8,0,32,103,255,511]
theorem spec_l05Line.tab5:rtab .any (opsOf Tryz.f36 5)=spec_l05Line.T5:=by kernel_rfl
theorem spec_l05Line.bits5:waitsOk spec_l05Line.T5.2 spec_l05Line.B5=true:=by kernel_rfl
def spec_l05Line.T10:Bool × List (List Nat × List Nat):=(true,[([],[]),([0],[0]),([],[]),([2],[2]),([3],[3]),([1,4],[1,4]),([5,4],[5]),([6,6,0,1,2,3,4,5,6],[6])])
def spec_l05Line.B10:List Nat:=[0,1,0,4,12,31,63,127]
theorem spec_l05Line.tab10:rtab .any (opsOf Tryz.f36 10)=spec_l05Line.T10:=by kernel_rfl
theorem spec_l05Line.bits10:waitsOk spec_l05Line.T10.2 spec_l05Line.B10=true:=by kernel_rfl
def spec_l05Line.T12:Bool × List (List Nat × List Nat):=(true,[([],[]),([0],[0]),([1],[1]),([],[]),([3],[3]),([4,2],[4]),([2,5],[2,5]),([6,5,0,1,2,3,4,5,6],[6])])
def spec_l05Line.B12:List Nat:=[0,1,3,0,8,31,63,127]
theorem spec_l05Line.tab12:rtab .any (opsOf Tryz.f36 12)=spec_l05Line.T12:=by kernel_rfl
theorem spec_l05Line.bits12:waitsOk spec_l05Line.T12.2 spec_l05Line.B12=true:=by kernel_rfl
theorem spec_l05Line.calls (k:Nat) (a0:Int) (a1_0:Int) (a1_1:ByteArray) (a1_2:Int) (a1_3:Int) (a1_4:ByteArray) (r1:ByteArray) (r2:List (S77)) (w:World) (H:spec_l05Line.f k a0 a1_0 a1_1 a1_2 a1_3 a1_4=some (r1,r2)) :
  Calls Tryz.prog 36 #[.int .i64 a0,.agg #[.int .i64 a1_0,.string a1_1,.int .i64 a1_2,.int .i64 a1_3,.string a1_4]] w fun e w'=>∃ v1_:Value,e=.returned (.agg #[.string r1,v1_])∧Kd.S k77 77 w' w.heap.size (fun _=>True) v1_ r2∧Below w.heap.size w w':=by
 have hu63:=Tryz.underlying63;have hu46:=Tryz.underlying46;have HB:=am (Below.refl w.heap.size w);unfold spec_l05Line.f at H;obtain ⟨y142,hy142⟩:∃ y_:List ByteArray,y_=(([]:List ByteArray)):=⟨_,rfl⟩
 replace H:(if a0=1 then ((spec_l01Dec.f k a1_0).bind fun t145=>((spec_l01Dec.f k a1_2).bind fun t146=>((some (([t145,a1_1,t146]:List ByteArray):List ByteArray)).bind fun y147=>(if a1_3=0 then ((spec_l03Seg.f k (⟨#[76,73,78]⟩:ByteArray) y147).bind fun bt150=>(some (bt150.1,bt150.2))) else ((spec_l01Dec.f k a1_3).bind fun t154=>(if y147.length<8796093022208 then ((spec_l03Seg.f k (⟨#[76,73,78]⟩:ByteArray) (y147++[t154])).bind fun bt158=>(some (bt158.1,bt158.2))) else (none))))))) else (if a0=5 then ((spec_l01Dec.f k a1_2).bind fun t162=>((spec_l03Seg.f k (⟨#[73,84,77]⟩:ByteArray) (([a1_1,t162]:List ByteArray))).bind fun bt166=>(some (bt166.1,bt166.2)))) else (if a0=7 then ((spec_l01Dec.f k a1_0).bind fun t170=>((spec_l01Dec.f k a1_2).bind fun t171=>((some (([t170,t171]:List ByteArray):List ByteArray)).bind fun y172=>(if a1_3=0 then ((spec_l03Seg.f k (⟨#[65,67,75]⟩:ByteArray) y172).bind fun bt175=>(some (bt175.1,bt175.2))) else ((spec_l01Dec.f k a1_3).bind fun t179=>(if y172.length<8796093022208 then ((spec_l03Seg.f k (⟨#[65,67,75]⟩:ByteArray) (y172++[t179])).bind fun bt183=>(some (bt183.1,bt183.2))) else (none))))))) else (if a0=6 then ((spec_l01Dec.f k a1_2).bind fun t187=>(spec_l05Line.j0 k a0 (([a1_1,t187]:List ByteArray)) a1_0 a1_1 a1_2 a1_3 a1_4)) else ((spec_l01Dec.f k a1_0).bind fun t191=>((spec_l01Dec.f k a1_2).bind fun t192=>(spec_l05Line.j0 k a0 (([t191,t192]:List ByteArray)) a1_0 a1_1 a1_2 a1_3 a1_4)))))))=some (r1,r2):=ye hy142 H
 have Ny142:=am hy142;clear hy142;have HC3:=am H;clear H
 go_in
 go_upto_block 0 with (first|((with_reducible refine gate_dst (N:=3) rfl ?_);refine bz 3 (cs:=#[.int .i64 a1_0,.string a1_1,.int .i64 a1_2,.int .i64 a1_3,.string a1_4]) (t:=63) HB ?_;clear HB;intro gb140 hg w4 BK140 GW140 hb HB;clear hb hg)|((with_reducible refine gate_dst (N:=4) rfl ?_);refine bz 4 (cs:=#[.string (⟨#[]⟩:ByteArray),.slice none 0 0]) (t:=46) HB ?_;clear HB;intro gb141 hg w5 BK141 GW141 hb HB;have NB140_141:=na hg BK140;have NB141_140:=nc hg BK140;replace BK140:=bb BK140 hb;clear hb hg)|((with_reducible refine gate_dst (N:=6) rfl ?_);refine rl Kd.string 9 (N:=6) (xs:=([]:List ByteArray)) (inner:=[]) ?hp ?_;(case hp=>exact (Reps.none _ _));intro v143 w6 ho7 hb hg_ hnew_;clear hg_ hnew_;(first|rw [← Ny142.out] at ho7|(simp only [Int.reduceToNat] at ho7;rw [← Ny142.out] at ho7));have HO144:=am (Kd.R_lower ho7 (below_size (bs HB)));replace BK140:=bb BK140 hb;replace BK141:=bb BK141 hb;replace HB:=bq HB hb;clear hb ho7))
 (try simp only [Act.put,List.setIfInBounds_toArray,List.set_cons_zero,List.set_cons_succ])
 go_cut [5] (fun v5 wc=>∃ (kq:Nat) (x5_2:List ByteArray) (x224_2:ByteArray),Aside0 (spec_l05Line.j0 kq a0 x5_2 a1_0 a1_1 a1_2 a1_3 a1_4=some (r1,r2))∧Aside0 (kq≤k)∧Aside0 (Kd.R Kd.string 9 wc w.heap.size (fun _=>True) v5 x5_2)∧Aside0 (wc.heap[gb140]? = some (.cells #[.int .i64 a1_0,.string a1_1,.int .i64 a1_2,.int .i64 a1_3,.string a1_4] 63 (0,0)))∧Aside0 (wc.heap[gb141]? = some (.cells #[.string x224_2,(.slice none 0 0)] 46 (0,0)))∧Aside0 (Below w.heap.size w wc))
 case first =>
  have H:=HC3.out;clear HC3
  revert H;refine ie2 ?_ ?_
  ·intro c8b0 c8b1 H
   (first|rw [c8b0]|(simp only [i64_w,i32_w];rw [c8b0])|rw [c8b1]|skip)
   replace H:=bo H;obtain ⟨t145,A9,H⟩:=H;replace H:=bo H;obtain ⟨t146,A10,H⟩:=H;obtain ⟨y147,hy147⟩:∃ y_:List ByteArray,y_=(([t145,a1_1,t146]:List ByteArray)):=⟨_,rfl⟩
   replace H:(if a1_3=0 then ((spec_l03Seg.f k (⟨#[76,73,78]⟩:ByteArray) y147).bind fun bt150=>(some (bt150.1,bt150.2))) else ((spec_l01Dec.f k a1_3).bind fun t154=>(if y147.length<8796093022208 then ((spec_l03Seg.f k (⟨#[76,73,78]⟩:ByteArray) (y147++[t154])).bind fun bt158=>(some (bt158.1,bt158.2))) else (none))))=some (r1,r2):=ye hy147 H
   have Ny147:=am hy147;clear hy147
   revert H;refine ie2 ?_ ?_
   ·intro c11b0 c11b1 H;replace H:=bo H;obtain ⟨⟨t150,t151⟩,A12,H⟩:=H;(try dsimp only at H);replace H:=sj2 H;obtain ⟨rfl,rfl⟩:=H
    try go_wp2
    replace HO144:=am (Kd.R_drew HO144.out);replace BK140:=am (blk_drew BK140.out);replace BK141:=am (blk_drew BK141.out);replace HB:=am (below_drew1 HB.out);refine sta 10 (hb5 BK140) (fun hHeld=>?_);refine with_tabW spec_l05Line.tab5 spec_l05Line.bits5 (fun HT_ HW_=>?_)
    generalize w6.drew=w13 at HO144 BK140 BK141 HB hHeld ⊢
    refine pz1 0 ?_;refine pz1 3 ?_;refine pz1 5 ?_;refine ta 1 ?_;refine ta 4 ?_;refine ta 6 ?_;refine oA 2 19 HT_ (fun K hK=>?_);refine gA Tryz.func33 #[.int .i64 a1_0] ?_;(with_reducible refine (spec_l01Dec.calls k a1_0 t145 _ A9.out).mono ?_);rintro e w14 ⟨rfl,hb⟩;refine ⟨_,rfl,?_⟩;replace HO144:=am (Kd.R_below (rs HO144) hb);replace BK140:=bb BK140 hb;replace BK141:=bb BK141 hb;replace HB:=bq HB hb;(try clear hb);(try clear hb2);(try clear hk);(try clear hi);refine hK.out _ _ (hb5 BK140).out (fun hHeld=>?_);clear hK K;refine nA 19 ?_;refine oA 7 24 HT_ (fun K hK=>?_);refine gA Tryz.func33 #[.int .i64 a1_2] ?_;(with_reducible refine (spec_l01Dec.calls k a1_2 t146 _ A10.out).mono ?_);rintro e w15 ⟨rfl,hb⟩;refine ⟨_,rfl,?_⟩;replace HO144:=am (Kd.R_below (rs HO144) hb);replace BK140:=bb BK140 hb;replace BK141:=bb BK141 hb;replace HB:=bq HB hb;(try clear hb);(try clear hb2);(try clear hk);(try clear hi);refine hK.out _ _ (hb5 BK140).out (fun hHeld=>?_);clear hK K;refine nA 24 ?_;refine oA 8 25 HT_ (fun K hK=>?_);refine Kd.R_lit_step Kd.string _ 9 ?hg (N:=25) ?hd (xs:=([t145,a1_1,t146]:List ByteArray)) (inner:=[.string t145,.string a1_1,.string t146]) (ok:=fun _=>True) (okp:=fun _=>True) ?hr ?hp (fun _ hk=>hk) trivial (Below.refl _ _) (Nat.le_refl _) (by simp) ?_;(case hd=>rfl);(case hg=>rfl);(case hr=>first|(go_simp;done)|(go_simp;rfl));(case hp=>exact (Reps.one (show Kd.M Kd.string _ _ _ t145 [.string t145] from rfl) (Reps.one (show Kd.M Kd.string _ _ _ a1_1 [.string a1_1] from rfl) (Reps.one (show Kd.M Kd.string _ _ _ t146 [.string t146] from rfl) (Reps.none _ _)))));intro v148 w16 ho17 hb hg_ hnew_;clear hg_ hnew_
    (first|rw [← Ny147.out] at ho17|(simp only [Int.reduceToNat] at ho17;rw [← Ny147.out] at ho17))
    have HO149:=am (Kd.R_lower (Kd.R_new' ho17 (Kd.R_lt (rs HO144))) (below_size (bs HB)));replace HO144:=am (Kd.R_elder' (rs HO144) (Kd.R_base ho17) hb);replace BK140:=bb BK140 hb;replace BK141:=bb BK141 hb;replace HB:=bq HB hb;clear hb ho17;refine hK.out _ _ (hb5 BK140).out (fun hHeld=>?_);clear hK K;refine nA 25 ?_;refine pz1 9 ?_;refine done_ (done_of HT_.out (by kernel_rfl)) ?_;have hnb18:=NB140_141.out;have hnc18:=NB141_140.out;have hcz19:=cf5 BK140;obtain ⟨Ao20,co20,eo20⟩:=Kd.R_slice HO149.out;subst eo20
    try go_wp2_with (first|((first|((with_reducible refine gate_callee (f:=35) rfl ?_);refine goesL_ (some 36) rfl rfl Tryz.func35 (by kernel_rfl) rfl #[.string (⟨#[76,73,78]⟩:ByteArray),.slice Ao20 y147.length co20] rfl (by (try simp only [List.map_toArray,List.map_cons,List.map_nil]);first|done|rfl|(simp only [List.length_drop,List.length_take];rfl)) ?_;(with_reducible refine (spec_l03Seg.calls k (⟨#[76,73,78]⟩:ByteArray) _ _ y147 t150 t151 _ ?side1 ?side2 A12.out).mono ?_);(case side1=>exact sd (Kd.R_reads' HO149.out).2.2);(case side2=>exact (Kd.R_reads' HO149.out).2.1);rintro e w21 ⟨v152,rfl,ho0,hb⟩;refine ⟨_,rfl,?_⟩)|(go_at_call 35;(with_reducible refine (spec_l03Seg.calls k (⟨#[76,73,78]⟩:ByteArray) _ _ y147 t150 t151 _ ?side1 ?side2 A12.out).mono ?_);(case side1=>exact sd (Kd.R_reads' HO149.out).2.2);(case side2=>exact (Kd.R_reads' HO149.out).2.1);rintro e w21 ⟨v152,rfl,ho0,hb⟩));have HO153:=am (Kd.S_lower (Kd.S_new' (Kd.S_new' ho0 (Kd.R_lt (rs HO144))) (Kd.R_lt (rs HO149))) (below_size (bs HB)));replace HO144:=am (Kd.R_below (rs HO144) hb);replace HO149:=am (Kd.R_below (rs HO149) hb);replace BK140:=bb BK140 hb;replace BK141:=bb BK141 hb;replace HB:=bq HB hb;(try clear hb);(try clear hb2);(try clear hk);(try clear hi);(try clear ho0);have hcz22:=cf2 BK141;obtain ⟨Ao23,co23,eo23⟩:=Kd.S_slice HO153.out;subst eo23))
    refine bodyPost_ret (results_cell_row rfl _ _ gb141 46 #[.string t150,.slice Ao23 t151.length co23] (0,0) _ rfl (kp BK141) Tryz.underlying46 rfl (by kernel_rfl)) rfl ?_
    exact ⟨_,ff,by (with_reducible repeat (first|apply Kd.S_alloc|apply Kd.S_drewN|apply Kd.S_drew));exact Kd.S_mono (Kd.S_far (p:=⟨gb141,1,none⟩) (Kd.S_far (p:=⟨gb141,0,none⟩) (Kd.S_types HO153.out BK141.out (by decide)) (fun _ hk=>hk.2) (.string t150)) (fun _ hk=>hk.2) (.slice Ao23 t151.length co23)) (fun _ hk=>trivial),bs HB⟩
   ·intro c11 c11b0 c11b1 H;replace H:=bo H;obtain ⟨t154,A24,H⟩:=H
    revert H;refine ip1 ?_
    intro c25 H;have LMc25:=am c25;clear c25;obtain ⟨y155,hy155⟩:∃ y_:List ByteArray,y_=(y147++[t154]):=⟨_,rfl⟩
    replace H:((spec_l03Seg.f k (⟨#[76,73,78]⟩:ByteArray) y155).bind fun bt158=>(some (bt158.1,bt158.2)))=some (r1,r2):=ye hy155 H
    have Ny155:=am hy155;clear hy155;replace H:=bo H;obtain ⟨⟨t158,t159⟩,A26,H⟩:=H;(try dsimp only at H);replace H:=sj2 H;obtain ⟨rfl,rfl⟩:=H
    try go_wp2
    replace HO144:=am (Kd.R_drew HO144.out);replace BK140:=am (blk_drew BK140.out);replace BK141:=am (blk_drew BK141.out);replace HB:=am (below_drew1 HB.out);refine sta 10 (hb5 BK140) (fun hHeld=>?_);refine with_tabW spec_l05Line.tab5 spec_l05Line.bits5 (fun HT_ HW_=>?_)
    generalize w6.drew=w27 at HO144 BK140 BK141 HB hHeld ⊢
    refine pz1 0 ?_;refine pz1 3 ?_;refine pz1 5 ?_;refine ta 1 ?_;refine ta 4 ?_;refine ta 6 ?_;refine oA 2 19 HT_ (fun K hK=>?_);refine gA Tryz.func33 #[.int .i64 a1_0] ?_;(with_reducible refine (spec_l01Dec.calls k a1_0 t145 _ A9.out).mono ?_);rintro e w28 ⟨rfl,hb⟩;refine ⟨_,rfl,?_⟩;replace HO144:=am (Kd.R_below (rs HO144) hb);replace BK140:=bb BK140 hb;replace BK141:=bb BK141 hb;replace HB:=bq HB hb;(try clear hb);(try clear hb2);(try clear hk);(try clear hi);refine hK.out _ _ (hb5 BK140).out (fun hHeld=>?_);clear hK K;refine nA 19 ?_;refine oA 7 24 HT_ (fun K hK=>?_);refine gA Tryz.func33 #[.int .i64 a1_2] ?_;(with_reducible refine (spec_l01Dec.calls k a1_2 t146 _ A10.out).mono ?_);rintro e w29 ⟨rfl,hb⟩;refine ⟨_,rfl,?_⟩;replace HO144:=am (Kd.R_below (rs HO144) hb);replace BK140:=bb BK140 hb;replace BK141:=bb BK141 hb;replace HB:=bq HB hb;(try clear hb);(try clear hb2);(try clear hk);(try clear hi);refine hK.out _ _ (hb5 BK140).out (fun hHeld=>?_);clear hK K;refine nA 24 ?_;refine oA 8 25 HT_ (fun K hK=>?_);refine Kd.R_lit_step Kd.string _ 9 ?hg (N:=25) ?hd (xs:=([t145,a1_1,t146]:List ByteArray)) (inner:=[.string t145,.string a1_1,.string t146]) (ok:=fun _=>True) (okp:=fun _=>True) ?hr ?hp (fun _ hk=>hk) trivial (Below.refl _ _) (Nat.le_refl _) (by simp) ?_;(case hd=>rfl);(case hg=>rfl);(case hr=>first|(go_simp;done)|(go_simp;rfl));(case hp=>exact (Reps.one (show Kd.M Kd.string _ _ _ t145 [.string t145] from rfl) (Reps.one (show Kd.M Kd.string _ _ _ a1_1 [.string a1_1] from rfl) (Reps.one (show Kd.M Kd.string _ _ _ t146 [.string t146] from rfl) (Reps.none _ _)))));intro v148 w30 ho31 hb hg_ hnew_;clear hg_ hnew_
    (first|rw [← Ny147.out] at ho31|(simp only [Int.reduceToNat] at ho31;rw [← Ny147.out] at ho31))
    have HO149:=am (Kd.R_lower (Kd.R_new' ho31 (Kd.R_lt (rs HO144))) (below_size (bs HB)));replace HO144:=am (Kd.R_elder' (rs HO144) (Kd.R_base ho31) hb);replace BK140:=bb BK140 hb;replace BK141:=bb BK141 hb;replace HB:=bq HB hb;clear hb ho31;refine hK.out _ _ (hb5 BK140).out (fun hHeld=>?_);clear hK K;refine nA 25 ?_;refine pz1 9 ?_;refine done_ (done_of HT_.out (by kernel_rfl)) ?_;have hnb32:=NB140_141.out;have hnc32:=NB141_140.out;have hcz33:=cf5 BK140
    try go_wp2_with (first|((first|((with_reducible refine gate_callee (f:=33) rfl ?_);refine goesL_ (some 32) rfl rfl Tryz.func33 (by kernel_rfl) rfl #[.int .i64 a1_3] rfl (by (try simp only [List.map_toArray,List.map_cons,List.map_nil]);first|done|rfl|(simp only [List.length_drop,List.length_take];rfl)) ?_;(with_reducible refine (spec_l01Dec.calls k a1_3 t154 _ A24.out).mono ?_);rintro e w34 ⟨rfl,hb⟩;refine ⟨_,rfl,?_⟩)|(go_at_call 33;(with_reducible refine (spec_l01Dec.calls k a1_3 t154 _ A24.out).mono ?_);rintro e w34 ⟨rfl,hb⟩));replace HO144:=am (Kd.R_below (rs HO144) hb);replace HO149:=am (Kd.R_below (rs HO149) hb);replace BK140:=bb BK140 hb;replace BK141:=bb BK141 hb;replace HB:=bq HB hb;(try clear hb);(try clear hb2);(try clear hk);(try clear hi))|((with_reducible refine gate_builtin (b:=.append) (xs:=#[.tmp 29,.tmp 33]) rfl ?_);at_builtin;refine Kd.R_append Kd.string (w0:=w) w.heap.size rfl (.tmp 29) (.tmp 33) 22 9 (.string ⟨#[]⟩) 16 rfl Tryz.underlying22 info9 rfl (by decide) (by omega) v148 y147 t154 [.string t154] (fun k_=>some k_≠(v143:Value).ownBlock) (fun _=>False) rfl rfl ?aP (fun _ hk=>hk.elim) ?aF ?aO ?aB ?aS ?aL ?_;(case aP=>exact rfl);(case aB=>exact (bs HB));(case aF=>exact (fun k_ hk=>Kd.fresh' (Kd.R_lt (rs HO144)) k_ hk));(case aO=>exact (by (with_reducible repeat (first|apply Kd.R_alloc|apply Kd.R_drewN|apply Kd.R_drew));exact Kd.R_mono HO149.out (fun _ hk=>hk.2)));(case aS=>exact (below_size (bs HB)));(case aL=>have:=LMc25.out;omega);intro v156 w35 ho hb hg hat;rw [← Ny155.out] at ho;have n0_:=am (blk_grown (ks BK140) hg (Kd.R_ne HO149.out BK140.out (by decide)));have n1_:=am (blk_grown (ks BK141) hg (Kd.R_ne HO149.out BK141.out (by decide)));have n2_:=am (Kd.R_after (ok:=(fun _=>True)) (rs HO144) hg hat);have n3_:=am (hb);have n4_:=am (ho);clear BK140;clear BK141;clear HO144;clear HB;clear HO149;have BK140:=n0_;have BK141:=n1_;have HO144:=n2_;have HB:=n3_;have HO157:=n4_;clear n0_ n1_ n2_ n3_ n4_;clear ho hb hg hat;obtain ⟨Ao36,co36,eo36⟩:=Kd.R_slice HO157.out;subst eo36)|((first|((with_reducible refine gate_callee (f:=35) rfl ?_);refine goesL_ (some 36) rfl rfl Tryz.func35 (by kernel_rfl) rfl #[.string (⟨#[76,73,78]⟩:ByteArray),.slice Ao36 y155.length co36] rfl (by (try simp only [List.map_toArray,List.map_cons,List.map_nil]);first|done|rfl|(simp only [List.length_drop,List.length_take];rfl)) ?_;(with_reducible refine (spec_l03Seg.calls k (⟨#[76,73,78]⟩:ByteArray) _ _ y155 t158 t159 _ ?side1 ?side2 A26.out).mono ?_);(case side1=>exact sd (Kd.R_reads' HO157.out).2.2);(case side2=>exact (Kd.R_reads' HO157.out).2.1);rintro e w37 ⟨v160,rfl,ho0,hb⟩;refine ⟨_,rfl,?_⟩)|(go_at_call 35;(with_reducible refine (spec_l03Seg.calls k (⟨#[76,73,78]⟩:ByteArray) _ _ y155 t158 t159 _ ?side1 ?side2 A26.out).mono ?_);(case side1=>exact sd (Kd.R_reads' HO157.out).2.2);(case side2=>exact (Kd.R_reads' HO157.out).2.1);rintro e w37 ⟨v160,rfl,ho0,hb⟩));have HO161:=am (Kd.S_lower (Kd.S_new' (Kd.S_new' ho0 (Kd.R_lt (rs HO144))) (Kd.R_lt (rs HO157))) (below_size (bs HB)));replace HO144:=am (Kd.R_below (rs HO144) hb);replace HO157:=am (Kd.R_below (rs HO157) hb);replace BK140:=bb BK140 hb;replace BK141:=bb BK141 hb;replace HB:=bq HB hb;(try clear hb);(try clear hb2);(try clear hk);(try clear hi);(try clear ho0);have hcz38:=cf2 BK141;obtain ⟨Ao39,co39,eo39⟩:=Kd.S_slice HO161.out;subst eo39))
    refine bodyPost_ret (results_cell_row rfl _ _ gb141 46 #[.string t158,.slice Ao39 t159.length co39] (0,0) _ rfl (kp BK141) Tryz.underlying46 rfl (by kernel_rfl)) rfl ?_
    exact ⟨_,ff,by (with_reducible repeat (first|apply Kd.S_alloc|apply Kd.S_drewN|apply Kd.S_drew));exact Kd.S_mono (Kd.S_far (p:=⟨gb141,1,none⟩) (Kd.S_far (p:=⟨gb141,0,none⟩) (Kd.S_types HO161.out BK141.out (by decide)) (fun _ hk=>hk.2) (.string t158)) (fun _ hk=>hk.2) (.slice Ao39 t159.length co39)) (fun _ hk=>trivial),bs HB⟩
  ·intro c8 c8b0 c8b1 H
   (first|rw [c8b0]|(simp only [i64_w,i32_w];rw [c8b0])|rw [c8b1]|skip)
   revert H;refine ie2 ?_ ?_
   ·intro c40b0 c40b1 H;replace H:=bo H;obtain ⟨t162,A41,H⟩:=H;obtain ⟨y163,hy163⟩:∃ y_:List ByteArray,y_=(([a1_1,t162]:List ByteArray)):=⟨_,rfl⟩
    replace H:((spec_l03Seg.f k (⟨#[73,84,77]⟩:ByteArray) y163).bind fun bt166=>(some (bt166.1,bt166.2)))=some (r1,r2):=ye hy163 H
    have Ny163:=am hy163;clear hy163;replace H:=bo H;obtain ⟨⟨t166,t167⟩,A42,H⟩:=H;(try dsimp only at H);replace H:=sj2 H;obtain ⟨rfl,rfl⟩:=H
    try go_wp2
    replace HO144:=am (Kd.R_drew HO144.out);replace BK140:=am (blk_drew BK140.out);replace BK141:=am (blk_drew BK141.out);replace HB:=am (below_drew1 HB.out);refine sta 8 (hb5 BK140) (fun hHeld=>?_);refine with_tabW spec_l05Line.tab10 spec_l05Line.bits10 (fun HT_ HW_=>?_)
    generalize w6.drew=w43 at HO144 BK140 BK141 HB hHeld ⊢
    refine pz1 0 ?_;refine pz1 2 ?_;refine ta 1 ?_;refine ta 3 ?_;refine oA 4 43 HT_ (fun K hK=>?_);refine gA Tryz.func33 #[.int .i64 a1_2] ?_;(with_reducible refine (spec_l01Dec.calls k a1_2 t162 _ A41.out).mono ?_);rintro e w44 ⟨rfl,hb⟩;refine ⟨_,rfl,?_⟩;replace HO144:=am (Kd.R_below (rs HO144) hb);replace BK140:=bb BK140 hb;replace BK141:=bb BK141 hb;replace HB:=bq HB hb;(try clear hb);(try clear hb2);(try clear hk);(try clear hi);refine hK.out _ _ (hb5 BK140).out (fun hHeld=>?_);clear hK K;refine nA 43 ?_;refine oA 5 44 HT_ (fun K hK=>?_);refine Kd.R_lit_step Kd.string _ 9 ?hg (N:=44) ?hd (xs:=([a1_1,t162]:List ByteArray)) (inner:=[.string a1_1,.string t162]) (ok:=fun _=>True) (okp:=fun _=>True) ?hr ?hp (fun _ hk=>hk) trivial (Below.refl _ _) (Nat.le_refl _) (by simp) ?_;(case hd=>rfl);(case hg=>rfl);(case hr=>first|(go_simp;done)|(go_simp;rfl));(case hp=>exact (Reps.one (show Kd.M Kd.string _ _ _ a1_1 [.string a1_1] from rfl) (Reps.one (show Kd.M Kd.string _ _ _ t162 [.string t162] from rfl) (Reps.none _ _))));intro v164 w45 ho46 hb hg_ hnew_;clear hg_ hnew_
    (first|rw [← Ny163.out] at ho46|(simp only [Int.reduceToNat] at ho46;rw [← Ny163.out] at ho46))
    have HO165:=am (Kd.R_lower (Kd.R_new' ho46 (Kd.R_lt (rs HO144))) (below_size (bs HB)));replace HO144:=am (Kd.R_elder' (rs HO144) (Kd.R_base ho46) hb);replace BK140:=bb BK140 hb;replace BK141:=bb BK141 hb;replace HB:=bq HB hb;clear hb ho46;obtain ⟨Ao47,co47,eo47⟩:=Kd.R_slice HO165.out
    (first|subst eo47|(injection eo47 with f1_ f2_ f3_;have f4_:=f1_.symm;have f5_:=f3_.symm;clear f1_ f2_ f3_;subst f4_;subst f5_))
    refine hK.out _ _ (hb5 BK140).out (fun hHeld=>?_);clear hK K;refine nA 44 ?_;refine oA 6 45 HT_ (fun K hK=>?_);refine gA Tryz.func35 #[.string (⟨#[73,84,77]⟩:ByteArray),.slice Ao47 y163.length co47] ?_;(with_reducible refine (spec_l03Seg.calls k (⟨#[73,84,77]⟩:ByteArray) _ _ y163 t166 t167 _ ?side1 ?side2 A42.out).mono ?_)
    (case side1=>exact sd (Kd.R_reads' HO165.out).2.2)
    (case side2=>exact (Kd.R_reads' HO165.out).2.1)
    rintro e w48 ⟨v168,rfl,ho0,hb⟩;refine ⟨_,rfl,?_⟩;have HO169:=am (Kd.S_lower (Kd.S_new' (Kd.S_new' ho0 (Kd.R_lt (rs HO144))) (Kd.R_lt (rs HO165))) (below_size (bs HB)));replace HO144:=am (Kd.R_below (rs HO144) hb);replace HO165:=am (Kd.R_below (rs HO165) hb);replace BK140:=bb BK140 hb;replace BK141:=bb BK141 hb;replace HB:=bq HB hb;(try clear hb);(try clear hb2);(try clear hk);(try clear hi);(try clear ho0);obtain ⟨Ao50,co50,eo50⟩:=Kd.S_slice HO169.out
    (first|subst eo50|(injection eo50 with f1_ f2_ f3_;have f4_:=f1_.symm;have f5_:=f3_.symm;clear f1_ f2_ f3_;subst f4_;subst f5_))
    refine hK.out _ _ (hb5 BK140).out (fun hHeld=>?_);clear hK K;refine nA 45 ?_;refine one_ (i:=7) (N:=none) #[true,true,true,true,true,true,true,true] rfl rfl (one_of HT_.out (by kernel_rfl)) (by decide) (fun K hK=>?_);have hs49:w48.cell? ⟨gb141,0,none⟩=some (.string (⟨#[]⟩:ByteArray)):=(blk_cell BK141.out 0).trans rfl;have hfs49:=blk_frozen BK141.out 0;have hns49_0:=NB140_141.out;have hms49_0:=NB141_140.out;have hs51:w48.cell? ⟨gb141,1,none⟩=some (.slice none 0 0):=(blk_cell BK141.out 1).trans rfl;have hfs51:=blk_frozen BK141.out 1;have hns51_0:=NB140_141.out;have hms51_0:=NB141_140.out;refine skip_ (w1:=?_) (by rfl) rfl ?_ ?_
    rotate_left
    ·go_simp
     rfl
    refine hK.out _ _ ⟨((cell_far (p:=⟨gb141,_,none⟩) NB140_141.out _).trans (((cell_far (p:=⟨gb141,_,none⟩) NB140_141.out _).trans (hHeld.1)))),((cell_far (p:=⟨gb141,_,none⟩) NB140_141.out _).trans (((cell_far (p:=⟨gb141,_,none⟩) NB140_141.out _).trans (hHeld.2.1)))),((cell_far (p:=⟨gb141,_,none⟩) NB140_141.out _).trans (((cell_far (p:=⟨gb141,_,none⟩) NB140_141.out _).trans (hHeld.2.2.1)))),((cell_far (p:=⟨gb141,_,none⟩) NB140_141.out _).trans (((cell_far (p:=⟨gb141,_,none⟩) NB140_141.out _).trans (hHeld.2.2.2.1)))),((cell_far (p:=⟨gb141,_,none⟩) NB140_141.out _).trans (((cell_far (p:=⟨gb141,_,none⟩) NB140_141.out _).trans (hHeld.2.2.2.2))))⟩ (fun hHeld=>?_);clear hK K;refine done_ (done_of HT_.out (by kernel_rfl)) ?_
    try go_wp2
    refine bodyPost_ret (results_cell_row rfl _ _ gb141 46 #[.string t166,.slice Ao50 t167.length co50] (0,0) _ rfl (kp BK141) Tryz.underlying46 rfl (by kernel_rfl)) rfl ?_
    exact ⟨_,ff,by (with_reducible repeat (first|apply Kd.S_alloc|apply Kd.S_drewN|apply Kd.S_drew));exact Kd.S_mono (Kd.S_far (p:=⟨gb141,1,none⟩) (Kd.S_far (p:=⟨gb141,0,none⟩) (Kd.S_types HO169.out BK141.out (by decide)) (fun _ hk=>hk.2) (.string t166)) (fun _ hk=>hk.2) (.slice Ao50 t167.length co50)) (fun _ hk=>trivial),bs HB⟩
   ·intro c40 c40b0 c40b1 H
    revert H;refine ie2 ?_ ?_
    ·intro c52b0 c52b1 H;replace H:=bo H;obtain ⟨t170,A53,H⟩:=H;replace H:=bo H;obtain ⟨t171,A54,H⟩:=H;obtain ⟨y172,hy172⟩:∃ y_:List ByteArray,y_=(([t170,t171]:List ByteArray)):=⟨_,rfl⟩
     replace H:(if a1_3=0 then ((spec_l03Seg.f k (⟨#[65,67,75]⟩:ByteArray) y172).bind fun bt175=>(some (bt175.1,bt175.2))) else ((spec_l01Dec.f k a1_3).bind fun t179=>(if y172.length<8796093022208 then ((spec_l03Seg.f k (⟨#[65,67,75]⟩:ByteArray) (y172++[t179])).bind fun bt183=>(some (bt183.1,bt183.2))) else (none))))=some (r1,r2):=ye hy172 H
     have Ny172:=am hy172;clear hy172
     revert H;refine ie2 ?_ ?_
     ·intro c55b0 c55b1 H;replace H:=bo H;obtain ⟨⟨t175,t176⟩,A56,H⟩:=H;(try dsimp only at H);replace H:=sj2 H;obtain ⟨rfl,rfl⟩:=H
      try go_wp2
      replace HO144:=am (Kd.R_drew HO144.out);replace BK140:=am (blk_drew BK140.out);replace BK141:=am (blk_drew BK141.out);replace HB:=am (below_drew1 HB.out);refine sta 8 (hb5 BK140) (fun hHeld=>?_);refine with_tabW spec_l05Line.tab12 spec_l05Line.bits12 (fun HT_ HW_=>?_)
      generalize w6.drew=w57 at HO144 BK140 BK141 HB hHeld ⊢
      refine pz1 0 ?_;refine pz1 3 ?_;refine ta 1 ?_;refine ta 4 ?_;refine oA 2 50 HT_ (fun K hK=>?_);refine gA Tryz.func33 #[.int .i64 a1_0] ?_;(with_reducible refine (spec_l01Dec.calls k a1_0 t170 _ A53.out).mono ?_);rintro e w58 ⟨rfl,hb⟩;refine ⟨_,rfl,?_⟩;replace HO144:=am (Kd.R_below (rs HO144) hb);replace BK140:=bb BK140 hb;replace BK141:=bb BK141 hb;replace HB:=bq HB hb;(try clear hb);(try clear hb2);(try clear hk);(try clear hi);refine hK.out _ _ (hb5 BK140).out (fun hHeld=>?_);clear hK K;refine nA 50 ?_;refine oA 5 53 HT_ (fun K hK=>?_);refine gA Tryz.func33 #[.int .i64 a1_2] ?_;(with_reducible refine (spec_l01Dec.calls k a1_2 t171 _ A54.out).mono ?_);rintro e w59 ⟨rfl,hb⟩;refine ⟨_,rfl,?_⟩;replace HO144:=am (Kd.R_below (rs HO144) hb);replace BK140:=bb BK140 hb;replace BK141:=bb BK141 hb;replace HB:=bq HB hb;(try clear hb);(try clear hb2);(try clear hk);(try clear hi);refine hK.out _ _ (hb5 BK140).out (fun hHeld=>?_);clear hK K;refine nA 53 ?_;refine oA 6 54 HT_ (fun K hK=>?_);refine Kd.R_lit_step Kd.string _ 9 ?hg (N:=54) ?hd (xs:=([t170,t171]:List ByteArray)) (inner:=[.string t170,.string t171]) (ok:=fun _=>True) (okp:=fun _=>True) ?hr ?hp (fun _ hk=>hk) trivial (Below.refl _ _) (Nat.le_refl _) (by simp) ?_;(case hd=>rfl);(case hg=>rfl);(case hr=>first|(go_simp;done)|(go_simp;rfl));(case hp=>exact (Reps.one (show Kd.M Kd.string _ _ _ t170 [.string t170] from rfl) (Reps.one (show Kd.M Kd.string _ _ _ t171 [.string t171] from rfl) (Reps.none _ _))));intro v173 w60 ho61 hb hg_ hnew_;clear hg_ hnew_
      (first|rw [← Ny172.out] at ho61|(simp only [Int.reduceToNat] at ho61;rw [← Ny172.out] at ho61))
      have HO174:=am (Kd.R_lower (Kd.R_new' ho61 (Kd.R_lt (rs HO144))) (below_size (bs HB)));replace HO144:=am (Kd.R_elder' (rs HO144) (Kd.R_base ho61) hb);replace BK140:=bb BK140 hb;replace BK141:=bb BK141 hb;replace HB:=bq HB hb;clear hb ho61;refine hK.out _ _ (hb5 BK140).out (fun hHeld=>?_);clear hK K;refine nA 54 ?_;refine pz1 7 ?_;refine done_ (done_of HT_.out (by kernel_rfl)) ?_;have hnb62:=NB140_141.out;have hnc62:=NB141_140.out;have hcz63:=cf5 BK140;obtain ⟨Ao64,co64,eo64⟩:=Kd.R_slice HO174.out;subst eo64
      try go_wp2_with (first|((first|((with_reducible refine gate_callee (f:=35) rfl ?_);refine goesL_ (some 65) rfl rfl Tryz.func35 (by kernel_rfl) rfl #[.string (⟨#[65,67,75]⟩:ByteArray),.slice Ao64 y172.length co64] rfl (by (try simp only [List.map_toArray,List.map_cons,List.map_nil]);first|done|rfl|(simp only [List.length_drop,List.length_take];rfl)) ?_;(with_reducible refine (spec_l03Seg.calls k (⟨#[65,67,75]⟩:ByteArray) _ _ y172 t175 t176 _ ?side1 ?side2 A56.out).mono ?_);(case side1=>exact sd (Kd.R_reads' HO174.out).2.2);(case side2=>exact (Kd.R_reads' HO174.out).2.1);rintro e w65 ⟨v177,rfl,ho0,hb⟩;refine ⟨_,rfl,?_⟩)|(go_at_call 35;(with_reducible refine (spec_l03Seg.calls k (⟨#[65,67,75]⟩:ByteArray) _ _ y172 t175 t176 _ ?side1 ?side2 A56.out).mono ?_);(case side1=>exact sd (Kd.R_reads' HO174.out).2.2);(case side2=>exact (Kd.R_reads' HO174.out).2.1);rintro e w65 ⟨v177,rfl,ho0,hb⟩));have HO178:=am (Kd.S_lower (Kd.S_new' (Kd.S_new' ho0 (Kd.R_lt (rs HO144))) (Kd.R_lt (rs HO174))) (below_size (bs HB)));replace HO144:=am (Kd.R_below (rs HO144) hb);replace HO174:=am (Kd.R_below (rs HO174) hb);replace BK140:=bb BK140 hb;replace BK141:=bb BK141 hb;replace HB:=bq HB hb;(try clear hb);(try clear hb2);(try clear hk);(try clear hi);(try clear ho0);have hcz66:=cf2 BK141;obtain ⟨Ao67,co67,eo67⟩:=Kd.S_slice HO178.out;subst eo67))
      refine bodyPost_ret (results_cell_row rfl _ _ gb141 46 #[.string t175,.slice Ao67 t176.length co67] (0,0) _ rfl (kp BK141) Tryz.underlying46 rfl (by kernel_rfl)) rfl ?_
      exact ⟨_,ff,by (with_reducible repeat (first|apply Kd.S_alloc|apply Kd.S_drewN|apply Kd.S_drew));exact Kd.S_mono (Kd.S_far (p:=⟨gb141,1,none⟩) (Kd.S_far (p:=⟨gb141,0,none⟩) (Kd.S_types HO178.out BK141.out (by decide)) (fun _ hk=>hk.2) (.string t175)) (fun _ hk=>hk.2) (.slice Ao67 t176.length co67)) (fun _ hk=>trivial),bs HB⟩
     ·intro c55 c55b0 c55b1 H;replace H:=bo H;obtain ⟨t179,A68,H⟩:=H
      revert H;refine ip1 ?_
      intro c69 H;have LMc69:=am c69;clear c69;obtain ⟨y180,hy180⟩:∃ y_:List ByteArray,y_=(y172++[t179]):=⟨_,rfl⟩
      replace H:((spec_l03Seg.f k (⟨#[65,67,75]⟩:ByteArray) y180).bind fun bt183=>(some (bt183.1,bt183.2)))=some (r1,r2):=ye hy180 H
      have Ny180:=am hy180;clear hy180;replace H:=bo H;obtain ⟨⟨t183,t184⟩,A70,H⟩:=H;(try dsimp only at H);replace H:=sj2 H;obtain ⟨rfl,rfl⟩:=H
      try go_wp2
      replace HO144:=am (Kd.R_drew HO144.out);replace BK140:=am (blk_drew BK140.out);replace BK141:=am (blk_drew BK141.out);replace HB:=am (below_drew1 HB.out);refine sta 8 (hb5 BK140) (fun hHeld=>?_);refine with_tabW spec_l05Line.tab12 spec_l05Line.bits12 (fun HT_ HW_=>?_)
      generalize w6.drew=w71 at HO144 BK140 BK141 HB hHeld ⊢
      refine pz1 0 ?_;refine pz1 3 ?_;refine ta 1 ?_;refine ta 4 ?_;refine oA 2 50 HT_ (fun K hK=>?_);refine gA Tryz.func33 #[.int .i64 a1_0] ?_;(with_reducible refine (spec_l01Dec.calls k a1_0 t170 _ A53.out).mono ?_);rintro e w72 ⟨rfl,hb⟩;refine ⟨_,rfl,?_⟩;replace HO144:=am (Kd.R_below (rs HO144) hb);replace BK140:=bb BK140 hb;replace BK141:=bb BK141 hb;replace HB:=bq HB hb;(try clear hb);(try clear hb2);(try clear hk);(try clear hi);refine hK.out _ _ (hb5 BK140).out (fun hHeld=>?_);clear hK K;refine nA 50 ?_;refine oA 5 53 HT_ (fun K hK=>?_);refine gA Tryz.func33 #[.int .i64 a1_2] ?_;(with_reducible refine (spec_l01Dec.calls k a1_2 t171 _ A54.out).mono ?_);rintro e w73 ⟨rfl,hb⟩;refine ⟨_,rfl,?_⟩;replace HO144:=am (Kd.R_below (rs HO144) hb);replace BK140:=bb BK140 hb;replace BK141:=bb BK141 hb;replace HB:=bq HB hb;(try clear hb);(try clear hb2);(try clear hk);(try clear hi);refine hK.out _ _ (hb5 BK140).out (fun hHeld=>?_);clear hK K;refine nA 53 ?_;refine oA 6 54 HT_ (fun K hK=>?_);refine Kd.R_lit_step Kd.string _ 9 ?hg (N:=54) ?hd (xs:=([t170,t171]:List ByteArray)) (inner:=[.string t170,.string t171]) (ok:=fun _=>True) (okp:=fun _=>True) ?hr ?hp (fun _ hk=>hk) trivial (Below.refl _ _) (Nat.le_refl _) (by simp) ?_;(case hd=>rfl);(case hg=>rfl);(case hr=>first|(go_simp;done)|(go_simp;rfl));(case hp=>exact (Reps.one (show Kd.M Kd.string _ _ _ t170 [.string t170] from rfl) (Reps.one (show Kd.M Kd.string _ _ _ t171 [.string t171] from rfl) (Reps.none _ _))));intro v173 w74 ho75 hb hg_ hnew_;clear hg_ hnew_
      (first|rw [← Ny172.out] at ho75|(simp only [Int.reduceToNat] at ho75;rw [← Ny172.out] at ho75))
      have HO174:=am (Kd.R_lower (Kd.R_new' ho75 (Kd.R_lt (rs HO144))) (below_size (bs HB)));replace HO144:=am (Kd.R_elder' (rs HO144) (Kd.R_base ho75) hb);replace BK140:=bb BK140 hb;replace BK141:=bb BK141 hb;replace HB:=bq HB hb;clear hb ho75;refine hK.out _ _ (hb5 BK140).out (fun hHeld=>?_);clear hK K;refine nA 54 ?_;refine pz1 7 ?_;refine done_ (done_of HT_.out (by kernel_rfl)) ?_;have hnb76:=NB140_141.out;have hnc76:=NB141_140.out;have hcz77:=cf5 BK140
      try go_wp2_with (first|((first|((with_reducible refine gate_callee (f:=33) rfl ?_);refine goesL_ (some 61) rfl rfl Tryz.func33 (by kernel_rfl) rfl #[.int .i64 a1_3] rfl (by (try simp only [List.map_toArray,List.map_cons,List.map_nil]);first|done|rfl|(simp only [List.length_drop,List.length_take];rfl)) ?_;(with_reducible refine (spec_l01Dec.calls k a1_3 t179 _ A68.out).mono ?_);rintro e w78 ⟨rfl,hb⟩;refine ⟨_,rfl,?_⟩)|(go_at_call 33;(with_reducible refine (spec_l01Dec.calls k a1_3 t179 _ A68.out).mono ?_);rintro e w78 ⟨rfl,hb⟩));replace HO144:=am (Kd.R_below (rs HO144) hb);replace HO174:=am (Kd.R_below (rs HO174) hb);replace BK140:=bb BK140 hb;replace BK141:=bb BK141 hb;replace HB:=bq HB hb;(try clear hb);(try clear hb2);(try clear hk);(try clear hi))|((with_reducible refine gate_builtin (b:=.append) (xs:=#[.tmp 58,.tmp 62]) rfl ?_);at_builtin;refine Kd.R_append Kd.string (w0:=w) w.heap.size rfl (.tmp 58) (.tmp 62) 22 9 (.string ⟨#[]⟩) 16 rfl Tryz.underlying22 info9 rfl (by decide) (by omega) v173 y172 t179 [.string t179] (fun k_=>some k_≠(v143:Value).ownBlock) (fun _=>False) rfl rfl ?aP (fun _ hk=>hk.elim) ?aF ?aO ?aB ?aS ?aL ?_;(case aP=>exact rfl);(case aB=>exact (bs HB));(case aF=>exact (fun k_ hk=>Kd.fresh' (Kd.R_lt (rs HO144)) k_ hk));(case aO=>exact (by (with_reducible repeat (first|apply Kd.R_alloc|apply Kd.R_drewN|apply Kd.R_drew));exact Kd.R_mono HO174.out (fun _ hk=>hk.2)));(case aS=>exact (below_size (bs HB)));(case aL=>have:=LMc69.out;omega);intro v181 w79 ho hb hg hat;rw [← Ny180.out] at ho;have n0_:=am (blk_grown (ks BK140) hg (Kd.R_ne HO174.out BK140.out (by decide)));have n1_:=am (blk_grown (ks BK141) hg (Kd.R_ne HO174.out BK141.out (by decide)));have n2_:=am (Kd.R_after (ok:=(fun _=>True)) (rs HO144) hg hat);have n3_:=am (hb);have n4_:=am (ho);clear BK140;clear BK141;clear HO144;clear HB;clear HO174;have BK140:=n0_;have BK141:=n1_;have HO144:=n2_;have HB:=n3_;have HO182:=n4_;clear n0_ n1_ n2_ n3_ n4_;clear ho hb hg hat;obtain ⟨Ao80,co80,eo80⟩:=Kd.R_slice HO182.out;subst eo80)|((first|((with_reducible refine gate_callee (f:=35) rfl ?_);refine goesL_ (some 65) rfl rfl Tryz.func35 (by kernel_rfl) rfl #[.string (⟨#[65,67,75]⟩:ByteArray),.slice Ao80 y180.length co80] rfl (by (try simp only [List.map_toArray,List.map_cons,List.map_nil]);first|done|rfl|(simp only [List.length_drop,List.length_take];rfl)) ?_;(with_reducible refine (spec_l03Seg.calls k (⟨#[65,67,75]⟩:ByteArray) _ _ y180 t183 t184 _ ?side1 ?side2 A70.out).mono ?_);(case side1=>exact sd (Kd.R_reads' HO182.out).2.2);(case side2=>exact (Kd.R_reads' HO182.out).2.1);rintro e w81 ⟨v185,rfl,ho0,hb⟩;refine ⟨_,rfl,?_⟩)|(go_at_call 35;(with_reducible refine (spec_l03Seg.calls k (⟨#[65,67,75]⟩:ByteArray) _ _ y180 t183 t184 _ ?side1 ?side2 A70.out).mono ?_);(case side1=>exact sd (Kd.R_reads' HO182.out).2.2);(case side2=>exact (Kd.R_reads' HO182.out).2.1);rintro e w81 ⟨v185,rfl,ho0,hb⟩));have HO186:=am (Kd.S_lower (Kd.S_new' (Kd.S_new' ho0 (Kd.R_lt (rs HO144))) (Kd.R_lt (rs HO182))) (below_size (bs HB)));replace HO144:=am (Kd.R_below (rs HO144) hb);replace HO182:=am (Kd.R_below (rs HO182) hb);replace BK140:=bb BK140 hb;replace BK141:=bb BK141 hb;replace HB:=bq HB hb;(try clear hb);(try clear hb2);(try clear hk);(try clear hi);(try clear ho0);have hcz82:=cf2 BK141;obtain ⟨Ao83,co83,eo83⟩:=Kd.S_slice HO186.out;subst eo83))
      refine bodyPost_ret (results_cell_row rfl _ _ gb141 46 #[.string t183,.slice Ao83 t184.length co83] (0,0) _ rfl (kp BK141) Tryz.underlying46 rfl (by kernel_rfl)) rfl ?_
      exact ⟨_,ff,by (with_reducible repeat (first|apply Kd.S_alloc|apply Kd.S_drewN|apply Kd.S_drew));exact Kd.S_mono (Kd.S_far (p:=⟨gb141,1,none⟩) (Kd.S_far (p:=⟨gb141,0,none⟩) (Kd.S_types HO186.out BK141.out (by decide)) (fun _ hk=>hk.2) (.string t183)) (fun _ hk=>hk.2) (.slice Ao83 t184.length co83)) (fun _ hk=>trivial),bs HB⟩
    ·intro c52 c52b0 c52b1 H
     revert H;refine ie2 ?_ ?_
     ·intro c84b0 c84b1 H;replace H:=bo H;obtain ⟨t187,A85,H⟩:=H;obtain ⟨y188,hy188⟩:∃ y_:List ByteArray,y_=(([a1_1,t187]:List ByteArray)):=⟨_,rfl⟩
      replace H:(spec_l05Line.j0 k a0 y188 a1_0 a1_1 a1_2 a1_3 a1_4)=some (r1,r2):=ye hy188 H
      have Ny188:=am hy188;clear hy188;have H':=am H;clear H
      try go_wp2
      replace HO144:=am (Kd.R_drew HO144.out);replace BK140:=am (blk_drew BK140.out);replace BK141:=am (blk_drew BK141.out);replace HB:=am (below_drew1 HB.out);refine sta 7 (hb5 BK140) (fun hHeld=>?_)
      generalize w6.drew=w86 at HO144 BK140 BK141 HB hHeld ⊢
      refine pure_ (i:=0) (N:=some 68) (v:=?_) (a':=?_) #[true,false,false,false,false,false,false] rfl rfl (by kernel_rfl) (fun _ _ _ h=>h) (Or.inl ⟨by rfl,?_⟩) ?_ ?_
      rotate_left
      ·intro w'
       go_simp
       (with_reducible rfl)
      rotate_left
      ·simp only [Act.put,List.setIfInBounds_toArray,List.set_cons_zero,List.set_cons_succ,i64_w,i32_w]
       rfl
      refine pure_ (i:=2) (N:=some 70) (v:=?_) (a':=?_) #[true,false,true,false,false,false,false] rfl rfl (by kernel_rfl) (fun _ _ _ h=>h) (Or.inl ⟨by rfl,?_⟩) ?_ ?_
      rotate_left
      ·intro w'
       go_simp
       (with_reducible rfl)
      rotate_left
      ·simp only [Act.put,List.setIfInBounds_toArray,List.set_cons_zero,List.set_cons_succ,i64_w,i32_w]
       rfl
      refine take_ (i:=1) (N:=some 69) (v:=?_) (a':=?_) #[true,true,true,false,false,false,false] rfl rfl (by kernel_rfl) (fun _ _ _ h=>h) (Or.inl ⟨by rfl,?_⟩) hHeld ?_ ?_
      rotate_left
      ·rintro w' ⟨s0,s1,s2,s3,s4⟩
       go_simp
       (with_reducible rfl)
      rotate_left
      ·simp only [Act.put,List.setIfInBounds_toArray,List.set_cons_zero,List.set_cons_succ,i64_w,i32_w]
       rfl
      refine take_ (i:=3) (N:=some 71) (v:=?_) (a':=?_) #[true,true,true,true,false,false,false] rfl rfl (by kernel_rfl) (fun _ _ _ h=>h) (Or.inl ⟨by rfl,?_⟩) hHeld ?_ ?_
      rotate_left
      ·rintro w' ⟨s0,s1,s2,s3,s4⟩
       go_simp
       (with_reducible rfl)
      rotate_left
      ·simp only [Act.put,List.setIfInBounds_toArray,List.set_cons_zero,List.set_cons_succ,i64_w,i32_w]
       rfl
      refine one_ (i:=4) (N:=some 72) #[true,true,true,true,true,false,false] rfl rfl (by kernel_rfl) (by decide) (fun K hK=>?_);refine gA Tryz.func33 #[.int .i64 a1_2] ?_;(with_reducible refine (spec_l01Dec.calls k a1_2 t187 _ A85.out).mono ?_);rintro e w87 ⟨rfl,hb⟩;refine ⟨_,rfl,?_⟩;replace HO144:=am (Kd.R_below (rs HO144) hb);replace BK140:=bb BK140 hb;replace BK141:=bb BK141 hb;replace HB:=bq HB hb;(try clear hb);(try clear hb2);(try clear hk);(try clear hi);refine hK.out _ _ (hb5 BK140).out (fun hHeld=>?_);clear hK K;refine nA 72 ?_;refine one_ (i:=5) (N:=some 73) #[true,true,true,true,true,true,false] rfl rfl (by kernel_rfl) (by decide) (fun K hK=>?_);refine Kd.R_lit_step Kd.string _ 9 ?hg (N:=73) ?hd (xs:=([a1_1,t187]:List ByteArray)) (inner:=[.string a1_1,.string t187]) (ok:=fun _=>True) (okp:=fun _=>True) ?hr ?hp (fun _ hk=>hk) trivial (Below.refl _ _) (Nat.le_refl _) (by simp) ?_;(case hd=>rfl);(case hg=>rfl);(case hr=>first|(go_simp;done)|(go_simp;rfl));(case hp=>exact (Reps.one (show Kd.M Kd.string _ _ _ a1_1 [.string a1_1] from rfl) (Reps.one (show Kd.M Kd.string _ _ _ t187 [.string t187] from rfl) (Reps.none _ _))));intro v189 w88 ho89 hb hg_ hnew_;clear hg_ hnew_
      (first|rw [← Ny188.out] at ho89|(simp only [Int.reduceToNat] at ho89;rw [← Ny188.out] at ho89))
      have HO190:=am (Kd.R_lower (Kd.R_new' ho89 (Kd.R_lt (rs HO144))) (below_size (bs HB)));replace HO144:=am (Kd.R_elder' (rs HO144) (Kd.R_base ho89) hb);replace BK140:=bb BK140 hb;replace BK141:=bb BK141 hb;replace HB:=bq HB hb;clear hb ho89;refine hK.out _ _ (hb5 BK140).out (fun hHeld=>?_);clear hK K;refine nA 73 ?_;refine pure_ (i:=6) (N:=some 5) (v:=?_) (a':=?_) #[true,true,true,true,true,true,true] rfl rfl (by kernel_rfl) (fun _ _ _ h=>h) (Or.inl ⟨by rfl,?_⟩) ?_ ?_
      rotate_left
      ·intro w'
       go_simp
       (with_reducible rfl)
      rotate_left
      ·simp only [Act.put,List.setIfInBounds_toArray,List.set_cons_zero,List.set_cons_succ,i64_w,i32_w]
       rfl
      refine done_ (by kernel_rfl) ?_
      try go_wp2
      go_meet
      case rel=>exact ⟨_,(y188),((⟨#[]⟩:ByteArray)),H',⟨fl⟩,⟨by (with_reducible repeat (first|apply Kd.R_alloc|apply Kd.R_drewN|apply Kd.R_drew));exact Kd.R_mono HO190.out (fun _ hk=>trivial)⟩,⟨ks BK140⟩,⟨ks BK141⟩,⟨bs HB⟩⟩
     ·intro c84 c84b0 c84b1 H;replace H:=bo H;obtain ⟨t191,A90,H⟩:=H;replace H:=bo H;obtain ⟨t192,A91,H⟩:=H;obtain ⟨y193,hy193⟩:∃ y_:List ByteArray,y_=(([t191,t192]:List ByteArray)):=⟨_,rfl⟩
      replace H:(spec_l05Line.j0 k a0 y193 a1_0 a1_1 a1_2 a1_3 a1_4)=some (r1,r2):=ye hy193 H
      have Ny193:=am hy193;clear hy193;have H':=am H;clear H
      try go_wp2
      replace HO144:=am (Kd.R_drew HO144.out);replace BK140:=am (blk_drew BK140.out);replace BK141:=am (blk_drew BK141.out);replace HB:=am (below_drew1 HB.out);refine sta 8 (hb5 BK140) (fun hHeld=>?_);refine with_tabW spec_l05Line.tab3 spec_l05Line.bits3 (fun HT_ HW_=>?_)
      generalize w6.drew=w92 at HO144 BK140 BK141 HB hHeld ⊢
      refine pz1 0 ?_;refine pz1 3 ?_;refine ta 1 ?_;refine ta 4 ?_;refine oA 2 10 HT_ (fun K hK=>?_);refine gA Tryz.func33 #[.int .i64 a1_0] ?_;(with_reducible refine (spec_l01Dec.calls k a1_0 t191 _ A90.out).mono ?_);rintro e w93 ⟨rfl,hb⟩;refine ⟨_,rfl,?_⟩;replace HO144:=am (Kd.R_below (rs HO144) hb);replace BK140:=bb BK140 hb;replace BK141:=bb BK141 hb;replace HB:=bq HB hb;(try clear hb);(try clear hb2);(try clear hk);(try clear hi);refine hK.out _ _ (hb5 BK140).out (fun hHeld=>?_);clear hK K;refine nA 10 ?_;refine oA 5 13 HT_ (fun K hK=>?_);refine gA Tryz.func33 #[.int .i64 a1_2] ?_;(with_reducible refine (spec_l01Dec.calls k a1_2 t192 _ A91.out).mono ?_);rintro e w94 ⟨rfl,hb⟩;refine ⟨_,rfl,?_⟩;replace HO144:=am (Kd.R_below (rs HO144) hb);replace BK140:=bb BK140 hb;replace BK141:=bb BK141 hb;replace HB:=bq HB hb;(try clear hb);(try clear hb2);(try clear hk);(try clear hi);refine hK.out _ _ (hb5 BK140).out (fun hHeld=>?_);clear hK K;refine nA 13 ?_;refine oA 6 14 HT_ (fun K hK=>?_);refine Kd.R_lit_step Kd.string _ 9 ?hg (N:=14) ?hd (xs:=([t191,t192]:List ByteArray)) (inner:=[.string t191,.string t192]) (ok:=fun _=>True) (okp:=fun _=>True) ?hr ?hp (fun _ hk=>hk) trivial (Below.refl _ _) (Nat.le_refl _) (by simp) ?_;(case hd=>rfl);(case hg=>rfl);(case hr=>first|(go_simp;done)|(go_simp;rfl));(case hp=>exact (Reps.one (show Kd.M Kd.string _ _ _ t191 [.string t191] from rfl) (Reps.one (show Kd.M Kd.string _ _ _ t192 [.string t192] from rfl) (Reps.none _ _))));intro v194 w95 ho96 hb hg_ hnew_;clear hg_ hnew_
      (first|rw [← Ny193.out] at ho96|(simp only [Int.reduceToNat] at ho96;rw [← Ny193.out] at ho96))
      have HO195:=am (Kd.R_lower (Kd.R_new' ho96 (Kd.R_lt (rs HO144))) (below_size (bs HB)));replace HO144:=am (Kd.R_elder' (rs HO144) (Kd.R_base ho96) hb);replace BK140:=bb BK140 hb;replace BK141:=bb BK141 hb;replace HB:=bq HB hb;clear hb ho96;refine hK.out _ _ (hb5 BK140).out (fun hHeld=>?_);clear hK K;refine nA 14 ?_;refine pz1 7 ?_;refine done_ (done_of HT_.out (by kernel_rfl)) ?_
      try go_wp2
      go_meet
      case rel=>exact ⟨_,(y193),((⟨#[]⟩:ByteArray)),H',⟨fl⟩,⟨by (with_reducible repeat (first|apply Kd.R_alloc|apply Kd.R_drewN|apply Kd.R_drew));exact Kd.R_mono HO195.out (fun _ hk=>trivial)⟩,⟨ks BK140⟩,⟨ks BK141⟩,⟨bs HB⟩⟩
 case rest =>
  clear HC3
  obtain ⟨kq,x5_2,x224_2,HA,HJ2,HO_5,BK140,BK141,HB⟩:=hcut
  cases kq with
  | zero=>exact absurd HA.out (by simp [spec_l05Line.j0])
  | succ kj2 =>
   have H:=HA.out;clear HA;simp only [spec_l05Line.j0] at H;have HC97:=am H;clear H;have hnb98:=NB140_141.out;have hnc98:=NB141_140.out;have hcz99:=cf5 BK140
   go_upto_if 76 with (fail)
   go_cut [5] (fun v5 wc=>∃ (kq:Nat) (x5_96:List ByteArray),Aside0 (spec_l05Line.j1 kq a0 x5_96=some (r1,r2))∧Aside0 (kq≤kj2)∧Aside0 (Kd.R Kd.string 9 wc w.heap.size (fun _=>True) v5 x5_96)∧Aside0 (wc.heap[gb140]? = some (.cells #[.int .i64 a1_0,.string a1_1,.int .i64 a1_2,.int .i64 a1_3,.string a1_4] 63 (0,0)))∧Aside0 (wc.heap[gb141]? = some (.cells #[.string x224_2,(.slice none 0 0)] 46 (0,0)))∧Aside0 (Below w.heap.size w wc))
   case first =>
    have H:=HC97.out;clear HC97
    revert H;refine in2 ?_ ?_
    ·intro c100b0 c100b1 c100b2 H
     (first|rw [c100b0]|simp only [c100b2,Bool.not_true,Bool.not_false]|rw [c100b1]|skip)
     have H':=am H;clear H
     go_wp2
     go_meet
     case rel=>exact ⟨_,(x5_2),H',⟨by have:=HJ2.out;first|omega|exact Nat.le_refl _⟩,⟨rz HO_5.out⟩,⟨ks BK140⟩,⟨ks BK141⟩,⟨bs HB⟩⟩
    ·intro c100 c100b0 c100b1 c100b2 H
     (first|rw [c100b0]|simp only [c100b2,Bool.not_true,Bool.not_false]|rw [c100b1]|skip)
     revert H;refine ip1 ?_
     intro c101 H;have LMc101:=am c101;clear c101;obtain ⟨y196,hy196⟩:∃ y_:List ByteArray,y_=(x5_2++[a1_4]):=⟨_,rfl⟩
     replace H:(spec_l05Line.j1 kj2 a0 y196)=some (r1,r2):=ye hy196 H
     have Ny196:=am hy196;clear hy196;have H':=am H;clear H;have hnb102:=NB140_141.out;have hnc102:=NB141_140.out;have hcz103:=cf5 BK140
     go_wp2_with (first|((with_reducible refine gate_builtin (b:=.append) (xs:=#[.tmp 77,.tmp 80]) rfl ?_);at_builtin;refine Kd.R_append Kd.string (w0:=w) w.heap.size rfl (.tmp 77) (.tmp 80) 22 9 (.string ⟨#[]⟩) 16 rfl Tryz.underlying22 info9 rfl (by decide) (by omega) u5 x5_2 a1_4 [.string a1_4] (fun _=>True) (fun _=>False) rfl rfl ?aP (fun _ hk=>hk.elim) ?aF ?aO ?aB ?aS ?aL ?_;(case aP=>exact rfl);(case aB=>exact (bs HB));(case aF=>exact (fun _ _=>trivial));(case aO=>exact (rs HO_5));(case aS=>exact (below_size (bs HB)));(case aL=>have:=LMc101.out;omega);intro v197 w104 ho hb hg hat;rw [← Ny196.out] at ho;have n0_:=am (blk_grown (ks BK140) hg (Kd.R_ne HO_5.out BK140.out (by decide)));have n1_:=am (blk_grown (ks BK141) hg (Kd.R_ne HO_5.out BK141.out (by decide)));have n2_:=am (hb);have n3_:=am (ho);clear BK140;clear BK141;clear HB;clear HO_5;have BK140:=n0_;have BK141:=n1_;have HB:=n2_;have HO198:=n3_;clear n0_ n1_ n2_ n3_;clear ho hb hg hat))
     go_meet
     case rel=>exact ⟨_,(y196),H',⟨by have:=HJ2.out;first|omega|exact Nat.le_refl _⟩,⟨rz HO198.out⟩,⟨ks BK140⟩,⟨ks BK141⟩,⟨bs HB⟩⟩
   case rest =>
    clear HC97
    try clear hcz99
    obtain ⟨kq,x5_96,HA,HJ96,HO_5,BK140,BK141,HB⟩:=hcut
    cases kq with
    | zero=>exact absurd HA.out (by simp [spec_l05Line.j1])
    | succ kj96 =>
     have H:=HA.out;clear HA;simp only [spec_l05Line.j1] at H
     revert H;refine ie2 ?_ ?_
     ·intro c105b0 c105b1 H;replace H:=bo H;obtain ⟨⟨t199,t200⟩,A106,H⟩:=H;(try dsimp only at H);replace H:=sj2 H;obtain ⟨rfl,rfl⟩:=H;obtain ⟨Ao107,co107,eo107⟩:=Kd.R_slice HO_5.out;subst eo107
      go_wp2_with (first|((first|((with_reducible refine gate_callee (f:=35) rfl ?_);refine goesL_ (some 85) rfl rfl Tryz.func35 (by kernel_rfl) rfl #[.string (⟨#[73,84,77]⟩:ByteArray),.slice Ao107 x5_96.length co107] rfl (by (try simp only [List.map_toArray,List.map_cons,List.map_nil]);first|done|rfl|(simp only [List.length_drop,List.length_take];rfl)) ?_;(with_reducible refine (spec_l03Seg.calls kj96 (⟨#[73,84,77]⟩:ByteArray) _ _ x5_96 t199 t200 _ ?side1 ?side2 A106.out).mono ?_);(case side1=>exact sd (Kd.R_reads' HO_5.out).2.2);(case side2=>exact (Kd.R_reads' HO_5.out).2.1);rintro e w108 ⟨v201,rfl,ho0,hb⟩;refine ⟨_,rfl,?_⟩)|(go_at_call 35;(with_reducible refine (spec_l03Seg.calls kj96 (⟨#[73,84,77]⟩:ByteArray) _ _ x5_96 t199 t200 _ ?side1 ?side2 A106.out).mono ?_);(case side1=>exact sd (Kd.R_reads' HO_5.out).2.2);(case side2=>exact (Kd.R_reads' HO_5.out).2.1);rintro e w108 ⟨v201,rfl,ho0,hb⟩));have HO202:=am (Kd.S_lower (Kd.S_new' ho0 (Kd.R_lt (rs HO_5))) (below_size (bs HB)));replace HO_5:=am (Kd.R_below (rs HO_5) hb);replace BK140:=bb BK140 hb;replace BK141:=bb BK141 hb;replace HB:=bq HB hb;(try clear hb);(try clear hb2);(try clear hk);(try clear hi);(try clear ho0);have hnb109:=NB141_140.out;have hnc109:=NB140_141.out;have hcz110:=cf2 BK141;obtain ⟨Ao111,co111,eo111⟩:=Kd.S_slice HO202.out;subst eo111))
      refine bodyPost_ret (results_cell_row rfl _ _ gb141 46 #[.string t199,.slice Ao111 t200.length co111] (0,0) _ rfl (kp BK141) Tryz.underlying46 rfl (by kernel_rfl)) rfl ?_
      exact ⟨_,ff,by (with_reducible repeat (first|apply Kd.S_alloc|apply Kd.S_drewN|apply Kd.S_drew));exact Kd.S_mono (Kd.S_far (p:=⟨gb141,1,none⟩) (Kd.S_far (p:=⟨gb141,0,none⟩) (Kd.S_types HO202.out BK141.out (by decide)) (fun _ hk=>hk.2) (.string t199)) (fun _ hk=>hk.2) (.slice Ao111 t200.length co111)) (fun _ hk=>trivial),bs HB⟩
     ·intro c105 c105b0 c105b1 H;replace H:=bo H;obtain ⟨⟨t203,t204⟩,A112,H⟩:=H;(try dsimp only at H);replace H:=sj2 H;obtain ⟨rfl,rfl⟩:=H;obtain ⟨Ao113,co113,eo113⟩:=Kd.R_slice HO_5.out;subst eo113
      go_wp2_with (first|((first|((with_reducible refine gate_callee (f:=35) rfl ?_);refine goesL_ (some 87) rfl rfl Tryz.func35 (by kernel_rfl) rfl #[.string (⟨#[76,73,78]⟩:ByteArray),.slice Ao113 x5_96.length co113] rfl (by (try simp only [List.map_toArray,List.map_cons,List.map_nil]);first|done|rfl|(simp only [List.length_drop,List.length_take];rfl)) ?_;(with_reducible refine (spec_l03Seg.calls kj96 (⟨#[76,73,78]⟩:ByteArray) _ _ x5_96 t203 t204 _ ?side1 ?side2 A112.out).mono ?_);(case side1=>exact sd (Kd.R_reads' HO_5.out).2.2);(case side2=>exact (Kd.R_reads' HO_5.out).2.1);rintro e w114 ⟨v205,rfl,ho0,hb⟩;refine ⟨_,rfl,?_⟩)|(go_at_call 35;(with_reducible refine (spec_l03Seg.calls kj96 (⟨#[76,73,78]⟩:ByteArray) _ _ x5_96 t203 t204 _ ?side1 ?side2 A112.out).mono ?_);(case side1=>exact sd (Kd.R_reads' HO_5.out).2.2);(case side2=>exact (Kd.R_reads' HO_5.out).2.1);rintro e w114 ⟨v205,rfl,ho0,hb⟩));have HO206:=am (Kd.S_lower (Kd.S_new' ho0 (Kd.R_lt (rs HO_5))) (below_size (bs HB)));replace HO_5:=am (Kd.R_below (rs HO_5) hb);replace BK140:=bb BK140 hb;replace BK141:=bb BK141 hb;replace HB:=bq HB hb;(try clear hb);(try clear hb2);(try clear hk);(try clear hi);(try clear ho0);have hnb115:=NB141_140.out;have hnc115:=NB140_141.out;have hcz116:=cf2 BK141;obtain ⟨Ao117,co117,eo117⟩:=Kd.S_slice HO206.out;subst eo117))
      refine bodyPost_ret (results_cell_row rfl _ _ gb141 46 #[.string t203,.slice Ao117 t204.length co117] (0,0) _ rfl (kp BK141) Tryz.underlying46 rfl (by kernel_rfl)) rfl ?_
      exact ⟨_,ff,by (with_reducible repeat (first|apply Kd.S_alloc|apply Kd.S_drewN|apply Kd.S_drew));exact Kd.S_mono (Kd.S_far (p:=⟨gb141,1,none⟩) (Kd.S_far (p:=⟨gb141,0,none⟩) (Kd.S_types HO206.out BK141.out (by decide)) (fun _ hk=>hk.2) (.string t203)) (fun _ hk=>hk.2) (.slice Ao117 t204.length co117)) (fun _ hk=>trivial),bs HB⟩
end Go.Proofs.YtaememmnhmebcaaGreatDoor.QB

-- Merged by a program of this session (wip/tool/pack.py) out of its own texts for this claim.
import Derived.Test.YtjbdljhjplidmaaDoorKFnTables0
import Derived.Test.YtjbdljhjplidmaaDoorKFnTables1
import Derived.Test.YtjbdljhjplidmaaDoorKFnTables2
import Derived.Test.YtjbdljhjplidmaaDoorKFnTables3
import Derived.Test.YtjbdljhjplidmaaDoorKFnTables4
import Derived.Test.YtjbdljhjplidmaaDoorKFnTables5
import Derived.Test.YtjbdljhjplidmaaDoorKFnTables11
import Derived.Test.YtjbdljhjplidmaaDoorKFnTables12
import Derived.Test.YtjbdljhjplidmaaDoorKFnTables13
import Derived.Test.YtjbdljhjplidmaaDoorKFnTables14
namespace Go.Proofs.YtjbdljhjplidmaaDoor.QF
open Go.RowKit Go.Proofs.YtjbdljhjplidmaaDoorW.PrintWords Go.Proofs.YtjbdljhjplidmaaDoorW.PrintLast Go.Proofs.YtjbdljhjplidmaaDoorW.PrintMore
attribute [local go_sem] max2_int min2_int max_two min_two max_three min_three max_four min_four   -- for this text's walks alone
set_option linter.unusedVariables false
set_option linter.unusedSimpArgs false
def spec_l01Src_l04Body.T6 : Bool × List (List Nat × List Nat) := (true, [([], []), ([], []), ([0, 1], [0, 1]), ([2], [2]), ([3], [3]), ([], []), ([5], [5]), ([4, 6], [4, 6]), ([7, 6, 0, 1, 2, 3, 4, 5, 6, 7], [7])])
def spec_l01Src_l04Body.B6 : List Nat := [0, 0, 3, 7, 15, 0, 32, 127, 255]
theorem spec_l01Src_l04Body.tab6 : rtab .any (opsOf Tryd.f43 6) = spec_l01Src_l04Body.T6 := by kernel_rfl
theorem spec_l01Src_l04Body.bits6 : waitsOk spec_l01Src_l04Body.T6.2 spec_l01Src_l04Body.B6 = true := by kernel_rfl
def spec_l01Src_l04Body.T8 : Bool × List (List Nat × List Nat) := (true, [([], []), ([], []), ([0, 1], [0, 1]), ([2], [2]), ([3], [3]), ([], []), ([5], [5]), ([4, 6], [4, 6]), ([7, 6, 0, 1, 2, 3, 4, 5, 6, 7], [7])])
def spec_l01Src_l04Body.B8 : List Nat := [0, 0, 3, 7, 15, 0, 32, 127, 255]
theorem spec_l01Src_l04Body.tab8 : rtab .any (opsOf Tryd.f43 8) = spec_l01Src_l04Body.T8 := by kernel_rfl
theorem spec_l01Src_l04Body.bits8 : waitsOk spec_l01Src_l04Body.T8.2 spec_l01Src_l04Body.B8 = true := by kernel_rfl
def spec_l01Src_l04Body.T31 : Bool × List (List Nat × List Nat) := (true, [([], []), ([], []), ([0, 1], [0, 1]), ([], []), ([], []), ([4], [4]), ([3, 5], [3, 5]), ([2, 6], [2, 6]), ([7, 7, 0, 1, 2, 3, 4, 5, 6, 7], [0, 3, 7])])
def spec_l01Src_l04Body.B31 : List Nat := [0, 0, 3, 0, 0, 16, 56, 127, 255]
theorem spec_l01Src_l04Body.tab31 : rtab .any (opsOf Tryd.f43 31) = spec_l01Src_l04Body.T31 := by kernel_rfl
theorem spec_l01Src_l04Body.bits31 : waitsOk spec_l01Src_l04Body.T31.2 spec_l01Src_l04Body.B31 = true := by kernel_rfl
set_option maxHeartbeats 8000000 in
set_option maxRecDepth 100000 in
theorem spec_l01Src_l04Body.calls (k:Nat) (g:Nat) (s0_0:List Int) (s0_1:Int) (s0_2:Int) (s0_3:Int) (a1:Int) (r1:List (S36)) (r2:Int) (r3:Int) (r4:Int) (w0 w:World) (hI:IsS103 w0 w g s0_0 s0_1 s0_2 s0_3) (hB:Below w0.heap.size w0 w) (h:spec_l01Src_l04Body.f k s0_0 s0_1 s0_2 s0_3 a1=some (r1,r2,r3,r4)) :
  Calls Tryd.prog 43 #[.pointer (some ⟨g,0,none⟩),.int .i64 a1] w fun e w'=>∃ v0_:Value,e=.returned (v0_)∧Kd.N k36 36 w' w.heap.size (fun k_=>(w.heap.size≤k_)) v0_ r1∧IsS103 w0 w' g s0_0 r2 r3 r4∧Below w0.heap.size w0 w'∧KeepBut w w' g none:=by
 have hu36:=Tryd.underlying36;have HI0:=am hI;have HK:=am (KeepBut.refl w g none);have HL:=am hB.size;clear hI;have HW0:=am hB.size;have HB:=am hB;clear hB;have H:((spec_TableOf.f k a1).bind fun t566=>(spec_l01Src_l04Body.l0 k (([]:List (S36))) t566 0 s0_0 s0_1 s0_2 s0_3))=some (r1,r2,r3,r4):=h;clear h;obtain ⟨y563,hy563⟩:∃ y_:List (S36),y_=(([]:List (S36))):=⟨_,rfl⟩
 replace H:((spec_TableOf.f k a1).bind fun t566=>(spec_l01Src_l04Body.l0 k y563 t566 0 s0_0 s0_1 s0_2 s0_3))=some (r1,r2,r3,r4):=by first|(rw [hy563];with_reducible exact H)|(have H2_:=(Option.bind_some _ _).symm.trans H;rw [hy563];with_reducible exact H2_)|(have H2_:=(Option.bind_some _ _).symm.trans H;with_reducible exact H2_)|with_reducible exact H|(rw [hy563];exact H)|exact H
 have Ny563:=am hy563;clear hy563;replace H:=Option.bind_eq_some_iff.mp H;obtain ⟨t566,A30,H⟩:=H;replace H:(spec_l01Src_l04Body.l0 k y563 t566 0 s0_0 s0_1 s0_2 s0_3)=some (r1,r2,r3,r4):=H;have A3:=am A30;clear A30;have H':=am H;clear H
 go_enter Tryd.func43,Tryd.ntmps43
 go_wp2_with (first|((with_reducible refine gate_dst (N:=13) rfl ?_);(try (refine gate_guard (by rfl) ?_;dsimp only));refine Kd.N_lit k36 _ 36 ?hg (N':=13) ?hd (xs:=([]:List (S36))) (inner:=[]) (ok:=(fun k_=>(w.heap.size≤k_)∧k_≠g)) (okp:=(fun k_=>(w.heap.size≤k_)∧k_≠g)) ?hr ?hp (fun _ hk=>hk) ((show ∀ k_,w.heap.size≤k_→(fun k_=>(w.heap.size≤k_)∧k_≠g) k_ from fun k_ hk=>⟨(Nat.le_trans (keep_size (w:=w) (g:=g) (row:=none) (by repeat (first|(with_reducible first|exact HK.out|apply KeepBut.set_|apply keep_drewN|apply keep_drew|apply keep_alloc)|exact HK.out))) hk),IsS103.fresh (by repeat (first|(with_reducible first|exact HI0.out|apply IsS103.alloc|apply IsS103.drewN|apply IsS103.drew|apply IsS103.set_1|apply IsS103.set_2|apply IsS103.set_3)|exact HI0.out)) k_ hk⟩) _ (Nat.le_refl _)) (Below.refl _ _) (Nat.le_refl _) (by simp) ?_;(case hd=>rfl);(case hg=>rfl);(case hr=>first|(go_simp;done)|(go_simp;rfl));(case hp=>exact (Reps.none _ _));intro v564 w4 ho5 hb hg_ hnew_;clear hg_ hnew_;(first|rw [← Ny563.out] at ho5|(simp only [Int.reduceToNat] at ho5;rw [← Ny563.out] at ho5));have HO565:=am (Kd.N_lower ho5 (keep_size (w:=w) (g:=g) (row:=none) (by repeat (first|(with_reducible first|exact HK.out|apply KeepBut.set_|apply keep_drewN|apply keep_drew|apply keep_alloc)|exact HK.out))));replace HK:=am (KeepBut.trans (by repeat (first|(with_reducible first|exact HK.out|apply KeepBut.set_|apply keep_drewN|apply keep_drew|apply keep_alloc)|exact HK.out)) (KeepBut.of_below hb g none) (.inl rfl));replace HB:=am (below_step (by repeat (first|(with_reducible first|exact HB.out|apply below_alloc|apply pw_below_drewN|apply below_drew1|refine below_set ?_ (IsS103.ge HI0.out))|exact HB.out)) hb);replace HI0:=am (IsS103.below (by repeat (first|(with_reducible first|exact HI0.out|apply IsS103.alloc|apply IsS103.drewN|apply IsS103.drew|apply IsS103.set_1|apply IsS103.set_2|apply IsS103.set_3)|exact HI0.out)) hb);clear hb ho5)|((first|((with_reducible refine gate_callee (f:=37) rfl ?_);refine goesL_ (some 15) rfl rfl Tryd.func37 (by kernel_rfl) rfl #[.int .i64 a1] rfl (by (try simp only [List.map_toArray,List.map_cons,List.map_nil]);first|done|rfl|(simp only [List.length_drop,List.length_take];rfl)) ?_;(with_reducible refine (spec_TableOf.calls k a1 t566 _ A3.out).mono ?_);rintro e w6 ⟨v567,rfl,ho0,hb⟩;refine ⟨_,rfl,?_⟩)|(go_at_call 37;(with_reducible refine (spec_TableOf.calls k a1 t566 _ A3.out).mono ?_);rintro e w6 ⟨v567,rfl,ho0,hb⟩));have n0_:=am (Kd.N_elder' (by (with_reducible repeat (first|apply Kd.N_alloc|apply Kd.N_drewN|apply Kd.N_drew));exact HO565.out) (Kd.R_base ho0) hb);have n1_:=am (Kd.R_lower (Kd.R_newM (M:=fun k_=>(w.heap.size≤k_)) ho0 (keep_size (w:=w) (g:=g) (row:=none) (by repeat (first|(with_reducible first|exact HK.out|apply KeepBut.set_|apply keep_drewN|apply keep_drew|apply keep_alloc)|exact HK.out))) (fun k_ h_=>h_)) (keep_size (w:=w) (g:=g) (row:=none) (by repeat (first|(with_reducible first|exact HK.out|apply KeepBut.set_|apply keep_drewN|apply keep_drew|apply keep_alloc)|exact HK.out))));have n2_:=am (IsS103.below (by repeat (first|(with_reducible first|exact HI0.out|apply IsS103.alloc|apply IsS103.drewN|apply IsS103.drew|apply IsS103.set_1|apply IsS103.set_2|apply IsS103.set_3)|exact HI0.out)) hb);have n3_:=am (KeepBut.trans (by repeat (first|(with_reducible first|exact HK.out|apply KeepBut.set_|apply keep_drewN|apply keep_drew|apply keep_alloc)|exact HK.out)) (KeepBut.of_below hb g none) (.inl rfl));have n4_:=am (below_step (by repeat (first|(with_reducible first|exact HB.out|apply below_alloc|apply pw_below_drewN|apply below_drew1|refine below_set ?_ (IsS103.ge HI0.out))|exact HB.out)) hb);clear HO565;clear HI0;clear HK;clear HB;have HO565:=n0_;have HO568:=n1_;have HI0:=n2_;have HK:=n3_;have HB:=n4_;clear n0_ n1_ n2_ n3_ n4_;(try clear hb);(try clear hb2);(try clear hk);(try clear hi);(try clear ho0)))
 go_loopg [5,7] k (fun kq v5 v7 w'=>∃ (x5_1:List (S36)) (x7_1:Int) (x1001_1:Int) (x1002_1:Int) (x1003_1:Int),v7=.int .i64 x7_1∧Aside0 (spec_l01Src_l04Body.l0 kq x5_1 t566 x7_1 s0_0 x1001_1 x1002_1 x1003_1=some (r1,r2,r3,r4))∧Aside0 (kq≤k)∧Aside0 (Kd.N k36 36 w' w.heap.size (fun k_=>(w.heap.size≤k_)∧some k_≠(v567:Value).ownBlock∧k_≠g) v5 x5_1)∧Aside0 (Kd.R k57 57 w' w.heap.size (fun k_=>(w.heap.size≤k_)) v567 t566)∧Aside0 (IsS103 w0 w' g s0_0 x1001_1 x1002_1 x1003_1)∧Aside0 (KeepBut w w' g none)∧Aside0 (Below w0.heap.size w0 w'))
 case atStart=>exact ⟨(y563),(0),(s0_1),(s0_2),(s0_3),fg,H',⟨Nat.le_refl _⟩,⟨by (with_reducible repeat (first|apply Kd.N_alloc|apply Kd.N_drewN|apply Kd.N_drew));exact Kd.N_mono HO565.out (fun _ hk=>⟨hk.1.1,⟨hk.2,hk.1.2⟩⟩)⟩,⟨by (with_reducible repeat (first|apply Kd.R_alloc|apply Kd.R_drewN|apply Kd.R_drew));exact Kd.R_mono HO568.out (fun _ hk=>hk.1)⟩,⟨by repeat (first|(with_reducible first|exact HI0.out|apply IsS103.alloc|apply IsS103.drewN|apply IsS103.drew|apply IsS103.set_1|apply IsS103.set_2|apply IsS103.set_3)|exact HI0.out)⟩,⟨by repeat (first|(with_reducible first|exact HK.out|apply KeepBut.set_|apply keep_drewN|apply keep_drew|apply keep_alloc)|exact HK.out)⟩,⟨by repeat (first|(with_reducible first|exact HB.out|apply below_alloc|apply pw_below_drewN|apply below_drew1|refine below_set ?_ (IsS103.ge HI0.out))|exact HB.out)⟩⟩
 case round =>
  clear H'
  try clear p2
  try clear c3
  try clear c4
  obtain ⟨x5_1,x7_1,x1001_1,x1002_1,x1003_1,rfl,HA,HK1,HO_5,HO_6,HI0,HK,HB⟩:=hrel
  cases gk with
  | zero=>exact absurd HA.out (by simp [spec_l01Src_l04Body.l0])
  | succ k1 =>
   have H:=HA.out;clear HA;simp only [spec_l01Src_l04Body.l0] at H
   by_cases c7:x7_1<(t566.length:Int)
   ·rw [if_pos c7] at H;have c7b0:decide (x7_1<(t566.length:Int))=true:=decide_eq_true c7;clear c7
    by_cases c8:0≤x7_1
    ·rw [if_pos c8] at H;have c8b0:decide (0≤x7_1)=true:=decide_eq_true c8;clear c8;replace H:=Option.bind_eq_some_iff.mp H;obtain ⟨⟨t570,t571,t572,t573⟩,A90,H⟩:=H;replace H:(if ((rd_T57 t566 x7_1).f2)>1 then ((spec_l01Src_one.f s0_0 t571 t572 t573 40).bind fun bt575=>(spec_l01Src_l04Body.j1 k1 x5_1 t566 x7_1 (wrap64 (((rd_T57 t566 x7_1).f1)+t570)) bt575.1 s0_0 bt575.2.1 bt575.2.2.1 bt575.2.2.2)) else (spec_l01Src_l04Body.j1 k1 x5_1 t566 x7_1 (wrap64 (((rd_T57 t566 x7_1).f1)+t570)) false s0_0 t571 t572 t573))=some (r1,r2,r3,r4):=H;have A9:=am A90;clear A90;have HC10:=am H;clear H;obtain ⟨Ao11,co11,eo11⟩:=Kd.R_slice HO_6.out;subst eo11
     try go_wp2
     replace HO_5:=am (Kd.N_drew HO_5.out);replace HO_6:=am (Kd.R_drew HO_6.out);replace HI0:=am (IsS103.drew HI0.out);replace HK:=am (keep_drew HK.out);replace HB:=am (below_drew1 HB.out);have p569:0≤(x7_1:Int):=oa;have q569:x7_1<(t566.length:Int):=oa;obtain ⟨ad569,e569,hx569_0,hx569_1,hx569_2,hx569_3⟩:=at_T57 (Kd.R_reads' HO_6.out).2.2 x7_1 p569 q569
     cases e569
     replace p569:=eq_true p569;replace q569:=eq_true q569;refine start_ (n:=9) (S:=fun w'=>qe4 w' (ad569.add ((x7_1).toNat * 4)) (.string ((rd_T57 t566 x7_1).f0)) (.int .i64 ((rd_T57 t566 x7_1).f1)) (.int .i64 ((rd_T57 t566 x7_1).f2)) (.string ((rd_T57 t566 x7_1).f3))) (ds:=[]) _ (by kernel_rfl) rfl rfl ⟨hx569_0,hx569_1,hx569_2,hx569_3⟩ (fun hHeld=>?_);refine with_tabW spec_l01Src_l04Body.tab6 spec_l01Src_l04Body.bits6 (fun HT_ HW_=>?_)
     generalize wr.drew=w12 at HO_5 HO_6 HI0 HK HB hx569_0 hx569_1 hx569_2 hx569_3 hHeld ⊢
     refine pA 0 22 HT_ ?_;refine pA 1 23 HT_ ?_;refine pA 2 24 HT_ ?_;refine pA 3 25 HT_ ?_;refine pA 5 27 HT_ ?_;refine tA 4 26 HT_ HW_ hHeld ?_;refine oA 6 28 HT_ (fun K hK=>?_);refine gA Tryd.func42 #[.pointer (some ⟨g,0,none⟩),.int .i64 2] ?_;(with_reducible refine (spec_l01Src_n.calls g s0_0 x1001_1 x1002_1 x1003_1 2 t570 t571 t572 t573 w0 _ ?side1 ?side2 A9.out).mono ?_)
     (case side1=>repeat (first|(with_reducible first|exact HI0.out|apply IsS103.alloc|apply IsS103.drewN|apply IsS103.drew|apply IsS103.set_1|apply IsS103.set_2|apply IsS103.set_3)|exact HI0.out))
     (case side2=>repeat (first|(with_reducible first|exact HB.out|apply below_alloc|apply pw_below_drewN|apply below_drew1|refine below_set ?_ (IsS103.ge HI0.out))|exact HB.out))
     rintro e w13 ⟨rfl,hi,hb,hk⟩;have HS0_:=keep_cell hk (hHeld.1) (by first|(rw [add_block];exact Kd.own_blk (IsS103.own_ne HI0.out HO_6.out (by decide)))|(show (Addr.add _ _).block≠_;rw [add_block];exact Kd.own_blk (IsS103.own_ne HI0.out HO_6.out (by decide)))|exact Kd.own_blk (IsS103.own_ne HI0.out HO_6.out (by decide)));have HS1_:=keep_cell hk (hHeld.2.1) (by first|(rw [add_block];exact Kd.own_blk (IsS103.own_ne HI0.out HO_6.out (by decide)))|(show (Addr.add _ _).block≠_;rw [add_block];exact Kd.own_blk (IsS103.own_ne HI0.out HO_6.out (by decide)))|exact Kd.own_blk (IsS103.own_ne HI0.out HO_6.out (by decide)));have HS2_:=keep_cell hk (hHeld.2.2.1) (by first|(rw [add_block];exact Kd.own_blk (IsS103.own_ne HI0.out HO_6.out (by decide)))|(show (Addr.add _ _).block≠_;rw [add_block];exact Kd.own_blk (IsS103.own_ne HI0.out HO_6.out (by decide)))|exact Kd.own_blk (IsS103.own_ne HI0.out HO_6.out (by decide)));have HS3_:=keep_cell hk (hHeld.2.2.2) (by first|(rw [add_block];exact Kd.own_blk (IsS103.own_ne HI0.out HO_6.out (by decide)))|(show (Addr.add _ _).block≠_;rw [add_block];exact Kd.own_blk (IsS103.own_ne HI0.out HO_6.out (by decide)))|exact Kd.own_blk (IsS103.own_ne HI0.out HO_6.out (by decide)));refine ⟨_,rfl,?_⟩;have n0_:=am (Kd.N_mono (Kd.N_keep (Kd.N_mono (ok:=fun k_=>(((w.heap.size≤k_))∧(some k_≠(.slice (some ad569) t566.length co11:Value).ownBlock∧k_≠g))) (by (with_reducible repeat (first|apply Kd.N_alloc|apply Kd.N_drewN|apply Kd.N_drew));exact HO_5.out) (fun k_ hk_=>(⟨hk_,hk_.2.2⟩:_∧k_≠g))) hk (fun _ h=>h.2)) (fun _ h=>h.1));have n1_:=am (Kd.R_mono (Kd.R_keep (IsS103.apart (show IsS103 w0 _ g s0_0 x1001_1 x1002_1 x1003_1 from by repeat (first|(with_reducible first|exact HI0.out|apply IsS103.alloc|apply IsS103.drewN|apply IsS103.drew|apply IsS103.set_1|apply IsS103.set_2|apply IsS103.set_3)|exact HI0.out)) (rs HO_6) (by decide)) hk (fun _ h=>h.2)) (fun _ h=>h.1));have n2_:=am (KeepBut.trans (by repeat (first|(with_reducible first|exact HK.out|apply KeepBut.set_|apply keep_drewN|apply keep_drew|apply keep_alloc)|exact HK.out)) hk (.inl rfl));have n3_:=am (hb);have n4_:=am (hi);clear HO_5;clear HO_6;clear HK;clear HB;clear HI0;have HO_5:=n0_;have HO_6:=n1_;have HK:=n2_;have HB:=n3_;have HI0:=n4_;clear n0_ n1_ n2_ n3_ n4_;(try clear hb);(try clear hb2);(try clear hk);(try clear hi);refine hK.out _ _ ⟨HS0_,HS1_,HS2_,HS3_⟩ (fun hHeld=>?_);clear hK K;refine nA 28 ?_;refine pA 7 29 HT_ ?_;refine pA 8 8 HT_ ?_;refine done_ (done_of HT_.out (by kernel_rfl)) ?_
     go_upto_region 7 with (fail)
     go_cut [39] (fun v39 wc=>∃ (kq:Nat) (x39_9:Bool) (x1001_9:Int) (x1002_9:Int) (x1003_9:Int),v39=.bool x39_9∧Aside0 (spec_l01Src_l04Body.j1 kq x5_1 t566 x7_1 (wrap64 (((rd_T57 t566 x7_1).f1)+t570)) x39_9 s0_0 x1001_9 x1002_9 x1003_9=some (r1,r2,r3,r4))∧Aside0 (kq≤k1)∧Aside0 (Kd.N k36 36 wc w.heap.size (fun k_=>(w.heap.size≤k_)∧some k_≠((.slice (some ad569) t566.length co11):Value).ownBlock∧k_≠g) u5 x5_1)∧Aside0 (Kd.R k57 57 wc w.heap.size (fun k_=>(w.heap.size≤k_)) (.slice (some ad569) t566.length co11) t566)∧Aside0 (IsS103 w0 wc g s0_0 x1001_9 x1002_9 x1003_9)∧Aside0 (KeepBut w wc g none)∧Aside0 (Below w0.heap.size w0 wc))
     case first =>
      have H:=HC10.out;clear HC10
      by_cases c14:((rd_T57 t566 x7_1).f2)>1
      ·rw [if_pos c14] at H;have c14b0:decide (1<((rd_T57 t566 x7_1).f2))=true:=decide_eq_true c14;clear c14
       (first|rw [c14b0]|(simp only [i64_w,i32_w];rw [c14b0])|skip)
       replace H:=Option.bind_eq_some_iff.mp H;obtain ⟨⟨t575,t576,t577,t578⟩,A150,H⟩:=H;replace H:(spec_l01Src_l04Body.j1 k1 x5_1 t566 x7_1 (wrap64 (((rd_T57 t566 x7_1).f1)+t570)) t575 s0_0 t576 t577 t578)=some (r1,r2,r3,r4):=H;have A15:=am A150;clear A150;have H':=am H;clear H;have p574:0≤(x7_1:Int):=oa;have q574:x7_1<(t566.length:Int):=oa;obtain ⟨ad574,e574,hx574_0,hx574_1,hx574_2,hx574_3⟩:=at_T57 (Kd.R_reads' HO_6.out).2.2 x7_1 p574 q574;obtain rfl:ad569=ad574:=(by injection e574);replace p574:=eq_true p574;replace q574:=eq_true q574
       go_wp2_with (first|(go_at_call 44;(with_reducible refine (spec_l01Src_one.calls g s0_0 t571 t572 t573 40 t575 t576 t577 t578 w0 _ ?side1 ?side2 A15.out).mono ?_);(case side1=>repeat (first|(with_reducible first|exact HI0.out|apply IsS103.alloc|apply IsS103.drewN|apply IsS103.drew|apply IsS103.set_1|apply IsS103.set_2|apply IsS103.set_3)|exact HI0.out));(case side2=>repeat (first|(with_reducible first|exact HB.out|apply below_alloc|apply pw_below_drewN|apply below_drew1|refine below_set ?_ (IsS103.ge HI0.out))|exact HB.out));rintro e w16 ⟨rfl,hi,hb,hk⟩;have n0_:=am (Kd.N_mono (Kd.N_keep (Kd.N_mono (ok:=fun k_=>(((w.heap.size≤k_))∧(some k_≠(.slice (some ad569) t566.length co11:Value).ownBlock∧k_≠g))) (by (with_reducible repeat (first|apply Kd.N_alloc|apply Kd.N_drewN|apply Kd.N_drew));exact HO_5.out) (fun k_ hk_=>(⟨hk_,hk_.2.2⟩:_∧k_≠g))) hk (fun _ h=>h.2)) (fun _ h=>h.1));have n1_:=am (Kd.R_mono (Kd.R_keep (IsS103.apart (show IsS103 w0 _ g s0_0 t571 t572 t573 from by repeat (first|(with_reducible first|exact HI0.out|apply IsS103.alloc|apply IsS103.drewN|apply IsS103.drew|apply IsS103.set_1|apply IsS103.set_2|apply IsS103.set_3)|exact HI0.out)) (rs HO_6) (by decide)) hk (fun _ h=>h.2)) (fun _ h=>h.1));have n2_:=am (KeepBut.trans (by repeat (first|(with_reducible first|exact HK.out|apply KeepBut.set_|apply keep_drewN|apply keep_drew|apply keep_alloc)|exact HK.out)) hk (.inl rfl));have n3_:=am (hb);have n4_:=am (hi);clear HO_5;clear HO_6;clear HK;clear HB;clear HI0;have HO_5:=n0_;have HO_6:=n1_;have HK:=n2_;have HB:=n3_;have HI0:=n4_;clear n0_ n1_ n2_ n3_ n4_;(try clear hb);(try clear hb2);(try clear hk);(try clear hi)))
       go_meet
       case rel=>exact ⟨_,(t575),(t576),(t577),(t578),fg,H',⟨by have:=HK1.out;first|omega|exact Nat.le_refl _⟩,⟨by (with_reducible repeat (first|apply Kd.N_alloc|apply Kd.N_drewN|apply Kd.N_drew));exact HO_5.out⟩,⟨by (with_reducible repeat (first|apply Kd.R_alloc|apply Kd.R_drewN|apply Kd.R_drew));exact HO_6.out⟩,⟨by repeat (first|(with_reducible first|exact HI0.out|apply IsS103.alloc|apply IsS103.drewN|apply IsS103.drew|apply IsS103.set_1|apply IsS103.set_2|apply IsS103.set_3)|exact HI0.out)⟩,⟨by repeat (first|(with_reducible first|exact HK.out|apply KeepBut.set_|apply keep_drewN|apply keep_drew|apply keep_alloc)|exact HK.out)⟩,⟨by repeat (first|(with_reducible first|exact HB.out|apply below_alloc|apply pw_below_drewN|apply below_drew1|refine below_set ?_ (IsS103.ge HI0.out))|exact HB.out)⟩⟩
      ·rw [if_neg c14] at H;have c14b0:decide (1<((rd_T57 t566 x7_1).f2))=false:=decide_eq_false c14;clear c14
       (first|rw [c14b0]|(simp only [i64_w,i32_w];rw [c14b0])|skip)
       have H':=am H;clear H;have p574:0≤(x7_1:Int):=oa;have q574:x7_1<(t566.length:Int):=oa;obtain ⟨ad574,e574,hx574_0,hx574_1,hx574_2,hx574_3⟩:=at_T57 (Kd.R_reads' HO_6.out).2.2 x7_1 p574 q574;obtain rfl:ad569=ad574:=(by injection e574);replace p574:=eq_true p574;replace q574:=eq_true q574
       go_wp2
       go_meet
       case rel=>exact ⟨_,(false),(t571),(t572),(t573),fg,H',⟨by have:=HK1.out;first|omega|exact Nat.le_refl _⟩,⟨by (with_reducible repeat (first|apply Kd.N_alloc|apply Kd.N_drewN|apply Kd.N_drew));exact HO_5.out⟩,⟨by (with_reducible repeat (first|apply Kd.R_alloc|apply Kd.R_drewN|apply Kd.R_drew));exact HO_6.out⟩,⟨by repeat (first|(with_reducible first|exact HI0.out|apply IsS103.alloc|apply IsS103.drewN|apply IsS103.drew|apply IsS103.set_1|apply IsS103.set_2|apply IsS103.set_3)|exact HI0.out)⟩,⟨by repeat (first|(with_reducible first|exact HK.out|apply KeepBut.set_|apply keep_drewN|apply keep_drew|apply keep_alloc)|exact HK.out)⟩,⟨by repeat (first|(with_reducible first|exact HB.out|apply below_alloc|apply pw_below_drewN|apply below_drew1|refine below_set ?_ (IsS103.ge HI0.out))|exact HB.out)⟩⟩
     case rest =>
      clear HC10
      try clear c1
      try clear p2
      try clear c3
      try clear c4
      try clear p5
      try clear q5
      try clear hx5
      try clear p6
      try clear c7
      try clear c7b0
      try clear c8
      try clear c8b0
      try clear c14
      try clear c14b0
      try clear hx569_0
      try clear hx569_1
      try clear hx569_2
      try clear hx569_3
      try clear hx574_0
      try clear hx574_1
      try clear hx574_2
      try clear hx574_3
      try clear p2
      try clear p569
      try clear p574
      try clear q569
      try clear q574
      obtain ⟨kq,x39_9,x1001_9,x1002_9,x1003_9,rfl,HA,HJ9,HO_5,HO_6,HI0,HK,HB⟩:=hcut
      cases kq with
      | zero=>exact absurd HA.out (by simp [spec_l01Src_l04Body.j1])
      | succ kj9 =>
       have H:=HA.out;clear HA;simp only [spec_l01Src_l04Body.j1] at H;have HC17:=am H;clear H
       go_upto_if 39 with (fail)
       go_cut [8] (fun v8 wc=>∃ (kq:Nat) (x8_16:Int) (x1001_16:Int) (x1002_16:Int) (x1003_16:Int),v8=.int .i64 x8_16∧Aside0 (spec_l01Src_l04Body.j2 kq x5_1 t566 x7_1 x8_16 s0_0 x1001_16 x1002_16 x1003_16=some (r1,r2,r3,r4))∧Aside0 (kq≤kj9)∧Aside0 (Kd.N k36 36 wc w.heap.size (fun k_=>(w.heap.size≤k_)∧some k_≠((.slice (some ad569) t566.length co11):Value).ownBlock∧k_≠g) u5 x5_1)∧Aside0 (Kd.R k57 57 wc w.heap.size (fun k_=>(w.heap.size≤k_)) (.slice (some ad569) t566.length co11) t566)∧Aside0 (IsS103 w0 wc g s0_0 x1001_16 x1002_16 x1003_16)∧Aside0 (KeepBut w wc g none)∧Aside0 (Below w0.heap.size w0 wc))
       case first =>
        have H:=HC17.out;clear HC17
        by_cases c18:x39_9=true
        ·subst c18
         have H1:(if 0≤x7_1 then (if x7_1<(t566.length:Int) then ((spec_l01Src_n.f s0_0 x1001_9 x1002_9 x1003_9 2).bind fun bt580=>(spec_l01Src_l04Body.j2 kj9 x5_1 t566 x7_1 (wrap64 (((rd_T57 t566 x7_1).f2)+bt580.1)) s0_0 bt580.2.1 bt580.2.2.1 bt580.2.2.2)) else (none)) else (none))=some (r1,r2,r3,r4):=by rw [if_pos rfl] at H;exact H
         clear H;have H:=H1;clear H1
         by_cases c19:0≤x7_1
         ·rw [if_pos c19] at H;have c19b0:decide (0≤x7_1)=true:=decide_eq_true c19;clear c19
          (first|rw [c19b0]|(simp only [i64_w,i32_w];rw [c19b0])|skip)
          by_cases c20:x7_1<(t566.length:Int)
          ·rw [if_pos c20] at H;have c20b0:decide (x7_1<(t566.length:Int))=true:=decide_eq_true c20;clear c20;replace H:=Option.bind_eq_some_iff.mp H;obtain ⟨⟨t580,t581,t582,t583⟩,A210,H⟩:=H;replace H:(spec_l01Src_l04Body.j2 kj9 x5_1 t566 x7_1 (wrap64 (((rd_T57 t566 x7_1).f2)+t580)) s0_0 t581 t582 t583)=some (r1,r2,r3,r4):=H;have A21:=am A210;clear A210;have H':=am H;clear H
           try go_wp2
           replace HO_5:=am (Kd.N_drew HO_5.out);replace HO_6:=am (Kd.R_drew HO_6.out);replace HI0:=am (IsS103.drew HI0.out);replace HK:=am (keep_drew HK.out);replace HB:=am (below_drew1 HB.out);have p579:0≤(x7_1:Int):=oa;have q579:x7_1<(t566.length:Int):=oa;obtain ⟨ad579,e579,hx579_0,hx579_1,hx579_2,hx579_3⟩:=at_T57 (Kd.R_reads' HO_6.out).2.2 x7_1 p579 q579;obtain rfl:ad569=ad579:=(by injection e579);replace p579:=eq_true p579;replace q579:=eq_true q579;refine start_ (n:=9) (S:=fun w'=>qe4 w' (ad569.add ((x7_1).toNat * 4)) (.string ((rd_T57 t566 x7_1).f0)) (.int .i64 ((rd_T57 t566 x7_1).f1)) (.int .i64 ((rd_T57 t566 x7_1).f2)) (.string ((rd_T57 t566 x7_1).f3))) (ds:=[]) _ (by kernel_rfl) rfl rfl ⟨hx579_0,hx579_1,hx579_2,hx579_3⟩ (fun hHeld=>?_);refine with_tabW spec_l01Src_l04Body.tab8 spec_l01Src_l04Body.bits8 (fun HT_ HW_=>?_)
           generalize wc.drew=w22 at HO_5 HO_6 HI0 HK HB hx579_0 hx579_1 hx579_2 hx579_3 hHeld ⊢
           refine pA 0 40 HT_ ?_;refine pA 1 41 HT_ ?_;refine pA 2 42 HT_ ?_;refine pA 3 43 HT_ ?_;refine pA 5 45 HT_ ?_;refine tA 4 44 HT_ HW_ hHeld ?_;refine oA 6 46 HT_ (fun K hK=>?_);refine gA Tryd.func42 #[.pointer (some ⟨g,0,none⟩),.int .i64 2] ?_;(with_reducible refine (spec_l01Src_n.calls g s0_0 x1001_9 x1002_9 x1003_9 2 t580 t581 t582 t583 w0 _ ?side1 ?side2 A21.out).mono ?_)
           (case side1=>repeat (first|(with_reducible first|exact HI0.out|apply IsS103.alloc|apply IsS103.drewN|apply IsS103.drew|apply IsS103.set_1|apply IsS103.set_2|apply IsS103.set_3)|exact HI0.out))
           (case side2=>repeat (first|(with_reducible first|exact HB.out|apply below_alloc|apply pw_below_drewN|apply below_drew1|refine below_set ?_ (IsS103.ge HI0.out))|exact HB.out))
           rintro e w23 ⟨rfl,hi,hb,hk⟩;have HS0_:=keep_cell hk (hHeld.1) (by first|(rw [add_block];exact Kd.own_blk (IsS103.own_ne HI0.out HO_6.out (by decide)))|(show (Addr.add _ _).block≠_;rw [add_block];exact Kd.own_blk (IsS103.own_ne HI0.out HO_6.out (by decide)))|exact Kd.own_blk (IsS103.own_ne HI0.out HO_6.out (by decide)));have HS1_:=keep_cell hk (hHeld.2.1) (by first|(rw [add_block];exact Kd.own_blk (IsS103.own_ne HI0.out HO_6.out (by decide)))|(show (Addr.add _ _).block≠_;rw [add_block];exact Kd.own_blk (IsS103.own_ne HI0.out HO_6.out (by decide)))|exact Kd.own_blk (IsS103.own_ne HI0.out HO_6.out (by decide)));have HS2_:=keep_cell hk (hHeld.2.2.1) (by first|(rw [add_block];exact Kd.own_blk (IsS103.own_ne HI0.out HO_6.out (by decide)))|(show (Addr.add _ _).block≠_;rw [add_block];exact Kd.own_blk (IsS103.own_ne HI0.out HO_6.out (by decide)))|exact Kd.own_blk (IsS103.own_ne HI0.out HO_6.out (by decide)));have HS3_:=keep_cell hk (hHeld.2.2.2) (by first|(rw [add_block];exact Kd.own_blk (IsS103.own_ne HI0.out HO_6.out (by decide)))|(show (Addr.add _ _).block≠_;rw [add_block];exact Kd.own_blk (IsS103.own_ne HI0.out HO_6.out (by decide)))|exact Kd.own_blk (IsS103.own_ne HI0.out HO_6.out (by decide)));refine ⟨_,rfl,?_⟩;have n0_:=am (Kd.N_mono (Kd.N_keep (Kd.N_mono (ok:=fun k_=>(((w.heap.size≤k_))∧(some k_≠(.slice (some ad569) t566.length co11:Value).ownBlock∧k_≠g))) (by (with_reducible repeat (first|apply Kd.N_alloc|apply Kd.N_drewN|apply Kd.N_drew));exact HO_5.out) (fun k_ hk_=>(⟨hk_,hk_.2.2⟩:_∧k_≠g))) hk (fun _ h=>h.2)) (fun _ h=>h.1));have n1_:=am (Kd.R_mono (Kd.R_keep (IsS103.apart (show IsS103 w0 _ g s0_0 x1001_9 x1002_9 x1003_9 from by repeat (first|(with_reducible first|exact HI0.out|apply IsS103.alloc|apply IsS103.drewN|apply IsS103.drew|apply IsS103.set_1|apply IsS103.set_2|apply IsS103.set_3)|exact HI0.out)) (rs HO_6) (by decide)) hk (fun _ h=>h.2)) (fun _ h=>h.1));have n2_:=am (KeepBut.trans (by repeat (first|(with_reducible first|exact HK.out|apply KeepBut.set_|apply keep_drewN|apply keep_drew|apply keep_alloc)|exact HK.out)) hk (.inl rfl));have n3_:=am (hb);have n4_:=am (hi);clear HO_5;clear HO_6;clear HK;clear HB;clear HI0;have HO_5:=n0_;have HO_6:=n1_;have HK:=n2_;have HB:=n3_;have HI0:=n4_;clear n0_ n1_ n2_ n3_ n4_;(try clear hb);(try clear hb2);(try clear hk);(try clear hi);refine hK.out _ _ ⟨HS0_,HS1_,HS2_,HS3_⟩ (fun hHeld=>?_);clear hK K;refine nA 46 ?_;refine pA 7 47 HT_ ?_;refine pA 8 8 HT_ ?_;refine done_ (done_of HT_.out (by kernel_rfl)) ?_
           try go_wp2
           go_meet
           case rel=>exact ⟨_,(wrap64 (((rd_T57 t566 x7_1).f2)+t580)),(t581),(t582),(t583),fg,H',⟨by have:=HK1.out;have:=HJ9.out;first|omega|exact Nat.le_refl _⟩,⟨by (with_reducible repeat (first|apply Kd.N_alloc|apply Kd.N_drewN|apply Kd.N_drew));exact HO_5.out⟩,⟨by (with_reducible repeat (first|apply Kd.R_alloc|apply Kd.R_drewN|apply Kd.R_drew));exact HO_6.out⟩,⟨by repeat (first|(with_reducible first|exact HI0.out|apply IsS103.alloc|apply IsS103.drewN|apply IsS103.drew|apply IsS103.set_1|apply IsS103.set_2|apply IsS103.set_3)|exact HI0.out)⟩,⟨by repeat (first|(with_reducible first|exact HK.out|apply KeepBut.set_|apply keep_drewN|apply keep_drew|apply keep_alloc)|exact HK.out)⟩,⟨by repeat (first|(with_reducible first|exact HB.out|apply below_alloc|apply pw_below_drewN|apply below_drew1|refine below_set ?_ (IsS103.ge HI0.out))|exact HB.out)⟩⟩
          ·rw [if_neg c20] at H
           exact absurd H (by simp)
         ·rw [if_neg c19] at H
          exact absurd H (by simp)
        ·replace c18:=Bool.eq_false_iff.mpr c18;subst c18
         have H1:(spec_l01Src_l04Body.j2 kj9 x5_1 t566 x7_1 (wrap64 (((rd_T57 t566 x7_1).f1)+t570)) s0_0 x1001_9 x1002_9 x1003_9)=some (r1,r2,r3,r4):=by rw [if_neg (show ¬ (false=true) by decide)] at H;exact H
         clear H;have H:=H1;clear H1;have H':=am H;clear H
         go_wp2
         go_meet
         case rel=>exact ⟨_,((wrap64 (((rd_T57 t566 x7_1).f1)+t570))),(x1001_9),(x1002_9),(x1003_9),fg,H',⟨by have:=HK1.out;have:=HJ9.out;first|omega|exact Nat.le_refl _⟩,⟨by (with_reducible repeat (first|apply Kd.N_alloc|apply Kd.N_drewN|apply Kd.N_drew));exact HO_5.out⟩,⟨by (with_reducible repeat (first|apply Kd.R_alloc|apply Kd.R_drewN|apply Kd.R_drew));exact HO_6.out⟩,⟨by repeat (first|(with_reducible first|exact HI0.out|apply IsS103.alloc|apply IsS103.drewN|apply IsS103.drew|apply IsS103.set_1|apply IsS103.set_2|apply IsS103.set_3)|exact HI0.out)⟩,⟨by repeat (first|(with_reducible first|exact HK.out|apply KeepBut.set_|apply keep_drewN|apply keep_drew|apply keep_alloc)|exact HK.out)⟩,⟨by repeat (first|(with_reducible first|exact HB.out|apply below_alloc|apply pw_below_drewN|apply below_drew1|refine below_set ?_ (IsS103.ge HI0.out))|exact HB.out)⟩⟩
       case rest =>
        clear HC17
        try clear c1
        try clear c2
        try clear p2
        try clear c3
        try clear c4
        try clear p5
        try clear q5
        try clear hx5
        try clear p6
        try clear c7
        try clear c7b0
        try clear c8
        try clear c8b0
        try clear c14
        try clear c14b0
        try clear c18
        try clear c19
        try clear c19b0
        try clear c20
        try clear c20b0
        try clear hx569_0
        try clear hx569_1
        try clear hx569_2
        try clear hx569_3
        try clear hx574_0
        try clear hx574_1
        try clear hx574_2
        try clear hx574_3
        try clear hx579_0
        try clear hx579_1
        try clear hx579_2
        try clear hx579_3
        try clear p2
        try clear p5
        try clear p569
        try clear p574
        try clear p579
        try clear p6
        try clear q5
        try clear q569
        try clear q574
        try clear q579
        obtain ⟨kq,x8_16,x1001_16,x1002_16,x1003_16,rfl,HA,HJ16,HO_5,HO_6,HI0,HK,HB⟩:=hcut
        cases kq with
        | zero=>exact absurd HA.out (by simp [spec_l01Src_l04Body.j2])
        | succ kj16 =>
         have H:=HA.out;clear HA;simp only [spec_l01Src_l04Body.j2] at H;have HC24:=am H;clear H
         go_upto_region 9 with (fail)
         go_cut [59] (fun v59 wc=>∃ (kq:Nat) (x59_23:Bool) (x1001_23:Int) (x1002_23:Int) (x1003_23:Int),v59=.bool x59_23∧Aside0 (spec_l01Src_l04Body.j3 kq x5_1 t566 x7_1 x8_16 x59_23 s0_0 x1001_23 x1002_23 x1003_23=some (r1,r2,r3,r4))∧Aside0 (kq≤kj16)∧Aside0 (Kd.N k36 36 wc w.heap.size (fun k_=>(w.heap.size≤k_)∧some k_≠((.slice (some ad569) t566.length co11):Value).ownBlock∧k_≠g) u5 x5_1)∧Aside0 (Kd.R k57 57 wc w.heap.size (fun k_=>(w.heap.size≤k_)) (.slice (some ad569) t566.length co11) t566)∧Aside0 (IsS103 w0 wc g s0_0 x1001_23 x1002_23 x1003_23)∧Aside0 (KeepBut w wc g none)∧Aside0 (Below w0.heap.size w0 wc))
         case first =>
          have H:=HC24.out;clear HC24
          by_cases c25:0≤x7_1
          ·rw [if_pos c25] at H;have c25b0:decide (0≤x7_1)=true:=decide_eq_true c25;clear c25
           (first|rw [c25b0]|(simp only [i64_w,i32_w];rw [c25b0])|skip)
           by_cases c26:x7_1<(t566.length:Int)
           ·rw [if_pos c26] at H;have c26b0:decide (x7_1<(t566.length:Int))=true:=decide_eq_true c26;clear c26
            by_cases c27:x8_16>((rd_T57 t566 x7_1).f2)
            ·rw [if_pos c27] at H;have c27b0:decide (((rd_T57 t566 x7_1).f2)<x8_16)=true:=decide_eq_true c27;clear c27;replace H:=Option.bind_eq_some_iff.mp H;obtain ⟨⟨t585,t586,t587,t588⟩,A280,H⟩:=H;replace H:(spec_l01Src_l04Body.j3 kj16 x5_1 t566 x7_1 x8_16 (!t585) s0_0 t586 t587 t588)=some (r1,r2,r3,r4):=H;have A28:=am A280;clear A280;have H':=am H;clear H;have p584:0≤(x7_1:Int):=oa;have q584:x7_1<(t566.length:Int):=oa;obtain ⟨ad584,e584,hx584_0,hx584_1,hx584_2,hx584_3⟩:=at_T57 (Kd.R_reads' HO_6.out).2.2 x7_1 p584 q584;obtain rfl:ad569=ad584:=(by injection e584);replace p584:=eq_true p584;replace q584:=eq_true q584
             go_wp2_with (first|(go_at_call 44;(with_reducible refine (spec_l01Src_one.calls g s0_0 x1001_16 x1002_16 x1003_16 8 t585 t586 t587 t588 w0 _ ?side1 ?side2 A28.out).mono ?_);(case side1=>repeat (first|(with_reducible first|exact HI0.out|apply IsS103.alloc|apply IsS103.drewN|apply IsS103.drew|apply IsS103.set_1|apply IsS103.set_2|apply IsS103.set_3)|exact HI0.out));(case side2=>repeat (first|(with_reducible first|exact HB.out|apply below_alloc|apply pw_below_drewN|apply below_drew1|refine below_set ?_ (IsS103.ge HI0.out))|exact HB.out));rintro e w29 ⟨rfl,hi,hb,hk⟩;have n0_:=am (Kd.N_mono (Kd.N_keep (Kd.N_mono (ok:=fun k_=>(((w.heap.size≤k_))∧(some k_≠(.slice (some ad569) t566.length co11:Value).ownBlock∧k_≠g))) (by (with_reducible repeat (first|apply Kd.N_alloc|apply Kd.N_drewN|apply Kd.N_drew));exact HO_5.out) (fun k_ hk_=>(⟨hk_,hk_.2.2⟩:_∧k_≠g))) hk (fun _ h=>h.2)) (fun _ h=>h.1));have n1_:=am (Kd.R_mono (Kd.R_keep (IsS103.apart (show IsS103 w0 _ g s0_0 x1001_16 x1002_16 x1003_16 from by repeat (first|(with_reducible first|exact HI0.out|apply IsS103.alloc|apply IsS103.drewN|apply IsS103.drew|apply IsS103.set_1|apply IsS103.set_2|apply IsS103.set_3)|exact HI0.out)) (rs HO_6) (by decide)) hk (fun _ h=>h.2)) (fun _ h=>h.1));have n2_:=am (KeepBut.trans (by repeat (first|(with_reducible first|exact HK.out|apply KeepBut.set_|apply keep_drewN|apply keep_drew|apply keep_alloc)|exact HK.out)) hk (.inl rfl));have n3_:=am (hb);have n4_:=am (hi);clear HO_5;clear HO_6;clear HK;clear HB;clear HI0;have HO_5:=n0_;have HO_6:=n1_;have HK:=n2_;have HB:=n3_;have HI0:=n4_;clear n0_ n1_ n2_ n3_ n4_;(try clear hb);(try clear hb2);(try clear hk);(try clear hi)))
             go_meet
             case rel=>exact ⟨_,(!t585),(t586),(t587),(t588),fg,H',⟨by have:=HK1.out;have:=HJ9.out;have:=HJ16.out;first|omega|exact Nat.le_refl _⟩,⟨by (with_reducible repeat (first|apply Kd.N_alloc|apply Kd.N_drewN|apply Kd.N_drew));exact HO_5.out⟩,⟨by (with_reducible repeat (first|apply Kd.R_alloc|apply Kd.R_drewN|apply Kd.R_drew));exact HO_6.out⟩,⟨by repeat (first|(with_reducible first|exact HI0.out|apply IsS103.alloc|apply IsS103.drewN|apply IsS103.drew|apply IsS103.set_1|apply IsS103.set_2|apply IsS103.set_3)|exact HI0.out)⟩,⟨by repeat (first|(with_reducible first|exact HK.out|apply KeepBut.set_|apply keep_drewN|apply keep_drew|apply keep_alloc)|exact HK.out)⟩,⟨by repeat (first|(with_reducible first|exact HB.out|apply below_alloc|apply pw_below_drewN|apply below_drew1|refine below_set ?_ (IsS103.ge HI0.out))|exact HB.out)⟩⟩
            ·rw [if_neg c27] at H;have c27b0:decide (((rd_T57 t566 x7_1).f2)<x8_16)=false:=decide_eq_false c27;clear c27;have H':=am H;clear H;have p584:0≤(x7_1:Int):=oa;have q584:x7_1<(t566.length:Int):=oa;obtain ⟨ad584,e584,hx584_0,hx584_1,hx584_2,hx584_3⟩:=at_T57 (Kd.R_reads' HO_6.out).2.2 x7_1 p584 q584;obtain rfl:ad569=ad584:=(by injection e584);replace p584:=eq_true p584;replace q584:=eq_true q584
             go_wp2
             go_meet
             case rel=>exact ⟨_,(false),(x1001_16),(x1002_16),(x1003_16),fg,H',⟨by have:=HK1.out;have:=HJ9.out;have:=HJ16.out;first|omega|exact Nat.le_refl _⟩,⟨by (with_reducible repeat (first|apply Kd.N_alloc|apply Kd.N_drewN|apply Kd.N_drew));exact HO_5.out⟩,⟨by (with_reducible repeat (first|apply Kd.R_alloc|apply Kd.R_drewN|apply Kd.R_drew));exact HO_6.out⟩,⟨by repeat (first|(with_reducible first|exact HI0.out|apply IsS103.alloc|apply IsS103.drewN|apply IsS103.drew|apply IsS103.set_1|apply IsS103.set_2|apply IsS103.set_3)|exact HI0.out)⟩,⟨by repeat (first|(with_reducible first|exact HK.out|apply KeepBut.set_|apply keep_drewN|apply keep_drew|apply keep_alloc)|exact HK.out)⟩,⟨by repeat (first|(with_reducible first|exact HB.out|apply below_alloc|apply pw_below_drewN|apply below_drew1|refine below_set ?_ (IsS103.ge HI0.out))|exact HB.out)⟩⟩
           ·rw [if_neg c26] at H
            exact absurd H (by simp)
          ·rw [if_neg c25] at H
           exact absurd H (by simp)
         case rest =>
          clear HC24
          try clear c1
          try clear c2
          try clear p2
          try clear c3
          try clear c4
          try clear p5
          try clear q5
          try clear hx5
          try clear p6
          try clear c7
          try clear c7b0
          try clear c8
          try clear c8b0
          try clear c14
          try clear c14b0
          try clear c18
          try clear c19
          try clear c19b0
          try clear c20
          try clear c20b0
          try clear c25
          try clear c25b0
          try clear c26
          try clear c26b0
          try clear c27
          try clear c27b0
          try clear hx569_0
          try clear hx569_1
          try clear hx569_2
          try clear hx569_3
          try clear hx574_0
          try clear hx574_1
          try clear hx574_2
          try clear hx574_3
          try clear hx579_0
          try clear hx579_1
          try clear hx579_2
          try clear hx579_3
          try clear hx584_0
          try clear hx584_1
          try clear hx584_2
          try clear hx584_3
          try clear p2
          try clear p5
          try clear p569
          try clear p574
          try clear p579
          try clear p584
          try clear p6
          try clear q5
          try clear q569
          try clear q574
          try clear q579
          try clear q584
          obtain ⟨kq,x59_23,x1001_23,x1002_23,x1003_23,rfl,HA,HJ23,HO_5,HO_6,HI0,HK,HB⟩:=hcut
          cases kq with
          | zero=>exact absurd HA.out (by simp [spec_l01Src_l04Body.j3])
          | succ kj23 =>
           have H:=HA.out;clear HA;simp only [spec_l01Src_l04Body.j3] at H;have HC30:=am H;clear H
           go_upto_if 59 with (fail)
           go_cut [8] (fun v8 wc=>∃ (kq:Nat) (x8_29:Int),v8=.int .i64 x8_29∧Aside0 (spec_l01Src_l04Body.j4 kq x5_1 t566 x7_1 x8_29 s0_0 x1001_23 x1002_23 x1003_23=some (r1,r2,r3,r4))∧Aside0 (kq≤kj23)∧Aside0 (Kd.N k36 36 wc w.heap.size (fun k_=>(w.heap.size≤k_)∧some k_≠((.slice (some ad569) t566.length co11):Value).ownBlock∧k_≠g) u5 x5_1)∧Aside0 (Kd.R k57 57 wc w.heap.size (fun k_=>(w.heap.size≤k_)) (.slice (some ad569) t566.length co11) t566)∧Aside0 (IsS103 w0 wc g s0_0 x1001_23 x1002_23 x1003_23)∧Aside0 (KeepBut w wc g none)∧Aside0 (Below w0.heap.size w0 wc))
           case first =>
            have H:=HC30.out;clear HC30
            by_cases c31:x59_23=true
            ·subst c31
             have H1:(if 0≤x7_1 then (if x7_1<(t566.length:Int) then (spec_l01Src_l04Body.j4 kj23 x5_1 t566 x7_1 ((rd_T57 t566 x7_1).f2) s0_0 x1001_23 x1002_23 x1003_23) else (none)) else (none))=some (r1,r2,r3,r4):=by rw [if_pos rfl] at H;exact H
             clear H;have H:=H1;clear H1
             by_cases c32:0≤x7_1
             ·rw [if_pos c32] at H;have c32b0:decide (0≤x7_1)=true:=decide_eq_true c32;clear c32
              (first|rw [c32b0]|(simp only [i64_w,i32_w];rw [c32b0])|skip)
              by_cases c33:x7_1<(t566.length:Int)
              ·rw [if_pos c33] at H;have c33b0:decide (x7_1<(t566.length:Int))=true:=decide_eq_true c33;clear c33;have H':=am H;clear H;have p589:0≤(x7_1:Int):=oa;have q589:x7_1<(t566.length:Int):=oa;obtain ⟨ad589,e589,hx589_0,hx589_1,hx589_2,hx589_3⟩:=at_T57 (Kd.R_reads' HO_6.out).2.2 x7_1 p589 q589;obtain rfl:ad569=ad589:=(by injection e589);replace p589:=eq_true p589;replace q589:=eq_true q589
               go_wp2
               go_meet
               case rel=>exact ⟨_,((rd_T57 t566 x7_1).f2),fg,H',⟨by have:=HK1.out;have:=HJ9.out;have:=HJ16.out;have:=HJ23.out;first|omega|exact Nat.le_refl _⟩,⟨by (with_reducible repeat (first|apply Kd.N_alloc|apply Kd.N_drewN|apply Kd.N_drew));exact HO_5.out⟩,⟨by (with_reducible repeat (first|apply Kd.R_alloc|apply Kd.R_drewN|apply Kd.R_drew));exact HO_6.out⟩,⟨by repeat (first|(with_reducible first|exact HI0.out|apply IsS103.alloc|apply IsS103.drewN|apply IsS103.drew|apply IsS103.set_1|apply IsS103.set_2|apply IsS103.set_3)|exact HI0.out)⟩,⟨by repeat (first|(with_reducible first|exact HK.out|apply KeepBut.set_|apply keep_drewN|apply keep_drew|apply keep_alloc)|exact HK.out)⟩,⟨by repeat (first|(with_reducible first|exact HB.out|apply below_alloc|apply pw_below_drewN|apply below_drew1|refine below_set ?_ (IsS103.ge HI0.out))|exact HB.out)⟩⟩
              ·rw [if_neg c33] at H
               exact absurd H (by simp)
             ·rw [if_neg c32] at H
              exact absurd H (by simp)
            ·replace c31:=Bool.eq_false_iff.mpr c31;subst c31
             have H1:(spec_l01Src_l04Body.j4 kj23 x5_1 t566 x7_1 x8_16 s0_0 x1001_23 x1002_23 x1003_23)=some (r1,r2,r3,r4):=by rw [if_neg (show ¬ (false=true) by decide)] at H;exact H
             clear H;have H:=H1;clear H1;have H':=am H;clear H
             go_wp2
             go_meet
             case rel=>exact ⟨_,(x8_16),fg,H',⟨by have:=HK1.out;have:=HJ9.out;have:=HJ16.out;have:=HJ23.out;first|omega|exact Nat.le_refl _⟩,⟨by (with_reducible repeat (first|apply Kd.N_alloc|apply Kd.N_drewN|apply Kd.N_drew));exact HO_5.out⟩,⟨by (with_reducible repeat (first|apply Kd.R_alloc|apply Kd.R_drewN|apply Kd.R_drew));exact HO_6.out⟩,⟨by repeat (first|(with_reducible first|exact HI0.out|apply IsS103.alloc|apply IsS103.drewN|apply IsS103.drew|apply IsS103.set_1|apply IsS103.set_2|apply IsS103.set_3)|exact HI0.out)⟩,⟨by repeat (first|(with_reducible first|exact HK.out|apply KeepBut.set_|apply keep_drewN|apply keep_drew|apply keep_alloc)|exact HK.out)⟩,⟨by repeat (first|(with_reducible first|exact HB.out|apply below_alloc|apply pw_below_drewN|apply below_drew1|refine below_set ?_ (IsS103.ge HI0.out))|exact HB.out)⟩⟩
           case rest =>
            clear HC30
            try clear c1
            try clear c2
            try clear p2
            try clear c3
            try clear c4
            try clear p5
            try clear q5
            try clear hx5
            try clear p6
            try clear c7
            try clear c7b0
            try clear c8
            try clear c8b0
            try clear c14
            try clear c14b0
            try clear c18
            try clear c19
            try clear c19b0
            try clear c20
            try clear c20b0
            try clear c25
            try clear c25b0
            try clear c26
            try clear c26b0
            try clear c27
            try clear c27b0
            try clear c31
            try clear c32
            try clear c32b0
            try clear c33
            try clear c33b0
            try clear hx569_0
            try clear hx569_1
            try clear hx569_2
            try clear hx569_3
            try clear hx574_0
            try clear hx574_1
            try clear hx574_2
            try clear hx574_3
            try clear hx579_0
            try clear hx579_1
            try clear hx579_2
            try clear hx579_3
            try clear hx584_0
            try clear hx584_1
            try clear hx584_2
            try clear hx584_3
            try clear hx589_0
            try clear hx589_1
            try clear hx589_2
            try clear hx589_3
            try clear p2
            try clear p5
            try clear p569
            try clear p574
            try clear p579
            try clear p584
            try clear p589
            try clear p6
            try clear q5
            try clear q569
            try clear q574
            try clear q579
            try clear q584
            try clear q589
            obtain ⟨kq,x8_29,rfl,HA,HJ29,HO_5,HO_6,HI0,HK,HB⟩:=hcut
            cases kq with
            | zero=>exact absurd HA.out (by simp [spec_l01Src_l04Body.j4])
            | succ kj29 =>
             have H:=HA.out;clear HA;simp only [spec_l01Src_l04Body.j4] at H;have H':=am H;clear H
             go_wp2
             go_loopg [5,8] kj29 (fun kq v5 v8 w'=>∃ (x5_6:List (S36)) (x8_6:Int) (x1001_6:Int) (x1002_6:Int) (x1003_6:Int),v8=.int .i64 x8_6∧Aside0 (spec_l01Src_l04Body.l1 kq x5_6 t566 x7_1 x8_6 s0_0 x1001_6 x1002_6 x1003_6=some (r1,r2,r3,r4))∧Aside0 (kq≤kj29)∧Aside0 (Kd.N k36 36 w' w.heap.size (fun k_=>(w.heap.size≤k_)∧some k_≠((.slice (some ad569) t566.length co11):Value).ownBlock∧k_≠g) v5 x5_6)∧Aside0 (Kd.R k57 57 w' w.heap.size (fun k_=>(w.heap.size≤k_)) (.slice (some ad569) t566.length co11) t566)∧Aside0 (IsS103 w0 w' g s0_0 x1001_6 x1002_6 x1003_6)∧Aside0 (KeepBut w w' g none)∧Aside0 (Below w0.heap.size w0 w'))
             case atStart=>exact ⟨(x5_1),(x8_29),(x1001_23),(x1002_23),(x1003_23),fg,H',⟨Nat.le_refl _⟩,⟨by (with_reducible repeat (first|apply Kd.N_alloc|apply Kd.N_drewN|apply Kd.N_drew));exact HO_5.out⟩,⟨by (with_reducible repeat (first|apply Kd.R_alloc|apply Kd.R_drewN|apply Kd.R_drew));exact HO_6.out⟩,⟨by repeat (first|(with_reducible first|exact HI0.out|apply IsS103.alloc|apply IsS103.drewN|apply IsS103.drew|apply IsS103.set_1|apply IsS103.set_2|apply IsS103.set_3)|exact HI0.out)⟩,⟨by repeat (first|(with_reducible first|exact HK.out|apply KeepBut.set_|apply keep_drewN|apply keep_drew|apply keep_alloc)|exact HK.out)⟩,⟨by repeat (first|(with_reducible first|exact HB.out|apply below_alloc|apply pw_below_drewN|apply below_drew1|refine below_set ?_ (IsS103.ge HI0.out))|exact HB.out)⟩⟩
             case round =>
              clear H'
              try clear c1
              try clear c2
              try clear p2
              try clear c3
              try clear c4
              try clear p5
              try clear q5
              try clear hx5
              try clear p6
              try clear c7
              try clear c7b0
              try clear c8
              try clear c8b0
              try clear c14
              try clear c14b0
              try clear c18
              try clear c19
              try clear c19b0
              try clear c20
              try clear c20b0
              try clear c25
              try clear c25b0
              try clear c26
              try clear c26b0
              try clear c27
              try clear c27b0
              try clear c31
              try clear c32
              try clear c32b0
              try clear c33
              try clear c33b0
              try clear hx569_0
              try clear hx569_1
              try clear hx569_2
              try clear hx569_3
              try clear hx574_0
              try clear hx574_1
              try clear hx574_2
              try clear hx574_3
              try clear hx579_0
              try clear hx579_1
              try clear hx579_2
              try clear hx579_3
              try clear hx584_0
              try clear hx584_1
              try clear hx584_2
              try clear hx584_3
              try clear hx589_0
              try clear hx589_1
              try clear hx589_2
              try clear hx589_3
              try clear p2
              try clear p5
              try clear p569
              try clear p574
              try clear p579
              try clear p584
              try clear p589
              try clear p6
              try clear q5
              try clear q569
              try clear q574
              try clear q579
              try clear q584
              try clear q589
              obtain ⟨x5_6,x8_6,x1001_6,x1002_6,x1003_6,rfl,HA,HK6,HO_5,HO_6,HI0,HK,HB⟩:=hrel
              cases gk with
              | zero=>exact absurd HA.out (by simp [spec_l01Src_l04Body.l1])
              | succ k6 =>
               have H:=HA.out;clear HA;simp only [spec_l01Src_l04Body.l1] at H
               by_cases c34:x8_6>0
               ·rw [if_pos c34] at H;have c34b0:decide (0<x8_6)=true:=decide_eq_true c34;clear c34;obtain ⟨y590,hy590⟩:∃ y_:List ByteArray,y_=(([]:List ByteArray)):=⟨_,rfl⟩
                replace H:(spec_l01Src_l04Body.l2 k6 x5_6 t566 x7_1 x8_6 y590 0 s0_0 x1001_6 x1002_6 x1003_6)=some (r1,r2,r3,r4):=by first|(rw [hy590];with_reducible exact H)|(have H2_:=(Option.bind_some _ _).symm.trans H;rw [hy590];with_reducible exact H2_)|(have H2_:=(Option.bind_some _ _).symm.trans H;with_reducible exact H2_)|with_reducible exact H|(rw [hy590];exact H)|exact H
                have Ny590:=am hy590;clear hy590;have HC35:=am H;clear H
                go_upto_block 4 with (first|((with_reducible refine gate_dst (N:=69) rfl ?_);(try (refine gate_guard (by rfl) ?_;dsimp only));refine Kd.R_lit Kd.string _ 9 ?hg (N:=69) ?hd (xs:=([]:List ByteArray)) (inner:=[]) (ok:=fun _=>True) (okp:=fun _=>True) ?hr ?hp (fun _ hk=>hk) trivial (Below.refl _ _) (Nat.le_refl _) (by simp) ?_;(case hd=>rfl);(case hg=>rfl);(case hr=>first|(go_simp;done)|(go_simp;rfl));(case hp=>exact (Reps.none _ _));intro v591 w36 ho37 hb hg_ hnew_;clear hg_ hnew_;(first|rw [← Ny590.out] at ho37|(simp only [Int.reduceToNat] at ho37;rw [← Ny590.out] at ho37));have n0_:=am (Kd.N_elder' (by (with_reducible repeat (first|apply Kd.N_alloc|apply Kd.N_drewN|apply Kd.N_drew));exact HO_5.out) (Kd.R_base ho37) hb);have n1_:=am (Kd.R_below (rs HO_6) hb);have n2_:=am (Kd.R_lower (Kd.R_newM (M:=fun k_=>(w.heap.size≤k_)) ho37 (keep_size (w:=w) (g:=g) (row:=none) (by repeat (first|(with_reducible first|exact HK.out|apply KeepBut.set_|apply keep_drewN|apply keep_drew|apply keep_alloc)|exact HK.out))) (fun k_ h_=>h_)) (keep_size (w:=w) (g:=g) (row:=none) (by repeat (first|(with_reducible first|exact HK.out|apply KeepBut.set_|apply keep_drewN|apply keep_drew|apply keep_alloc)|exact HK.out))));have n3_:=am (IsS103.below (by repeat (first|(with_reducible first|exact HI0.out|apply IsS103.alloc|apply IsS103.drewN|apply IsS103.drew|apply IsS103.set_1|apply IsS103.set_2|apply IsS103.set_3)|exact HI0.out)) hb);have n4_:=am (KeepBut.trans (by repeat (first|(with_reducible first|exact HK.out|apply KeepBut.set_|apply keep_drewN|apply keep_drew|apply keep_alloc)|exact HK.out)) (KeepBut.of_below hb g none) (.inl rfl));have n5_:=am (below_step (by repeat (first|(with_reducible first|exact HB.out|apply below_alloc|apply pw_below_drewN|apply below_drew1|refine below_set ?_ (IsS103.ge HI0.out))|exact HB.out)) hb);clear HO_5;clear HO_6;clear HI0;clear HK;clear HB;have HO_5:=n0_;have HO_6:=n1_;have HO592:=n2_;have HI0:=n3_;have HK:=n4_;have HB:=n5_;clear n0_ n1_ n2_ n3_ n4_ n5_;clear hb ho37))
                (try simp only [Act.put,List.setIfInBounds_toArray,List.set_cons_zero,List.set_cons_succ])
                go_cut [9] (fun v9 wc=>∃ (kq:Nat) (x9_34:List ByteArray) (x1001_34:Int) (x1002_34:Int) (x1003_34:Int),Aside0 (spec_l01Src_l04Body.j7 kq x5_6 t566 x7_1 x8_6 x9_34 s0_0 x1001_34 x1002_34 x1003_34=some (r1,r2,r3,r4))∧Aside0 (kq≤k6)∧Aside0 (Kd.N k36 36 wc w.heap.size (fun k_=>(w.heap.size≤k_)∧some k_≠((.slice (some ad569) t566.length co11):Value).ownBlock∧some k_≠(v9:Value).ownBlock∧k_≠g) u5 x5_6)∧Aside0 (Kd.R k57 57 wc w.heap.size (fun k_=>(w.heap.size≤k_)) (.slice (some ad569) t566.length co11) t566)∧Aside0 (Kd.R Kd.string 9 wc w.heap.size (fun k_=>(w.heap.size≤k_)) v9 x9_34)∧Aside0 (IsS103 w0 wc g s0_0 x1001_34 x1002_34 x1003_34)∧Aside0 (KeepBut w wc g none)∧Aside0 (Below w0.heap.size w0 wc))
                case first =>
                 have H:=HC35.out;clear HC35;have H':=am H;clear H
                 go_wp2
                 go_loopg [9,10] k6 (fun kq v9 v10 w'=>∃ (x9_7:List ByteArray) (x10_7:Int) (x1001_7:Int) (x1002_7:Int) (x1003_7:Int),v10=.int .i64 x10_7∧Aside0 (spec_l01Src_l04Body.l2 kq x5_6 t566 x7_1 x8_6 x9_7 x10_7 s0_0 x1001_7 x1002_7 x1003_7=some (r1,r2,r3,r4))∧Aside0 (kq≤k6)∧Aside0 (Kd.N k36 36 w' w.heap.size (fun k_=>(w.heap.size≤k_)∧some k_≠((.slice (some ad569) t566.length co11):Value).ownBlock∧some k_≠(v9:Value).ownBlock∧k_≠g) u5 x5_6)∧Aside0 (Kd.R k57 57 w' w.heap.size (fun k_=>(w.heap.size≤k_)) (.slice (some ad569) t566.length co11) t566)∧Aside0 (Kd.R Kd.string 9 w' w.heap.size (fun k_=>(w.heap.size≤k_)) v9 x9_7)∧Aside0 (IsS103 w0 w' g s0_0 x1001_7 x1002_7 x1003_7)∧Aside0 (KeepBut w w' g none)∧Aside0 (Below w0.heap.size w0 w'))
                 case atStart=>exact ⟨(y590),(0),(x1001_6),(x1002_6),(x1003_6),fg,H',⟨Nat.le_refl _⟩,⟨by (with_reducible repeat (first|apply Kd.N_alloc|apply Kd.N_drewN|apply Kd.N_drew));exact Kd.N_mono HO_5.out (fun _ hk=>⟨hk.1.1,⟨hk.1.2.1,⟨hk.2,hk.1.2.2⟩⟩⟩)⟩,⟨by (with_reducible repeat (first|apply Kd.R_alloc|apply Kd.R_drewN|apply Kd.R_drew));exact HO_6.out⟩,⟨by (with_reducible repeat (first|apply Kd.R_alloc|apply Kd.R_drewN|apply Kd.R_drew));exact Kd.R_mono HO592.out (fun _ hk=>hk.1)⟩,⟨by repeat (first|(with_reducible first|exact HI0.out|apply IsS103.alloc|apply IsS103.drewN|apply IsS103.drew|apply IsS103.set_1|apply IsS103.set_2|apply IsS103.set_3)|exact HI0.out)⟩,⟨by repeat (first|(with_reducible first|exact HK.out|apply KeepBut.set_|apply keep_drewN|apply keep_drew|apply keep_alloc)|exact HK.out)⟩,⟨by repeat (first|(with_reducible first|exact HB.out|apply below_alloc|apply pw_below_drewN|apply below_drew1|refine below_set ?_ (IsS103.ge HI0.out))|exact HB.out)⟩⟩
                 case round =>
                  clear H'
                  try clear c1
                  try clear c2
                  try clear p2
                  try clear c3
                  try clear c4
                  try clear p5
                  try clear q5
                  try clear hx5
                  try clear p6
                  try clear c7
                  try clear c7b0
                  try clear c8
                  try clear c8b0
                  try clear c14
                  try clear c14b0
                  try clear c18
                  try clear c19
                  try clear c19b0
                  try clear c20
                  try clear c20b0
                  try clear c25
                  try clear c25b0
                  try clear c26
                  try clear c26b0
                  try clear c27
                  try clear c27b0
                  try clear c31
                  try clear c32
                  try clear c32b0
                  try clear c33
                  try clear c33b0
                  try clear c34
                  try clear c34b0
                  try clear hx569_0
                  try clear hx569_1
                  try clear hx569_2
                  try clear hx569_3
                  try clear hx574_0
                  try clear hx574_1
                  try clear hx574_2
                  try clear hx574_3
                  try clear hx579_0
                  try clear hx579_1
                  try clear hx579_2
                  try clear hx579_3
                  try clear hx584_0
                  try clear hx584_1
                  try clear hx584_2
                  try clear hx584_3
                  try clear hx589_0
                  try clear hx589_1
                  try clear hx589_2
                  try clear hx589_3
                  try clear p2
                  try clear p5
                  try clear p569
                  try clear p574
                  try clear p579
                  try clear p584
                  try clear p589
                  try clear p6
                  try clear q5
                  try clear q569
                  try clear q574
                  try clear q579
                  try clear q584
                  try clear q589
                  obtain ⟨x9_7,x10_7,x1001_7,x1002_7,x1003_7,rfl,HA,HK7,HO_5,HO_6,HO_9,HI0,HK,HB⟩:=hrel
                  cases gk with
                  | zero=>exact absurd HA.out (by simp [spec_l01Src_l04Body.l2])
                  | succ k7 =>
                   have H:=HA.out;clear HA;simp only [spec_l01Src_l04Body.l2] at H
                   by_cases c38:0≤x7_1
                   ·rw [if_pos c38] at H;have c38b0:decide (0≤x7_1)=true:=decide_eq_true c38;clear c38
                    (first|rw [c38b0]|(simp only [i64_w,i32_w];rw [c38b0])|skip)
                    by_cases c39:x7_1<(t566.length:Int)
                    ·rw [if_pos c39] at H;have c39b0:decide (x7_1<(t566.length:Int))=true:=decide_eq_true c39;clear c39
                     by_cases c40:x10_7<(((rd_T57 t566 x7_1).f3).size:Int)
                     ·rw [if_pos c40] at H;have c40b0:decide (x10_7<(((rd_T57 t566 x7_1).f3).size:Int))=true:=decide_eq_true c40;clear c40
                      by_cases c41:0≤x10_7
                      ·rw [if_pos c41] at H;have c41b0:decide (0≤x10_7)=true:=decide_eq_true c41;clear c41
                       by_cases c43:(bt ((rd_T57 t566 x7_1).f3) x10_7)=63
                       ·rw [if_pos c43] at H;have c43b0:((bt ((rd_T57 t566 x7_1).f3) x10_7) == 63)=true:=beq_iff_eq.mpr c43;have c43b1:((bt ((rd_T57 t566 x7_1).f3) x10_7) != 63)=false:=bne_eq_false_iff_eq.mpr c43;clear c43;replace H:=Option.bind_eq_some_iff.mp H;obtain ⟨⟨t595,t596,t597,t598⟩,A440,H⟩:=H;replace H:(if t595=true then (spec_l01Src_l04Body.j7 k7 x5_6 t566 x7_1 x8_6 x9_7 s0_0 t596 t597 t598) else (spec_l01Src_l04Body.l2 k7 x5_6 t566 x7_1 x8_6 x9_7 (wrap64 (x10_7+1)) s0_0 t596 t597 t598))=some (r1,r2,r3,r4):=H;have A44:=am A440;clear A440;have p593:0≤(x7_1:Int):=oa;have q593:x7_1<(t566.length:Int):=oa;obtain ⟨ad593,e593,hx593_0,hx593_1,hx593_2,hx593_3⟩:=at_T57 (Kd.R_reads' HO_6.out).2.2 x7_1 p593 q593;obtain rfl:ad569=ad593:=(by injection e593);replace p593:=eq_true p593;replace q593:=eq_true q593;have p594:0≤(x7_1:Int):=oa;have q594:x7_1<(t566.length:Int):=oa;obtain ⟨ad594,e594,hx594_0,hx594_1,hx594_2,hx594_3⟩:=at_T57 (Kd.R_reads' HO_6.out).2.2 x7_1 p594 q594;obtain rfl:ad569=ad594:=(by injection e594);replace p594:=eq_true p594;replace q594:=eq_true q594;have p42:0≤(x10_7:Int):=oa;have q42:x10_7<(((rd_T57 t566 x7_1).f3).size:Int):=oa;have hx42:=bt_at ((rd_T57 t566 x7_1).f3) x10_7;replace p42:=eq_true p42;replace q42:=eq_true q42
                        try go_wp2_with (fail)
                        go_at_call 44;(with_reducible refine (spec_l01Src_one.calls g s0_0 x1001_7 x1002_7 x1003_7 2 t595 t596 t597 t598 w0 _ ?side1 ?side2 A44.out).mono ?_);(case side1=>repeat (first|(with_reducible first|exact HI0.out|apply IsS103.alloc|apply IsS103.drewN|apply IsS103.drew|apply IsS103.set_1|apply IsS103.set_2|apply IsS103.set_3)|exact HI0.out));(case side2=>repeat (first|(with_reducible first|exact HB.out|apply below_alloc|apply pw_below_drewN|apply below_drew1|refine below_set ?_ (IsS103.ge HI0.out))|exact HB.out));rintro e w45 ⟨rfl,hi,hb,hk⟩;have n0_:=am (Kd.N_mono (Kd.N_keep (Kd.N_mono (ok:=fun k_=>(((w.heap.size≤k_))∧(some k_≠(.slice (some ad569) t566.length co11:Value).ownBlock∧(some k_≠(u9:Value).ownBlock∧k_≠g)))) (by (with_reducible repeat (first|apply Kd.N_alloc|apply Kd.N_drewN|apply Kd.N_drew));exact HO_5.out) (fun k_ hk_=>(⟨hk_,hk_.2.2.2⟩:_∧k_≠g))) hk (fun _ h=>h.2)) (fun _ h=>h.1));have n1_:=am (Kd.R_mono (Kd.R_keep (IsS103.apart (show IsS103 w0 _ g s0_0 x1001_7 x1002_7 x1003_7 from by repeat (first|(with_reducible first|exact HI0.out|apply IsS103.alloc|apply IsS103.drewN|apply IsS103.drew|apply IsS103.set_1|apply IsS103.set_2|apply IsS103.set_3)|exact HI0.out)) (rs HO_6) (by decide)) hk (fun _ h=>h.2)) (fun _ h=>h.1));have n2_:=am (Kd.R_mono (Kd.R_keep (IsS103.apart (show IsS103 w0 _ g s0_0 x1001_7 x1002_7 x1003_7 from by repeat (first|(with_reducible first|exact HI0.out|apply IsS103.alloc|apply IsS103.drewN|apply IsS103.drew|apply IsS103.set_1|apply IsS103.set_2|apply IsS103.set_3)|exact HI0.out)) (rs HO_9) (by decide)) hk (fun _ h=>h.2)) (fun _ h=>h.1));have n3_:=am (KeepBut.trans (by repeat (first|(with_reducible first|exact HK.out|apply KeepBut.set_|apply keep_drewN|apply keep_drew|apply keep_alloc)|exact HK.out)) hk (.inl rfl));have n4_:=am (hb);have n5_:=am (hi);clear HO_5;clear HO_6;clear HO_9;clear HK;clear HB;clear HI0;have HO_5:=n0_;have HO_6:=n1_;have HO_9:=n2_;have HK:=n3_;have HB:=n4_;have HI0:=n5_;clear n0_ n1_ n2_ n3_ n4_ n5_;(try clear hb);(try clear hb2);(try clear hk);(try clear hi)
                        by_cases c46:t595=true
                        ·subst c46
                         have H1:(spec_l01Src_l04Body.j7 k7 x5_6 t566 x7_1 x8_6 x9_7 s0_0 t596 t597 t598)=some (r1,r2,r3,r4):=by rw [if_pos rfl] at H;exact H
                         clear H;have H:=H1;clear H1;have H':=am H;clear H
                         go_wp2
                         go_meet
                         case rel=>exact ⟨_,(x9_7),(t596),(t597),(t598),H',⟨by have:=HK1.out;have:=HJ9.out;have:=HJ16.out;have:=HJ23.out;have:=HJ29.out;have:=HK6.out;have:=HK7.out;first|omega|exact Nat.le_refl _⟩,⟨by (with_reducible repeat (first|apply Kd.N_alloc|apply Kd.N_drewN|apply Kd.N_drew));exact HO_5.out⟩,⟨by (with_reducible repeat (first|apply Kd.R_alloc|apply Kd.R_drewN|apply Kd.R_drew));exact HO_6.out⟩,⟨by (with_reducible repeat (first|apply Kd.R_alloc|apply Kd.R_drewN|apply Kd.R_drew));exact HO_9.out⟩,⟨by repeat (first|(with_reducible first|exact HI0.out|apply IsS103.alloc|apply IsS103.drewN|apply IsS103.drew|apply IsS103.set_1|apply IsS103.set_2|apply IsS103.set_3)|exact HI0.out)⟩,⟨by repeat (first|(with_reducible first|exact HK.out|apply KeepBut.set_|apply keep_drewN|apply keep_drew|apply keep_alloc)|exact HK.out)⟩,⟨by repeat (first|(with_reducible first|exact HB.out|apply below_alloc|apply pw_below_drewN|apply below_drew1|refine below_set ?_ (IsS103.ge HI0.out))|exact HB.out)⟩⟩
                        ·replace c46:=Bool.eq_false_iff.mpr c46;subst c46
                         have H1:(spec_l01Src_l04Body.l2 k7 x5_6 t566 x7_1 x8_6 x9_7 (wrap64 (x10_7+1)) s0_0 t596 t597 t598)=some (r1,r2,r3,r4):=by rw [if_neg (show ¬ (false=true) by decide)] at H;exact H
                         clear H;have H:=H1;clear H1;have H':=am H;clear H
                         go_wp2
                         go_roundg k7
                         case measure=>have:=HK1.out;have:=HJ9.out;have:=HJ16.out;have:=HJ23.out;have:=HJ29.out;have:=HK6.out;have:=HK7.out;omega
                         case rel=>exact ⟨(x9_7),(wrap64 (x10_7+1)),(t596),(t597),(t598),fg,H',⟨by have:=HK1.out;have:=HJ9.out;have:=HJ16.out;have:=HJ23.out;have:=HJ29.out;have:=HK6.out;have:=HK7.out;omega⟩,⟨by (with_reducible repeat (first|apply Kd.N_alloc|apply Kd.N_drewN|apply Kd.N_drew));exact HO_5.out⟩,⟨by (with_reducible repeat (first|apply Kd.R_alloc|apply Kd.R_drewN|apply Kd.R_drew));exact HO_6.out⟩,⟨by (with_reducible repeat (first|apply Kd.R_alloc|apply Kd.R_drewN|apply Kd.R_drew));exact HO_9.out⟩,⟨by repeat (first|(with_reducible first|exact HI0.out|apply IsS103.alloc|apply IsS103.drewN|apply IsS103.drew|apply IsS103.set_1|apply IsS103.set_2|apply IsS103.set_3)|exact HI0.out)⟩,⟨by repeat (first|(with_reducible first|exact HK.out|apply KeepBut.set_|apply keep_drewN|apply keep_drew|apply keep_alloc)|exact HK.out)⟩,⟨by repeat (first|(with_reducible first|exact HB.out|apply below_alloc|apply pw_below_drewN|apply below_drew1|refine below_set ?_ (IsS103.ge HI0.out))|exact HB.out)⟩⟩
                       ·rw [if_neg c43] at H;have c43b0:((bt ((rd_T57 t566 x7_1).f3) x10_7) == 63)=false:=beq_eq_false_iff_ne.mpr c43;have c43b1:((bt ((rd_T57 t566 x7_1).f3) x10_7) != 63)=true:=bne_iff_ne.mpr c43;replace H:=Option.bind_eq_some_iff.mp H;obtain ⟨⟨t599,t600,t601,t602⟩,A470,H⟩:=H;replace H:(if x9_7.length<8796093022208 then (spec_l01Src_l04Body.l2 k7 x5_6 t566 x7_1 x8_6 (x9_7++[t599]) (wrap64 (x10_7+1)) s0_0 t600 t601 t602) else (none))=some (r1,r2,r3,r4):=H;have A47:=am A470;clear A470
                        by_cases c48:x9_7.length<8796093022208
                        ·rw [if_pos c48] at H;have LMc48:=am c48;clear c48;obtain ⟨y603,hy603⟩:∃ y_:List ByteArray,y_=(x9_7++[t599]):=⟨_,rfl⟩
                         replace H:(spec_l01Src_l04Body.l2 k7 x5_6 t566 x7_1 x8_6 y603 (wrap64 (x10_7+1)) s0_0 t600 t601 t602)=some (r1,r2,r3,r4):=by first|(rw [hy603];with_reducible exact H)|(have H2_:=(Option.bind_some _ _).symm.trans H;rw [hy603];with_reducible exact H2_)|(have H2_:=(Option.bind_some _ _).symm.trans H;with_reducible exact H2_)|with_reducible exact H|(rw [hy603];exact H)|exact H
                         have Ny603:=am hy603;clear hy603;have H':=am H;clear H;have p593:0≤(x7_1:Int):=oa;have q593:x7_1<(t566.length:Int):=oa;obtain ⟨ad593,e593,hx593_0,hx593_1,hx593_2,hx593_3⟩:=at_T57 (Kd.R_reads' HO_6.out).2.2 x7_1 p593 q593;obtain rfl:ad569=ad593:=(by injection e593);replace p593:=eq_true p593;replace q593:=eq_true q593;have p594:0≤(x7_1:Int):=oa;have q594:x7_1<(t566.length:Int):=oa;obtain ⟨ad594,e594,hx594_0,hx594_1,hx594_2,hx594_3⟩:=at_T57 (Kd.R_reads' HO_6.out).2.2 x7_1 p594 q594;obtain rfl:ad569=ad594:=(by injection e594);replace p594:=eq_true p594;replace q594:=eq_true q594;have p42:0≤(x10_7:Int):=oa;have q42:x10_7<(((rd_T57 t566 x7_1).f3).size:Int):=oa;have hx42:=bt_at ((rd_T57 t566 x7_1).f3) x10_7;replace p42:=eq_true p42;replace q42:=eq_true q42
                         go_wp2_with (first|((first|((with_reducible refine gate_callee (f:=66) rfl ?_);refine goesL_ (some 94) rfl rfl Tryd.func66 (by kernel_rfl) rfl #[.pointer (some ⟨g,0,none⟩),.int .u8 (bt ((rd_T57 t566 x7_1).f3) x10_7)] rfl (by (try simp only [List.map_toArray,List.map_cons,List.map_nil]);first|done|rfl|(simp only [List.length_drop,List.length_take];rfl)) ?_;(with_reducible refine (spec_l01Src_l04Value.calls k7 g s0_0 x1001_7 x1002_7 x1003_7 (bt ((rd_T57 t566 x7_1).f3) x10_7) t599 t600 t601 t602 w0 _ ?side1 ?side2 A47.out).mono ?_);(case side1=>repeat (first|(with_reducible first|exact HI0.out|apply IsS103.alloc|apply IsS103.drewN|apply IsS103.drew|apply IsS103.set_1|apply IsS103.set_2|apply IsS103.set_3)|exact HI0.out));(case side2=>repeat (first|(with_reducible first|exact HB.out|apply below_alloc|apply pw_below_drewN|apply below_drew1|refine below_set ?_ (IsS103.ge HI0.out))|exact HB.out));rintro e w49 ⟨rfl,hi,hb,hk⟩;refine ⟨_,rfl,?_⟩)|(go_at_call 66;(with_reducible refine (spec_l01Src_l04Value.calls k7 g s0_0 x1001_7 x1002_7 x1003_7 (bt ((rd_T57 t566 x7_1).f3) x10_7) t599 t600 t601 t602 w0 _ ?side1 ?side2 A47.out).mono ?_);(case side1=>repeat (first|(with_reducible first|exact HI0.out|apply IsS103.alloc|apply IsS103.drewN|apply IsS103.drew|apply IsS103.set_1|apply IsS103.set_2|apply IsS103.set_3)|exact HI0.out));(case side2=>repeat (first|(with_reducible first|exact HB.out|apply below_alloc|apply pw_below_drewN|apply below_drew1|refine below_set ?_ (IsS103.ge HI0.out))|exact HB.out));rintro e w49 ⟨rfl,hi,hb,hk⟩));have n0_:=am (Kd.N_mono (Kd.N_keep (Kd.N_mono (ok:=fun k_=>(((w.heap.size≤k_))∧(some k_≠(.slice (some ad569) t566.length co11:Value).ownBlock∧(some k_≠(u9:Value).ownBlock∧k_≠g)))) (by (with_reducible repeat (first|apply Kd.N_alloc|apply Kd.N_drewN|apply Kd.N_drew));exact HO_5.out) (fun k_ hk_=>(⟨hk_,hk_.2.2.2⟩:_∧k_≠g))) hk (fun _ h=>h.2)) (fun _ h=>h.1));have n1_:=am (Kd.R_mono (Kd.R_keep (IsS103.apart (show IsS103 w0 _ g s0_0 x1001_7 x1002_7 x1003_7 from by repeat (first|(with_reducible first|exact HI0.out|apply IsS103.alloc|apply IsS103.drewN|apply IsS103.drew|apply IsS103.set_1|apply IsS103.set_2|apply IsS103.set_3)|exact HI0.out)) (rs HO_6) (by decide)) hk (fun _ h=>h.2)) (fun _ h=>h.1));have n2_:=am (Kd.R_mono (Kd.R_keep (IsS103.apart (show IsS103 w0 _ g s0_0 x1001_7 x1002_7 x1003_7 from by repeat (first|(with_reducible first|exact HI0.out|apply IsS103.alloc|apply IsS103.drewN|apply IsS103.drew|apply IsS103.set_1|apply IsS103.set_2|apply IsS103.set_3)|exact HI0.out)) (rs HO_9) (by decide)) hk (fun _ h=>h.2)) (fun _ h=>h.1));have n3_:=am (KeepBut.trans (by repeat (first|(with_reducible first|exact HK.out|apply KeepBut.set_|apply keep_drewN|apply keep_drew|apply keep_alloc)|exact HK.out)) hk (.inl rfl));have n4_:=am (hb);have n5_:=am (hi);clear HO_5;clear HO_6;clear HO_9;clear HK;clear HB;clear HI0;have HO_5:=n0_;have HO_6:=n1_;have HO_9:=n2_;have HK:=n3_;have HB:=n4_;have HI0:=n5_;clear n0_ n1_ n2_ n3_ n4_ n5_;(try clear hb);(try clear hb2);(try clear hk);(try clear hi))|((with_reducible refine gate_builtin (b:=.append) (xs:=#[.tmp 91,.tmp 95]) rfl ?_);(try (refine gate_guard (by rfl) ?_;dsimp only));at_builtin;refine Kd.R_append Kd.string w.heap.size rfl (.tmp 91) (.tmp 95) 61 9 (.string ⟨#[]⟩) 16 rfl Tryd.underlying61 info9 rfl (by decide) (by omega) u9 x9_7 t599 [.string t599] (fun k_=>(w.heap.size≤k_)) (fun _=>False) rfl rfl ?aP (fun _ hk=>hk.elim) ?aF ?aO (Below.refl _ _) ?aS ?aL ?_;(case aP=>exact rfl);(case aF=>exact (fun k_ hk=>(Nat.le_trans (keep_size (w:=w) (g:=g) (row:=none) (by repeat (first|(with_reducible first|exact HK.out|apply KeepBut.set_|apply keep_drewN|apply keep_drew|apply keep_alloc)|exact HK.out))) hk)));(case aO=>exact (rs HO_9));(case aS=>exact (keep_size (w:=w) (g:=g) (row:=none) (by repeat (first|(with_reducible first|exact HK.out|apply KeepBut.set_|apply keep_drewN|apply keep_drew|apply keep_alloc)|exact HK.out))));(case aL=>have:=LMc48.out;omega);intro v604 w50 ho hb hg hat;rw [← Ny603.out] at ho;have n0_:=am (Kd.N_afterv (ok:=(fun k_=>(w.heap.size≤k_)∧some k_≠(.slice (some ad569) t566.length co11:Value).ownBlock∧k_≠g)) (by (with_reducible repeat (first|apply Kd.N_alloc|apply Kd.N_drewN|apply Kd.N_drew));exact Kd.N_mono HO_5.out (fun _ hk=>⟨⟨hk.1,⟨hk.2.1,hk.2.2.2⟩⟩,hk.2.2.1⟩)) hg hat);have n1_:=am (Kd.R_over' (rs HO_6) (Kd.R_typed (rs HO_9)) (by decide) hg);have n2_:=am (IsS103.grown (show IsS103 w0 _ g s0_0 t600 t601 t602 from by repeat (first|(with_reducible first|exact HI0.out|apply IsS103.alloc|apply IsS103.drewN|apply IsS103.drew|apply IsS103.set_1|apply IsS103.set_2|apply IsS103.set_3)|exact HI0.out)) hg (IsS103.own_ne HI0.out HO_9.out (by decide)));have n3_:=am (below_weaken (by repeat (first|(with_reducible first|exact HB.out|apply below_alloc|apply pw_below_drewN|apply below_drew1|refine below_set ?_ (IsS103.ge HI0.out))|exact HB.out)) HL.out hb);have n4_:=am (KeepBut.trans (by repeat (first|(with_reducible first|exact HK.out|apply KeepBut.set_|apply keep_drewN|apply keep_drew|apply keep_alloc)|exact HK.out)) (KeepBut.of_grown hg g) (Kd.R_base2 HO_9.out));have n5_:=am (ho);clear HO_5;clear HO_6;clear HI0;clear HB;clear HK;clear HO_9;have HO_5:=n0_;have HO_6:=n1_;have HI0:=n2_;have HB:=n3_;have HK:=n4_;have HO605:=n5_;clear n0_ n1_ n2_ n3_ n4_ n5_;clear ho hb hg hat))
                         go_roundg k7
                         case measure=>have:=HK1.out;have:=HJ9.out;have:=HJ16.out;have:=HJ23.out;have:=HJ29.out;have:=HK6.out;have:=HK7.out;omega
                         case rel=>exact ⟨(y603),(wrap64 (x10_7+1)),(t600),(t601),(t602),fg,H',⟨by have:=HK1.out;have:=HJ9.out;have:=HJ16.out;have:=HJ23.out;have:=HJ29.out;have:=HK6.out;have:=HK7.out;omega⟩,⟨by (with_reducible repeat (first|apply Kd.N_alloc|apply Kd.N_drewN|apply Kd.N_drew));exact Kd.N_mono HO_5.out (fun _ hk=>⟨hk.1.1,⟨hk.1.2.1,⟨hk.2,hk.1.2.2⟩⟩⟩)⟩,⟨by (with_reducible repeat (first|apply Kd.R_alloc|apply Kd.R_drewN|apply Kd.R_drew));exact HO_6.out⟩,⟨by (with_reducible repeat (first|apply Kd.R_alloc|apply Kd.R_drewN|apply Kd.R_drew));exact HO605.out⟩,⟨by repeat (first|(with_reducible first|exact HI0.out|apply IsS103.alloc|apply IsS103.drewN|apply IsS103.drew|apply IsS103.set_1|apply IsS103.set_2|apply IsS103.set_3)|exact HI0.out)⟩,⟨by repeat (first|(with_reducible first|exact HK.out|apply KeepBut.set_|apply keep_drewN|apply keep_drew|apply keep_alloc)|exact HK.out)⟩,⟨by repeat (first|(with_reducible first|exact HB.out|apply below_alloc|apply pw_below_drewN|apply below_drew1|refine below_set ?_ (IsS103.ge HI0.out))|exact HB.out)⟩⟩
                        ·rw [if_neg c48] at H
                         exact absurd H (by simp)
                      ·rw [if_neg c41] at H
                       exact absurd H (by simp)
                     ·rw [if_neg c40] at H;have c40b0:decide (x10_7<(((rd_T57 t566 x7_1).f3).size:Int))=false:=decide_eq_false c40;clear c40;have H':=am H;clear H;have p593:0≤(x7_1:Int):=oa;have q593:x7_1<(t566.length:Int):=oa;obtain ⟨ad593,e593,hx593_0,hx593_1,hx593_2,hx593_3⟩:=at_T57 (Kd.R_reads' HO_6.out).2.2 x7_1 p593 q593;obtain rfl:ad569=ad593:=(by injection e593);replace p593:=eq_true p593;replace q593:=eq_true q593
                      go_wp2
                      go_meet
                      case rel=>exact ⟨_,(x9_7),(x1001_7),(x1002_7),(x1003_7),H',⟨by have:=HK1.out;have:=HJ9.out;have:=HJ16.out;have:=HJ23.out;have:=HJ29.out;have:=HK6.out;have:=HK7.out;first|omega|exact Nat.le_refl _⟩,⟨by (with_reducible repeat (first|apply Kd.N_alloc|apply Kd.N_drewN|apply Kd.N_drew));exact HO_5.out⟩,⟨by (with_reducible repeat (first|apply Kd.R_alloc|apply Kd.R_drewN|apply Kd.R_drew));exact HO_6.out⟩,⟨by (with_reducible repeat (first|apply Kd.R_alloc|apply Kd.R_drewN|apply Kd.R_drew));exact HO_9.out⟩,⟨by repeat (first|(with_reducible first|exact HI0.out|apply IsS103.alloc|apply IsS103.drewN|apply IsS103.drew|apply IsS103.set_1|apply IsS103.set_2|apply IsS103.set_3)|exact HI0.out)⟩,⟨by repeat (first|(with_reducible first|exact HK.out|apply KeepBut.set_|apply keep_drewN|apply keep_drew|apply keep_alloc)|exact HK.out)⟩,⟨by repeat (first|(with_reducible first|exact HB.out|apply below_alloc|apply pw_below_drewN|apply below_drew1|refine below_set ?_ (IsS103.ge HI0.out))|exact HB.out)⟩⟩
                    ·rw [if_neg c39] at H
                     exact absurd H (by simp)
                   ·rw [if_neg c38] at H
                    exact absurd H (by simp)
                case rest =>
                 clear HC35
                 try clear c1
                 try clear c2
                 try clear p2
                 try clear c3
                 try clear c4
                 try clear p4
                 try clear q4
                 try clear hx4
                 try clear p5
                 try clear q5
                 try clear hx5
                 try clear c6
                 try clear p6
                 try clear c7
                 try clear c7b0
                 try clear c8
                 try clear c8b0
                 try clear c14
                 try clear c14b0
                 try clear c18
                 try clear c19
                 try clear c19b0
                 try clear c20
                 try clear c20b0
                 try clear c25
                 try clear c25b0
                 try clear c26
                 try clear c26b0
                 try clear c27
                 try clear c27b0
                 try clear c31
                 try clear c32
                 try clear c32b0
                 try clear c33
                 try clear c33b0
                 try clear c34
                 try clear c34b0
                 try clear c38
                 try clear c38b0
                 try clear c39
                 try clear c39b0
                 try clear c40
                 try clear c40b0
                 try clear c41
                 try clear c41b0
                 try clear p42
                 try clear q42
                 try clear hx42
                 try clear c43
                 try clear c43b0
                 try clear c43b1
                 try clear c46
                 try clear c48
                 try clear hx569_0
                 try clear hx569_1
                 try clear hx569_2
                 try clear hx569_3
                 try clear hx574_0
                 try clear hx574_1
                 try clear hx574_2
                 try clear hx574_3
                 try clear hx579_0
                 try clear hx579_1
                 try clear hx579_2
                 try clear hx579_3
                 try clear hx584_0
                 try clear hx584_1
                 try clear hx584_2
                 try clear hx584_3
                 try clear hx589_0
                 try clear hx589_1
                 try clear hx589_2
                 try clear hx589_3
                 try clear hx593_0
                 try clear hx593_1
                 try clear hx593_2
                 try clear hx593_3
                 try clear hx594_0
                 try clear hx594_1
                 try clear hx594_2
                 try clear hx594_3
                 try clear p2
                 try clear p42
                 try clear p5
                 try clear p569
                 try clear p574
                 try clear p579
                 try clear p584
                 try clear p589
                 try clear p593
                 try clear p594
                 try clear p6
                 try clear q42
                 try clear q5
                 try clear q569
                 try clear q574
                 try clear q579
                 try clear q584
                 try clear q589
                 try clear q593
                 try clear q594
                 obtain ⟨kq,x9_34,x1001_34,x1002_34,x1003_34,HA,HJ34,HO_5,HO_6,HO_9,HI0,HK,HB⟩:=hcut
                 cases kq with
                 | zero=>exact absurd HA.out (by simp [spec_l01Src_l04Body.j7])
                 | succ kj34 =>
                  have H:=HA.out;clear HA;simp only [spec_l01Src_l04Body.j7] at H;replace H:=Option.bind_eq_some_iff.mp H;obtain ⟨⟨t606,t607,t608,t609⟩,A510,H⟩:=H;replace H:(if t606=true then (if x9_34.length<8796093022208 then (spec_l01Src_l04Body.j8 kj34 x5_6 t566 x7_1 x8_6 (x9_34++[(⟨#[88]⟩:ByteArray)]) s0_0 t607 t608 t609) else (none)) else (spec_l01Src_l04Body.j8 kj34 x5_6 t566 x7_1 x8_6 x9_34 s0_0 t607 t608 t609))=some (r1,r2,r3,r4):=H;have A51:=am A510;clear A510
                  try go_wp2_with (fail)
                  go_at_call 44;(with_reducible refine (spec_l01Src_one.calls g s0_0 x1001_34 x1002_34 x1003_34 30 t606 t607 t608 t609 w0 _ ?side1 ?side2 A51.out).mono ?_);(case side1=>repeat (first|(with_reducible first|exact HI0.out|apply IsS103.alloc|apply IsS103.drewN|apply IsS103.drew|apply IsS103.set_1|apply IsS103.set_2|apply IsS103.set_3)|exact HI0.out));(case side2=>repeat (first|(with_reducible first|exact HB.out|apply below_alloc|apply pw_below_drewN|apply below_drew1|refine below_set ?_ (IsS103.ge HI0.out))|exact HB.out));rintro e w52 ⟨rfl,hi,hb,hk⟩;have n0_:=am (Kd.N_mono (Kd.N_keep (Kd.N_mono (ok:=fun k_=>(((w.heap.size≤k_))∧(some k_≠(.slice (some ad569) t566.length co11:Value).ownBlock∧(some k_≠(u9:Value).ownBlock∧k_≠g)))) (by (with_reducible repeat (first|apply Kd.N_alloc|apply Kd.N_drewN|apply Kd.N_drew));exact HO_5.out) (fun k_ hk_=>(⟨hk_,hk_.2.2.2⟩:_∧k_≠g))) hk (fun _ h=>h.2)) (fun _ h=>h.1));have n1_:=am (Kd.R_mono (Kd.R_keep (IsS103.apart (show IsS103 w0 _ g s0_0 x1001_34 x1002_34 x1003_34 from by repeat (first|(with_reducible first|exact HI0.out|apply IsS103.alloc|apply IsS103.drewN|apply IsS103.drew|apply IsS103.set_1|apply IsS103.set_2|apply IsS103.set_3)|exact HI0.out)) (rs HO_6) (by decide)) hk (fun _ h=>h.2)) (fun _ h=>h.1));have n2_:=am (Kd.R_mono (Kd.R_keep (IsS103.apart (show IsS103 w0 _ g s0_0 x1001_34 x1002_34 x1003_34 from by repeat (first|(with_reducible first|exact HI0.out|apply IsS103.alloc|apply IsS103.drewN|apply IsS103.drew|apply IsS103.set_1|apply IsS103.set_2|apply IsS103.set_3)|exact HI0.out)) (rs HO_9) (by decide)) hk (fun _ h=>h.2)) (fun _ h=>h.1));have n3_:=am (KeepBut.trans (by repeat (first|(with_reducible first|exact HK.out|apply KeepBut.set_|apply keep_drewN|apply keep_drew|apply keep_alloc)|exact HK.out)) hk (.inl rfl));have n4_:=am (hb);have n5_:=am (hi);clear HO_5;clear HO_6;clear HO_9;clear HK;clear HB;clear HI0;have HO_5:=n0_;have HO_6:=n1_;have HO_9:=n2_;have HK:=n3_;have HB:=n4_;have HI0:=n5_;clear n0_ n1_ n2_ n3_ n4_ n5_;(try clear hb);(try clear hb2);(try clear hk);(try clear hi);have HC53:=am H;clear H
                  go_upto_if 98 with (fail)
                  go_cut [9] (fun v9 wc=>∃ (kq:Nat) (x9_52:List ByteArray),Aside0 (spec_l01Src_l04Body.j8 kq x5_6 t566 x7_1 x8_6 x9_52 s0_0 t607 t608 t609=some (r1,r2,r3,r4))∧Aside0 (kq≤kj34)∧Aside0 (Kd.N k36 36 wc w.heap.size (fun k_=>(w.heap.size≤k_)∧some k_≠((.slice (some ad569) t566.length co11):Value).ownBlock∧some k_≠(v9:Value).ownBlock∧k_≠g) u5 x5_6)∧Aside0 (Kd.R k57 57 wc w.heap.size (fun k_=>(w.heap.size≤k_)) (.slice (some ad569) t566.length co11) t566)∧Aside0 (Kd.R Kd.string 9 wc w.heap.size (fun k_=>(w.heap.size≤k_)) v9 x9_52)∧Aside0 (IsS103 w0 wc g s0_0 t607 t608 t609)∧Aside0 (KeepBut w wc g none)∧Aside0 (Below w0.heap.size w0 wc))
                  case first =>
                   have H:=HC53.out;clear HC53
                   by_cases c54:t606=true
                   ·subst c54
                    have H1:(if x9_34.length<8796093022208 then (spec_l01Src_l04Body.j8 kj34 x5_6 t566 x7_1 x8_6 (x9_34++[(⟨#[88]⟩:ByteArray)]) s0_0 t607 t608 t609) else (none))=some (r1,r2,r3,r4):=by rw [if_pos rfl] at H;exact H
                    clear H;have H:=H1;clear H1
                    by_cases c55:x9_34.length<8796093022208
                    ·rw [if_pos c55] at H;have LMc55:=am c55;clear c55;obtain ⟨y610,hy610⟩:∃ y_:List ByteArray,y_=(x9_34++[(⟨#[88]⟩:ByteArray)]):=⟨_,rfl⟩
                     replace H:(spec_l01Src_l04Body.j8 kj34 x5_6 t566 x7_1 x8_6 y610 s0_0 t607 t608 t609)=some (r1,r2,r3,r4):=by first|(rw [hy610];with_reducible exact H)|(have H2_:=(Option.bind_some _ _).symm.trans H;rw [hy610];with_reducible exact H2_)|(have H2_:=(Option.bind_some _ _).symm.trans H;with_reducible exact H2_)|with_reducible exact H|(rw [hy610];exact H)|exact H
                     have Ny610:=am hy610;clear hy610;have H':=am H;clear H
                     go_wp2_with (first|((with_reducible refine gate_builtin (b:=.append) (xs:=#[.tmp 99,.tmp 100]) rfl ?_);(try (refine gate_guard (by rfl) ?_;dsimp only));at_builtin;refine Kd.R_append Kd.string w.heap.size rfl (.tmp 99) (.tmp 100) 61 9 (.string ⟨#[]⟩) 16 rfl Tryd.underlying61 info9 rfl (by decide) (by omega) u9 x9_34 (⟨#[88]⟩:ByteArray) [.string (⟨#[88]⟩:ByteArray)] (fun k_=>(w.heap.size≤k_)) (fun _=>False) rfl rfl ?aP (fun _ hk=>hk.elim) ?aF ?aO (Below.refl _ _) ?aS ?aL ?_;(case aP=>exact rfl);(case aF=>exact (fun k_ hk=>(Nat.le_trans (keep_size (w:=w) (g:=g) (row:=none) (by repeat (first|(with_reducible first|exact HK.out|apply KeepBut.set_|apply keep_drewN|apply keep_drew|apply keep_alloc)|exact HK.out))) hk)));(case aO=>exact (rs HO_9));(case aS=>exact (keep_size (w:=w) (g:=g) (row:=none) (by repeat (first|(with_reducible first|exact HK.out|apply KeepBut.set_|apply keep_drewN|apply keep_drew|apply keep_alloc)|exact HK.out))));(case aL=>have:=LMc55.out;omega);intro v611 w56 ho hb hg hat;rw [← Ny610.out] at ho;have n0_:=am (Kd.N_afterv (ok:=(fun k_=>(w.heap.size≤k_)∧some k_≠(.slice (some ad569) t566.length co11:Value).ownBlock∧k_≠g)) (by (with_reducible repeat (first|apply Kd.N_alloc|apply Kd.N_drewN|apply Kd.N_drew));exact Kd.N_mono HO_5.out (fun _ hk=>⟨⟨hk.1,⟨hk.2.1,hk.2.2.2⟩⟩,hk.2.2.1⟩)) hg hat);have n1_:=am (Kd.R_over' (rs HO_6) (Kd.R_typed (rs HO_9)) (by decide) hg);have n2_:=am (IsS103.grown (show IsS103 w0 _ g s0_0 t607 t608 t609 from by repeat (first|(with_reducible first|exact HI0.out|apply IsS103.alloc|apply IsS103.drewN|apply IsS103.drew|apply IsS103.set_1|apply IsS103.set_2|apply IsS103.set_3)|exact HI0.out)) hg (IsS103.own_ne HI0.out HO_9.out (by decide)));have n3_:=am (below_weaken (by repeat (first|(with_reducible first|exact HB.out|apply below_alloc|apply pw_below_drewN|apply below_drew1|refine below_set ?_ (IsS103.ge HI0.out))|exact HB.out)) HL.out hb);have n4_:=am (KeepBut.trans (by repeat (first|(with_reducible first|exact HK.out|apply KeepBut.set_|apply keep_drewN|apply keep_drew|apply keep_alloc)|exact HK.out)) (KeepBut.of_grown hg g) (Kd.R_base2 HO_9.out));have n5_:=am (ho);clear HO_5;clear HO_6;clear HI0;clear HB;clear HK;clear HO_9;have HO_5:=n0_;have HO_6:=n1_;have HI0:=n2_;have HB:=n3_;have HK:=n4_;have HO612:=n5_;clear n0_ n1_ n2_ n3_ n4_ n5_;clear ho hb hg hat))
                     go_meet
                     case rel=>exact ⟨_,(y610),H',⟨by have:=HK1.out;have:=HJ9.out;have:=HJ16.out;have:=HJ23.out;have:=HJ29.out;have:=HK6.out;have:=HJ34.out;first|omega|exact Nat.le_refl _⟩,⟨by (with_reducible repeat (first|apply Kd.N_alloc|apply Kd.N_drewN|apply Kd.N_drew));exact Kd.N_mono HO_5.out (fun _ hk=>⟨hk.1.1,⟨hk.1.2.1,⟨hk.2,hk.1.2.2⟩⟩⟩)⟩,⟨by (with_reducible repeat (first|apply Kd.R_alloc|apply Kd.R_drewN|apply Kd.R_drew));exact HO_6.out⟩,⟨by (with_reducible repeat (first|apply Kd.R_alloc|apply Kd.R_drewN|apply Kd.R_drew));exact HO612.out⟩,⟨by repeat (first|(with_reducible first|exact HI0.out|apply IsS103.alloc|apply IsS103.drewN|apply IsS103.drew|apply IsS103.set_1|apply IsS103.set_2|apply IsS103.set_3)|exact HI0.out)⟩,⟨by repeat (first|(with_reducible first|exact HK.out|apply KeepBut.set_|apply keep_drewN|apply keep_drew|apply keep_alloc)|exact HK.out)⟩,⟨by repeat (first|(with_reducible first|exact HB.out|apply below_alloc|apply pw_below_drewN|apply below_drew1|refine below_set ?_ (IsS103.ge HI0.out))|exact HB.out)⟩⟩
                    ·rw [if_neg c55] at H
                     exact absurd H (by simp)
                   ·replace c54:=Bool.eq_false_iff.mpr c54;subst c54
                    have H1:(spec_l01Src_l04Body.j8 kj34 x5_6 t566 x7_1 x8_6 x9_34 s0_0 t607 t608 t609)=some (r1,r2,r3,r4):=by rw [if_neg (show ¬ (false=true) by decide)] at H;exact H
                    clear H;have H:=H1;clear H1;have H':=am H;clear H
                    go_wp2
                    go_meet
                    case rel=>exact ⟨_,(x9_34),H',⟨by have:=HK1.out;have:=HJ9.out;have:=HJ16.out;have:=HJ23.out;have:=HJ29.out;have:=HK6.out;have:=HJ34.out;first|omega|exact Nat.le_refl _⟩,⟨by (with_reducible repeat (first|apply Kd.N_alloc|apply Kd.N_drewN|apply Kd.N_drew));exact HO_5.out⟩,⟨by (with_reducible repeat (first|apply Kd.R_alloc|apply Kd.R_drewN|apply Kd.R_drew));exact HO_6.out⟩,⟨by (with_reducible repeat (first|apply Kd.R_alloc|apply Kd.R_drewN|apply Kd.R_drew));exact HO_9.out⟩,⟨by repeat (first|(with_reducible first|exact HI0.out|apply IsS103.alloc|apply IsS103.drewN|apply IsS103.drew|apply IsS103.set_1|apply IsS103.set_2|apply IsS103.set_3)|exact HI0.out)⟩,⟨by repeat (first|(with_reducible first|exact HK.out|apply KeepBut.set_|apply keep_drewN|apply keep_drew|apply keep_alloc)|exact HK.out)⟩,⟨by repeat (first|(with_reducible first|exact HB.out|apply below_alloc|apply pw_below_drewN|apply below_drew1|refine below_set ?_ (IsS103.ge HI0.out))|exact HB.out)⟩⟩
                  case rest =>
                   clear HC53
                   try clear c1
                   try clear c2
                   try clear p2
                   try clear c3
                   try clear c4
                   try clear p4
                   try clear q4
                   try clear hx4
                   try clear c5
                   try clear p5
                   try clear q5
                   try clear hx5
                   try clear c6
                   try clear p6
                   try clear c7
                   try clear c7b0
                   try clear c8
                   try clear c8b0
                   try clear c14
                   try clear c14b0
                   try clear c18
                   try clear c19
                   try clear c19b0
                   try clear c20
                   try clear c20b0
                   try clear c25
                   try clear c25b0
                   try clear c26
                   try clear c26b0
                   try clear c27
                   try clear c27b0
                   try clear c31
                   try clear c32
                   try clear c32b0
                   try clear c33
                   try clear c33b0
                   try clear c34
                   try clear c34b0
                   try clear c38
                   try clear c38b0
                   try clear c39
                   try clear c39b0
                   try clear c40
                   try clear c40b0
                   try clear c41
                   try clear c41b0
                   try clear p42
                   try clear q42
                   try clear hx42
                   try clear c43
                   try clear c43b0
                   try clear c43b1
                   try clear c46
                   try clear c48
                   try clear c54
                   try clear c55
                   try clear p56
                   try clear q56
                   try clear hx56
                   try clear hx569_0
                   try clear hx569_1
                   try clear hx569_2
                   try clear hx569_3
                   try clear hx574_0
                   try clear hx574_1
                   try clear hx574_2
                   try clear hx574_3
                   try clear hx579_0
                   try clear hx579_1
                   try clear hx579_2
                   try clear hx579_3
                   try clear hx584_0
                   try clear hx584_1
                   try clear hx584_2
                   try clear hx584_3
                   try clear hx589_0
                   try clear hx589_1
                   try clear hx589_2
                   try clear hx589_3
                   try clear hx593_0
                   try clear hx593_1
                   try clear hx593_2
                   try clear hx593_3
                   try clear hx594_0
                   try clear hx594_1
                   try clear hx594_2
                   try clear hx594_3
                   try clear p2
                   try clear p4
                   try clear p42
                   try clear p5
                   try clear p569
                   try clear p574
                   try clear p579
                   try clear p584
                   try clear p589
                   try clear p593
                   try clear p594
                   try clear p6
                   try clear q4
                   try clear q42
                   try clear q5
                   try clear q569
                   try clear q574
                   try clear q579
                   try clear q584
                   try clear q589
                   try clear q593
                   try clear q594
                   obtain ⟨kq,x9_52,HA,HJ52,HO_5,HO_6,HO_9,HI0,HK,HB⟩:=hcut
                   cases kq with
                   | zero=>exact absurd HA.out (by simp [spec_l01Src_l04Body.j8])
                   | succ kj52 =>
                    have H:=HA.out;clear HA;simp only [spec_l01Src_l04Body.j8] at H;have HC57:=am H;clear H
                    go_upto_region 23 with (fail)
                    go_cut [108] (fun v108 wc=>∃ (kq:Nat) (x108_56:Bool) (x1001_56:Int) (x1002_56:Int) (x1003_56:Int),v108=.bool x108_56∧Aside0 (spec_l01Src_l04Body.j9 kq x5_6 t566 x7_1 x8_6 x9_52 x108_56 s0_0 x1001_56 x1002_56 x1003_56=some (r1,r2,r3,r4))∧Aside0 (kq≤kj52)∧Aside0 (Kd.N k36 36 wc w.heap.size (fun k_=>(w.heap.size≤k_)∧some k_≠((.slice (some ad569) t566.length co11):Value).ownBlock∧some k_≠(u9:Value).ownBlock∧k_≠g) u5 x5_6)∧Aside0 (Kd.R k57 57 wc w.heap.size (fun k_=>(w.heap.size≤k_)) (.slice (some ad569) t566.length co11) t566)∧Aside0 (Kd.R Kd.string 9 wc w.heap.size (fun k_=>(w.heap.size≤k_)) u9 x9_52)∧Aside0 (IsS103 w0 wc g s0_0 x1001_56 x1002_56 x1003_56)∧Aside0 (KeepBut w wc g none)∧Aside0 (Below w0.heap.size w0 wc))
                    case first =>
                     have H:=HC57.out;clear HC57;replace H:=Option.bind_eq_some_iff.mp H;obtain ⟨⟨t613,t614,t615,t616⟩,A580,H⟩:=H;replace H:(if t613=true then (spec_l01Src_l04Body.j9 kj52 x5_6 t566 x7_1 x8_6 x9_52 (decide ((x9_52.length:Int)>0)) s0_0 t614 t615 t616) else (spec_l01Src_l04Body.j9 kj52 x5_6 t566 x7_1 x8_6 x9_52 false s0_0 t614 t615 t616))=some (r1,r2,r3,r4):=H;have A58:=am A580;clear A580
                     try go_wp2_with (fail)
                     go_at_call 44;(with_reducible refine (spec_l01Src_one.calls g s0_0 t607 t608 t609 30 t613 t614 t615 t616 w0 _ ?side1 ?side2 A58.out).mono ?_);(case side1=>repeat (first|(with_reducible first|exact HI0.out|apply IsS103.alloc|apply IsS103.drewN|apply IsS103.drew|apply IsS103.set_1|apply IsS103.set_2|apply IsS103.set_3)|exact HI0.out));(case side2=>repeat (first|(with_reducible first|exact HB.out|apply below_alloc|apply pw_below_drewN|apply below_drew1|refine below_set ?_ (IsS103.ge HI0.out))|exact HB.out));rintro e w59 ⟨rfl,hi,hb,hk⟩;have n0_:=am (Kd.N_mono (Kd.N_keep (Kd.N_mono (ok:=fun k_=>(((w.heap.size≤k_))∧(some k_≠(.slice (some ad569) t566.length co11:Value).ownBlock∧(some k_≠(u9:Value).ownBlock∧k_≠g)))) (by (with_reducible repeat (first|apply Kd.N_alloc|apply Kd.N_drewN|apply Kd.N_drew));exact HO_5.out) (fun k_ hk_=>(⟨hk_,hk_.2.2.2⟩:_∧k_≠g))) hk (fun _ h=>h.2)) (fun _ h=>h.1));have n1_:=am (Kd.R_mono (Kd.R_keep (IsS103.apart (show IsS103 w0 _ g s0_0 t607 t608 t609 from by repeat (first|(with_reducible first|exact HI0.out|apply IsS103.alloc|apply IsS103.drewN|apply IsS103.drew|apply IsS103.set_1|apply IsS103.set_2|apply IsS103.set_3)|exact HI0.out)) (rs HO_6) (by decide)) hk (fun _ h=>h.2)) (fun _ h=>h.1));have n2_:=am (Kd.R_mono (Kd.R_keep (IsS103.apart (show IsS103 w0 _ g s0_0 t607 t608 t609 from by repeat (first|(with_reducible first|exact HI0.out|apply IsS103.alloc|apply IsS103.drewN|apply IsS103.drew|apply IsS103.set_1|apply IsS103.set_2|apply IsS103.set_3)|exact HI0.out)) (rs HO_9) (by decide)) hk (fun _ h=>h.2)) (fun _ h=>h.1));have n3_:=am (KeepBut.trans (by repeat (first|(with_reducible first|exact HK.out|apply KeepBut.set_|apply keep_drewN|apply keep_drew|apply keep_alloc)|exact HK.out)) hk (.inl rfl));have n4_:=am (hb);have n5_:=am (hi);clear HO_5;clear HO_6;clear HO_9;clear HK;clear HB;clear HI0;have HO_5:=n0_;have HO_6:=n1_;have HO_9:=n2_;have HK:=n3_;have HB:=n4_;have HI0:=n5_;clear n0_ n1_ n2_ n3_ n4_ n5_;(try clear hb);(try clear hb2);(try clear hk);(try clear hi)
                     by_cases c60:t613=true
                     ·subst c60
                      have H1:(spec_l01Src_l04Body.j9 kj52 x5_6 t566 x7_1 x8_6 x9_52 (decide ((x9_52.length:Int)>0)) s0_0 t614 t615 t616)=some (r1,r2,r3,r4):=by rw [if_pos rfl] at H;exact H
                      clear H;have H:=H1;clear H1;have H':=am H;clear H;obtain ⟨Ao61,co61,eo61⟩:=Kd.R_slice HO_9.out;subst eo61
                      go_wp2
                      go_meet
                      case rel=>exact ⟨_,(decide ((x9_52.length:Int)>0)),(t614),(t615),(t616),fg,H',⟨by have:=HK1.out;have:=HJ9.out;have:=HJ16.out;have:=HJ23.out;have:=HJ29.out;have:=HK6.out;have:=HJ34.out;have:=HJ52.out;first|omega|exact Nat.le_refl _⟩,⟨by (with_reducible repeat (first|apply Kd.N_alloc|apply Kd.N_drewN|apply Kd.N_drew));exact HO_5.out⟩,⟨by (with_reducible repeat (first|apply Kd.R_alloc|apply Kd.R_drewN|apply Kd.R_drew));exact HO_6.out⟩,⟨by (with_reducible repeat (first|apply Kd.R_alloc|apply Kd.R_drewN|apply Kd.R_drew));exact HO_9.out⟩,⟨by repeat (first|(with_reducible first|exact HI0.out|apply IsS103.alloc|apply IsS103.drewN|apply IsS103.drew|apply IsS103.set_1|apply IsS103.set_2|apply IsS103.set_3)|exact HI0.out)⟩,⟨by repeat (first|(with_reducible first|exact HK.out|apply KeepBut.set_|apply keep_drewN|apply keep_drew|apply keep_alloc)|exact HK.out)⟩,⟨by repeat (first|(with_reducible first|exact HB.out|apply below_alloc|apply pw_below_drewN|apply below_drew1|refine below_set ?_ (IsS103.ge HI0.out))|exact HB.out)⟩⟩
                     ·replace c60:=Bool.eq_false_iff.mpr c60;subst c60
                      have H1:(spec_l01Src_l04Body.j9 kj52 x5_6 t566 x7_1 x8_6 x9_52 false s0_0 t614 t615 t616)=some (r1,r2,r3,r4):=by rw [if_neg (show ¬ (false=true) by decide)] at H;exact H
                      clear H;have H:=H1;clear H1;have H':=am H;clear H
                      go_wp2
                      go_meet
                      case rel=>exact ⟨_,(false),(t614),(t615),(t616),fg,H',⟨by have:=HK1.out;have:=HJ9.out;have:=HJ16.out;have:=HJ23.out;have:=HJ29.out;have:=HK6.out;have:=HJ34.out;have:=HJ52.out;first|omega|exact Nat.le_refl _⟩,⟨by (with_reducible repeat (first|apply Kd.N_alloc|apply Kd.N_drewN|apply Kd.N_drew));exact HO_5.out⟩,⟨by (with_reducible repeat (first|apply Kd.R_alloc|apply Kd.R_drewN|apply Kd.R_drew));exact HO_6.out⟩,⟨by (with_reducible repeat (first|apply Kd.R_alloc|apply Kd.R_drewN|apply Kd.R_drew));exact HO_9.out⟩,⟨by repeat (first|(with_reducible first|exact HI0.out|apply IsS103.alloc|apply IsS103.drewN|apply IsS103.drew|apply IsS103.set_1|apply IsS103.set_2|apply IsS103.set_3)|exact HI0.out)⟩,⟨by repeat (first|(with_reducible first|exact HK.out|apply KeepBut.set_|apply keep_drewN|apply keep_drew|apply keep_alloc)|exact HK.out)⟩,⟨by repeat (first|(with_reducible first|exact HB.out|apply below_alloc|apply pw_below_drewN|apply below_drew1|refine below_set ?_ (IsS103.ge HI0.out))|exact HB.out)⟩⟩
                    case rest =>
                     clear HC57
                     try clear c1
                     try clear c2
                     try clear p2
                     try clear c3
                     try clear c4
                     try clear p4
                     try clear q4
                     try clear hx4
                     try clear c5
                     try clear p5
                     try clear q5
                     try clear hx5
                     try clear c6
                     try clear p6
                     try clear c7
                     try clear c7b0
                     try clear c8
                     try clear c8b0
                     try clear c14
                     try clear c14b0
                     try clear c18
                     try clear c19
                     try clear c19b0
                     try clear c20
                     try clear c20b0
                     try clear c25
                     try clear c25b0
                     try clear c26
                     try clear c26b0
                     try clear c27
                     try clear c27b0
                     try clear c31
                     try clear c32
                     try clear c32b0
                     try clear c33
                     try clear c33b0
                     try clear c34
                     try clear c34b0
                     try clear c38
                     try clear c38b0
                     try clear c39
                     try clear c39b0
                     try clear c40
                     try clear c40b0
                     try clear c41
                     try clear c41b0
                     try clear p42
                     try clear q42
                     try clear hx42
                     try clear c43
                     try clear c43b0
                     try clear c43b1
                     try clear c46
                     try clear c48
                     try clear c54
                     try clear c55
                     try clear p56
                     try clear q56
                     try clear hx56
                     try clear p57
                     try clear q57
                     try clear hx57
                     try clear p58
                     try clear q58
                     try clear hx58
                     try clear p59
                     try clear q59
                     try clear hx59
                     try clear c60
                     try clear hx569_0
                     try clear hx569_1
                     try clear hx569_2
                     try clear hx569_3
                     try clear hx574_0
                     try clear hx574_1
                     try clear hx574_2
                     try clear hx574_3
                     try clear hx579_0
                     try clear hx579_1
                     try clear hx579_2
                     try clear hx579_3
                     try clear hx584_0
                     try clear hx584_1
                     try clear hx584_2
                     try clear hx584_3
                     try clear hx589_0
                     try clear hx589_1
                     try clear hx589_2
                     try clear hx589_3
                     try clear hx593_0
                     try clear hx593_1
                     try clear hx593_2
                     try clear hx593_3
                     try clear hx594_0
                     try clear hx594_1
                     try clear hx594_2
                     try clear hx594_3
                     try clear p2
                     try clear p4
                     try clear p42
                     try clear p5
                     try clear p56
                     try clear p569
                     try clear p574
                     try clear p579
                     try clear p584
                     try clear p589
                     try clear p593
                     try clear p594
                     try clear p6
                     try clear q4
                     try clear q42
                     try clear q5
                     try clear q56
                     try clear q569
                     try clear q574
                     try clear q579
                     try clear q584
                     try clear q589
                     try clear q593
                     try clear q594
                     obtain ⟨kq,x108_56,x1001_56,x1002_56,x1003_56,rfl,HA,HJ56,HO_5,HO_6,HO_9,HI0,HK,HB⟩:=hcut
                     cases kq with
                     | zero=>exact absurd HA.out (by simp [spec_l01Src_l04Body.j9])
                     | succ kj56 =>
                      have H:=HA.out;clear HA;simp only [spec_l01Src_l04Body.j9] at H
                      by_cases c62:x108_56=true
                      ·subst c62
                       have H1:((spec_l01Src_n.f s0_0 x1001_56 x1002_56 x1003_56 (x9_52.length:Int)).bind fun bt617=>((spec_l01Src_pick.f s0_0 bt617.2.1 bt617.2.2.1 bt617.2.2.2 (([(⟨#[]⟩:ByteArray),(⟨#[48]⟩:ByteArray),(⟨#[45,49]⟩:ByteArray),(⟨#[48,49]⟩:ByteArray),(⟨#[120]⟩:ByteArray),(⟨#[49,48,48,48,48,48,49]⟩:ByteArray),(⟨#[49,48,48,48,48,48,48,48,48,49]⟩:ByteArray),(⟨#[78,65,77,69,45,84,79,79,45,76,79,78,71]⟩:ByteArray)]:List ByteArray))).bind fun bt624=>(if 0≤bt617.1 then (if bt617.1<(x9_52.length:Int) then (if 0≤x7_1 then (if x7_1<(t566.length:Int) then ((spec_l03Seg.f kj56 ((rd_T57 t566 x7_1).f0) (x9_52.set (bt617.1:Int).toNat bt624.1)).bind fun bt630=>(if x5_6.length<3518437208883 then (spec_l01Src_l04Body.l1 kj56 (x5_6++[(⟨bt630.1,bt630.2⟩:S36)]) t566 x7_1 (wrap64 (x8_6 - 1)) s0_0 bt624.2.1 bt624.2.2.1 bt624.2.2.2) else (none))) else (none)) else (none)) else (none)) else (none))))=some (r1,r2,r3,r4):=by rw [if_pos rfl] at H;exact H
                       clear H;have H:=H1;clear H1;replace H:=Option.bind_eq_some_iff.mp H;obtain ⟨⟨t617,t618,t619,t620⟩,A630,H⟩:=H;replace H:((spec_l01Src_pick.f s0_0 t618 t619 t620 (([(⟨#[]⟩:ByteArray),(⟨#[48]⟩:ByteArray),(⟨#[45,49]⟩:ByteArray),(⟨#[48,49]⟩:ByteArray),(⟨#[120]⟩:ByteArray),(⟨#[49,48,48,48,48,48,49]⟩:ByteArray),(⟨#[49,48,48,48,48,48,48,48,48,49]⟩:ByteArray),(⟨#[78,65,77,69,45,84,79,79,45,76,79,78,71]⟩:ByteArray)]:List ByteArray))).bind fun bt624=>(if 0≤t617 then (if t617<(x9_52.length:Int) then (if 0≤x7_1 then (if x7_1<(t566.length:Int) then ((spec_l03Seg.f kj56 ((rd_T57 t566 x7_1).f0) (x9_52.set (t617:Int).toNat bt624.1)).bind fun bt630=>(if x5_6.length<3518437208883 then (spec_l01Src_l04Body.l1 kj56 (x5_6++[(⟨bt630.1,bt630.2⟩:S36)]) t566 x7_1 (wrap64 (x8_6 - 1)) s0_0 bt624.2.1 bt624.2.2.1 bt624.2.2.2) else (none))) else (none)) else (none)) else (none)) else (none)))=some (r1,r2,r3,r4):=H;have A63:=am A630;clear A630;obtain ⟨y621,hy621⟩:∃ y_:List ByteArray,y_=(([(⟨#[]⟩:ByteArray),(⟨#[48]⟩:ByteArray),(⟨#[45,49]⟩:ByteArray),(⟨#[48,49]⟩:ByteArray),(⟨#[120]⟩:ByteArray),(⟨#[49,48,48,48,48,48,49]⟩:ByteArray),(⟨#[49,48,48,48,48,48,48,48,48,49]⟩:ByteArray),(⟨#[78,65,77,69,45,84,79,79,45,76,79,78,71]⟩:ByteArray)]:List ByteArray)):=⟨_,rfl⟩
                       replace H:((spec_l01Src_pick.f s0_0 t618 t619 t620 y621).bind fun bt624=>(if 0≤t617 then (if t617<(x9_52.length:Int) then (if 0≤x7_1 then (if x7_1<(t566.length:Int) then ((spec_l03Seg.f kj56 ((rd_T57 t566 x7_1).f0) (x9_52.set (t617:Int).toNat bt624.1)).bind fun bt630=>(if x5_6.length<3518437208883 then (spec_l01Src_l04Body.l1 kj56 (x5_6++[(⟨bt630.1,bt630.2⟩:S36)]) t566 x7_1 (wrap64 (x8_6 - 1)) s0_0 bt624.2.1 bt624.2.2.1 bt624.2.2.2) else (none))) else (none)) else (none)) else (none)) else (none)))=some (r1,r2,r3,r4):=by first|(rw [hy621];with_reducible exact H)|(have H2_:=(Option.bind_some _ _).symm.trans H;rw [hy621];with_reducible exact H2_)|(have H2_:=(Option.bind_some _ _).symm.trans H;with_reducible exact H2_)|with_reducible exact H|(rw [hy621];exact H)|exact H
                       have Ny621:=am hy621;clear hy621;replace H:=Option.bind_eq_some_iff.mp H;obtain ⟨⟨t624,t625,t626,t627⟩,A640,H⟩:=H;replace H:(if 0≤t617 then (if t617<(x9_52.length:Int) then (if 0≤x7_1 then (if x7_1<(t566.length:Int) then ((spec_l03Seg.f kj56 ((rd_T57 t566 x7_1).f0) (x9_52.set (t617:Int).toNat t624)).bind fun bt630=>(if x5_6.length<3518437208883 then (spec_l01Src_l04Body.l1 kj56 (x5_6++[(⟨bt630.1,bt630.2⟩:S36)]) t566 x7_1 (wrap64 (x8_6 - 1)) s0_0 t625 t626 t627) else (none))) else (none)) else (none)) else (none)) else (none))=some (r1,r2,r3,r4):=H;have A64:=am A640;clear A640
                       by_cases c65:0≤t617
                       ·rw [if_pos c65] at H;have c65b0:decide (0≤t617)=true:=decide_eq_true c65;clear c65
                        by_cases c66:t617<(x9_52.length:Int)
                        ·rw [if_pos c66] at H;have c66b0:decide (t617<(x9_52.length:Int))=true:=decide_eq_true c66;clear c66;obtain ⟨y628,hy628⟩:∃ y_:List ByteArray,y_=(x9_52.set (t617:Int).toNat t624):=⟨_,rfl⟩
                         replace H:(if 0≤x7_1 then (if x7_1<(t566.length:Int) then ((spec_l03Seg.f kj56 ((rd_T57 t566 x7_1).f0) y628).bind fun bt630=>(if x5_6.length<3518437208883 then (spec_l01Src_l04Body.l1 kj56 (x5_6++[(⟨bt630.1,bt630.2⟩:S36)]) t566 x7_1 (wrap64 (x8_6 - 1)) s0_0 t625 t626 t627) else (none))) else (none)) else (none))=some (r1,r2,r3,r4):=by first|(rw [hy628];with_reducible exact H)|(have H2_:=(Option.bind_some _ _).symm.trans H;rw [hy628];with_reducible exact H2_)|(have H2_:=(Option.bind_some _ _).symm.trans H;with_reducible exact H2_)|with_reducible exact H|(rw [hy628];exact H)|exact H
                         have Ny628:=am hy628;clear hy628
                         by_cases c68:0≤x7_1
                         ·rw [if_pos c68] at H;have c68b0:decide (0≤x7_1)=true:=decide_eq_true c68;clear c68
                          by_cases c69:x7_1<(t566.length:Int)
                          ·rw [if_pos c69] at H;have c69b0:decide (x7_1<(t566.length:Int))=true:=decide_eq_true c69;clear c69;replace H:=Option.bind_eq_some_iff.mp H;obtain ⟨⟨t630,t631⟩,A700,H⟩:=H;replace H:(if x5_6.length<3518437208883 then (spec_l01Src_l04Body.l1 kj56 (x5_6++[(⟨t630,t631⟩:S36)]) t566 x7_1 (wrap64 (x8_6 - 1)) s0_0 t625 t626 t627) else (none))=some (r1,r2,r3,r4):=H;have A70:=am A700;clear A700
                           by_cases c71:x5_6.length<3518437208883
                           ·rw [if_pos c71] at H;have LMc71:=am c71;clear c71;obtain ⟨y634,hy634⟩:∃ y_:List (S36),y_=(x5_6++[(⟨t630,t631⟩:S36)]):=⟨_,rfl⟩
                            replace H:(spec_l01Src_l04Body.l1 kj56 y634 t566 x7_1 (wrap64 (x8_6 - 1)) s0_0 t625 t626 t627)=some (r1,r2,r3,r4):=by first|(rw [hy634];with_reducible exact H)|(have H2_:=(Option.bind_some _ _).symm.trans H;rw [hy634];with_reducible exact H2_)|(have H2_:=(Option.bind_some _ _).symm.trans H;with_reducible exact H2_)|with_reducible exact H|(rw [hy634];exact H)|exact H
                            have Ny634:=am hy634;clear hy634;have H':=am H;clear H;obtain ⟨Ao72,co72,eo72⟩:=Kd.R_slice HO_9.out;subst eo72
                            go_wp2_with (first|((first|((with_reducible refine gate_callee (f:=42) rfl ?_);refine goesL_ (some 113) rfl rfl Tryd.func42 (by kernel_rfl) rfl #[.pointer (some ⟨g,0,none⟩),.int .i64 (x9_52.length:Int)] rfl (by (try simp only [List.map_toArray,List.map_cons,List.map_nil]);first|done|rfl|(simp only [List.length_drop,List.length_take];rfl)) ?_;(with_reducible refine (spec_l01Src_n.calls g s0_0 x1001_56 x1002_56 x1003_56 (x9_52.length:Int) t617 t618 t619 t620 w0 _ ?side1 ?side2 A63.out).mono ?_);(case side1=>repeat (first|(with_reducible first|exact HI0.out|apply IsS103.alloc|apply IsS103.drewN|apply IsS103.drew|apply IsS103.set_1|apply IsS103.set_2|apply IsS103.set_3)|exact HI0.out));(case side2=>repeat (first|(with_reducible first|exact HB.out|apply below_alloc|apply pw_below_drewN|apply below_drew1|refine below_set ?_ (IsS103.ge HI0.out))|exact HB.out));rintro e w73 ⟨rfl,hi,hb,hk⟩;refine ⟨_,rfl,?_⟩)|(go_at_call 42;(with_reducible refine (spec_l01Src_n.calls g s0_0 x1001_56 x1002_56 x1003_56 (x9_52.length:Int) t617 t618 t619 t620 w0 _ ?side1 ?side2 A63.out).mono ?_);(case side1=>repeat (first|(with_reducible first|exact HI0.out|apply IsS103.alloc|apply IsS103.drewN|apply IsS103.drew|apply IsS103.set_1|apply IsS103.set_2|apply IsS103.set_3)|exact HI0.out));(case side2=>repeat (first|(with_reducible first|exact HB.out|apply below_alloc|apply pw_below_drewN|apply below_drew1|refine below_set ?_ (IsS103.ge HI0.out))|exact HB.out));rintro e w73 ⟨rfl,hi,hb,hk⟩));have n0_:=am (Kd.N_mono (Kd.N_keep (Kd.N_mono (ok:=fun k_=>(((w.heap.size≤k_))∧(some k_≠(.slice (some ad569) t566.length co11:Value).ownBlock∧(some k_≠(.slice Ao72 x9_52.length co72:Value).ownBlock∧k_≠g)))) (by (with_reducible repeat (first|apply Kd.N_alloc|apply Kd.N_drewN|apply Kd.N_drew));exact HO_5.out) (fun k_ hk_=>(⟨hk_,hk_.2.2.2⟩:_∧k_≠g))) hk (fun _ h=>h.2)) (fun _ h=>h.1));have n1_:=am (Kd.R_mono (Kd.R_keep (IsS103.apart (show IsS103 w0 _ g s0_0 x1001_56 x1002_56 x1003_56 from by repeat (first|(with_reducible first|exact HI0.out|apply IsS103.alloc|apply IsS103.drewN|apply IsS103.drew|apply IsS103.set_1|apply IsS103.set_2|apply IsS103.set_3)|exact HI0.out)) (rs HO_6) (by decide)) hk (fun _ h=>h.2)) (fun _ h=>h.1));have n2_:=am (Kd.R_mono (Kd.R_keep (IsS103.apart (show IsS103 w0 _ g s0_0 x1001_56 x1002_56 x1003_56 from by repeat (first|(with_reducible first|exact HI0.out|apply IsS103.alloc|apply IsS103.drewN|apply IsS103.drew|apply IsS103.set_1|apply IsS103.set_2|apply IsS103.set_3)|exact HI0.out)) (rs HO_9) (by decide)) hk (fun _ h=>h.2)) (fun _ h=>h.1));have n3_:=am (KeepBut.trans (by repeat (first|(with_reducible first|exact HK.out|apply KeepBut.set_|apply keep_drewN|apply keep_drew|apply keep_alloc)|exact HK.out)) hk (.inl rfl));have n4_:=am (hb);have n5_:=am (hi);clear HO_5;clear HO_6;clear HO_9;clear HK;clear HB;clear HI0;have HO_5:=n0_;have HO_6:=n1_;have HO_9:=n2_;have HK:=n3_;have HB:=n4_;have HI0:=n5_;clear n0_ n1_ n2_ n3_ n4_ n5_;(try clear hb);(try clear hb2);(try clear hk);(try clear hi))|((with_reducible refine gate_dst (N:=115) rfl ?_);(try (refine gate_guard (by rfl) ?_;dsimp only));refine Kd.R_lit Kd.string _ 9 ?hg (N:=115) ?hd (xs:=([(⟨#[]⟩:ByteArray),(⟨#[48]⟩:ByteArray),(⟨#[45,49]⟩:ByteArray),(⟨#[48,49]⟩:ByteArray),(⟨#[120]⟩:ByteArray),(⟨#[49,48,48,48,48,48,49]⟩:ByteArray),(⟨#[49,48,48,48,48,48,48,48,48,49]⟩:ByteArray),(⟨#[78,65,77,69,45,84,79,79,45,76,79,78,71]⟩:ByteArray)]:List ByteArray)) (inner:=[.string (⟨#[]⟩:ByteArray),.string (⟨#[48]⟩:ByteArray),.string (⟨#[45,49]⟩:ByteArray),.string (⟨#[48,49]⟩:ByteArray),.string (⟨#[120]⟩:ByteArray),.string (⟨#[49,48,48,48,48,48,49]⟩:ByteArray),.string (⟨#[49,48,48,48,48,48,48,48,48,49]⟩:ByteArray),.string (⟨#[78,65,77,69,45,84,79,79,45,76,79,78,71]⟩:ByteArray)]) (ok:=fun _=>True) (okp:=fun _=>True) ?hr ?hp (fun _ hk=>hk) trivial (Below.refl _ _) (Nat.le_refl _) (by simp) ?_;(case hd=>rfl);(case hg=>rfl);(case hr=>first|(go_simp;done)|(go_simp;rfl));(case hp=>exact (Reps.one (show Kd.M Kd.string _ _ _ (⟨#[]⟩:ByteArray) [.string (⟨#[]⟩:ByteArray)] from rfl) (Reps.one (show Kd.M Kd.string _ _ _ (⟨#[48]⟩:ByteArray) [.string (⟨#[48]⟩:ByteArray)] from rfl) (Reps.one (show Kd.M Kd.string _ _ _ (⟨#[45,49]⟩:ByteArray) [.string (⟨#[45,49]⟩:ByteArray)] from rfl) (Reps.one (show Kd.M Kd.string _ _ _ (⟨#[48,49]⟩:ByteArray) [.string (⟨#[48,49]⟩:ByteArray)] from rfl) (Reps.one (show Kd.M Kd.string _ _ _ (⟨#[120]⟩:ByteArray) [.string (⟨#[120]⟩:ByteArray)] from rfl) (Reps.one (show Kd.M Kd.string _ _ _ (⟨#[49,48,48,48,48,48,49]⟩:ByteArray) [.string (⟨#[49,48,48,48,48,48,49]⟩:ByteArray)] from rfl) (Reps.one (show Kd.M Kd.string _ _ _ (⟨#[49,48,48,48,48,48,48,48,48,49]⟩:ByteArray) [.string (⟨#[49,48,48,48,48,48,48,48,48,49]⟩:ByteArray)] from rfl) (Reps.one (show Kd.M Kd.string _ _ _ (⟨#[78,65,77,69,45,84,79,79,45,76,79,78,71]⟩:ByteArray) [.string (⟨#[78,65,77,69,45,84,79,79,45,76,79,78,71]⟩:ByteArray)] from rfl) (Reps.none _ _))))))))));intro v622 w74 ho75 hb hg_ hnew_;clear hg_ hnew_;(first|rw [← Ny621.out] at ho75|(simp only [Int.reduceToNat] at ho75;rw [← Ny621.out] at ho75));have n0_:=am (Kd.N_elder' (by (with_reducible repeat (first|apply Kd.N_alloc|apply Kd.N_drewN|apply Kd.N_drew));exact HO_5.out) (Kd.R_base ho75) hb);have n1_:=am (Kd.R_below (rs HO_6) hb);have n2_:=am (Kd.R_elder' (rs HO_9) (Kd.R_base ho75) hb);have n3_:=am (Kd.R_lower (Kd.R_new' (Kd.R_newM (M:=fun k_=>(w.heap.size≤k_)) ho75 (keep_size (w:=w) (g:=g) (row:=none) (by repeat (first|(with_reducible first|exact HK.out|apply KeepBut.set_|apply keep_drewN|apply keep_drew|apply keep_alloc)|exact HK.out))) (fun k_ h_=>h_)) (Kd.R_lt (rs HO_9))) (keep_size (w:=w) (g:=g) (row:=none) (by repeat (first|(with_reducible first|exact HK.out|apply KeepBut.set_|apply keep_drewN|apply keep_drew|apply keep_alloc)|exact HK.out))));have n4_:=am (IsS103.below (by repeat (first|(with_reducible first|exact HI0.out|apply IsS103.alloc|apply IsS103.drewN|apply IsS103.drew|apply IsS103.set_1|apply IsS103.set_2|apply IsS103.set_3)|exact HI0.out)) hb);have n5_:=am (KeepBut.trans (by repeat (first|(with_reducible first|exact HK.out|apply KeepBut.set_|apply keep_drewN|apply keep_drew|apply keep_alloc)|exact HK.out)) (KeepBut.of_below hb g none) (.inl rfl));have n6_:=am (below_step (by repeat (first|(with_reducible first|exact HB.out|apply below_alloc|apply pw_below_drewN|apply below_drew1|refine below_set ?_ (IsS103.ge HI0.out))|exact HB.out)) hb);clear HO_5;clear HO_6;clear HO_9;clear HI0;clear HK;clear HB;have HO_5:=n0_;have HO_6:=n1_;have HO_9:=n2_;have HO623:=n3_;have HI0:=n4_;have HK:=n5_;have HB:=n6_;clear n0_ n1_ n2_ n3_ n4_ n5_ n6_;clear hb ho75;obtain ⟨Ao76,co76,eo76⟩:=Kd.R_slice HO623.out;subst eo76)|((first|((with_reducible refine gate_callee (f:=67) rfl ?_);refine goesL_ (some 116) rfl rfl Tryd.func67 (by kernel_rfl) rfl #[.pointer (some ⟨g,0,none⟩),.slice Ao76 y621.length co76] rfl (by (try simp only [List.map_toArray,List.map_cons,List.map_nil]);first|done|rfl|(simp only [List.length_drop,List.length_take];rfl)) ?_;(with_reducible refine (spec_l01Src_pick.calls g s0_0 t618 t619 t620 _ _ y621 t624 t625 t626 t627 w0 _ ?side1 ?side2 ?side3 ?side4 ?side5 A64.out).mono ?_);(case side1=>repeat (first|(with_reducible first|exact HI0.out|apply IsS103.alloc|apply IsS103.drewN|apply IsS103.drew|apply IsS103.set_1|apply IsS103.set_2|apply IsS103.set_3)|exact HI0.out));(case side2=>repeat (first|(with_reducible first|exact HB.out|apply below_alloc|apply pw_below_drewN|apply below_drew1|refine below_set ?_ (IsS103.ge HI0.out))|exact HB.out));(case side3=>repeat (first|exact (Kd.R_reads' HO623.out).2.2|(with_reducible refine Kd.C_alloc ?_ _)|(with_reducible refine Kd.C_drewN ?_ _)|(with_reducible refine Kd.C_drew ?_)));(case side4=>exact (Kd.R_reads' HO623.out).2.1);(case side5=>exact far_slice (IsS103.own_ne HI0.out HO623.out (by decide)));rintro e w77 ⟨rfl,hi,hb,hk⟩;refine ⟨_,rfl,?_⟩)|(go_at_call 67;(with_reducible refine (spec_l01Src_pick.calls g s0_0 t618 t619 t620 _ _ y621 t624 t625 t626 t627 w0 _ ?side1 ?side2 ?side3 ?side4 ?side5 A64.out).mono ?_);(case side1=>repeat (first|(with_reducible first|exact HI0.out|apply IsS103.alloc|apply IsS103.drewN|apply IsS103.drew|apply IsS103.set_1|apply IsS103.set_2|apply IsS103.set_3)|exact HI0.out));(case side2=>repeat (first|(with_reducible first|exact HB.out|apply below_alloc|apply pw_below_drewN|apply below_drew1|refine below_set ?_ (IsS103.ge HI0.out))|exact HB.out));(case side3=>repeat (first|exact (Kd.R_reads' HO623.out).2.2|(with_reducible refine Kd.C_alloc ?_ _)|(with_reducible refine Kd.C_drewN ?_ _)|(with_reducible refine Kd.C_drew ?_)));(case side4=>exact (Kd.R_reads' HO623.out).2.1);(case side5=>exact far_slice (IsS103.own_ne HI0.out HO623.out (by decide)));rintro e w77 ⟨rfl,hi,hb,hk⟩));have n0_:=am (Kd.N_mono (Kd.N_keep (Kd.N_mono (ok:=fun k_=>((((w.heap.size≤k_))∧(some k_≠(.slice (some ad569) t566.length co11:Value).ownBlock∧(some k_≠(.slice Ao72 x9_52.length co72:Value).ownBlock∧k_≠g)))∧some k_≠(.slice Ao76 y621.length co76:Value).ownBlock)) (by (with_reducible repeat (first|apply Kd.N_alloc|apply Kd.N_drewN|apply Kd.N_drew));exact HO_5.out) (fun k_ hk_=>(⟨hk_,hk_.1.2.2.2⟩:_∧k_≠g))) hk (fun _ h=>h.2)) (fun _ h=>h.1));have n1_:=am (Kd.R_mono (Kd.R_keep (IsS103.apart (show IsS103 w0 _ g s0_0 t618 t619 t620 from by repeat (first|(with_reducible first|exact HI0.out|apply IsS103.alloc|apply IsS103.drewN|apply IsS103.drew|apply IsS103.set_1|apply IsS103.set_2|apply IsS103.set_3)|exact HI0.out)) (rs HO_6) (by decide)) hk (fun _ h=>h.2)) (fun _ h=>h.1));have n2_:=am (Kd.R_mono (Kd.R_keep (IsS103.apart (show IsS103 w0 _ g s0_0 t618 t619 t620 from by repeat (first|(with_reducible first|exact HI0.out|apply IsS103.alloc|apply IsS103.drewN|apply IsS103.drew|apply IsS103.set_1|apply IsS103.set_2|apply IsS103.set_3)|exact HI0.out)) (rs HO_9) (by decide)) hk (fun _ h=>h.2)) (fun _ h=>h.1));have n3_:=am (Kd.R_mono (Kd.R_keep (IsS103.apart (show IsS103 w0 _ g s0_0 t618 t619 t620 from by repeat (first|(with_reducible first|exact HI0.out|apply IsS103.alloc|apply IsS103.drewN|apply IsS103.drew|apply IsS103.set_1|apply IsS103.set_2|apply IsS103.set_3)|exact HI0.out)) (rs HO623) (by decide)) hk (fun _ h=>h.2)) (fun _ h=>h.1));have n4_:=am (KeepBut.trans (by repeat (first|(with_reducible first|exact HK.out|apply KeepBut.set_|apply keep_drewN|apply keep_drew|apply keep_alloc)|exact HK.out)) hk (.inl rfl));have n5_:=am (hb);have n6_:=am (hi);clear HO_5;clear HO_6;clear HO_9;clear HO623;clear HK;clear HB;clear HI0;have HO_5:=n0_;have HO_6:=n1_;have HO_9:=n2_;have HO623:=n3_;have HK:=n4_;have HB:=n5_;have HI0:=n6_;clear n0_ n1_ n2_ n3_ n4_ n5_ n6_;(try clear hb);(try clear hb2);(try clear hk);(try clear hi);have p67:0≤(t617:Int):=oa;have q67:(t617:Int)<((x9_52.length:Int):Int):=oa;obtain ⟨go67,co67,eo67,gb67,gl67,cl67,HG67⟩:=Kd.R_form HO_9.out (by omega);(first|cases eo67|(injection eo67 with ea_ en_ ec_;(first|subst ea_|(injection ea_ with ea_;subst ea_));subst ec_;clear en_));have GB67:=am gb67;have GG67:=am HG67;clear gb67 gl67 HG67;obtain ⟨hx67_0,hf67_0⟩:=Kd.R_celln (⟨#[]⟩:ByteArray) HO_9.out (t617:Int) p67 q67;replace p67:=eq_true p67;replace q67:=eq_true q67;obtain ⟨hy78_,hz78_⟩:=Kd.R_celln (⟨#[]⟩:ByteArray) HO_9.out (t617:Int) (oa) (oa);have HP78:=Kd.R_putg HO_9.out (t617:Int) t624)|((with_reducible refine gate_store (t:=9) (p:=117) rfl ?_);refine store_event (t:=9) (p:=117) (v:=?vo_w79) (w1:=(w77.setCell ⟨go67,(t617:Int).toNat,none⟩ (.string t624))) ?hg ?ho ?hn ?hr ?_;(case ho=>rfl);(case hg=>rfl);(case hn=>rfl);(case hr=>first|(go_simp;done)|(go_simp;rfl));intro w79 hw;have hg:w77.grownBy w79 (some go67):=(by rw [hw];exact HP78.2);have hp_:Kd.R Kd.string 9 w79 w.heap.size (fun k_=>(w.heap.size≤k_)∧some k_≠(.slice Ao76 y621.length co76:Value).ownBlock) (.slice (some ⟨go67,0,none⟩) x9_52.length co72) y628:=(by rw [hw,Ny628.out];exact HP78.1);clear HP78;have n0_:=am (Kd.N_afterv (v:=(.slice (some ⟨go67,0,none⟩) x9_52.length co72)) (v1:=(.slice (some ⟨go67,0,none⟩) x9_52.length co72)) (ok:=(fun k_=>(w.heap.size≤k_)∧some k_≠(.slice (some ad569) t566.length co11:Value).ownBlock∧some k_≠(.slice Ao76 y621.length co76:Value).ownBlock∧k_≠g)) (by (with_reducible repeat (first|apply Kd.N_alloc|apply Kd.N_drewN|apply Kd.N_drew));exact Kd.N_mono HO_5.out (fun _ hk=>⟨⟨hk.1.1,⟨hk.1.2.1,⟨hk.2,hk.1.2.2.2⟩⟩⟩,hk.1.2.2.1⟩)) hg (.inl rfl));have n1_:=am (Kd.R_over' (v:=(.slice (some ⟨go67,0,none⟩) x9_52.length co72)) (rs HO_6) (Kd.R_typed HO_9.out) (by decide) hg);have n2_:=am (hp_);have n3_:=am (IsS103.grown (show IsS103 w0 _ g s0_0 t625 t626 t627 from by repeat (first|(with_reducible first|exact HI0.out|apply IsS103.alloc|apply IsS103.drewN|apply IsS103.drew|apply IsS103.set_1|apply IsS103.set_2|apply IsS103.set_3)|exact HI0.out)) hg (IsS103.own_ne HI0.out HO_9.out (by decide)));have n4_:=am (Kd.R_after (v:=(.slice (some ⟨go67,0,none⟩) x9_52.length co72)) (v1:=(.slice (some ⟨go67,0,none⟩) x9_52.length co72)) (ok:=(fun k_=>(w.heap.size≤k_))) (by (with_reducible repeat (first|apply Kd.R_alloc|apply Kd.R_drewN|apply Kd.R_drew));exact Kd.R_mono HO623.out (fun _ hk=>⟨hk.1.1,hk.2⟩)) hg (.inl rfl));have n5_:=am ((by rw [hw];exact below_set (HB.out) (Nat.le_trans HL.out GB67.out):Below w0.heap.size w0 w79));have n6_:=am (KeepBut.trans (by repeat (first|(with_reducible first|exact HK.out|apply KeepBut.set_|apply keep_drewN|apply keep_drew|apply keep_alloc)|exact HK.out)) (KeepBut.of_grown hg g) (Kd.R_base2 HO_9.out));clear HO_5;clear HO_6;clear HO_9;clear HI0;clear HO623;clear HB;clear HK;have HO_5:=n0_;have HO_6:=n1_;have HO_9:=n2_;have HI0:=n3_;have HO623:=n4_;have HB:=n5_;have HK:=n6_;clear n0_ n1_ n2_ n3_ n4_ n5_ n6_;clear hg hw hp_;have p629:0≤(x7_1:Int):=oa;have q629:x7_1<(t566.length:Int):=oa;obtain ⟨ad629,e629,hx629_0,hx629_1,hx629_2,hx629_3⟩:=at_T57 (Kd.R_reads' HO_6.out).2.2 x7_1 p629 q629;obtain rfl:ad569=ad629:=(by injection e629);replace p629:=eq_true p629;replace q629:=eq_true q629)|((first|((with_reducible refine gate_callee (f:=68) rfl ?_);refine goesL_ (some 125) rfl rfl Tryd.func68 (by kernel_rfl) rfl #[.string ((rd_T57 t566 x7_1).f0),.slice (some ⟨go67,0,none⟩) y628.length co72] rfl (by (try simp only [List.map_toArray,List.map_cons,List.map_nil]);first|done|(rw [show y628.length=x9_52.length from (Kd.R_reads' HO_9.out).1.symm] <;> rfl)|rfl|(simp only [List.length_drop,List.length_take];rfl)) ?_;(with_reducible refine (spec_l03Seg.calls kj56 ((rd_T57 t566 x7_1).f0) _ _ y628 t630 t631 _ ?side1 ?side2 A70.out).mono ?_);(case side1=>repeat (first|exact (Kd.R_reads' HO_9.out).2.2|(with_reducible refine Kd.C_alloc ?_ _)|(with_reducible refine Kd.C_drewN ?_ _)|(with_reducible refine Kd.C_drew ?_)));(case side2=>rw [show y628.length=x9_52.length from (Kd.R_reads' HO_9.out).1.symm];exact (Kd.R_reads' HO_9.out).2.1);rintro e w80 ⟨v632,rfl,ho0,hb⟩;refine ⟨_,rfl,?_⟩)|(go_at_call 68;(with_reducible refine (spec_l03Seg.calls kj56 ((rd_T57 t566 x7_1).f0) _ _ y628 t630 t631 _ ?side1 ?side2 A70.out).mono ?_);(case side1=>repeat (first|exact (Kd.R_reads' HO_9.out).2.2|(with_reducible refine Kd.C_alloc ?_ _)|(with_reducible refine Kd.C_drewN ?_ _)|(with_reducible refine Kd.C_drew ?_)));(case side2=>rw [show y628.length=x9_52.length from (Kd.R_reads' HO_9.out).1.symm];exact (Kd.R_reads' HO_9.out).2.1);rintro e w80 ⟨v632,rfl,ho0,hb⟩));have n0_:=am (Kd.N_elder' (by (with_reducible repeat (first|apply Kd.N_alloc|apply Kd.N_drewN|apply Kd.N_drew));exact HO_5.out) (by first|exact Kd.N_base ho0|exact Kd.S_base ho0) hb);have n1_:=am (Kd.R_below (rs HO_6) hb);have n2_:=am (Kd.R_below (rs HO_9) hb);have n3_:=am (Kd.R_below (rs HO623) hb);have n4_:=am (Kd.N_lower (Kd.N_mono (ok':=fun k_=>(w.heap.size≤k_)∧some k_≠(u5:Value).ownBlock∧some k_≠(.slice (some ad569) t566.length co11:Value).ownBlock∧some k_≠(.slice (some ⟨go67,0,none⟩) x9_52.length co72:Value).ownBlock∧some k_≠(.slice Ao76 y621.length co76:Value).ownBlock∧k_≠g) (Kd.S_N (Kd.S_bound ho0)) (fun k_ hk_=>⟨(Nat.le_trans (keep_size (w:=w) (g:=g) (row:=none) (by repeat (first|(with_reducible first|exact HK.out|apply KeepBut.set_|apply keep_drewN|apply keep_drew|apply keep_alloc)|exact HK.out))) hk_.2.1),(Kd.fresh' (Kd.N_lt (by (with_reducible repeat (first|apply Kd.N_alloc|apply Kd.N_drewN|apply Kd.N_drew));exact HO_5.out)) k_ hk_.2.1),(Kd.fresh' (Kd.R_lt (rs HO_6)) k_ hk_.2.1),(Kd.fresh' (Kd.R_lt (rs HO_9)) k_ hk_.2.1),(Kd.fresh' (Kd.R_lt (rs HO623)) k_ hk_.2.1),(IsS103.fresh (by repeat (first|(with_reducible first|exact HI0.out|apply IsS103.alloc|apply IsS103.drewN|apply IsS103.drew|apply IsS103.set_1|apply IsS103.set_2|apply IsS103.set_3)|exact HI0.out)) k_ hk_.2.1)⟩)) (keep_size (w:=w) (g:=g) (row:=none) (by repeat (first|(with_reducible first|exact HK.out|apply KeepBut.set_|apply keep_drewN|apply keep_drew|apply keep_alloc)|exact HK.out))));have n5_:=am (IsS103.below (by repeat (first|(with_reducible first|exact HI0.out|apply IsS103.alloc|apply IsS103.drewN|apply IsS103.drew|apply IsS103.set_1|apply IsS103.set_2|apply IsS103.set_3)|exact HI0.out)) hb);have n6_:=am (KeepBut.trans (by repeat (first|(with_reducible first|exact HK.out|apply KeepBut.set_|apply keep_drewN|apply keep_drew|apply keep_alloc)|exact HK.out)) (KeepBut.of_below hb g none) (.inl rfl));have n7_:=am (below_step (by repeat (first|(with_reducible first|exact HB.out|apply below_alloc|apply pw_below_drewN|apply below_drew1|refine below_set ?_ (IsS103.ge HI0.out))|exact HB.out)) hb);clear HO_5;clear HO_6;clear HO_9;clear HO623;clear HI0;clear HK;clear HB;have HO_5:=n0_;have HO_6:=n1_;have HO_9:=n2_;have HO623:=n3_;have HO633:=n4_;have HI0:=n5_;have HK:=n6_;have HB:=n7_;clear n0_ n1_ n2_ n3_ n4_ n5_ n6_ n7_;(try clear hb);(try clear hb2);(try clear hk);(try clear hi);(try clear ho0);obtain ⟨Ao82,co82,eo82⟩:=Kd.N_slice HO633.out;subst eo82)|((with_reducible refine gate_builtin (b:=.append) (xs:=#[.tmp 118,.tmp 126]) rfl ?_);(try (refine gate_guard (by rfl) ?_;dsimp only));at_builtin;refine Kd.N_append k36 w.heap.size rfl (.tmp 118) (.tmp 126) 45 36 (.agg #[(.string ⟨#[]⟩),(.slice none 0 0)]) 40 rfl Tryd.underlying45 info36 rfl (by decide) (by omega) u5 x5_6 (⟨t630,t631⟩:S36) [.string t630,.slice Ao82 t631.length co82] (fun k_=>(w.heap.size≤k_)∧some k_≠(.slice (some ad569) t566.length co11:Value).ownBlock∧some k_≠(.slice (some ⟨go67,0,none⟩) x9_52.length co72:Value).ownBlock∧some k_≠(.slice Ao76 y621.length co76:Value).ownBlock∧k_≠g) (fun k_=>((fun k_=>(w.heap.size≤k_)∧some k_≠(.slice (some ad569) t566.length co11:Value).ownBlock∧some k_≠(.slice (some ⟨go67,0,none⟩) x9_52.length co72:Value).ownBlock∧some k_≠(.slice Ao76 y621.length co76:Value).ownBlock∧k_≠g)) k_∧some k_≠(u5:Value).ownBlock) rfl rfl ?aP (fun _ hk=>hk) ?aF ?aO (Below.refl _ _) ?aS ?aL ?_;(case aP=>exact (k36_mkF _ _ (⟨t630,t631⟩:S36) (Kd.N_reads' (Kd.N_mono (ok':=(fun k_=>((fun k_=>(w.heap.size≤k_)∧some k_≠(.slice (some ad569) t566.length co11:Value).ownBlock∧some k_≠(.slice (some ⟨go67,0,none⟩) x9_52.length co72:Value).ownBlock∧some k_≠(.slice Ao76 y621.length co76:Value).ownBlock∧k_≠g)) k_∧some k_≠(u5:Value).ownBlock)) (HO633.out) (fun k_ hk=>⟨⟨hk.1,⟨hk.2.2.1,⟨hk.2.2.2.1,⟨hk.2.2.2.2.1,hk.2.2.2.2.2⟩⟩⟩⟩,hk.2.1⟩))).2.1 (Kd.N_F (Kd.N_mono (ok':=(fun k_=>((fun k_=>(w.heap.size≤k_)∧some k_≠(.slice (some ad569) t566.length co11:Value).ownBlock∧some k_≠(.slice (some ⟨go67,0,none⟩) x9_52.length co72:Value).ownBlock∧some k_≠(.slice Ao76 y621.length co76:Value).ownBlock∧k_≠g)) k_∧some k_≠(u5:Value).ownBlock)) (HO633.out) (fun k_ hk=>⟨⟨hk.1,⟨hk.2.2.1,⟨hk.2.2.2.1,⟨hk.2.2.2.2.1,hk.2.2.2.2.2⟩⟩⟩⟩,hk.2.1⟩)))));(case aF=>exact (fun k_ hk=>⟨(Nat.le_trans (keep_size (w:=w) (g:=g) (row:=none) (by repeat (first|(with_reducible first|exact HK.out|apply KeepBut.set_|apply keep_drewN|apply keep_drew|apply keep_alloc)|exact HK.out))) hk),Kd.fresh' (Kd.R_lt (rs HO_6)) k_ hk,Kd.fresh' (Kd.R_lt (rs HO_9)) k_ hk,Kd.fresh' (Kd.R_lt (rs HO623)) k_ hk,IsS103.fresh (by repeat (first|(with_reducible first|exact HI0.out|apply IsS103.alloc|apply IsS103.drewN|apply IsS103.drew|apply IsS103.set_1|apply IsS103.set_2|apply IsS103.set_3)|exact HI0.out)) k_ hk⟩));(case aO=>exact (by (with_reducible repeat (first|apply Kd.N_alloc|apply Kd.N_drewN|apply Kd.N_drew));exact Kd.N_mono HO_5.out (fun _ hk=>⟨hk.1.1.1,⟨hk.1.1.2.1,⟨hk.1.2,⟨hk.1.1.2.2.1,hk.1.1.2.2.2⟩⟩⟩⟩)));(case aS=>exact (keep_size (w:=w) (g:=g) (row:=none) (by repeat (first|(with_reducible first|exact HK.out|apply KeepBut.set_|apply keep_drewN|apply keep_drew|apply keep_alloc)|exact HK.out))));(case aL=>have:=LMc71.out;omega);intro v635 w81 ho hb hg hat;rw [← Ny634.out] at ho;have n0_:=am (Kd.R_over' (rs HO_6) (Kd.N_typed (by (with_reducible repeat (first|apply Kd.N_alloc|apply Kd.N_drewN|apply Kd.N_drew));exact HO_5.out)) (by decide) hg);have n1_:=am (Kd.R_over' (rs HO_9) (Kd.N_typed (by (with_reducible repeat (first|apply Kd.N_alloc|apply Kd.N_drewN|apply Kd.N_drew));exact HO_5.out)) (by decide) hg);have n2_:=am (IsS103.grown (show IsS103 w0 _ g s0_0 t625 t626 t627 from by repeat (first|(with_reducible first|exact HI0.out|apply IsS103.alloc|apply IsS103.drewN|apply IsS103.drew|apply IsS103.set_1|apply IsS103.set_2|apply IsS103.set_3)|exact HI0.out)) hg (IsS103.own_neN HI0.out HO_5.out (by decide)));have n3_:=am (Kd.R_over' (rs HO623) (Kd.N_typed (by (with_reducible repeat (first|apply Kd.N_alloc|apply Kd.N_drewN|apply Kd.N_drew));exact HO_5.out)) (by decide) hg);have n4_:=am (below_weaken (by repeat (first|(with_reducible first|exact HB.out|apply below_alloc|apply pw_below_drewN|apply below_drew1|refine below_set ?_ (IsS103.ge HI0.out))|exact HB.out)) HL.out hb);have n5_:=am (KeepBut.trans (by repeat (first|(with_reducible first|exact HK.out|apply KeepBut.set_|apply keep_drewN|apply keep_drew|apply keep_alloc)|exact HK.out)) (KeepBut.of_grown hg g) (Kd.N_base2 HO_5.out));have n6_:=am (ho);clear HO_6;clear HO_9;clear HI0;clear HO623;clear HB;clear HK;clear HO_5;clear HO633;have HO_6:=n0_;have HO_9:=n1_;have HI0:=n2_;have HO623:=n3_;have HB:=n4_;have HK:=n5_;have HO636:=n6_;clear n0_ n1_ n2_ n3_ n4_ n5_ n6_;clear ho hb hg hat))
                            go_roundg kj56
                            case measure=>have:=HK1.out;have:=HJ9.out;have:=HJ16.out;have:=HJ23.out;have:=HJ29.out;have:=HK6.out;have:=HJ34.out;have:=HJ52.out;have:=HJ56.out;omega
                            case rel=>exact ⟨(y634),(wrap64 (x8_6 - 1)),(t625),(t626),(t627),fg,H',⟨by have:=HK1.out;have:=HJ9.out;have:=HJ16.out;have:=HJ23.out;have:=HJ29.out;have:=HK6.out;have:=HJ34.out;have:=HJ52.out;have:=HJ56.out;omega⟩,⟨by (with_reducible repeat (first|apply Kd.N_alloc|apply Kd.N_drewN|apply Kd.N_drew));exact Kd.N_mono HO636.out (fun _ hk=>⟨hk.1,⟨hk.2.1,hk.2.2.2.2⟩⟩)⟩,⟨by (with_reducible repeat (first|apply Kd.R_alloc|apply Kd.R_drewN|apply Kd.R_drew));exact HO_6.out⟩,⟨by repeat (first|(with_reducible first|exact HI0.out|apply IsS103.alloc|apply IsS103.drewN|apply IsS103.drew|apply IsS103.set_1|apply IsS103.set_2|apply IsS103.set_3)|exact HI0.out)⟩,⟨by repeat (first|(with_reducible first|exact HK.out|apply KeepBut.set_|apply keep_drewN|apply keep_drew|apply keep_alloc)|exact HK.out)⟩,⟨by repeat (first|(with_reducible first|exact HB.out|apply below_alloc|apply pw_below_drewN|apply below_drew1|refine below_set ?_ (IsS103.ge HI0.out))|exact HB.out)⟩⟩
                           ·rw [if_neg c71] at H
                            exact absurd H (by simp)
                          ·rw [if_neg c69] at H
                           exact absurd H (by simp)
                         ·rw [if_neg c68] at H
                          exact absurd H (by simp)
                        ·rw [if_neg c66] at H
                         exact absurd H (by simp)
                       ·rw [if_neg c65] at H
                        exact absurd H (by simp)
                      ·replace c62:=Bool.eq_false_iff.mpr c62;subst c62
                       have H1:(if 0≤x7_1 then (if x7_1<(t566.length:Int) then ((spec_l03Seg.f kj56 ((rd_T57 t566 x7_1).f0) x9_52).bind fun bt638=>(if x5_6.length<3518437208883 then (spec_l01Src_l04Body.l1 kj56 (x5_6++[(⟨bt638.1,bt638.2⟩:S36)]) t566 x7_1 (wrap64 (x8_6 - 1)) s0_0 x1001_56 x1002_56 x1003_56) else (none))) else (none)) else (none))=some (r1,r2,r3,r4):=by rw [if_neg (show ¬ (false=true) by decide)] at H;exact H
                       clear H;have H:=H1;clear H1
                       by_cases c83:0≤x7_1
                       ·rw [if_pos c83] at H;have c83b0:decide (0≤x7_1)=true:=decide_eq_true c83;clear c83
                        by_cases c84:x7_1<(t566.length:Int)
                        ·rw [if_pos c84] at H;have c84b0:decide (x7_1<(t566.length:Int))=true:=decide_eq_true c84;clear c84;replace H:=Option.bind_eq_some_iff.mp H;obtain ⟨⟨t638,t639⟩,A850,H⟩:=H;replace H:(if x5_6.length<3518437208883 then (spec_l01Src_l04Body.l1 kj56 (x5_6++[(⟨t638,t639⟩:S36)]) t566 x7_1 (wrap64 (x8_6 - 1)) s0_0 x1001_56 x1002_56 x1003_56) else (none))=some (r1,r2,r3,r4):=H;have A85:=am A850;clear A850
                         by_cases c86:x5_6.length<3518437208883
                         ·rw [if_pos c86] at H;have LMc86:=am c86;clear c86;obtain ⟨y642,hy642⟩:∃ y_:List (S36),y_=(x5_6++[(⟨t638,t639⟩:S36)]):=⟨_,rfl⟩
                          replace H:(spec_l01Src_l04Body.l1 kj56 y642 t566 x7_1 (wrap64 (x8_6 - 1)) s0_0 x1001_56 x1002_56 x1003_56)=some (r1,r2,r3,r4):=by first|(rw [hy642];with_reducible exact H)|(have H2_:=(Option.bind_some _ _).symm.trans H;rw [hy642];with_reducible exact H2_)|(have H2_:=(Option.bind_some _ _).symm.trans H;with_reducible exact H2_)|with_reducible exact H|(rw [hy642];exact H)|exact H
                          have Ny642:=am hy642;clear hy642;have H':=am H;clear H;have p637:0≤(x7_1:Int):=oa;have q637:x7_1<(t566.length:Int):=oa;obtain ⟨ad637,e637,hx637_0,hx637_1,hx637_2,hx637_3⟩:=at_T57 (Kd.R_reads' HO_6.out).2.2 x7_1 p637 q637;obtain rfl:ad569=ad637:=(by injection e637);replace p637:=eq_true p637;replace q637:=eq_true q637;obtain ⟨Ao87,co87,eo87⟩:=Kd.R_slice HO_9.out;subst eo87
                          go_wp2_with (first|((first|((with_reducible refine gate_callee (f:=68) rfl ?_);refine goesL_ (some 125) rfl rfl Tryd.func68 (by kernel_rfl) rfl #[.string ((rd_T57 t566 x7_1).f0),.slice Ao87 x9_52.length co87] rfl (by (try simp only [List.map_toArray,List.map_cons,List.map_nil]);first|done|rfl|(simp only [List.length_drop,List.length_take];rfl)) ?_;(with_reducible refine (spec_l03Seg.calls kj56 ((rd_T57 t566 x7_1).f0) _ _ x9_52 t638 t639 _ ?side1 ?side2 A85.out).mono ?_);(case side1=>repeat (first|exact (Kd.R_reads' HO_9.out).2.2|(with_reducible refine Kd.C_alloc ?_ _)|(with_reducible refine Kd.C_drewN ?_ _)|(with_reducible refine Kd.C_drew ?_)));(case side2=>exact (Kd.R_reads' HO_9.out).2.1);rintro e w88 ⟨v640,rfl,ho0,hb⟩;refine ⟨_,rfl,?_⟩)|(go_at_call 68;(with_reducible refine (spec_l03Seg.calls kj56 ((rd_T57 t566 x7_1).f0) _ _ x9_52 t638 t639 _ ?side1 ?side2 A85.out).mono ?_);(case side1=>repeat (first|exact (Kd.R_reads' HO_9.out).2.2|(with_reducible refine Kd.C_alloc ?_ _)|(with_reducible refine Kd.C_drewN ?_ _)|(with_reducible refine Kd.C_drew ?_)));(case side2=>exact (Kd.R_reads' HO_9.out).2.1);rintro e w88 ⟨v640,rfl,ho0,hb⟩));have n0_:=am (Kd.N_elder' (by (with_reducible repeat (first|apply Kd.N_alloc|apply Kd.N_drewN|apply Kd.N_drew));exact HO_5.out) (by first|exact Kd.N_base ho0|exact Kd.S_base ho0) hb);have n1_:=am (Kd.R_below (rs HO_6) hb);have n2_:=am (Kd.R_below (rs HO_9) hb);have n3_:=am (Kd.N_lower (Kd.N_mono (ok':=fun k_=>(w.heap.size≤k_)∧some k_≠(u5:Value).ownBlock∧some k_≠(.slice (some ad569) t566.length co11:Value).ownBlock∧some k_≠(.slice Ao87 x9_52.length co87:Value).ownBlock∧k_≠g) (Kd.S_N (Kd.S_bound ho0)) (fun k_ hk_=>⟨(Nat.le_trans (keep_size (w:=w) (g:=g) (row:=none) (by repeat (first|(with_reducible first|exact HK.out|apply KeepBut.set_|apply keep_drewN|apply keep_drew|apply keep_alloc)|exact HK.out))) hk_.2.1),(Kd.fresh' (Kd.N_lt (by (with_reducible repeat (first|apply Kd.N_alloc|apply Kd.N_drewN|apply Kd.N_drew));exact HO_5.out)) k_ hk_.2.1),(Kd.fresh' (Kd.R_lt (rs HO_6)) k_ hk_.2.1),(Kd.fresh' (Kd.R_lt (rs HO_9)) k_ hk_.2.1),(IsS103.fresh (by repeat (first|(with_reducible first|exact HI0.out|apply IsS103.alloc|apply IsS103.drewN|apply IsS103.drew|apply IsS103.set_1|apply IsS103.set_2|apply IsS103.set_3)|exact HI0.out)) k_ hk_.2.1)⟩)) (keep_size (w:=w) (g:=g) (row:=none) (by repeat (first|(with_reducible first|exact HK.out|apply KeepBut.set_|apply keep_drewN|apply keep_drew|apply keep_alloc)|exact HK.out))));have n4_:=am (IsS103.below (by repeat (first|(with_reducible first|exact HI0.out|apply IsS103.alloc|apply IsS103.drewN|apply IsS103.drew|apply IsS103.set_1|apply IsS103.set_2|apply IsS103.set_3)|exact HI0.out)) hb);have n5_:=am (KeepBut.trans (by repeat (first|(with_reducible first|exact HK.out|apply KeepBut.set_|apply keep_drewN|apply keep_drew|apply keep_alloc)|exact HK.out)) (KeepBut.of_below hb g none) (.inl rfl));have n6_:=am (below_step (by repeat (first|(with_reducible first|exact HB.out|apply below_alloc|apply pw_below_drewN|apply below_drew1|refine below_set ?_ (IsS103.ge HI0.out))|exact HB.out)) hb);clear HO_5;clear HO_6;clear HO_9;clear HI0;clear HK;clear HB;have HO_5:=n0_;have HO_6:=n1_;have HO_9:=n2_;have HO641:=n3_;have HI0:=n4_;have HK:=n5_;have HB:=n6_;clear n0_ n1_ n2_ n3_ n4_ n5_ n6_;(try clear hb);(try clear hb2);(try clear hk);(try clear hi);(try clear ho0);obtain ⟨Ao90,co90,eo90⟩:=Kd.N_slice HO641.out;subst eo90)|((with_reducible refine gate_builtin (b:=.append) (xs:=#[.tmp 118,.tmp 126]) rfl ?_);(try (refine gate_guard (by rfl) ?_;dsimp only));at_builtin;refine Kd.N_append k36 w.heap.size rfl (.tmp 118) (.tmp 126) 45 36 (.agg #[(.string ⟨#[]⟩),(.slice none 0 0)]) 40 rfl Tryd.underlying45 info36 rfl (by decide) (by omega) u5 x5_6 (⟨t638,t639⟩:S36) [.string t638,.slice Ao90 t639.length co90] (fun k_=>(w.heap.size≤k_)∧some k_≠(.slice (some ad569) t566.length co11:Value).ownBlock∧some k_≠(.slice Ao87 x9_52.length co87:Value).ownBlock∧k_≠g) (fun k_=>((fun k_=>(w.heap.size≤k_)∧some k_≠(.slice (some ad569) t566.length co11:Value).ownBlock∧some k_≠(.slice Ao87 x9_52.length co87:Value).ownBlock∧k_≠g)) k_∧some k_≠(u5:Value).ownBlock) rfl rfl ?aP (fun _ hk=>hk) ?aF ?aO (Below.refl _ _) ?aS ?aL ?_;(case aP=>exact (k36_mkF _ _ (⟨t638,t639⟩:S36) (Kd.N_reads' (Kd.N_mono (ok':=(fun k_=>((fun k_=>(w.heap.size≤k_)∧some k_≠(.slice (some ad569) t566.length co11:Value).ownBlock∧some k_≠(.slice Ao87 x9_52.length co87:Value).ownBlock∧k_≠g)) k_∧some k_≠(u5:Value).ownBlock)) (HO641.out) (fun k_ hk=>⟨⟨hk.1,⟨hk.2.2.1,⟨hk.2.2.2.1,hk.2.2.2.2⟩⟩⟩,hk.2.1⟩))).2.1 (Kd.N_F (Kd.N_mono (ok':=(fun k_=>((fun k_=>(w.heap.size≤k_)∧some k_≠(.slice (some ad569) t566.length co11:Value).ownBlock∧some k_≠(.slice Ao87 x9_52.length co87:Value).ownBlock∧k_≠g)) k_∧some k_≠(u5:Value).ownBlock)) (HO641.out) (fun k_ hk=>⟨⟨hk.1,⟨hk.2.2.1,⟨hk.2.2.2.1,hk.2.2.2.2⟩⟩⟩,hk.2.1⟩)))));(case aF=>exact (fun k_ hk=>⟨(Nat.le_trans (keep_size (w:=w) (g:=g) (row:=none) (by repeat (first|(with_reducible first|exact HK.out|apply KeepBut.set_|apply keep_drewN|apply keep_drew|apply keep_alloc)|exact HK.out))) hk),Kd.fresh' (Kd.R_lt (rs HO_6)) k_ hk,Kd.fresh' (Kd.R_lt (rs HO_9)) k_ hk,IsS103.fresh (by repeat (first|(with_reducible first|exact HI0.out|apply IsS103.alloc|apply IsS103.drewN|apply IsS103.drew|apply IsS103.set_1|apply IsS103.set_2|apply IsS103.set_3)|exact HI0.out)) k_ hk⟩));(case aO=>exact (by (with_reducible repeat (first|apply Kd.N_alloc|apply Kd.N_drewN|apply Kd.N_drew));exact Kd.N_mono HO_5.out (fun _ hk=>⟨hk.1.1,⟨hk.1.2.1,⟨hk.1.2.2.1,hk.1.2.2.2⟩⟩⟩)));(case aS=>exact (keep_size (w:=w) (g:=g) (row:=none) (by repeat (first|(with_reducible first|exact HK.out|apply KeepBut.set_|apply keep_drewN|apply keep_drew|apply keep_alloc)|exact HK.out))));(case aL=>have:=LMc86.out;omega);intro v643 w89 ho hb hg hat;rw [← Ny642.out] at ho;have n0_:=am (Kd.R_over' (rs HO_6) (Kd.N_typed (by (with_reducible repeat (first|apply Kd.N_alloc|apply Kd.N_drewN|apply Kd.N_drew));exact HO_5.out)) (by decide) hg);have n1_:=am (Kd.R_over' (rs HO_9) (Kd.N_typed (by (with_reducible repeat (first|apply Kd.N_alloc|apply Kd.N_drewN|apply Kd.N_drew));exact HO_5.out)) (by decide) hg);have n2_:=am (IsS103.grown (show IsS103 w0 _ g s0_0 x1001_56 x1002_56 x1003_56 from by repeat (first|(with_reducible first|exact HI0.out|apply IsS103.alloc|apply IsS103.drewN|apply IsS103.drew|apply IsS103.set_1|apply IsS103.set_2|apply IsS103.set_3)|exact HI0.out)) hg (IsS103.own_neN HI0.out HO_5.out (by decide)));have n3_:=am (below_weaken (by repeat (first|(with_reducible first|exact HB.out|apply below_alloc|apply pw_below_drewN|apply below_drew1|refine below_set ?_ (IsS103.ge HI0.out))|exact HB.out)) HL.out hb);have n4_:=am (KeepBut.trans (by repeat (first|(with_reducible first|exact HK.out|apply KeepBut.set_|apply keep_drewN|apply keep_drew|apply keep_alloc)|exact HK.out)) (KeepBut.of_grown hg g) (Kd.N_base2 HO_5.out));have n5_:=am (ho);clear HO_6;clear HO_9;clear HI0;clear HB;clear HK;clear HO_5;clear HO641;have HO_6:=n0_;have HO_9:=n1_;have HI0:=n2_;have HB:=n3_;have HK:=n4_;have HO644:=n5_;clear n0_ n1_ n2_ n3_ n4_ n5_;clear ho hb hg hat))
                          go_roundg kj56
                          case measure=>have:=HK1.out;have:=HJ9.out;have:=HJ16.out;have:=HJ23.out;have:=HJ29.out;have:=HK6.out;have:=HJ34.out;have:=HJ52.out;have:=HJ56.out;omega
                          case rel=>exact ⟨(y642),(wrap64 (x8_6 - 1)),(x1001_56),(x1002_56),(x1003_56),fg,H',⟨by have:=HK1.out;have:=HJ9.out;have:=HJ16.out;have:=HJ23.out;have:=HJ29.out;have:=HK6.out;have:=HJ34.out;have:=HJ52.out;have:=HJ56.out;omega⟩,⟨by (with_reducible repeat (first|apply Kd.N_alloc|apply Kd.N_drewN|apply Kd.N_drew));exact Kd.N_mono HO644.out (fun _ hk=>⟨hk.1,⟨hk.2.1,hk.2.2.2⟩⟩)⟩,⟨by (with_reducible repeat (first|apply Kd.R_alloc|apply Kd.R_drewN|apply Kd.R_drew));exact HO_6.out⟩,⟨by repeat (first|(with_reducible first|exact HI0.out|apply IsS103.alloc|apply IsS103.drewN|apply IsS103.drew|apply IsS103.set_1|apply IsS103.set_2|apply IsS103.set_3)|exact HI0.out)⟩,⟨by repeat (first|(with_reducible first|exact HK.out|apply KeepBut.set_|apply keep_drewN|apply keep_drew|apply keep_alloc)|exact HK.out)⟩,⟨by repeat (first|(with_reducible first|exact HB.out|apply below_alloc|apply pw_below_drewN|apply below_drew1|refine below_set ?_ (IsS103.ge HI0.out))|exact HB.out)⟩⟩
                         ·rw [if_neg c86] at H
                          exact absurd H (by simp)
                        ·rw [if_neg c84] at H
                         exact absurd H (by simp)
                       ·rw [if_neg c83] at H
                        exact absurd H (by simp)
               ·rw [if_neg c34] at H;have c34b0:decide (0<x8_6)=false:=decide_eq_false c34;clear c34;have H':=am H;clear H
                go_wp2
                go_roundg k6
                case measure=>have:=HK1.out;have:=HJ9.out;have:=HJ16.out;have:=HJ23.out;have:=HJ29.out;have:=HK6.out;omega
                case rel=>exact ⟨(x5_6),(wrap64 (x7_1+1)),(x1001_6),(x1002_6),(x1003_6),fg,H',⟨by have:=HK1.out;have:=HJ9.out;have:=HJ16.out;have:=HJ23.out;have:=HJ29.out;have:=HK6.out;omega⟩,⟨by (with_reducible repeat (first|apply Kd.N_alloc|apply Kd.N_drewN|apply Kd.N_drew));exact HO_5.out⟩,⟨by (with_reducible repeat (first|apply Kd.R_alloc|apply Kd.R_drewN|apply Kd.R_drew));exact HO_6.out⟩,⟨by repeat (first|(with_reducible first|exact HI0.out|apply IsS103.alloc|apply IsS103.drewN|apply IsS103.drew|apply IsS103.set_1|apply IsS103.set_2|apply IsS103.set_3)|exact HI0.out)⟩,⟨by repeat (first|(with_reducible first|exact HK.out|apply KeepBut.set_|apply keep_drewN|apply keep_drew|apply keep_alloc)|exact HK.out)⟩,⟨by repeat (first|(with_reducible first|exact HB.out|apply below_alloc|apply pw_below_drewN|apply below_drew1|refine below_set ?_ (IsS103.ge HI0.out))|exact HB.out)⟩⟩
    ·rw [if_neg c8] at H
     exact absurd H (by simp)
   ·rw [if_neg c7] at H;have c7b0:decide (x7_1<(t566.length:Int))=false:=decide_eq_false c7;clear c7;have HC91:=am H;clear H;obtain ⟨Ao92,co92,eo92⟩:=Kd.R_slice HO_6.out;subst eo92
    go_upto_region 26 with (fail)
    go_cut [134] (fun v134 wc=>∃ (kq:Nat) (x134_90:Bool) (x1001_90:Int) (x1002_90:Int) (x1003_90:Int),v134=.bool x134_90∧Aside0 (spec_l01Src_l04Body.j10 kq x5_1 x134_90 s0_0 x1001_90 x1002_90 x1003_90=some (r1,r2,r3,r4))∧Aside0 (kq≤k1)∧Aside0 (Kd.N k36 36 wc w.heap.size (fun k_=>(w.heap.size≤k_)∧k_≠g) u5 x5_1)∧Aside0 (IsS103 w0 wc g s0_0 x1001_90 x1002_90 x1003_90)∧Aside0 (KeepBut w wc g none)∧Aside0 (Below w0.heap.size w0 wc))
    case first =>
     have H:=HC91.out;clear HC91;replace H:=Option.bind_eq_some_iff.mp H;obtain ⟨⟨t645,t646,t647,t648⟩,A930,H⟩:=H;replace H:(if t645=true then (spec_l01Src_l04Body.j10 k1 x5_1 (decide ((x5_1.length:Int)>0)) s0_0 t646 t647 t648) else (spec_l01Src_l04Body.j10 k1 x5_1 false s0_0 t646 t647 t648))=some (r1,r2,r3,r4):=H;have A93:=am A930;clear A930
     try go_wp2_with (fail)
     go_at_call 44;(with_reducible refine (spec_l01Src_one.calls g s0_0 x1001_1 x1002_1 x1003_1 8 t645 t646 t647 t648 w0 _ ?side1 ?side2 A93.out).mono ?_);(case side1=>repeat (first|(with_reducible first|exact HI0.out|apply IsS103.alloc|apply IsS103.drewN|apply IsS103.drew|apply IsS103.set_1|apply IsS103.set_2|apply IsS103.set_3)|exact HI0.out));(case side2=>repeat (first|(with_reducible first|exact HB.out|apply below_alloc|apply pw_below_drewN|apply below_drew1|refine below_set ?_ (IsS103.ge HI0.out))|exact HB.out));rintro e w94 ⟨rfl,hi,hb,hk⟩;have n0_:=am (Kd.N_mono (Kd.N_keep (Kd.N_mono (ok:=fun k_=>(((w.heap.size≤k_))∧(some k_≠(.slice Ao92 t566.length co92:Value).ownBlock∧k_≠g))) (by (with_reducible repeat (first|apply Kd.N_alloc|apply Kd.N_drewN|apply Kd.N_drew));exact HO_5.out) (fun k_ hk_=>(⟨hk_,hk_.2.2⟩:_∧k_≠g))) hk (fun _ h=>h.2)) (fun _ h=>h.1));have n1_:=am (Kd.R_mono (Kd.R_keep (IsS103.apart (show IsS103 w0 _ g s0_0 x1001_1 x1002_1 x1003_1 from by repeat (first|(with_reducible first|exact HI0.out|apply IsS103.alloc|apply IsS103.drewN|apply IsS103.drew|apply IsS103.set_1|apply IsS103.set_2|apply IsS103.set_3)|exact HI0.out)) (rs HO_6) (by decide)) hk (fun _ h=>h.2)) (fun _ h=>h.1));have n2_:=am (KeepBut.trans (by repeat (first|(with_reducible first|exact HK.out|apply KeepBut.set_|apply keep_drewN|apply keep_drew|apply keep_alloc)|exact HK.out)) hk (.inl rfl));have n3_:=am (hb);have n4_:=am (hi);clear HO_5;clear HO_6;clear HK;clear HB;clear HI0;have HO_5:=n0_;have HO_6:=n1_;have HK:=n2_;have HB:=n3_;have HI0:=n4_;clear n0_ n1_ n2_ n3_ n4_;(try clear hb);(try clear hb2);(try clear hk);(try clear hi)
     by_cases c95:t645=true
     ·subst c95
      have H1:(spec_l01Src_l04Body.j10 k1 x5_1 (decide ((x5_1.length:Int)>0)) s0_0 t646 t647 t648)=some (r1,r2,r3,r4):=by rw [if_pos rfl] at H;exact H
      clear H;have H:=H1;clear H1;have H':=am H;clear H;obtain ⟨Ao96,co96,eo96⟩:=Kd.N_slice HO_5.out;subst eo96
      go_wp2
      go_meet
      case rel=>exact ⟨_,(decide ((x5_1.length:Int)>0)),(t646),(t647),(t648),fg,H',⟨by have:=HK1.out;first|omega|exact Nat.le_refl _⟩,⟨by (with_reducible repeat (first|apply Kd.N_alloc|apply Kd.N_drewN|apply Kd.N_drew));exact Kd.N_mono HO_5.out (fun _ hk=>⟨hk.1,hk.2.2⟩)⟩,⟨by repeat (first|(with_reducible first|exact HI0.out|apply IsS103.alloc|apply IsS103.drewN|apply IsS103.drew|apply IsS103.set_1|apply IsS103.set_2|apply IsS103.set_3)|exact HI0.out)⟩,⟨by repeat (first|(with_reducible first|exact HK.out|apply KeepBut.set_|apply keep_drewN|apply keep_drew|apply keep_alloc)|exact HK.out)⟩,⟨by repeat (first|(with_reducible first|exact HB.out|apply below_alloc|apply pw_below_drewN|apply below_drew1|refine below_set ?_ (IsS103.ge HI0.out))|exact HB.out)⟩⟩
     ·replace c95:=Bool.eq_false_iff.mpr c95;subst c95
      have H1:(spec_l01Src_l04Body.j10 k1 x5_1 false s0_0 t646 t647 t648)=some (r1,r2,r3,r4):=by rw [if_neg (show ¬ (false=true) by decide)] at H;exact H
      clear H;have H:=H1;clear H1;have H':=am H;clear H
      go_wp2
      go_meet
      case rel=>exact ⟨_,(false),(t646),(t647),(t648),fg,H',⟨by have:=HK1.out;first|omega|exact Nat.le_refl _⟩,⟨by (with_reducible repeat (first|apply Kd.N_alloc|apply Kd.N_drewN|apply Kd.N_drew));exact Kd.N_mono HO_5.out (fun _ hk=>⟨hk.1,hk.2.2⟩)⟩,⟨by repeat (first|(with_reducible first|exact HI0.out|apply IsS103.alloc|apply IsS103.drewN|apply IsS103.drew|apply IsS103.set_1|apply IsS103.set_2|apply IsS103.set_3)|exact HI0.out)⟩,⟨by repeat (first|(with_reducible first|exact HK.out|apply KeepBut.set_|apply keep_drewN|apply keep_drew|apply keep_alloc)|exact HK.out)⟩,⟨by repeat (first|(with_reducible first|exact HB.out|apply below_alloc|apply pw_below_drewN|apply below_drew1|refine below_set ?_ (IsS103.ge HI0.out))|exact HB.out)⟩⟩
    case rest =>
     clear HC91
     try clear c1
     try clear c2
     try clear p2
     try clear c3
     try clear c4
     try clear p4
     try clear q4
     try clear hx4
     try clear c5
     try clear p5
     try clear q5
     try clear hx5
     try clear c6
     try clear p6
     try clear q6
     try clear hx6
     try clear hf6
     try clear c7
     try clear c7b0
     try clear c8
     try clear c8b0
     try clear c9
     try clear c14
     try clear c14b0
     try clear c18
     try clear c19
     try clear c19b0
     try clear c20
     try clear c20b0
     try clear c25
     try clear c25b0
     try clear c26
     try clear c26b0
     try clear c27
     try clear c27b0
     try clear c31
     try clear c32
     try clear c32b0
     try clear c33
     try clear c33b0
     try clear c34
     try clear c34b0
     try clear c38
     try clear c38b0
     try clear c39
     try clear c39b0
     try clear c40
     try clear c40b0
     try clear c41
     try clear c41b0
     try clear c42
     try clear p42
     try clear q42
     try clear hx42
     try clear c43
     try clear c43b0
     try clear c43b1
     try clear c46
     try clear c48
     try clear c54
     try clear c55
     try clear p56
     try clear q56
     try clear hx56
     try clear p57
     try clear q57
     try clear hx57
     try clear p58
     try clear q58
     try clear hx58
     try clear p59
     try clear q59
     try clear hx59
     try clear c60
     try clear c62
     try clear p62
     try clear q62
     try clear hx62
     try clear p63
     try clear q63
     try clear hx63
     try clear p64
     try clear c65
     try clear c65b0
     try clear c66
     try clear c66b0
     try clear c67
     try clear p67
     try clear q67
     try clear hx67
     try clear hf67
     try clear c68
     try clear c68b0
     try clear c69
     try clear c69b0
     try clear c71
     try clear c83
     try clear c83b0
     try clear c84
     try clear c84b0
     try clear c86
     try clear c95
     try clear hx569_0
     try clear hx569_1
     try clear hx569_2
     try clear hx569_3
     try clear hx574_0
     try clear hx574_1
     try clear hx574_2
     try clear hx574_3
     try clear hx579_0
     try clear hx579_1
     try clear hx579_2
     try clear hx579_3
     try clear hx584_0
     try clear hx584_1
     try clear hx584_2
     try clear hx584_3
     try clear hx589_0
     try clear hx589_1
     try clear hx589_2
     try clear hx589_3
     try clear hx593_0
     try clear hx593_1
     try clear hx593_2
     try clear hx593_3
     try clear hx594_0
     try clear hx594_1
     try clear hx594_2
     try clear hx594_3
     try clear hx629_0
     try clear hx629_1
     try clear hx629_2
     try clear hx629_3
     try clear hx637_0
     try clear hx637_1
     try clear hx637_2
     try clear hx637_3
     try clear hx67_0
     try clear p2
     try clear p4
     try clear p42
     try clear p5
     try clear p56
     try clear p569
     try clear p57
     try clear p574
     try clear p579
     try clear p58
     try clear p584
     try clear p589
     try clear p59
     try clear p593
     try clear p594
     try clear p6
     try clear p629
     try clear p637
     try clear p67
     try clear q4
     try clear q42
     try clear q5
     try clear q56
     try clear q569
     try clear q57
     try clear q574
     try clear q579
     try clear q58
     try clear q584
     try clear q589
     try clear q59
     try clear q593
     try clear q594
     try clear q629
     try clear q637
     try clear q67
     obtain ⟨kq,x134_90,x1001_90,x1002_90,x1003_90,rfl,HA,HJ90,HO_5,HI0,HK,HB⟩:=hcut
     cases kq with
     | zero=>exact absurd HA.out (by simp [spec_l01Src_l04Body.j10])
     | succ kj90 =>
      have H:=HA.out;clear HA;simp only [spec_l01Src_l04Body.j10] at H
      by_cases c97:x134_90=true
      ·subst c97
       have H1:((spec_l01Src_n.f s0_0 x1001_90 x1002_90 x1003_90 (x5_1.length:Int)).bind fun bt649=>((spec_l01Src_n.f s0_0 bt649.2.1 bt649.2.2.1 bt649.2.2.2 3).bind fun bt653=>(if bt653.1=0 then (if 0≤bt649.1 then (if bt649.1≤(x5_1.length:Int) then (if 0≤(wrap64 (bt649.1+1)) then (if (wrap64 (bt649.1+1))≤(x5_1.length:Int) then (some ((x5_1.eraseIdx (bt649.1:Int).toNat),bt653.2.1,bt653.2.2.1,bt653.2.2.2)) else (none)) else (none)) else (none)) else (none)) else (if bt653.1=1 then (if 0≤bt649.1 then (if bt649.1<(x5_1.length:Int) then (if x5_1.length<3518437208883 then (some ((x5_1++[(⟨(rd_T36 x5_1 bt649.1).f0,(rd_T36 x5_1 bt649.1).f1⟩:S36)]),bt653.2.1,bt653.2.2.1,bt653.2.2.2)) else (none)) else (none)) else (none)) else ((spec_l01Src_l02Segment.f kj90 s0_0 bt653.2.1 bt653.2.2.1 bt653.2.2.2).bind fun bt674=>(if 0≤bt649.1 then (if bt649.1<(x5_1.length:Int) then (some ((x5_1.set (bt649.1:Int).toNat (⟨bt674.1,bt674.2.1⟩:S36)),bt674.2.2.1,bt674.2.2.2.1,bt674.2.2.2.2)) else (none)) else (none)))))))=some (r1,r2,r3,r4):=by rw [if_pos rfl] at H;exact H
       clear H;have H:=H1;clear H1;replace H:=Option.bind_eq_some_iff.mp H;obtain ⟨⟨t649,t650,t651,t652⟩,A980,H⟩:=H;replace H:((spec_l01Src_n.f s0_0 t650 t651 t652 3).bind fun bt653=>(if bt653.1=0 then (if 0≤t649 then (if t649≤(x5_1.length:Int) then (if 0≤(wrap64 (t649+1)) then (if (wrap64 (t649+1))≤(x5_1.length:Int) then (some ((x5_1.eraseIdx (t649:Int).toNat),bt653.2.1,bt653.2.2.1,bt653.2.2.2)) else (none)) else (none)) else (none)) else (none)) else (if bt653.1=1 then (if 0≤t649 then (if t649<(x5_1.length:Int) then (if x5_1.length<3518437208883 then (some ((x5_1++[(⟨(rd_T36 x5_1 t649).f0,(rd_T36 x5_1 t649).f1⟩:S36)]),bt653.2.1,bt653.2.2.1,bt653.2.2.2)) else (none)) else (none)) else (none)) else ((spec_l01Src_l02Segment.f kj90 s0_0 bt653.2.1 bt653.2.2.1 bt653.2.2.2).bind fun bt674=>(if 0≤t649 then (if t649<(x5_1.length:Int) then (some ((x5_1.set (t649:Int).toNat (⟨bt674.1,bt674.2.1⟩:S36)),bt674.2.2.1,bt674.2.2.2.1,bt674.2.2.2.2)) else (none)) else (none))))))=some (r1,r2,r3,r4):=H;have A98:=am A980;clear A980;obtain ⟨Ao99,co99,eo99⟩:=Kd.N_slice HO_5.out;subst eo99
       try go_wp2_with (fail)
       go_at_call 42;(with_reducible refine (spec_l01Src_n.calls g s0_0 x1001_90 x1002_90 x1003_90 (x5_1.length:Int) t649 t650 t651 t652 w0 _ ?side1 ?side2 A98.out).mono ?_);(case side1=>repeat (first|(with_reducible first|exact HI0.out|apply IsS103.alloc|apply IsS103.drewN|apply IsS103.drew|apply IsS103.set_1|apply IsS103.set_2|apply IsS103.set_3)|exact HI0.out));(case side2=>repeat (first|(with_reducible first|exact HB.out|apply below_alloc|apply pw_below_drewN|apply below_drew1|refine below_set ?_ (IsS103.ge HI0.out))|exact HB.out));rintro e w100 ⟨rfl,hi,hb,hk⟩;have n0_:=am (Kd.N_mono (Kd.N_keep (Kd.N_mono (ok:=fun k_=>(((w.heap.size≤k_))∧k_≠g)) (by (with_reducible repeat (first|apply Kd.N_alloc|apply Kd.N_drewN|apply Kd.N_drew));exact HO_5.out) (fun k_ hk_=>(⟨hk_,hk_.2⟩:_∧k_≠g))) hk (fun _ h=>h.2)) (fun _ h=>h.1));have n1_:=am (KeepBut.trans (by repeat (first|(with_reducible first|exact HK.out|apply KeepBut.set_|apply keep_drewN|apply keep_drew|apply keep_alloc)|exact HK.out)) hk (.inl rfl));have n2_:=am (hb);have n3_:=am (hi);clear HO_5;clear HK;clear HB;clear HI0;have HO_5:=n0_;have HK:=n1_;have HB:=n2_;have HI0:=n3_;clear n0_ n1_ n2_ n3_;(try clear hb);(try clear hb2);(try clear hk);(try clear hi);replace H:=Option.bind_eq_some_iff.mp H;obtain ⟨⟨t653,t654,t655,t656⟩,A1010,H⟩:=H;replace H:(if t653=0 then (if 0≤t649 then (if t649≤(x5_1.length:Int) then (if 0≤(wrap64 (t649+1)) then (if (wrap64 (t649+1))≤(x5_1.length:Int) then (some ((x5_1.eraseIdx (t649:Int).toNat),t654,t655,t656)) else (none)) else (none)) else (none)) else (none)) else (if t653=1 then (if 0≤t649 then (if t649<(x5_1.length:Int) then (if x5_1.length<3518437208883 then (some ((x5_1++[(⟨(rd_T36 x5_1 t649).f0,(rd_T36 x5_1 t649).f1⟩:S36)]),t654,t655,t656)) else (none)) else (none)) else (none)) else ((spec_l01Src_l02Segment.f kj90 s0_0 t654 t655 t656).bind fun bt674=>(if 0≤t649 then (if t649<(x5_1.length:Int) then (some ((x5_1.set (t649:Int).toNat (⟨bt674.1,bt674.2.1⟩:S36)),bt674.2.2.1,bt674.2.2.2.1,bt674.2.2.2.2)) else (none)) else (none)))))=some (r1,r2,r3,r4):=H;have A101:=am A1010;clear A1010
       try go_wp2_with (fail)
       go_at_call 42;(with_reducible refine (spec_l01Src_n.calls g s0_0 t650 t651 t652 3 t653 t654 t655 t656 w0 _ ?side1 ?side2 A101.out).mono ?_);(case side1=>repeat (first|(with_reducible first|exact HI0.out|apply IsS103.alloc|apply IsS103.drewN|apply IsS103.drew|apply IsS103.set_1|apply IsS103.set_2|apply IsS103.set_3)|exact HI0.out));(case side2=>repeat (first|(with_reducible first|exact HB.out|apply below_alloc|apply pw_below_drewN|apply below_drew1|refine below_set ?_ (IsS103.ge HI0.out))|exact HB.out));rintro e w102 ⟨rfl,hi,hb,hk⟩;have n0_:=am (Kd.N_mono (Kd.N_keep (Kd.N_mono (ok:=fun k_=>(((w.heap.size≤k_))∧k_≠g)) (by (with_reducible repeat (first|apply Kd.N_alloc|apply Kd.N_drewN|apply Kd.N_drew));exact HO_5.out) (fun k_ hk_=>(⟨hk_,hk_.2⟩:_∧k_≠g))) hk (fun _ h=>h.2)) (fun _ h=>h.1));have n1_:=am (KeepBut.trans (by repeat (first|(with_reducible first|exact HK.out|apply KeepBut.set_|apply keep_drewN|apply keep_drew|apply keep_alloc)|exact HK.out)) hk (.inl rfl));have n2_:=am (hb);have n3_:=am (hi);clear HO_5;clear HK;clear HB;clear HI0;have HO_5:=n0_;have HK:=n1_;have HB:=n2_;have HI0:=n3_;clear n0_ n1_ n2_ n3_;(try clear hb);(try clear hb2);(try clear hk);(try clear hi)
       by_cases c103:t653=0
       ·rw [if_pos c103] at H;have c103b0:(t653 == 0)=true:=beq_iff_eq.mpr c103;have c103b1:(t653 != 0)=false:=bne_eq_false_iff_eq.mpr c103;clear c103
        by_cases c104:0≤t649
        ·rw [if_pos c104] at H;have c104b0:=eq_true c104;have c104b1:decide (0≤t649)=true:=decide_eq_true c104;clear c104
         by_cases c105:t649≤(x5_1.length:Int)
         ·rw [if_pos c105] at H;have c105b0:=eq_true c105;have c105b1:decide (t649≤(x5_1.length:Int))=true:=decide_eq_true c105;clear c105;obtain ⟨y657,hy657⟩:∃ y_:List (S36),y_=(x5_1.take (t649:Int).toNat):=⟨_,rfl⟩
          replace H:(if 0≤(wrap64 (t649+1)) then (if (wrap64 (t649+1))≤(x5_1.length:Int) then (some ((x5_1.eraseIdx (t649:Int).toNat),t654,t655,t656)) else (none)) else (none))=some (r1,r2,r3,r4):=by first|(rw [hy657];with_reducible exact H)|(have H2_:=(Option.bind_some _ _).symm.trans H;rw [hy657];with_reducible exact H2_)|(have H2_:=(Option.bind_some _ _).symm.trans H;with_reducible exact H2_)|with_reducible exact H|(rw [hy657];exact H)|exact H
          have Ny657:=am hy657;clear hy657;obtain ⟨ji106,hji106⟩:∃ j_:Int,(wrap64 (t649+1))=j_:=⟨_,rfl⟩
          replace H:(if 0≤(ji106) then (if (ji106)≤(x5_1.length:Int) then (some ((x5_1.eraseIdx (t649:Int).toNat),t654,t655,t656)) else (none)) else (none))=some (r1,r2,r3,r4):=by first|(rw [hji106] at H;exact H)|(simp only [hji106] at H ⊢;exact H)
          have hji106w:(IntKind.i64.wrap (t649+1))=ji106:=(i64_w _).trans hji106
          by_cases c107:0≤(ji106)
          ·rw [if_pos c107] at H;have c107b0:=eq_true c107;have c107b1:decide (0≤(ji106))=true:=decide_eq_true c107;clear c107
           by_cases c108:(ji106)≤(x5_1.length:Int)
           ·rw [if_pos c108] at H;have c108b0:=eq_true c108;have c108b1:decide ((ji106)≤(x5_1.length:Int))=true:=decide_eq_true c108;clear c108;obtain ⟨y662,hy662⟩:∃ y_:List (S36),y_=(x5_1.drop ((ji106):Int).toNat):=⟨_,rfl⟩
            replace H:(some ((x5_1.eraseIdx (t649:Int).toNat),t654,t655,t656))=some (r1,r2,r3,r4):=by first|(rw [hy662];with_reducible exact H)|(have H2_:=(Option.bind_some _ _).symm.trans H;rw [hy662];with_reducible exact H2_)|(have H2_:=(Option.bind_some _ _).symm.trans H;with_reducible exact H2_)|with_reducible exact H|(rw [hy662];exact H)|exact H
            have Ny662:=am hy662;clear hy662;obtain ⟨y667,hy667⟩:∃ y_:List (S36),y_=(x5_1.eraseIdx (t649:Int).toNat):=⟨_,rfl⟩
            replace H:(some (y667,t654,t655,t656))=some (r1,r2,r3,r4):=by first|(rw [hy667];with_reducible exact H)|(have H2_:=(Option.bind_some _ _).symm.trans H;rw [hy667];with_reducible exact H2_)|(have H2_:=(Option.bind_some _ _).symm.trans H;with_reducible exact H2_)|with_reducible exact H|(rw [hy667];exact H)|exact H
            have Ny667:=am hy667;clear hy667;simp only [Option.some.injEq,Prod.mk.injEq] at H;obtain ⟨rfl,rfl,rfl,rfl⟩:=H
            try go_wp2
            replace HO_5:=am (Kd.N_drew HO_5.out);replace HI0:=am (IsS103.drew HI0.out);replace HK:=am (keep_drew HK.out);replace HB:=am (below_drew1 HB.out);have q110:(t649:Int)≤((x5_1.length:Int):Int):=oa;obtain ⟨i0110,hi0110,_,hsz110,_⟩:=info_parts info36;have hroom110:x5_1.length≤co99:=(Kd.N_reads' HO_5.out).2.1;have hC110:Kd.F k36 _ _ Ao99 x5_1.length x5_1:=(Kd.V_at (base:=w.heap.size) (Kd.N_V HO_5.out)).2.2;have hcut110:=cut_to (P:=Tryd.prog) 45 36 .i64 Tryd.underlying45 hi0110 Ao99 x5_1.length co99 t649 (oa) q110 hroom110;have hr110:=Kd.F_take (m:=(t649:Int).toNat) hC110 (by omega);have hy110:y657.length=(t649:Int).toNat:=(by rw [Ny657.out,List.length_take];omega)
            rw [← Ny657.out] at hr110
            rw [← hy110] at hcut110
            have HO661:=am (show Kd.V k36 36 _ w.heap.size _ (.slice Ao99 y657.length co99) y657 from Kd.V_mk (by omega) hr110);have HC661:=am (show y657.length≤co99 from by omega);clear hr110 hC110 hroom110 hi0110 hsz110;have KY110:=am hy110;clear hy110;replace q110:=eq_true q110;have q111:((ji106):Int)≤((x5_1.length:Int):Int):=oa;obtain ⟨i0111,hi0111,_,hsz111,_⟩:=info_parts info36;have hroom111:x5_1.length≤co99:=(Kd.N_reads' HO_5.out).2.1;have hC111:Kd.F k36 _ _ Ao99 x5_1.length x5_1:=(Kd.V_at (base:=w.heap.size) (Kd.N_V HO_5.out)).2.2;have q0111:(0:Int)≤((ji106):Int):=oa;have hcut111:=cut_from (P:=Tryd.prog) 45 36 .i64 Tryd.underlying45 hi0111 2 hsz111 Ao99 x5_1.length co99 (ji106) q0111 q111;have hr111:=Kd.F_cut (m:=((ji106):Int).toNat) (c:=co99) hC111 (by omega) hroom111;obtain ⟨A111,hA111⟩:∃ A1,A1=(if co99=((ji106):Int).toNat then Ao99 else (Ao99:Option Addr).map (·.add (((ji106):Int).toNat * 2))):=⟨_,rfl⟩;obtain ⟨c111,hc111⟩:∃ c1,c1=co99 - ((ji106):Int).toNat:=⟨_,rfl⟩;have hy111:y662.length=x5_1.length - ((ji106):Int).toNat:=(by rw [Ny662.out,List.length_drop] <;> omega)
            rw [show (x5_1).drop ((ji106):Int).toNat=y662 from Ny662.out.symm] at hr111
            replace hr111:Kd.F k36 _ _ A111 y662.length y662:=(by rw [hA111];exact hr111)
            rw [← hy111,← hA111,← hc111] at hcut111
            have HO666:=am (show Kd.V k36 36 _ w.heap.size _ (.slice A111 y662.length c111) y662 from Kd.V_mk (by rw [hy111,hc111];exact Nat.sub_le_sub_right hroom111 _) hr111);have HC666:=am (show y662.length≤c111 from by rw [hy111,hc111];exact Nat.sub_le_sub_right hroom111 _);clear hr111 hC111 hroom111 hi0111 hsz111 hc111;have KY111:=am hy111;have KA111:=am hA111;clear hy111 hA111;replace q111:=eq_true q111;obtain ⟨go113,co113,eo113,gb113,gl113,cl113,HG113⟩:=Kd.N_form HO_5.out (by have hj_:0≤(t649:Int):=oa;have hl_:(ji106:Int)≤(x5_1.length:Int):=oa;have hh_:(t649:Int)≤(x5_1.length:Int):=oa;rw [← hji106] at hl_;unfold wrap64 at hl_;omega)
            (first|cases eo113|(injection eo113 with ea_ en_ ec_;(first|subst ea_|(injection ea_ with ea_;subst ea_));subst ec_;clear en_))
            have GB113:=am gb113;have GG113:=am HG113;clear gb113 gl113 HG113;refine start_ (n:=9) (S:=fun w'=>True) (ds:=[]) _ (by kernel_rfl) rfl rfl trivial (fun hHeld=>?_);refine with_tabW spec_l01Src_l04Body.tab31 spec_l01Src_l04Body.bits31 (fun HT_ HW_=>?_)
            generalize w102.drew=w109 at HO_5 HI0 HK HB GG113 HO661 HO666 hHeld ⊢
            refine pA 0 148 HT_ ?_;refine pA 1 149 HT_ ?_;refine pA 2 150 HT_ ?_;refine pA 3 151 HT_ ?_;refine pA 4 152 HT_ ?_;refine pA 5 153 HT_ ?_;refine pA 6 154 HT_ ?_;refine oA 7 155 HT_ (fun K hK=>?_);have hj_:0≤(t649:Int):=oa;have hl_:(ji106:Int)≤(x5_1.length:Int):=oa;have hh_:(t649:Int)≤(x5_1.length:Int):=oa;have hb_:=(Kd.N_reads' HO_5.out).2.2.2.1;have h0_:(0:Int)≤(ji106:Int):=oa;have hy1_:=KY110.out;have hk_:(ji106:Int).toNat=y657.length+1:=(by have hw_:(ji106:Int)=t649+1:=(by have h00_:=h0_;rw [← hji106] at h00_ ⊢;unfold wrap64 at h00_ ⊢;omega);rw [hw_];omega);refine Kd.N_delete_step k36 w.heap.size (by rfl) (.tmp 150) (.tmp 154) 45 36 rfl Tryd.underlying45 (by kernel_rfl) (g:=go113) (n:=x5_1.length) (c:=co99) (k:=y657.length) rfl rfl ?hA ?hm (by (with_reducible repeat (first|apply Kd.N_alloc|apply Kd.N_drewN|apply Kd.N_drew));exact HO_5.out) ?hk (Below.refl _ _) (keep_size (w:=w) (g:=g) (row:=none) (by repeat (first|(with_reducible first|exact HK.out|apply KeepBut.set_|apply keep_drewN|apply keep_drew|apply keep_alloc)|exact HK.out))) ?_
            (case hA=>have ha_:=KA111.out;rw [hk_] at ha_;exact ha_)
            (case hm=>have ha_:=KY111.out;omega)
            (case hk=>omega)
            intro w112 ho hb hg;clear hj_ hl_ hh_ hb_ hk_ h0_
            rw [hy1_,← Ny667.out] at ho
            clear hy1_;have hn_:x5_1.length - 1=y667.length:=(by have:=(Kd.N_reads' ho).1;omega)
            rw [hn_] at ho ⊢
            clear hn_;replace HB:=am (below_weaken (by repeat (first|(with_reducible first|exact HB.out|apply below_alloc|apply pw_below_drewN|apply below_drew1|refine below_set ?_ (IsS103.ge HI0.out))|exact HB.out)) HL.out hb);replace HI0:=am (IsS103.grown (show IsS103 w0 _ g s0_0 t654 t655 t656 from by repeat (first|(with_reducible first|exact HI0.out|apply IsS103.alloc|apply IsS103.drewN|apply IsS103.drew|apply IsS103.set_1|apply IsS103.set_2|apply IsS103.set_3)|exact HI0.out)) hg (IsS103.own_neN HI0.out HO_5.out (by decide)));replace HK:=am (KeepBut.trans (by repeat (first|(with_reducible first|exact HK.out|apply KeepBut.set_|apply keep_drewN|apply keep_drew|apply keep_alloc)|exact HK.out)) (KeepBut.of_grown hg g) (Kd.N_base2 HO_5.out));replace HO_5:=am (ho);clear ho hb hg;refine hK.out _ _ trivial (fun hHeld=>?_);clear hK K;refine nA 155 ?_;refine pA 8 5 HT_ ?_;refine done_ (done_of HT_.out (by kernel_rfl)) ?_
            try go_wp2
            go_ret
            exact ⟨_,by first|rfl|(simp [errW_none,errW_some] <;> rfl)|(simp only [← hji106];first|rfl|(simp [errW_none,errW_some] <;> rfl))|(simp [*,errW_none,errW_some] <;> rfl),by (with_reducible repeat (first|apply Kd.N_alloc|apply Kd.N_drewN|apply Kd.N_drew));exact Kd.N_mono HO_5.out (fun _ hk=>hk.1),by repeat (first|(with_reducible first|exact HI0.out|apply IsS103.alloc|apply IsS103.drewN|apply IsS103.drew|apply IsS103.set_1|apply IsS103.set_2|apply IsS103.set_3)|exact HI0.out),by repeat (first|(with_reducible first|exact HB.out|apply below_alloc|apply pw_below_drewN|apply below_drew1|refine below_set ?_ (IsS103.ge HI0.out))|exact HB.out),by repeat (first|(with_reducible first|exact HK.out|apply KeepBut.set_|apply keep_drewN|apply keep_drew|apply keep_alloc)|exact HK.out)⟩
           ·rw [if_neg c108] at H
            exact absurd H (by simp)
          ·rw [if_neg c107] at H
           exact absurd H (by simp)
         ·rw [if_neg c105] at H
          exact absurd H (by simp)
        ·rw [if_neg c104] at H
         exact absurd H (by simp)
       ·rw [if_neg c103] at H;have c103b0:(t653 == 0)=false:=beq_eq_false_iff_ne.mpr c103;have c103b1:(t653 != 0)=true:=bne_iff_ne.mpr c103
        by_cases c114:t653=1
        ·rw [if_pos c114] at H;have c114b0:(t653 == 1)=true:=beq_iff_eq.mpr c114;have c114b1:(t653 != 1)=false:=bne_eq_false_iff_eq.mpr c114;clear c114
         by_cases c115:0≤t649
         ·rw [if_pos c115] at H;have c115b0:decide (0≤t649)=true:=decide_eq_true c115;clear c115
          by_cases c116:t649<(x5_1.length:Int)
          ·rw [if_pos c116] at H;have c116b0:decide (t649<(x5_1.length:Int))=true:=decide_eq_true c116;clear c116
           by_cases c117:x5_1.length<3518437208883
           ·rw [if_pos c117] at H;have LMc117:=am c117;clear c117;obtain ⟨y671,hy671⟩:∃ y_:List (S36),y_=(x5_1++[(⟨(rd_T36 x5_1 t649).f0,(rd_T36 x5_1 t649).f1⟩:S36)]):=⟨_,rfl⟩
            replace H:(some (y671,t654,t655,t656))=some (r1,r2,r3,r4):=by first|(rw [hy671];with_reducible exact H)|(have H2_:=(Option.bind_some _ _).symm.trans H;rw [hy671];with_reducible exact H2_)|(have H2_:=(Option.bind_some _ _).symm.trans H;with_reducible exact H2_)|with_reducible exact H|(rw [hy671];exact H)|exact H
            have Ny671:=am hy671;clear hy671;simp only [Option.some.injEq,Prod.mk.injEq] at H;obtain ⟨rfl,rfl,rfl,rfl⟩:=H;have p670:0≤(t649:Int):=oa;have q670:t649<(x5_1.length:Int):=oa;obtain ⟨ad670,A670_1,c670_1,e670,hx670_0,hx670_1,hl670_1,hi670_1⟩:=at_T36 (Kd.N_reads' HO_5.out).2.2 t649 p670 q670
            cases e670
            obtain ⟨ce670,hce670,hMe670,hcc670⟩:=Kd.N_get HO_5.out z36 t649 p670 (by first|exact q670|exact oa|(have e_:=(Kd.N_reads' HO_5.out).1;omega));obtain ⟨ua670_1,uc670_1,rfl,ul670_1,ge670_1⟩:=k36_openF hMe670;have hv670_1:=hcc670 1 _ rfl
            rw [add_field _ _ 1 (by omega)] at hv670_1
            replace hv670_1:=Option.some.inj (hv670_1.symm.trans hx670_1)
            injection hv670_1 with hva_ hvn_ hvc_
            rw [hva_] at ge670_1
            rw [hvc_] at ul670_1
            have HL670_1:=am (show Kd.V k65 65 _ w.heap.size _ _ ((rd_T36 x5_1 t649).f1) from Kd.V_mk ul670_1 ge670_1);clear hva_ hvn_ hvc_ ge670_1 ul670_1;clear hcc670 hce670;have HR670_1:=am hi670_1;have HC670_1:=am hl670_1;clear hi670_1 hl670_1;replace p670:=eq_true p670;replace q670:=eq_true q670
            go_wp2_with (first|((with_reducible refine gate_builtin (b:=.append) (xs:=#[.tmp 158,.tmp 163]) rfl ?_);(try (refine gate_guard (by rfl) ?_;dsimp only));at_builtin;refine Kd.N_append k36 w.heap.size rfl (.tmp 158) (.tmp 163) 45 36 (.agg #[(.string ⟨#[]⟩),(.slice none 0 0)]) 40 rfl Tryd.underlying45 info36 rfl (by decide) (by omega) (.slice (some ad670) x5_1.length co99) x5_1 (⟨(rd_T36 x5_1 t649).f0,(rd_T36 x5_1 t649).f1⟩:S36) [.string ((rd_T36 x5_1 t649).f0),.slice A670_1 ((rd_T36 x5_1 t649).f1).length c670_1] (fun k_=>(w.heap.size≤k_)∧k_≠g) (fun k_=>((fun k_=>(w.heap.size≤k_)∧k_≠g)) k_∧some k_≠(.slice (some ad670) x5_1.length co99:Value).ownBlock) rfl rfl ?aP (fun _ hk=>hk) ?aF ?aO (Below.refl _ _) ?aS ?aL ?_;(case aP=>exact (k36_mkF _ _ (⟨(rd_T36 x5_1 t649).f0,(rd_T36 x5_1 t649).f1⟩:S36) (Kd.V_reads' (Kd.V_mono (ok':=(fun k_=>((fun k_=>(w.heap.size≤k_)∧k_≠g)) k_∧some k_≠(.slice (some ad670) x5_1.length co99:Value).ownBlock)) (HL670_1.out) (fun k_ hk=>⟨⟨hk.1.1,hk.1.2⟩,hk.2⟩))).2.1 (Kd.V_F (Kd.V_mono (ok':=(fun k_=>((fun k_=>(w.heap.size≤k_)∧k_≠g)) k_∧some k_≠(.slice (some ad670) x5_1.length co99:Value).ownBlock)) (HL670_1.out) (fun k_ hk=>⟨⟨hk.1.1,hk.1.2⟩,hk.2⟩)))));(case aF=>exact (fun k_ hk=>⟨(Nat.le_trans (keep_size (w:=w) (g:=g) (row:=none) (by repeat (first|(with_reducible first|exact HK.out|apply KeepBut.set_|apply keep_drewN|apply keep_drew|apply keep_alloc)|exact HK.out))) hk),IsS103.fresh (by repeat (first|(with_reducible first|exact HI0.out|apply IsS103.alloc|apply IsS103.drewN|apply IsS103.drew|apply IsS103.set_1|apply IsS103.set_2|apply IsS103.set_3)|exact HI0.out)) k_ hk⟩));(case aO=>exact (by (with_reducible repeat (first|apply Kd.N_alloc|apply Kd.N_drewN|apply Kd.N_drew));exact HO_5.out));(case aS=>exact (keep_size (w:=w) (g:=g) (row:=none) (by repeat (first|(with_reducible first|exact HK.out|apply KeepBut.set_|apply keep_drewN|apply keep_drew|apply keep_alloc)|exact HK.out))));(case aL=>have:=LMc117.out;omega);intro v672 w118 ho hb hg hat;rw [← Ny671.out] at ho;have n0_:=am (IsS103.grown (show IsS103 w0 _ g s0_0 t654 t655 t656 from by repeat (first|(with_reducible first|exact HI0.out|apply IsS103.alloc|apply IsS103.drewN|apply IsS103.drew|apply IsS103.set_1|apply IsS103.set_2|apply IsS103.set_3)|exact HI0.out)) hg (IsS103.own_neN HI0.out HO_5.out (by decide)));have n1_:=am (Kd.V_afterv (ok:=(fun k_=>(w.heap.size≤k_)∧k_≠g)) (by (with_reducible repeat (first|apply Kd.V_alloc|apply Kd.V_drewN|apply Kd.V_drew));exact HL670_1.out) hg hat);have n2_:=am (below_weaken (by repeat (first|(with_reducible first|exact HB.out|apply below_alloc|apply pw_below_drewN|apply below_drew1|refine below_set ?_ (IsS103.ge HI0.out))|exact HB.out)) HL.out hb);have n3_:=am (KeepBut.trans (by repeat (first|(with_reducible first|exact HK.out|apply KeepBut.set_|apply keep_drewN|apply keep_drew|apply keep_alloc)|exact HK.out)) (KeepBut.of_grown hg g) (Kd.N_base2 HO_5.out));have n4_:=am (ho);clear HI0;clear HL670_1;clear HB;clear HK;clear HO_5;have HI0:=n0_;have HL670_1:=n1_;have HB:=n2_;have HK:=n3_;have HO673:=n4_;clear n0_ n1_ n2_ n3_ n4_;clear ho hb hg hat))
            go_ret
            exact ⟨_,ff,by (with_reducible repeat (first|apply Kd.N_alloc|apply Kd.N_drewN|apply Kd.N_drew));exact Kd.N_mono HO673.out (fun _ hk=>hk.1),by repeat (first|(with_reducible first|exact HI0.out|apply IsS103.alloc|apply IsS103.drewN|apply IsS103.drew|apply IsS103.set_1|apply IsS103.set_2|apply IsS103.set_3)|exact HI0.out),by repeat (first|(with_reducible first|exact HB.out|apply below_alloc|apply pw_below_drewN|apply below_drew1|refine below_set ?_ (IsS103.ge HI0.out))|exact HB.out),by repeat (first|(with_reducible first|exact HK.out|apply KeepBut.set_|apply keep_drewN|apply keep_drew|apply keep_alloc)|exact HK.out)⟩
           ·rw [if_neg c117] at H
            exact absurd H (by simp)
          ·rw [if_neg c116] at H
           exact absurd H (by simp)
         ·rw [if_neg c115] at H
          exact absurd H (by simp)
        ·rw [if_neg c114] at H;have c114b0:(t653 == 1)=false:=beq_eq_false_iff_ne.mpr c114;have c114b1:(t653 != 1)=true:=bne_iff_ne.mpr c114;replace H:=Option.bind_eq_some_iff.mp H;obtain ⟨⟨t674,t675,t678,t679,t680⟩,A1190,H⟩:=H;replace H:(if 0≤t649 then (if t649<(x5_1.length:Int) then (some ((x5_1.set (t649:Int).toNat (⟨t674,t675⟩:S36)),t678,t679,t680)) else (none)) else (none))=some (r1,r2,r3,r4):=H;have A119:=am A1190;clear A1190
         by_cases c120:0≤t649
         ·rw [if_pos c120] at H;have c120b0:decide (0≤t649)=true:=decide_eq_true c120;clear c120
          by_cases c121:t649<(x5_1.length:Int)
          ·rw [if_pos c121] at H;have c121b0:decide (t649<(x5_1.length:Int))=true:=decide_eq_true c121;clear c121;obtain ⟨y681,hy681⟩:∃ y_:List (S36),y_=(x5_1.set (t649:Int).toNat (⟨t674,t675⟩:S36)):=⟨_,rfl⟩
           replace H:(some (y681,t678,t679,t680))=some (r1,r2,r3,r4):=by first|(rw [hy681];with_reducible exact H)|(have H2_:=(Option.bind_some _ _).symm.trans H;rw [hy681];with_reducible exact H2_)|(have H2_:=(Option.bind_some _ _).symm.trans H;with_reducible exact H2_)|with_reducible exact H|(rw [hy681];exact H)|exact H
           have Ny681:=am hy681;clear hy681;simp only [Option.some.injEq,Prod.mk.injEq] at H;obtain ⟨rfl,rfl,rfl,rfl⟩:=H
           go_wp2_with (first|((first|((with_reducible refine gate_callee (f:=69) rfl ?_);refine goesL_ (some 144) rfl rfl Tryd.func69 (by kernel_rfl) rfl #[.pointer (some ⟨g,0,none⟩)] rfl (by (try simp only [List.map_toArray,List.map_cons,List.map_nil]);first|done|rfl|(simp only [List.length_drop,List.length_take];rfl)) ?_;(with_reducible refine (spec_l01Src_l02Segment.calls kj90 g s0_0 t654 t655 t656 t674 t675 t678 t679 t680 w0 _ ?side1 ?side2 A119.out).mono ?_);(case side1=>repeat (first|(with_reducible first|exact HI0.out|apply IsS103.alloc|apply IsS103.drewN|apply IsS103.drew|apply IsS103.set_1|apply IsS103.set_2|apply IsS103.set_3)|exact HI0.out));(case side2=>repeat (first|(with_reducible first|exact HB.out|apply below_alloc|apply pw_below_drewN|apply below_drew1|refine below_set ?_ (IsS103.ge HI0.out))|exact HB.out));rintro e w123 ⟨v676,rfl,ho0,hi,hb,hk⟩;refine ⟨_,rfl,?_⟩)|(go_at_call 69;(with_reducible refine (spec_l01Src_l02Segment.calls kj90 g s0_0 t654 t655 t656 t674 t675 t678 t679 t680 w0 _ ?side1 ?side2 A119.out).mono ?_);(case side1=>repeat (first|(with_reducible first|exact HI0.out|apply IsS103.alloc|apply IsS103.drewN|apply IsS103.drew|apply IsS103.set_1|apply IsS103.set_2|apply IsS103.set_3)|exact HI0.out));(case side2=>repeat (first|(with_reducible first|exact HB.out|apply below_alloc|apply pw_below_drewN|apply below_drew1|refine below_set ?_ (IsS103.ge HI0.out))|exact HB.out));rintro e w123 ⟨v676,rfl,ho0,hi,hb,hk⟩));have n0_:=am (Kd.N_mono (Kd.N_told (Kd.N_oldK (Kd.N_mono (ok:=fun k_=>(((w.heap.size≤k_))∧k_≠g)) (by (with_reducible repeat (first|apply Kd.N_alloc|apply Kd.N_drewN|apply Kd.N_drew));exact HO_5.out) (fun k_ hk_=>(⟨hk_,hk_.2⟩:_∧k_≠g))) hk) (by first|exact Kd.N_base ho0|exact Kd.S_base ho0)) (fun _ h_=>h_.1));have n1_:=am (Kd.N_lower (Kd.N_mono (ok':=fun k_=>(w.heap.size≤k_)∧some k_≠(.slice Ao99 x5_1.length co99:Value).ownBlock∧k_≠g) (Kd.S_N (Kd.S_bound ho0)) (fun k_ hk_=>⟨(Nat.le_trans (keep_size (w:=w) (g:=g) (row:=none) (by repeat (first|(with_reducible first|exact HK.out|apply KeepBut.set_|apply keep_drewN|apply keep_drew|apply keep_alloc)|exact HK.out))) hk_.2.1),(Kd.fresh' (Kd.N_lt (by (with_reducible repeat (first|apply Kd.N_alloc|apply Kd.N_drewN|apply Kd.N_drew));exact HO_5.out)) k_ hk_.2.1),(IsS103.fresh (by repeat (first|(with_reducible first|exact HI0.out|apply IsS103.alloc|apply IsS103.drewN|apply IsS103.drew|apply IsS103.set_1|apply IsS103.set_2|apply IsS103.set_3)|exact HI0.out)) k_ hk_.2.1)⟩)) (keep_size (w:=w) (g:=g) (row:=none) (by repeat (first|(with_reducible first|exact HK.out|apply KeepBut.set_|apply keep_drewN|apply keep_drew|apply keep_alloc)|exact HK.out))));have n2_:=am (KeepBut.trans (by repeat (first|(with_reducible first|exact HK.out|apply KeepBut.set_|apply keep_drewN|apply keep_drew|apply keep_alloc)|exact HK.out)) hk (.inl rfl));have n3_:=am (hb);have n4_:=am (hi);clear HO_5;clear HK;clear HB;clear HI0;have HO_5:=n0_;have HO677:=n1_;have HK:=n2_;have HB:=n3_;have HI0:=n4_;clear n0_ n1_ n2_ n3_ n4_;(try clear hb);(try clear hb2);(try clear hk);(try clear hi);(try clear ho0);have p122:0≤(t649:Int):=oa;have q122:(t649:Int)<((x5_1.length:Int):Int):=oa;obtain ⟨go122,co122,eo122,gb122,gl122,cl122,HG122⟩:=Kd.N_form HO_5.out (by omega);(first|cases eo122|(injection eo122 with ea_ en_ ec_;(first|subst ea_|(injection ea_ with ea_;subst ea_));subst ec_;clear en_));have GB122:=am gb122;have GG122:=am HG122;clear gb122 gl122 HG122;obtain ⟨ce122,hcl122,hM122,hcc122,hfr122⟩:=Kd.N_elem HO_5.out z36 (t649:Int) p122 q122;obtain ⟨ua122_1,uc122_1,rfl,ul122_1,ge122_1⟩:=k36_openF hM122;have hx122_0:w123.cell? ⟨go122,(t649:Int).toNat * 2,none⟩=some (.string ((rd_T36 x5_1 t649).f0)):=hcc122 0 _ rfl;have hx122_1:w123.cell? ⟨go122,(t649:Int).toNat * 2+1,none⟩=some (.slice ua122_1 ((rd_T36 x5_1 t649).f1).length uc122_1):=hcc122 1 _ rfl;have hf122_0:w123.frozen? ⟨go122,(t649:Int).toNat * 2,none⟩=false:=hfr122 0;have hf122_1:w123.frozen? ⟨go122,(t649:Int).toNat * 2+1,none⟩=false:=hfr122 1;clear hcl122 hcc122 hfr122 hM122;replace p122:=eq_true p122;replace q122:=eq_true q122;have n_:=am (Kd.N_mono (ok':=(fun k_=>(w.heap.size≤k_)∧some k_≠(v676:Value).ownBlock)) HO_5.out (fun k_ hk=>⟨hk.1.1,hk.2⟩));clear HO_5;have HO_5:=n_;clear n_;have HX124:=am (show Kd.N k36 36 w123 w.heap.size (fun k_=>(w.heap.size≤k_)) (.slice (some ⟨go122,0,none⟩) x5_1.length co99) x5_1 from (by (with_reducible repeat (first|apply Kd.N_alloc|apply Kd.N_drewN|apply Kd.N_drew));exact Kd.N_mono HO_5.out (fun _ hk=>hk.1)));obtain ⟨ce124,hcl124,hM124,hcc124,hfr124⟩:=Kd.N_elem HX124.out z36 (t649:Int) (oa) (by have h_:(t649:Int)<((x5_1.length:Int):Int):=oa;first|exact h_|(have e_:=(Kd.N_reads' HO_5.out).1;omega)|simpa using h_);obtain ⟨ua124_1,uc124_1,rfl,ul124_1,ge124_1⟩:=k36_openF hM124;have HP124:=Kd.N_seg HX124.out (t649:Int) (oa) (by have h_:(t649:Int)<((x5_1.length:Int):Int):=oa;first|exact h_|(have e_:=(Kd.N_reads' HO_5.out).1;omega)|simpa using h_) (seg:=[.string t674,v676]) (j:=0) hcl124 hcc124 (show 2≤2 from by decide) (x':=(⟨t674,t675⟩:S36)) (by obtain ⟨Ag0_,cg0_,eg0_⟩:=Kd.N_slice HO677.out;have g0_:=HO677.out;rw [eg0_] at g0_ ⊢;exact k36_mkF _ _ (⟨t674,t675⟩:S36) (Kd.N_reads' (Kd.N_mono (ok':=(fun k_=>((fun k_=>(w.heap.size≤k_))) k_∧k_≠go122)) g0_ (fun k_ hk=>⟨hk.1,fun e_=>(hk.2.1) (by rw [e_];rfl)⟩))).2.1 (Kd.N_F (Kd.N_mono (ok':=(fun k_=>((fun k_=>(w.heap.size≤k_))) k_∧k_≠go122)) g0_ (fun k_ hk=>⟨hk.1,fun e_=>(hk.2.1) (by rw [e_];rfl)⟩)))) (fun _ hk=>hk);have hx124_0:=hcc124 0 _ rfl;(try simp only [show (k36).sz=2 from rfl,Nat.mul_one,Nat.add_zero] at hx124_0);have hf124_0:=hfr124 0;(try simp only [show (k36).sz=2 from rfl,Nat.mul_one,Nat.add_zero] at hf124_0);have hx124_1:=hcc124 1 _ rfl;(try simp only [show (k36).sz=2 from rfl,Nat.mul_one,Nat.add_zero] at hx124_1);have hf124_1:=hfr124 1;(try simp only [show (k36).sz=2 from rfl,Nat.mul_one,Nat.add_zero] at hf124_1);clear hcl124 hcc124 hfr124 hM124)|((with_reducible refine gate_store (t:=36) (p:=145) rfl ?_);refine store_event (t:=36) (p:=145) (v:=?vo_w125) (w1:=((w123.setCell ⟨go122,(t649:Int).toNat * 2,none⟩ (.string t674)).setCell ⟨go122,(t649:Int).toNat * 2+1,none⟩ (v676))) ?hg ?ho ?hn ?hr ?_;(case ho=>rfl);(case hg=>rfl);(case hn=>rfl);(case hr=>first|(go_simp;done)|(go_simp;rfl)|((try (first|(obtain ⟨Ah1_,ch1_,eh1_⟩:=Kd.R_slice HO677.out;subst eh1_)|(obtain ⟨Ah1_,ch1_,eh1_⟩:=Kd.R_slice (Kd.S_R HO677.out);subst eh1_)|(obtain ⟨Ah1_,ch1_,eh1_⟩:=Kd.N_slice HO677.out;subst eh1_)));first|(go_simp;done)|(go_simp;rfl)));intro w125 hw;have hg:w123.grownBy w125 (some go122):=(by rw [hw];exact HP124.2);have hp_:Kd.N k36 36 w125 w.heap.size (fun k_=>(w.heap.size≤k_)) (.slice (some ⟨go122,0,none⟩) x5_1.length co99) y681:=(by rw [hw,Ny681.out];exact HP124.1);clear HP124;have n0_:=am (hp_);have n1_:=am (IsS103.grown (show IsS103 w0 _ g s0_0 t678 t679 t680 from by repeat (first|(with_reducible first|exact HI0.out|apply IsS103.alloc|apply IsS103.drewN|apply IsS103.drew|apply IsS103.set_1|apply IsS103.set_2|apply IsS103.set_3)|exact HI0.out)) hg (IsS103.own_neN HI0.out HO_5.out (by decide)));have n2_:=am ((by rw [hw];exact below_set (below_set (HB.out) (Nat.le_trans HL.out GB122.out)) (Nat.le_trans HL.out GB122.out):Below w0.heap.size w0 w125));have n3_:=am (KeepBut.trans (by repeat (first|(with_reducible first|exact HK.out|apply KeepBut.set_|apply keep_drewN|apply keep_drew|apply keep_alloc)|exact HK.out)) (KeepBut.of_grown hg g) (Kd.N_base2 HO_5.out));clear HO_5;clear HI0;clear HB;clear HK;clear HO677;have HO_5:=n0_;have HI0:=n1_;have HB:=n2_;have HK:=n3_;clear n0_ n1_ n2_ n3_;clear hg hw hp_))
           go_ret
           exact ⟨_,ff,by (with_reducible repeat (first|apply Kd.N_alloc|apply Kd.N_drewN|apply Kd.N_drew));exact HO_5.out,by repeat (first|(with_reducible first|exact HI0.out|apply IsS103.alloc|apply IsS103.drewN|apply IsS103.drew|apply IsS103.set_1|apply IsS103.set_2|apply IsS103.set_3)|exact HI0.out),by repeat (first|(with_reducible first|exact HB.out|apply below_alloc|apply pw_below_drewN|apply below_drew1|refine below_set ?_ (IsS103.ge HI0.out))|exact HB.out),by repeat (first|(with_reducible first|exact HK.out|apply KeepBut.set_|apply keep_drewN|apply keep_drew|apply keep_alloc)|exact HK.out)⟩
          ·rw [if_neg c121] at H
           exact absurd H (by simp)
         ·rw [if_neg c120] at H
          exact absurd H (by simp)
      ·replace c97:=Bool.eq_false_iff.mpr c97;subst c97
       have H1:(some (x5_1,x1001_90,x1002_90,x1003_90))=some (r1,r2,r3,r4):=by rw [if_neg (show ¬ (false=true) by decide)] at H;exact H
       clear H;have H:=H1;clear H1;simp only [Option.some.injEq,Prod.mk.injEq] at H;obtain ⟨rfl,rfl,rfl,rfl⟩:=H
       go_wp2
       go_ret
       exact ⟨_,ff,by (with_reducible repeat (first|apply Kd.N_alloc|apply Kd.N_drewN|apply Kd.N_drew));exact Kd.N_mono HO_5.out (fun _ hk=>hk.1),by repeat (first|(with_reducible first|exact HI0.out|apply IsS103.alloc|apply IsS103.drewN|apply IsS103.drew|apply IsS103.set_1|apply IsS103.set_2|apply IsS103.set_3)|exact HI0.out),by repeat (first|(with_reducible first|exact HB.out|apply below_alloc|apply pw_below_drewN|apply below_drew1|refine below_set ?_ (IsS103.ge HI0.out))|exact HB.out),by repeat (first|(with_reducible first|exact HK.out|apply KeepBut.set_|apply keep_drewN|apply keep_drew|apply keep_alloc)|exact HK.out)⟩
end Go.Proofs.YtjbdljhjplidmaaDoor.QF

-- Merged by a program of this session (wip/tool/pack.py) out of its own texts for this claim.
import Derived.Test.YtjjfjgdhloideaaKFnExactGateRight0
import Derived.Test.YtjjfjgdhloideaaKFnExactGateRight1
import Derived.Test.YtjjfjgdhloideaaKFnExactGateRight2
import Derived.Test.YtjjfjgdhloideaaKFnExactGateRight3
import Derived.Test.YtjjfjgdhloideaaKFnExactGateRight9
import Derived.Test.YtjjfjgdhloideaaKFnExactGateRight10
import Derived.Test.YtjjfjgdhloideaaKFnExactGateRight12
import Derived.Test.YtjjfjgdhloideaaKFnExactGateRight14
import Derived.Test.YtjjfjgdhloideaaKFnExactGateRight15
import Derived.Test.YtjjfjgdhloideaaKFnExactGateRight17
import Derived.Test.YtjjfjgdhloideaaKFnExactGateRight18
namespace Go.Proofs.Ytjjfjgdhloideaa.QI
open Go.RowKit Go.Proofs.YtjjfjgdhloideaaW.PrintWords Go.Proofs.YtjjfjgdhloideaaW.PrintLast Go.Proofs.YtjjfjgdhloideaaW.PrintMore
attribute [local go_sem] max2_int min2_int max_two min_two max_three min_three max_four min_four   -- for this text's walks alone
set_option linter.unusedVariables false
set_option linter.unusedSimpArgs false
def laws_eqPartnerS.T6 : Bool × List (List Nat × List Nat) := (true, [([], []), ([], []), ([0, 1], [0, 1]), ([2], [2]), ([], []), ([], []), ([4, 5], [4, 5]), ([6], [6]), ([3, 7], [3, 7]), ([8], [8])])
def laws_eqPartnerS.B6 : List Nat := [0, 0, 3, 7, 0, 0, 48, 112, 255, 511]
theorem laws_eqPartnerS.tab6 : rtab .any (opsOf Try.f26 6) = laws_eqPartnerS.T6 := by kernel_rfl
theorem laws_eqPartnerS.bits6 : waitsOk laws_eqPartnerS.T6.2 laws_eqPartnerS.B6 = true := by kernel_rfl
set_option maxHeartbeats 8000000 in
set_option maxRecDepth 100000 in
theorem laws_eqPartnerS.calls (k:Nat) (A0:Option Addr) (c0:Nat) (l0:List (S92)) (A1:Option Addr) (c1:Nat) (l1:List (S92)) (r:Bool) (w:World) (hr0:Kd.C k92 w A0 l0.length l0) (hc0:l0.length≤c0) (hr1:Kd.C k92 w A1 l1.length l1) (hc1:l1.length≤c1) (h:laws_eqPartnerS.f k l0 l1=some r) :
  Calls Try.prog 26 #[.slice A0 l0.length c0,.slice A1 l1.length c1] w fun e w'=>e=.returned (.bool r)∧Below w.heap.size w w':=by
 have hu92:=Try.underlying92;have HR0:=am hr0;have HC0:=am hc0;clear hr0 hc0;have HR1:=am hr1;have HC1:=am hc1;clear hr1 hc1;have HB:=am (Below.refl w.heap.size w);have H:(if (l0.length:Int)=(l1.length:Int) then (laws_eqPartnerS.l0 k l0 l1 0) else (some false))=some r:=h;clear h
 by_cases c3:(l0.length:Int)=(l1.length:Int)
 ·rw [if_pos c3] at H;have c3b0:((l0.length:Int) == (l1.length:Int))=true:=beq_iff_eq.mpr c3;have c3b1:((l0.length:Int) != (l1.length:Int))=false:=bne_eq_false_iff_eq.mpr c3
  have c3b2:(l0.length == l1.length)=true:=by first|simpa using c3|(simp at c3 ⊢;omega)
  clear c3;have H':=am H;clear H
  go_enter Try.func26,Try.ntmps26
  go_wp2
  go_loopg [5] k (fun kq v5 w'=>∃ (x5_1:Int),v5=.int .i64 x5_1∧Aside0 (laws_eqPartnerS.l0 kq l0 l1 x5_1=some r)∧Aside0 (kq≤k)∧Aside0 (Below w.heap.size w w'))
  case atStart=>exact ⟨(0),fg,H',⟨Nat.le_refl _⟩,⟨bs HB⟩⟩
  case round =>
   clear H'
   try clear c1
   try clear c2
   try clear p2
   try clear c3
   try clear c3b0
   try clear c3b1
   try clear c3b2
   obtain ⟨x5_1,rfl,HA,HK1,HB⟩:=hrel
   cases gk with
   | zero=>exact absurd HA.out (by simp [laws_eqPartnerS.l0])
   | succ k1 =>
    have H:=HA.out;clear HA;simp only [laws_eqPartnerS.l0] at H
    by_cases c4:x5_1<(l0.length:Int)
    ·rw [if_pos c4] at H;have c4b0:decide (x5_1<(l0.length:Int))=true:=decide_eq_true c4;clear c4
     by_cases c5:0≤x5_1
     ·rw [if_pos c5] at H;have c5b0:decide (0≤x5_1)=true:=decide_eq_true c5;clear c5
      by_cases c6:x5_1<(l1.length:Int)
      ·rw [if_pos c6] at H;have c6b0:decide (x5_1<(l1.length:Int))=true:=decide_eq_true c6;clear c6;replace H:=Option.bind_eq_some_iff.mp H;obtain ⟨t441,A70,H⟩:=H;replace H:(if t441=true then (laws_eqPartnerS.l0 k1 l0 l1 (wrap64 (x5_1+1))) else (some false))=some r:=H;have A7:=am A70;clear A70
       by_cases c8:t441=true
       ·subst c8
        have H1:(laws_eqPartnerS.l0 k1 l0 l1 (wrap64 (x5_1+1)))=some r:=by rw [if_pos rfl] at H;exact H
        clear H;have H:=H1;clear H1;have H':=am H;clear H
        try go_wp2
        replace HB:=am (below_drew1 HB.out);have p439:0≤(x5_1:Int):=oa;have q439:x5_1<(l0.length:Int):=oa;obtain ⟨ad439,A439_3,c439_3,e439,hx439_0,hx439_1,hx439_2,hx439_3,hl439_3,hi439_3⟩:=at_T92 HR0.out x5_1 p439 q439;have hw439_3:=hx439_3;have hw439_2:=hx439_2;have hw439_1:=hx439_1;have hw439_0:=hx439_0
        cases e439
        replace hx439_0:=cb HB hx439_0;replace hx439_1:=cb HB hx439_1;replace hx439_2:=cb HB hx439_2;replace hx439_3:=cb HB hx439_3;have HR439_3:=am hi439_3;have HC439_3:=am hl439_3;clear hi439_3 hl439_3;replace p439:=eq_true p439;replace q439:=eq_true q439;have p440:0≤(x5_1:Int):=oa;have q440:x5_1<(l1.length:Int):=oa;obtain ⟨ad440,A440_3,c440_3,e440,hx440_0,hx440_1,hx440_2,hx440_3,hl440_3,hi440_3⟩:=at_T92 HR1.out x5_1 p440 q440;have hw440_3:=hx440_3;have hw440_2:=hx440_2;have hw440_1:=hx440_1;have hw440_0:=hx440_0
        cases e440
        replace hx440_0:=cb HB hx440_0;replace hx440_1:=cb HB hx440_1;replace hx440_2:=cb HB hx440_2;replace hx440_3:=cb HB hx440_3;have HR440_3:=am hi440_3;have HC440_3:=am hl440_3;clear hi440_3 hl440_3;replace p440:=eq_true p440;replace q440:=eq_true q440;refine start_ (n:=10) (S:=fun w'=>qe4a w' (ad439.add ((x5_1).toNat * 4)) (.string ((rd_T92 l0 x5_1).f0)) (.int .i64 ((rd_T92 l0 x5_1).f1)) (.int .i64 ((rd_T92 l0 x5_1).f2)) (.slice A439_3 ((rd_T92 l0 x5_1).f3).length c439_3) (qe4 w' (ad440.add ((x5_1).toNat * 4)) (.string ((rd_T92 l1 x5_1).f0)) (.int .i64 ((rd_T92 l1 x5_1).f1)) (.int .i64 ((rd_T92 l1 x5_1).f2)) (.slice A440_3 ((rd_T92 l1 x5_1).f3).length c440_3))) (ds:=[]) _ (by kernel_rfl) rfl rfl ⟨((cb HB hw439_0).trans rfl),((cb HB hw439_1).trans rfl),((cb HB hw439_2).trans rfl),((cb HB hw439_3).trans rfl),((cb HB hw440_0).trans rfl),((cb HB hw440_1).trans rfl),((cb HB hw440_2).trans rfl),((cb HB hw440_3).trans rfl)⟩ (fun hHeld=>?_);refine with_tabW laws_eqPartnerS.tab6 laws_eqPartnerS.bits6 (fun HT_ HW_=>?_)
        generalize wr.drew=w9 at HB HR439_3 HR440_3 hx439_0 hx439_1 hx439_2 hx439_3 hx440_0 hx440_1 hx440_2 hx440_3 hHeld ⊢
        refine pA 0 17 HT_ ?_;refine pA 1 18 HT_ ?_;refine pA 2 19 HT_ ?_;refine pA 4 21 HT_ ?_;refine pA 5 22 HT_ ?_;refine pA 6 23 HT_ ?_;refine tA 3 20 HT_ HW_ hHeld ?_;refine tA 7 24 HT_ HW_ hHeld ?_;refine oA 8 25 HT_ (fun K hK=>?_);refine gA Try.func70 #[.agg #[.string ((rd_T92 l0 x5_1).f0),.int .i64 ((rd_T92 l0 x5_1).f1),.int .i64 ((rd_T92 l0 x5_1).f2),.slice A439_3 ((rd_T92 l0 x5_1).f3).length c439_3],.agg #[.string ((rd_T92 l1 x5_1).f0),.int .i64 ((rd_T92 l1 x5_1).f1),.int .i64 ((rd_T92 l1 x5_1).f2),.slice A440_3 ((rd_T92 l1 x5_1).f3).length c440_3]] ?_;(with_reducible refine (laws_eqPartner.calls k1 ((rd_T92 l0 x5_1).f0) ((rd_T92 l0 x5_1).f1) ((rd_T92 l0 x5_1).f2) _ _ ((rd_T92 l0 x5_1).f3) ((rd_T92 l1 x5_1).f0) ((rd_T92 l1 x5_1).f1) ((rd_T92 l1 x5_1).f2) _ _ ((rd_T92 l1 x5_1).f3) true _ ?side1 ?side2 ?side3 ?side4 A7.out).mono ?_)
        (case side1=>repeat (first|exact (Kd.C_below HR439_3.out HB.out)|(with_reducible refine Kd.C_alloc ?_ _)|(with_reducible refine Kd.C_drewN ?_ _)|(with_reducible refine Kd.C_drew ?_)))
        (case side2=>exact HC439_3.out)
        (case side3=>repeat (first|exact (Kd.C_below HR440_3.out HB.out)|(with_reducible refine Kd.C_alloc ?_ _)|(with_reducible refine Kd.C_drewN ?_ _)|(with_reducible refine Kd.C_drew ?_)))
        (case side4=>exact HC440_3.out)
        rintro e w10 ⟨rfl,hb⟩;refine ⟨_,rfl,?_⟩;replace HB:=am (below_step (bs HB) hb);(try clear hb);(try clear hb2);(try clear hk);(try clear hi);refine hK.out _ _ ⟨((cb HB hw439_0).trans rfl),((cb HB hw439_1).trans rfl),((cb HB hw439_2).trans rfl),((cb HB hw439_3).trans rfl),((cb HB hw440_0).trans rfl),((cb HB hw440_1).trans rfl),((cb HB hw440_2).trans rfl),((cb HB hw440_3).trans rfl)⟩ (fun hHeld=>?_);clear hK K;refine nA 25 ?_;refine pA 9 26 HT_ ?_;refine done_ (done_of HT_.out (by kernel_rfl)) ?_
        try go_wp2
        go_roundg k1
        case measure=>have:=HK1.out;omega
        case rel=>exact ⟨(wrap64 (x5_1+1)),fg,H',⟨by have:=HK1.out;omega⟩,⟨bs HB⟩⟩
       ·replace c8:=Bool.eq_false_iff.mpr c8;subst c8
        have H1:(some false)=some r:=by rw [if_neg (show ¬ (false=true) by decide)] at H;exact H
        clear H;have H:=H1;clear H1;obtain rfl:=Option.some.inj H
        try go_wp2
        replace HB:=am (below_drew1 HB.out);have p439:0≤(x5_1:Int):=oa;have q439:x5_1<(l0.length:Int):=oa;obtain ⟨ad439,A439_3,c439_3,e439,hx439_0,hx439_1,hx439_2,hx439_3,hl439_3,hi439_3⟩:=at_T92 HR0.out x5_1 p439 q439;have hw439_3:=hx439_3;have hw439_2:=hx439_2;have hw439_1:=hx439_1;have hw439_0:=hx439_0
        cases e439
        replace hx439_0:=cb HB hx439_0;replace hx439_1:=cb HB hx439_1;replace hx439_2:=cb HB hx439_2;replace hx439_3:=cb HB hx439_3;have HR439_3:=am hi439_3;have HC439_3:=am hl439_3;clear hi439_3 hl439_3;replace p439:=eq_true p439;replace q439:=eq_true q439;have p440:0≤(x5_1:Int):=oa;have q440:x5_1<(l1.length:Int):=oa;obtain ⟨ad440,A440_3,c440_3,e440,hx440_0,hx440_1,hx440_2,hx440_3,hl440_3,hi440_3⟩:=at_T92 HR1.out x5_1 p440 q440;have hw440_3:=hx440_3;have hw440_2:=hx440_2;have hw440_1:=hx440_1;have hw440_0:=hx440_0
        cases e440
        replace hx440_0:=cb HB hx440_0;replace hx440_1:=cb HB hx440_1;replace hx440_2:=cb HB hx440_2;replace hx440_3:=cb HB hx440_3;have HR440_3:=am hi440_3;have HC440_3:=am hl440_3;clear hi440_3 hl440_3;replace p440:=eq_true p440;replace q440:=eq_true q440;refine start_ (n:=10) (S:=fun w'=>qe4a w' (ad439.add ((x5_1).toNat * 4)) (.string ((rd_T92 l0 x5_1).f0)) (.int .i64 ((rd_T92 l0 x5_1).f1)) (.int .i64 ((rd_T92 l0 x5_1).f2)) (.slice A439_3 ((rd_T92 l0 x5_1).f3).length c439_3) (qe4 w' (ad440.add ((x5_1).toNat * 4)) (.string ((rd_T92 l1 x5_1).f0)) (.int .i64 ((rd_T92 l1 x5_1).f1)) (.int .i64 ((rd_T92 l1 x5_1).f2)) (.slice A440_3 ((rd_T92 l1 x5_1).f3).length c440_3))) (ds:=[]) _ (by kernel_rfl) rfl rfl ⟨((cb HB hw439_0).trans rfl),((cb HB hw439_1).trans rfl),((cb HB hw439_2).trans rfl),((cb HB hw439_3).trans rfl),((cb HB hw440_0).trans rfl),((cb HB hw440_1).trans rfl),((cb HB hw440_2).trans rfl),((cb HB hw440_3).trans rfl)⟩ (fun hHeld=>?_);refine with_tabW laws_eqPartnerS.tab6 laws_eqPartnerS.bits6 (fun HT_ HW_=>?_)
        generalize wr.drew=w11 at HB HR439_3 HR440_3 hx439_0 hx439_1 hx439_2 hx439_3 hx440_0 hx440_1 hx440_2 hx440_3 hHeld ⊢
        refine pA 0 17 HT_ ?_;refine pA 1 18 HT_ ?_;refine pA 2 19 HT_ ?_;refine pA 4 21 HT_ ?_;refine pA 5 22 HT_ ?_;refine pA 6 23 HT_ ?_;refine tA 3 20 HT_ HW_ hHeld ?_;refine tA 7 24 HT_ HW_ hHeld ?_;refine oA 8 25 HT_ (fun K hK=>?_);refine gA Try.func70 #[.agg #[.string ((rd_T92 l0 x5_1).f0),.int .i64 ((rd_T92 l0 x5_1).f1),.int .i64 ((rd_T92 l0 x5_1).f2),.slice A439_3 ((rd_T92 l0 x5_1).f3).length c439_3],.agg #[.string ((rd_T92 l1 x5_1).f0),.int .i64 ((rd_T92 l1 x5_1).f1),.int .i64 ((rd_T92 l1 x5_1).f2),.slice A440_3 ((rd_T92 l1 x5_1).f3).length c440_3]] ?_;(with_reducible refine (laws_eqPartner.calls k1 ((rd_T92 l0 x5_1).f0) ((rd_T92 l0 x5_1).f1) ((rd_T92 l0 x5_1).f2) _ _ ((rd_T92 l0 x5_1).f3) ((rd_T92 l1 x5_1).f0) ((rd_T92 l1 x5_1).f1) ((rd_T92 l1 x5_1).f2) _ _ ((rd_T92 l1 x5_1).f3) false _ ?side1 ?side2 ?side3 ?side4 A7.out).mono ?_)
        (case side1=>repeat (first|exact (Kd.C_below HR439_3.out HB.out)|(with_reducible refine Kd.C_alloc ?_ _)|(with_reducible refine Kd.C_drewN ?_ _)|(with_reducible refine Kd.C_drew ?_)))
        (case side2=>exact HC439_3.out)
        (case side3=>repeat (first|exact (Kd.C_below HR440_3.out HB.out)|(with_reducible refine Kd.C_alloc ?_ _)|(with_reducible refine Kd.C_drewN ?_ _)|(with_reducible refine Kd.C_drew ?_)))
        (case side4=>exact HC440_3.out)
        rintro e w12 ⟨rfl,hb⟩;refine ⟨_,rfl,?_⟩;replace HB:=am (below_step (bs HB) hb);(try clear hb);(try clear hb2);(try clear hk);(try clear hi);refine hK.out _ _ ⟨((cb HB hw439_0).trans rfl),((cb HB hw439_1).trans rfl),((cb HB hw439_2).trans rfl),((cb HB hw439_3).trans rfl),((cb HB hw440_0).trans rfl),((cb HB hw440_1).trans rfl),((cb HB hw440_2).trans rfl),((cb HB hw440_3).trans rfl)⟩ (fun hHeld=>?_);clear hK K;refine nA 25 ?_;refine pA 9 26 HT_ ?_;refine done_ (done_of HT_.out (by kernel_rfl)) ?_
        try go_wp2
        go_ret
        exact ⟨ff,bs HB⟩
      ·rw [if_neg c6] at H
       exact absurd H (by simp)
     ·rw [if_neg c5] at H
      exact absurd H (by simp)
    ·rw [if_neg c4] at H;have c4b0:decide (x5_1<(l0.length:Int))=false:=decide_eq_false c4;clear c4;obtain rfl:=Option.some.inj H
     go_wp2
     go_ret
     exact ⟨ff,bs HB⟩
 ·rw [if_neg c3] at H;have c3b0:((l0.length:Int) == (l1.length:Int))=false:=beq_eq_false_iff_ne.mpr c3;have c3b1:((l0.length:Int) != (l1.length:Int))=true:=bne_iff_ne.mpr c3
  have c3b2:(l0.length == l1.length)=false:=by first|simpa using c3|(simp at c3 ⊢;omega)
  obtain rfl:=Option.some.inj H
  go_enter Try.func26,Try.ntmps26
  go_wp2
  go_ret
  exact ⟨ff,bs HB⟩
end Go.Proofs.Ytjjfjgdhloideaa.QI
namespace Go.Proofs.Ytjjfjgdhloideaa.QI
open Go.RowKit Go.Proofs.YtjjfjgdhloideaaW.PrintWords Go.Proofs.YtjjfjgdhloideaaW.PrintLast Go.Proofs.YtjjfjgdhloideaaW.PrintMore
attribute [local go_sem] max2_int min2_int max_two min_two max_three min_three max_four min_four   -- for this text's walks alone
set_option linter.unusedVariables false
set_option linter.unusedSimpArgs false
set_option maxHeartbeats 8000000 in
set_option maxRecDepth 100000 in
theorem laws_eqCross.calls (a0_0:ByteArray) (a0_1:ByteArray) (a0_2:ByteArray) (a1_0:ByteArray) (a1_1:ByteArray) (a1_2:ByteArray) (r:Bool) (w:World) (h:laws_eqCross.f a0_0 a0_1 a0_2 a1_0 a1_1 a1_2=some r) :
  Calls Try.prog 71 #[.agg #[.string a0_0,.string a0_1,.string a0_2],.agg #[.string a1_0,.string a1_1,.string a1_2]] w fun e w'=>e=.returned (.bool r)∧Below w.heap.size w w':=by
 have hu102:=Try.underlying102;have HB:=am (Below.refl w.heap.size w);have H:(if a0_0.toList=a1_0.toList then (if a0_1.toList=a1_1.toList then (if a0_2.toList=a1_2.toList then (some true) else (some false)) else (some false)) else (some false))=some r:=h;clear h
 by_cases c3:a0_0.toList=a1_0.toList
 ·rw [if_pos c3] at H;have c3b0:(a0_0.toList == a1_0.toList)=true:=beq_iff_eq.mpr c3;have c3b1:(a0_0.toList != a1_0.toList)=false:=bne_eq_false_iff_eq.mpr c3;clear c3
  by_cases c4:a0_1.toList=a1_1.toList
  ·rw [if_pos c4] at H;have c4b0:(a0_1.toList == a1_1.toList)=true:=beq_iff_eq.mpr c4;have c4b1:(a0_1.toList != a1_1.toList)=false:=bne_eq_false_iff_eq.mpr c4;clear c4
   by_cases c5:a0_2.toList=a1_2.toList
   ·rw [if_pos c5] at H;have c5b0:(a0_2.toList == a1_2.toList)=true:=beq_iff_eq.mpr c5;have c5b1:(a0_2.toList != a1_2.toList)=false:=bne_eq_false_iff_eq.mpr c5;clear c5;obtain rfl:=Option.some.inj H
    go_enter Try.func71,Try.ntmps71
    go_wp2_with (first|((with_reducible refine gate_dst (N:=2) rfl ?_);refine bx 2 (cs:=#[.string a0_0,.string a0_1,.string a0_2]) (t:=102) ?_;intro gb442 hg w6 hbox hb;have BK442:=am (hbox);have GW442:=am ((gs hg (bs HB)));have GE442:=am ((gs hg (bs HB)));replace HB:=am (below_step (bs HB) hb);clear hb hbox hg)|((with_reducible refine gate_dst (N:=3) rfl ?_);refine bx 3 (cs:=#[.string a1_0,.string a1_1,.string a1_2]) (t:=102) ?_;intro gb443 hg w7 hbox hb;have BK443:=am (hbox);have GW443:=am ((gs hg (bs HB)));have GE443:=am ((gs hg (bs HB)));replace HB:=am (below_step (bs HB) hb);have NB442_443:=am ((gn hg (ks BK442)));have NB443_442:=am ((gm hg (ks BK442)));replace BK442:=am (blk_below (ks BK442) hb);clear hb hbox hg;have hnb8:=NB442_443.out;have hnc8:=NB443_442.out;obtain ⟨hcz9_0,hcz9_1,hcz9_2,hfz9_0,hfz9_1,hfz9_2⟩:=cf3 BK442;obtain ⟨hcz10_0,hcz10_1,hcz10_2,hfz10_0,hfz10_1,hfz10_2⟩:=cf3 BK443))
    go_ret
    exact ⟨ff,bs HB⟩
   ·rw [if_neg c5] at H;have c5b0:(a0_2.toList == a1_2.toList)=false:=beq_eq_false_iff_ne.mpr c5;have c5b1:(a0_2.toList != a1_2.toList)=true:=bne_iff_ne.mpr c5;obtain rfl:=Option.some.inj H
    go_enter Try.func71,Try.ntmps71
    go_wp2_with (first|((with_reducible refine gate_dst (N:=2) rfl ?_);refine bx 2 (cs:=#[.string a0_0,.string a0_1,.string a0_2]) (t:=102) ?_;intro gb442 hg w11 hbox hb;have BK442:=am (hbox);have GW442:=am ((gs hg (bs HB)));have GE442:=am ((gs hg (bs HB)));replace HB:=am (below_step (bs HB) hb);clear hb hbox hg)|((with_reducible refine gate_dst (N:=3) rfl ?_);refine bx 3 (cs:=#[.string a1_0,.string a1_1,.string a1_2]) (t:=102) ?_;intro gb443 hg w12 hbox hb;have BK443:=am (hbox);have GW443:=am ((gs hg (bs HB)));have GE443:=am ((gs hg (bs HB)));replace HB:=am (below_step (bs HB) hb);have NB442_443:=am ((gn hg (ks BK442)));have NB443_442:=am ((gm hg (ks BK442)));replace BK442:=am (blk_below (ks BK442) hb);clear hb hbox hg;have hnb13:=NB442_443.out;have hnc13:=NB443_442.out;obtain ⟨hcz14_0,hcz14_1,hcz14_2,hfz14_0,hfz14_1,hfz14_2⟩:=cf3 BK442;obtain ⟨hcz15_0,hcz15_1,hcz15_2,hfz15_0,hfz15_1,hfz15_2⟩:=cf3 BK443))
    go_ret
    exact ⟨ff,bs HB⟩
  ·rw [if_neg c4] at H;have c4b0:(a0_1.toList == a1_1.toList)=false:=beq_eq_false_iff_ne.mpr c4;have c4b1:(a0_1.toList != a1_1.toList)=true:=bne_iff_ne.mpr c4;obtain rfl:=Option.some.inj H
   go_enter Try.func71,Try.ntmps71
   go_wp2_with (first|((with_reducible refine gate_dst (N:=2) rfl ?_);refine bx 2 (cs:=#[.string a0_0,.string a0_1,.string a0_2]) (t:=102) ?_;intro gb442 hg w16 hbox hb;have BK442:=am (hbox);have GW442:=am ((gs hg (bs HB)));have GE442:=am ((gs hg (bs HB)));replace HB:=am (below_step (bs HB) hb);clear hb hbox hg)|((with_reducible refine gate_dst (N:=3) rfl ?_);refine bx 3 (cs:=#[.string a1_0,.string a1_1,.string a1_2]) (t:=102) ?_;intro gb443 hg w17 hbox hb;have BK443:=am (hbox);have GW443:=am ((gs hg (bs HB)));have GE443:=am ((gs hg (bs HB)));replace HB:=am (below_step (bs HB) hb);have NB442_443:=am ((gn hg (ks BK442)));have NB443_442:=am ((gm hg (ks BK442)));replace BK442:=am (blk_below (ks BK442) hb);clear hb hbox hg;have hnb18:=NB442_443.out;have hnc18:=NB443_442.out;obtain ⟨hcz19_0,hcz19_1,hcz19_2,hfz19_0,hfz19_1,hfz19_2⟩:=cf3 BK442;obtain ⟨hcz20_0,hcz20_1,hcz20_2,hfz20_0,hfz20_1,hfz20_2⟩:=cf3 BK443))
   go_ret
   exact ⟨ff,bs HB⟩
 ·rw [if_neg c3] at H;have c3b0:(a0_0.toList == a1_0.toList)=false:=beq_eq_false_iff_ne.mpr c3;have c3b1:(a0_0.toList != a1_0.toList)=true:=bne_iff_ne.mpr c3;obtain rfl:=Option.some.inj H
  go_enter Try.func71,Try.ntmps71
  go_wp2_with (first|((with_reducible refine gate_dst (N:=2) rfl ?_);refine bx 2 (cs:=#[.string a0_0,.string a0_1,.string a0_2]) (t:=102) ?_;intro gb442 hg w21 hbox hb;have BK442:=am (hbox);have GW442:=am ((gs hg (bs HB)));have GE442:=am ((gs hg (bs HB)));replace HB:=am (below_step (bs HB) hb);clear hb hbox hg)|((with_reducible refine gate_dst (N:=3) rfl ?_);refine bx 3 (cs:=#[.string a1_0,.string a1_1,.string a1_2]) (t:=102) ?_;intro gb443 hg w22 hbox hb;have BK443:=am (hbox);have GW443:=am ((gs hg (bs HB)));have GE443:=am ((gs hg (bs HB)));replace HB:=am (below_step (bs HB) hb);have NB442_443:=am ((gn hg (ks BK442)));have NB443_442:=am ((gm hg (ks BK442)));replace BK442:=am (blk_below (ks BK442) hb);clear hb hbox hg;have hnb23:=NB442_443.out;have hnc23:=NB443_442.out;obtain ⟨hcz24_0,hcz24_1,hcz24_2,hfz24_0,hfz24_1,hfz24_2⟩:=cf3 BK442;obtain ⟨hcz25_0,hcz25_1,hcz25_2,hfz25_0,hfz25_1,hfz25_2⟩:=cf3 BK443))
  go_ret
  exact ⟨ff,bs HB⟩
end Go.Proofs.Ytjjfjgdhloideaa.QI
namespace Go.Proofs.Ytjjfjgdhloideaa.QI
open Go.RowKit Go.Proofs.YtjjfjgdhloideaaW.PrintWords Go.Proofs.YtjjfjgdhloideaaW.PrintLast Go.Proofs.YtjjfjgdhloideaaW.PrintMore
attribute [local go_sem] max2_int min2_int max_two min_two max_three min_three max_four min_four   -- for this text's walks alone
set_option linter.unusedVariables false
set_option linter.unusedSimpArgs false
def laws_eqCrossS.T6 : Bool × List (List Nat × List Nat) := (true, [([], []), ([], []), ([0, 1], [0, 1]), ([2], [2]), ([], []), ([], []), ([4, 5], [4, 5]), ([6], [6]), ([3, 7], [3, 7]), ([8], [8])])
def laws_eqCrossS.B6 : List Nat := [0, 0, 3, 7, 0, 0, 48, 112, 255, 511]
theorem laws_eqCrossS.tab6 : rtab .any (opsOf Try.f27 6) = laws_eqCrossS.T6 := by kernel_rfl
theorem laws_eqCrossS.bits6 : waitsOk laws_eqCrossS.T6.2 laws_eqCrossS.B6 = true := by kernel_rfl
set_option maxHeartbeats 8000000 in
set_option maxRecDepth 100000 in
theorem laws_eqCrossS.calls (k:Nat) (A0:Option Addr) (c0:Nat) (l0:List (S102)) (A1:Option Addr) (c1:Nat) (l1:List (S102)) (r:Bool) (w:World) (hr0:Kd.C k102 w A0 l0.length l0) (hc0:l0.length≤c0) (hr1:Kd.C k102 w A1 l1.length l1) (hc1:l1.length≤c1) (h:laws_eqCrossS.f k l0 l1=some r) :
  Calls Try.prog 27 #[.slice A0 l0.length c0,.slice A1 l1.length c1] w fun e w'=>e=.returned (.bool r)∧Below w.heap.size w w':=by
 have hu102:=Try.underlying102;have HR0:=am hr0;have HC0:=am hc0;clear hr0 hc0;have HR1:=am hr1;have HC1:=am hc1;clear hr1 hc1;have HB:=am (Below.refl w.heap.size w);have H:(if (l0.length:Int)=(l1.length:Int) then (laws_eqCrossS.l0 k l0 l1 0) else (some false))=some r:=h;clear h
 by_cases c3:(l0.length:Int)=(l1.length:Int)
 ·rw [if_pos c3] at H;have c3b0:((l0.length:Int) == (l1.length:Int))=true:=beq_iff_eq.mpr c3;have c3b1:((l0.length:Int) != (l1.length:Int))=false:=bne_eq_false_iff_eq.mpr c3
  have c3b2:(l0.length == l1.length)=true:=by first|simpa using c3|(simp at c3 ⊢;omega)
  clear c3;have H':=am H;clear H
  go_enter Try.func27,Try.ntmps27
  go_wp2
  go_loopg [5] k (fun kq v5 w'=>∃ (x5_1:Int),v5=.int .i64 x5_1∧Aside0 (laws_eqCrossS.l0 kq l0 l1 x5_1=some r)∧Aside0 (kq≤k)∧Aside0 (Below w.heap.size w w'))
  case atStart=>exact ⟨(0),fg,H',⟨Nat.le_refl _⟩,⟨bs HB⟩⟩
  case round =>
   clear H'
   try clear c1
   try clear c2
   try clear p2
   try clear c3
   try clear c3b0
   try clear c3b1
   try clear c3b2
   obtain ⟨x5_1,rfl,HA,HK1,HB⟩:=hrel
   cases gk with
   | zero=>exact absurd HA.out (by simp [laws_eqCrossS.l0])
   | succ k1 =>
    have H:=HA.out;clear HA;simp only [laws_eqCrossS.l0] at H
    by_cases c4:x5_1<(l0.length:Int)
    ·rw [if_pos c4] at H;have c4b0:decide (x5_1<(l0.length:Int))=true:=decide_eq_true c4;clear c4
     by_cases c5:0≤x5_1
     ·rw [if_pos c5] at H;have c5b0:decide (0≤x5_1)=true:=decide_eq_true c5;clear c5
      by_cases c6:x5_1<(l1.length:Int)
      ·rw [if_pos c6] at H;have c6b0:decide (x5_1<(l1.length:Int))=true:=decide_eq_true c6;clear c6;replace H:=Option.bind_eq_some_iff.mp H;obtain ⟨t446,A70,H⟩:=H;replace H:(if t446=true then (laws_eqCrossS.l0 k1 l0 l1 (wrap64 (x5_1+1))) else (some false))=some r:=H;have A7:=am A70;clear A70
       by_cases c8:t446=true
       ·subst c8
        have H1:(laws_eqCrossS.l0 k1 l0 l1 (wrap64 (x5_1+1)))=some r:=by rw [if_pos rfl] at H;exact H
        clear H;have H:=H1;clear H1;have H':=am H;clear H
        try go_wp2
        replace HB:=am (below_drew1 HB.out);have p444:0≤(x5_1:Int):=oa;have q444:x5_1<(l0.length:Int):=oa;obtain ⟨ad444,e444,hx444_0,hx444_1,hx444_2⟩:=at_T102 HR0.out x5_1 p444 q444;have hw444_2:=hx444_2;have hw444_1:=hx444_1;have hw444_0:=hx444_0
        cases e444
        replace hx444_0:=cb HB hx444_0;replace hx444_1:=cb HB hx444_1;replace hx444_2:=cb HB hx444_2;replace p444:=eq_true p444;replace q444:=eq_true q444;have p445:0≤(x5_1:Int):=oa;have q445:x5_1<(l1.length:Int):=oa;obtain ⟨ad445,e445,hx445_0,hx445_1,hx445_2⟩:=at_T102 HR1.out x5_1 p445 q445;have hw445_2:=hx445_2;have hw445_1:=hx445_1;have hw445_0:=hx445_0
        cases e445
        replace hx445_0:=cb HB hx445_0;replace hx445_1:=cb HB hx445_1;replace hx445_2:=cb HB hx445_2;replace p445:=eq_true p445;replace q445:=eq_true q445;refine start_ (n:=10) (S:=fun w'=>qe3a w' (ad444.add ((x5_1).toNat * 3)) (.string ((rd_T102 l0 x5_1).f0)) (.string ((rd_T102 l0 x5_1).f1)) (.string ((rd_T102 l0 x5_1).f2)) (qe3 w' (ad445.add ((x5_1).toNat * 3)) (.string ((rd_T102 l1 x5_1).f0)) (.string ((rd_T102 l1 x5_1).f1)) (.string ((rd_T102 l1 x5_1).f2)))) (ds:=[]) _ (by kernel_rfl) rfl rfl ⟨((cb HB hw444_0).trans rfl),((cb HB hw444_1).trans rfl),((cb HB hw444_2).trans rfl),((cb HB hw445_0).trans rfl),((cb HB hw445_1).trans rfl),((cb HB hw445_2).trans rfl)⟩ (fun hHeld=>?_);refine with_tabW laws_eqCrossS.tab6 laws_eqCrossS.bits6 (fun HT_ HW_=>?_)
        generalize wr.drew=w9 at HB hx444_0 hx444_1 hx444_2 hx445_0 hx445_1 hx445_2 hHeld ⊢
        refine pA 0 17 HT_ ?_;refine pA 1 18 HT_ ?_;refine pA 2 19 HT_ ?_;refine pA 4 21 HT_ ?_;refine pA 5 22 HT_ ?_;refine pA 6 23 HT_ ?_;refine tA 3 20 HT_ HW_ hHeld ?_;refine tA 7 24 HT_ HW_ hHeld ?_;refine oA 8 25 HT_ (fun K hK=>?_);refine gA Try.func71 #[.agg #[.string ((rd_T102 l0 x5_1).f0),.string ((rd_T102 l0 x5_1).f1),.string ((rd_T102 l0 x5_1).f2)],.agg #[.string ((rd_T102 l1 x5_1).f0),.string ((rd_T102 l1 x5_1).f1),.string ((rd_T102 l1 x5_1).f2)]] ?_;(with_reducible refine (laws_eqCross.calls ((rd_T102 l0 x5_1).f0) ((rd_T102 l0 x5_1).f1) ((rd_T102 l0 x5_1).f2) ((rd_T102 l1 x5_1).f0) ((rd_T102 l1 x5_1).f1) ((rd_T102 l1 x5_1).f2) true _ A7.out).mono ?_);rintro e w10 ⟨rfl,hb⟩;refine ⟨_,rfl,?_⟩;replace HB:=am (below_step (bs HB) hb);(try clear hb);(try clear hb2);(try clear hk);(try clear hi);refine hK.out _ _ ⟨((cb HB hw444_0).trans rfl),((cb HB hw444_1).trans rfl),((cb HB hw444_2).trans rfl),((cb HB hw445_0).trans rfl),((cb HB hw445_1).trans rfl),((cb HB hw445_2).trans rfl)⟩ (fun hHeld=>?_);clear hK K;refine nA 25 ?_;refine pA 9 26 HT_ ?_;refine done_ (done_of HT_.out (by kernel_rfl)) ?_
        try go_wp2
        go_roundg k1
        case measure=>have:=HK1.out;omega
        case rel=>exact ⟨(wrap64 (x5_1+1)),fg,H',⟨by have:=HK1.out;omega⟩,⟨bs HB⟩⟩
       ·replace c8:=Bool.eq_false_iff.mpr c8;subst c8
        have H1:(some false)=some r:=by rw [if_neg (show ¬ (false=true) by decide)] at H;exact H
        clear H;have H:=H1;clear H1;obtain rfl:=Option.some.inj H
        try go_wp2
        replace HB:=am (below_drew1 HB.out);have p444:0≤(x5_1:Int):=oa;have q444:x5_1<(l0.length:Int):=oa;obtain ⟨ad444,e444,hx444_0,hx444_1,hx444_2⟩:=at_T102 HR0.out x5_1 p444 q444;have hw444_2:=hx444_2;have hw444_1:=hx444_1;have hw444_0:=hx444_0
        cases e444
        replace hx444_0:=cb HB hx444_0;replace hx444_1:=cb HB hx444_1;replace hx444_2:=cb HB hx444_2;replace p444:=eq_true p444;replace q444:=eq_true q444;have p445:0≤(x5_1:Int):=oa;have q445:x5_1<(l1.length:Int):=oa;obtain ⟨ad445,e445,hx445_0,hx445_1,hx445_2⟩:=at_T102 HR1.out x5_1 p445 q445;have hw445_2:=hx445_2;have hw445_1:=hx445_1;have hw445_0:=hx445_0
        cases e445
        replace hx445_0:=cb HB hx445_0;replace hx445_1:=cb HB hx445_1;replace hx445_2:=cb HB hx445_2;replace p445:=eq_true p445;replace q445:=eq_true q445;refine start_ (n:=10) (S:=fun w'=>qe3a w' (ad444.add ((x5_1).toNat * 3)) (.string ((rd_T102 l0 x5_1).f0)) (.string ((rd_T102 l0 x5_1).f1)) (.string ((rd_T102 l0 x5_1).f2)) (qe3 w' (ad445.add ((x5_1).toNat * 3)) (.string ((rd_T102 l1 x5_1).f0)) (.string ((rd_T102 l1 x5_1).f1)) (.string ((rd_T102 l1 x5_1).f2)))) (ds:=[]) _ (by kernel_rfl) rfl rfl ⟨((cb HB hw444_0).trans rfl),((cb HB hw444_1).trans rfl),((cb HB hw444_2).trans rfl),((cb HB hw445_0).trans rfl),((cb HB hw445_1).trans rfl),((cb HB hw445_2).trans rfl)⟩ (fun hHeld=>?_);refine with_tabW laws_eqCrossS.tab6 laws_eqCrossS.bits6 (fun HT_ HW_=>?_)
        generalize wr.drew=w11 at HB hx444_0 hx444_1 hx444_2 hx445_0 hx445_1 hx445_2 hHeld ⊢
        refine pA 0 17 HT_ ?_;refine pA 1 18 HT_ ?_;refine pA 2 19 HT_ ?_;refine pA 4 21 HT_ ?_;refine pA 5 22 HT_ ?_;refine pA 6 23 HT_ ?_;refine tA 3 20 HT_ HW_ hHeld ?_;refine tA 7 24 HT_ HW_ hHeld ?_;refine oA 8 25 HT_ (fun K hK=>?_);refine gA Try.func71 #[.agg #[.string ((rd_T102 l0 x5_1).f0),.string ((rd_T102 l0 x5_1).f1),.string ((rd_T102 l0 x5_1).f2)],.agg #[.string ((rd_T102 l1 x5_1).f0),.string ((rd_T102 l1 x5_1).f1),.string ((rd_T102 l1 x5_1).f2)]] ?_;(with_reducible refine (laws_eqCross.calls ((rd_T102 l0 x5_1).f0) ((rd_T102 l0 x5_1).f1) ((rd_T102 l0 x5_1).f2) ((rd_T102 l1 x5_1).f0) ((rd_T102 l1 x5_1).f1) ((rd_T102 l1 x5_1).f2) false _ A7.out).mono ?_);rintro e w12 ⟨rfl,hb⟩;refine ⟨_,rfl,?_⟩;replace HB:=am (below_step (bs HB) hb);(try clear hb);(try clear hb2);(try clear hk);(try clear hi);refine hK.out _ _ ⟨((cb HB hw444_0).trans rfl),((cb HB hw444_1).trans rfl),((cb HB hw444_2).trans rfl),((cb HB hw445_0).trans rfl),((cb HB hw445_1).trans rfl),((cb HB hw445_2).trans rfl)⟩ (fun hHeld=>?_);clear hK K;refine nA 25 ?_;refine pA 9 26 HT_ ?_;refine done_ (done_of HT_.out (by kernel_rfl)) ?_
        try go_wp2
        go_ret
        exact ⟨ff,bs HB⟩
      ·rw [if_neg c6] at H
       exact absurd H (by simp)
     ·rw [if_neg c5] at H
      exact absurd H (by simp)
    ·rw [if_neg c4] at H;have c4b0:decide (x5_1<(l0.length:Int))=false:=decide_eq_false c4;clear c4;obtain rfl:=Option.some.inj H
     go_wp2
     go_ret
     exact ⟨ff,bs HB⟩
 ·rw [if_neg c3] at H;have c3b0:((l0.length:Int) == (l1.length:Int))=false:=beq_eq_false_iff_ne.mpr c3;have c3b1:((l0.length:Int) != (l1.length:Int))=true:=bne_iff_ne.mpr c3
  have c3b2:(l0.length == l1.length)=false:=by first|simpa using c3|(simp at c3 ⊢;omega)
  obtain rfl:=Option.some.inj H
  go_enter Try.func27,Try.ntmps27
  go_wp2
  go_ret
  exact ⟨ff,bs HB⟩
end Go.Proofs.Ytjjfjgdhloideaa.QI
namespace Go.Proofs.Ytjjfjgdhloideaa.QI
open Go.RowKit Go.Proofs.YtjjfjgdhloideaaW.PrintWords Go.Proofs.YtjjfjgdhloideaaW.PrintLast Go.Proofs.YtjjfjgdhloideaaW.PrintMore
attribute [local go_sem] max2_int min2_int max_two min_two max_three min_three max_four min_four   -- for this text's walks alone
set_option linter.unusedVariables false
set_option linter.unusedSimpArgs false
set_option maxHeartbeats 8000000 in
set_option maxRecDepth 100000 in
theorem laws_eqStock.calls (a0_0:ByteArray) (a0_1:Int) (a1_0:ByteArray) (a1_1:Int) (r:Bool) (w:World) (h:laws_eqStock.f a0_0 a0_1 a1_0 a1_1=some r) :
  Calls Try.prog 86 #[.agg #[.string a0_0,.int .i64 a0_1],.agg #[.string a1_0,.int .i64 a1_1]] w fun e w'=>e=.returned (.bool r)∧Below w.heap.size w w':=by
 have hu71:=Try.underlying71;have HB:=am (Below.refl w.heap.size w);have H:(if a0_0.toList=a1_0.toList then (if a0_1=a1_1 then (some true) else (some false)) else (some false))=some r:=h;clear h
 by_cases c3:a0_0.toList=a1_0.toList
 ·rw [if_pos c3] at H;have c3b0:(a0_0.toList == a1_0.toList)=true:=beq_iff_eq.mpr c3;have c3b1:(a0_0.toList != a1_0.toList)=false:=bne_eq_false_iff_eq.mpr c3;clear c3
  by_cases c4:a0_1=a1_1
  ·rw [if_pos c4] at H;have c4b0:(a0_1 == a1_1)=true:=beq_iff_eq.mpr c4;have c4b1:(a0_1 != a1_1)=false:=bne_eq_false_iff_eq.mpr c4;clear c4;obtain rfl:=Option.some.inj H
   go_enter Try.func86,Try.ntmps86
   go_wp2_with (first|((with_reducible refine gate_dst (N:=2) rfl ?_);refine bx 2 (cs:=#[.string a0_0,.int .i64 a0_1]) (t:=71) ?_;intro gb447 hg w5 hbox hb;have BK447:=am (hbox);have GW447:=am ((gs hg (bs HB)));have GE447:=am ((gs hg (bs HB)));replace HB:=am (below_step (bs HB) hb);clear hb hbox hg)|((with_reducible refine gate_dst (N:=3) rfl ?_);refine bx 3 (cs:=#[.string a1_0,.int .i64 a1_1]) (t:=71) ?_;intro gb448 hg w6 hbox hb;have BK448:=am (hbox);have GW448:=am ((gs hg (bs HB)));have GE448:=am ((gs hg (bs HB)));replace HB:=am (below_step (bs HB) hb);have NB447_448:=am ((gn hg (ks BK447)));have NB448_447:=am ((gm hg (ks BK447)));replace BK447:=am (blk_below (ks BK447) hb);clear hb hbox hg;have hnb7:=NB447_448.out;have hnc7:=NB448_447.out;obtain ⟨hcz8_0,hcz8_1,hfz8_0,hfz8_1⟩:=cf2 BK447;obtain ⟨hcz9_0,hcz9_1,hfz9_0,hfz9_1⟩:=cf2 BK448))
   go_ret
   exact ⟨ff,bs HB⟩
  ·rw [if_neg c4] at H;have c4b0:(a0_1 == a1_1)=false:=beq_eq_false_iff_ne.mpr c4;have c4b1:(a0_1 != a1_1)=true:=bne_iff_ne.mpr c4;obtain rfl:=Option.some.inj H
   go_enter Try.func86,Try.ntmps86
   go_wp2_with (first|((with_reducible refine gate_dst (N:=2) rfl ?_);refine bx 2 (cs:=#[.string a0_0,.int .i64 a0_1]) (t:=71) ?_;intro gb447 hg w10 hbox hb;have BK447:=am (hbox);have GW447:=am ((gs hg (bs HB)));have GE447:=am ((gs hg (bs HB)));replace HB:=am (below_step (bs HB) hb);clear hb hbox hg)|((with_reducible refine gate_dst (N:=3) rfl ?_);refine bx 3 (cs:=#[.string a1_0,.int .i64 a1_1]) (t:=71) ?_;intro gb448 hg w11 hbox hb;have BK448:=am (hbox);have GW448:=am ((gs hg (bs HB)));have GE448:=am ((gs hg (bs HB)));replace HB:=am (below_step (bs HB) hb);have NB447_448:=am ((gn hg (ks BK447)));have NB448_447:=am ((gm hg (ks BK447)));replace BK447:=am (blk_below (ks BK447) hb);clear hb hbox hg;have hnb12:=NB447_448.out;have hnc12:=NB448_447.out;obtain ⟨hcz13_0,hcz13_1,hfz13_0,hfz13_1⟩:=cf2 BK447;obtain ⟨hcz14_0,hcz14_1,hfz14_0,hfz14_1⟩:=cf2 BK448))
   go_ret
   exact ⟨ff,bs HB⟩
 ·rw [if_neg c3] at H;have c3b0:(a0_0.toList == a1_0.toList)=false:=beq_eq_false_iff_ne.mpr c3;have c3b1:(a0_0.toList != a1_0.toList)=true:=bne_iff_ne.mpr c3;obtain rfl:=Option.some.inj H
  go_enter Try.func86,Try.ntmps86
  go_wp2_with (first|((with_reducible refine gate_dst (N:=2) rfl ?_);refine bx 2 (cs:=#[.string a0_0,.int .i64 a0_1]) (t:=71) ?_;intro gb447 hg w15 hbox hb;have BK447:=am (hbox);have GW447:=am ((gs hg (bs HB)));have GE447:=am ((gs hg (bs HB)));replace HB:=am (below_step (bs HB) hb);clear hb hbox hg)|((with_reducible refine gate_dst (N:=3) rfl ?_);refine bx 3 (cs:=#[.string a1_0,.int .i64 a1_1]) (t:=71) ?_;intro gb448 hg w16 hbox hb;have BK448:=am (hbox);have GW448:=am ((gs hg (bs HB)));have GE448:=am ((gs hg (bs HB)));replace HB:=am (below_step (bs HB) hb);have NB447_448:=am ((gn hg (ks BK447)));have NB448_447:=am ((gm hg (ks BK447)));replace BK447:=am (blk_below (ks BK447) hb);clear hb hbox hg;have hnb17:=NB447_448.out;have hnc17:=NB448_447.out;obtain ⟨hcz18_0,hcz18_1,hfz18_0,hfz18_1⟩:=cf2 BK447;obtain ⟨hcz19_0,hcz19_1,hfz19_0,hfz19_1⟩:=cf2 BK448))
  go_ret
  exact ⟨ff,bs HB⟩
end Go.Proofs.Ytjjfjgdhloideaa.QI
namespace Go.Proofs.Ytjjfjgdhloideaa.QI
open Go.RowKit Go.Proofs.YtjjfjgdhloideaaW.PrintWords Go.Proofs.YtjjfjgdhloideaaW.PrintLast Go.Proofs.YtjjfjgdhloideaaW.PrintMore
attribute [local go_sem] max2_int min2_int max_two min_two max_three min_three max_four min_four   -- for this text's walks alone
set_option linter.unusedVariables false
set_option linter.unusedSimpArgs false
def laws_eqStockS.T6 : Bool × List (List Nat × List Nat) := (true, [([], []), ([], []), ([0, 1], [0, 1]), ([2], [2]), ([], []), ([], []), ([4, 5], [4, 5]), ([6], [6]), ([3, 7], [3, 7]), ([8], [8])])
def laws_eqStockS.B6 : List Nat := [0, 0, 3, 7, 0, 0, 48, 112, 255, 511]
theorem laws_eqStockS.tab6 : rtab .any (opsOf Try.f46 6) = laws_eqStockS.T6 := by kernel_rfl
theorem laws_eqStockS.bits6 : waitsOk laws_eqStockS.T6.2 laws_eqStockS.B6 = true := by kernel_rfl
set_option maxHeartbeats 8000000 in
set_option maxRecDepth 100000 in
theorem laws_eqStockS.calls (k:Nat) (A0:Option Addr) (c0:Nat) (l0:List (S71)) (A1:Option Addr) (c1:Nat) (l1:List (S71)) (r:Bool) (w:World) (hr0:Kd.C k71 w A0 l0.length l0) (hc0:l0.length≤c0) (hr1:Kd.C k71 w A1 l1.length l1) (hc1:l1.length≤c1) (h:laws_eqStockS.f k l0 l1=some r) :
  Calls Try.prog 46 #[.slice A0 l0.length c0,.slice A1 l1.length c1] w fun e w'=>e=.returned (.bool r)∧Below w.heap.size w w':=by
 have hu71:=Try.underlying71;have HR0:=am hr0;have HC0:=am hc0;clear hr0 hc0;have HR1:=am hr1;have HC1:=am hc1;clear hr1 hc1;have HB:=am (Below.refl w.heap.size w);have H:(if (l0.length:Int)=(l1.length:Int) then (laws_eqStockS.l0 k l0 l1 0) else (some false))=some r:=h;clear h
 by_cases c3:(l0.length:Int)=(l1.length:Int)
 ·rw [if_pos c3] at H;have c3b0:((l0.length:Int) == (l1.length:Int))=true:=beq_iff_eq.mpr c3;have c3b1:((l0.length:Int) != (l1.length:Int))=false:=bne_eq_false_iff_eq.mpr c3
  have c3b2:(l0.length == l1.length)=true:=by first|simpa using c3|(simp at c3 ⊢;omega)
  clear c3;have H':=am H;clear H
  go_enter Try.func46,Try.ntmps46
  go_wp2
  go_loopg [5] k (fun kq v5 w'=>∃ (x5_1:Int),v5=.int .i64 x5_1∧Aside0 (laws_eqStockS.l0 kq l0 l1 x5_1=some r)∧Aside0 (kq≤k)∧Aside0 (Below w.heap.size w w'))
  case atStart=>exact ⟨(0),fg,H',⟨Nat.le_refl _⟩,⟨bs HB⟩⟩
  case round =>
   clear H'
   try clear c1
   try clear p2
   try clear c3
   try clear c3b0
   try clear c3b1
   try clear c3b2
   obtain ⟨x5_1,rfl,HA,HK1,HB⟩:=hrel
   cases gk with
   | zero=>exact absurd HA.out (by simp [laws_eqStockS.l0])
   | succ k1 =>
    have H:=HA.out;clear HA;simp only [laws_eqStockS.l0] at H
    by_cases c4:x5_1<(l0.length:Int)
    ·rw [if_pos c4] at H;have c4b0:decide (x5_1<(l0.length:Int))=true:=decide_eq_true c4;clear c4
     by_cases c5:0≤x5_1
     ·rw [if_pos c5] at H;have c5b0:decide (0≤x5_1)=true:=decide_eq_true c5;clear c5
      by_cases c6:x5_1<(l1.length:Int)
      ·rw [if_pos c6] at H;have c6b0:decide (x5_1<(l1.length:Int))=true:=decide_eq_true c6;clear c6;replace H:=Option.bind_eq_some_iff.mp H;obtain ⟨t451,A70,H⟩:=H;replace H:(if t451=true then (laws_eqStockS.l0 k1 l0 l1 (wrap64 (x5_1+1))) else (some false))=some r:=H;have A7:=am A70;clear A70
       by_cases c8:t451=true
       ·subst c8
        have H1:(laws_eqStockS.l0 k1 l0 l1 (wrap64 (x5_1+1)))=some r:=by rw [if_pos rfl] at H;exact H
        clear H;have H:=H1;clear H1;have H':=am H;clear H
        try go_wp2
        replace HB:=am (below_drew1 HB.out);have p449:0≤(x5_1:Int):=oa;have q449:x5_1<(l0.length:Int):=oa;obtain ⟨ad449,e449,hx449_0,hx449_1⟩:=at_T71 HR0.out x5_1 p449 q449;have hw449_1:=hx449_1;have hw449_0:=hx449_0
        cases e449
        replace hx449_0:=cb HB hx449_0;replace hx449_1:=cb HB hx449_1;replace p449:=eq_true p449;replace q449:=eq_true q449;have p450:0≤(x5_1:Int):=oa;have q450:x5_1<(l1.length:Int):=oa;obtain ⟨ad450,e450,hx450_0,hx450_1⟩:=at_T71 HR1.out x5_1 p450 q450;have hw450_1:=hx450_1;have hw450_0:=hx450_0
        cases e450
        replace hx450_0:=cb HB hx450_0;replace hx450_1:=cb HB hx450_1;replace p450:=eq_true p450;replace q450:=eq_true q450;refine start_ (n:=10) (S:=fun w'=>qe2a w' (ad449.add ((x5_1).toNat * 2)) (.string ((rd_T71 l0 x5_1).f0)) (.int .i64 ((rd_T71 l0 x5_1).f1)) (qe2 w' (ad450.add ((x5_1).toNat * 2)) (.string ((rd_T71 l1 x5_1).f0)) (.int .i64 ((rd_T71 l1 x5_1).f1)))) (ds:=[]) _ (by kernel_rfl) rfl rfl ⟨((cb HB hw449_0).trans rfl),((cb HB hw449_1).trans rfl),((cb HB hw450_0).trans rfl),((cb HB hw450_1).trans rfl)⟩ (fun hHeld=>?_);refine with_tabW laws_eqStockS.tab6 laws_eqStockS.bits6 (fun HT_ HW_=>?_)
        generalize wr.drew=w9 at HB hx449_0 hx449_1 hx450_0 hx450_1 hHeld ⊢
        refine pA 0 17 HT_ ?_;refine pA 1 18 HT_ ?_;refine pA 2 19 HT_ ?_;refine pA 4 21 HT_ ?_;refine pA 5 22 HT_ ?_;refine pA 6 23 HT_ ?_;refine tA 3 20 HT_ HW_ hHeld ?_;refine tA 7 24 HT_ HW_ hHeld ?_;refine oA 8 25 HT_ (fun K hK=>?_);refine gA Try.func86 #[.agg #[.string ((rd_T71 l0 x5_1).f0),.int .i64 ((rd_T71 l0 x5_1).f1)],.agg #[.string ((rd_T71 l1 x5_1).f0),.int .i64 ((rd_T71 l1 x5_1).f1)]] ?_;(with_reducible refine (laws_eqStock.calls ((rd_T71 l0 x5_1).f0) ((rd_T71 l0 x5_1).f1) ((rd_T71 l1 x5_1).f0) ((rd_T71 l1 x5_1).f1) true _ A7.out).mono ?_);rintro e w10 ⟨rfl,hb⟩;refine ⟨_,rfl,?_⟩;replace HB:=am (below_step (bs HB) hb);(try clear hb);(try clear hb2);(try clear hk);(try clear hi);refine hK.out _ _ ⟨((cb HB hw449_0).trans rfl),((cb HB hw449_1).trans rfl),((cb HB hw450_0).trans rfl),((cb HB hw450_1).trans rfl)⟩ (fun hHeld=>?_);clear hK K;refine nA 25 ?_;refine pA 9 26 HT_ ?_;refine done_ (done_of HT_.out (by kernel_rfl)) ?_
        try go_wp2
        go_roundg k1
        case measure=>have:=HK1.out;omega
        case rel=>exact ⟨(wrap64 (x5_1+1)),fg,H',⟨by have:=HK1.out;omega⟩,⟨bs HB⟩⟩
       ·replace c8:=Bool.eq_false_iff.mpr c8;subst c8
        have H1:(some false)=some r:=by rw [if_neg (show ¬ (false=true) by decide)] at H;exact H
        clear H;have H:=H1;clear H1;obtain rfl:=Option.some.inj H
        try go_wp2
        replace HB:=am (below_drew1 HB.out);have p449:0≤(x5_1:Int):=oa;have q449:x5_1<(l0.length:Int):=oa;obtain ⟨ad449,e449,hx449_0,hx449_1⟩:=at_T71 HR0.out x5_1 p449 q449;have hw449_1:=hx449_1;have hw449_0:=hx449_0
        cases e449
        replace hx449_0:=cb HB hx449_0;replace hx449_1:=cb HB hx449_1;replace p449:=eq_true p449;replace q449:=eq_true q449;have p450:0≤(x5_1:Int):=oa;have q450:x5_1<(l1.length:Int):=oa;obtain ⟨ad450,e450,hx450_0,hx450_1⟩:=at_T71 HR1.out x5_1 p450 q450;have hw450_1:=hx450_1;have hw450_0:=hx450_0
        cases e450
        replace hx450_0:=cb HB hx450_0;replace hx450_1:=cb HB hx450_1;replace p450:=eq_true p450;replace q450:=eq_true q450;refine start_ (n:=10) (S:=fun w'=>qe2a w' (ad449.add ((x5_1).toNat * 2)) (.string ((rd_T71 l0 x5_1).f0)) (.int .i64 ((rd_T71 l0 x5_1).f1)) (qe2 w' (ad450.add ((x5_1).toNat * 2)) (.string ((rd_T71 l1 x5_1).f0)) (.int .i64 ((rd_T71 l1 x5_1).f1)))) (ds:=[]) _ (by kernel_rfl) rfl rfl ⟨((cb HB hw449_0).trans rfl),((cb HB hw449_1).trans rfl),((cb HB hw450_0).trans rfl),((cb HB hw450_1).trans rfl)⟩ (fun hHeld=>?_);refine with_tabW laws_eqStockS.tab6 laws_eqStockS.bits6 (fun HT_ HW_=>?_)
        generalize wr.drew=w11 at HB hx449_0 hx449_1 hx450_0 hx450_1 hHeld ⊢
        refine pA 0 17 HT_ ?_;refine pA 1 18 HT_ ?_;refine pA 2 19 HT_ ?_;refine pA 4 21 HT_ ?_;refine pA 5 22 HT_ ?_;refine pA 6 23 HT_ ?_;refine tA 3 20 HT_ HW_ hHeld ?_;refine tA 7 24 HT_ HW_ hHeld ?_;refine oA 8 25 HT_ (fun K hK=>?_);refine gA Try.func86 #[.agg #[.string ((rd_T71 l0 x5_1).f0),.int .i64 ((rd_T71 l0 x5_1).f1)],.agg #[.string ((rd_T71 l1 x5_1).f0),.int .i64 ((rd_T71 l1 x5_1).f1)]] ?_;(with_reducible refine (laws_eqStock.calls ((rd_T71 l0 x5_1).f0) ((rd_T71 l0 x5_1).f1) ((rd_T71 l1 x5_1).f0) ((rd_T71 l1 x5_1).f1) false _ A7.out).mono ?_);rintro e w12 ⟨rfl,hb⟩;refine ⟨_,rfl,?_⟩;replace HB:=am (below_step (bs HB) hb);(try clear hb);(try clear hb2);(try clear hk);(try clear hi);refine hK.out _ _ ⟨((cb HB hw449_0).trans rfl),((cb HB hw449_1).trans rfl),((cb HB hw450_0).trans rfl),((cb HB hw450_1).trans rfl)⟩ (fun hHeld=>?_);clear hK K;refine nA 25 ?_;refine pA 9 26 HT_ ?_;refine done_ (done_of HT_.out (by kernel_rfl)) ?_
        try go_wp2
        go_ret
        exact ⟨ff,bs HB⟩
      ·rw [if_neg c6] at H
       exact absurd H (by simp)
     ·rw [if_neg c5] at H
      exact absurd H (by simp)
    ·rw [if_neg c4] at H;have c4b0:decide (x5_1<(l0.length:Int))=false:=decide_eq_false c4;clear c4;obtain rfl:=Option.some.inj H
     go_wp2
     go_ret
     exact ⟨ff,bs HB⟩
 ·rw [if_neg c3] at H;have c3b0:((l0.length:Int) == (l1.length:Int))=false:=beq_eq_false_iff_ne.mpr c3;have c3b1:((l0.length:Int) != (l1.length:Int))=true:=bne_iff_ne.mpr c3
  have c3b2:(l0.length == l1.length)=false:=by first|simpa using c3|(simp at c3 ⊢;omega)
  obtain rfl:=Option.some.inj H
  go_enter Try.func46,Try.ntmps46
  go_wp2
  go_ret
  exact ⟨ff,bs HB⟩
end Go.Proofs.Ytjjfjgdhloideaa.QI
namespace Go.Proofs.Ytjjfjgdhloideaa.QI
open Go.RowKit Go.Proofs.YtjjfjgdhloideaaW.PrintWords Go.Proofs.YtjjfjgdhloideaaW.PrintLast Go.Proofs.YtjjfjgdhloideaaW.PrintMore
attribute [local go_sem] max2_int min2_int max_two min_two max_three min_three max_four min_four   -- for this text's walks alone
set_option linter.unusedVariables false
set_option linter.unusedSimpArgs false
set_option maxHeartbeats 8000000 in
set_option maxRecDepth 100000 in
theorem laws_eqOrderLine.calls (a0_0:ByteArray) (a0_1:ByteArray) (a0_2:Int) (a0_3:ByteArray) (a0_4:Int) (a0_5:Int) (a0_6:Int) (a0_7:Int) (a1_0:ByteArray) (a1_1:ByteArray) (a1_2:Int) (a1_3:ByteArray) (a1_4:Int) (a1_5:Int) (a1_6:Int) (a1_7:Int) (r:Bool) (w:World) (h:laws_eqOrderLine.f a0_0 a0_1 a0_2 a0_3 a0_4 a0_5 a0_6 a0_7 a1_0 a1_1 a1_2 a1_3 a1_4 a1_5 a1_6 a1_7=some r) :
  Calls Try.prog 87 #[.agg #[.string a0_0,.string a0_1,.int .i64 a0_2,.string a0_3,.int .i64 a0_4,.int .i64 a0_5,.int .i64 a0_6,.int .i64 a0_7],.agg #[.string a1_0,.string a1_1,.int .i64 a1_2,.string a1_3,.int .i64 a1_4,.int .i64 a1_5,.int .i64 a1_6,.int .i64 a1_7]] w fun e w'=>e=.returned (.bool r)∧Below w.heap.size w w':=by
 have hu73:=Try.underlying73;have HB:=am (Below.refl w.heap.size w);have H:(if a0_0.toList=a1_0.toList then (if a0_1.toList=a1_1.toList then (if a0_2=a1_2 then (if a0_3.toList=a1_3.toList then (if a0_4=a1_4 then (if a0_5=a1_5 then (if a0_6=a1_6 then (if a0_7=a1_7 then (some true) else (some false)) else (some false)) else (some false)) else (some false)) else (some false)) else (some false)) else (some false)) else (some false))=some r:=h;clear h
 by_cases c3:a0_0.toList=a1_0.toList
 ·rw [if_pos c3] at H;have c3b0:(a0_0.toList == a1_0.toList)=true:=beq_iff_eq.mpr c3;have c3b1:(a0_0.toList != a1_0.toList)=false:=bne_eq_false_iff_eq.mpr c3;clear c3
  by_cases c4:a0_1.toList=a1_1.toList
  ·rw [if_pos c4] at H;have c4b0:(a0_1.toList == a1_1.toList)=true:=beq_iff_eq.mpr c4;have c4b1:(a0_1.toList != a1_1.toList)=false:=bne_eq_false_iff_eq.mpr c4;clear c4
   by_cases c5:a0_2=a1_2
   ·rw [if_pos c5] at H;have c5b0:(a0_2 == a1_2)=true:=beq_iff_eq.mpr c5;have c5b1:(a0_2 != a1_2)=false:=bne_eq_false_iff_eq.mpr c5;clear c5
    by_cases c6:a0_3.toList=a1_3.toList
    ·rw [if_pos c6] at H;have c6b0:(a0_3.toList == a1_3.toList)=true:=beq_iff_eq.mpr c6;have c6b1:(a0_3.toList != a1_3.toList)=false:=bne_eq_false_iff_eq.mpr c6;clear c6
     by_cases c7:a0_4=a1_4
     ·rw [if_pos c7] at H;have c7b0:(a0_4 == a1_4)=true:=beq_iff_eq.mpr c7;have c7b1:(a0_4 != a1_4)=false:=bne_eq_false_iff_eq.mpr c7;clear c7
      by_cases c8:a0_5=a1_5
      ·rw [if_pos c8] at H;have c8b0:(a0_5 == a1_5)=true:=beq_iff_eq.mpr c8;have c8b1:(a0_5 != a1_5)=false:=bne_eq_false_iff_eq.mpr c8;clear c8
       by_cases c9:a0_6=a1_6
       ·rw [if_pos c9] at H;have c9b0:(a0_6 == a1_6)=true:=beq_iff_eq.mpr c9;have c9b1:(a0_6 != a1_6)=false:=bne_eq_false_iff_eq.mpr c9;clear c9
        by_cases c10:a0_7=a1_7
        ·rw [if_pos c10] at H;have c10b0:(a0_7 == a1_7)=true:=beq_iff_eq.mpr c10;have c10b1:(a0_7 != a1_7)=false:=bne_eq_false_iff_eq.mpr c10;clear c10;obtain rfl:=Option.some.inj H
         go_enter Try.func87,Try.ntmps87
         go_wp2_with (first|((with_reducible refine gate_dst (N:=2) rfl ?_);refine bx 2 (cs:=#[.string a0_0,.string a0_1,.int .i64 a0_2,.string a0_3,.int .i64 a0_4,.int .i64 a0_5,.int .i64 a0_6,.int .i64 a0_7]) (t:=73) ?_;intro gb452 hg w11 hbox hb;have BK452:=am (hbox);have GW452:=am ((gs hg (bs HB)));have GE452:=am ((gs hg (bs HB)));replace HB:=am (below_step (bs HB) hb);clear hb hbox hg)|((with_reducible refine gate_dst (N:=3) rfl ?_);refine bx 3 (cs:=#[.string a1_0,.string a1_1,.int .i64 a1_2,.string a1_3,.int .i64 a1_4,.int .i64 a1_5,.int .i64 a1_6,.int .i64 a1_7]) (t:=73) ?_;intro gb453 hg w12 hbox hb;have BK453:=am (hbox);have GW453:=am ((gs hg (bs HB)));have GE453:=am ((gs hg (bs HB)));replace HB:=am (below_step (bs HB) hb);have NB452_453:=am ((gn hg (ks BK452)));have NB453_452:=am ((gm hg (ks BK452)));replace BK452:=am (blk_below (ks BK452) hb);clear hb hbox hg;have hnb13:=NB452_453.out;have hnc13:=NB453_452.out;obtain ⟨hcz14_0,hcz14_1,hcz14_2,hcz14_3,hcz14_4,hcz14_5,hcz14_6,hcz14_7,hfz14_0,hfz14_1,hfz14_2,hfz14_3,hfz14_4,hfz14_5,hfz14_6,hfz14_7⟩:=cf8 BK452;obtain ⟨hcz15_0,hcz15_1,hcz15_2,hcz15_3,hcz15_4,hcz15_5,hcz15_6,hcz15_7,hfz15_0,hfz15_1,hfz15_2,hfz15_3,hfz15_4,hfz15_5,hfz15_6,hfz15_7⟩:=cf8 BK453))
         go_ret
         exact ⟨ff,bs HB⟩
        ·rw [if_neg c10] at H;have c10b0:(a0_7 == a1_7)=false:=beq_eq_false_iff_ne.mpr c10;have c10b1:(a0_7 != a1_7)=true:=bne_iff_ne.mpr c10;obtain rfl:=Option.some.inj H
         go_enter Try.func87,Try.ntmps87
         go_wp2_with (first|((with_reducible refine gate_dst (N:=2) rfl ?_);refine bx 2 (cs:=#[.string a0_0,.string a0_1,.int .i64 a0_2,.string a0_3,.int .i64 a0_4,.int .i64 a0_5,.int .i64 a0_6,.int .i64 a0_7]) (t:=73) ?_;intro gb452 hg w16 hbox hb;have BK452:=am (hbox);have GW452:=am ((gs hg (bs HB)));have GE452:=am ((gs hg (bs HB)));replace HB:=am (below_step (bs HB) hb);clear hb hbox hg)|((with_reducible refine gate_dst (N:=3) rfl ?_);refine bx 3 (cs:=#[.string a1_0,.string a1_1,.int .i64 a1_2,.string a1_3,.int .i64 a1_4,.int .i64 a1_5,.int .i64 a1_6,.int .i64 a1_7]) (t:=73) ?_;intro gb453 hg w17 hbox hb;have BK453:=am (hbox);have GW453:=am ((gs hg (bs HB)));have GE453:=am ((gs hg (bs HB)));replace HB:=am (below_step (bs HB) hb);have NB452_453:=am ((gn hg (ks BK452)));have NB453_452:=am ((gm hg (ks BK452)));replace BK452:=am (blk_below (ks BK452) hb);clear hb hbox hg;have hnb18:=NB452_453.out;have hnc18:=NB453_452.out;obtain ⟨hcz19_0,hcz19_1,hcz19_2,hcz19_3,hcz19_4,hcz19_5,hcz19_6,hcz19_7,hfz19_0,hfz19_1,hfz19_2,hfz19_3,hfz19_4,hfz19_5,hfz19_6,hfz19_7⟩:=cf8 BK452;obtain ⟨hcz20_0,hcz20_1,hcz20_2,hcz20_3,hcz20_4,hcz20_5,hcz20_6,hcz20_7,hfz20_0,hfz20_1,hfz20_2,hfz20_3,hfz20_4,hfz20_5,hfz20_6,hfz20_7⟩:=cf8 BK453))
         go_ret
         exact ⟨ff,bs HB⟩
       ·rw [if_neg c9] at H;have c9b0:(a0_6 == a1_6)=false:=beq_eq_false_iff_ne.mpr c9;have c9b1:(a0_6 != a1_6)=true:=bne_iff_ne.mpr c9;obtain rfl:=Option.some.inj H
        go_enter Try.func87,Try.ntmps87
        go_wp2_with (first|((with_reducible refine gate_dst (N:=2) rfl ?_);refine bx 2 (cs:=#[.string a0_0,.string a0_1,.int .i64 a0_2,.string a0_3,.int .i64 a0_4,.int .i64 a0_5,.int .i64 a0_6,.int .i64 a0_7]) (t:=73) ?_;intro gb452 hg w21 hbox hb;have BK452:=am (hbox);have GW452:=am ((gs hg (bs HB)));have GE452:=am ((gs hg (bs HB)));replace HB:=am (below_step (bs HB) hb);clear hb hbox hg)|((with_reducible refine gate_dst (N:=3) rfl ?_);refine bx 3 (cs:=#[.string a1_0,.string a1_1,.int .i64 a1_2,.string a1_3,.int .i64 a1_4,.int .i64 a1_5,.int .i64 a1_6,.int .i64 a1_7]) (t:=73) ?_;intro gb453 hg w22 hbox hb;have BK453:=am (hbox);have GW453:=am ((gs hg (bs HB)));have GE453:=am ((gs hg (bs HB)));replace HB:=am (below_step (bs HB) hb);have NB452_453:=am ((gn hg (ks BK452)));have NB453_452:=am ((gm hg (ks BK452)));replace BK452:=am (blk_below (ks BK452) hb);clear hb hbox hg;have hnb23:=NB452_453.out;have hnc23:=NB453_452.out;obtain ⟨hcz24_0,hcz24_1,hcz24_2,hcz24_3,hcz24_4,hcz24_5,hcz24_6,hcz24_7,hfz24_0,hfz24_1,hfz24_2,hfz24_3,hfz24_4,hfz24_5,hfz24_6,hfz24_7⟩:=cf8 BK452;obtain ⟨hcz25_0,hcz25_1,hcz25_2,hcz25_3,hcz25_4,hcz25_5,hcz25_6,hcz25_7,hfz25_0,hfz25_1,hfz25_2,hfz25_3,hfz25_4,hfz25_5,hfz25_6,hfz25_7⟩:=cf8 BK453))
        go_ret
        exact ⟨ff,bs HB⟩
      ·rw [if_neg c8] at H;have c8b0:(a0_5 == a1_5)=false:=beq_eq_false_iff_ne.mpr c8;have c8b1:(a0_5 != a1_5)=true:=bne_iff_ne.mpr c8;obtain rfl:=Option.some.inj H
       go_enter Try.func87,Try.ntmps87
       go_wp2_with (first|((with_reducible refine gate_dst (N:=2) rfl ?_);refine bx 2 (cs:=#[.string a0_0,.string a0_1,.int .i64 a0_2,.string a0_3,.int .i64 a0_4,.int .i64 a0_5,.int .i64 a0_6,.int .i64 a0_7]) (t:=73) ?_;intro gb452 hg w26 hbox hb;have BK452:=am (hbox);have GW452:=am ((gs hg (bs HB)));have GE452:=am ((gs hg (bs HB)));replace HB:=am (below_step (bs HB) hb);clear hb hbox hg)|((with_reducible refine gate_dst (N:=3) rfl ?_);refine bx 3 (cs:=#[.string a1_0,.string a1_1,.int .i64 a1_2,.string a1_3,.int .i64 a1_4,.int .i64 a1_5,.int .i64 a1_6,.int .i64 a1_7]) (t:=73) ?_;intro gb453 hg w27 hbox hb;have BK453:=am (hbox);have GW453:=am ((gs hg (bs HB)));have GE453:=am ((gs hg (bs HB)));replace HB:=am (below_step (bs HB) hb);have NB452_453:=am ((gn hg (ks BK452)));have NB453_452:=am ((gm hg (ks BK452)));replace BK452:=am (blk_below (ks BK452) hb);clear hb hbox hg;have hnb28:=NB452_453.out;have hnc28:=NB453_452.out;obtain ⟨hcz29_0,hcz29_1,hcz29_2,hcz29_3,hcz29_4,hcz29_5,hcz29_6,hcz29_7,hfz29_0,hfz29_1,hfz29_2,hfz29_3,hfz29_4,hfz29_5,hfz29_6,hfz29_7⟩:=cf8 BK452;obtain ⟨hcz30_0,hcz30_1,hcz30_2,hcz30_3,hcz30_4,hcz30_5,hcz30_6,hcz30_7,hfz30_0,hfz30_1,hfz30_2,hfz30_3,hfz30_4,hfz30_5,hfz30_6,hfz30_7⟩:=cf8 BK453))
       go_ret
       exact ⟨ff,bs HB⟩
     ·rw [if_neg c7] at H;have c7b0:(a0_4 == a1_4)=false:=beq_eq_false_iff_ne.mpr c7;have c7b1:(a0_4 != a1_4)=true:=bne_iff_ne.mpr c7;obtain rfl:=Option.some.inj H
      go_enter Try.func87,Try.ntmps87
      go_wp2_with (first|((with_reducible refine gate_dst (N:=2) rfl ?_);refine bx 2 (cs:=#[.string a0_0,.string a0_1,.int .i64 a0_2,.string a0_3,.int .i64 a0_4,.int .i64 a0_5,.int .i64 a0_6,.int .i64 a0_7]) (t:=73) ?_;intro gb452 hg w31 hbox hb;have BK452:=am (hbox);have GW452:=am ((gs hg (bs HB)));have GE452:=am ((gs hg (bs HB)));replace HB:=am (below_step (bs HB) hb);clear hb hbox hg)|((with_reducible refine gate_dst (N:=3) rfl ?_);refine bx 3 (cs:=#[.string a1_0,.string a1_1,.int .i64 a1_2,.string a1_3,.int .i64 a1_4,.int .i64 a1_5,.int .i64 a1_6,.int .i64 a1_7]) (t:=73) ?_;intro gb453 hg w32 hbox hb;have BK453:=am (hbox);have GW453:=am ((gs hg (bs HB)));have GE453:=am ((gs hg (bs HB)));replace HB:=am (below_step (bs HB) hb);have NB452_453:=am ((gn hg (ks BK452)));have NB453_452:=am ((gm hg (ks BK452)));replace BK452:=am (blk_below (ks BK452) hb);clear hb hbox hg;have hnb33:=NB452_453.out;have hnc33:=NB453_452.out;obtain ⟨hcz34_0,hcz34_1,hcz34_2,hcz34_3,hcz34_4,hcz34_5,hcz34_6,hcz34_7,hfz34_0,hfz34_1,hfz34_2,hfz34_3,hfz34_4,hfz34_5,hfz34_6,hfz34_7⟩:=cf8 BK452;obtain ⟨hcz35_0,hcz35_1,hcz35_2,hcz35_3,hcz35_4,hcz35_5,hcz35_6,hcz35_7,hfz35_0,hfz35_1,hfz35_2,hfz35_3,hfz35_4,hfz35_5,hfz35_6,hfz35_7⟩:=cf8 BK453))
      go_ret
      exact ⟨ff,bs HB⟩
    ·rw [if_neg c6] at H;have c6b0:(a0_3.toList == a1_3.toList)=false:=beq_eq_false_iff_ne.mpr c6;have c6b1:(a0_3.toList != a1_3.toList)=true:=bne_iff_ne.mpr c6;obtain rfl:=Option.some.inj H
     go_enter Try.func87,Try.ntmps87
     go_wp2_with (first|((with_reducible refine gate_dst (N:=2) rfl ?_);refine bx 2 (cs:=#[.string a0_0,.string a0_1,.int .i64 a0_2,.string a0_3,.int .i64 a0_4,.int .i64 a0_5,.int .i64 a0_6,.int .i64 a0_7]) (t:=73) ?_;intro gb452 hg w36 hbox hb;have BK452:=am (hbox);have GW452:=am ((gs hg (bs HB)));have GE452:=am ((gs hg (bs HB)));replace HB:=am (below_step (bs HB) hb);clear hb hbox hg)|((with_reducible refine gate_dst (N:=3) rfl ?_);refine bx 3 (cs:=#[.string a1_0,.string a1_1,.int .i64 a1_2,.string a1_3,.int .i64 a1_4,.int .i64 a1_5,.int .i64 a1_6,.int .i64 a1_7]) (t:=73) ?_;intro gb453 hg w37 hbox hb;have BK453:=am (hbox);have GW453:=am ((gs hg (bs HB)));have GE453:=am ((gs hg (bs HB)));replace HB:=am (below_step (bs HB) hb);have NB452_453:=am ((gn hg (ks BK452)));have NB453_452:=am ((gm hg (ks BK452)));replace BK452:=am (blk_below (ks BK452) hb);clear hb hbox hg;have hnb38:=NB452_453.out;have hnc38:=NB453_452.out;obtain ⟨hcz39_0,hcz39_1,hcz39_2,hcz39_3,hcz39_4,hcz39_5,hcz39_6,hcz39_7,hfz39_0,hfz39_1,hfz39_2,hfz39_3,hfz39_4,hfz39_5,hfz39_6,hfz39_7⟩:=cf8 BK452;obtain ⟨hcz40_0,hcz40_1,hcz40_2,hcz40_3,hcz40_4,hcz40_5,hcz40_6,hcz40_7,hfz40_0,hfz40_1,hfz40_2,hfz40_3,hfz40_4,hfz40_5,hfz40_6,hfz40_7⟩:=cf8 BK453))
     go_ret
     exact ⟨ff,bs HB⟩
   ·rw [if_neg c5] at H;have c5b0:(a0_2 == a1_2)=false:=beq_eq_false_iff_ne.mpr c5;have c5b1:(a0_2 != a1_2)=true:=bne_iff_ne.mpr c5;obtain rfl:=Option.some.inj H
    go_enter Try.func87,Try.ntmps87
    go_wp2_with (first|((with_reducible refine gate_dst (N:=2) rfl ?_);refine bx 2 (cs:=#[.string a0_0,.string a0_1,.int .i64 a0_2,.string a0_3,.int .i64 a0_4,.int .i64 a0_5,.int .i64 a0_6,.int .i64 a0_7]) (t:=73) ?_;intro gb452 hg w41 hbox hb;have BK452:=am (hbox);have GW452:=am ((gs hg (bs HB)));have GE452:=am ((gs hg (bs HB)));replace HB:=am (below_step (bs HB) hb);clear hb hbox hg)|((with_reducible refine gate_dst (N:=3) rfl ?_);refine bx 3 (cs:=#[.string a1_0,.string a1_1,.int .i64 a1_2,.string a1_3,.int .i64 a1_4,.int .i64 a1_5,.int .i64 a1_6,.int .i64 a1_7]) (t:=73) ?_;intro gb453 hg w42 hbox hb;have BK453:=am (hbox);have GW453:=am ((gs hg (bs HB)));have GE453:=am ((gs hg (bs HB)));replace HB:=am (below_step (bs HB) hb);have NB452_453:=am ((gn hg (ks BK452)));have NB453_452:=am ((gm hg (ks BK452)));replace BK452:=am (blk_below (ks BK452) hb);clear hb hbox hg;have hnb43:=NB452_453.out;have hnc43:=NB453_452.out;obtain ⟨hcz44_0,hcz44_1,hcz44_2,hcz44_3,hcz44_4,hcz44_5,hcz44_6,hcz44_7,hfz44_0,hfz44_1,hfz44_2,hfz44_3,hfz44_4,hfz44_5,hfz44_6,hfz44_7⟩:=cf8 BK452;obtain ⟨hcz45_0,hcz45_1,hcz45_2,hcz45_3,hcz45_4,hcz45_5,hcz45_6,hcz45_7,hfz45_0,hfz45_1,hfz45_2,hfz45_3,hfz45_4,hfz45_5,hfz45_6,hfz45_7⟩:=cf8 BK453))
    go_ret
    exact ⟨ff,bs HB⟩
  ·rw [if_neg c4] at H;have c4b0:(a0_1.toList == a1_1.toList)=false:=beq_eq_false_iff_ne.mpr c4;have c4b1:(a0_1.toList != a1_1.toList)=true:=bne_iff_ne.mpr c4;obtain rfl:=Option.some.inj H
   go_enter Try.func87,Try.ntmps87
   go_wp2_with (first|((with_reducible refine gate_dst (N:=2) rfl ?_);refine bx 2 (cs:=#[.string a0_0,.string a0_1,.int .i64 a0_2,.string a0_3,.int .i64 a0_4,.int .i64 a0_5,.int .i64 a0_6,.int .i64 a0_7]) (t:=73) ?_;intro gb452 hg w46 hbox hb;have BK452:=am (hbox);have GW452:=am ((gs hg (bs HB)));have GE452:=am ((gs hg (bs HB)));replace HB:=am (below_step (bs HB) hb);clear hb hbox hg)|((with_reducible refine gate_dst (N:=3) rfl ?_);refine bx 3 (cs:=#[.string a1_0,.string a1_1,.int .i64 a1_2,.string a1_3,.int .i64 a1_4,.int .i64 a1_5,.int .i64 a1_6,.int .i64 a1_7]) (t:=73) ?_;intro gb453 hg w47 hbox hb;have BK453:=am (hbox);have GW453:=am ((gs hg (bs HB)));have GE453:=am ((gs hg (bs HB)));replace HB:=am (below_step (bs HB) hb);have NB452_453:=am ((gn hg (ks BK452)));have NB453_452:=am ((gm hg (ks BK452)));replace BK452:=am (blk_below (ks BK452) hb);clear hb hbox hg;have hnb48:=NB452_453.out;have hnc48:=NB453_452.out;obtain ⟨hcz49_0,hcz49_1,hcz49_2,hcz49_3,hcz49_4,hcz49_5,hcz49_6,hcz49_7,hfz49_0,hfz49_1,hfz49_2,hfz49_3,hfz49_4,hfz49_5,hfz49_6,hfz49_7⟩:=cf8 BK452;obtain ⟨hcz50_0,hcz50_1,hcz50_2,hcz50_3,hcz50_4,hcz50_5,hcz50_6,hcz50_7,hfz50_0,hfz50_1,hfz50_2,hfz50_3,hfz50_4,hfz50_5,hfz50_6,hfz50_7⟩:=cf8 BK453))
   go_ret
   exact ⟨ff,bs HB⟩
 ·rw [if_neg c3] at H;have c3b0:(a0_0.toList == a1_0.toList)=false:=beq_eq_false_iff_ne.mpr c3;have c3b1:(a0_0.toList != a1_0.toList)=true:=bne_iff_ne.mpr c3;obtain rfl:=Option.some.inj H
  go_enter Try.func87,Try.ntmps87
  go_wp2_with (first|((with_reducible refine gate_dst (N:=2) rfl ?_);refine bx 2 (cs:=#[.string a0_0,.string a0_1,.int .i64 a0_2,.string a0_3,.int .i64 a0_4,.int .i64 a0_5,.int .i64 a0_6,.int .i64 a0_7]) (t:=73) ?_;intro gb452 hg w51 hbox hb;have BK452:=am (hbox);have GW452:=am ((gs hg (bs HB)));have GE452:=am ((gs hg (bs HB)));replace HB:=am (below_step (bs HB) hb);clear hb hbox hg)|((with_reducible refine gate_dst (N:=3) rfl ?_);refine bx 3 (cs:=#[.string a1_0,.string a1_1,.int .i64 a1_2,.string a1_3,.int .i64 a1_4,.int .i64 a1_5,.int .i64 a1_6,.int .i64 a1_7]) (t:=73) ?_;intro gb453 hg w52 hbox hb;have BK453:=am (hbox);have GW453:=am ((gs hg (bs HB)));have GE453:=am ((gs hg (bs HB)));replace HB:=am (below_step (bs HB) hb);have NB452_453:=am ((gn hg (ks BK452)));have NB453_452:=am ((gm hg (ks BK452)));replace BK452:=am (blk_below (ks BK452) hb);clear hb hbox hg;have hnb53:=NB452_453.out;have hnc53:=NB453_452.out;obtain ⟨hcz54_0,hcz54_1,hcz54_2,hcz54_3,hcz54_4,hcz54_5,hcz54_6,hcz54_7,hfz54_0,hfz54_1,hfz54_2,hfz54_3,hfz54_4,hfz54_5,hfz54_6,hfz54_7⟩:=cf8 BK452;obtain ⟨hcz55_0,hcz55_1,hcz55_2,hcz55_3,hcz55_4,hcz55_5,hcz55_6,hcz55_7,hfz55_0,hfz55_1,hfz55_2,hfz55_3,hfz55_4,hfz55_5,hfz55_6,hfz55_7⟩:=cf8 BK453))
  go_ret
  exact ⟨ff,bs HB⟩
end Go.Proofs.Ytjjfjgdhloideaa.QI

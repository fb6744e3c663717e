-- Merged by a program of this session (wip/tool/pack.py) out of its own texts for this claim.
import Derived.Test.YtjjfjgdhloideaaKFnExactGateRight0
import Derived.Test.YtjjfjgdhloideaaKFnExactGateRight1
import Derived.Test.YtjjfjgdhloideaaKFnExactGateRight2
import Derived.Test.YtjjfjgdhloideaaKFnExactGateRight3
import Derived.Test.YtjjfjgdhloideaaKFnExactGateRight9
import Derived.Test.YtjjfjgdhloideaaKFnExactGateRight10
import Derived.Test.YtjjfjgdhloideaaKFnExactGateRight12
import Derived.Test.YtjjfjgdhloideaaKFnExactGateRight14
import Derived.Test.YtjjfjgdhloideaaKFnExactGateRight15
import Derived.Test.YtjjfjgdhloideaaKFnExactGateRight17
import Derived.Test.YtjjfjgdhloideaaKFnExactGateRight18
import Derived.Test.YtjjfjgdhloideaaKFnExactGateRight19
namespace Go.Proofs.Ytjjfjgdhloideaa.QI
open Go.RowKit Go.Proofs.YtjjfjgdhloideaaW.PrintWords Go.Proofs.YtjjfjgdhloideaaW.PrintLast Go.Proofs.YtjjfjgdhloideaaW.PrintMore
attribute [local go_sem] max2_int min2_int max_two min_two max_three min_three max_four min_four   -- for this text's walks alone
set_option linter.unusedVariables false
set_option linter.unusedSimpArgs false
def laws_eqOrderLineS.T6 : Bool × List (List Nat × List Nat) := (true, [([], []), ([], []), ([0, 1], [0, 1]), ([2], [2]), ([], []), ([], []), ([4, 5], [4, 5]), ([6], [6]), ([3, 7], [3, 7]), ([8], [8])])
def laws_eqOrderLineS.B6 : List Nat := [0, 0, 3, 7, 0, 0, 48, 112, 255, 511]
theorem laws_eqOrderLineS.tab6 : rtab .any (opsOf Try.f47 6) = laws_eqOrderLineS.T6 := by kernel_rfl
theorem laws_eqOrderLineS.bits6 : waitsOk laws_eqOrderLineS.T6.2 laws_eqOrderLineS.B6 = true := by kernel_rfl
set_option maxHeartbeats 8000000 in
set_option maxRecDepth 100000 in
theorem laws_eqOrderLineS.calls (k:Nat) (A0:Option Addr) (c0:Nat) (l0:List (S73)) (A1:Option Addr) (c1:Nat) (l1:List (S73)) (r:Bool) (w:World) (hr0:Kd.C k73 w A0 l0.length l0) (hc0:l0.length≤c0) (hr1:Kd.C k73 w A1 l1.length l1) (hc1:l1.length≤c1) (h:laws_eqOrderLineS.f k l0 l1=some r) :
  Calls Try.prog 47 #[.slice A0 l0.length c0,.slice A1 l1.length c1] w fun e w'=>e=.returned (.bool r)∧Below w.heap.size w w':=by
 have hu73:=Try.underlying73;have HR0:=am hr0;have HC0:=am hc0;clear hr0 hc0;have HR1:=am hr1;have HC1:=am hc1;clear hr1 hc1;have HB:=am (Below.refl w.heap.size w);have H:(if (l0.length:Int)=(l1.length:Int) then (laws_eqOrderLineS.l0 k l0 l1 0) else (some false))=some r:=h;clear h
 by_cases c3:(l0.length:Int)=(l1.length:Int)
 ·rw [if_pos c3] at H;have c3b0:((l0.length:Int) == (l1.length:Int))=true:=beq_iff_eq.mpr c3;have c3b1:((l0.length:Int) != (l1.length:Int))=false:=bne_eq_false_iff_eq.mpr c3
  have c3b2:(l0.length == l1.length)=true:=by first|simpa using c3|(simp at c3 ⊢;omega)
  clear c3;have H':=am H;clear H
  go_enter Try.func47,Try.ntmps47
  go_wp2
  go_loopg [5] k (fun kq v5 w'=>∃ (x5_1:Int),v5=.int .i64 x5_1∧Aside0 (laws_eqOrderLineS.l0 kq l0 l1 x5_1=some r)∧Aside0 (kq≤k)∧Aside0 (Below w.heap.size w w'))
  case atStart=>exact ⟨(0),fg,H',⟨Nat.le_refl _⟩,⟨bs HB⟩⟩
  case round =>
   clear H'
   try clear c1
   try clear p2
   try clear c3
   try clear c3b0
   try clear c3b1
   try clear c3b2
   obtain ⟨x5_1,rfl,HA,HK1,HB⟩:=hrel
   cases gk with
   | zero=>exact absurd HA.out (by simp [laws_eqOrderLineS.l0])
   | succ k1 =>
    have H:=HA.out;clear HA;simp only [laws_eqOrderLineS.l0] at H
    by_cases c4:x5_1<(l0.length:Int)
    ·rw [if_pos c4] at H;have c4b0:decide (x5_1<(l0.length:Int))=true:=decide_eq_true c4;clear c4
     by_cases c5:0≤x5_1
     ·rw [if_pos c5] at H;have c5b0:decide (0≤x5_1)=true:=decide_eq_true c5;clear c5
      by_cases c6:x5_1<(l1.length:Int)
      ·rw [if_pos c6] at H;have c6b0:decide (x5_1<(l1.length:Int))=true:=decide_eq_true c6;clear c6;replace H:=Option.bind_eq_some_iff.mp H;obtain ⟨t456,A70,H⟩:=H;replace H:(if t456=true then (laws_eqOrderLineS.l0 k1 l0 l1 (wrap64 (x5_1+1))) else (some false))=some r:=H;have A7:=am A70;clear A70
       by_cases c8:t456=true
       ·subst c8
        have H1:(laws_eqOrderLineS.l0 k1 l0 l1 (wrap64 (x5_1+1)))=some r:=by rw [if_pos rfl] at H;exact H
        clear H;have H:=H1;clear H1;have H':=am H;clear H
        try go_wp2
        replace HB:=am (below_drew1 HB.out);have p454:0≤(x5_1:Int):=oa;have q454:x5_1<(l0.length:Int):=oa;obtain ⟨ad454,e454,hx454_0,hx454_1,hx454_2,hx454_3,hx454_4,hx454_5,hx454_6,hx454_7⟩:=at_T73 HR0.out x5_1 p454 q454;have hw454_7:=hx454_7;have hw454_6:=hx454_6;have hw454_5:=hx454_5;have hw454_4:=hx454_4;have hw454_3:=hx454_3;have hw454_2:=hx454_2;have hw454_1:=hx454_1;have hw454_0:=hx454_0
        cases e454
        replace hx454_0:=cb HB hx454_0;replace hx454_1:=cb HB hx454_1;replace hx454_2:=cb HB hx454_2;replace hx454_3:=cb HB hx454_3;replace hx454_4:=cb HB hx454_4;replace hx454_5:=cb HB hx454_5;replace hx454_6:=cb HB hx454_6;replace hx454_7:=cb HB hx454_7;replace p454:=eq_true p454;replace q454:=eq_true q454;have p455:0≤(x5_1:Int):=oa;have q455:x5_1<(l1.length:Int):=oa;obtain ⟨ad455,e455,hx455_0,hx455_1,hx455_2,hx455_3,hx455_4,hx455_5,hx455_6,hx455_7⟩:=at_T73 HR1.out x5_1 p455 q455;have hw455_7:=hx455_7;have hw455_6:=hx455_6;have hw455_5:=hx455_5;have hw455_4:=hx455_4;have hw455_3:=hx455_3;have hw455_2:=hx455_2;have hw455_1:=hx455_1;have hw455_0:=hx455_0
        cases e455
        replace hx455_0:=cb HB hx455_0;replace hx455_1:=cb HB hx455_1;replace hx455_2:=cb HB hx455_2;replace hx455_3:=cb HB hx455_3;replace hx455_4:=cb HB hx455_4;replace hx455_5:=cb HB hx455_5;replace hx455_6:=cb HB hx455_6;replace hx455_7:=cb HB hx455_7;replace p455:=eq_true p455;replace q455:=eq_true q455;refine start_ (n:=10) (S:=fun w'=>qe8a w' (ad454.add ((x5_1).toNat * 8)) (.string ((rd_T73 l0 x5_1).f0)) (.string ((rd_T73 l0 x5_1).f1)) (.int .i64 ((rd_T73 l0 x5_1).f2)) (.string ((rd_T73 l0 x5_1).f3)) (.int .i64 ((rd_T73 l0 x5_1).f4)) (.int .i64 ((rd_T73 l0 x5_1).f5)) (.int .i64 ((rd_T73 l0 x5_1).f6)) (.int .i64 ((rd_T73 l0 x5_1).f7)) (qe8 w' (ad455.add ((x5_1).toNat * 8)) (.string ((rd_T73 l1 x5_1).f0)) (.string ((rd_T73 l1 x5_1).f1)) (.int .i64 ((rd_T73 l1 x5_1).f2)) (.string ((rd_T73 l1 x5_1).f3)) (.int .i64 ((rd_T73 l1 x5_1).f4)) (.int .i64 ((rd_T73 l1 x5_1).f5)) (.int .i64 ((rd_T73 l1 x5_1).f6)) (.int .i64 ((rd_T73 l1 x5_1).f7)))) (ds:=[]) _ (by kernel_rfl) rfl rfl ⟨((cb HB hw454_0).trans rfl),((cb HB hw454_1).trans rfl),((cb HB hw454_2).trans rfl),((cb HB hw454_3).trans rfl),((cb HB hw454_4).trans rfl),((cb HB hw454_5).trans rfl),((cb HB hw454_6).trans rfl),((cb HB hw454_7).trans rfl),((cb HB hw455_0).trans rfl),((cb HB hw455_1).trans rfl),((cb HB hw455_2).trans rfl),((cb HB hw455_3).trans rfl),((cb HB hw455_4).trans rfl),((cb HB hw455_5).trans rfl),((cb HB hw455_6).trans rfl),((cb HB hw455_7).trans rfl)⟩ (fun hHeld=>?_);refine with_tabW laws_eqOrderLineS.tab6 laws_eqOrderLineS.bits6 (fun HT_ HW_=>?_)
        generalize wr.drew=w9 at HB hx454_0 hx454_1 hx454_2 hx454_3 hx454_4 hx454_5 hx454_6 hx454_7 hx455_0 hx455_1 hx455_2 hx455_3 hx455_4 hx455_5 hx455_6 hx455_7 hHeld ⊢
        refine pA 0 17 HT_ ?_;refine pA 1 18 HT_ ?_;refine pA 2 19 HT_ ?_;refine pA 4 21 HT_ ?_;refine pA 5 22 HT_ ?_;refine pA 6 23 HT_ ?_;refine tA 3 20 HT_ HW_ hHeld ?_;refine tA 7 24 HT_ HW_ hHeld ?_;refine oA 8 25 HT_ (fun K hK=>?_);refine gA Try.func87 #[.agg #[.string ((rd_T73 l0 x5_1).f0),.string ((rd_T73 l0 x5_1).f1),.int .i64 ((rd_T73 l0 x5_1).f2),.string ((rd_T73 l0 x5_1).f3),.int .i64 ((rd_T73 l0 x5_1).f4),.int .i64 ((rd_T73 l0 x5_1).f5),.int .i64 ((rd_T73 l0 x5_1).f6),.int .i64 ((rd_T73 l0 x5_1).f7)],.agg #[.string ((rd_T73 l1 x5_1).f0),.string ((rd_T73 l1 x5_1).f1),.int .i64 ((rd_T73 l1 x5_1).f2),.string ((rd_T73 l1 x5_1).f3),.int .i64 ((rd_T73 l1 x5_1).f4),.int .i64 ((rd_T73 l1 x5_1).f5),.int .i64 ((rd_T73 l1 x5_1).f6),.int .i64 ((rd_T73 l1 x5_1).f7)]] ?_;(with_reducible refine (laws_eqOrderLine.calls ((rd_T73 l0 x5_1).f0) ((rd_T73 l0 x5_1).f1) ((rd_T73 l0 x5_1).f2) ((rd_T73 l0 x5_1).f3) ((rd_T73 l0 x5_1).f4) ((rd_T73 l0 x5_1).f5) ((rd_T73 l0 x5_1).f6) ((rd_T73 l0 x5_1).f7) ((rd_T73 l1 x5_1).f0) ((rd_T73 l1 x5_1).f1) ((rd_T73 l1 x5_1).f2) ((rd_T73 l1 x5_1).f3) ((rd_T73 l1 x5_1).f4) ((rd_T73 l1 x5_1).f5) ((rd_T73 l1 x5_1).f6) ((rd_T73 l1 x5_1).f7) true _ A7.out).mono ?_);rintro e w10 ⟨rfl,hb⟩;refine ⟨_,rfl,?_⟩;replace HB:=am (below_step (bs HB) hb);(try clear hb);(try clear hb2);(try clear hk);(try clear hi);refine hK.out _ _ ⟨((cb HB hw454_0).trans rfl),((cb HB hw454_1).trans rfl),((cb HB hw454_2).trans rfl),((cb HB hw454_3).trans rfl),((cb HB hw454_4).trans rfl),((cb HB hw454_5).trans rfl),((cb HB hw454_6).trans rfl),((cb HB hw454_7).trans rfl),((cb HB hw455_0).trans rfl),((cb HB hw455_1).trans rfl),((cb HB hw455_2).trans rfl),((cb HB hw455_3).trans rfl),((cb HB hw455_4).trans rfl),((cb HB hw455_5).trans rfl),((cb HB hw455_6).trans rfl),((cb HB hw455_7).trans rfl)⟩ (fun hHeld=>?_);clear hK K;refine nA 25 ?_;refine pA 9 26 HT_ ?_;refine done_ (done_of HT_.out (by kernel_rfl)) ?_
        try go_wp2
        go_roundg k1
        case measure=>have:=HK1.out;omega
        case rel=>exact ⟨(wrap64 (x5_1+1)),fg,H',⟨by have:=HK1.out;omega⟩,⟨bs HB⟩⟩
       ·replace c8:=Bool.eq_false_iff.mpr c8;subst c8
        have H1:(some false)=some r:=by rw [if_neg (show ¬ (false=true) by decide)] at H;exact H
        clear H;have H:=H1;clear H1;obtain rfl:=Option.some.inj H
        try go_wp2
        replace HB:=am (below_drew1 HB.out);have p454:0≤(x5_1:Int):=oa;have q454:x5_1<(l0.length:Int):=oa;obtain ⟨ad454,e454,hx454_0,hx454_1,hx454_2,hx454_3,hx454_4,hx454_5,hx454_6,hx454_7⟩:=at_T73 HR0.out x5_1 p454 q454;have hw454_7:=hx454_7;have hw454_6:=hx454_6;have hw454_5:=hx454_5;have hw454_4:=hx454_4;have hw454_3:=hx454_3;have hw454_2:=hx454_2;have hw454_1:=hx454_1;have hw454_0:=hx454_0
        cases e454
        replace hx454_0:=cb HB hx454_0;replace hx454_1:=cb HB hx454_1;replace hx454_2:=cb HB hx454_2;replace hx454_3:=cb HB hx454_3;replace hx454_4:=cb HB hx454_4;replace hx454_5:=cb HB hx454_5;replace hx454_6:=cb HB hx454_6;replace hx454_7:=cb HB hx454_7;replace p454:=eq_true p454;replace q454:=eq_true q454;have p455:0≤(x5_1:Int):=oa;have q455:x5_1<(l1.length:Int):=oa;obtain ⟨ad455,e455,hx455_0,hx455_1,hx455_2,hx455_3,hx455_4,hx455_5,hx455_6,hx455_7⟩:=at_T73 HR1.out x5_1 p455 q455;have hw455_7:=hx455_7;have hw455_6:=hx455_6;have hw455_5:=hx455_5;have hw455_4:=hx455_4;have hw455_3:=hx455_3;have hw455_2:=hx455_2;have hw455_1:=hx455_1;have hw455_0:=hx455_0
        cases e455
        replace hx455_0:=cb HB hx455_0;replace hx455_1:=cb HB hx455_1;replace hx455_2:=cb HB hx455_2;replace hx455_3:=cb HB hx455_3;replace hx455_4:=cb HB hx455_4;replace hx455_5:=cb HB hx455_5;replace hx455_6:=cb HB hx455_6;replace hx455_7:=cb HB hx455_7;replace p455:=eq_true p455;replace q455:=eq_true q455;refine start_ (n:=10) (S:=fun w'=>qe8a w' (ad454.add ((x5_1).toNat * 8)) (.string ((rd_T73 l0 x5_1).f0)) (.string ((rd_T73 l0 x5_1).f1)) (.int .i64 ((rd_T73 l0 x5_1).f2)) (.string ((rd_T73 l0 x5_1).f3)) (.int .i64 ((rd_T73 l0 x5_1).f4)) (.int .i64 ((rd_T73 l0 x5_1).f5)) (.int .i64 ((rd_T73 l0 x5_1).f6)) (.int .i64 ((rd_T73 l0 x5_1).f7)) (qe8 w' (ad455.add ((x5_1).toNat * 8)) (.string ((rd_T73 l1 x5_1).f0)) (.string ((rd_T73 l1 x5_1).f1)) (.int .i64 ((rd_T73 l1 x5_1).f2)) (.string ((rd_T73 l1 x5_1).f3)) (.int .i64 ((rd_T73 l1 x5_1).f4)) (.int .i64 ((rd_T73 l1 x5_1).f5)) (.int .i64 ((rd_T73 l1 x5_1).f6)) (.int .i64 ((rd_T73 l1 x5_1).f7)))) (ds:=[]) _ (by kernel_rfl) rfl rfl ⟨((cb HB hw454_0).trans rfl),((cb HB hw454_1).trans rfl),((cb HB hw454_2).trans rfl),((cb HB hw454_3).trans rfl),((cb HB hw454_4).trans rfl),((cb HB hw454_5).trans rfl),((cb HB hw454_6).trans rfl),((cb HB hw454_7).trans rfl),((cb HB hw455_0).trans rfl),((cb HB hw455_1).trans rfl),((cb HB hw455_2).trans rfl),((cb HB hw455_3).trans rfl),((cb HB hw455_4).trans rfl),((cb HB hw455_5).trans rfl),((cb HB hw455_6).trans rfl),((cb HB hw455_7).trans rfl)⟩ (fun hHeld=>?_);refine with_tabW laws_eqOrderLineS.tab6 laws_eqOrderLineS.bits6 (fun HT_ HW_=>?_)
        generalize wr.drew=w11 at HB hx454_0 hx454_1 hx454_2 hx454_3 hx454_4 hx454_5 hx454_6 hx454_7 hx455_0 hx455_1 hx455_2 hx455_3 hx455_4 hx455_5 hx455_6 hx455_7 hHeld ⊢
        refine pA 0 17 HT_ ?_;refine pA 1 18 HT_ ?_;refine pA 2 19 HT_ ?_;refine pA 4 21 HT_ ?_;refine pA 5 22 HT_ ?_;refine pA 6 23 HT_ ?_;refine tA 3 20 HT_ HW_ hHeld ?_;refine tA 7 24 HT_ HW_ hHeld ?_;refine oA 8 25 HT_ (fun K hK=>?_);refine gA Try.func87 #[.agg #[.string ((rd_T73 l0 x5_1).f0),.string ((rd_T73 l0 x5_1).f1),.int .i64 ((rd_T73 l0 x5_1).f2),.string ((rd_T73 l0 x5_1).f3),.int .i64 ((rd_T73 l0 x5_1).f4),.int .i64 ((rd_T73 l0 x5_1).f5),.int .i64 ((rd_T73 l0 x5_1).f6),.int .i64 ((rd_T73 l0 x5_1).f7)],.agg #[.string ((rd_T73 l1 x5_1).f0),.string ((rd_T73 l1 x5_1).f1),.int .i64 ((rd_T73 l1 x5_1).f2),.string ((rd_T73 l1 x5_1).f3),.int .i64 ((rd_T73 l1 x5_1).f4),.int .i64 ((rd_T73 l1 x5_1).f5),.int .i64 ((rd_T73 l1 x5_1).f6),.int .i64 ((rd_T73 l1 x5_1).f7)]] ?_;(with_reducible refine (laws_eqOrderLine.calls ((rd_T73 l0 x5_1).f0) ((rd_T73 l0 x5_1).f1) ((rd_T73 l0 x5_1).f2) ((rd_T73 l0 x5_1).f3) ((rd_T73 l0 x5_1).f4) ((rd_T73 l0 x5_1).f5) ((rd_T73 l0 x5_1).f6) ((rd_T73 l0 x5_1).f7) ((rd_T73 l1 x5_1).f0) ((rd_T73 l1 x5_1).f1) ((rd_T73 l1 x5_1).f2) ((rd_T73 l1 x5_1).f3) ((rd_T73 l1 x5_1).f4) ((rd_T73 l1 x5_1).f5) ((rd_T73 l1 x5_1).f6) ((rd_T73 l1 x5_1).f7) false _ A7.out).mono ?_);rintro e w12 ⟨rfl,hb⟩;refine ⟨_,rfl,?_⟩;replace HB:=am (below_step (bs HB) hb);(try clear hb);(try clear hb2);(try clear hk);(try clear hi);refine hK.out _ _ ⟨((cb HB hw454_0).trans rfl),((cb HB hw454_1).trans rfl),((cb HB hw454_2).trans rfl),((cb HB hw454_3).trans rfl),((cb HB hw454_4).trans rfl),((cb HB hw454_5).trans rfl),((cb HB hw454_6).trans rfl),((cb HB hw454_7).trans rfl),((cb HB hw455_0).trans rfl),((cb HB hw455_1).trans rfl),((cb HB hw455_2).trans rfl),((cb HB hw455_3).trans rfl),((cb HB hw455_4).trans rfl),((cb HB hw455_5).trans rfl),((cb HB hw455_6).trans rfl),((cb HB hw455_7).trans rfl)⟩ (fun hHeld=>?_);clear hK K;refine nA 25 ?_;refine pA 9 26 HT_ ?_;refine done_ (done_of HT_.out (by kernel_rfl)) ?_
        try go_wp2
        go_ret
        exact ⟨ff,bs HB⟩
      ·rw [if_neg c6] at H
       exact absurd H (by simp)
     ·rw [if_neg c5] at H
      exact absurd H (by simp)
    ·rw [if_neg c4] at H;have c4b0:decide (x5_1<(l0.length:Int))=false:=decide_eq_false c4;clear c4;obtain rfl:=Option.some.inj H
     go_wp2
     go_ret
     exact ⟨ff,bs HB⟩
 ·rw [if_neg c3] at H;have c3b0:((l0.length:Int) == (l1.length:Int))=false:=beq_eq_false_iff_ne.mpr c3;have c3b1:((l0.length:Int) != (l1.length:Int))=true:=bne_iff_ne.mpr c3
  have c3b2:(l0.length == l1.length)=false:=by first|simpa using c3|(simp at c3 ⊢;omega)
  obtain rfl:=Option.some.inj H
  go_enter Try.func47,Try.ntmps47
  go_wp2
  go_ret
  exact ⟨ff,bs HB⟩
end Go.Proofs.Ytjjfjgdhloideaa.QI
namespace Go.Proofs.Ytjjfjgdhloideaa.QI
open Go.RowKit Go.Proofs.YtjjfjgdhloideaaW.PrintWords Go.Proofs.YtjjfjgdhloideaaW.PrintLast Go.Proofs.YtjjfjgdhloideaaW.PrintMore
attribute [local go_sem] max2_int min2_int max_two min_two max_three min_three max_four min_four   -- for this text's walks alone
set_option linter.unusedVariables false
set_option linter.unusedSimpArgs false
set_option maxHeartbeats 8000000 in
set_option maxRecDepth 100000 in
theorem laws_eqBook.calls (k:Nat) (A0_0:Option Addr) (c0_0:Nat) (l0_0:List (S71)) (A0_1:Option Addr) (c0_1:Nat) (l0_1:List (S73)) (A1_0:Option Addr) (c1_0:Nat) (l1_0:List (S71)) (A1_1:Option Addr) (c1_1:Nat) (l1_1:List (S73)) (r:Bool) (w:World) (hr0_0:Kd.C k71 w A0_0 l0_0.length l0_0) (hc0_0:l0_0.length≤c0_0) (hr0_1:Kd.C k73 w A0_1 l0_1.length l0_1) (hc0_1:l0_1.length≤c0_1) (hr1_0:Kd.C k71 w A1_0 l1_0.length l1_0) (hc1_0:l1_0.length≤c1_0) (hr1_1:Kd.C k73 w A1_1 l1_1.length l1_1) (hc1_1:l1_1.length≤c1_1) (h:laws_eqBook.f k l0_0 l0_1 l1_0 l1_1=some r) :
  Calls Try.prog 16 #[.agg #[.slice A0_0 l0_0.length c0_0,.slice A0_1 l0_1.length c0_1],.agg #[.slice A1_0 l1_0.length c1_0,.slice A1_1 l1_1.length c1_1]] w fun e w'=>e=.returned (.bool r)∧Below w.heap.size w w':=by
 have hu27:=Try.underlying27;have HR0_0:=am hr0_0;have HC0_0:=am hc0_0;clear hr0_0 hc0_0;have HR0_1:=am hr0_1;have HC0_1:=am hc0_1;clear hr0_1 hc0_1;have HR1_0:=am hr1_0;have HC1_0:=am hc1_0;clear hr1_0 hc1_0;have HR1_1:=am hr1_1;have HC1_1:=am hc1_1;clear hr1_1 hc1_1;have HB:=am (Below.refl w.heap.size w);have H:((laws_eqStockS.f k l0_0 l1_0).bind fun t459=>(if t459=true then ((laws_eqOrderLineS.f k l0_1 l1_1).bind fun t460=>(if t460=true then (some true) else (some false))) else (some false)))=some r:=h;clear h;replace H:=Option.bind_eq_some_iff.mp H;obtain ⟨t459,A30,H⟩:=H;replace H:(if t459=true then ((laws_eqOrderLineS.f k l0_1 l1_1).bind fun t460=>(if t460=true then (some true) else (some false))) else (some false))=some r:=H;have A3:=am A30;clear A30
 go_enter Try.func16,Try.ntmps16
 try go_wp2_with (first|((with_reducible refine gate_dst (N:=2) rfl ?_);refine bx 2 (cs:=#[.slice A0_0 l0_0.length c0_0,.slice A0_1 l0_1.length c0_1]) (t:=27) ?_;intro gb457 hg w4 hbox hb;have BK457:=am (hbox);have GW457:=am ((gs hg (bs HB)));have GE457:=am ((gs hg (bs HB)));replace HB:=am (below_step (bs HB) hb);clear hb hbox hg)|((with_reducible refine gate_dst (N:=3) rfl ?_);refine bx 3 (cs:=#[.slice A1_0 l1_0.length c1_0,.slice A1_1 l1_1.length c1_1]) (t:=27) ?_;intro gb458 hg w5 hbox hb;have BK458:=am (hbox);have GW458:=am ((gs hg (bs HB)));have GE458:=am ((gs hg (bs HB)));replace HB:=am (below_step (bs HB) hb);have NB457_458:=am ((gn hg (ks BK457)));have NB458_457:=am ((gm hg (ks BK457)));replace BK457:=am (blk_below (ks BK457) hb);clear hb hbox hg;have hnb6:=NB457_458.out;have hnc6:=NB458_457.out;obtain ⟨hcz7_0,hcz7_1,hfz7_0,hfz7_1⟩:=cf2 BK457;obtain ⟨hcz8_0,hcz8_1,hfz8_0,hfz8_1⟩:=cf2 BK458))
 go_at_call 46;(with_reducible refine (laws_eqStockS.calls k _ _ l0_0 _ _ l1_0 t459 _ (Kd.C_below HR0_0.out (bs HB)) HC0_0.out (Kd.C_below HR1_0.out (bs HB)) HC1_0.out A3.out).mono ?_);rintro e w9 ⟨rfl,hb⟩;replace BK457:=am (blk_below (ks BK457) hb);replace BK458:=am (blk_below (ks BK458) hb);replace HB:=am (below_step (bs HB) hb);(try clear hb);(try clear hb2);(try clear hk);(try clear hi)
 by_cases c10:t459=true
 ·subst c10
  have H1:((laws_eqOrderLineS.f k l0_1 l1_1).bind fun t460=>(if t460=true then (some true) else (some false)))=some r:=by rw [if_pos rfl] at H;exact H
  clear H;have H:=H1;clear H1;replace H:=Option.bind_eq_some_iff.mp H;obtain ⟨t460,A110,H⟩:=H;replace H:(if t460=true then (some true) else (some false))=some r:=H;have A11:=am A110;clear A110;have hnb12:=NB457_458.out;have hnc12:=NB458_457.out;obtain ⟨hcz13_0,hcz13_1,hfz13_0,hfz13_1⟩:=cf2 BK457;obtain ⟨hcz14_0,hcz14_1,hfz14_0,hfz14_1⟩:=cf2 BK458
  try go_wp2_with (fail)
  go_at_call 47;(with_reducible refine (laws_eqOrderLineS.calls k _ _ l0_1 _ _ l1_1 t460 _ (Kd.C_below HR0_1.out (bs HB)) HC0_1.out (Kd.C_below HR1_1.out (bs HB)) HC1_1.out A11.out).mono ?_);rintro e w15 ⟨rfl,hb⟩;replace BK457:=am (blk_below (ks BK457) hb);replace BK458:=am (blk_below (ks BK458) hb);replace HB:=am (below_step (bs HB) hb);(try clear hb);(try clear hb2);(try clear hk);(try clear hi)
  by_cases c16:t460=true
  ·subst c16
   have H1:(some true)=some r:=by rw [if_pos rfl] at H;exact H
   clear H;have H:=H1;clear H1;obtain rfl:=Option.some.inj H
   go_wp2
   go_ret
   exact ⟨ff,bs HB⟩
  ·replace c16:=Bool.eq_false_iff.mpr c16;subst c16
   have H1:(some false)=some r:=by rw [if_neg (show ¬ (false=true) by decide)] at H;exact H
   clear H;have H:=H1;clear H1;obtain rfl:=Option.some.inj H
   go_wp2
   go_ret
   exact ⟨ff,bs HB⟩
 ·replace c10:=Bool.eq_false_iff.mpr c10;subst c10
  have H1:(some false)=some r:=by rw [if_neg (show ¬ (false=true) by decide)] at H;exact H
  clear H;have H:=H1;clear H1;obtain rfl:=Option.some.inj H
  go_wp2
  go_ret
  exact ⟨ff,bs HB⟩
set_option maxHeartbeats 8000000 in
set_option maxRecDepth 100000 in
theorem laws_eqDiff.calls (a0_0:Int) (a0_1:ByteArray) (a0_2:ByteArray) (a0_3:Int) (a0_4:ByteArray) (a0_5:Int) (a1_0:Int) (a1_1:ByteArray) (a1_2:ByteArray) (a1_3:Int) (a1_4:ByteArray) (a1_5:Int) (r:Bool) (w:World) (h:laws_eqDiff.f a0_0 a0_1 a0_2 a0_3 a0_4 a0_5 a1_0 a1_1 a1_2 a1_3 a1_4 a1_5=some r) :
  Calls Try.prog 72 #[.agg #[.int .i64 a0_0,.string a0_1,.string a0_2,.int .i64 a0_3,.string a0_4,.int .i64 a0_5],.agg #[.int .i64 a1_0,.string a1_1,.string a1_2,.int .i64 a1_3,.string a1_4,.int .i64 a1_5]] w fun e w'=>e=.returned (.bool r)∧Below w.heap.size w w':=by
 have hu105:=Try.underlying105;have HB:=am (Below.refl w.heap.size w);have H:(if a0_0=a1_0 then (if a0_1.toList=a1_1.toList then (if a0_2.toList=a1_2.toList then (if a0_3=a1_3 then (if a0_4.toList=a1_4.toList then (if a0_5=a1_5 then (some true) else (some false)) else (some false)) else (some false)) else (some false)) else (some false)) else (some false))=some r:=h;clear h
 by_cases c3:a0_0=a1_0
 ·rw [if_pos c3] at H;have c3b0:(a0_0 == a1_0)=true:=beq_iff_eq.mpr c3;have c3b1:(a0_0 != a1_0)=false:=bne_eq_false_iff_eq.mpr c3;clear c3
  by_cases c4:a0_1.toList=a1_1.toList
  ·rw [if_pos c4] at H;have c4b0:(a0_1.toList == a1_1.toList)=true:=beq_iff_eq.mpr c4;have c4b1:(a0_1.toList != a1_1.toList)=false:=bne_eq_false_iff_eq.mpr c4;clear c4
   by_cases c5:a0_2.toList=a1_2.toList
   ·rw [if_pos c5] at H;have c5b0:(a0_2.toList == a1_2.toList)=true:=beq_iff_eq.mpr c5;have c5b1:(a0_2.toList != a1_2.toList)=false:=bne_eq_false_iff_eq.mpr c5;clear c5
    by_cases c6:a0_3=a1_3
    ·rw [if_pos c6] at H;have c6b0:(a0_3 == a1_3)=true:=beq_iff_eq.mpr c6;have c6b1:(a0_3 != a1_3)=false:=bne_eq_false_iff_eq.mpr c6;clear c6
     by_cases c7:a0_4.toList=a1_4.toList
     ·rw [if_pos c7] at H;have c7b0:(a0_4.toList == a1_4.toList)=true:=beq_iff_eq.mpr c7;have c7b1:(a0_4.toList != a1_4.toList)=false:=bne_eq_false_iff_eq.mpr c7;clear c7
      by_cases c8:a0_5=a1_5
      ·rw [if_pos c8] at H;have c8b0:(a0_5 == a1_5)=true:=beq_iff_eq.mpr c8;have c8b1:(a0_5 != a1_5)=false:=bne_eq_false_iff_eq.mpr c8;clear c8;obtain rfl:=Option.some.inj H
       go_enter Try.func72,Try.ntmps72
       go_wp2_with (first|((with_reducible refine gate_dst (N:=2) rfl ?_);refine bx 2 (cs:=#[.int .i64 a0_0,.string a0_1,.string a0_2,.int .i64 a0_3,.string a0_4,.int .i64 a0_5]) (t:=105) ?_;intro gb461 hg w9 hbox hb;have BK461:=am (hbox);have GW461:=am ((gs hg (bs HB)));have GE461:=am ((gs hg (bs HB)));replace HB:=am (below_step (bs HB) hb);clear hb hbox hg)|((with_reducible refine gate_dst (N:=3) rfl ?_);refine bx 3 (cs:=#[.int .i64 a1_0,.string a1_1,.string a1_2,.int .i64 a1_3,.string a1_4,.int .i64 a1_5]) (t:=105) ?_;intro gb462 hg w10 hbox hb;have BK462:=am (hbox);have GW462:=am ((gs hg (bs HB)));have GE462:=am ((gs hg (bs HB)));replace HB:=am (below_step (bs HB) hb);have NB461_462:=am ((gn hg (ks BK461)));have NB462_461:=am ((gm hg (ks BK461)));replace BK461:=am (blk_below (ks BK461) hb);clear hb hbox hg;have hnb11:=NB461_462.out;have hnc11:=NB462_461.out;obtain ⟨hcz12_0,hcz12_1,hcz12_2,hcz12_3,hcz12_4,hcz12_5,hfz12_0,hfz12_1,hfz12_2,hfz12_3,hfz12_4,hfz12_5⟩:=cf6 BK461;obtain ⟨hcz13_0,hcz13_1,hcz13_2,hcz13_3,hcz13_4,hcz13_5,hfz13_0,hfz13_1,hfz13_2,hfz13_3,hfz13_4,hfz13_5⟩:=cf6 BK462))
       go_ret
       exact ⟨ff,bs HB⟩
      ·rw [if_neg c8] at H;have c8b0:(a0_5 == a1_5)=false:=beq_eq_false_iff_ne.mpr c8;have c8b1:(a0_5 != a1_5)=true:=bne_iff_ne.mpr c8;obtain rfl:=Option.some.inj H
       go_enter Try.func72,Try.ntmps72
       go_wp2_with (first|((with_reducible refine gate_dst (N:=2) rfl ?_);refine bx 2 (cs:=#[.int .i64 a0_0,.string a0_1,.string a0_2,.int .i64 a0_3,.string a0_4,.int .i64 a0_5]) (t:=105) ?_;intro gb461 hg w14 hbox hb;have BK461:=am (hbox);have GW461:=am ((gs hg (bs HB)));have GE461:=am ((gs hg (bs HB)));replace HB:=am (below_step (bs HB) hb);clear hb hbox hg)|((with_reducible refine gate_dst (N:=3) rfl ?_);refine bx 3 (cs:=#[.int .i64 a1_0,.string a1_1,.string a1_2,.int .i64 a1_3,.string a1_4,.int .i64 a1_5]) (t:=105) ?_;intro gb462 hg w15 hbox hb;have BK462:=am (hbox);have GW462:=am ((gs hg (bs HB)));have GE462:=am ((gs hg (bs HB)));replace HB:=am (below_step (bs HB) hb);have NB461_462:=am ((gn hg (ks BK461)));have NB462_461:=am ((gm hg (ks BK461)));replace BK461:=am (blk_below (ks BK461) hb);clear hb hbox hg;have hnb16:=NB461_462.out;have hnc16:=NB462_461.out;obtain ⟨hcz17_0,hcz17_1,hcz17_2,hcz17_3,hcz17_4,hcz17_5,hfz17_0,hfz17_1,hfz17_2,hfz17_3,hfz17_4,hfz17_5⟩:=cf6 BK461;obtain ⟨hcz18_0,hcz18_1,hcz18_2,hcz18_3,hcz18_4,hcz18_5,hfz18_0,hfz18_1,hfz18_2,hfz18_3,hfz18_4,hfz18_5⟩:=cf6 BK462))
       go_ret
       exact ⟨ff,bs HB⟩
     ·rw [if_neg c7] at H;have c7b0:(a0_4.toList == a1_4.toList)=false:=beq_eq_false_iff_ne.mpr c7;have c7b1:(a0_4.toList != a1_4.toList)=true:=bne_iff_ne.mpr c7;obtain rfl:=Option.some.inj H
      go_enter Try.func72,Try.ntmps72
      go_wp2_with (first|((with_reducible refine gate_dst (N:=2) rfl ?_);refine bx 2 (cs:=#[.int .i64 a0_0,.string a0_1,.string a0_2,.int .i64 a0_3,.string a0_4,.int .i64 a0_5]) (t:=105) ?_;intro gb461 hg w19 hbox hb;have BK461:=am (hbox);have GW461:=am ((gs hg (bs HB)));have GE461:=am ((gs hg (bs HB)));replace HB:=am (below_step (bs HB) hb);clear hb hbox hg)|((with_reducible refine gate_dst (N:=3) rfl ?_);refine bx 3 (cs:=#[.int .i64 a1_0,.string a1_1,.string a1_2,.int .i64 a1_3,.string a1_4,.int .i64 a1_5]) (t:=105) ?_;intro gb462 hg w20 hbox hb;have BK462:=am (hbox);have GW462:=am ((gs hg (bs HB)));have GE462:=am ((gs hg (bs HB)));replace HB:=am (below_step (bs HB) hb);have NB461_462:=am ((gn hg (ks BK461)));have NB462_461:=am ((gm hg (ks BK461)));replace BK461:=am (blk_below (ks BK461) hb);clear hb hbox hg;have hnb21:=NB461_462.out;have hnc21:=NB462_461.out;obtain ⟨hcz22_0,hcz22_1,hcz22_2,hcz22_3,hcz22_4,hcz22_5,hfz22_0,hfz22_1,hfz22_2,hfz22_3,hfz22_4,hfz22_5⟩:=cf6 BK461;obtain ⟨hcz23_0,hcz23_1,hcz23_2,hcz23_3,hcz23_4,hcz23_5,hfz23_0,hfz23_1,hfz23_2,hfz23_3,hfz23_4,hfz23_5⟩:=cf6 BK462))
      go_ret
      exact ⟨ff,bs HB⟩
    ·rw [if_neg c6] at H;have c6b0:(a0_3 == a1_3)=false:=beq_eq_false_iff_ne.mpr c6;have c6b1:(a0_3 != a1_3)=true:=bne_iff_ne.mpr c6;obtain rfl:=Option.some.inj H
     go_enter Try.func72,Try.ntmps72
     go_wp2_with (first|((with_reducible refine gate_dst (N:=2) rfl ?_);refine bx 2 (cs:=#[.int .i64 a0_0,.string a0_1,.string a0_2,.int .i64 a0_3,.string a0_4,.int .i64 a0_5]) (t:=105) ?_;intro gb461 hg w24 hbox hb;have BK461:=am (hbox);have GW461:=am ((gs hg (bs HB)));have GE461:=am ((gs hg (bs HB)));replace HB:=am (below_step (bs HB) hb);clear hb hbox hg)|((with_reducible refine gate_dst (N:=3) rfl ?_);refine bx 3 (cs:=#[.int .i64 a1_0,.string a1_1,.string a1_2,.int .i64 a1_3,.string a1_4,.int .i64 a1_5]) (t:=105) ?_;intro gb462 hg w25 hbox hb;have BK462:=am (hbox);have GW462:=am ((gs hg (bs HB)));have GE462:=am ((gs hg (bs HB)));replace HB:=am (below_step (bs HB) hb);have NB461_462:=am ((gn hg (ks BK461)));have NB462_461:=am ((gm hg (ks BK461)));replace BK461:=am (blk_below (ks BK461) hb);clear hb hbox hg;have hnb26:=NB461_462.out;have hnc26:=NB462_461.out;obtain ⟨hcz27_0,hcz27_1,hcz27_2,hcz27_3,hcz27_4,hcz27_5,hfz27_0,hfz27_1,hfz27_2,hfz27_3,hfz27_4,hfz27_5⟩:=cf6 BK461;obtain ⟨hcz28_0,hcz28_1,hcz28_2,hcz28_3,hcz28_4,hcz28_5,hfz28_0,hfz28_1,hfz28_2,hfz28_3,hfz28_4,hfz28_5⟩:=cf6 BK462))
     go_ret
     exact ⟨ff,bs HB⟩
   ·rw [if_neg c5] at H;have c5b0:(a0_2.toList == a1_2.toList)=false:=beq_eq_false_iff_ne.mpr c5;have c5b1:(a0_2.toList != a1_2.toList)=true:=bne_iff_ne.mpr c5;obtain rfl:=Option.some.inj H
    go_enter Try.func72,Try.ntmps72
    go_wp2_with (first|((with_reducible refine gate_dst (N:=2) rfl ?_);refine bx 2 (cs:=#[.int .i64 a0_0,.string a0_1,.string a0_2,.int .i64 a0_3,.string a0_4,.int .i64 a0_5]) (t:=105) ?_;intro gb461 hg w29 hbox hb;have BK461:=am (hbox);have GW461:=am ((gs hg (bs HB)));have GE461:=am ((gs hg (bs HB)));replace HB:=am (below_step (bs HB) hb);clear hb hbox hg)|((with_reducible refine gate_dst (N:=3) rfl ?_);refine bx 3 (cs:=#[.int .i64 a1_0,.string a1_1,.string a1_2,.int .i64 a1_3,.string a1_4,.int .i64 a1_5]) (t:=105) ?_;intro gb462 hg w30 hbox hb;have BK462:=am (hbox);have GW462:=am ((gs hg (bs HB)));have GE462:=am ((gs hg (bs HB)));replace HB:=am (below_step (bs HB) hb);have NB461_462:=am ((gn hg (ks BK461)));have NB462_461:=am ((gm hg (ks BK461)));replace BK461:=am (blk_below (ks BK461) hb);clear hb hbox hg;have hnb31:=NB461_462.out;have hnc31:=NB462_461.out;obtain ⟨hcz32_0,hcz32_1,hcz32_2,hcz32_3,hcz32_4,hcz32_5,hfz32_0,hfz32_1,hfz32_2,hfz32_3,hfz32_4,hfz32_5⟩:=cf6 BK461;obtain ⟨hcz33_0,hcz33_1,hcz33_2,hcz33_3,hcz33_4,hcz33_5,hfz33_0,hfz33_1,hfz33_2,hfz33_3,hfz33_4,hfz33_5⟩:=cf6 BK462))
    go_ret
    exact ⟨ff,bs HB⟩
  ·rw [if_neg c4] at H;have c4b0:(a0_1.toList == a1_1.toList)=false:=beq_eq_false_iff_ne.mpr c4;have c4b1:(a0_1.toList != a1_1.toList)=true:=bne_iff_ne.mpr c4;obtain rfl:=Option.some.inj H
   go_enter Try.func72,Try.ntmps72
   go_wp2_with (first|((with_reducible refine gate_dst (N:=2) rfl ?_);refine bx 2 (cs:=#[.int .i64 a0_0,.string a0_1,.string a0_2,.int .i64 a0_3,.string a0_4,.int .i64 a0_5]) (t:=105) ?_;intro gb461 hg w34 hbox hb;have BK461:=am (hbox);have GW461:=am ((gs hg (bs HB)));have GE461:=am ((gs hg (bs HB)));replace HB:=am (below_step (bs HB) hb);clear hb hbox hg)|((with_reducible refine gate_dst (N:=3) rfl ?_);refine bx 3 (cs:=#[.int .i64 a1_0,.string a1_1,.string a1_2,.int .i64 a1_3,.string a1_4,.int .i64 a1_5]) (t:=105) ?_;intro gb462 hg w35 hbox hb;have BK462:=am (hbox);have GW462:=am ((gs hg (bs HB)));have GE462:=am ((gs hg (bs HB)));replace HB:=am (below_step (bs HB) hb);have NB461_462:=am ((gn hg (ks BK461)));have NB462_461:=am ((gm hg (ks BK461)));replace BK461:=am (blk_below (ks BK461) hb);clear hb hbox hg;have hnb36:=NB461_462.out;have hnc36:=NB462_461.out;obtain ⟨hcz37_0,hcz37_1,hcz37_2,hcz37_3,hcz37_4,hcz37_5,hfz37_0,hfz37_1,hfz37_2,hfz37_3,hfz37_4,hfz37_5⟩:=cf6 BK461;obtain ⟨hcz38_0,hcz38_1,hcz38_2,hcz38_3,hcz38_4,hcz38_5,hfz38_0,hfz38_1,hfz38_2,hfz38_3,hfz38_4,hfz38_5⟩:=cf6 BK462))
   go_ret
   exact ⟨ff,bs HB⟩
 ·rw [if_neg c3] at H;have c3b0:(a0_0 == a1_0)=false:=beq_eq_false_iff_ne.mpr c3;have c3b1:(a0_0 != a1_0)=true:=bne_iff_ne.mpr c3;obtain rfl:=Option.some.inj H
  go_enter Try.func72,Try.ntmps72
  go_wp2_with (first|((with_reducible refine gate_dst (N:=2) rfl ?_);refine bx 2 (cs:=#[.int .i64 a0_0,.string a0_1,.string a0_2,.int .i64 a0_3,.string a0_4,.int .i64 a0_5]) (t:=105) ?_;intro gb461 hg w39 hbox hb;have BK461:=am (hbox);have GW461:=am ((gs hg (bs HB)));have GE461:=am ((gs hg (bs HB)));replace HB:=am (below_step (bs HB) hb);clear hb hbox hg)|((with_reducible refine gate_dst (N:=3) rfl ?_);refine bx 3 (cs:=#[.int .i64 a1_0,.string a1_1,.string a1_2,.int .i64 a1_3,.string a1_4,.int .i64 a1_5]) (t:=105) ?_;intro gb462 hg w40 hbox hb;have BK462:=am (hbox);have GW462:=am ((gs hg (bs HB)));have GE462:=am ((gs hg (bs HB)));replace HB:=am (below_step (bs HB) hb);have NB461_462:=am ((gn hg (ks BK461)));have NB462_461:=am ((gm hg (ks BK461)));replace BK461:=am (blk_below (ks BK461) hb);clear hb hbox hg;have hnb41:=NB461_462.out;have hnc41:=NB462_461.out;obtain ⟨hcz42_0,hcz42_1,hcz42_2,hcz42_3,hcz42_4,hcz42_5,hfz42_0,hfz42_1,hfz42_2,hfz42_3,hfz42_4,hfz42_5⟩:=cf6 BK461;obtain ⟨hcz43_0,hcz43_1,hcz43_2,hcz43_3,hcz43_4,hcz43_5,hfz43_0,hfz43_1,hfz43_2,hfz43_3,hfz43_4,hfz43_5⟩:=cf6 BK462))
  go_ret
  exact ⟨ff,bs HB⟩
end Go.Proofs.Ytjjfjgdhloideaa.QI
namespace Go.Proofs.Ytjjfjgdhloideaa.QI
open Go.RowKit Go.Proofs.YtjjfjgdhloideaaW.PrintWords Go.Proofs.YtjjfjgdhloideaaW.PrintLast Go.Proofs.YtjjfjgdhloideaaW.PrintMore
attribute [local go_sem] max2_int min2_int max_two min_two max_three min_three max_four min_four   -- for this text's walks alone
set_option linter.unusedVariables false
set_option linter.unusedSimpArgs false
def laws_eqDiffS.T6 : Bool × List (List Nat × List Nat) := (true, [([], []), ([], []), ([0, 1], [0, 1]), ([2], [2]), ([], []), ([], []), ([4, 5], [4, 5]), ([6], [6]), ([3, 7], [3, 7]), ([8], [8])])
def laws_eqDiffS.B6 : List Nat := [0, 0, 3, 7, 0, 0, 48, 112, 255, 511]
theorem laws_eqDiffS.tab6 : rtab .any (opsOf Try.f28 6) = laws_eqDiffS.T6 := by kernel_rfl
theorem laws_eqDiffS.bits6 : waitsOk laws_eqDiffS.T6.2 laws_eqDiffS.B6 = true := by kernel_rfl
set_option maxHeartbeats 8000000 in
set_option maxRecDepth 100000 in
theorem laws_eqDiffS.calls (k:Nat) (A0:Option Addr) (c0:Nat) (l0:List (S105)) (A1:Option Addr) (c1:Nat) (l1:List (S105)) (r:Bool) (w:World) (hr0:Kd.C k105 w A0 l0.length l0) (hc0:l0.length≤c0) (hr1:Kd.C k105 w A1 l1.length l1) (hc1:l1.length≤c1) (h:laws_eqDiffS.f k l0 l1=some r) :
  Calls Try.prog 28 #[.slice A0 l0.length c0,.slice A1 l1.length c1] w fun e w'=>e=.returned (.bool r)∧Below w.heap.size w w':=by
 have hu105:=Try.underlying105;have HR0:=am hr0;have HC0:=am hc0;clear hr0 hc0;have HR1:=am hr1;have HC1:=am hc1;clear hr1 hc1;have HB:=am (Below.refl w.heap.size w);have H:(if (l0.length:Int)=(l1.length:Int) then (laws_eqDiffS.l0 k l0 l1 0) else (some false))=some r:=h;clear h
 by_cases c3:(l0.length:Int)=(l1.length:Int)
 ·rw [if_pos c3] at H;have c3b0:((l0.length:Int) == (l1.length:Int))=true:=beq_iff_eq.mpr c3;have c3b1:((l0.length:Int) != (l1.length:Int))=false:=bne_eq_false_iff_eq.mpr c3
  have c3b2:(l0.length == l1.length)=true:=by first|simpa using c3|(simp at c3 ⊢;omega)
  clear c3;have H':=am H;clear H
  go_enter Try.func28,Try.ntmps28
  go_wp2
  go_loopg [5] k (fun kq v5 w'=>∃ (x5_1:Int),v5=.int .i64 x5_1∧Aside0 (laws_eqDiffS.l0 kq l0 l1 x5_1=some r)∧Aside0 (kq≤k)∧Aside0 (Below w.heap.size w w'))
  case atStart=>exact ⟨(0),fg,H',⟨Nat.le_refl _⟩,⟨bs HB⟩⟩
  case round =>
   clear H'
   try clear c1
   try clear c2
   try clear p2
   try clear c3
   try clear c3b0
   try clear c3b1
   try clear c3b2
   obtain ⟨x5_1,rfl,HA,HK1,HB⟩:=hrel
   cases gk with
   | zero=>exact absurd HA.out (by simp [laws_eqDiffS.l0])
   | succ k1 =>
    have H:=HA.out;clear HA;simp only [laws_eqDiffS.l0] at H
    by_cases c4:x5_1<(l0.length:Int)
    ·rw [if_pos c4] at H;have c4b0:decide (x5_1<(l0.length:Int))=true:=decide_eq_true c4;clear c4
     by_cases c5:0≤x5_1
     ·rw [if_pos c5] at H;have c5b0:decide (0≤x5_1)=true:=decide_eq_true c5;clear c5
      by_cases c6:x5_1<(l1.length:Int)
      ·rw [if_pos c6] at H;have c6b0:decide (x5_1<(l1.length:Int))=true:=decide_eq_true c6;clear c6;replace H:=Option.bind_eq_some_iff.mp H;obtain ⟨t465,A70,H⟩:=H;replace H:(if t465=true then (laws_eqDiffS.l0 k1 l0 l1 (wrap64 (x5_1+1))) else (some false))=some r:=H;have A7:=am A70;clear A70
       by_cases c8:t465=true
       ·subst c8
        have H1:(laws_eqDiffS.l0 k1 l0 l1 (wrap64 (x5_1+1)))=some r:=by rw [if_pos rfl] at H;exact H
        clear H;have H:=H1;clear H1;have H':=am H;clear H
        try go_wp2
        replace HB:=am (below_drew1 HB.out);have p463:0≤(x5_1:Int):=oa;have q463:x5_1<(l0.length:Int):=oa;obtain ⟨ad463,e463,hx463_0,hx463_1,hx463_2,hx463_3,hx463_4,hx463_5⟩:=at_T105 HR0.out x5_1 p463 q463;have hw463_5:=hx463_5;have hw463_4:=hx463_4;have hw463_3:=hx463_3;have hw463_2:=hx463_2;have hw463_1:=hx463_1;have hw463_0:=hx463_0
        cases e463
        replace hx463_0:=cb HB hx463_0;replace hx463_1:=cb HB hx463_1;replace hx463_2:=cb HB hx463_2;replace hx463_3:=cb HB hx463_3;replace hx463_4:=cb HB hx463_4;replace hx463_5:=cb HB hx463_5;replace p463:=eq_true p463;replace q463:=eq_true q463;have p464:0≤(x5_1:Int):=oa;have q464:x5_1<(l1.length:Int):=oa;obtain ⟨ad464,e464,hx464_0,hx464_1,hx464_2,hx464_3,hx464_4,hx464_5⟩:=at_T105 HR1.out x5_1 p464 q464;have hw464_5:=hx464_5;have hw464_4:=hx464_4;have hw464_3:=hx464_3;have hw464_2:=hx464_2;have hw464_1:=hx464_1;have hw464_0:=hx464_0
        cases e464
        replace hx464_0:=cb HB hx464_0;replace hx464_1:=cb HB hx464_1;replace hx464_2:=cb HB hx464_2;replace hx464_3:=cb HB hx464_3;replace hx464_4:=cb HB hx464_4;replace hx464_5:=cb HB hx464_5;replace p464:=eq_true p464;replace q464:=eq_true q464;refine start_ (n:=10) (S:=fun w'=>qe6a w' (ad463.add ((x5_1).toNat * 6)) (.int .i64 ((rd_T105 l0 x5_1).f0)) (.string ((rd_T105 l0 x5_1).f1)) (.string ((rd_T105 l0 x5_1).f2)) (.int .i64 ((rd_T105 l0 x5_1).f3)) (.string ((rd_T105 l0 x5_1).f4)) (.int .i64 ((rd_T105 l0 x5_1).f5)) (qe6 w' (ad464.add ((x5_1).toNat * 6)) (.int .i64 ((rd_T105 l1 x5_1).f0)) (.string ((rd_T105 l1 x5_1).f1)) (.string ((rd_T105 l1 x5_1).f2)) (.int .i64 ((rd_T105 l1 x5_1).f3)) (.string ((rd_T105 l1 x5_1).f4)) (.int .i64 ((rd_T105 l1 x5_1).f5)))) (ds:=[]) _ (by kernel_rfl) rfl rfl ⟨((cb HB hw463_0).trans rfl),((cb HB hw463_1).trans rfl),((cb HB hw463_2).trans rfl),((cb HB hw463_3).trans rfl),((cb HB hw463_4).trans rfl),((cb HB hw463_5).trans rfl),((cb HB hw464_0).trans rfl),((cb HB hw464_1).trans rfl),((cb HB hw464_2).trans rfl),((cb HB hw464_3).trans rfl),((cb HB hw464_4).trans rfl),((cb HB hw464_5).trans rfl)⟩ (fun hHeld=>?_);refine with_tabW laws_eqDiffS.tab6 laws_eqDiffS.bits6 (fun HT_ HW_=>?_)
        generalize wr.drew=w9 at HB hx463_0 hx463_1 hx463_2 hx463_3 hx463_4 hx463_5 hx464_0 hx464_1 hx464_2 hx464_3 hx464_4 hx464_5 hHeld ⊢
        refine pA 0 17 HT_ ?_;refine pA 1 18 HT_ ?_;refine pA 2 19 HT_ ?_;refine pA 4 21 HT_ ?_;refine pA 5 22 HT_ ?_;refine pA 6 23 HT_ ?_;refine tA 3 20 HT_ HW_ hHeld ?_;refine tA 7 24 HT_ HW_ hHeld ?_;refine oA 8 25 HT_ (fun K hK=>?_);refine gA Try.func72 #[.agg #[.int .i64 ((rd_T105 l0 x5_1).f0),.string ((rd_T105 l0 x5_1).f1),.string ((rd_T105 l0 x5_1).f2),.int .i64 ((rd_T105 l0 x5_1).f3),.string ((rd_T105 l0 x5_1).f4),.int .i64 ((rd_T105 l0 x5_1).f5)],.agg #[.int .i64 ((rd_T105 l1 x5_1).f0),.string ((rd_T105 l1 x5_1).f1),.string ((rd_T105 l1 x5_1).f2),.int .i64 ((rd_T105 l1 x5_1).f3),.string ((rd_T105 l1 x5_1).f4),.int .i64 ((rd_T105 l1 x5_1).f5)]] ?_;(with_reducible refine (laws_eqDiff.calls ((rd_T105 l0 x5_1).f0) ((rd_T105 l0 x5_1).f1) ((rd_T105 l0 x5_1).f2) ((rd_T105 l0 x5_1).f3) ((rd_T105 l0 x5_1).f4) ((rd_T105 l0 x5_1).f5) ((rd_T105 l1 x5_1).f0) ((rd_T105 l1 x5_1).f1) ((rd_T105 l1 x5_1).f2) ((rd_T105 l1 x5_1).f3) ((rd_T105 l1 x5_1).f4) ((rd_T105 l1 x5_1).f5) true _ A7.out).mono ?_);rintro e w10 ⟨rfl,hb⟩;refine ⟨_,rfl,?_⟩;replace HB:=am (below_step (bs HB) hb);(try clear hb);(try clear hb2);(try clear hk);(try clear hi);refine hK.out _ _ ⟨((cb HB hw463_0).trans rfl),((cb HB hw463_1).trans rfl),((cb HB hw463_2).trans rfl),((cb HB hw463_3).trans rfl),((cb HB hw463_4).trans rfl),((cb HB hw463_5).trans rfl),((cb HB hw464_0).trans rfl),((cb HB hw464_1).trans rfl),((cb HB hw464_2).trans rfl),((cb HB hw464_3).trans rfl),((cb HB hw464_4).trans rfl),((cb HB hw464_5).trans rfl)⟩ (fun hHeld=>?_);clear hK K;refine nA 25 ?_;refine pA 9 26 HT_ ?_;refine done_ (done_of HT_.out (by kernel_rfl)) ?_
        try go_wp2
        go_roundg k1
        case measure=>have:=HK1.out;omega
        case rel=>exact ⟨(wrap64 (x5_1+1)),fg,H',⟨by have:=HK1.out;omega⟩,⟨bs HB⟩⟩
       ·replace c8:=Bool.eq_false_iff.mpr c8;subst c8
        have H1:(some false)=some r:=by rw [if_neg (show ¬ (false=true) by decide)] at H;exact H
        clear H;have H:=H1;clear H1;obtain rfl:=Option.some.inj H
        try go_wp2
        replace HB:=am (below_drew1 HB.out);have p463:0≤(x5_1:Int):=oa;have q463:x5_1<(l0.length:Int):=oa;obtain ⟨ad463,e463,hx463_0,hx463_1,hx463_2,hx463_3,hx463_4,hx463_5⟩:=at_T105 HR0.out x5_1 p463 q463;have hw463_5:=hx463_5;have hw463_4:=hx463_4;have hw463_3:=hx463_3;have hw463_2:=hx463_2;have hw463_1:=hx463_1;have hw463_0:=hx463_0
        cases e463
        replace hx463_0:=cb HB hx463_0;replace hx463_1:=cb HB hx463_1;replace hx463_2:=cb HB hx463_2;replace hx463_3:=cb HB hx463_3;replace hx463_4:=cb HB hx463_4;replace hx463_5:=cb HB hx463_5;replace p463:=eq_true p463;replace q463:=eq_true q463;have p464:0≤(x5_1:Int):=oa;have q464:x5_1<(l1.length:Int):=oa;obtain ⟨ad464,e464,hx464_0,hx464_1,hx464_2,hx464_3,hx464_4,hx464_5⟩:=at_T105 HR1.out x5_1 p464 q464;have hw464_5:=hx464_5;have hw464_4:=hx464_4;have hw464_3:=hx464_3;have hw464_2:=hx464_2;have hw464_1:=hx464_1;have hw464_0:=hx464_0
        cases e464
        replace hx464_0:=cb HB hx464_0;replace hx464_1:=cb HB hx464_1;replace hx464_2:=cb HB hx464_2;replace hx464_3:=cb HB hx464_3;replace hx464_4:=cb HB hx464_4;replace hx464_5:=cb HB hx464_5;replace p464:=eq_true p464;replace q464:=eq_true q464;refine start_ (n:=10) (S:=fun w'=>qe6a w' (ad463.add ((x5_1).toNat * 6)) (.int .i64 ((rd_T105 l0 x5_1).f0)) (.string ((rd_T105 l0 x5_1).f1)) (.string ((rd_T105 l0 x5_1).f2)) (.int .i64 ((rd_T105 l0 x5_1).f3)) (.string ((rd_T105 l0 x5_1).f4)) (.int .i64 ((rd_T105 l0 x5_1).f5)) (qe6 w' (ad464.add ((x5_1).toNat * 6)) (.int .i64 ((rd_T105 l1 x5_1).f0)) (.string ((rd_T105 l1 x5_1).f1)) (.string ((rd_T105 l1 x5_1).f2)) (.int .i64 ((rd_T105 l1 x5_1).f3)) (.string ((rd_T105 l1 x5_1).f4)) (.int .i64 ((rd_T105 l1 x5_1).f5)))) (ds:=[]) _ (by kernel_rfl) rfl rfl ⟨((cb HB hw463_0).trans rfl),((cb HB hw463_1).trans rfl),((cb HB hw463_2).trans rfl),((cb HB hw463_3).trans rfl),((cb HB hw463_4).trans rfl),((cb HB hw463_5).trans rfl),((cb HB hw464_0).trans rfl),((cb HB hw464_1).trans rfl),((cb HB hw464_2).trans rfl),((cb HB hw464_3).trans rfl),((cb HB hw464_4).trans rfl),((cb HB hw464_5).trans rfl)⟩ (fun hHeld=>?_);refine with_tabW laws_eqDiffS.tab6 laws_eqDiffS.bits6 (fun HT_ HW_=>?_)
        generalize wr.drew=w11 at HB hx463_0 hx463_1 hx463_2 hx463_3 hx463_4 hx463_5 hx464_0 hx464_1 hx464_2 hx464_3 hx464_4 hx464_5 hHeld ⊢
        refine pA 0 17 HT_ ?_;refine pA 1 18 HT_ ?_;refine pA 2 19 HT_ ?_;refine pA 4 21 HT_ ?_;refine pA 5 22 HT_ ?_;refine pA 6 23 HT_ ?_;refine tA 3 20 HT_ HW_ hHeld ?_;refine tA 7 24 HT_ HW_ hHeld ?_;refine oA 8 25 HT_ (fun K hK=>?_);refine gA Try.func72 #[.agg #[.int .i64 ((rd_T105 l0 x5_1).f0),.string ((rd_T105 l0 x5_1).f1),.string ((rd_T105 l0 x5_1).f2),.int .i64 ((rd_T105 l0 x5_1).f3),.string ((rd_T105 l0 x5_1).f4),.int .i64 ((rd_T105 l0 x5_1).f5)],.agg #[.int .i64 ((rd_T105 l1 x5_1).f0),.string ((rd_T105 l1 x5_1).f1),.string ((rd_T105 l1 x5_1).f2),.int .i64 ((rd_T105 l1 x5_1).f3),.string ((rd_T105 l1 x5_1).f4),.int .i64 ((rd_T105 l1 x5_1).f5)]] ?_;(with_reducible refine (laws_eqDiff.calls ((rd_T105 l0 x5_1).f0) ((rd_T105 l0 x5_1).f1) ((rd_T105 l0 x5_1).f2) ((rd_T105 l0 x5_1).f3) ((rd_T105 l0 x5_1).f4) ((rd_T105 l0 x5_1).f5) ((rd_T105 l1 x5_1).f0) ((rd_T105 l1 x5_1).f1) ((rd_T105 l1 x5_1).f2) ((rd_T105 l1 x5_1).f3) ((rd_T105 l1 x5_1).f4) ((rd_T105 l1 x5_1).f5) false _ A7.out).mono ?_);rintro e w12 ⟨rfl,hb⟩;refine ⟨_,rfl,?_⟩;replace HB:=am (below_step (bs HB) hb);(try clear hb);(try clear hb2);(try clear hk);(try clear hi);refine hK.out _ _ ⟨((cb HB hw463_0).trans rfl),((cb HB hw463_1).trans rfl),((cb HB hw463_2).trans rfl),((cb HB hw463_3).trans rfl),((cb HB hw463_4).trans rfl),((cb HB hw463_5).trans rfl),((cb HB hw464_0).trans rfl),((cb HB hw464_1).trans rfl),((cb HB hw464_2).trans rfl),((cb HB hw464_3).trans rfl),((cb HB hw464_4).trans rfl),((cb HB hw464_5).trans rfl)⟩ (fun hHeld=>?_);clear hK K;refine nA 25 ?_;refine pA 9 26 HT_ ?_;refine done_ (done_of HT_.out (by kernel_rfl)) ?_
        try go_wp2
        go_ret
        exact ⟨ff,bs HB⟩
      ·rw [if_neg c6] at H
       exact absurd H (by simp)
     ·rw [if_neg c5] at H
      exact absurd H (by simp)
    ·rw [if_neg c4] at H;have c4b0:decide (x5_1<(l0.length:Int))=false:=decide_eq_false c4;clear c4;obtain rfl:=Option.some.inj H
     go_wp2
     go_ret
     exact ⟨ff,bs HB⟩
 ·rw [if_neg c3] at H;have c3b0:((l0.length:Int) == (l1.length:Int))=false:=beq_eq_false_iff_ne.mpr c3;have c3b1:((l0.length:Int) != (l1.length:Int))=true:=bne_iff_ne.mpr c3
  have c3b2:(l0.length == l1.length)=false:=by first|simpa using c3|(simp at c3 ⊢;omega)
  obtain rfl:=Option.some.inj H
  go_enter Try.func28,Try.ntmps28
  go_wp2
  go_ret
  exact ⟨ff,bs HB⟩
end Go.Proofs.Ytjjfjgdhloideaa.QI
namespace Go.Proofs.Ytjjfjgdhloideaa.QI
open Go.RowKit Go.Proofs.YtjjfjgdhloideaaW.PrintWords Go.Proofs.YtjjfjgdhloideaaW.PrintLast Go.Proofs.YtjjfjgdhloideaaW.PrintMore
attribute [local go_sem] max2_int min2_int max_two min_two max_three min_three max_four min_four   -- for this text's walks alone
set_option linter.unusedVariables false
set_option linter.unusedSimpArgs false
set_option maxHeartbeats 8000000 in
set_option maxRecDepth 100000 in
theorem laws_eqOut.calls (a0_0:ByteArray) (a0_1:Int) (a0_2:ByteArray) (a0_3:Int) (a0_4:Int) (a1_0:ByteArray) (a1_1:Int) (a1_2:ByteArray) (a1_3:Int) (a1_4:Int) (r:Bool) (w:World) (h:laws_eqOut.f a0_0 a0_1 a0_2 a0_3 a0_4 a1_0 a1_1 a1_2 a1_3 a1_4=some r) :
  Calls Try.prog 73 #[.agg #[.string a0_0,.int .i64 a0_1,.string a0_2,.int .i64 a0_3,.int .i64 a0_4],.agg #[.string a1_0,.int .i64 a1_1,.string a1_2,.int .i64 a1_3,.int .i64 a1_4]] w fun e w'=>e=.returned (.bool r)∧Below w.heap.size w w':=by
 have hu108:=Try.underlying108;have HB:=am (Below.refl w.heap.size w);have H:(if a0_0.toList=a1_0.toList then (if a0_1=a1_1 then (if a0_2.toList=a1_2.toList then (if a0_3=a1_3 then (if a0_4=a1_4 then (some true) else (some false)) else (some false)) else (some false)) else (some false)) else (some false))=some r:=h;clear h
 by_cases c3:a0_0.toList=a1_0.toList
 ·rw [if_pos c3] at H;have c3b0:(a0_0.toList == a1_0.toList)=true:=beq_iff_eq.mpr c3;have c3b1:(a0_0.toList != a1_0.toList)=false:=bne_eq_false_iff_eq.mpr c3;clear c3
  by_cases c4:a0_1=a1_1
  ·rw [if_pos c4] at H;have c4b0:(a0_1 == a1_1)=true:=beq_iff_eq.mpr c4;have c4b1:(a0_1 != a1_1)=false:=bne_eq_false_iff_eq.mpr c4;clear c4
   by_cases c5:a0_2.toList=a1_2.toList
   ·rw [if_pos c5] at H;have c5b0:(a0_2.toList == a1_2.toList)=true:=beq_iff_eq.mpr c5;have c5b1:(a0_2.toList != a1_2.toList)=false:=bne_eq_false_iff_eq.mpr c5;clear c5
    by_cases c6:a0_3=a1_3
    ·rw [if_pos c6] at H;have c6b0:(a0_3 == a1_3)=true:=beq_iff_eq.mpr c6;have c6b1:(a0_3 != a1_3)=false:=bne_eq_false_iff_eq.mpr c6;clear c6
     by_cases c7:a0_4=a1_4
     ·rw [if_pos c7] at H;have c7b0:(a0_4 == a1_4)=true:=beq_iff_eq.mpr c7;have c7b1:(a0_4 != a1_4)=false:=bne_eq_false_iff_eq.mpr c7;clear c7;obtain rfl:=Option.some.inj H
      go_enter Try.func73,Try.ntmps73
      go_wp2_with (first|((with_reducible refine gate_dst (N:=2) rfl ?_);refine bx 2 (cs:=#[.string a0_0,.int .i64 a0_1,.string a0_2,.int .i64 a0_3,.int .i64 a0_4]) (t:=108) ?_;intro gb466 hg w8 hbox hb;have BK466:=am (hbox);have GW466:=am ((gs hg (bs HB)));have GE466:=am ((gs hg (bs HB)));replace HB:=am (below_step (bs HB) hb);clear hb hbox hg)|((with_reducible refine gate_dst (N:=3) rfl ?_);refine bx 3 (cs:=#[.string a1_0,.int .i64 a1_1,.string a1_2,.int .i64 a1_3,.int .i64 a1_4]) (t:=108) ?_;intro gb467 hg w9 hbox hb;have BK467:=am (hbox);have GW467:=am ((gs hg (bs HB)));have GE467:=am ((gs hg (bs HB)));replace HB:=am (below_step (bs HB) hb);have NB466_467:=am ((gn hg (ks BK466)));have NB467_466:=am ((gm hg (ks BK466)));replace BK466:=am (blk_below (ks BK466) hb);clear hb hbox hg;have hnb10:=NB466_467.out;have hnc10:=NB467_466.out;obtain ⟨hcz11_0,hcz11_1,hcz11_2,hcz11_3,hcz11_4,hfz11_0,hfz11_1,hfz11_2,hfz11_3,hfz11_4⟩:=cf5 BK466;obtain ⟨hcz12_0,hcz12_1,hcz12_2,hcz12_3,hcz12_4,hfz12_0,hfz12_1,hfz12_2,hfz12_3,hfz12_4⟩:=cf5 BK467))
      go_ret
      exact ⟨ff,bs HB⟩
     ·rw [if_neg c7] at H;have c7b0:(a0_4 == a1_4)=false:=beq_eq_false_iff_ne.mpr c7;have c7b1:(a0_4 != a1_4)=true:=bne_iff_ne.mpr c7;obtain rfl:=Option.some.inj H
      go_enter Try.func73,Try.ntmps73
      go_wp2_with (first|((with_reducible refine gate_dst (N:=2) rfl ?_);refine bx 2 (cs:=#[.string a0_0,.int .i64 a0_1,.string a0_2,.int .i64 a0_3,.int .i64 a0_4]) (t:=108) ?_;intro gb466 hg w13 hbox hb;have BK466:=am (hbox);have GW466:=am ((gs hg (bs HB)));have GE466:=am ((gs hg (bs HB)));replace HB:=am (below_step (bs HB) hb);clear hb hbox hg)|((with_reducible refine gate_dst (N:=3) rfl ?_);refine bx 3 (cs:=#[.string a1_0,.int .i64 a1_1,.string a1_2,.int .i64 a1_3,.int .i64 a1_4]) (t:=108) ?_;intro gb467 hg w14 hbox hb;have BK467:=am (hbox);have GW467:=am ((gs hg (bs HB)));have GE467:=am ((gs hg (bs HB)));replace HB:=am (below_step (bs HB) hb);have NB466_467:=am ((gn hg (ks BK466)));have NB467_466:=am ((gm hg (ks BK466)));replace BK466:=am (blk_below (ks BK466) hb);clear hb hbox hg;have hnb15:=NB466_467.out;have hnc15:=NB467_466.out;obtain ⟨hcz16_0,hcz16_1,hcz16_2,hcz16_3,hcz16_4,hfz16_0,hfz16_1,hfz16_2,hfz16_3,hfz16_4⟩:=cf5 BK466;obtain ⟨hcz17_0,hcz17_1,hcz17_2,hcz17_3,hcz17_4,hfz17_0,hfz17_1,hfz17_2,hfz17_3,hfz17_4⟩:=cf5 BK467))
      go_ret
      exact ⟨ff,bs HB⟩
    ·rw [if_neg c6] at H;have c6b0:(a0_3 == a1_3)=false:=beq_eq_false_iff_ne.mpr c6;have c6b1:(a0_3 != a1_3)=true:=bne_iff_ne.mpr c6;obtain rfl:=Option.some.inj H
     go_enter Try.func73,Try.ntmps73
     go_wp2_with (first|((with_reducible refine gate_dst (N:=2) rfl ?_);refine bx 2 (cs:=#[.string a0_0,.int .i64 a0_1,.string a0_2,.int .i64 a0_3,.int .i64 a0_4]) (t:=108) ?_;intro gb466 hg w18 hbox hb;have BK466:=am (hbox);have GW466:=am ((gs hg (bs HB)));have GE466:=am ((gs hg (bs HB)));replace HB:=am (below_step (bs HB) hb);clear hb hbox hg)|((with_reducible refine gate_dst (N:=3) rfl ?_);refine bx 3 (cs:=#[.string a1_0,.int .i64 a1_1,.string a1_2,.int .i64 a1_3,.int .i64 a1_4]) (t:=108) ?_;intro gb467 hg w19 hbox hb;have BK467:=am (hbox);have GW467:=am ((gs hg (bs HB)));have GE467:=am ((gs hg (bs HB)));replace HB:=am (below_step (bs HB) hb);have NB466_467:=am ((gn hg (ks BK466)));have NB467_466:=am ((gm hg (ks BK466)));replace BK466:=am (blk_below (ks BK466) hb);clear hb hbox hg;have hnb20:=NB466_467.out;have hnc20:=NB467_466.out;obtain ⟨hcz21_0,hcz21_1,hcz21_2,hcz21_3,hcz21_4,hfz21_0,hfz21_1,hfz21_2,hfz21_3,hfz21_4⟩:=cf5 BK466;obtain ⟨hcz22_0,hcz22_1,hcz22_2,hcz22_3,hcz22_4,hfz22_0,hfz22_1,hfz22_2,hfz22_3,hfz22_4⟩:=cf5 BK467))
     go_ret
     exact ⟨ff,bs HB⟩
   ·rw [if_neg c5] at H;have c5b0:(a0_2.toList == a1_2.toList)=false:=beq_eq_false_iff_ne.mpr c5;have c5b1:(a0_2.toList != a1_2.toList)=true:=bne_iff_ne.mpr c5;obtain rfl:=Option.some.inj H
    go_enter Try.func73,Try.ntmps73
    go_wp2_with (first|((with_reducible refine gate_dst (N:=2) rfl ?_);refine bx 2 (cs:=#[.string a0_0,.int .i64 a0_1,.string a0_2,.int .i64 a0_3,.int .i64 a0_4]) (t:=108) ?_;intro gb466 hg w23 hbox hb;have BK466:=am (hbox);have GW466:=am ((gs hg (bs HB)));have GE466:=am ((gs hg (bs HB)));replace HB:=am (below_step (bs HB) hb);clear hb hbox hg)|((with_reducible refine gate_dst (N:=3) rfl ?_);refine bx 3 (cs:=#[.string a1_0,.int .i64 a1_1,.string a1_2,.int .i64 a1_3,.int .i64 a1_4]) (t:=108) ?_;intro gb467 hg w24 hbox hb;have BK467:=am (hbox);have GW467:=am ((gs hg (bs HB)));have GE467:=am ((gs hg (bs HB)));replace HB:=am (below_step (bs HB) hb);have NB466_467:=am ((gn hg (ks BK466)));have NB467_466:=am ((gm hg (ks BK466)));replace BK466:=am (blk_below (ks BK466) hb);clear hb hbox hg;have hnb25:=NB466_467.out;have hnc25:=NB467_466.out;obtain ⟨hcz26_0,hcz26_1,hcz26_2,hcz26_3,hcz26_4,hfz26_0,hfz26_1,hfz26_2,hfz26_3,hfz26_4⟩:=cf5 BK466;obtain ⟨hcz27_0,hcz27_1,hcz27_2,hcz27_3,hcz27_4,hfz27_0,hfz27_1,hfz27_2,hfz27_3,hfz27_4⟩:=cf5 BK467))
    go_ret
    exact ⟨ff,bs HB⟩
  ·rw [if_neg c4] at H;have c4b0:(a0_1 == a1_1)=false:=beq_eq_false_iff_ne.mpr c4;have c4b1:(a0_1 != a1_1)=true:=bne_iff_ne.mpr c4;obtain rfl:=Option.some.inj H
   go_enter Try.func73,Try.ntmps73
   go_wp2_with (first|((with_reducible refine gate_dst (N:=2) rfl ?_);refine bx 2 (cs:=#[.string a0_0,.int .i64 a0_1,.string a0_2,.int .i64 a0_3,.int .i64 a0_4]) (t:=108) ?_;intro gb466 hg w28 hbox hb;have BK466:=am (hbox);have GW466:=am ((gs hg (bs HB)));have GE466:=am ((gs hg (bs HB)));replace HB:=am (below_step (bs HB) hb);clear hb hbox hg)|((with_reducible refine gate_dst (N:=3) rfl ?_);refine bx 3 (cs:=#[.string a1_0,.int .i64 a1_1,.string a1_2,.int .i64 a1_3,.int .i64 a1_4]) (t:=108) ?_;intro gb467 hg w29 hbox hb;have BK467:=am (hbox);have GW467:=am ((gs hg (bs HB)));have GE467:=am ((gs hg (bs HB)));replace HB:=am (below_step (bs HB) hb);have NB466_467:=am ((gn hg (ks BK466)));have NB467_466:=am ((gm hg (ks BK466)));replace BK466:=am (blk_below (ks BK466) hb);clear hb hbox hg;have hnb30:=NB466_467.out;have hnc30:=NB467_466.out;obtain ⟨hcz31_0,hcz31_1,hcz31_2,hcz31_3,hcz31_4,hfz31_0,hfz31_1,hfz31_2,hfz31_3,hfz31_4⟩:=cf5 BK466;obtain ⟨hcz32_0,hcz32_1,hcz32_2,hcz32_3,hcz32_4,hfz32_0,hfz32_1,hfz32_2,hfz32_3,hfz32_4⟩:=cf5 BK467))
   go_ret
   exact ⟨ff,bs HB⟩
 ·rw [if_neg c3] at H;have c3b0:(a0_0.toList == a1_0.toList)=false:=beq_eq_false_iff_ne.mpr c3;have c3b1:(a0_0.toList != a1_0.toList)=true:=bne_iff_ne.mpr c3;obtain rfl:=Option.some.inj H
  go_enter Try.func73,Try.ntmps73
  go_wp2_with (first|((with_reducible refine gate_dst (N:=2) rfl ?_);refine bx 2 (cs:=#[.string a0_0,.int .i64 a0_1,.string a0_2,.int .i64 a0_3,.int .i64 a0_4]) (t:=108) ?_;intro gb466 hg w33 hbox hb;have BK466:=am (hbox);have GW466:=am ((gs hg (bs HB)));have GE466:=am ((gs hg (bs HB)));replace HB:=am (below_step (bs HB) hb);clear hb hbox hg)|((with_reducible refine gate_dst (N:=3) rfl ?_);refine bx 3 (cs:=#[.string a1_0,.int .i64 a1_1,.string a1_2,.int .i64 a1_3,.int .i64 a1_4]) (t:=108) ?_;intro gb467 hg w34 hbox hb;have BK467:=am (hbox);have GW467:=am ((gs hg (bs HB)));have GE467:=am ((gs hg (bs HB)));replace HB:=am (below_step (bs HB) hb);have NB466_467:=am ((gn hg (ks BK466)));have NB467_466:=am ((gm hg (ks BK466)));replace BK466:=am (blk_below (ks BK466) hb);clear hb hbox hg;have hnb35:=NB466_467.out;have hnc35:=NB467_466.out;obtain ⟨hcz36_0,hcz36_1,hcz36_2,hcz36_3,hcz36_4,hfz36_0,hfz36_1,hfz36_2,hfz36_3,hfz36_4⟩:=cf5 BK466;obtain ⟨hcz37_0,hcz37_1,hcz37_2,hcz37_3,hcz37_4,hfz37_0,hfz37_1,hfz37_2,hfz37_3,hfz37_4⟩:=cf5 BK467))
  go_ret
  exact ⟨ff,bs HB⟩
end Go.Proofs.Ytjjfjgdhloideaa.QI
namespace Go.Proofs.Ytjjfjgdhloideaa.QI
open Go.RowKit Go.Proofs.YtjjfjgdhloideaaW.PrintWords Go.Proofs.YtjjfjgdhloideaaW.PrintLast Go.Proofs.YtjjfjgdhloideaaW.PrintMore
attribute [local go_sem] max2_int min2_int max_two min_two max_three min_three max_four min_four   -- for this text's walks alone
set_option linter.unusedVariables false
set_option linter.unusedSimpArgs false
def laws_eqOutS.T6 : Bool × List (List Nat × List Nat) := (true, [([], []), ([], []), ([0, 1], [0, 1]), ([2], [2]), ([], []), ([], []), ([4, 5], [4, 5]), ([6], [6]), ([3, 7], [3, 7]), ([8], [8])])
def laws_eqOutS.B6 : List Nat := [0, 0, 3, 7, 0, 0, 48, 112, 255, 511]
theorem laws_eqOutS.tab6 : rtab .any (opsOf Try.f29 6) = laws_eqOutS.T6 := by kernel_rfl
theorem laws_eqOutS.bits6 : waitsOk laws_eqOutS.T6.2 laws_eqOutS.B6 = true := by kernel_rfl
set_option maxHeartbeats 8000000 in
set_option maxRecDepth 100000 in
theorem laws_eqOutS.calls (k:Nat) (A0:Option Addr) (c0:Nat) (l0:List (S108)) (A1:Option Addr) (c1:Nat) (l1:List (S108)) (r:Bool) (w:World) (hr0:Kd.C k108 w A0 l0.length l0) (hc0:l0.length≤c0) (hr1:Kd.C k108 w A1 l1.length l1) (hc1:l1.length≤c1) (h:laws_eqOutS.f k l0 l1=some r) :
  Calls Try.prog 29 #[.slice A0 l0.length c0,.slice A1 l1.length c1] w fun e w'=>e=.returned (.bool r)∧Below w.heap.size w w':=by
 have hu108:=Try.underlying108;have HR0:=am hr0;have HC0:=am hc0;clear hr0 hc0;have HR1:=am hr1;have HC1:=am hc1;clear hr1 hc1;have HB:=am (Below.refl w.heap.size w);have H:(if (l0.length:Int)=(l1.length:Int) then (laws_eqOutS.l0 k l0 l1 0) else (some false))=some r:=h;clear h
 by_cases c3:(l0.length:Int)=(l1.length:Int)
 ·rw [if_pos c3] at H;have c3b0:((l0.length:Int) == (l1.length:Int))=true:=beq_iff_eq.mpr c3;have c3b1:((l0.length:Int) != (l1.length:Int))=false:=bne_eq_false_iff_eq.mpr c3
  have c3b2:(l0.length == l1.length)=true:=by first|simpa using c3|(simp at c3 ⊢;omega)
  clear c3;have H':=am H;clear H
  go_enter Try.func29,Try.ntmps29
  go_wp2
  go_loopg [5] k (fun kq v5 w'=>∃ (x5_1:Int),v5=.int .i64 x5_1∧Aside0 (laws_eqOutS.l0 kq l0 l1 x5_1=some r)∧Aside0 (kq≤k)∧Aside0 (Below w.heap.size w w'))
  case atStart=>exact ⟨(0),fg,H',⟨Nat.le_refl _⟩,⟨bs HB⟩⟩
  case round =>
   clear H'
   try clear c1
   try clear c2
   try clear p2
   try clear c3
   try clear c3b0
   try clear c3b1
   try clear c3b2
   obtain ⟨x5_1,rfl,HA,HK1,HB⟩:=hrel
   cases gk with
   | zero=>exact absurd HA.out (by simp [laws_eqOutS.l0])
   | succ k1 =>
    have H:=HA.out;clear HA;simp only [laws_eqOutS.l0] at H
    by_cases c4:x5_1<(l0.length:Int)
    ·rw [if_pos c4] at H;have c4b0:decide (x5_1<(l0.length:Int))=true:=decide_eq_true c4;clear c4
     by_cases c5:0≤x5_1
     ·rw [if_pos c5] at H;have c5b0:decide (0≤x5_1)=true:=decide_eq_true c5;clear c5
      by_cases c6:x5_1<(l1.length:Int)
      ·rw [if_pos c6] at H;have c6b0:decide (x5_1<(l1.length:Int))=true:=decide_eq_true c6;clear c6;replace H:=Option.bind_eq_some_iff.mp H;obtain ⟨t470,A70,H⟩:=H;replace H:(if t470=true then (laws_eqOutS.l0 k1 l0 l1 (wrap64 (x5_1+1))) else (some false))=some r:=H;have A7:=am A70;clear A70
       by_cases c8:t470=true
       ·subst c8
        have H1:(laws_eqOutS.l0 k1 l0 l1 (wrap64 (x5_1+1)))=some r:=by rw [if_pos rfl] at H;exact H
        clear H;have H:=H1;clear H1;have H':=am H;clear H
        try go_wp2
        replace HB:=am (below_drew1 HB.out);have p468:0≤(x5_1:Int):=oa;have q468:x5_1<(l0.length:Int):=oa;obtain ⟨ad468,e468,hx468_0,hx468_1,hx468_2,hx468_3,hx468_4⟩:=at_T108 HR0.out x5_1 p468 q468;have hw468_4:=hx468_4;have hw468_3:=hx468_3;have hw468_2:=hx468_2;have hw468_1:=hx468_1;have hw468_0:=hx468_0
        cases e468
        replace hx468_0:=cb HB hx468_0;replace hx468_1:=cb HB hx468_1;replace hx468_2:=cb HB hx468_2;replace hx468_3:=cb HB hx468_3;replace hx468_4:=cb HB hx468_4;replace p468:=eq_true p468;replace q468:=eq_true q468;have p469:0≤(x5_1:Int):=oa;have q469:x5_1<(l1.length:Int):=oa;obtain ⟨ad469,e469,hx469_0,hx469_1,hx469_2,hx469_3,hx469_4⟩:=at_T108 HR1.out x5_1 p469 q469;have hw469_4:=hx469_4;have hw469_3:=hx469_3;have hw469_2:=hx469_2;have hw469_1:=hx469_1;have hw469_0:=hx469_0
        cases e469
        replace hx469_0:=cb HB hx469_0;replace hx469_1:=cb HB hx469_1;replace hx469_2:=cb HB hx469_2;replace hx469_3:=cb HB hx469_3;replace hx469_4:=cb HB hx469_4;replace p469:=eq_true p469;replace q469:=eq_true q469;refine start_ (n:=10) (S:=fun w'=>qe5a w' (ad468.add ((x5_1).toNat * 5)) (.string ((rd_T108 l0 x5_1).f0)) (.int .i64 ((rd_T108 l0 x5_1).f1)) (.string ((rd_T108 l0 x5_1).f2)) (.int .i64 ((rd_T108 l0 x5_1).f3)) (.int .i64 ((rd_T108 l0 x5_1).f4)) (qe5 w' (ad469.add ((x5_1).toNat * 5)) (.string ((rd_T108 l1 x5_1).f0)) (.int .i64 ((rd_T108 l1 x5_1).f1)) (.string ((rd_T108 l1 x5_1).f2)) (.int .i64 ((rd_T108 l1 x5_1).f3)) (.int .i64 ((rd_T108 l1 x5_1).f4)))) (ds:=[]) _ (by kernel_rfl) rfl rfl ⟨((cb HB hw468_0).trans rfl),((cb HB hw468_1).trans rfl),((cb HB hw468_2).trans rfl),((cb HB hw468_3).trans rfl),((cb HB hw468_4).trans rfl),((cb HB hw469_0).trans rfl),((cb HB hw469_1).trans rfl),((cb HB hw469_2).trans rfl),((cb HB hw469_3).trans rfl),((cb HB hw469_4).trans rfl)⟩ (fun hHeld=>?_);refine with_tabW laws_eqOutS.tab6 laws_eqOutS.bits6 (fun HT_ HW_=>?_)
        generalize wr.drew=w9 at HB hx468_0 hx468_1 hx468_2 hx468_3 hx468_4 hx469_0 hx469_1 hx469_2 hx469_3 hx469_4 hHeld ⊢
        refine pA 0 17 HT_ ?_;refine pA 1 18 HT_ ?_;refine pA 2 19 HT_ ?_;refine pA 4 21 HT_ ?_;refine pA 5 22 HT_ ?_;refine pA 6 23 HT_ ?_;refine tA 3 20 HT_ HW_ hHeld ?_;refine tA 7 24 HT_ HW_ hHeld ?_;refine oA 8 25 HT_ (fun K hK=>?_);refine gA Try.func73 #[.agg #[.string ((rd_T108 l0 x5_1).f0),.int .i64 ((rd_T108 l0 x5_1).f1),.string ((rd_T108 l0 x5_1).f2),.int .i64 ((rd_T108 l0 x5_1).f3),.int .i64 ((rd_T108 l0 x5_1).f4)],.agg #[.string ((rd_T108 l1 x5_1).f0),.int .i64 ((rd_T108 l1 x5_1).f1),.string ((rd_T108 l1 x5_1).f2),.int .i64 ((rd_T108 l1 x5_1).f3),.int .i64 ((rd_T108 l1 x5_1).f4)]] ?_;(with_reducible refine (laws_eqOut.calls ((rd_T108 l0 x5_1).f0) ((rd_T108 l0 x5_1).f1) ((rd_T108 l0 x5_1).f2) ((rd_T108 l0 x5_1).f3) ((rd_T108 l0 x5_1).f4) ((rd_T108 l1 x5_1).f0) ((rd_T108 l1 x5_1).f1) ((rd_T108 l1 x5_1).f2) ((rd_T108 l1 x5_1).f3) ((rd_T108 l1 x5_1).f4) true _ A7.out).mono ?_);rintro e w10 ⟨rfl,hb⟩;refine ⟨_,rfl,?_⟩;replace HB:=am (below_step (bs HB) hb);(try clear hb);(try clear hb2);(try clear hk);(try clear hi);refine hK.out _ _ ⟨((cb HB hw468_0).trans rfl),((cb HB hw468_1).trans rfl),((cb HB hw468_2).trans rfl),((cb HB hw468_3).trans rfl),((cb HB hw468_4).trans rfl),((cb HB hw469_0).trans rfl),((cb HB hw469_1).trans rfl),((cb HB hw469_2).trans rfl),((cb HB hw469_3).trans rfl),((cb HB hw469_4).trans rfl)⟩ (fun hHeld=>?_);clear hK K;refine nA 25 ?_;refine pA 9 26 HT_ ?_;refine done_ (done_of HT_.out (by kernel_rfl)) ?_
        try go_wp2
        go_roundg k1
        case measure=>have:=HK1.out;omega
        case rel=>exact ⟨(wrap64 (x5_1+1)),fg,H',⟨by have:=HK1.out;omega⟩,⟨bs HB⟩⟩
       ·replace c8:=Bool.eq_false_iff.mpr c8;subst c8
        have H1:(some false)=some r:=by rw [if_neg (show ¬ (false=true) by decide)] at H;exact H
        clear H;have H:=H1;clear H1;obtain rfl:=Option.some.inj H
        try go_wp2
        replace HB:=am (below_drew1 HB.out);have p468:0≤(x5_1:Int):=oa;have q468:x5_1<(l0.length:Int):=oa;obtain ⟨ad468,e468,hx468_0,hx468_1,hx468_2,hx468_3,hx468_4⟩:=at_T108 HR0.out x5_1 p468 q468;have hw468_4:=hx468_4;have hw468_3:=hx468_3;have hw468_2:=hx468_2;have hw468_1:=hx468_1;have hw468_0:=hx468_0
        cases e468
        replace hx468_0:=cb HB hx468_0;replace hx468_1:=cb HB hx468_1;replace hx468_2:=cb HB hx468_2;replace hx468_3:=cb HB hx468_3;replace hx468_4:=cb HB hx468_4;replace p468:=eq_true p468;replace q468:=eq_true q468;have p469:0≤(x5_1:Int):=oa;have q469:x5_1<(l1.length:Int):=oa;obtain ⟨ad469,e469,hx469_0,hx469_1,hx469_2,hx469_3,hx469_4⟩:=at_T108 HR1.out x5_1 p469 q469;have hw469_4:=hx469_4;have hw469_3:=hx469_3;have hw469_2:=hx469_2;have hw469_1:=hx469_1;have hw469_0:=hx469_0
        cases e469
        replace hx469_0:=cb HB hx469_0;replace hx469_1:=cb HB hx469_1;replace hx469_2:=cb HB hx469_2;replace hx469_3:=cb HB hx469_3;replace hx469_4:=cb HB hx469_4;replace p469:=eq_true p469;replace q469:=eq_true q469;refine start_ (n:=10) (S:=fun w'=>qe5a w' (ad468.add ((x5_1).toNat * 5)) (.string ((rd_T108 l0 x5_1).f0)) (.int .i64 ((rd_T108 l0 x5_1).f1)) (.string ((rd_T108 l0 x5_1).f2)) (.int .i64 ((rd_T108 l0 x5_1).f3)) (.int .i64 ((rd_T108 l0 x5_1).f4)) (qe5 w' (ad469.add ((x5_1).toNat * 5)) (.string ((rd_T108 l1 x5_1).f0)) (.int .i64 ((rd_T108 l1 x5_1).f1)) (.string ((rd_T108 l1 x5_1).f2)) (.int .i64 ((rd_T108 l1 x5_1).f3)) (.int .i64 ((rd_T108 l1 x5_1).f4)))) (ds:=[]) _ (by kernel_rfl) rfl rfl ⟨((cb HB hw468_0).trans rfl),((cb HB hw468_1).trans rfl),((cb HB hw468_2).trans rfl),((cb HB hw468_3).trans rfl),((cb HB hw468_4).trans rfl),((cb HB hw469_0).trans rfl),((cb HB hw469_1).trans rfl),((cb HB hw469_2).trans rfl),((cb HB hw469_3).trans rfl),((cb HB hw469_4).trans rfl)⟩ (fun hHeld=>?_);refine with_tabW laws_eqOutS.tab6 laws_eqOutS.bits6 (fun HT_ HW_=>?_)
        generalize wr.drew=w11 at HB hx468_0 hx468_1 hx468_2 hx468_3 hx468_4 hx469_0 hx469_1 hx469_2 hx469_3 hx469_4 hHeld ⊢
        refine pA 0 17 HT_ ?_;refine pA 1 18 HT_ ?_;refine pA 2 19 HT_ ?_;refine pA 4 21 HT_ ?_;refine pA 5 22 HT_ ?_;refine pA 6 23 HT_ ?_;refine tA 3 20 HT_ HW_ hHeld ?_;refine tA 7 24 HT_ HW_ hHeld ?_;refine oA 8 25 HT_ (fun K hK=>?_);refine gA Try.func73 #[.agg #[.string ((rd_T108 l0 x5_1).f0),.int .i64 ((rd_T108 l0 x5_1).f1),.string ((rd_T108 l0 x5_1).f2),.int .i64 ((rd_T108 l0 x5_1).f3),.int .i64 ((rd_T108 l0 x5_1).f4)],.agg #[.string ((rd_T108 l1 x5_1).f0),.int .i64 ((rd_T108 l1 x5_1).f1),.string ((rd_T108 l1 x5_1).f2),.int .i64 ((rd_T108 l1 x5_1).f3),.int .i64 ((rd_T108 l1 x5_1).f4)]] ?_;(with_reducible refine (laws_eqOut.calls ((rd_T108 l0 x5_1).f0) ((rd_T108 l0 x5_1).f1) ((rd_T108 l0 x5_1).f2) ((rd_T108 l0 x5_1).f3) ((rd_T108 l0 x5_1).f4) ((rd_T108 l1 x5_1).f0) ((rd_T108 l1 x5_1).f1) ((rd_T108 l1 x5_1).f2) ((rd_T108 l1 x5_1).f3) ((rd_T108 l1 x5_1).f4) false _ A7.out).mono ?_);rintro e w12 ⟨rfl,hb⟩;refine ⟨_,rfl,?_⟩;replace HB:=am (below_step (bs HB) hb);(try clear hb);(try clear hb2);(try clear hk);(try clear hi);refine hK.out _ _ ⟨((cb HB hw468_0).trans rfl),((cb HB hw468_1).trans rfl),((cb HB hw468_2).trans rfl),((cb HB hw468_3).trans rfl),((cb HB hw468_4).trans rfl),((cb HB hw469_0).trans rfl),((cb HB hw469_1).trans rfl),((cb HB hw469_2).trans rfl),((cb HB hw469_3).trans rfl),((cb HB hw469_4).trans rfl)⟩ (fun hHeld=>?_);clear hK K;refine nA 25 ?_;refine pA 9 26 HT_ ?_;refine done_ (done_of HT_.out (by kernel_rfl)) ?_
        try go_wp2
        go_ret
        exact ⟨ff,bs HB⟩
      ·rw [if_neg c6] at H
       exact absurd H (by simp)
     ·rw [if_neg c5] at H
      exact absurd H (by simp)
    ·rw [if_neg c4] at H;have c4b0:decide (x5_1<(l0.length:Int))=false:=decide_eq_false c4;clear c4;obtain rfl:=Option.some.inj H
     go_wp2
     go_ret
     exact ⟨ff,bs HB⟩
 ·rw [if_neg c3] at H;have c3b0:((l0.length:Int) == (l1.length:Int))=false:=beq_eq_false_iff_ne.mpr c3;have c3b1:((l0.length:Int) != (l1.length:Int))=true:=bne_iff_ne.mpr c3
  have c3b2:(l0.length == l1.length)=false:=by first|simpa using c3|(simp at c3 ⊢;omega)
  obtain rfl:=Option.some.inj H
  go_enter Try.func29,Try.ntmps29
  go_wp2
  go_ret
  exact ⟨ff,bs HB⟩
end Go.Proofs.Ytjjfjgdhloideaa.QI

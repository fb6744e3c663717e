-- Merged by a program of this session (wip/tool/pack.py) out of its own texts for this claim.
import Derived.Test.YtjjfjgdhloideaaKFnExactGateRight0
import Derived.Test.YtjjfjgdhloideaaKFnExactGateRight1
import Derived.Test.YtjjfjgdhloideaaKFnExactGateRight2
import Derived.Test.YtjjfjgdhloideaaKFnExactGateRight3
import Derived.Test.YtjjfjgdhloideaaKFnExactGateRight9
import Derived.Test.YtjjfjgdhloideaaKFnExactGateRight10
import Derived.Test.YtjjfjgdhloideaaKFnExactGateRight12
import Derived.Test.YtjjfjgdhloideaaKFnExactGateRight13
import Derived.Test.YtjjfjgdhloideaaKFnExactGateRight14
import Derived.Test.YtjjfjgdhloideaaKFnExactGateRight15
import Derived.Test.YtjjfjgdhloideaaKFnExactGateRight16
import Derived.Test.YtjjfjgdhloideaaKFnExactGateRight17
namespace Go.Proofs.Ytjjfjgdhloideaa.QI
open Go.RowKit Go.Proofs.YtjjfjgdhloideaaW.PrintWords Go.Proofs.YtjjfjgdhloideaaW.PrintLast Go.Proofs.YtjjfjgdhloideaaW.PrintMore
attribute [local go_sem] max2_int min2_int max_two min_two max_three min_three max_four min_four   -- for this text's walks alone
set_option linter.unusedVariables false
set_option linter.unusedSimpArgs false
def impl_GateRight.T6 : Bool × List (List Nat × List Nat) := (true, [([], []), ([0], [0]), ([1], [1]), ([2, 1], [2]), ([3], [3]), ([4, 3], [3, 4]), ([5, 3, 3], [3, 5]), ([6], [6]), ([7, 6], [6, 7]), ([6], [6]), ([9, 6], [6, 9]), ([6], [6]), ([11, 6], [6, 11]), ([10, 12, 6], [6, 10, 12]), ([13, 6], [6, 13]), ([14, 6], [6, 14]), ([8, 15, 6], [6, 8, 15]), ([6, 16, 3], [3, 6, 16]), ([3, 17], [3, 17])])
def impl_GateRight.B6 : List Nat := [0, 1, 3, 7, 15, 31, 63, 127, 255, 127, 639, 127, 2175, 7807, 15999, 32383, 65535, 131071, 262143]
theorem impl_GateRight.tab6 : rtab .any (opsOf Try.f23 6) = impl_GateRight.T6 := by kernel_rfl
theorem impl_GateRight.bits6 : waitsOk impl_GateRight.T6.2 impl_GateRight.B6 = true := by kernel_rfl
set_option maxHeartbeats 8000000 in
set_option maxRecDepth 100000 in
theorem impl_GateRight.calls (k:Nat) (a0_0:ByteArray) (a0_1:Int) (A0_2:Option Addr) (c0_2:Nat) (l0_2:List (S92)) (A0_3:Option Addr) (c0_3:Nat) (l0_3:List (S102)) (A0_4:Option Addr) (c0_4:Nat) (l0_4:List (S71)) (A0_5:Option Addr) (c0_5:Nat) (l0_5:List (S73)) (A0_6:Option Addr) (c0_6:Nat) (l0_6:List (S105)) (A0_7:Option Addr) (c0_7:Nat) (l0_7:List (S108)) (r:Bool) (w:World) (hr0_2:Kd.C k92 w A0_2 l0_2.length l0_2) (hc0_2:l0_2.length≤c0_2) (hr0_3:Kd.C k102 w A0_3 l0_3.length l0_3) (hc0_3:l0_3.length≤c0_3) (hr0_4:Kd.C k71 w A0_4 l0_4.length l0_4) (hc0_4:l0_4.length≤c0_4) (hr0_5:Kd.C k73 w A0_5 l0_5.length l0_5) (hc0_5:l0_5.length≤c0_5) (hr0_6:Kd.C k105 w A0_6 l0_6.length l0_6) (hc0_6:l0_6.length≤c0_6) (hr0_7:Kd.C k108 w A0_7 l0_7.length l0_7) (hc0_7:l0_7.length≤c0_7) (h:impl_GateRight.f k a0_0 a0_1 l0_2 l0_3 l0_4 l0_5 l0_6 l0_7=some r) :
  Calls Try.prog 23 #[.agg #[.string a0_0,.int .i64 a0_1,.slice A0_2 l0_2.length c0_2,.slice A0_3 l0_3.length c0_3,.slice A0_4 l0_4.length c0_4,.slice A0_5 l0_5.length c0_5,.slice A0_6 l0_6.length c0_6,.slice A0_7 l0_7.length c0_7]] w fun e w'=>e=.returned (.bool r)∧Below w.heap.size w w':=by
 have hu31:=Try.underlying31;have hu92:=Try.underlying92;have hu27:=Try.underlying27;have HR0_2:=am hr0_2;have HC0_2:=am hc0_2;clear hr0_2 hc0_2;have HR0_3:=am hr0_3;have HC0_3:=am hc0_3;clear hr0_3 hc0_3;have HR0_4:=am hr0_4;have HC0_4:=am hc0_4;clear hr0_4 hc0_4;have HR0_5:=am hr0_5;have HC0_5:=am hc0_5;clear hr0_5 hc0_5;have HR0_6:=am hr0_6;have HC0_6:=am hc0_6;clear hr0_6 hc0_6;have HR0_7:=am hr0_7;have HC0_7:=am hc0_7;clear hr0_7 hc0_7;have HB:=am (Below.refl w.heap.size w);have H:(if (l0_2.length:Int)>20 then (impl_GateRight.j0 k true a0_0 a0_1 l0_2 l0_3 l0_4 l0_5 l0_6 l0_7) else (if (l0_6.length:Int)>200 then (impl_GateRight.j0 k true a0_0 a0_1 l0_2 l0_3 l0_4 l0_5 l0_6 l0_7) else ((impl_isName.f k a0_0).bind fun t422=>(if t422=true then ((impl_isDay.f a0_1).bind fun t423=>(impl_GateRight.j0 k (!t423) a0_0 a0_1 l0_2 l0_3 l0_4 l0_5 l0_6 l0_7)) else (impl_GateRight.j0 k true a0_0 a0_1 l0_2 l0_3 l0_4 l0_5 l0_6 l0_7)))))=some r:=h;clear h;have HC2:=am H;clear H
 go_enter Try.func23,Try.ntmps23
 go_upto_region 1 with (first|((with_reducible refine gate_dst (N:=1) rfl ?_);(try (refine gate_guard (by rfl) ?_;dsimp only));refine bx 1 (cs:=#[.string a0_0,.int .i64 a0_1,.slice A0_2 l0_2.length c0_2,.slice A0_3 l0_3.length c0_3,.slice A0_4 l0_4.length c0_4,.slice A0_5 l0_5.length c0_5,.slice A0_6 l0_6.length c0_6,.slice A0_7 l0_7.length c0_7]) (t:=31) ?_;intro gb421 hg w3 hbox hb;have BK421:=am (hbox);have GW421:=am ((gs hg (bs HB)));have GE421:=am ((gs hg (bs HB)));replace HB:=am (below_step (bs HB) hb);clear hb hbox hg))
 (try simp only [Act.put,List.setIfInBounds_toArray,List.set_cons_zero,List.set_cons_succ])
 go_cut [26] (fun v26 wc=>∃ (kq:Nat) (x26_1:Bool),v26=.bool x26_1∧Aside0 (impl_GateRight.j0 kq x26_1 a0_0 a0_1 l0_2 l0_3 l0_4 l0_5 l0_6 l0_7=some r)∧Aside0 (kq≤k)∧Aside0 (wc.heap[gb421]? = some (.cells #[.string a0_0,.int .i64 a0_1,(.slice A0_2 l0_2.length c0_2),(.slice A0_3 l0_3.length c0_3),(.slice A0_4 l0_4.length c0_4),(.slice A0_5 l0_5.length c0_5),(.slice A0_6 l0_6.length c0_6),(.slice A0_7 l0_7.length c0_7)] 31 (0,0)))∧Aside0 (Below w.heap.size w wc))
 case first =>
  have H:=HC2.out;clear HC2
  by_cases c4:(l0_2.length:Int)>20
  ·rw [if_pos c4] at H;have c4b0:decide (20<(l0_2.length:Int))=true:=decide_eq_true c4;have c4b1:decide (20<l0_2.length)=true:=decide_eq_true (by omega);clear c4
   (first|rw [c4b0]|(simp only [i64_w,i32_w];rw [c4b0])|skip)
   have H':=am H;clear H;obtain ⟨hcz5_0,hcz5_1,hcz5_2,hcz5_3,hcz5_4,hcz5_5,hcz5_6,hcz5_7,hfz5_0,hfz5_1,hfz5_2,hfz5_3,hfz5_4,hfz5_5,hfz5_6,hfz5_7⟩:=cf8 BK421
   go_wp2
   go_meet
   case rel=>exact ⟨_,(true),fg,H',⟨fl⟩,⟨ks BK421⟩,⟨bs HB⟩⟩
  ·rw [if_neg c4] at H;have c4b0:decide (20<(l0_2.length:Int))=false:=decide_eq_false c4;have c4b1:decide (20<l0_2.length)=false:=decide_eq_false (by omega);clear c4
   (first|rw [c4b0]|(simp only [i64_w,i32_w];rw [c4b0])|skip)
   by_cases c6:(l0_6.length:Int)>200
   ·rw [if_pos c6] at H;have c6b0:decide (200<(l0_6.length:Int))=true:=decide_eq_true c6;have c6b1:decide (200<l0_6.length)=true:=decide_eq_true (by omega);clear c6;have H':=am H;clear H;obtain ⟨hcz7_0,hcz7_1,hcz7_2,hcz7_3,hcz7_4,hcz7_5,hcz7_6,hcz7_7,hfz7_0,hfz7_1,hfz7_2,hfz7_3,hfz7_4,hfz7_5,hfz7_6,hfz7_7⟩:=cf8 BK421
    go_wp2
    go_meet
    case rel=>exact ⟨_,(true),fg,H',⟨fl⟩,⟨ks BK421⟩,⟨bs HB⟩⟩
   ·rw [if_neg c6] at H;have c6b0:decide (200<(l0_6.length:Int))=false:=decide_eq_false c6;have c6b1:decide (200<l0_6.length)=false:=decide_eq_false (by omega);clear c6;replace H:=Option.bind_eq_some_iff.mp H;obtain ⟨t422,A80,H⟩:=H;replace H:(if t422=true then ((impl_isDay.f a0_1).bind fun t423=>(impl_GateRight.j0 k (!t423) a0_0 a0_1 l0_2 l0_3 l0_4 l0_5 l0_6 l0_7)) else (impl_GateRight.j0 k true a0_0 a0_1 l0_2 l0_3 l0_4 l0_5 l0_6 l0_7))=some r:=H;have A8:=am A80;clear A80;obtain ⟨hcz9_0,hcz9_1,hcz9_2,hcz9_3,hcz9_4,hcz9_5,hcz9_6,hcz9_7,hfz9_0,hfz9_1,hfz9_2,hfz9_3,hfz9_4,hfz9_5,hfz9_6,hfz9_7⟩:=cf8 BK421
    try go_wp2_with (fail)
    go_at_call 25;(with_reducible refine (impl_isName.calls k a0_0 t422 _ A8.out).mono ?_);rintro e w' ⟨rfl,⟨nd,rfl⟩⟩
    by_cases c10:t422=true
    ·subst c10
     have H1:((impl_isDay.f a0_1).bind fun t423=>(impl_GateRight.j0 k (!t423) a0_0 a0_1 l0_2 l0_3 l0_4 l0_5 l0_6 l0_7))=some r:=by rw [if_pos rfl] at H;exact H
     clear H;have H:=H1;clear H1;replace H:=Option.bind_eq_some_iff.mp H;obtain ⟨t423,A110,H⟩:=H;replace H:(impl_GateRight.j0 k (!t423) a0_0 a0_1 l0_2 l0_3 l0_4 l0_5 l0_6 l0_7)=some r:=H;have A11:=am A110;clear A110;have H':=am H;clear H;obtain ⟨hcz12_0,hcz12_1,hcz12_2,hcz12_3,hcz12_4,hcz12_5,hcz12_6,hcz12_7,hfz12_0,hfz12_1,hfz12_2,hfz12_3,hfz12_4,hfz12_5,hfz12_6,hfz12_7⟩:=cf8 BK421
     go_wp2_with (first|(go_at_call 63;(with_reducible refine (impl_isDay.calls a0_1 t423 _ A11.out).mono ?_);rintro e w' ⟨rfl,⟨nd,rfl⟩⟩))
     go_meet
     case rel=>exact ⟨_,(!t423),fg,H',⟨fl⟩,⟨ks BK421⟩,⟨bs HB⟩⟩
    ·replace c10:=Bool.eq_false_iff.mpr c10;subst c10
     have H1:(impl_GateRight.j0 k true a0_0 a0_1 l0_2 l0_3 l0_4 l0_5 l0_6 l0_7)=some r:=by rw [if_neg (show ¬ (false=true) by decide)] at H;exact H
     clear H;have H:=H1;clear H1;have H':=am H;clear H
     go_wp2
     go_meet
     case rel=>exact ⟨_,(true),fg,H',⟨fl⟩,⟨ks BK421⟩,⟨bs HB⟩⟩
 case rest =>
  clear HC2
  try clear c1
  try clear c2
  try clear p2
  try clear c4
  try clear c4b0
  try clear c4b1
  try clear c6
  try clear c6b0
  try clear c6b1
  try clear c10
  try clear hcz12_0
  try clear hcz12_1
  try clear hcz12_2
  try clear hcz12_3
  try clear hcz12_4
  try clear hcz12_5
  try clear hcz12_6
  try clear hcz12_7
  try clear hcz5_0
  try clear hcz5_1
  try clear hcz5_2
  try clear hcz5_3
  try clear hcz5_4
  try clear hcz5_5
  try clear hcz5_6
  try clear hcz5_7
  try clear hcz7_0
  try clear hcz7_1
  try clear hcz7_2
  try clear hcz7_3
  try clear hcz7_4
  try clear hcz7_5
  try clear hcz7_6
  try clear hcz7_7
  try clear hcz9_0
  try clear hcz9_1
  try clear hcz9_2
  try clear hcz9_3
  try clear hcz9_4
  try clear hcz9_5
  try clear hcz9_6
  try clear hcz9_7
  try clear hfz12_0
  try clear hfz12_1
  try clear hfz12_2
  try clear hfz12_3
  try clear hfz12_4
  try clear hfz12_5
  try clear hfz12_6
  try clear hfz12_7
  try clear hfz5_0
  try clear hfz5_1
  try clear hfz5_2
  try clear hfz5_3
  try clear hfz5_4
  try clear hfz5_5
  try clear hfz5_6
  try clear hfz5_7
  try clear hfz7_0
  try clear hfz7_1
  try clear hfz7_2
  try clear hfz7_3
  try clear hfz7_4
  try clear hfz7_5
  try clear hfz7_6
  try clear hfz7_7
  try clear hfz9_0
  try clear hfz9_1
  try clear hfz9_2
  try clear hfz9_3
  try clear hfz9_4
  try clear hfz9_5
  try clear hfz9_6
  try clear hfz9_7
  obtain ⟨kq,x26_1,rfl,HA,HJ1,BK421,HB⟩:=hcut
  cases kq with
  | zero=>exact absurd HA.out (by simp [impl_GateRight.j0])
  | succ kj1 =>
   have H:=HA.out;clear HA;simp only [impl_GateRight.j0] at H
   by_cases c13:x26_1=true
   ·subst c13
    have H1:(some false)=some r:=by rw [if_pos rfl] at H;exact H
    clear H;have H:=H1;clear H1;obtain rfl:=Option.some.inj H
    go_wp2
    go_ret
    exact ⟨ff,bs HB⟩
   ·replace c13:=Bool.eq_false_iff.mpr c13;subst c13
    have H1:(impl_GateRight.l0 kj1 l0_2 (l0_2.length:Int) 0 a0_0 a0_1 l0_2 l0_3 l0_4 l0_5 l0_6 l0_7)=some r:=by rw [if_neg (show ¬ (false=true) by decide)] at H;exact H
    clear H;have H:=H1;clear H1;have H':=am H;clear H;obtain ⟨hcz14_0,hcz14_1,hcz14_2,hcz14_3,hcz14_4,hcz14_5,hcz14_6,hcz14_7,hfz14_0,hfz14_1,hfz14_2,hfz14_3,hfz14_4,hfz14_5,hfz14_6,hfz14_7⟩:=cf8 BK421
    go_wp2
    go_loopg [30] kj1 (fun kq v30 w'=>∃ (x30_2:Int),v30=.int .i64 x30_2∧Aside0 (impl_GateRight.l0 kq l0_2 (l0_2.length:Int) x30_2 a0_0 a0_1 l0_2 l0_3 l0_4 l0_5 l0_6 l0_7=some r)∧Aside0 (kq≤kj1)∧Aside0 (w'.heap[gb421]? = some (.cells #[.string a0_0,.int .i64 a0_1,(.slice A0_2 l0_2.length c0_2),(.slice A0_3 l0_3.length c0_3),(.slice A0_4 l0_4.length c0_4),(.slice A0_5 l0_5.length c0_5),(.slice A0_6 l0_6.length c0_6),(.slice A0_7 l0_7.length c0_7)] 31 (0,0)))∧Aside0 (Below w.heap.size w w'))
    case atStart=>exact ⟨(0),fg,H',⟨Nat.le_refl _⟩,⟨ks BK421⟩,⟨bs HB⟩⟩
    case round =>
     clear H'
     try clear c1
     try clear c2
     try clear p2
     try clear c4
     try clear c4b0
     try clear c4b1
     try clear c6
     try clear c6b0
     try clear c6b1
     try clear c10
     try clear c13
     try clear hcz12_0
     try clear hcz12_1
     try clear hcz12_2
     try clear hcz12_3
     try clear hcz12_4
     try clear hcz12_5
     try clear hcz12_6
     try clear hcz12_7
     try clear hcz14_0
     try clear hcz14_1
     try clear hcz14_2
     try clear hcz14_3
     try clear hcz14_4
     try clear hcz14_5
     try clear hcz14_6
     try clear hcz14_7
     try clear hcz5_0
     try clear hcz5_1
     try clear hcz5_2
     try clear hcz5_3
     try clear hcz5_4
     try clear hcz5_5
     try clear hcz5_6
     try clear hcz5_7
     try clear hcz7_0
     try clear hcz7_1
     try clear hcz7_2
     try clear hcz7_3
     try clear hcz7_4
     try clear hcz7_5
     try clear hcz7_6
     try clear hcz7_7
     try clear hcz9_0
     try clear hcz9_1
     try clear hcz9_2
     try clear hcz9_3
     try clear hcz9_4
     try clear hcz9_5
     try clear hcz9_6
     try clear hcz9_7
     try clear hfz12_0
     try clear hfz12_1
     try clear hfz12_2
     try clear hfz12_3
     try clear hfz12_4
     try clear hfz12_5
     try clear hfz12_6
     try clear hfz12_7
     try clear hfz14_0
     try clear hfz14_1
     try clear hfz14_2
     try clear hfz14_3
     try clear hfz14_4
     try clear hfz14_5
     try clear hfz14_6
     try clear hfz14_7
     try clear hfz5_0
     try clear hfz5_1
     try clear hfz5_2
     try clear hfz5_3
     try clear hfz5_4
     try clear hfz5_5
     try clear hfz5_6
     try clear hfz5_7
     try clear hfz7_0
     try clear hfz7_1
     try clear hfz7_2
     try clear hfz7_3
     try clear hfz7_4
     try clear hfz7_5
     try clear hfz7_6
     try clear hfz7_7
     try clear hfz9_0
     try clear hfz9_1
     try clear hfz9_2
     try clear hfz9_3
     try clear hfz9_4
     try clear hfz9_5
     try clear hfz9_6
     try clear hfz9_7
     try clear p2
     obtain ⟨x30_2,rfl,HA,HK2,BK421,HB⟩:=hrel
     cases gk with
     | zero=>exact absurd HA.out (by simp [impl_GateRight.l0])
     | succ k2 =>
      have H:=HA.out;clear HA;simp only [impl_GateRight.l0] at H
      by_cases c15:x30_2<(l0_2.length:Int)
      ·rw [if_pos c15] at H;have c15b0:decide (x30_2<(l0_2.length:Int))=true:=decide_eq_true c15;clear c15
       by_cases c16:0≤x30_2
       ·rw [if_pos c16] at H;have c16b0:decide (0≤x30_2)=true:=decide_eq_true c16;clear c16
        by_cases c17:x30_2<(l0_2.length:Int)
        ·rw [if_pos c17] at H;have c17b0:decide (x30_2<(l0_2.length:Int))=true:=decide_eq_true c17;clear c17;replace H:=Option.bind_eq_some_iff.mp H;obtain ⟨t426,A180,H⟩:=H;replace H:(if t426=true then (if x30_2>0 then (if 0≤(wrap64 (x30_2 - 1)) then (if (wrap64 (x30_2 - 1))<(l0_2.length:Int) then (if ((Op.bytesLess (((rd_T92 l0_2 (wrap64 (x30_2 - 1))).f0).toList) (((rd_T92 l0_2 x30_2).f0).toList))=true) then (impl_GateRight.l0 k2 l0_2 (l0_2.length:Int) (wrap64 (x30_2+1)) a0_0 a0_1 l0_2 l0_3 l0_4 l0_5 l0_6 l0_7) else (some false)) else (none)) else (none)) else (impl_GateRight.l0 k2 l0_2 (l0_2.length:Int) (wrap64 (x30_2+1)) a0_0 a0_1 l0_2 l0_3 l0_4 l0_5 l0_6 l0_7)) else (some false))=some r:=H;have A18:=am A180;clear A180
         by_cases c19:t426=true
         ·subst c19
          have H1:(if x30_2>0 then (if 0≤(wrap64 (x30_2 - 1)) then (if (wrap64 (x30_2 - 1))<(l0_2.length:Int) then (if ((Op.bytesLess (((rd_T92 l0_2 (wrap64 (x30_2 - 1))).f0).toList) (((rd_T92 l0_2 x30_2).f0).toList))=true) then (impl_GateRight.l0 k2 l0_2 (l0_2.length:Int) (wrap64 (x30_2+1)) a0_0 a0_1 l0_2 l0_3 l0_4 l0_5 l0_6 l0_7) else (some false)) else (none)) else (none)) else (impl_GateRight.l0 k2 l0_2 (l0_2.length:Int) (wrap64 (x30_2+1)) a0_0 a0_1 l0_2 l0_3 l0_4 l0_5 l0_6 l0_7))=some r:=by rw [if_pos rfl] at H;exact H
          clear H;have H:=H1;clear H1
          by_cases c20:x30_2>0
          ·rw [if_pos c20] at H;have c20b0:decide (0<x30_2)=true:=decide_eq_true c20;clear c20;obtain ⟨ji21,hji21⟩:∃ j_:Int,(wrap64 (x30_2 - 1))=j_:=⟨_,rfl⟩
           replace H:(if 0≤(ji21) then (if (ji21)<(l0_2.length:Int) then (if ((Op.bytesLess (((rd_T92 l0_2 (ji21)).f0).toList) (((rd_T92 l0_2 x30_2).f0).toList))=true) then (impl_GateRight.l0 k2 l0_2 (l0_2.length:Int) (wrap64 (x30_2+1)) a0_0 a0_1 l0_2 l0_3 l0_4 l0_5 l0_6 l0_7) else (some false)) else (none)) else (none))=some r:=by first|(rw [hji21] at H;exact H)|(simp only [hji21] at H ⊢;exact H)
           (try rw [hji21] at A18)
           have hji21w:(IntKind.i64.wrap (x30_2 - 1))=ji21:=(i64_w _).trans hji21
           by_cases c22:0≤(ji21)
           ·rw [if_pos c22] at H;have c22b0:decide (0≤(ji21))=true:=decide_eq_true c22;clear c22
            by_cases c23:(ji21)<(l0_2.length:Int)
            ·rw [if_pos c23] at H;have c23b0:decide ((ji21)<(l0_2.length:Int))=true:=decide_eq_true c23;clear c23
             by_cases c24:((Op.bytesLess (((rd_T92 l0_2 (ji21)).f0).toList) (((rd_T92 l0_2 x30_2).f0).toList))=true)
             ·rw [if_pos c24] at H;have c24b0:(Op.bytesLess (((rd_T92 l0_2 (ji21)).f0).toList) (((rd_T92 l0_2 x30_2).f0).toList))=true:=c24;clear c24;have H':=am H;clear H;have p424:0≤(x30_2:Int):=oa;have q424:x30_2<(l0_2.length:Int):=oa;obtain ⟨ad424,A424_3,c424_3,e424,hx424_0,hx424_1,hx424_2,hx424_3,hl424_3,hi424_3⟩:=at_T92 HR0_2.out x30_2 p424 q424
              cases e424
              replace hx424_0:=cb HB hx424_0;replace hx424_1:=cb HB hx424_1;replace hx424_2:=cb HB hx424_2;replace hx424_3:=cb HB hx424_3;have HR424_3:=am hi424_3;have HC424_3:=am hl424_3;clear hi424_3 hl424_3;replace p424:=eq_true p424;replace q424:=eq_true q424
              try go_wp2_with (first|((with_reducible refine gate_dst (N:=4) rfl ?_);(try (refine gate_guard (by rfl) ?_;dsimp only));refine bx 4 (cs:=#[.string (⟨#[]⟩:ByteArray),.int .i64 0,.int .i64 0,.slice none 0 0]) (t:=92) ?_;intro gb425 hg w25 hbox hb;have BK425:=am (hbox);have GW425:=am ((gs hg (bs HB)));have GE425:=am ((gs hg (bs HB)));replace HB:=am (below_step (bs HB) hb);have NB421_425:=am ((gn hg (ks BK421)));have NB425_421:=am ((gm hg (ks BK421)));replace BK421:=am (blk_below (ks BK421) hb);clear hb hbox hg;have hnb26:=NB425_421.out;have hnc26:=NB421_425.out;obtain ⟨hcz27_0,hcz27_1,hcz27_2,hcz27_3,hfz27_0,hfz27_1,hfz27_2,hfz27_3⟩:=cf4 BK425))
              have n0_:Aside0 (((((w25.setCell ⟨gb425,0,none⟩ (.string ((rd_T92 l0_2 x30_2).f0))).setCell ⟨gb425,1,none⟩ (.int .i64 ((rd_T92 l0_2 x30_2).f1))).setCell ⟨gb425,2,none⟩ (.int .i64 ((rd_T92 l0_2 x30_2).f2))).setCell ⟨gb425,3,none⟩ (.slice A424_3 ((rd_T92 l0_2 x30_2).f3).length c424_3)).heap[gb421]? = some (.cells #[.string a0_0,.int .i64 a0_1,.slice (some ad424) l0_2.length c0_2,.slice A0_3 l0_3.length c0_3,.slice A0_4 l0_4.length c0_4,.slice A0_5 l0_5.length c0_5,.slice A0_6 l0_6.length c0_6,.slice A0_7 l0_7.length c0_7] 31 (0,0))):=⟨ks BK421⟩;have n1_:Aside0 (((((w25.setCell ⟨gb425,0,none⟩ (.string ((rd_T92 l0_2 x30_2).f0))).setCell ⟨gb425,1,none⟩ (.int .i64 ((rd_T92 l0_2 x30_2).f1))).setCell ⟨gb425,2,none⟩ (.int .i64 ((rd_T92 l0_2 x30_2).f2))).setCell ⟨gb425,3,none⟩ (.slice A424_3 ((rd_T92 l0_2 x30_2).f3).length c424_3)).heap[gb425]? = some (.cells #[.string ((rd_T92 l0_2 x30_2).f0),.int .i64 ((rd_T92 l0_2 x30_2).f1),.int .i64 ((rd_T92 l0_2 x30_2).f2),.slice A424_3 ((rd_T92 l0_2 x30_2).f3).length c424_3] 92 (0,0))):=⟨kp BK425⟩;have n2_:Aside0 (Below w.heap.size w ((((w25.setCell ⟨gb425,0,none⟩ (.string ((rd_T92 l0_2 x30_2).f0))).setCell ⟨gb425,1,none⟩ (.int .i64 ((rd_T92 l0_2 x30_2).f1))).setCell ⟨gb425,2,none⟩ (.int .i64 ((rd_T92 l0_2 x30_2).f2))).setCell ⟨gb425,3,none⟩ (.slice A424_3 ((rd_T92 l0_2 x30_2).f3).length c424_3))):=⟨bs HB⟩;(try clear BK421);(try clear BK425);(try clear HB)
              generalize ((((w25.setCell ⟨gb425,0,none⟩ (.string ((rd_T92 l0_2 x30_2).f0))).setCell ⟨gb425,1,none⟩ (.int .i64 ((rd_T92 l0_2 x30_2).f1))).setCell ⟨gb425,2,none⟩ (.int .i64 ((rd_T92 l0_2 x30_2).f2))).setCell ⟨gb425,3,none⟩ (.slice A424_3 ((rd_T92 l0_2 x30_2).f3).length c424_3))=w28 at n0_ n1_ n2_ ⊢
              have BK421:=n0_;have BK425:=n1_;have HB:=n2_;clear n0_ n1_ n2_;replace BK421:=am (blk_drew BK421.out);replace BK425:=am (blk_drew BK425.out);replace HB:=am (below_drew1 HB.out);have p427:0≤((ji21):Int):=oa;have q427:(ji21)<(l0_2.length:Int):=oa;obtain ⟨ad427,A427_3,c427_3,e427,hx427_0,hx427_1,hx427_2,hx427_3,hl427_3,hi427_3⟩:=at_T92 HR0_2.out (ji21) p427 q427;have hw427_3:=hx427_3;have hw427_2:=hx427_2;have hw427_1:=hx427_1;have hw427_0:=hx427_0;obtain rfl:ad424=ad427:=(by injection e427);replace hx427_0:=cb HB hx427_0;replace hx427_1:=cb HB hx427_1;replace hx427_2:=cb HB hx427_2;replace hx427_3:=cb HB hx427_3;have HR427_3:=am hi427_3;have HC427_3:=am hl427_3;clear hi427_3 hl427_3;replace p427:=eq_true p427;replace q427:=eq_true q427;refine start_ (n:=19) (S:=fun w'=>qk4a w' gb425 (.string ((rd_T92 l0_2 x30_2).f0)) (.int .i64 ((rd_T92 l0_2 x30_2).f1)) (.int .i64 ((rd_T92 l0_2 x30_2).f2)) (.slice A424_3 ((rd_T92 l0_2 x30_2).f3).length c424_3) (qk8a w' gb421 (.string a0_0) (.int .i64 a0_1) (.slice (some ad424) l0_2.length c0_2) (.slice A0_3 l0_3.length c0_3) (.slice A0_4 l0_4.length c0_4) (.slice A0_5 l0_5.length c0_5) (.slice A0_6 l0_6.length c0_6) (.slice A0_7 l0_7.length c0_7) (qe4 w' (ad424.add (((ji21)).toNat * 4)) (.string ((rd_T92 l0_2 (ji21)).f0)) (.int .i64 ((rd_T92 l0_2 (ji21)).f1)) (.int .i64 ((rd_T92 l0_2 (ji21)).f2)) (.slice A427_3 ((rd_T92 l0_2 (ji21)).f3).length c427_3)))) (ds:=[]) _ (by kernel_rfl) rfl rfl (qb4a BK425 (qb8a BK421 ⟨((cb HB hw427_0).trans rfl),((cb HB hw427_1).trans rfl),((cb HB hw427_2).trans rfl),((cb HB hw427_3).trans rfl)⟩)) (fun hHeld=>?_);refine with_tabW impl_GateRight.tab6 impl_GateRight.bits6 (fun HT_ HW_=>?_)
              generalize w28.drew=w29 at BK421 BK425 HB HR427_3 hx427_0 hx427_1 hx427_2 hx427_3 hHeld ⊢
              refine tA 0 35 HT_ HW_ hHeld ?_;refine oA 1 36 HT_ (fun K hK=>?_);refine gA Try.func64 #[.agg #[.string ((rd_T92 l0_2 x30_2).f0),.int .i64 ((rd_T92 l0_2 x30_2).f1),.int .i64 ((rd_T92 l0_2 x30_2).f2),.slice A424_3 ((rd_T92 l0_2 x30_2).f3).length c424_3]] ?_;(with_reducible refine (impl_PartnerRight.calls k2 ((rd_T92 l0_2 x30_2).f0) ((rd_T92 l0_2 x30_2).f1) ((rd_T92 l0_2 x30_2).f2) _ _ ((rd_T92 l0_2 x30_2).f3) true _ ?side1 ?side2 A18.out).mono ?_)
              (case side1=>repeat (first|exact (Kd.C_below HR424_3.out HB.out)|(with_reducible refine Kd.C_alloc ?_ _)|(with_reducible refine Kd.C_drewN ?_ _)|(with_reducible refine Kd.C_drew ?_)))
              (case side2=>exact HC424_3.out)
              rintro e w30 ⟨rfl,hb⟩;refine ⟨_,rfl,?_⟩;replace BK421:=am (blk_below (ks BK421) hb);replace BK425:=am (blk_below (ks BK425) hb);replace HB:=am (below_step (bs HB) hb);(try clear hb);(try clear hb2);(try clear hk);(try clear hi);refine hK.out _ _ (qb4a BK425 (qb8a BK421 ⟨((cb HB hw427_0).trans rfl),((cb HB hw427_1).trans rfl),((cb HB hw427_2).trans rfl),((cb HB hw427_3).trans rfl)⟩)) (fun hHeld=>?_);clear hK K;refine nA 36 ?_;refine pA 2 37 HT_ ?_;refine pA 3 38 HT_ ?_;refine pA 4 39 HT_ ?_;refine pA 5 40 HT_ ?_;refine pA 6 41 HT_ ?_;refine pA 7 42 HT_ ?_;refine pA 9 44 HT_ ?_;refine pA 11 46 HT_ ?_;refine pA 12 47 HT_ ?_;refine tA 8 43 HT_ HW_ hHeld ?_;refine tA 10 45 HT_ HW_ hHeld ?_;refine pA 13 48 HT_ ?_;refine pA 14 49 HT_ ?_;refine tA 15 50 HT_ HW_ hHeld ?_;refine pA 16 51 HT_ ?_;refine pA 17 52 HT_ ?_;refine pA 18 53 HT_ ?_;refine done_ (done_of HT_.out (by kernel_rfl)) ?_
              try go_wp2
              go_roundg k2
              case measure=>have:=HJ1.out;have:=HK2.out;omega
              case rel=>exact ⟨(wrap64 (x30_2+1)),fg,H',⟨by have:=HJ1.out;have:=HK2.out;omega⟩,⟨ks BK421⟩,⟨bs HB⟩⟩
             ·rw [if_neg c24] at H
              have c24b0:(Op.bytesLess (((rd_T92 l0_2 (ji21)).f0).toList) (((rd_T92 l0_2 x30_2).f0).toList))=false:=by simpa using c24
              clear c24;obtain rfl:=Option.some.inj H;have p424:0≤(x30_2:Int):=oa;have q424:x30_2<(l0_2.length:Int):=oa;obtain ⟨ad424,A424_3,c424_3,e424,hx424_0,hx424_1,hx424_2,hx424_3,hl424_3,hi424_3⟩:=at_T92 HR0_2.out x30_2 p424 q424
              cases e424
              replace hx424_0:=cb HB hx424_0;replace hx424_1:=cb HB hx424_1;replace hx424_2:=cb HB hx424_2;replace hx424_3:=cb HB hx424_3;have HR424_3:=am hi424_3;have HC424_3:=am hl424_3;clear hi424_3 hl424_3;replace p424:=eq_true p424;replace q424:=eq_true q424
              try go_wp2_with (first|((with_reducible refine gate_dst (N:=4) rfl ?_);(try (refine gate_guard (by rfl) ?_;dsimp only));refine bx 4 (cs:=#[.string (⟨#[]⟩:ByteArray),.int .i64 0,.int .i64 0,.slice none 0 0]) (t:=92) ?_;intro gb425 hg w31 hbox hb;have BK425:=am (hbox);have GW425:=am ((gs hg (bs HB)));have GE425:=am ((gs hg (bs HB)));replace HB:=am (below_step (bs HB) hb);have NB421_425:=am ((gn hg (ks BK421)));have NB425_421:=am ((gm hg (ks BK421)));replace BK421:=am (blk_below (ks BK421) hb);clear hb hbox hg;have hnb32:=NB425_421.out;have hnc32:=NB421_425.out;obtain ⟨hcz33_0,hcz33_1,hcz33_2,hcz33_3,hfz33_0,hfz33_1,hfz33_2,hfz33_3⟩:=cf4 BK425))
              have n0_:Aside0 (((((w31.setCell ⟨gb425,0,none⟩ (.string ((rd_T92 l0_2 x30_2).f0))).setCell ⟨gb425,1,none⟩ (.int .i64 ((rd_T92 l0_2 x30_2).f1))).setCell ⟨gb425,2,none⟩ (.int .i64 ((rd_T92 l0_2 x30_2).f2))).setCell ⟨gb425,3,none⟩ (.slice A424_3 ((rd_T92 l0_2 x30_2).f3).length c424_3)).heap[gb421]? = some (.cells #[.string a0_0,.int .i64 a0_1,.slice (some ad424) l0_2.length c0_2,.slice A0_3 l0_3.length c0_3,.slice A0_4 l0_4.length c0_4,.slice A0_5 l0_5.length c0_5,.slice A0_6 l0_6.length c0_6,.slice A0_7 l0_7.length c0_7] 31 (0,0))):=⟨ks BK421⟩;have n1_:Aside0 (((((w31.setCell ⟨gb425,0,none⟩ (.string ((rd_T92 l0_2 x30_2).f0))).setCell ⟨gb425,1,none⟩ (.int .i64 ((rd_T92 l0_2 x30_2).f1))).setCell ⟨gb425,2,none⟩ (.int .i64 ((rd_T92 l0_2 x30_2).f2))).setCell ⟨gb425,3,none⟩ (.slice A424_3 ((rd_T92 l0_2 x30_2).f3).length c424_3)).heap[gb425]? = some (.cells #[.string ((rd_T92 l0_2 x30_2).f0),.int .i64 ((rd_T92 l0_2 x30_2).f1),.int .i64 ((rd_T92 l0_2 x30_2).f2),.slice A424_3 ((rd_T92 l0_2 x30_2).f3).length c424_3] 92 (0,0))):=⟨kp BK425⟩;have n2_:Aside0 (Below w.heap.size w ((((w31.setCell ⟨gb425,0,none⟩ (.string ((rd_T92 l0_2 x30_2).f0))).setCell ⟨gb425,1,none⟩ (.int .i64 ((rd_T92 l0_2 x30_2).f1))).setCell ⟨gb425,2,none⟩ (.int .i64 ((rd_T92 l0_2 x30_2).f2))).setCell ⟨gb425,3,none⟩ (.slice A424_3 ((rd_T92 l0_2 x30_2).f3).length c424_3))):=⟨bs HB⟩;(try clear BK421);(try clear BK425);(try clear HB)
              generalize ((((w31.setCell ⟨gb425,0,none⟩ (.string ((rd_T92 l0_2 x30_2).f0))).setCell ⟨gb425,1,none⟩ (.int .i64 ((rd_T92 l0_2 x30_2).f1))).setCell ⟨gb425,2,none⟩ (.int .i64 ((rd_T92 l0_2 x30_2).f2))).setCell ⟨gb425,3,none⟩ (.slice A424_3 ((rd_T92 l0_2 x30_2).f3).length c424_3))=w34 at n0_ n1_ n2_ ⊢
              have BK421:=n0_;have BK425:=n1_;have HB:=n2_;clear n0_ n1_ n2_;replace BK421:=am (blk_drew BK421.out);replace BK425:=am (blk_drew BK425.out);replace HB:=am (below_drew1 HB.out);have p427:0≤((ji21):Int):=oa;have q427:(ji21)<(l0_2.length:Int):=oa;obtain ⟨ad427,A427_3,c427_3,e427,hx427_0,hx427_1,hx427_2,hx427_3,hl427_3,hi427_3⟩:=at_T92 HR0_2.out (ji21) p427 q427;have hw427_3:=hx427_3;have hw427_2:=hx427_2;have hw427_1:=hx427_1;have hw427_0:=hx427_0;obtain rfl:ad424=ad427:=(by injection e427);replace hx427_0:=cb HB hx427_0;replace hx427_1:=cb HB hx427_1;replace hx427_2:=cb HB hx427_2;replace hx427_3:=cb HB hx427_3;have HR427_3:=am hi427_3;have HC427_3:=am hl427_3;clear hi427_3 hl427_3;replace p427:=eq_true p427;replace q427:=eq_true q427;refine start_ (n:=19) (S:=fun w'=>qk4a w' gb425 (.string ((rd_T92 l0_2 x30_2).f0)) (.int .i64 ((rd_T92 l0_2 x30_2).f1)) (.int .i64 ((rd_T92 l0_2 x30_2).f2)) (.slice A424_3 ((rd_T92 l0_2 x30_2).f3).length c424_3) (qk8a w' gb421 (.string a0_0) (.int .i64 a0_1) (.slice (some ad424) l0_2.length c0_2) (.slice A0_3 l0_3.length c0_3) (.slice A0_4 l0_4.length c0_4) (.slice A0_5 l0_5.length c0_5) (.slice A0_6 l0_6.length c0_6) (.slice A0_7 l0_7.length c0_7) (qe4 w' (ad424.add (((ji21)).toNat * 4)) (.string ((rd_T92 l0_2 (ji21)).f0)) (.int .i64 ((rd_T92 l0_2 (ji21)).f1)) (.int .i64 ((rd_T92 l0_2 (ji21)).f2)) (.slice A427_3 ((rd_T92 l0_2 (ji21)).f3).length c427_3)))) (ds:=[]) _ (by kernel_rfl) rfl rfl (qb4a BK425 (qb8a BK421 ⟨((cb HB hw427_0).trans rfl),((cb HB hw427_1).trans rfl),((cb HB hw427_2).trans rfl),((cb HB hw427_3).trans rfl)⟩)) (fun hHeld=>?_);refine with_tabW impl_GateRight.tab6 impl_GateRight.bits6 (fun HT_ HW_=>?_)
              generalize w34.drew=w35 at BK421 BK425 HB HR427_3 hx427_0 hx427_1 hx427_2 hx427_3 hHeld ⊢
              refine tA 0 35 HT_ HW_ hHeld ?_;refine oA 1 36 HT_ (fun K hK=>?_);refine gA Try.func64 #[.agg #[.string ((rd_T92 l0_2 x30_2).f0),.int .i64 ((rd_T92 l0_2 x30_2).f1),.int .i64 ((rd_T92 l0_2 x30_2).f2),.slice A424_3 ((rd_T92 l0_2 x30_2).f3).length c424_3]] ?_;(with_reducible refine (impl_PartnerRight.calls k2 ((rd_T92 l0_2 x30_2).f0) ((rd_T92 l0_2 x30_2).f1) ((rd_T92 l0_2 x30_2).f2) _ _ ((rd_T92 l0_2 x30_2).f3) true _ ?side1 ?side2 A18.out).mono ?_)
              (case side1=>repeat (first|exact (Kd.C_below HR424_3.out HB.out)|(with_reducible refine Kd.C_alloc ?_ _)|(with_reducible refine Kd.C_drewN ?_ _)|(with_reducible refine Kd.C_drew ?_)))
              (case side2=>exact HC424_3.out)
              rintro e w36 ⟨rfl,hb⟩;refine ⟨_,rfl,?_⟩;replace BK421:=am (blk_below (ks BK421) hb);replace BK425:=am (blk_below (ks BK425) hb);replace HB:=am (below_step (bs HB) hb);(try clear hb);(try clear hb2);(try clear hk);(try clear hi);refine hK.out _ _ (qb4a BK425 (qb8a BK421 ⟨((cb HB hw427_0).trans rfl),((cb HB hw427_1).trans rfl),((cb HB hw427_2).trans rfl),((cb HB hw427_3).trans rfl)⟩)) (fun hHeld=>?_);clear hK K;refine nA 36 ?_;refine pA 2 37 HT_ ?_;refine pA 3 38 HT_ ?_;refine pA 4 39 HT_ ?_;refine pA 5 40 HT_ ?_;refine pA 6 41 HT_ ?_;refine pA 7 42 HT_ ?_;refine pA 9 44 HT_ ?_;refine pA 11 46 HT_ ?_;refine pA 12 47 HT_ ?_;refine tA 8 43 HT_ HW_ hHeld ?_;refine tA 10 45 HT_ HW_ hHeld ?_;refine pA 13 48 HT_ ?_;refine pA 14 49 HT_ ?_;refine tA 15 50 HT_ HW_ hHeld ?_;refine pA 16 51 HT_ ?_;refine pA 17 52 HT_ ?_;refine pA 18 53 HT_ ?_;refine done_ (done_of HT_.out (by kernel_rfl)) ?_
              try go_wp2
              go_ret
              exact ⟨by first|rfl|(simp [errW_none,errW_some] <;> rfl)|(simp only [← hji21];first|rfl|(simp [errW_none,errW_some] <;> rfl))|(simp [*,errW_none,errW_some] <;> rfl),bs HB⟩
            ·rw [if_neg c23] at H
             exact absurd H (by simp)
           ·rw [if_neg c22] at H
            exact absurd H (by simp)
          ·rw [if_neg c20] at H;have c20b0:decide (0<x30_2)=false:=decide_eq_false c20;clear c20;have H':=am H;clear H;have p424:0≤(x30_2:Int):=oa;have q424:x30_2<(l0_2.length:Int):=oa;obtain ⟨ad424,A424_3,c424_3,e424,hx424_0,hx424_1,hx424_2,hx424_3,hl424_3,hi424_3⟩:=at_T92 HR0_2.out x30_2 p424 q424
           cases e424
           replace hx424_0:=cb HB hx424_0;replace hx424_1:=cb HB hx424_1;replace hx424_2:=cb HB hx424_2;replace hx424_3:=cb HB hx424_3;have HR424_3:=am hi424_3;have HC424_3:=am hl424_3;clear hi424_3 hl424_3;replace p424:=eq_true p424;replace q424:=eq_true q424
           try go_wp2_with (first|((with_reducible refine gate_dst (N:=4) rfl ?_);(try (refine gate_guard (by rfl) ?_;dsimp only));refine bx 4 (cs:=#[.string (⟨#[]⟩:ByteArray),.int .i64 0,.int .i64 0,.slice none 0 0]) (t:=92) ?_;intro gb425 hg w37 hbox hb;have BK425:=am (hbox);have GW425:=am ((gs hg (bs HB)));have GE425:=am ((gs hg (bs HB)));replace HB:=am (below_step (bs HB) hb);have NB421_425:=am ((gn hg (ks BK421)));have NB425_421:=am ((gm hg (ks BK421)));replace BK421:=am (blk_below (ks BK421) hb);clear hb hbox hg;have hnb38:=NB425_421.out;have hnc38:=NB421_425.out;obtain ⟨hcz39_0,hcz39_1,hcz39_2,hcz39_3,hfz39_0,hfz39_1,hfz39_2,hfz39_3⟩:=cf4 BK425))
           have n0_:Aside0 (((((w37.setCell ⟨gb425,0,none⟩ (.string ((rd_T92 l0_2 x30_2).f0))).setCell ⟨gb425,1,none⟩ (.int .i64 ((rd_T92 l0_2 x30_2).f1))).setCell ⟨gb425,2,none⟩ (.int .i64 ((rd_T92 l0_2 x30_2).f2))).setCell ⟨gb425,3,none⟩ (.slice A424_3 ((rd_T92 l0_2 x30_2).f3).length c424_3)).heap[gb421]? = some (.cells #[.string a0_0,.int .i64 a0_1,.slice (some ad424) l0_2.length c0_2,.slice A0_3 l0_3.length c0_3,.slice A0_4 l0_4.length c0_4,.slice A0_5 l0_5.length c0_5,.slice A0_6 l0_6.length c0_6,.slice A0_7 l0_7.length c0_7] 31 (0,0))):=⟨ks BK421⟩;have n1_:Aside0 (((((w37.setCell ⟨gb425,0,none⟩ (.string ((rd_T92 l0_2 x30_2).f0))).setCell ⟨gb425,1,none⟩ (.int .i64 ((rd_T92 l0_2 x30_2).f1))).setCell ⟨gb425,2,none⟩ (.int .i64 ((rd_T92 l0_2 x30_2).f2))).setCell ⟨gb425,3,none⟩ (.slice A424_3 ((rd_T92 l0_2 x30_2).f3).length c424_3)).heap[gb425]? = some (.cells #[.string ((rd_T92 l0_2 x30_2).f0),.int .i64 ((rd_T92 l0_2 x30_2).f1),.int .i64 ((rd_T92 l0_2 x30_2).f2),.slice A424_3 ((rd_T92 l0_2 x30_2).f3).length c424_3] 92 (0,0))):=⟨kp BK425⟩;have n2_:Aside0 (Below w.heap.size w ((((w37.setCell ⟨gb425,0,none⟩ (.string ((rd_T92 l0_2 x30_2).f0))).setCell ⟨gb425,1,none⟩ (.int .i64 ((rd_T92 l0_2 x30_2).f1))).setCell ⟨gb425,2,none⟩ (.int .i64 ((rd_T92 l0_2 x30_2).f2))).setCell ⟨gb425,3,none⟩ (.slice A424_3 ((rd_T92 l0_2 x30_2).f3).length c424_3))):=⟨bs HB⟩;(try clear BK421);(try clear BK425);(try clear HB)
           generalize ((((w37.setCell ⟨gb425,0,none⟩ (.string ((rd_T92 l0_2 x30_2).f0))).setCell ⟨gb425,1,none⟩ (.int .i64 ((rd_T92 l0_2 x30_2).f1))).setCell ⟨gb425,2,none⟩ (.int .i64 ((rd_T92 l0_2 x30_2).f2))).setCell ⟨gb425,3,none⟩ (.slice A424_3 ((rd_T92 l0_2 x30_2).f3).length c424_3))=w40 at n0_ n1_ n2_ ⊢
           have BK421:=n0_;have BK425:=n1_;have HB:=n2_;clear n0_ n1_ n2_;replace BK421:=am (blk_drew BK421.out);replace BK425:=am (blk_drew BK425.out);replace HB:=am (below_drew1 HB.out);refine start_ (n:=19) (S:=fun w'=>qk4 w' gb425 (.string ((rd_T92 l0_2 x30_2).f0)) (.int .i64 ((rd_T92 l0_2 x30_2).f1)) (.int .i64 ((rd_T92 l0_2 x30_2).f2)) (.slice A424_3 ((rd_T92 l0_2 x30_2).f3).length c424_3)) (ds:=[]) _ (by kernel_rfl) rfl rfl (qb4 BK425) (fun hHeld=>?_);refine with_tabW impl_GateRight.tab6 impl_GateRight.bits6 (fun HT_ HW_=>?_)
           generalize w40.drew=w41 at BK421 BK425 HB hHeld ⊢
           refine tA 0 35 HT_ HW_ hHeld ?_;refine oA 1 36 HT_ (fun K hK=>?_);refine gA Try.func64 #[.agg #[.string ((rd_T92 l0_2 x30_2).f0),.int .i64 ((rd_T92 l0_2 x30_2).f1),.int .i64 ((rd_T92 l0_2 x30_2).f2),.slice A424_3 ((rd_T92 l0_2 x30_2).f3).length c424_3]] ?_;(with_reducible refine (impl_PartnerRight.calls k2 ((rd_T92 l0_2 x30_2).f0) ((rd_T92 l0_2 x30_2).f1) ((rd_T92 l0_2 x30_2).f2) _ _ ((rd_T92 l0_2 x30_2).f3) true _ ?side1 ?side2 A18.out).mono ?_)
           (case side1=>repeat (first|exact (Kd.C_below HR424_3.out HB.out)|(with_reducible refine Kd.C_alloc ?_ _)|(with_reducible refine Kd.C_drewN ?_ _)|(with_reducible refine Kd.C_drew ?_)))
           (case side2=>exact HC424_3.out)
           rintro e w42 ⟨rfl,hb⟩;refine ⟨_,rfl,?_⟩;replace BK421:=am (blk_below (ks BK421) hb);replace BK425:=am (blk_below (ks BK425) hb);replace HB:=am (below_step (bs HB) hb);(try clear hb);(try clear hb2);(try clear hk);(try clear hi);refine hK.out _ _ (qb4 BK425) (fun hHeld=>?_);clear hK K;refine nA 36 ?_;refine pA 2 37 HT_ ?_;refine pA 3 38 HT_ ?_;refine pA 4 39 HT_ ?_;refine pA 5 40 HT_ ?_;refine pA 6 41 HT_ ?_;refine pB 7 42 HT_ ?_;refine pB 8 43 HT_ ?_;refine pB 9 44 HT_ ?_;refine pB 10 45 HT_ ?_;refine pB 11 46 HT_ ?_;refine pB 12 47 HT_ ?_;refine pB 13 48 HT_ ?_;refine pB 14 49 HT_ ?_;refine pB 15 50 HT_ ?_;refine pB 16 51 HT_ ?_;refine pA 17 52 HT_ ?_;refine pA 18 53 HT_ ?_;refine done_ (done_of HT_.out (by kernel_rfl)) ?_
           try go_wp2
           go_roundg k2
           case measure=>have:=HJ1.out;have:=HK2.out;omega
           case rel=>exact ⟨(wrap64 (x30_2+1)),fg,H',⟨by have:=HJ1.out;have:=HK2.out;omega⟩,⟨ks BK421⟩,⟨bs HB⟩⟩
         ·replace c19:=Bool.eq_false_iff.mpr c19;subst c19
          have H1:(some false)=some r:=by rw [if_neg (show ¬ (false=true) by decide)] at H;exact H
          clear H;have H:=H1;clear H1;obtain rfl:=Option.some.inj H;have p424:0≤(x30_2:Int):=oa;have q424:x30_2<(l0_2.length:Int):=oa;obtain ⟨ad424,A424_3,c424_3,e424,hx424_0,hx424_1,hx424_2,hx424_3,hl424_3,hi424_3⟩:=at_T92 HR0_2.out x30_2 p424 q424
          cases e424
          replace hx424_0:=cb HB hx424_0;replace hx424_1:=cb HB hx424_1;replace hx424_2:=cb HB hx424_2;replace hx424_3:=cb HB hx424_3;have HR424_3:=am hi424_3;have HC424_3:=am hl424_3;clear hi424_3 hl424_3;replace p424:=eq_true p424;replace q424:=eq_true q424
          try go_wp2_with (first|((with_reducible refine gate_dst (N:=4) rfl ?_);(try (refine gate_guard (by rfl) ?_;dsimp only));refine bx 4 (cs:=#[.string (⟨#[]⟩:ByteArray),.int .i64 0,.int .i64 0,.slice none 0 0]) (t:=92) ?_;intro gb425 hg w43 hbox hb;have BK425:=am (hbox);have GW425:=am ((gs hg (bs HB)));have GE425:=am ((gs hg (bs HB)));replace HB:=am (below_step (bs HB) hb);have NB421_425:=am ((gn hg (ks BK421)));have NB425_421:=am ((gm hg (ks BK421)));replace BK421:=am (blk_below (ks BK421) hb);clear hb hbox hg;have hnb44:=NB425_421.out;have hnc44:=NB421_425.out;obtain ⟨hcz45_0,hcz45_1,hcz45_2,hcz45_3,hfz45_0,hfz45_1,hfz45_2,hfz45_3⟩:=cf4 BK425))
          have n0_:Aside0 (((((w43.setCell ⟨gb425,0,none⟩ (.string ((rd_T92 l0_2 x30_2).f0))).setCell ⟨gb425,1,none⟩ (.int .i64 ((rd_T92 l0_2 x30_2).f1))).setCell ⟨gb425,2,none⟩ (.int .i64 ((rd_T92 l0_2 x30_2).f2))).setCell ⟨gb425,3,none⟩ (.slice A424_3 ((rd_T92 l0_2 x30_2).f3).length c424_3)).heap[gb421]? = some (.cells #[.string a0_0,.int .i64 a0_1,.slice (some ad424) l0_2.length c0_2,.slice A0_3 l0_3.length c0_3,.slice A0_4 l0_4.length c0_4,.slice A0_5 l0_5.length c0_5,.slice A0_6 l0_6.length c0_6,.slice A0_7 l0_7.length c0_7] 31 (0,0))):=⟨ks BK421⟩;have n1_:Aside0 (((((w43.setCell ⟨gb425,0,none⟩ (.string ((rd_T92 l0_2 x30_2).f0))).setCell ⟨gb425,1,none⟩ (.int .i64 ((rd_T92 l0_2 x30_2).f1))).setCell ⟨gb425,2,none⟩ (.int .i64 ((rd_T92 l0_2 x30_2).f2))).setCell ⟨gb425,3,none⟩ (.slice A424_3 ((rd_T92 l0_2 x30_2).f3).length c424_3)).heap[gb425]? = some (.cells #[.string ((rd_T92 l0_2 x30_2).f0),.int .i64 ((rd_T92 l0_2 x30_2).f1),.int .i64 ((rd_T92 l0_2 x30_2).f2),.slice A424_3 ((rd_T92 l0_2 x30_2).f3).length c424_3] 92 (0,0))):=⟨kp BK425⟩;have n2_:Aside0 (Below w.heap.size w ((((w43.setCell ⟨gb425,0,none⟩ (.string ((rd_T92 l0_2 x30_2).f0))).setCell ⟨gb425,1,none⟩ (.int .i64 ((rd_T92 l0_2 x30_2).f1))).setCell ⟨gb425,2,none⟩ (.int .i64 ((rd_T92 l0_2 x30_2).f2))).setCell ⟨gb425,3,none⟩ (.slice A424_3 ((rd_T92 l0_2 x30_2).f3).length c424_3))):=⟨bs HB⟩;(try clear BK421);(try clear BK425);(try clear HB)
          generalize ((((w43.setCell ⟨gb425,0,none⟩ (.string ((rd_T92 l0_2 x30_2).f0))).setCell ⟨gb425,1,none⟩ (.int .i64 ((rd_T92 l0_2 x30_2).f1))).setCell ⟨gb425,2,none⟩ (.int .i64 ((rd_T92 l0_2 x30_2).f2))).setCell ⟨gb425,3,none⟩ (.slice A424_3 ((rd_T92 l0_2 x30_2).f3).length c424_3))=w46 at n0_ n1_ n2_ ⊢
          have BK421:=n0_;have BK425:=n1_;have HB:=n2_;clear n0_ n1_ n2_;replace BK421:=am (blk_drew BK421.out);replace BK425:=am (blk_drew BK425.out);replace HB:=am (below_drew1 HB.out);refine start_ (n:=19) (S:=fun w'=>qk4 w' gb425 (.string ((rd_T92 l0_2 x30_2).f0)) (.int .i64 ((rd_T92 l0_2 x30_2).f1)) (.int .i64 ((rd_T92 l0_2 x30_2).f2)) (.slice A424_3 ((rd_T92 l0_2 x30_2).f3).length c424_3)) (ds:=[]) _ (by kernel_rfl) rfl rfl (qb4 BK425) (fun hHeld=>?_);refine with_tabW impl_GateRight.tab6 impl_GateRight.bits6 (fun HT_ HW_=>?_)
          generalize w46.drew=w47 at BK421 BK425 HB hHeld ⊢
          refine tA 0 35 HT_ HW_ hHeld ?_;refine oA 1 36 HT_ (fun K hK=>?_);refine gA Try.func64 #[.agg #[.string ((rd_T92 l0_2 x30_2).f0),.int .i64 ((rd_T92 l0_2 x30_2).f1),.int .i64 ((rd_T92 l0_2 x30_2).f2),.slice A424_3 ((rd_T92 l0_2 x30_2).f3).length c424_3]] ?_;(with_reducible refine (impl_PartnerRight.calls k2 ((rd_T92 l0_2 x30_2).f0) ((rd_T92 l0_2 x30_2).f1) ((rd_T92 l0_2 x30_2).f2) _ _ ((rd_T92 l0_2 x30_2).f3) false _ ?side1 ?side2 A18.out).mono ?_)
          (case side1=>repeat (first|exact (Kd.C_below HR424_3.out HB.out)|(with_reducible refine Kd.C_alloc ?_ _)|(with_reducible refine Kd.C_drewN ?_ _)|(with_reducible refine Kd.C_drew ?_)))
          (case side2=>exact HC424_3.out)
          rintro e w48 ⟨rfl,hb⟩;refine ⟨_,rfl,?_⟩;replace BK421:=am (blk_below (ks BK421) hb);replace BK425:=am (blk_below (ks BK425) hb);replace HB:=am (below_step (bs HB) hb);(try clear hb);(try clear hb2);(try clear hk);(try clear hi);refine hK.out _ _ (qb4 BK425) (fun hHeld=>?_);clear hK K;refine nA 36 ?_;refine pA 2 37 HT_ ?_;refine pA 3 38 HT_ ?_;refine pB 4 39 HT_ ?_;refine pB 5 40 HT_ ?_;refine pB 6 41 HT_ ?_;refine pB 7 42 HT_ ?_;refine pB 8 43 HT_ ?_;refine pB 9 44 HT_ ?_;refine pB 10 45 HT_ ?_;refine pB 11 46 HT_ ?_;refine pB 12 47 HT_ ?_;refine pB 13 48 HT_ ?_;refine pB 14 49 HT_ ?_;refine pB 15 50 HT_ ?_;refine pB 16 51 HT_ ?_;refine pB 17 52 HT_ ?_;refine pA 18 53 HT_ ?_;refine done_ (done_of HT_.out (by kernel_rfl)) ?_
          try go_wp2
          go_ret
          exact ⟨ff,bs HB⟩
        ·rw [if_neg c17] at H
         exact absurd H (by simp)
       ·rw [if_neg c16] at H
        exact absurd H (by simp)
      ·rw [if_neg c15] at H;have c15b0:decide (x30_2<(l0_2.length:Int))=false:=decide_eq_false c15;clear c15;replace H:=Option.bind_eq_some_iff.mp H;obtain ⟨t428,A490,H⟩:=H;replace H:(if t428=true then ((impl_BookRight.f k2 l0_4 l0_5).bind fun t429=>(if t429=true then ((impl_OutboxRight.f k2 l0_7).bind fun t430=>(some t430)) else (some false))) else (some false))=some r:=H;have A49:=am A490;clear A490;obtain ⟨hcz50_0,hcz50_1,hcz50_2,hcz50_3,hcz50_4,hcz50_5,hcz50_6,hcz50_7,hfz50_0,hfz50_1,hfz50_2,hfz50_3,hfz50_4,hfz50_5,hfz50_6,hfz50_7⟩:=cf8 BK421
       try go_wp2_with (fail)
       go_at_call 65;(with_reducible refine (impl_CrossRight.calls k2 _ _ l0_3 t428 _ (Kd.C_below HR0_3.out (bs HB)) HC0_3.out A49.out).mono ?_);rintro e w51 ⟨rfl,hb⟩;replace BK421:=am (blk_below (ks BK421) hb);replace HB:=am (below_step (bs HB) hb);(try clear hb);(try clear hb2);(try clear hk);(try clear hi)
       by_cases c52:t428=true
       ·subst c52
        have H1:((impl_BookRight.f k2 l0_4 l0_5).bind fun t429=>(if t429=true then ((impl_OutboxRight.f k2 l0_7).bind fun t430=>(some t430)) else (some false)))=some r:=by rw [if_pos rfl] at H;exact H
        clear H;have H:=H1;clear H1;replace H:=Option.bind_eq_some_iff.mp H;obtain ⟨t429,A530,H⟩:=H;replace H:(if t429=true then ((impl_OutboxRight.f k2 l0_7).bind fun t430=>(some t430)) else (some false))=some r:=H;have A53:=am A530;clear A530;obtain ⟨hcz54_0,hcz54_1,hcz54_2,hcz54_3,hcz54_4,hcz54_5,hcz54_6,hcz54_7,hfz54_0,hfz54_1,hfz54_2,hfz54_3,hfz54_4,hfz54_5,hfz54_6,hfz54_7⟩:=cf8 BK421
        try go_wp2_with (fail)
        go_at_call 44;(with_reducible refine (impl_BookRight.calls k2 _ _ l0_4 _ _ l0_5 t429 _ (Kd.C_below HR0_4.out (bs HB)) HC0_4.out (Kd.C_below HR0_5.out (bs HB)) HC0_5.out A53.out).mono ?_);rintro e w55 ⟨rfl,hb⟩;replace BK421:=am (blk_below (ks BK421) hb);replace HB:=am (below_step (bs HB) hb);(try clear hb);(try clear hb2);(try clear hk);(try clear hi)
        by_cases c56:t429=true
        ·subst c56
         have H1:((impl_OutboxRight.f k2 l0_7).bind fun t430=>(some t430))=some r:=by rw [if_pos rfl] at H;exact H
         clear H;have H:=H1;clear H1;replace H:=Option.bind_eq_some_iff.mp H;obtain ⟨t430,A570,H⟩:=H;replace H:(some t430)=some r:=H;have A57:=am A570;clear A570;obtain rfl:=Option.some.inj H;obtain ⟨hcz58_0,hcz58_1,hcz58_2,hcz58_3,hcz58_4,hcz58_5,hcz58_6,hcz58_7,hfz58_0,hfz58_1,hfz58_2,hfz58_3,hfz58_4,hfz58_5,hfz58_6,hfz58_7⟩:=cf8 BK421
         go_wp2_with (first|(go_at_call 66;(with_reducible refine (impl_OutboxRight.calls k2 _ _ l0_7 t430 _ (Kd.C_below HR0_7.out (bs HB)) HC0_7.out A57.out).mono ?_);rintro e w59 ⟨rfl,hb⟩;replace BK421:=am (blk_below (ks BK421) hb);replace HB:=am (below_step (bs HB) hb);(try clear hb);(try clear hb2);(try clear hk);(try clear hi)))
         go_ret
         exact ⟨ff,bs HB⟩
        ·replace c56:=Bool.eq_false_iff.mpr c56;subst c56
         have H1:(some false)=some r:=by rw [if_neg (show ¬ (false=true) by decide)] at H;exact H
         clear H;have H:=H1;clear H1;obtain rfl:=Option.some.inj H
         go_wp2
         go_ret
         exact ⟨ff,bs HB⟩
       ·replace c52:=Bool.eq_false_iff.mpr c52;subst c52
        have H1:(some false)=some r:=by rw [if_neg (show ¬ (false=true) by decide)] at H;exact H
        clear H;have H:=H1;clear H1;obtain rfl:=Option.some.inj H
        go_wp2
        go_ret
        exact ⟨ff,bs HB⟩
end Go.Proofs.Ytjjfjgdhloideaa.QI
namespace Go.Proofs.Ytjjfjgdhloideaa.QI
open Go.RowKit Go.Proofs.YtjjfjgdhloideaaW.PrintWords Go.Proofs.YtjjfjgdhloideaaW.PrintLast Go.Proofs.YtjjfjgdhloideaaW.PrintMore
attribute [local go_sem] max2_int min2_int max_two min_two max_three min_three max_four min_four   -- for this text's walks alone
set_option linter.unusedVariables false
set_option linter.unusedSimpArgs false
set_option maxHeartbeats 8000000 in
set_option maxRecDepth 100000 in
theorem laws_eqSeen.calls (a0_0:Int) (a0_1:Int) (a0_2:Int) (a1_0:Int) (a1_1:Int) (a1_2:Int) (r:Bool) (w:World) (h:laws_eqSeen.f a0_0 a0_1 a0_2 a1_0 a1_1 a1_2=some r) :
  Calls Try.prog 121 #[.agg #[.int .i64 a0_0,.int .i64 a0_1,.int .i64 a0_2],.agg #[.int .i64 a1_0,.int .i64 a1_1,.int .i64 a1_2]] w fun e w'=>e=.returned (.bool r)∧Below w.heap.size w w':=by
 have hu135:=Try.underlying135;have HB:=am (Below.refl w.heap.size w);have H:(if a0_0=a1_0 then (if a0_1=a1_1 then (if a0_2=a1_2 then (some true) else (some false)) else (some false)) else (some false))=some r:=h;clear h
 by_cases c3:a0_0=a1_0
 ·rw [if_pos c3] at H;have c3b0:(a0_0 == a1_0)=true:=beq_iff_eq.mpr c3;have c3b1:(a0_0 != a1_0)=false:=bne_eq_false_iff_eq.mpr c3;clear c3
  by_cases c4:a0_1=a1_1
  ·rw [if_pos c4] at H;have c4b0:(a0_1 == a1_1)=true:=beq_iff_eq.mpr c4;have c4b1:(a0_1 != a1_1)=false:=bne_eq_false_iff_eq.mpr c4;clear c4
   by_cases c5:a0_2=a1_2
   ·rw [if_pos c5] at H;have c5b0:(a0_2 == a1_2)=true:=beq_iff_eq.mpr c5;have c5b1:(a0_2 != a1_2)=false:=bne_eq_false_iff_eq.mpr c5;clear c5;obtain rfl:=Option.some.inj H
    go_enter Try.func121,Try.ntmps121
    go_wp2_with (first|((with_reducible refine gate_dst (N:=2) rfl ?_);refine bx 2 (cs:=#[.int .i64 a0_0,.int .i64 a0_1,.int .i64 a0_2]) (t:=135) ?_;intro gb431 hg w6 hbox hb;have BK431:=am (hbox);have GW431:=am ((gs hg (bs HB)));have GE431:=am ((gs hg (bs HB)));replace HB:=am (below_step (bs HB) hb);clear hb hbox hg)|((with_reducible refine gate_dst (N:=3) rfl ?_);refine bx 3 (cs:=#[.int .i64 a1_0,.int .i64 a1_1,.int .i64 a1_2]) (t:=135) ?_;intro gb432 hg w7 hbox hb;have BK432:=am (hbox);have GW432:=am ((gs hg (bs HB)));have GE432:=am ((gs hg (bs HB)));replace HB:=am (below_step (bs HB) hb);have NB431_432:=am ((gn hg (ks BK431)));have NB432_431:=am ((gm hg (ks BK431)));replace BK431:=am (blk_below (ks BK431) hb);clear hb hbox hg;have hnb8:=NB431_432.out;have hnc8:=NB432_431.out;obtain ⟨hcz9_0,hcz9_1,hcz9_2,hfz9_0,hfz9_1,hfz9_2⟩:=cf3 BK431;obtain ⟨hcz10_0,hcz10_1,hcz10_2,hfz10_0,hfz10_1,hfz10_2⟩:=cf3 BK432))
    go_ret
    exact ⟨ff,bs HB⟩
   ·rw [if_neg c5] at H;have c5b0:(a0_2 == a1_2)=false:=beq_eq_false_iff_ne.mpr c5;have c5b1:(a0_2 != a1_2)=true:=bne_iff_ne.mpr c5;obtain rfl:=Option.some.inj H
    go_enter Try.func121,Try.ntmps121
    go_wp2_with (first|((with_reducible refine gate_dst (N:=2) rfl ?_);refine bx 2 (cs:=#[.int .i64 a0_0,.int .i64 a0_1,.int .i64 a0_2]) (t:=135) ?_;intro gb431 hg w11 hbox hb;have BK431:=am (hbox);have GW431:=am ((gs hg (bs HB)));have GE431:=am ((gs hg (bs HB)));replace HB:=am (below_step (bs HB) hb);clear hb hbox hg)|((with_reducible refine gate_dst (N:=3) rfl ?_);refine bx 3 (cs:=#[.int .i64 a1_0,.int .i64 a1_1,.int .i64 a1_2]) (t:=135) ?_;intro gb432 hg w12 hbox hb;have BK432:=am (hbox);have GW432:=am ((gs hg (bs HB)));have GE432:=am ((gs hg (bs HB)));replace HB:=am (below_step (bs HB) hb);have NB431_432:=am ((gn hg (ks BK431)));have NB432_431:=am ((gm hg (ks BK431)));replace BK431:=am (blk_below (ks BK431) hb);clear hb hbox hg;have hnb13:=NB431_432.out;have hnc13:=NB432_431.out;obtain ⟨hcz14_0,hcz14_1,hcz14_2,hfz14_0,hfz14_1,hfz14_2⟩:=cf3 BK431;obtain ⟨hcz15_0,hcz15_1,hcz15_2,hfz15_0,hfz15_1,hfz15_2⟩:=cf3 BK432))
    go_ret
    exact ⟨ff,bs HB⟩
  ·rw [if_neg c4] at H;have c4b0:(a0_1 == a1_1)=false:=beq_eq_false_iff_ne.mpr c4;have c4b1:(a0_1 != a1_1)=true:=bne_iff_ne.mpr c4;obtain rfl:=Option.some.inj H
   go_enter Try.func121,Try.ntmps121
   go_wp2_with (first|((with_reducible refine gate_dst (N:=2) rfl ?_);refine bx 2 (cs:=#[.int .i64 a0_0,.int .i64 a0_1,.int .i64 a0_2]) (t:=135) ?_;intro gb431 hg w16 hbox hb;have BK431:=am (hbox);have GW431:=am ((gs hg (bs HB)));have GE431:=am ((gs hg (bs HB)));replace HB:=am (below_step (bs HB) hb);clear hb hbox hg)|((with_reducible refine gate_dst (N:=3) rfl ?_);refine bx 3 (cs:=#[.int .i64 a1_0,.int .i64 a1_1,.int .i64 a1_2]) (t:=135) ?_;intro gb432 hg w17 hbox hb;have BK432:=am (hbox);have GW432:=am ((gs hg (bs HB)));have GE432:=am ((gs hg (bs HB)));replace HB:=am (below_step (bs HB) hb);have NB431_432:=am ((gn hg (ks BK431)));have NB432_431:=am ((gm hg (ks BK431)));replace BK431:=am (blk_below (ks BK431) hb);clear hb hbox hg;have hnb18:=NB431_432.out;have hnc18:=NB432_431.out;obtain ⟨hcz19_0,hcz19_1,hcz19_2,hfz19_0,hfz19_1,hfz19_2⟩:=cf3 BK431;obtain ⟨hcz20_0,hcz20_1,hcz20_2,hfz20_0,hfz20_1,hfz20_2⟩:=cf3 BK432))
   go_ret
   exact ⟨ff,bs HB⟩
 ·rw [if_neg c3] at H;have c3b0:(a0_0 == a1_0)=false:=beq_eq_false_iff_ne.mpr c3;have c3b1:(a0_0 != a1_0)=true:=bne_iff_ne.mpr c3;obtain rfl:=Option.some.inj H
  go_enter Try.func121,Try.ntmps121
  go_wp2_with (first|((with_reducible refine gate_dst (N:=2) rfl ?_);refine bx 2 (cs:=#[.int .i64 a0_0,.int .i64 a0_1,.int .i64 a0_2]) (t:=135) ?_;intro gb431 hg w21 hbox hb;have BK431:=am (hbox);have GW431:=am ((gs hg (bs HB)));have GE431:=am ((gs hg (bs HB)));replace HB:=am (below_step (bs HB) hb);clear hb hbox hg)|((with_reducible refine gate_dst (N:=3) rfl ?_);refine bx 3 (cs:=#[.int .i64 a1_0,.int .i64 a1_1,.int .i64 a1_2]) (t:=135) ?_;intro gb432 hg w22 hbox hb;have BK432:=am (hbox);have GW432:=am ((gs hg (bs HB)));have GE432:=am ((gs hg (bs HB)));replace HB:=am (below_step (bs HB) hb);have NB431_432:=am ((gn hg (ks BK431)));have NB432_431:=am ((gm hg (ks BK431)));replace BK431:=am (blk_below (ks BK431) hb);clear hb hbox hg;have hnb23:=NB431_432.out;have hnc23:=NB432_431.out;obtain ⟨hcz24_0,hcz24_1,hcz24_2,hfz24_0,hfz24_1,hfz24_2⟩:=cf3 BK431;obtain ⟨hcz25_0,hcz25_1,hcz25_2,hfz25_0,hfz25_1,hfz25_2⟩:=cf3 BK432))
  go_ret
  exact ⟨ff,bs HB⟩
end Go.Proofs.Ytjjfjgdhloideaa.QI
namespace Go.Proofs.Ytjjfjgdhloideaa.QI
open Go.RowKit Go.Proofs.YtjjfjgdhloideaaW.PrintWords Go.Proofs.YtjjfjgdhloideaaW.PrintLast Go.Proofs.YtjjfjgdhloideaaW.PrintMore
attribute [local go_sem] max2_int min2_int max_two min_two max_three min_three max_four min_four   -- for this text's walks alone
set_option linter.unusedVariables false
set_option linter.unusedSimpArgs false
def laws_eqSeenS.T6 : Bool × List (List Nat × List Nat) := (true, [([], []), ([], []), ([0, 1], [0, 1]), ([2], [2]), ([], []), ([], []), ([4, 5], [4, 5]), ([6], [6]), ([3, 7], [3, 7]), ([8], [8])])
def laws_eqSeenS.B6 : List Nat := [0, 0, 3, 7, 0, 0, 48, 112, 255, 511]
theorem laws_eqSeenS.tab6 : rtab .any (opsOf Try.f107 6) = laws_eqSeenS.T6 := by kernel_rfl
theorem laws_eqSeenS.bits6 : waitsOk laws_eqSeenS.T6.2 laws_eqSeenS.B6 = true := by kernel_rfl
set_option maxHeartbeats 8000000 in
set_option maxRecDepth 100000 in
theorem laws_eqSeenS.calls (k:Nat) (A0:Option Addr) (c0:Nat) (l0:List (S135)) (A1:Option Addr) (c1:Nat) (l1:List (S135)) (r:Bool) (w:World) (hr0:Kd.C k135 w A0 l0.length l0) (hc0:l0.length≤c0) (hr1:Kd.C k135 w A1 l1.length l1) (hc1:l1.length≤c1) (h:laws_eqSeenS.f k l0 l1=some r) :
  Calls Try.prog 107 #[.slice A0 l0.length c0,.slice A1 l1.length c1] w fun e w'=>e=.returned (.bool r)∧Below w.heap.size w w':=by
 have hu135:=Try.underlying135;have HR0:=am hr0;have HC0:=am hc0;clear hr0 hc0;have HR1:=am hr1;have HC1:=am hc1;clear hr1 hc1;have HB:=am (Below.refl w.heap.size w);have H:(if (l0.length:Int)=(l1.length:Int) then (laws_eqSeenS.l0 k l0 l1 0) else (some false))=some r:=h;clear h
 by_cases c3:(l0.length:Int)=(l1.length:Int)
 ·rw [if_pos c3] at H;have c3b0:((l0.length:Int) == (l1.length:Int))=true:=beq_iff_eq.mpr c3;have c3b1:((l0.length:Int) != (l1.length:Int))=false:=bne_eq_false_iff_eq.mpr c3
  have c3b2:(l0.length == l1.length)=true:=by first|simpa using c3|(simp at c3 ⊢;omega)
  clear c3;have H':=am H;clear H
  go_enter Try.func107,Try.ntmps107
  go_wp2
  go_loopg [5] k (fun kq v5 w'=>∃ (x5_1:Int),v5=.int .i64 x5_1∧Aside0 (laws_eqSeenS.l0 kq l0 l1 x5_1=some r)∧Aside0 (kq≤k)∧Aside0 (Below w.heap.size w w'))
  case atStart=>exact ⟨(0),fg,H',⟨Nat.le_refl _⟩,⟨bs HB⟩⟩
  case round =>
   clear H'
   try clear c1
   try clear p2
   try clear c3
   try clear c3b0
   try clear c3b1
   try clear c3b2
   obtain ⟨x5_1,rfl,HA,HK1,HB⟩:=hrel
   cases gk with
   | zero=>exact absurd HA.out (by simp [laws_eqSeenS.l0])
   | succ k1 =>
    have H:=HA.out;clear HA;simp only [laws_eqSeenS.l0] at H
    by_cases c4:x5_1<(l0.length:Int)
    ·rw [if_pos c4] at H;have c4b0:decide (x5_1<(l0.length:Int))=true:=decide_eq_true c4;clear c4
     by_cases c5:0≤x5_1
     ·rw [if_pos c5] at H;have c5b0:decide (0≤x5_1)=true:=decide_eq_true c5;clear c5
      by_cases c6:x5_1<(l1.length:Int)
      ·rw [if_pos c6] at H;have c6b0:decide (x5_1<(l1.length:Int))=true:=decide_eq_true c6;clear c6;replace H:=Option.bind_eq_some_iff.mp H;obtain ⟨t435,A70,H⟩:=H;replace H:(if t435=true then (laws_eqSeenS.l0 k1 l0 l1 (wrap64 (x5_1+1))) else (some false))=some r:=H;have A7:=am A70;clear A70
       by_cases c8:t435=true
       ·subst c8
        have H1:(laws_eqSeenS.l0 k1 l0 l1 (wrap64 (x5_1+1)))=some r:=by rw [if_pos rfl] at H;exact H
        clear H;have H:=H1;clear H1;have H':=am H;clear H
        try go_wp2
        replace HB:=am (below_drew1 HB.out);have p433:0≤(x5_1:Int):=oa;have q433:x5_1<(l0.length:Int):=oa;obtain ⟨ad433,e433,hx433_0,hx433_1,hx433_2⟩:=at_T135 HR0.out x5_1 p433 q433;have hw433_2:=hx433_2;have hw433_1:=hx433_1;have hw433_0:=hx433_0
        cases e433
        replace hx433_0:=cb HB hx433_0;replace hx433_1:=cb HB hx433_1;replace hx433_2:=cb HB hx433_2;replace p433:=eq_true p433;replace q433:=eq_true q433;have p434:0≤(x5_1:Int):=oa;have q434:x5_1<(l1.length:Int):=oa;obtain ⟨ad434,e434,hx434_0,hx434_1,hx434_2⟩:=at_T135 HR1.out x5_1 p434 q434;have hw434_2:=hx434_2;have hw434_1:=hx434_1;have hw434_0:=hx434_0
        cases e434
        replace hx434_0:=cb HB hx434_0;replace hx434_1:=cb HB hx434_1;replace hx434_2:=cb HB hx434_2;replace p434:=eq_true p434;replace q434:=eq_true q434;refine start_ (n:=10) (S:=fun w'=>qe3a w' (ad433.add ((x5_1).toNat * 3)) (.int .i64 ((rd_T135 l0 x5_1).f0)) (.int .i64 ((rd_T135 l0 x5_1).f1)) (.int .i64 ((rd_T135 l0 x5_1).f2)) (qe3 w' (ad434.add ((x5_1).toNat * 3)) (.int .i64 ((rd_T135 l1 x5_1).f0)) (.int .i64 ((rd_T135 l1 x5_1).f1)) (.int .i64 ((rd_T135 l1 x5_1).f2)))) (ds:=[]) _ (by kernel_rfl) rfl rfl ⟨((cb HB hw433_0).trans rfl),((cb HB hw433_1).trans rfl),((cb HB hw433_2).trans rfl),((cb HB hw434_0).trans rfl),((cb HB hw434_1).trans rfl),((cb HB hw434_2).trans rfl)⟩ (fun hHeld=>?_);refine with_tabW laws_eqSeenS.tab6 laws_eqSeenS.bits6 (fun HT_ HW_=>?_)
        generalize wr.drew=w9 at HB hx433_0 hx433_1 hx433_2 hx434_0 hx434_1 hx434_2 hHeld ⊢
        refine pA 0 17 HT_ ?_;refine pA 1 18 HT_ ?_;refine pA 2 19 HT_ ?_;refine pA 4 21 HT_ ?_;refine pA 5 22 HT_ ?_;refine pA 6 23 HT_ ?_;refine tA 3 20 HT_ HW_ hHeld ?_;refine tA 7 24 HT_ HW_ hHeld ?_;refine oA 8 25 HT_ (fun K hK=>?_);refine gA Try.func121 #[.agg #[.int .i64 ((rd_T135 l0 x5_1).f0),.int .i64 ((rd_T135 l0 x5_1).f1),.int .i64 ((rd_T135 l0 x5_1).f2)],.agg #[.int .i64 ((rd_T135 l1 x5_1).f0),.int .i64 ((rd_T135 l1 x5_1).f1),.int .i64 ((rd_T135 l1 x5_1).f2)]] ?_;(with_reducible refine (laws_eqSeen.calls ((rd_T135 l0 x5_1).f0) ((rd_T135 l0 x5_1).f1) ((rd_T135 l0 x5_1).f2) ((rd_T135 l1 x5_1).f0) ((rd_T135 l1 x5_1).f1) ((rd_T135 l1 x5_1).f2) true _ A7.out).mono ?_);rintro e w10 ⟨rfl,hb⟩;refine ⟨_,rfl,?_⟩;replace HB:=am (below_step (bs HB) hb);(try clear hb);(try clear hb2);(try clear hk);(try clear hi);refine hK.out _ _ ⟨((cb HB hw433_0).trans rfl),((cb HB hw433_1).trans rfl),((cb HB hw433_2).trans rfl),((cb HB hw434_0).trans rfl),((cb HB hw434_1).trans rfl),((cb HB hw434_2).trans rfl)⟩ (fun hHeld=>?_);clear hK K;refine nA 25 ?_;refine pA 9 26 HT_ ?_;refine done_ (done_of HT_.out (by kernel_rfl)) ?_
        try go_wp2
        go_roundg k1
        case measure=>have:=HK1.out;omega
        case rel=>exact ⟨(wrap64 (x5_1+1)),fg,H',⟨by have:=HK1.out;omega⟩,⟨bs HB⟩⟩
       ·replace c8:=Bool.eq_false_iff.mpr c8;subst c8
        have H1:(some false)=some r:=by rw [if_neg (show ¬ (false=true) by decide)] at H;exact H
        clear H;have H:=H1;clear H1;obtain rfl:=Option.some.inj H
        try go_wp2
        replace HB:=am (below_drew1 HB.out);have p433:0≤(x5_1:Int):=oa;have q433:x5_1<(l0.length:Int):=oa;obtain ⟨ad433,e433,hx433_0,hx433_1,hx433_2⟩:=at_T135 HR0.out x5_1 p433 q433;have hw433_2:=hx433_2;have hw433_1:=hx433_1;have hw433_0:=hx433_0
        cases e433
        replace hx433_0:=cb HB hx433_0;replace hx433_1:=cb HB hx433_1;replace hx433_2:=cb HB hx433_2;replace p433:=eq_true p433;replace q433:=eq_true q433;have p434:0≤(x5_1:Int):=oa;have q434:x5_1<(l1.length:Int):=oa;obtain ⟨ad434,e434,hx434_0,hx434_1,hx434_2⟩:=at_T135 HR1.out x5_1 p434 q434;have hw434_2:=hx434_2;have hw434_1:=hx434_1;have hw434_0:=hx434_0
        cases e434
        replace hx434_0:=cb HB hx434_0;replace hx434_1:=cb HB hx434_1;replace hx434_2:=cb HB hx434_2;replace p434:=eq_true p434;replace q434:=eq_true q434;refine start_ (n:=10) (S:=fun w'=>qe3a w' (ad433.add ((x5_1).toNat * 3)) (.int .i64 ((rd_T135 l0 x5_1).f0)) (.int .i64 ((rd_T135 l0 x5_1).f1)) (.int .i64 ((rd_T135 l0 x5_1).f2)) (qe3 w' (ad434.add ((x5_1).toNat * 3)) (.int .i64 ((rd_T135 l1 x5_1).f0)) (.int .i64 ((rd_T135 l1 x5_1).f1)) (.int .i64 ((rd_T135 l1 x5_1).f2)))) (ds:=[]) _ (by kernel_rfl) rfl rfl ⟨((cb HB hw433_0).trans rfl),((cb HB hw433_1).trans rfl),((cb HB hw433_2).trans rfl),((cb HB hw434_0).trans rfl),((cb HB hw434_1).trans rfl),((cb HB hw434_2).trans rfl)⟩ (fun hHeld=>?_);refine with_tabW laws_eqSeenS.tab6 laws_eqSeenS.bits6 (fun HT_ HW_=>?_)
        generalize wr.drew=w11 at HB hx433_0 hx433_1 hx433_2 hx434_0 hx434_1 hx434_2 hHeld ⊢
        refine pA 0 17 HT_ ?_;refine pA 1 18 HT_ ?_;refine pA 2 19 HT_ ?_;refine pA 4 21 HT_ ?_;refine pA 5 22 HT_ ?_;refine pA 6 23 HT_ ?_;refine tA 3 20 HT_ HW_ hHeld ?_;refine tA 7 24 HT_ HW_ hHeld ?_;refine oA 8 25 HT_ (fun K hK=>?_);refine gA Try.func121 #[.agg #[.int .i64 ((rd_T135 l0 x5_1).f0),.int .i64 ((rd_T135 l0 x5_1).f1),.int .i64 ((rd_T135 l0 x5_1).f2)],.agg #[.int .i64 ((rd_T135 l1 x5_1).f0),.int .i64 ((rd_T135 l1 x5_1).f1),.int .i64 ((rd_T135 l1 x5_1).f2)]] ?_;(with_reducible refine (laws_eqSeen.calls ((rd_T135 l0 x5_1).f0) ((rd_T135 l0 x5_1).f1) ((rd_T135 l0 x5_1).f2) ((rd_T135 l1 x5_1).f0) ((rd_T135 l1 x5_1).f1) ((rd_T135 l1 x5_1).f2) false _ A7.out).mono ?_);rintro e w12 ⟨rfl,hb⟩;refine ⟨_,rfl,?_⟩;replace HB:=am (below_step (bs HB) hb);(try clear hb);(try clear hb2);(try clear hk);(try clear hi);refine hK.out _ _ ⟨((cb HB hw433_0).trans rfl),((cb HB hw433_1).trans rfl),((cb HB hw433_2).trans rfl),((cb HB hw434_0).trans rfl),((cb HB hw434_1).trans rfl),((cb HB hw434_2).trans rfl)⟩ (fun hHeld=>?_);clear hK K;refine nA 25 ?_;refine pA 9 26 HT_ ?_;refine done_ (done_of HT_.out (by kernel_rfl)) ?_
        try go_wp2
        go_ret
        exact ⟨ff,bs HB⟩
      ·rw [if_neg c6] at H
       exact absurd H (by simp)
     ·rw [if_neg c5] at H
      exact absurd H (by simp)
    ·rw [if_neg c4] at H;have c4b0:decide (x5_1<(l0.length:Int))=false:=decide_eq_false c4;clear c4;obtain rfl:=Option.some.inj H
     go_wp2
     go_ret
     exact ⟨ff,bs HB⟩
 ·rw [if_neg c3] at H;have c3b0:((l0.length:Int) == (l1.length:Int))=false:=beq_eq_false_iff_ne.mpr c3;have c3b1:((l0.length:Int) != (l1.length:Int))=true:=bne_iff_ne.mpr c3
  have c3b2:(l0.length == l1.length)=false:=by first|simpa using c3|(simp at c3 ⊢;omega)
  obtain rfl:=Option.some.inj H
  go_enter Try.func107,Try.ntmps107
  go_wp2
  go_ret
  exact ⟨ff,bs HB⟩
end Go.Proofs.Ytjjfjgdhloideaa.QI
namespace Go.Proofs.Ytjjfjgdhloideaa.QI
open Go.RowKit Go.Proofs.YtjjfjgdhloideaaW.PrintWords Go.Proofs.YtjjfjgdhloideaaW.PrintLast Go.Proofs.YtjjfjgdhloideaaW.PrintMore
attribute [local go_sem] max2_int min2_int max_two min_two max_three min_three max_four min_four   -- for this text's walks alone
set_option linter.unusedVariables false
set_option linter.unusedSimpArgs false
set_option maxHeartbeats 8000000 in
set_option maxRecDepth 100000 in
theorem laws_eqPartner.calls (k:Nat) (a0_0:ByteArray) (a0_1:Int) (a0_2:Int) (A0_3:Option Addr) (c0_3:Nat) (l0_3:List (S135)) (a1_0:ByteArray) (a1_1:Int) (a1_2:Int) (A1_3:Option Addr) (c1_3:Nat) (l1_3:List (S135)) (r:Bool) (w:World) (hr0_3:Kd.C k135 w A0_3 l0_3.length l0_3) (hc0_3:l0_3.length≤c0_3) (hr1_3:Kd.C k135 w A1_3 l1_3.length l1_3) (hc1_3:l1_3.length≤c1_3) (h:laws_eqPartner.f k a0_0 a0_1 a0_2 l0_3 a1_0 a1_1 a1_2 l1_3=some r) :
  Calls Try.prog 70 #[.agg #[.string a0_0,.int .i64 a0_1,.int .i64 a0_2,.slice A0_3 l0_3.length c0_3],.agg #[.string a1_0,.int .i64 a1_1,.int .i64 a1_2,.slice A1_3 l1_3.length c1_3]] w fun e w'=>e=.returned (.bool r)∧Below w.heap.size w w':=by
 have hu92:=Try.underlying92;have HR0_3:=am hr0_3;have HC0_3:=am hc0_3;clear hr0_3 hc0_3;have HR1_3:=am hr1_3;have HC1_3:=am hc1_3;clear hr1_3 hc1_3;have HB:=am (Below.refl w.heap.size w);have H:(if a0_0.toList=a1_0.toList then (if a0_1=a1_1 then (if a0_2=a1_2 then ((laws_eqSeenS.f k l0_3 l1_3).bind fun t438=>(if t438=true then (some true) else (some false))) else (some false)) else (some false)) else (some false))=some r:=h;clear h
 by_cases c3:a0_0.toList=a1_0.toList
 ·rw [if_pos c3] at H;have c3b0:(a0_0.toList == a1_0.toList)=true:=beq_iff_eq.mpr c3;have c3b1:(a0_0.toList != a1_0.toList)=false:=bne_eq_false_iff_eq.mpr c3;clear c3
  by_cases c4:a0_1=a1_1
  ·rw [if_pos c4] at H;have c4b0:(a0_1 == a1_1)=true:=beq_iff_eq.mpr c4;have c4b1:(a0_1 != a1_1)=false:=bne_eq_false_iff_eq.mpr c4;clear c4
   by_cases c5:a0_2=a1_2
   ·rw [if_pos c5] at H;have c5b0:(a0_2 == a1_2)=true:=beq_iff_eq.mpr c5;have c5b1:(a0_2 != a1_2)=false:=bne_eq_false_iff_eq.mpr c5;clear c5;replace H:=Option.bind_eq_some_iff.mp H;obtain ⟨t438,A60,H⟩:=H;replace H:(if t438=true then (some true) else (some false))=some r:=H;have A6:=am A60;clear A60
    go_enter Try.func70,Try.ntmps70
    try go_wp2_with (first|((with_reducible refine gate_dst (N:=2) rfl ?_);refine bx 2 (cs:=#[.string a0_0,.int .i64 a0_1,.int .i64 a0_2,.slice A0_3 l0_3.length c0_3]) (t:=92) ?_;intro gb436 hg w7 hbox hb;have BK436:=am (hbox);have GW436:=am ((gs hg (bs HB)));have GE436:=am ((gs hg (bs HB)));replace HB:=am (below_step (bs HB) hb);clear hb hbox hg)|((with_reducible refine gate_dst (N:=3) rfl ?_);refine bx 3 (cs:=#[.string a1_0,.int .i64 a1_1,.int .i64 a1_2,.slice A1_3 l1_3.length c1_3]) (t:=92) ?_;intro gb437 hg w8 hbox hb;have BK437:=am (hbox);have GW437:=am ((gs hg (bs HB)));have GE437:=am ((gs hg (bs HB)));replace HB:=am (below_step (bs HB) hb);have NB436_437:=am ((gn hg (ks BK436)));have NB437_436:=am ((gm hg (ks BK436)));replace BK436:=am (blk_below (ks BK436) hb);clear hb hbox hg;have hnb9:=NB436_437.out;have hnc9:=NB437_436.out;obtain ⟨hcz10_0,hcz10_1,hcz10_2,hcz10_3,hfz10_0,hfz10_1,hfz10_2,hfz10_3⟩:=cf4 BK436;obtain ⟨hcz11_0,hcz11_1,hcz11_2,hcz11_3,hfz11_0,hfz11_1,hfz11_2,hfz11_3⟩:=cf4 BK437))
    go_at_call 107;(with_reducible refine (laws_eqSeenS.calls k _ _ l0_3 _ _ l1_3 t438 _ (Kd.C_below HR0_3.out (bs HB)) HC0_3.out (Kd.C_below HR1_3.out (bs HB)) HC1_3.out A6.out).mono ?_);rintro e w12 ⟨rfl,hb⟩;replace BK436:=am (blk_below (ks BK436) hb);replace BK437:=am (blk_below (ks BK437) hb);replace HB:=am (below_step (bs HB) hb);(try clear hb);(try clear hb2);(try clear hk);(try clear hi)
    by_cases c13:t438=true
    ·subst c13
     have H1:(some true)=some r:=by rw [if_pos rfl] at H;exact H
     clear H;have H:=H1;clear H1;obtain rfl:=Option.some.inj H
     go_wp2
     go_ret
     exact ⟨ff,bs HB⟩
    ·replace c13:=Bool.eq_false_iff.mpr c13;subst c13
     have H1:(some false)=some r:=by rw [if_neg (show ¬ (false=true) by decide)] at H;exact H
     clear H;have H:=H1;clear H1;obtain rfl:=Option.some.inj H
     go_wp2
     go_ret
     exact ⟨ff,bs HB⟩
   ·rw [if_neg c5] at H;have c5b0:(a0_2 == a1_2)=false:=beq_eq_false_iff_ne.mpr c5;have c5b1:(a0_2 != a1_2)=true:=bne_iff_ne.mpr c5;obtain rfl:=Option.some.inj H
    go_enter Try.func70,Try.ntmps70
    go_wp2_with (first|((with_reducible refine gate_dst (N:=2) rfl ?_);refine bx 2 (cs:=#[.string a0_0,.int .i64 a0_1,.int .i64 a0_2,.slice A0_3 l0_3.length c0_3]) (t:=92) ?_;intro gb436 hg w14 hbox hb;have BK436:=am (hbox);have GW436:=am ((gs hg (bs HB)));have GE436:=am ((gs hg (bs HB)));replace HB:=am (below_step (bs HB) hb);clear hb hbox hg)|((with_reducible refine gate_dst (N:=3) rfl ?_);refine bx 3 (cs:=#[.string a1_0,.int .i64 a1_1,.int .i64 a1_2,.slice A1_3 l1_3.length c1_3]) (t:=92) ?_;intro gb437 hg w15 hbox hb;have BK437:=am (hbox);have GW437:=am ((gs hg (bs HB)));have GE437:=am ((gs hg (bs HB)));replace HB:=am (below_step (bs HB) hb);have NB436_437:=am ((gn hg (ks BK436)));have NB437_436:=am ((gm hg (ks BK436)));replace BK436:=am (blk_below (ks BK436) hb);clear hb hbox hg;have hnb16:=NB436_437.out;have hnc16:=NB437_436.out;obtain ⟨hcz17_0,hcz17_1,hcz17_2,hcz17_3,hfz17_0,hfz17_1,hfz17_2,hfz17_3⟩:=cf4 BK436;obtain ⟨hcz18_0,hcz18_1,hcz18_2,hcz18_3,hfz18_0,hfz18_1,hfz18_2,hfz18_3⟩:=cf4 BK437))
    go_ret
    exact ⟨ff,bs HB⟩
  ·rw [if_neg c4] at H;have c4b0:(a0_1 == a1_1)=false:=beq_eq_false_iff_ne.mpr c4;have c4b1:(a0_1 != a1_1)=true:=bne_iff_ne.mpr c4;obtain rfl:=Option.some.inj H
   go_enter Try.func70,Try.ntmps70
   go_wp2_with (first|((with_reducible refine gate_dst (N:=2) rfl ?_);refine bx 2 (cs:=#[.string a0_0,.int .i64 a0_1,.int .i64 a0_2,.slice A0_3 l0_3.length c0_3]) (t:=92) ?_;intro gb436 hg w19 hbox hb;have BK436:=am (hbox);have GW436:=am ((gs hg (bs HB)));have GE436:=am ((gs hg (bs HB)));replace HB:=am (below_step (bs HB) hb);clear hb hbox hg)|((with_reducible refine gate_dst (N:=3) rfl ?_);refine bx 3 (cs:=#[.string a1_0,.int .i64 a1_1,.int .i64 a1_2,.slice A1_3 l1_3.length c1_3]) (t:=92) ?_;intro gb437 hg w20 hbox hb;have BK437:=am (hbox);have GW437:=am ((gs hg (bs HB)));have GE437:=am ((gs hg (bs HB)));replace HB:=am (below_step (bs HB) hb);have NB436_437:=am ((gn hg (ks BK436)));have NB437_436:=am ((gm hg (ks BK436)));replace BK436:=am (blk_below (ks BK436) hb);clear hb hbox hg;have hnb21:=NB436_437.out;have hnc21:=NB437_436.out;obtain ⟨hcz22_0,hcz22_1,hcz22_2,hcz22_3,hfz22_0,hfz22_1,hfz22_2,hfz22_3⟩:=cf4 BK436;obtain ⟨hcz23_0,hcz23_1,hcz23_2,hcz23_3,hfz23_0,hfz23_1,hfz23_2,hfz23_3⟩:=cf4 BK437))
   go_ret
   exact ⟨ff,bs HB⟩
 ·rw [if_neg c3] at H;have c3b0:(a0_0.toList == a1_0.toList)=false:=beq_eq_false_iff_ne.mpr c3;have c3b1:(a0_0.toList != a1_0.toList)=true:=bne_iff_ne.mpr c3;obtain rfl:=Option.some.inj H
  go_enter Try.func70,Try.ntmps70
  go_wp2_with (first|((with_reducible refine gate_dst (N:=2) rfl ?_);refine bx 2 (cs:=#[.string a0_0,.int .i64 a0_1,.int .i64 a0_2,.slice A0_3 l0_3.length c0_3]) (t:=92) ?_;intro gb436 hg w24 hbox hb;have BK436:=am (hbox);have GW436:=am ((gs hg (bs HB)));have GE436:=am ((gs hg (bs HB)));replace HB:=am (below_step (bs HB) hb);clear hb hbox hg)|((with_reducible refine gate_dst (N:=3) rfl ?_);refine bx 3 (cs:=#[.string a1_0,.int .i64 a1_1,.int .i64 a1_2,.slice A1_3 l1_3.length c1_3]) (t:=92) ?_;intro gb437 hg w25 hbox hb;have BK437:=am (hbox);have GW437:=am ((gs hg (bs HB)));have GE437:=am ((gs hg (bs HB)));replace HB:=am (below_step (bs HB) hb);have NB436_437:=am ((gn hg (ks BK436)));have NB437_436:=am ((gm hg (ks BK436)));replace BK436:=am (blk_below (ks BK436) hb);clear hb hbox hg;have hnb26:=NB436_437.out;have hnc26:=NB437_436.out;obtain ⟨hcz27_0,hcz27_1,hcz27_2,hcz27_3,hfz27_0,hfz27_1,hfz27_2,hfz27_3⟩:=cf4 BK436;obtain ⟨hcz28_0,hcz28_1,hcz28_2,hcz28_3,hfz28_0,hfz28_1,hfz28_2,hfz28_3⟩:=cf4 BK437))
  go_ret
  exact ⟨ff,bs HB⟩
end Go.Proofs.Ytjjfjgdhloideaa.QI

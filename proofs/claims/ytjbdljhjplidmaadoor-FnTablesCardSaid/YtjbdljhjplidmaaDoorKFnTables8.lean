-- Merged by a program of this session (wip/tool/pack.py) out of its own texts for this claim.
import Derived.Test.YtjbdljhjplidmaaDoorKFnTables0
import Derived.Test.YtjbdljhjplidmaaDoorKFnTables1
import Derived.Test.YtjbdljhjplidmaaDoorKFnTables2
import Derived.Test.YtjbdljhjplidmaaDoorKFnTables3
import Derived.Test.YtjbdljhjplidmaaDoorKFnTables4
import Derived.Test.YtjbdljhjplidmaaDoorKFnTables5
import Derived.Test.YtjbdljhjplidmaaDoorKFnTables7
namespace Go.Proofs.YtjbdljhjplidmaaDoor.QF
open Go.RowKit Go.Proofs.YtjbdljhjplidmaaDoorW.PrintWords Go.Proofs.YtjbdljhjplidmaaDoorW.PrintLast Go.Proofs.YtjbdljhjplidmaaDoorW.PrintMore
attribute [local go_sem] max2_int min2_int max_two min_two max_three min_three max_four min_four   -- for this text's walks alone
set_option linter.unusedVariables false
set_option linter.unusedSimpArgs false
def spec_TableCheck.T11 : Bool × List (List Nat × List Nat) := (true, [([], []), ([], []), ([], []), ([1, 2], [1, 2]), ([3], [3]), ([4], [4]), ([0, 5], [0, 5]), ([6], [6]), ([7], [7]), ([7], [7]), ([9, 7], [7, 9]), ([8, 10, 7], [7, 8, 10]), ([7, 11], [7, 11]), ([12, 7], [12]), ([13], [13]), ([13], [13]), ([14, 15, 13], [13, 14, 15]), ([16, 13], [13, 16]), ([17, 13], [13, 17]), ([13], [13]), ([13], [13]), ([19, 20, 13], [13, 19, 20]), ([21, 13], [13, 21]), ([22, 13], [13, 22]), ([18, 23, 13], [13, 18, 23]), ([13, 24], [13, 24])])
def spec_TableCheck.B11 : List Nat := [0, 0, 0, 6, 14, 30, 63, 127, 255, 255, 767, 2047, 4095, 8191, 16383, 16383, 65535, 131071, 262143, 16383, 16383, 1589247, 3686399, 7880703, 16777215, 33554431]
theorem spec_TableCheck.tab11 : rtab .any (opsOf Tryd.f17 11) = spec_TableCheck.T11 := by kernel_rfl
theorem spec_TableCheck.bits11 : waitsOk spec_TableCheck.T11.2 spec_TableCheck.B11 = true := by kernel_rfl
def spec_TableCheck.T12 : Bool × List (List Nat × List Nat) := (true, [([], []), ([], []), ([0, 1], [0, 1]), ([2], [2]), ([3], [3]), ([], []), ([], []), ([5, 6], [5, 6]), ([7], [7]), ([4, 8], [4, 8]), ([9, 9, 0, 1, 2, 3, 4, 5, 6, 7, 8, 9], [9])])
def spec_TableCheck.B12 : List Nat := [0, 0, 3, 7, 15, 0, 0, 96, 224, 511, 1023]
theorem spec_TableCheck.tab12 : rtab .any (opsOf Tryd.f17 12) = spec_TableCheck.T12 := by kernel_rfl
theorem spec_TableCheck.bits12 : waitsOk spec_TableCheck.T12.2 spec_TableCheck.B12 = true := by kernel_rfl
def spec_TableCheck.T21 : Bool × List (List Nat × List Nat) := (true, [([], []), ([], []), ([0, 1], [0, 1]), ([2], [2]), ([3], [3]), ([], []), ([], []), ([6], [6]), ([7], [7]), ([5, 8], [5, 8]), ([9], [9]), ([10], [10]), ([4, 11], [4, 11])])
def spec_TableCheck.B21 : List Nat := [0, 0, 3, 7, 15, 0, 0, 64, 192, 480, 992, 2016, 4095]
theorem spec_TableCheck.tab21 : rtab .any (opsOf Tryd.f17 21) = spec_TableCheck.T21 := by kernel_rfl
theorem spec_TableCheck.bits21 : waitsOk spec_TableCheck.T21.2 spec_TableCheck.B21 = true := by kernel_rfl
set_option maxHeartbeats 8000000 in
set_option maxRecDepth 100000 in
theorem spec_TableCheck.calls (k:Nat) (a0:Int) (A1:Option Addr) (c1:Nat) (l1:List (S36)) (r1:Int) (r2:Int) (r3:Int) (w:World) (hr1:Kd.C k36 w A1 l1.length l1) (hc1:l1.length≤c1) (h:spec_TableCheck.f k a0 l1=some (r1,r2,r3)) :
  Calls Tryd.prog 17 #[.int .i64 a0,.slice A1 l1.length c1] w fun e w'=>e=.returned (.agg #[.int .i64 r1,.int .i64 r2,.int .i64 r3])∧Below w.heap.size w w':=by
 have hu43:=Tryd.underlying43;have hu36:=Tryd.underlying36;have HR1:=am hr1;have HC1:=am hc1;clear hr1 hc1;have HB:=am (Below.refl w.heap.size w);have H:(if (l1.length:Int)>400 then (some (0,0,2)) else ((spec_TableOf.f k a0).bind fun t210=>(if (t210.length:Int)=0 then (some (0,0,1)) else (spec_TableCheck.l0 k l1 t210 0 0))))=some (r1,r2,r3):=h;clear h
 by_cases c3:(l1.length:Int)>400
 ·rw [if_pos c3] at H;have c3b0:decide (400<(l1.length:Int))=true:=decide_eq_true c3;have c3b1:decide (400<l1.length)=true:=decide_eq_true (by omega);clear c3;simp only [Option.some.injEq,Prod.mk.injEq] at H;obtain ⟨rfl,rfl,rfl⟩:=H
  go_enter Tryd.func17,Tryd.ntmps17
  go_wp2_with (first|((with_reducible refine gate_dst (N:=4) rfl ?_);(try (refine gate_guard (by rfl) ?_;dsimp only));refine bx 4 (cs:=#[.int .i64 0,.int .i64 0,.int .i64 0]) (t:=43) ?_;intro gb209 hg w4 hbox hb;have BK209:=am (hbox);have GW209:=am ((gs hg (bs HB)));have GE209:=am ((gs hg (bs HB)));replace HB:=am (below_step (bs HB) hb);clear hb hbox hg;obtain ⟨hcz5_0,hcz5_1,hcz5_2,hfz5_0,hfz5_1,hfz5_2⟩:=cf3 BK209))
  refine bodyPost_ret (results_cell_row rfl _ _ gb209 43 #[.int .i64 0,.int .i64 0,.int .i64 2] (0,0) _ rfl (kp BK209) Tryd.underlying43 rfl (by kernel_rfl)) rfl ?_
  exact ⟨ff,bs HB⟩
 ·rw [if_neg c3] at H;have c3b0:decide (400<(l1.length:Int))=false:=decide_eq_false c3;have c3b1:decide (400<l1.length)=false:=decide_eq_false (by omega);clear c3;replace H:=Option.bind_eq_some_iff.mp H;obtain ⟨t210,A60,H⟩:=H;replace H:(if (t210.length:Int)=0 then (some (0,0,1)) else (spec_TableCheck.l0 k l1 t210 0 0))=some (r1,r2,r3):=H;have A6:=am A60;clear A60
  go_enter Tryd.func17,Tryd.ntmps17
  try go_wp2_with (first|((with_reducible refine gate_dst (N:=4) rfl ?_);(try (refine gate_guard (by rfl) ?_;dsimp only));refine bx 4 (cs:=#[.int .i64 0,.int .i64 0,.int .i64 0]) (t:=43) ?_;intro gb209 hg w7 hbox hb;have BK209:=am (hbox);have GW209:=am ((gs hg (bs HB)));have GE209:=am ((gs hg (bs HB)));replace HB:=am (below_step (bs HB) hb);clear hb hbox hg))
  go_at_call 37;(with_reducible refine (spec_TableOf.calls k a0 t210 _ A6.out).mono ?_);rintro e w8 ⟨v211,rfl,ho0,hb⟩;have HO212:=am (Kd.R_lower ho0 (below_size (bs HB)));replace BK209:=am (blk_below (ks BK209) hb);replace HB:=am (below_step (bs HB) hb);(try clear hb);(try clear hb2);(try clear hk);(try clear hi);(try clear ho0)
  by_cases c9:(t210.length:Int)=0
  ·rw [if_pos c9] at H;have c9b0:((t210.length:Int) == 0)=true:=beq_iff_eq.mpr c9;have c9b1:((t210.length:Int) != 0)=false:=bne_eq_false_iff_eq.mpr c9;clear c9;simp only [Option.some.injEq,Prod.mk.injEq] at H;obtain ⟨rfl,rfl,rfl⟩:=H;obtain ⟨Ao10,co10,eo10⟩:=Kd.R_slice HO212.out;subst eo10;obtain ⟨hcz11_0,hcz11_1,hcz11_2,hfz11_0,hfz11_1,hfz11_2⟩:=cf3 BK209
   go_wp2
   refine bodyPost_ret (results_cell_row rfl _ _ gb209 43 #[.int .i64 0,.int .i64 0,.int .i64 1] (0,0) _ rfl (kp BK209) Tryd.underlying43 rfl (by kernel_rfl)) rfl ?_
   exact ⟨ff,bs HB⟩
  ·rw [if_neg c9] at H;have c9b0:((t210.length:Int) == 0)=false:=beq_eq_false_iff_ne.mpr c9;have c9b1:((t210.length:Int) != 0)=true:=bne_iff_ne.mpr c9
   have c9b2:¬ (t210=[]):=fun h_=>c9 (by rw [h_];rfl)
   have H':=am H;clear H;obtain ⟨Ao12,co12,eo12⟩:=Kd.R_slice HO212.out;subst eo12
   go_wp2
   go_loopg [6,7] k (fun kq v6 v7 w'=>∃ (x6_1:Int) (x7_1:Int) (x210000_1:Int) (x210001_1:Int) (x210002_1:Int),v6=.int .i64 x6_1∧v7=.int .i64 x7_1∧Aside0 (spec_TableCheck.l0 kq l1 t210 x6_1 x7_1=some (r1,r2,r3))∧Aside0 (kq≤k)∧Aside0 (Kd.R k57 57 w' w.heap.size (fun _=>True) (.slice Ao12 t210.length co12) t210)∧Aside0 (w'.heap[gb209]? = some (.cells #[.int .i64 x210000_1,.int .i64 x210001_1,.int .i64 x210002_1] 43 (0,0)))∧Aside0 (Below w.heap.size w w'))
   case atStart=>exact ⟨(0),(0),(0),(0),(0),fg,fg,H',⟨Nat.le_refl _⟩,⟨by (with_reducible repeat (first|apply Kd.R_alloc|apply Kd.R_drewN|apply Kd.R_drew));exact HO212.out⟩,⟨ks BK209⟩,⟨bs HB⟩⟩
   case round =>
    clear H'
    try clear c1
    try clear p2
    try clear c3
    try clear c3b0
    try clear c3b1
    try clear c9
    try clear c9b0
    try clear c9b1
    try clear c9b2
    try clear hcz11_0
    try clear hcz11_1
    try clear hcz11_2
    try clear hcz5_0
    try clear hcz5_1
    try clear hcz5_2
    try clear hfz11_0
    try clear hfz11_1
    try clear hfz11_2
    try clear hfz5_0
    try clear hfz5_1
    try clear hfz5_2
    obtain ⟨x6_1,x7_1,x210000_1,x210001_1,x210002_1,rfl,rfl,HA,HK1,HO_5,BK209,HB⟩:=hrel
    cases gk with
    | zero=>exact absurd HA.out (by simp [spec_TableCheck.l0])
    | succ k1 =>
     have H:=HA.out;clear HA;simp only [spec_TableCheck.l0] at H
     by_cases c13:x7_1<(t210.length:Int)
     ·rw [if_pos c13] at H;have c13b0:decide (x7_1<(t210.length:Int))=true:=decide_eq_true c13;clear c13;have H':=am H;clear H
      go_wp2
      go_loopg [6,8] k1 (fun kq v6 v8 w'=>∃ (x6_2:Int) (x8_2:Int) (x210000_2:Int) (x210001_2:Int) (x210002_2:Int),v6=.int .i64 x6_2∧v8=.int .i64 x8_2∧Aside0 (spec_TableCheck.l1 kq l1 t210 x6_2 x7_1 x8_2=some (r1,r2,r3))∧Aside0 (kq≤k1)∧Aside0 (Kd.R k57 57 w' w.heap.size (fun _=>True) (.slice Ao12 t210.length co12) t210)∧Aside0 (w'.heap[gb209]? = some (.cells #[.int .i64 x210000_2,.int .i64 x210001_2,.int .i64 x210002_2] 43 (0,0)))∧Aside0 (Below w.heap.size w w'))
      case atStart=>exact ⟨(x6_1),(0),(x210000_1),(x210001_1),(x210002_1),fg,fg,H',⟨Nat.le_refl _⟩,⟨by (with_reducible repeat (first|apply Kd.R_alloc|apply Kd.R_drewN|apply Kd.R_drew));exact HO_5.out⟩,⟨ks BK209⟩,⟨bs HB⟩⟩
      case round =>
       clear H'
       try clear c1
       try clear p2
       try clear c3
       try clear c3b0
       try clear c3b1
       try clear c9
       try clear c9b0
       try clear c9b1
       try clear c9b2
       try clear c13
       try clear c13b0
       try clear hcz11_0
       try clear hcz11_1
       try clear hcz11_2
       try clear hcz5_0
       try clear hcz5_1
       try clear hcz5_2
       try clear hfz11_0
       try clear hfz11_1
       try clear hfz11_2
       try clear hfz5_0
       try clear hfz5_1
       try clear hfz5_2
       try clear p2
       obtain ⟨x6_2,x8_2,x210000_2,x210001_2,x210002_2,rfl,rfl,HA,HK2,HO_5,BK209,HB⟩:=hrel
       cases gk with
       | zero=>exact absurd HA.out (by simp [spec_TableCheck.l1])
       | succ k2 =>
        have H:=HA.out;clear HA;simp only [spec_TableCheck.l1] at H;have HC14:=am H;clear H
        go_upto_region 11 with (fail)
        go_cut [52] (fun v52 wc=>∃ (kq:Nat) (x52_13:Bool),v52=.bool x52_13∧Aside0 (spec_TableCheck.j2 kq l1 t210 x6_2 x7_1 x8_2 x52_13=some (r1,r2,r3))∧Aside0 (kq≤k2)∧Aside0 (Kd.R k57 57 wc w.heap.size (fun _=>True) (.slice Ao12 t210.length co12) t210)∧Aside0 (wc.heap[gb209]? = some (.cells #[.int .i64 x210000_2,.int .i64 x210001_2,.int .i64 x210002_2] 43 (0,0)))∧Aside0 (Below w.heap.size w wc))
        case first =>
         have H:=HC14.out;clear HC14
         by_cases c15:0≤x7_1
         ·rw [if_pos c15] at H;have c15b0:decide (0≤x7_1)=true:=decide_eq_true c15;clear c15
          (first|rw [c15b0]|(simp only [i64_w,i32_w];rw [c15b0])|skip)
          by_cases c16:x7_1<(t210.length:Int)
          ·rw [if_pos c16] at H;have c16b0:decide (x7_1<(t210.length:Int))=true:=decide_eq_true c16;clear c16
           by_cases c17:x8_2<((rd_T57 t210 x7_1).f2)
           ·rw [if_pos c17] at H;have c17b0:decide (x8_2<((rd_T57 t210 x7_1).f2))=true:=decide_eq_true c17;clear c17
            by_cases c18:x6_2<(l1.length:Int)
            ·rw [if_pos c18] at H;have c18b0:decide (x6_2<(l1.length:Int))=true:=decide_eq_true c18;clear c18
             by_cases c19:0≤x6_2
             ·rw [if_pos c19] at H;have c19b0:decide (0≤x6_2)=true:=decide_eq_true c19;clear c19;have H':=am H;clear H
              try go_wp2
              replace HO_5:=am (Kd.R_drew HO_5.out);replace BK209:=am (blk_drew BK209.out);replace HB:=am (below_drew1 HB.out);have p213:0≤(x7_1:Int):=oa;have q213:x7_1<(t210.length:Int):=oa;obtain ⟨ad213,e213,hx213_0,hx213_1,hx213_2,hx213_3⟩:=at_T57 (Kd.R_reads' HO_5.out).2.2 x7_1 p213 q213
              cases e213
              replace p213:=eq_true p213;replace q213:=eq_true q213;have p214:0≤(x6_2:Int):=oa;have q214:x6_2<(l1.length:Int):=oa;obtain ⟨ad214,A214_1,c214_1,e214,hx214_0,hx214_1,hl214_1,hi214_1⟩:=at_T36 HR1.out x6_2 p214 q214;have hw214_1:=hx214_1;have hw214_0:=hx214_0
              cases e214
              replace hx214_0:=cb HB hx214_0;replace hx214_1:=cb HB hx214_1;have HR214_1:=am hi214_1;have HC214_1:=am hl214_1;clear hi214_1 hl214_1;replace p214:=eq_true p214;replace q214:=eq_true q214;have p215:0≤(x7_1:Int):=oa;have q215:x7_1<(t210.length:Int):=oa;obtain ⟨ad215,e215,hx215_0,hx215_1,hx215_2,hx215_3⟩:=at_T57 (Kd.R_reads' HO_5.out).2.2 x7_1 p215 q215;obtain rfl:ad213=ad215:=(by injection e215);replace p215:=eq_true p215;replace q215:=eq_true q215;refine start_ (n:=26) (S:=fun w'=>qe4a w' (ad213.add ((x7_1).toNat * 4)) (.string ((rd_T57 t210 x7_1).f0)) (.int .i64 ((rd_T57 t210 x7_1).f1)) (.int .i64 ((rd_T57 t210 x7_1).f2)) (.string ((rd_T57 t210 x7_1).f3)) (qe2a w' (ad214.add ((x6_2).toNat * 2)) (.string ((rd_T36 l1 x6_2).f0)) (.slice A214_1 ((rd_T36 l1 x6_2).f1).length c214_1) (qe4 w' (ad213.add ((x7_1).toNat * 4)) (.string ((rd_T57 t210 x7_1).f0)) (.int .i64 ((rd_T57 t210 x7_1).f1)) (.int .i64 ((rd_T57 t210 x7_1).f2)) (.string ((rd_T57 t210 x7_1).f3))))) (ds:=[]) _ (by kernel_rfl) rfl rfl ⟨hx213_0,hx213_1,hx213_2,hx213_3,((cb HB hw214_0).trans rfl),((cb HB hw214_1).trans rfl),hx215_0,hx215_1,hx215_2,hx215_3⟩ (fun hHeld=>?_);refine with_tabW spec_TableCheck.tab11 spec_TableCheck.bits11 (fun HT_ HW_=>?_)
              generalize wr.drew=w20 at HO_5 BK209 HB HR214_1 hx213_0 hx213_1 hx213_2 hx213_3 hx214_0 hx214_1 hx215_0 hx215_1 hx215_2 hx215_3 hHeld ⊢
              refine pA 0 27 HT_ ?_;refine pA 1 28 HT_ ?_;refine pA 2 29 HT_ ?_;refine pA 3 30 HT_ ?_;refine pA 4 31 HT_ ?_;refine tA 5 32 HT_ HW_ hHeld ?_;refine pA 6 33 HT_ ?_;refine pA 7 34 HT_ ?_;refine pA 8 35 HT_ ?_;refine pA 9 36 HT_ ?_;refine pA 10 37 HT_ ?_;refine pA 11 38 HT_ ?_;refine pA 12 39 HT_ ?_;refine pA 13 40 HT_ ?_;refine pA 14 41 HT_ ?_;refine pA 15 42 HT_ ?_;refine pA 16 43 HT_ ?_;refine pA 17 44 HT_ ?_;refine pA 19 46 HT_ ?_;refine pA 20 47 HT_ ?_;refine pA 21 48 HT_ ?_;refine pA 22 49 HT_ ?_;refine tA 18 45 HT_ HW_ hHeld ?_;refine tA 23 50 HT_ HW_ hHeld ?_;refine pA 24 51 HT_ ?_;refine pA 25 52 HT_ ?_;refine done_ (done_of HT_.out (by kernel_rfl)) ?_
              try go_wp2
              go_meet
              case rel=>exact ⟨_,((((rd_T36 l1 x6_2).f0).toList == ((rd_T57 t210 x7_1).f0).toList)),fg,H',⟨by have:=HK1.out;have:=HK2.out;first|omega|exact Nat.le_refl _⟩,⟨by (with_reducible repeat (first|apply Kd.R_alloc|apply Kd.R_drewN|apply Kd.R_drew));exact HO_5.out⟩,⟨ks BK209⟩,⟨bs HB⟩⟩
             ·rw [if_neg c19] at H
              exact absurd H (by simp)
            ·rw [if_neg c18] at H;have c18b0:decide (x6_2<(l1.length:Int))=false:=decide_eq_false c18;clear c18;have H':=am H;clear H
             try go_wp2
             replace HO_5:=am (Kd.R_drew HO_5.out);replace BK209:=am (blk_drew BK209.out);replace HB:=am (below_drew1 HB.out);have p213:0≤(x7_1:Int):=oa;have q213:x7_1<(t210.length:Int):=oa;obtain ⟨ad213,e213,hx213_0,hx213_1,hx213_2,hx213_3⟩:=at_T57 (Kd.R_reads' HO_5.out).2.2 x7_1 p213 q213
             cases e213
             replace p213:=eq_true p213;replace q213:=eq_true q213;refine start_ (n:=26) (S:=fun w'=>qe4 w' (ad213.add ((x7_1).toNat * 4)) (.string ((rd_T57 t210 x7_1).f0)) (.int .i64 ((rd_T57 t210 x7_1).f1)) (.int .i64 ((rd_T57 t210 x7_1).f2)) (.string ((rd_T57 t210 x7_1).f3))) (ds:=[]) _ (by kernel_rfl) rfl rfl ⟨hx213_0,hx213_1,hx213_2,hx213_3⟩ (fun hHeld=>?_);refine with_tabW spec_TableCheck.tab11 spec_TableCheck.bits11 (fun HT_ HW_=>?_)
             generalize wr.drew=w21 at HO_5 BK209 HB hx213_0 hx213_1 hx213_2 hx213_3 hHeld ⊢
             refine pA 0 27 HT_ ?_;refine pA 1 28 HT_ ?_;refine pA 2 29 HT_ ?_;refine pA 3 30 HT_ ?_;refine pA 4 31 HT_ ?_;refine tA 5 32 HT_ HW_ hHeld ?_;refine pA 6 33 HT_ ?_;refine pA 7 34 HT_ ?_;refine pA 8 35 HT_ ?_;refine pA 9 36 HT_ ?_;refine pA 10 37 HT_ ?_;refine pA 11 38 HT_ ?_;refine pA 12 39 HT_ ?_;refine pA 13 40 HT_ ?_;refine pB 14 41 HT_ ?_;refine pB 15 42 HT_ ?_;refine pB 16 43 HT_ ?_;refine pB 17 44 HT_ ?_;refine pB 18 45 HT_ ?_;refine pB 19 46 HT_ ?_;refine pB 20 47 HT_ ?_;refine pB 21 48 HT_ ?_;refine pB 22 49 HT_ ?_;refine pB 23 50 HT_ ?_;refine pB 24 51 HT_ ?_;refine pA 25 52 HT_ ?_;refine done_ (done_of HT_.out (by kernel_rfl)) ?_
             try go_wp2
             go_meet
             case rel=>exact ⟨_,(false),fg,H',⟨by have:=HK1.out;have:=HK2.out;first|omega|exact Nat.le_refl _⟩,⟨by (with_reducible repeat (first|apply Kd.R_alloc|apply Kd.R_drewN|apply Kd.R_drew));exact HO_5.out⟩,⟨ks BK209⟩,⟨bs HB⟩⟩
           ·rw [if_neg c17] at H;have c17b0:decide (x8_2<((rd_T57 t210 x7_1).f2))=false:=decide_eq_false c17;clear c17;have H':=am H;clear H
            try go_wp2
            replace HO_5:=am (Kd.R_drew HO_5.out);replace BK209:=am (blk_drew BK209.out);replace HB:=am (below_drew1 HB.out);have p213:0≤(x7_1:Int):=oa;have q213:x7_1<(t210.length:Int):=oa;obtain ⟨ad213,e213,hx213_0,hx213_1,hx213_2,hx213_3⟩:=at_T57 (Kd.R_reads' HO_5.out).2.2 x7_1 p213 q213
            cases e213
            replace p213:=eq_true p213;replace q213:=eq_true q213;refine start_ (n:=26) (S:=fun w'=>qe4 w' (ad213.add ((x7_1).toNat * 4)) (.string ((rd_T57 t210 x7_1).f0)) (.int .i64 ((rd_T57 t210 x7_1).f1)) (.int .i64 ((rd_T57 t210 x7_1).f2)) (.string ((rd_T57 t210 x7_1).f3))) (ds:=[]) _ (by kernel_rfl) rfl rfl ⟨hx213_0,hx213_1,hx213_2,hx213_3⟩ (fun hHeld=>?_);refine with_tabW spec_TableCheck.tab11 spec_TableCheck.bits11 (fun HT_ HW_=>?_)
            generalize wr.drew=w22 at HO_5 BK209 HB hx213_0 hx213_1 hx213_2 hx213_3 hHeld ⊢
            refine pA 0 27 HT_ ?_;refine pA 1 28 HT_ ?_;refine pA 2 29 HT_ ?_;refine pA 3 30 HT_ ?_;refine pA 4 31 HT_ ?_;refine tA 5 32 HT_ HW_ hHeld ?_;refine pA 6 33 HT_ ?_;refine pA 7 34 HT_ ?_;refine pB 8 35 HT_ ?_;refine pB 9 36 HT_ ?_;refine pB 10 37 HT_ ?_;refine pB 11 38 HT_ ?_;refine pA 12 39 HT_ ?_;refine pA 13 40 HT_ ?_;refine pB 14 41 HT_ ?_;refine pB 15 42 HT_ ?_;refine pB 16 43 HT_ ?_;refine pB 17 44 HT_ ?_;refine pB 18 45 HT_ ?_;refine pB 19 46 HT_ ?_;refine pB 20 47 HT_ ?_;refine pB 21 48 HT_ ?_;refine pB 22 49 HT_ ?_;refine pB 23 50 HT_ ?_;refine pB 24 51 HT_ ?_;refine pA 25 52 HT_ ?_;refine done_ (done_of HT_.out (by kernel_rfl)) ?_
            try go_wp2
            go_meet
            case rel=>exact ⟨_,(false),fg,H',⟨by have:=HK1.out;have:=HK2.out;first|omega|exact Nat.le_refl _⟩,⟨by (with_reducible repeat (first|apply Kd.R_alloc|apply Kd.R_drewN|apply Kd.R_drew));exact HO_5.out⟩,⟨ks BK209⟩,⟨bs HB⟩⟩
          ·rw [if_neg c16] at H
           exact absurd H (by simp)
         ·rw [if_neg c15] at H
          exact absurd H (by simp)
        case rest =>
         clear HC14
         try clear c1
         try clear c2
         try clear p2
         try clear q2
         try clear hx2
         try clear c15
         try clear c16
         try clear c17
         try clear c17b0
         try clear c18
         try clear c18b0
         try clear c19
         try clear c21
         try clear p21
         try clear q21
         try clear hx21
         try clear hx213_0
         try clear hx213_1
         try clear hx213_2
         try clear hx213_3
         try clear hx214_0
         try clear hx214_1
         try clear hx215_0
         try clear hx215_1
         try clear hx215_2
         try clear hx215_3
         try clear p213
         try clear p214
         try clear p215
         try clear q213
         try clear q214
         try clear q215
         obtain ⟨kq,x52_13,rfl,HA,HJ13,HO_5,BK209,HB⟩:=hcut
         cases kq with
         | zero=>exact absurd HA.out (by simp [spec_TableCheck.j2])
         | succ kj13 =>
          have H:=HA.out;clear HA;simp only [spec_TableCheck.j2] at H
          by_cases c23:x52_13=true
          ·subst c23
           have H1:(if 0≤x7_1 then (if x7_1<(t210.length:Int) then (if 0≤x6_2 then (if x6_2<(l1.length:Int) then ((spec_FormRight.f kj13 ((rd_T57 t210 x7_1).f3) ((rd_T36 l1 x6_2).f0) ((rd_T36 l1 x6_2).f1)).bind fun t218=>(if t218≥0 then (some (x6_2,t218,3)) else (spec_TableCheck.l1 kj13 l1 t210 (wrap64 (x6_2+1)) x7_1 (wrap64 (x8_2+1))))) else (none)) else (none)) else (none)) else (none))=some (r1,r2,r3):=by rw [if_pos rfl] at H;exact H
           clear H;have H:=H1;clear H1
           by_cases c24:0≤x7_1
           ·rw [if_pos c24] at H;have c24b0:decide (0≤x7_1)=true:=decide_eq_true c24;clear c24
            by_cases c25:x7_1<(t210.length:Int)
            ·rw [if_pos c25] at H;have c25b0:decide (x7_1<(t210.length:Int))=true:=decide_eq_true c25;clear c25
             by_cases c26:0≤x6_2
             ·rw [if_pos c26] at H;have c26b0:decide (0≤x6_2)=true:=decide_eq_true c26;clear c26
              by_cases c27:x6_2<(l1.length:Int)
              ·rw [if_pos c27] at H;have c27b0:decide (x6_2<(l1.length:Int))=true:=decide_eq_true c27;clear c27;replace H:=Option.bind_eq_some_iff.mp H;obtain ⟨t218,A280,H⟩:=H;replace H:(if t218≥0 then (some (x6_2,t218,3)) else (spec_TableCheck.l1 kj13 l1 t210 (wrap64 (x6_2+1)) x7_1 (wrap64 (x8_2+1))))=some (r1,r2,r3):=H;have A28:=am A280;clear A280
               by_cases c29:t218≥0
               ·rw [if_pos c29] at H;have c29b0:decide (0≤t218)=true:=decide_eq_true c29;clear c29;simp only [Option.some.injEq,Prod.mk.injEq] at H;obtain ⟨rfl,rfl,rfl⟩:=H
                try go_wp2
                replace HO_5:=am (Kd.R_drew HO_5.out);replace BK209:=am (blk_drew BK209.out);replace HB:=am (below_drew1 HB.out);have p216:0≤(x7_1:Int):=oa;have q216:x7_1<(t210.length:Int):=oa;obtain ⟨ad216,e216,hx216_0,hx216_1,hx216_2,hx216_3⟩:=at_T57 (Kd.R_reads' HO_5.out).2.2 x7_1 p216 q216
                cases e216
                replace p216:=eq_true p216;replace q216:=eq_true q216;have p217:0≤(x6_2:Int):=oa;have q217:x6_2<(l1.length:Int):=oa;obtain ⟨ad217,A217_1,c217_1,e217,hx217_0,hx217_1,hl217_1,hi217_1⟩:=at_T36 HR1.out x6_2 p217 q217;have hw217_1:=hx217_1;have hw217_0:=hx217_0
                cases e217
                replace hx217_0:=cb HB hx217_0;replace hx217_1:=cb HB hx217_1;have HR217_1:=am hi217_1;have HC217_1:=am hl217_1;clear hi217_1 hl217_1;replace p217:=eq_true p217;replace q217:=eq_true q217;refine start_ (n:=11) (S:=fun w'=>qe4a w' (ad216.add ((x7_1).toNat * 4)) (.string ((rd_T57 t210 x7_1).f0)) (.int .i64 ((rd_T57 t210 x7_1).f1)) (.int .i64 ((rd_T57 t210 x7_1).f2)) (.string ((rd_T57 t210 x7_1).f3)) (qe2 w' (ad217.add ((x6_2).toNat * 2)) (.string ((rd_T36 l1 x6_2).f0)) (.slice A217_1 ((rd_T36 l1 x6_2).f1).length c217_1))) (ds:=[]) _ (by kernel_rfl) rfl rfl ⟨hx216_0,hx216_1,hx216_2,hx216_3,((cb HB hw217_0).trans rfl),((cb HB hw217_1).trans rfl)⟩ (fun hHeld=>?_);refine with_tabW spec_TableCheck.tab12 spec_TableCheck.bits12 (fun HT_ HW_=>?_)
                generalize wc.drew=w30 at HO_5 BK209 HB HR217_1 hx216_0 hx216_1 hx216_2 hx216_3 hx217_0 hx217_1 hHeld ⊢
                refine pA 0 53 HT_ ?_;refine pA 1 54 HT_ ?_;refine pA 2 55 HT_ ?_;refine pA 3 56 HT_ ?_;refine pA 5 58 HT_ ?_;refine pA 6 59 HT_ ?_;refine pA 7 60 HT_ ?_;refine tA 4 57 HT_ HW_ hHeld ?_;refine tA 8 61 HT_ HW_ hHeld ?_;refine oA 9 62 HT_ (fun K hK=>?_);refine gA Tryd.func12 #[.string ((rd_T57 t210 x7_1).f3),.agg #[.string ((rd_T36 l1 x6_2).f0),.slice A217_1 ((rd_T36 l1 x6_2).f1).length c217_1]] ?_;(with_reducible refine (spec_FormRight.calls kj13 ((rd_T57 t210 x7_1).f3) ((rd_T36 l1 x6_2).f0) _ _ ((rd_T36 l1 x6_2).f1) t218 _ ?side1 ?side2 A28.out).mono ?_)
                (case side1=>repeat (first|exact (Kd.C_below HR217_1.out HB.out)|(with_reducible refine Kd.C_alloc ?_ _)|(with_reducible refine Kd.C_drewN ?_ _)|(with_reducible refine Kd.C_drew ?_)))
                (case side2=>exact HC217_1.out)
                rintro e w31 ⟨rfl,hb⟩;have HS0_:=(hb.cell (World.block_lt_of_cell? _ _ (hHeld.1))).trans (hHeld.1);have HS1_:=(hb.cell (World.block_lt_of_cell? _ _ (hHeld.2.1))).trans (hHeld.2.1);have HS2_:=(hb.cell (World.block_lt_of_cell? _ _ (hHeld.2.2.1))).trans (hHeld.2.2.1);have HS3_:=(hb.cell (World.block_lt_of_cell? _ _ (hHeld.2.2.2.1))).trans (hHeld.2.2.2.1);refine ⟨_,rfl,?_⟩;replace HO_5:=am (Kd.R_below (rs HO_5) hb);replace BK209:=am (blk_below (ks BK209) hb);replace HB:=am (below_step (bs HB) hb);(try clear hb);(try clear hb2);(try clear hk);(try clear hi);refine hK.out _ _ ⟨HS0_,HS1_,HS2_,HS3_,((cb HB hw217_0).trans rfl),((cb HB hw217_1).trans rfl)⟩ (fun hHeld=>?_);clear hK K;refine nA 62 ?_;refine pA 10 9 HT_ ?_;refine done_ (done_of HT_.out (by kernel_rfl)) ?_;obtain ⟨hcz32_0,hcz32_1,hcz32_2,hfz32_0,hfz32_1,hfz32_2⟩:=cf3 BK209
                try go_wp2
                refine bodyPost_ret (results_cell_row rfl _ _ gb209 43 #[.int .i64 x6_2,.int .i64 t218,.int .i64 3] (0,0) _ rfl (kp BK209) Tryd.underlying43 rfl (by kernel_rfl)) rfl ?_
                exact ⟨ff,bs HB⟩
               ·rw [if_neg c29] at H;have c29b0:decide (0≤t218)=false:=decide_eq_false c29;clear c29;have H':=am H;clear H
                try go_wp2
                replace HO_5:=am (Kd.R_drew HO_5.out);replace BK209:=am (blk_drew BK209.out);replace HB:=am (below_drew1 HB.out);have p216:0≤(x7_1:Int):=oa;have q216:x7_1<(t210.length:Int):=oa;obtain ⟨ad216,e216,hx216_0,hx216_1,hx216_2,hx216_3⟩:=at_T57 (Kd.R_reads' HO_5.out).2.2 x7_1 p216 q216
                cases e216
                replace p216:=eq_true p216;replace q216:=eq_true q216;have p217:0≤(x6_2:Int):=oa;have q217:x6_2<(l1.length:Int):=oa;obtain ⟨ad217,A217_1,c217_1,e217,hx217_0,hx217_1,hl217_1,hi217_1⟩:=at_T36 HR1.out x6_2 p217 q217;have hw217_1:=hx217_1;have hw217_0:=hx217_0
                cases e217
                replace hx217_0:=cb HB hx217_0;replace hx217_1:=cb HB hx217_1;have HR217_1:=am hi217_1;have HC217_1:=am hl217_1;clear hi217_1 hl217_1;replace p217:=eq_true p217;replace q217:=eq_true q217;refine start_ (n:=11) (S:=fun w'=>qe4a w' (ad216.add ((x7_1).toNat * 4)) (.string ((rd_T57 t210 x7_1).f0)) (.int .i64 ((rd_T57 t210 x7_1).f1)) (.int .i64 ((rd_T57 t210 x7_1).f2)) (.string ((rd_T57 t210 x7_1).f3)) (qe2 w' (ad217.add ((x6_2).toNat * 2)) (.string ((rd_T36 l1 x6_2).f0)) (.slice A217_1 ((rd_T36 l1 x6_2).f1).length c217_1))) (ds:=[]) _ (by kernel_rfl) rfl rfl ⟨hx216_0,hx216_1,hx216_2,hx216_3,((cb HB hw217_0).trans rfl),((cb HB hw217_1).trans rfl)⟩ (fun hHeld=>?_);refine with_tabW spec_TableCheck.tab12 spec_TableCheck.bits12 (fun HT_ HW_=>?_)
                generalize wc.drew=w33 at HO_5 BK209 HB HR217_1 hx216_0 hx216_1 hx216_2 hx216_3 hx217_0 hx217_1 hHeld ⊢
                refine pA 0 53 HT_ ?_;refine pA 1 54 HT_ ?_;refine pA 2 55 HT_ ?_;refine pA 3 56 HT_ ?_;refine pA 5 58 HT_ ?_;refine pA 6 59 HT_ ?_;refine pA 7 60 HT_ ?_;refine tA 4 57 HT_ HW_ hHeld ?_;refine tA 8 61 HT_ HW_ hHeld ?_;refine oA 9 62 HT_ (fun K hK=>?_);refine gA Tryd.func12 #[.string ((rd_T57 t210 x7_1).f3),.agg #[.string ((rd_T36 l1 x6_2).f0),.slice A217_1 ((rd_T36 l1 x6_2).f1).length c217_1]] ?_;(with_reducible refine (spec_FormRight.calls kj13 ((rd_T57 t210 x7_1).f3) ((rd_T36 l1 x6_2).f0) _ _ ((rd_T36 l1 x6_2).f1) t218 _ ?side1 ?side2 A28.out).mono ?_)
                (case side1=>repeat (first|exact (Kd.C_below HR217_1.out HB.out)|(with_reducible refine Kd.C_alloc ?_ _)|(with_reducible refine Kd.C_drewN ?_ _)|(with_reducible refine Kd.C_drew ?_)))
                (case side2=>exact HC217_1.out)
                rintro e w34 ⟨rfl,hb⟩;have HS0_:=(hb.cell (World.block_lt_of_cell? _ _ (hHeld.1))).trans (hHeld.1);have HS1_:=(hb.cell (World.block_lt_of_cell? _ _ (hHeld.2.1))).trans (hHeld.2.1);have HS2_:=(hb.cell (World.block_lt_of_cell? _ _ (hHeld.2.2.1))).trans (hHeld.2.2.1);have HS3_:=(hb.cell (World.block_lt_of_cell? _ _ (hHeld.2.2.2.1))).trans (hHeld.2.2.2.1);refine ⟨_,rfl,?_⟩;replace HO_5:=am (Kd.R_below (rs HO_5) hb);replace BK209:=am (blk_below (ks BK209) hb);replace HB:=am (below_step (bs HB) hb);(try clear hb);(try clear hb2);(try clear hk);(try clear hi);refine hK.out _ _ ⟨HS0_,HS1_,HS2_,HS3_,((cb HB hw217_0).trans rfl),((cb HB hw217_1).trans rfl)⟩ (fun hHeld=>?_);clear hK K;refine nA 62 ?_;refine pA 10 9 HT_ ?_;refine done_ (done_of HT_.out (by kernel_rfl)) ?_
                try go_wp2
                go_roundg kj13
                case measure=>have:=HK1.out;have:=HK2.out;have:=HJ13.out;omega
                case rel=>exact ⟨(wrap64 (x6_2+1)),(wrap64 (x8_2+1)),(x210000_2),(x210001_2),(x210002_2),fg,fg,H',⟨by have:=HK1.out;have:=HK2.out;have:=HJ13.out;omega⟩,⟨by (with_reducible repeat (first|apply Kd.R_alloc|apply Kd.R_drewN|apply Kd.R_drew));exact HO_5.out⟩,⟨ks BK209⟩,⟨bs HB⟩⟩
              ·rw [if_neg c27] at H
               exact absurd H (by simp)
             ·rw [if_neg c26] at H
              exact absurd H (by simp)
            ·rw [if_neg c25] at H
             exact absurd H (by simp)
           ·rw [if_neg c24] at H
            exact absurd H (by simp)
          ·replace c23:=Bool.eq_false_iff.mpr c23;subst c23
           have H1:(if 0≤x7_1 then (if x7_1<(t210.length:Int) then (if x8_2<((rd_T57 t210 x7_1).f1) then (some (x6_2,0,4)) else (spec_TableCheck.l0 kj13 l1 t210 x6_2 (wrap64 (x7_1+1)))) else (none)) else (none))=some (r1,r2,r3):=by rw [if_neg (show ¬ (false=true) by decide)] at H;exact H
           clear H;have H:=H1;clear H1
           by_cases c35:0≤x7_1
           ·rw [if_pos c35] at H;have c35b0:decide (0≤x7_1)=true:=decide_eq_true c35;clear c35
            by_cases c36:x7_1<(t210.length:Int)
            ·rw [if_pos c36] at H;have c36b0:decide (x7_1<(t210.length:Int))=true:=decide_eq_true c36;clear c36
             by_cases c37:x8_2<((rd_T57 t210 x7_1).f1)
             ·rw [if_pos c37] at H;have c37b0:decide (x8_2<((rd_T57 t210 x7_1).f1))=true:=decide_eq_true c37;clear c37;simp only [Option.some.injEq,Prod.mk.injEq] at H;obtain ⟨rfl,rfl,rfl⟩:=H;have p219:0≤(x7_1:Int):=oa;have q219:x7_1<(t210.length:Int):=oa;obtain ⟨ad219,e219,hx219_0,hx219_1,hx219_2,hx219_3⟩:=at_T57 (Kd.R_reads' HO_5.out).2.2 x7_1 p219 q219
              cases e219
              replace p219:=eq_true p219;replace q219:=eq_true q219;obtain ⟨hcz38_0,hcz38_1,hcz38_2,hfz38_0,hfz38_1,hfz38_2⟩:=cf3 BK209
              go_wp2
              refine bodyPost_ret (results_cell_row rfl _ _ gb209 43 #[.int .i64 x6_2,.int .i64 0,.int .i64 4] (0,0) _ rfl (kp BK209) Tryd.underlying43 rfl (by kernel_rfl)) rfl ?_
              exact ⟨ff,bs HB⟩
             ·rw [if_neg c37] at H;have c37b0:decide (x8_2<((rd_T57 t210 x7_1).f1))=false:=decide_eq_false c37;clear c37;have H':=am H;clear H;have p219:0≤(x7_1:Int):=oa;have q219:x7_1<(t210.length:Int):=oa;obtain ⟨ad219,e219,hx219_0,hx219_1,hx219_2,hx219_3⟩:=at_T57 (Kd.R_reads' HO_5.out).2.2 x7_1 p219 q219
              cases e219
              replace p219:=eq_true p219;replace q219:=eq_true q219
              go_wp2
              go_roundg kj13
              case measure=>have:=HK1.out;have:=HK2.out;have:=HJ13.out;omega
              case rel=>exact ⟨(x6_2),(wrap64 (x7_1+1)),(x210000_2),(x210001_2),(x210002_2),fg,fg,H',⟨by have:=HK1.out;have:=HK2.out;have:=HJ13.out;omega⟩,⟨by (with_reducible repeat (first|apply Kd.R_alloc|apply Kd.R_drewN|apply Kd.R_drew));exact HO_5.out⟩,⟨ks BK209⟩,⟨bs HB⟩⟩
            ·rw [if_neg c36] at H
             exact absurd H (by simp)
           ·rw [if_neg c35] at H
            exact absurd H (by simp)
     ·rw [if_neg c13] at H;have c13b0:decide (x7_1<(t210.length:Int))=false:=decide_eq_false c13;clear c13
      by_cases c39:x6_1<(l1.length:Int)
      ·rw [if_pos c39] at H;have c39b0:decide (x6_1<(l1.length:Int))=true:=decide_eq_true c39;clear c39
       by_cases c40:0≤x6_1
       ·rw [if_pos c40] at H;have c40b0:decide (0≤x6_1)=true:=decide_eq_true c40;clear c40;obtain ⟨ji41,hji41⟩:∃ j_:Int,(wrap64 ((t210.length:Int) - 1))=j_:=⟨_,rfl⟩
        replace H:(if 0≤(ji41) then (if (ji41)<(t210.length:Int) then (if ((rd_T36 l1 x6_1).f0).toList=((rd_T57 t210 (ji41)).f0).toList then (some (x6_1,0,7)) else (some (x6_1,0,3))) else (none)) else (none))=some (r1,r2,r3):=by first|(rw [hji41] at H;exact H)|(simp only [hji41] at H ⊢;exact H)
        have hji41w:(IntKind.i64.wrap ((t210.length:Int) - 1))=ji41:=(i64_w _).trans hji41
        by_cases c42:0≤(ji41)
        ·rw [if_pos c42] at H;have c42b0:decide (0≤(ji41))=true:=decide_eq_true c42;clear c42
         by_cases c43:(ji41)<(t210.length:Int)
         ·rw [if_pos c43] at H;have c43b0:decide ((ji41)<(t210.length:Int))=true:=decide_eq_true c43;clear c43
          by_cases c44:((rd_T36 l1 x6_1).f0).toList=((rd_T57 t210 (ji41)).f0).toList
          ·rw [if_pos c44] at H;have c44b0:(((rd_T36 l1 x6_1).f0).toList == ((rd_T57 t210 (ji41)).f0).toList)=true:=beq_iff_eq.mpr c44;have c44b1:(((rd_T36 l1 x6_1).f0).toList != ((rd_T57 t210 (ji41)).f0).toList)=false:=bne_eq_false_iff_eq.mpr c44;clear c44;simp only [Option.some.injEq,Prod.mk.injEq] at H;obtain ⟨rfl,rfl,rfl⟩:=H
           try go_wp2
           replace HO_5:=am (Kd.R_drew HO_5.out);replace BK209:=am (blk_drew BK209.out);replace HB:=am (below_drew1 HB.out);have p220:0≤(x6_1:Int):=oa;have q220:x6_1<(l1.length:Int):=oa;obtain ⟨ad220,A220_1,c220_1,e220,hx220_0,hx220_1,hl220_1,hi220_1⟩:=at_T36 HR1.out x6_1 p220 q220;have hw220_1:=hx220_1;have hw220_0:=hx220_0
           cases e220
           replace hx220_0:=cb HB hx220_0;replace hx220_1:=cb HB hx220_1;have HR220_1:=am hi220_1;have HC220_1:=am hl220_1;clear hi220_1 hl220_1;replace p220:=eq_true p220;replace q220:=eq_true q220;have p221:0≤((ji41):Int):=oa;have q221:(ji41)<(t210.length:Int):=oa;obtain ⟨ad221,e221,hx221_0,hx221_1,hx221_2,hx221_3⟩:=at_T57 (Kd.R_reads' HO_5.out).2.2 (ji41) p221 q221
           cases e221
           replace p221:=eq_true p221;replace q221:=eq_true q221;refine start_ (n:=13) (S:=fun w'=>qe2a w' (ad220.add ((x6_1).toNat * 2)) (.string ((rd_T36 l1 x6_1).f0)) (.slice A220_1 ((rd_T36 l1 x6_1).f1).length c220_1) (qe4 w' (ad221.add (((ji41)).toNat * 4)) (.string ((rd_T57 t210 (ji41)).f0)) (.int .i64 ((rd_T57 t210 (ji41)).f1)) (.int .i64 ((rd_T57 t210 (ji41)).f2)) (.string ((rd_T57 t210 (ji41)).f3)))) (ds:=[]) _ (by kernel_rfl) rfl rfl ⟨((cb HB hw220_0).trans rfl),((cb HB hw220_1).trans rfl),hx221_0,hx221_1,hx221_2,hx221_3⟩ (fun hHeld=>?_);refine with_tabW spec_TableCheck.tab21 spec_TableCheck.bits21 (fun HT_ HW_=>?_)
           generalize wr.drew=w45 at HO_5 BK209 HB HR220_1 hx220_0 hx220_1 hx221_0 hx221_1 hx221_2 hx221_3 hHeld ⊢
           refine pA 0 85 HT_ ?_;refine pA 1 86 HT_ ?_;refine pA 2 87 HT_ ?_;refine pA 3 88 HT_ ?_;refine pA 5 90 HT_ ?_;refine pA 6 91 HT_ ?_;refine pA 7 92 HT_ ?_;refine pA 8 93 HT_ ?_;refine pA 9 94 HT_ ?_;refine pA 10 95 HT_ ?_;refine tA 4 89 HT_ HW_ hHeld ?_;refine tA 11 96 HT_ HW_ hHeld ?_;refine pA 12 97 HT_ ?_;refine done_ (done_of HT_.out (by kernel_rfl)) ?_;obtain ⟨hcz46_0,hcz46_1,hcz46_2,hfz46_0,hfz46_1,hfz46_2⟩:=cf3 BK209
           try go_wp2
           refine bodyPost_ret (results_cell_row rfl _ _ gb209 43 #[.int .i64 x6_1,.int .i64 0,.int .i64 7] (0,0) _ rfl (kp BK209) Tryd.underlying43 rfl (by kernel_rfl)) rfl ?_
           exact ⟨by first|rfl|(simp [errW_none,errW_some] <;> rfl)|(simp only [← hji41];first|rfl|(simp [errW_none,errW_some] <;> rfl))|(simp [*,errW_none,errW_some] <;> rfl),bs HB⟩
          ·rw [if_neg c44] at H;have c44b0:(((rd_T36 l1 x6_1).f0).toList == ((rd_T57 t210 (ji41)).f0).toList)=false:=beq_eq_false_iff_ne.mpr c44;have c44b1:(((rd_T36 l1 x6_1).f0).toList != ((rd_T57 t210 (ji41)).f0).toList)=true:=bne_iff_ne.mpr c44;simp only [Option.some.injEq,Prod.mk.injEq] at H;obtain ⟨rfl,rfl,rfl⟩:=H
           try go_wp2
           replace HO_5:=am (Kd.R_drew HO_5.out);replace BK209:=am (blk_drew BK209.out);replace HB:=am (below_drew1 HB.out);have p220:0≤(x6_1:Int):=oa;have q220:x6_1<(l1.length:Int):=oa;obtain ⟨ad220,A220_1,c220_1,e220,hx220_0,hx220_1,hl220_1,hi220_1⟩:=at_T36 HR1.out x6_1 p220 q220;have hw220_1:=hx220_1;have hw220_0:=hx220_0
           cases e220
           replace hx220_0:=cb HB hx220_0;replace hx220_1:=cb HB hx220_1;have HR220_1:=am hi220_1;have HC220_1:=am hl220_1;clear hi220_1 hl220_1;replace p220:=eq_true p220;replace q220:=eq_true q220;have p221:0≤((ji41):Int):=oa;have q221:(ji41)<(t210.length:Int):=oa;obtain ⟨ad221,e221,hx221_0,hx221_1,hx221_2,hx221_3⟩:=at_T57 (Kd.R_reads' HO_5.out).2.2 (ji41) p221 q221
           cases e221
           replace p221:=eq_true p221;replace q221:=eq_true q221;refine start_ (n:=13) (S:=fun w'=>qe2a w' (ad220.add ((x6_1).toNat * 2)) (.string ((rd_T36 l1 x6_1).f0)) (.slice A220_1 ((rd_T36 l1 x6_1).f1).length c220_1) (qe4 w' (ad221.add (((ji41)).toNat * 4)) (.string ((rd_T57 t210 (ji41)).f0)) (.int .i64 ((rd_T57 t210 (ji41)).f1)) (.int .i64 ((rd_T57 t210 (ji41)).f2)) (.string ((rd_T57 t210 (ji41)).f3)))) (ds:=[]) _ (by kernel_rfl) rfl rfl ⟨((cb HB hw220_0).trans rfl),((cb HB hw220_1).trans rfl),hx221_0,hx221_1,hx221_2,hx221_3⟩ (fun hHeld=>?_);refine with_tabW spec_TableCheck.tab21 spec_TableCheck.bits21 (fun HT_ HW_=>?_)
           generalize wr.drew=w47 at HO_5 BK209 HB HR220_1 hx220_0 hx220_1 hx221_0 hx221_1 hx221_2 hx221_3 hHeld ⊢
           refine pA 0 85 HT_ ?_;refine pA 1 86 HT_ ?_;refine pA 2 87 HT_ ?_;refine pA 3 88 HT_ ?_;refine pA 5 90 HT_ ?_;refine pA 6 91 HT_ ?_;refine pA 7 92 HT_ ?_;refine pA 8 93 HT_ ?_;refine pA 9 94 HT_ ?_;refine pA 10 95 HT_ ?_;refine tA 4 89 HT_ HW_ hHeld ?_;refine tA 11 96 HT_ HW_ hHeld ?_;refine pA 12 97 HT_ ?_;refine done_ (done_of HT_.out (by kernel_rfl)) ?_;obtain ⟨hcz48_0,hcz48_1,hcz48_2,hfz48_0,hfz48_1,hfz48_2⟩:=cf3 BK209
           try go_wp2
           refine bodyPost_ret (results_cell_row rfl _ _ gb209 43 #[.int .i64 x6_1,.int .i64 0,.int .i64 3] (0,0) _ rfl (kp BK209) Tryd.underlying43 rfl (by kernel_rfl)) rfl ?_
           exact ⟨by first|rfl|(simp [errW_none,errW_some] <;> rfl)|(simp only [← hji41];first|rfl|(simp [errW_none,errW_some] <;> rfl))|(simp [*,errW_none,errW_some] <;> rfl),bs HB⟩
         ·rw [if_neg c43] at H
          exact absurd H (by simp)
        ·rw [if_neg c42] at H
         exact absurd H (by simp)
       ·rw [if_neg c40] at H
        exact absurd H (by simp)
      ·rw [if_neg c39] at H;have c39b0:decide (x6_1<(l1.length:Int))=false:=decide_eq_false c39;clear c39;simp only [Option.some.injEq,Prod.mk.injEq] at H;obtain ⟨rfl,rfl,rfl⟩:=H;obtain ⟨hcz49_0,hcz49_1,hcz49_2,hfz49_0,hfz49_1,hfz49_2⟩:=cf3 BK209
       go_wp2
       refine bodyPost_ret (results_cell_row rfl _ _ gb209 43 #[.int .i64 0,.int .i64 0,.int .i64 0] (0,0) _ rfl (kp BK209) Tryd.underlying43 rfl (by kernel_rfl)) rfl ?_
       exact ⟨ff,bs HB⟩
def TbC (w : World) : Prop := ∃ m, w.cell? ⟨0, 0, none⟩ = some (.int .i64 m)
theorem tbC {w W : World} (h : Aside0 (TbC w)) (hb : Below w.heap.size w W) : TbC W := by
  obtain ⟨m, h0⟩ := h.out
  exact ⟨m, (hb.cell (World.block_lt_of_cell? w _ h0)).trans h0⟩
theorem strings_Cut.calls (a0:ByteArray) (a1:ByteArray) (r1:ByteArray) (r2:ByteArray) (r3:Bool) (w:World) (hTC:TbC w) (h:strings_Cut.f a0 a1=some (r1,r2,r3)) :
  Calls Tryd.prog 32 #[.string a0,.string a1] w fun e w'=>e=.returned (.tuple #[.string r1,.string r2,.bool r3])∧Below w.heap.size w w':=by
 unfold strings_Cut.f at h
 by_cases c1:a0.size<4294967281
 ·rw [if_pos c1] at h
  obtain ⟨rfl,rfl,rfl⟩:(⟨(Lib.cut a0.data.toList a1.data.toList).1.toArray⟩:ByteArray)=r1∧(⟨(Lib.cut a0.data.toList a1.data.toList).2.1.toArray⟩:ByteArray)=r2∧(Lib.cut a0.data.toList a1.data.toList).2.2=r3:=by simpa using h
  obtain ⟨m,hm⟩:=hTC;refine (show Calls Tryd.prog 32 #[.string a0,.string a1] w _ from Any.strings_Cut Tryd.lays145 a0 a1 m w c1 hm).mono ?_;rintro e w' ⟨rfl,k,rfl⟩
  exact ⟨rfl,pw_below_drewN (Below.refl _ _) k⟩
 ·rw [if_neg c1] at h;cases h
theorem strings_IndexByte.calls (a0:ByteArray) (a1:Int) (r:Int) (w:World) (h:strings_IndexByte.f a0 a1=some r) :
  Calls Tryd.prog 33 #[.string a0,.int .u8 a1] w fun e w'=>e=.returned (.int .i64 r)∧Drawn0 w w':=by
 obtain rfl:=Option.some.inj h;refine (show Calls Tryd.prog 33 #[.string a0,.int .u8 a1] w _ from Any.strings_IndexByte Tryd.lays137 a0 a1 w).mono ?_;rintro e w' ⟨rfl,rfl⟩
 exact ⟨rfl,Drawn0.refl _⟩
set_option maxHeartbeats 8000000 in
set_option maxRecDepth 100000 in
theorem impl_longText_1.calls (a0:ByteArray) (r:Bool) (w:World) (h:impl_longText_1.f a0=some r) :
  Calls Tryd.prog 59 #[.string a0] w fun e w'=>e=.returned (.bool r)∧Drawn0 w w':=by
 have H:(some (decide ((a0.size:Int)>20000)))=some r:=h;clear h;obtain rfl:=Option.some.inj H
 go_enter Tryd.func59,Tryd.ntmps59
 go_wp2
 go_ret
 exact ⟨fg,by repeat (first|exact Drawn0.refl _|apply Drawn0.step)⟩
set_option maxHeartbeats 8000000 in
set_option maxRecDepth 100000 in
theorem slices_IndexFunc_string_string_impl_longText_1.calls (k:Nat) (A0:Option Addr) (c0:Nat) (l0:List ByteArray)  (r:Int) (w:World) (hr0:Kd.C Kd.string w A0 l0.length l0) (hc0:l0.length≤c0) (h:slices_IndexFunc_string_string_impl_longText_1.f k l0=some r) :
  Calls Tryd.prog 77 #[.slice A0 l0.length c0,.func (.func 59) #[] #[]] w fun e w'=>e=.returned (.int .i64 r)∧Drawn0 w w':=by
 have HR0:=am hr0;have HC0:=am hc0;clear hr0 hc0;have H:(slices_IndexFunc_string_string_impl_longText_1.l0 k l0 (l0.length:Int) 0)=some r:=h;clear h;have H':=am H;clear H
 go_enter Tryd.func77,Tryd.ntmps77
 go_wp2
 go_loopg [8] k (fun kq v8 w'=>∃ (x8_1:Int),v8=.int .i64 x8_1∧Aside0 (slices_IndexFunc_string_string_impl_longText_1.l0 kq l0 (l0.length:Int) x8_1=some r)∧Aside0 (kq≤k)∧Drawn0 w w')
 case atStart=>exact ⟨(0),fg,H',⟨Nat.le_refl _⟩,by repeat (first|exact Drawn0.refl _|apply Drawn0.step)⟩
 case round =>
  clear H'
  try clear p2
  obtain ⟨x8_1,rfl,HA,HK1,⟨m1,rfl⟩⟩:=hrel
  cases gk with
  | zero=>exact absurd HA.out (by simp [slices_IndexFunc_string_string_impl_longText_1.l0])
  | succ k1 =>
   have H:=HA.out;clear HA;simp only [slices_IndexFunc_string_string_impl_longText_1.l0] at H
   by_cases c3:x8_1<(l0.length:Int)
   ·rw [if_pos c3] at H;have c3b0:decide (x8_1<(l0.length:Int))=true:=decide_eq_true c3;clear c3
    by_cases c4:0≤x8_1
    ·rw [if_pos c4] at H;have c4b0:decide (0≤x8_1)=true:=decide_eq_true c4;clear c4
     by_cases c5:x8_1<(l0.length:Int)
     ·rw [if_pos c5] at H;have c5b0:decide (x8_1<(l0.length:Int))=true:=decide_eq_true c5;clear c5;replace H:=Option.bind_eq_some_iff.mp H;obtain ⟨t288,A60,H⟩:=H;replace H:(if t288=true then (some x8_1) else (slices_IndexFunc_string_string_impl_longText_1.l0 k1 l0 (l0.length:Int) (wrap64 (x8_1+1))))=some r:=H;have A6:=am A60;clear A60;have p287:0≤(x8_1:Int):=oa;have q287:x8_1<(l0.length:Int):=oa;obtain ⟨ad287,e287,hx287_0⟩:=Kd.at_string HR0.out x8_1 p287 q287
      cases e287
      replace p287:=eq_true p287;replace q287:=eq_true q287
      try go_wp2_with (fail)
      go_at_call 59;(with_reducible refine (impl_longText_1.calls (rdOf ByteArray.empty l0 x8_1) t288 _ A6.out).mono ?_);rintro e w' ⟨rfl,⟨nd,rfl⟩⟩
      by_cases c7:t288=true
      ·subst c7
       have H1:(some x8_1)=some r:=by rw [if_pos rfl] at H;exact H
       clear H;have H:=H1;clear H1;obtain rfl:=Option.some.inj H
       go_wp2
       go_ret
       exact ⟨fg,by repeat (first|exact Drawn0.refl _|apply Drawn0.step)⟩
      ·replace c7:=Bool.eq_false_iff.mpr c7;subst c7
       have H1:(slices_IndexFunc_string_string_impl_longText_1.l0 k1 l0 (l0.length:Int) (wrap64 (x8_1+1)))=some r:=by rw [if_neg (show ¬ (false=true) by decide)] at H;exact H
       clear H;have H:=H1;clear H1;have H':=am H;clear H
       go_wp2
       go_roundg k1
       case measure=>have:=HK1.out;omega
       case rel=>exact ⟨(wrap64 (x8_1+1)),fg,H',⟨by have:=HK1.out;omega⟩,by repeat (first|exact Drawn0.refl _|apply Drawn0.step)⟩
     ·rw [if_neg c5] at H
      exact absurd H (by simp)
    ·rw [if_neg c4] at H
     exact absurd H (by simp)
   ·rw [if_neg c3] at H;have c3b0:decide (x8_1<(l0.length:Int))=false:=decide_eq_false c3;clear c3;obtain rfl:=Option.some.inj H
    go_wp2
    go_ret
    exact ⟨fg,by repeat (first|exact Drawn0.refl _|apply Drawn0.step)⟩
set_option maxHeartbeats 8000000 in
set_option maxRecDepth 100000 in
theorem slices_ContainsFunc_string_string_impl_longText_1.calls (k:Nat) (A0:Option Addr) (c0:Nat) (l0:List ByteArray)  (r:Bool) (w:World) (hr0:Kd.C Kd.string w A0 l0.length l0) (hc0:l0.length≤c0) (h:slices_ContainsFunc_string_string_impl_longText_1.f k l0=some r) :
  Calls Tryd.prog 58 #[.slice A0 l0.length c0,.func (.func 59) #[] #[]] w fun e w'=>e=.returned (.bool r)∧Drawn0 w w':=by
 have HR0:=am hr0;have HC0:=am hc0;clear hr0 hc0;have H:((slices_IndexFunc_string_string_impl_longText_1.f k l0).bind fun t289=>(some (decide (t289≥0))))=some r:=h;clear h;replace H:=Option.bind_eq_some_iff.mp H;obtain ⟨t289,A30,H⟩:=H;replace H:(some (decide (t289≥0)))=some r:=H;have A3:=am A30;clear A30;obtain rfl:=Option.some.inj H
 go_enter Tryd.func58,Tryd.ntmps58
 go_wp2_with (first|((first|((with_reducible refine gate_callee (f:=77) rfl ?_);refine goesL_ (some 7) rfl rfl Tryd.func77 (by kernel_rfl) rfl #[.slice A0 l0.length c0,.func (.func 59) #[] #[]] rfl (by (try simp only [List.map_toArray,List.map_cons,List.map_nil]);first|done|rfl|(simp only [List.length_drop,List.length_take];rfl)) ?_;(with_reducible refine (slices_IndexFunc_string_string_impl_longText_1.calls k _ _ l0  t289 _ ?side1 HC0.out A3.out).mono ?_);(case side1=>repeat (first|exact HR0.out|(with_reducible refine Kd.C_alloc ?_ _)|(with_reducible refine Kd.C_drewN ?_ _)|(with_reducible refine Kd.C_drew ?_)));rintro e w' ⟨rfl,⟨nd,rfl⟩⟩;refine ⟨_,rfl,?_⟩)|(go_at_call 77;(with_reducible refine (slices_IndexFunc_string_string_impl_longText_1.calls k _ _ l0  t289 _ ?side1 HC0.out A3.out).mono ?_);(case side1=>repeat (first|exact HR0.out|(with_reducible refine Kd.C_alloc ?_ _)|(with_reducible refine Kd.C_drewN ?_ _)|(with_reducible refine Kd.C_drew ?_)));rintro e w' ⟨rfl,⟨nd,rfl⟩⟩))))
 go_ret
 exact ⟨fg,by repeat (first|exact Drawn0.refl _|apply Drawn0.step)⟩
set_option maxHeartbeats 8000000 in
set_option maxRecDepth 100000 in
theorem impl_longText.calls (k:Nat) (A0:Option Addr) (c0:Nat) (l0:List ByteArray) (r:Bool) (w:World) (hr0:Kd.C Kd.string w A0 l0.length l0) (hc0:l0.length≤c0) (h:impl_longText.f k l0=some r) :
  Calls Tryd.prog 34 #[.slice A0 l0.length c0] w fun e w'=>e=.returned (.bool r)∧Drawn0 w w':=by
 have HR0:=am hr0;have HC0:=am hc0;clear hr0 hc0;have H:((slices_ContainsFunc_string_string_impl_longText_1.f k l0).bind fun t290=>(some t290))=some r:=h;clear h;replace H:=Option.bind_eq_some_iff.mp H;obtain ⟨t290,A20,H⟩:=H;replace H:(some t290)=some r:=H;have A2:=am A20;clear A20;obtain rfl:=Option.some.inj H
 go_enter Tryd.func34,Tryd.ntmps34
 go_wp2_with (first|((first|((with_reducible refine gate_callee (f:=58) rfl ?_);refine goesL_ (some 4) rfl rfl Tryd.func58 (by kernel_rfl) rfl #[.slice A0 l0.length c0,.func (.func 59) #[] #[]] rfl (by (try simp only [List.map_toArray,List.map_cons,List.map_nil]);first|done|rfl|(simp only [List.length_drop,List.length_take];rfl)) ?_;(with_reducible refine (slices_ContainsFunc_string_string_impl_longText_1.calls k _ _ l0  t290 _ ?side1 HC0.out A2.out).mono ?_);(case side1=>repeat (first|exact HR0.out|(with_reducible refine Kd.C_alloc ?_ _)|(with_reducible refine Kd.C_drewN ?_ _)|(with_reducible refine Kd.C_drew ?_)));rintro e w' ⟨rfl,⟨nd,rfl⟩⟩;refine ⟨_,rfl,?_⟩)|(go_at_call 58;(with_reducible refine (slices_ContainsFunc_string_string_impl_longText_1.calls k _ _ l0  t290 _ ?side1 HC0.out A2.out).mono ?_);(case side1=>repeat (first|exact HR0.out|(with_reducible refine Kd.C_alloc ?_ _)|(with_reducible refine Kd.C_drewN ?_ _)|(with_reducible refine Kd.C_drew ?_)));rintro e w' ⟨rfl,⟨nd,rfl⟩⟩))))
 go_ret
 exact ⟨fg,by repeat (first|exact Drawn0.refl _|apply Drawn0.step)⟩
set_option maxHeartbeats 8000000 in
set_option maxRecDepth 100000 in
theorem impl_isGreat.calls (a0:Int) (r:Bool) (w:World) (h:impl_isGreat.f a0=some r) :
  Calls Tryd.prog 78 #[.int .u8 a0] w fun e w'=>e=.returned (.bool r)∧Drawn0 w w':=by
 have H:(if a0≥65 then (some (decide (a0≤90))) else (some false))=some r:=h;clear h
 by_cases c2:a0≥65
 ·rw [if_pos c2] at H;have c2b0:decide (65≤a0)=true:=decide_eq_true c2;clear c2;obtain rfl:=Option.some.inj H
  go_enter Tryd.func78,Tryd.ntmps78
  go_wp2
  go_ret
  exact ⟨fg,by repeat (first|exact Drawn0.refl _|apply Drawn0.step)⟩
 ·rw [if_neg c2] at H;have c2b0:decide (65≤a0)=false:=decide_eq_false c2;clear c2;obtain rfl:=Option.some.inj H
  go_enter Tryd.func78,Tryd.ntmps78
  go_wp2
  go_ret
  exact ⟨fg,by repeat (first|exact Drawn0.refl _|apply Drawn0.step)⟩
set_option maxHeartbeats 8000000 in
set_option maxRecDepth 100000 in
theorem impl_isDigit.calls (a0:Int) (r:Bool) (w:World) (h:impl_isDigit.f a0=some r) :
  Calls Tryd.prog 79 #[.int .u8 a0] w fun e w'=>e=.returned (.bool r)∧Drawn0 w w':=by
 have H:(if a0≥48 then (some (decide (a0≤57))) else (some false))=some r:=h;clear h
 by_cases c2:a0≥48
 ·rw [if_pos c2] at H;have c2b0:decide (48≤a0)=true:=decide_eq_true c2;clear c2;obtain rfl:=Option.some.inj H
  go_enter Tryd.func79,Tryd.ntmps79
  go_wp2
  go_ret
  exact ⟨fg,by repeat (first|exact Drawn0.refl _|apply Drawn0.step)⟩
 ·rw [if_neg c2] at H;have c2b0:decide (48≤a0)=false:=decide_eq_false c2;clear c2;obtain rfl:=Option.some.inj H
  go_enter Tryd.func79,Tryd.ntmps79
  go_wp2
  go_ret
  exact ⟨fg,by repeat (first|exact Drawn0.refl _|apply Drawn0.step)⟩
set_option maxHeartbeats 8000000 in
set_option maxRecDepth 100000 in
theorem impl_Segment.calls (A0:Option Addr) (c0:Nat) (l0:List (S36)) (r:Bool) (w:World) (hr0:Kd.C k36 w A0 l0.length l0) (hc0:l0.length≤c0) (h:impl_Segment.f l0=some r) :
  Calls Tryd.prog 38 #[.slice A0 l0.length c0] w fun e w'=>e=.returned (.bool r)∧Drawn0 w w':=by
 have HR0:=am hr0;have HC0:=am hc0;clear hr0 hc0;have H:(some (decide ((l0.length:Int)>400)))=some r:=h;clear h;obtain rfl:=Option.some.inj H
 go_enter Tryd.func38,Tryd.ntmps38
 go_wp2
 go_ret
 exact ⟨fg,by repeat (first|exact Drawn0.refl _|apply Drawn0.step)⟩
set_option maxHeartbeats 8000000 in
set_option maxRecDepth 100000 in
theorem impl_within.calls (a0:Int) (a1:Int) (a2:Int) (r:Bool) (w:World) (h:impl_within.f a0 a1 a2=some r) :
  Calls Tryd.prog 39 #[.int .i64 a0,.int .i64 a1,.int .i64 a2] w fun e w'=>e=.returned (.bool r)∧Drawn0 w w':=by
 have H:(if a1≤a0 then (some (decide (a0≤a2))) else (some false))=some r:=h;clear h
 by_cases c4:a1≤a0
 ·rw [if_pos c4] at H;have c4b0:decide (a1≤a0)=true:=decide_eq_true c4;clear c4;obtain rfl:=Option.some.inj H
  go_enter Tryd.func39,Tryd.ntmps39
  go_wp2
  go_ret
  exact ⟨fg,by repeat (first|exact Drawn0.refl _|apply Drawn0.step)⟩
 ·rw [if_neg c4] at H;have c4b0:decide (a1≤a0)=false:=decide_eq_false c4;clear c4;obtain rfl:=Option.some.inj H
  go_enter Tryd.func39,Tryd.ntmps39
  go_wp2
  go_ret
  exact ⟨fg,by repeat (first|exact Drawn0.refl _|apply Drawn0.step)⟩
set_option maxHeartbeats 8000000 in
set_option maxRecDepth 100000 in
theorem impl_tableOf_1.calls (a0:ByteArray) (r1:ByteArray) (r2:Int) (r3:Int) (r4:ByteArray) (w:World) (h:impl_tableOf_1.f a0=some (r1,r2,r3,r4)) :
  Calls Tryd.prog 64 #[.string a0] w fun e w'=>e=.returned (.agg #[.string r1,.int .i64 r2,.int .i64 r3,.string r4])∧Below w.heap.size w w':=by
 have hu57:=Tryd.underlying57;have HB:=am (Below.refl w.heap.size w);have H:(some ((⟨#[68,79,67]⟩:ByteArray),1,1,a0))=some (r1,r2,r3,r4):=h;clear h;simp only [Option.some.injEq,Prod.mk.injEq] at H;obtain ⟨rfl,rfl,rfl,rfl⟩:=H
 go_enter Tryd.func64,Tryd.ntmps64
 go_wp2_with (first|((with_reducible refine gate_dst (N:=2) rfl ?_);refine bx 2 (cs:=#[.string (⟨#[]⟩:ByteArray),.int .i64 0,.int .i64 0,.string (⟨#[]⟩:ByteArray)]) (t:=57) ?_;intro gb222 hg w2 hbox hb;have BK222:=am (hbox);have GW222:=am ((gs hg (bs HB)));have GE222:=am ((gs hg (bs HB)));replace HB:=am (below_step (bs HB) hb);clear hb hbox hg;obtain ⟨hcz3_0,hcz3_1,hcz3_2,hcz3_3,hfz3_0,hfz3_1,hfz3_2,hfz3_3⟩:=cf4 BK222))
 refine bodyPost_ret (results_cell_row rfl _ _ gb222 57 #[.string (⟨#[68,79,67]⟩:ByteArray),.int .i64 1,.int .i64 1,.string a0] (0,0) _ rfl (kp BK222) Tryd.underlying57 rfl (by kernel_rfl)) rfl ?_
 exact ⟨ff,bs HB⟩
set_option maxHeartbeats 8000000 in
set_option maxRecDepth 100000 in
theorem impl_tableOf_2.calls (a0:ByteArray) (a1:ByteArray) (r1:ByteArray) (r2:Int) (r3:Int) (r4:ByteArray) (w:World) (h:impl_tableOf_2.f a0 a1=some (r1,r2,r3,r4)) :
  Calls Tryd.prog 65 #[.string a0,.string a1] w fun e w'=>e=.returned (.agg #[.string r1,.int .i64 r2,.int .i64 r3,.string r4])∧Below w.heap.size w w':=by
 have hu57:=Tryd.underlying57;have HB:=am (Below.refl w.heap.size w);have H:(some (a0,1,20,a1))=some (r1,r2,r3,r4):=h;clear h;simp only [Option.some.injEq,Prod.mk.injEq] at H;obtain ⟨rfl,rfl,rfl,rfl⟩:=H
 go_enter Tryd.func65,Tryd.ntmps65
 go_wp2_with (first|((with_reducible refine gate_dst (N:=4) rfl ?_);refine bx 4 (cs:=#[.string (⟨#[]⟩:ByteArray),.int .i64 0,.int .i64 0,.string (⟨#[]⟩:ByteArray)]) (t:=57) ?_;intro gb223 hg w3 hbox hb;have BK223:=am (hbox);have GW223:=am ((gs hg (bs HB)));have GE223:=am ((gs hg (bs HB)));replace HB:=am (below_step (bs HB) hb);clear hb hbox hg;obtain ⟨hcz4_0,hcz4_1,hcz4_2,hcz4_3,hfz4_0,hfz4_1,hfz4_2,hfz4_3⟩:=cf4 BK223))
 refine bodyPost_ret (results_cell_row rfl _ _ gb223 57 #[.string a0,.int .i64 1,.int .i64 20,.string a1] (0,0) _ rfl (kp BK223) Tryd.underlying57 rfl (by kernel_rfl)) rfl ?_
 exact ⟨ff,bs HB⟩
set_option maxHeartbeats 8000000 in
set_option maxRecDepth 100000 in
theorem impl_isName.calls (k:Nat) (a0:ByteArray) (r:Bool) (w:World) (h:impl_isName.f k a0=some r) :
  Calls Tryd.prog 60 #[.string a0] w fun e w'=>e=.returned (.bool r)∧Drawn0 w w':=by
 have H:(impl_isName.l0 k a0 (a0.size:Int) 0)=some r:=h;clear h;have H':=am H;clear H
 go_enter Tryd.func60,Tryd.ntmps60
 go_wp2
 go_loopg [6] k (fun kq v6 w'=>∃ (x6_1:Int),v6=.int .i64 x6_1∧Aside0 (impl_isName.l0 kq a0 (a0.size:Int) x6_1=some r)∧Aside0 (kq≤k)∧Drawn0 w w')
 case atStart=>exact ⟨(0),fg,H',⟨Nat.le_refl _⟩,by repeat (first|exact Drawn0.refl _|apply Drawn0.step)⟩
 case round =>
  clear H';obtain ⟨x6_1,rfl,HA,HK1,⟨m1,rfl⟩⟩:=hrel
  cases gk with
  | zero=>exact absurd HA.out (by simp [impl_isName.l0])
  | succ k1 =>
   have H:=HA.out;clear HA;simp only [impl_isName.l0] at H
   by_cases c2:x6_1<(a0.size:Int)
   ·rw [if_pos c2] at H;have c2b0:decide (x6_1<(a0.size:Int))=true:=decide_eq_true c2;clear c2
    by_cases c3:0≤x6_1
    ·rw [if_pos c3] at H;have c3b0:decide (0≤x6_1)=true:=decide_eq_true c3;clear c3
     by_cases c4:x6_1<(a0.size:Int)
     ·rw [if_pos c4] at H;have c4b0:decide (x6_1<(a0.size:Int))=true:=decide_eq_true c4;clear c4;replace H:=Option.bind_eq_some_iff.mp H;obtain ⟨t292,A60,H⟩:=H;replace H:(if t292=true then (impl_isName.l0 k1 a0 (a0.size:Int) (wrap64 (x6_1+1))) else (if x6_1=0 then (some false) else ((impl_isDigit.f (bt a0 x6_1)).bind fun t293=>(if t293=true then (impl_isName.l0 k1 a0 (a0.size:Int) (wrap64 (x6_1+1))) else (if (bt a0 x6_1)=45 then (impl_isName.l0 k1 a0 (a0.size:Int) (wrap64 (x6_1+1))) else (some false))))))=some r:=H;have A6:=am A60;clear A60;have p5:0≤(x6_1:Int):=oa;have q5:x6_1<(a0.size:Int):=oa;have hx5:=bt_at a0 x6_1;replace p5:=eq_true p5;replace q5:=eq_true q5
      try go_wp2_with (fail)
      go_at_call 78;(with_reducible refine (impl_isGreat.calls (bt a0 x6_1) t292 _ A6.out).mono ?_);rintro e w' ⟨rfl,⟨nd,rfl⟩⟩
      by_cases c7:t292=true
      ·subst c7
       have H1:(impl_isName.l0 k1 a0 (a0.size:Int) (wrap64 (x6_1+1)))=some r:=by rw [if_pos rfl] at H;exact H
       clear H;have H:=H1;clear H1;have H':=am H;clear H
       go_wp2
       go_roundg k1
       case measure=>have:=HK1.out;omega
       case rel=>exact ⟨(wrap64 (x6_1+1)),fg,H',⟨by have:=HK1.out;omega⟩,by repeat (first|exact Drawn0.refl _|apply Drawn0.step)⟩
      ·replace c7:=Bool.eq_false_iff.mpr c7;subst c7
       have H1:(if x6_1=0 then (some false) else ((impl_isDigit.f (bt a0 x6_1)).bind fun t293=>(if t293=true then (impl_isName.l0 k1 a0 (a0.size:Int) (wrap64 (x6_1+1))) else (if (bt a0 x6_1)=45 then (impl_isName.l0 k1 a0 (a0.size:Int) (wrap64 (x6_1+1))) else (some false)))))=some r:=by rw [if_neg (show ¬ (false=true) by decide)] at H;exact H
       clear H;have H:=H1;clear H1
       by_cases c8:x6_1=0
       ·rw [if_pos c8] at H;have c8b0:(x6_1 == 0)=true:=beq_iff_eq.mpr c8;have c8b1:(x6_1 != 0)=false:=bne_eq_false_iff_eq.mpr c8;clear c8;obtain rfl:=Option.some.inj H
        go_wp2
        go_ret
        exact ⟨fg,by repeat (first|exact Drawn0.refl _|apply Drawn0.step)⟩
       ·rw [if_neg c8] at H;have c8b0:(x6_1 == 0)=false:=beq_eq_false_iff_ne.mpr c8;have c8b1:(x6_1 != 0)=true:=bne_iff_ne.mpr c8;replace H:=Option.bind_eq_some_iff.mp H;obtain ⟨t293,A100,H⟩:=H;replace H:(if t293=true then (impl_isName.l0 k1 a0 (a0.size:Int) (wrap64 (x6_1+1))) else (if (bt a0 x6_1)=45 then (impl_isName.l0 k1 a0 (a0.size:Int) (wrap64 (x6_1+1))) else (some false)))=some r:=H;have A10:=am A100;clear A100;have p9:0≤(x6_1:Int):=oa;have q9:x6_1<(a0.size:Int):=oa;have hx9:=bt_at a0 x6_1;replace p9:=eq_true p9;replace q9:=eq_true q9
        try go_wp2_with (fail)
        go_at_call 79;(with_reducible refine (impl_isDigit.calls (bt a0 x6_1) t293 _ A10.out).mono ?_);rintro e w' ⟨rfl,⟨nd,rfl⟩⟩
        by_cases c11:t293=true
        ·subst c11
         have H1:(impl_isName.l0 k1 a0 (a0.size:Int) (wrap64 (x6_1+1)))=some r:=by rw [if_pos rfl] at H;exact H
         clear H;have H:=H1;clear H1;have H':=am H;clear H
         go_wp2
         go_roundg k1
         case measure=>have:=HK1.out;omega
         case rel=>exact ⟨(wrap64 (x6_1+1)),fg,H',⟨by have:=HK1.out;omega⟩,by repeat (first|exact Drawn0.refl _|apply Drawn0.step)⟩
        ·replace c11:=Bool.eq_false_iff.mpr c11;subst c11
         have H1:(if (bt a0 x6_1)=45 then (impl_isName.l0 k1 a0 (a0.size:Int) (wrap64 (x6_1+1))) else (some false))=some r:=by rw [if_neg (show ¬ (false=true) by decide)] at H;exact H
         clear H;have H:=H1;clear H1
         by_cases c13:(bt a0 x6_1)=45
         ·rw [if_pos c13] at H;have c13b0:((bt a0 x6_1) == 45)=true:=beq_iff_eq.mpr c13;have c13b1:((bt a0 x6_1) != 45)=false:=bne_eq_false_iff_eq.mpr c13;clear c13;have H':=am H;clear H;have p12:0≤(x6_1:Int):=oa;have q12:x6_1<(a0.size:Int):=oa;have hx12:=bt_at a0 x6_1;replace p12:=eq_true p12;replace q12:=eq_true q12
          go_wp2
          go_roundg k1
          case measure=>have:=HK1.out;omega
          case rel=>exact ⟨(wrap64 (x6_1+1)),fg,H',⟨by have:=HK1.out;omega⟩,by repeat (first|exact Drawn0.refl _|apply Drawn0.step)⟩
         ·rw [if_neg c13] at H;have c13b0:((bt a0 x6_1) == 45)=false:=beq_eq_false_iff_ne.mpr c13;have c13b1:((bt a0 x6_1) != 45)=true:=bne_iff_ne.mpr c13;obtain rfl:=Option.some.inj H;have p12:0≤(x6_1:Int):=oa;have q12:x6_1<(a0.size:Int):=oa;have hx12:=bt_at a0 x6_1;replace p12:=eq_true p12;replace q12:=eq_true q12
          go_wp2
          go_ret
          exact ⟨fg,by repeat (first|exact Drawn0.refl _|apply Drawn0.step)⟩
     ·rw [if_neg c4] at H
      exact absurd H (by simp)
    ·rw [if_neg c3] at H
     exact absurd H (by simp)
   ·rw [if_neg c2] at H;have c2b0:decide (x6_1<(a0.size:Int))=false:=decide_eq_false c2;clear c2;replace H:=Option.bind_eq_some_iff.mp H;obtain ⟨t291,A140,H⟩:=H;replace H:(some t291)=some r:=H;have A14:=am A140;clear A140;obtain rfl:=Option.some.inj H
    go_wp2_with (first|((first|((with_reducible refine gate_callee (f:=39) rfl ?_);refine goesL_ (some 34) rfl rfl Tryd.func39 (by kernel_rfl) rfl #[.int .i64 (a0.size:Int),.int .i64 1,.int .i64 12] rfl (by (try simp only [List.map_toArray,List.map_cons,List.map_nil]);first|done|rfl|(simp only [List.length_drop,List.length_take];rfl)) ?_;(with_reducible refine (impl_within.calls (a0.size:Int) 1 12 t291 _ A14.out).mono ?_);rintro e w' ⟨rfl,⟨nd,rfl⟩⟩;refine ⟨_,rfl,?_⟩)|(go_at_call 39;(with_reducible refine (impl_within.calls (a0.size:Int) 1 12 t291 _ A14.out).mono ?_);rintro e w' ⟨rfl,⟨nd,rfl⟩⟩))))
    go_ret
    exact ⟨fg,by repeat (first|exact Drawn0.refl _|apply Drawn0.step)⟩
end Go.Proofs.YtjbdljhjplidmaaDoor.QF

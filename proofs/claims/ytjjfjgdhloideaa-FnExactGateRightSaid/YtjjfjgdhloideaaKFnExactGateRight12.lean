-- Merged by a program of this session (wip/tool/pack.py) out of its own texts for this claim.
import Derived.Test.YtjjfjgdhloideaaKFnExactGateRight0
import Derived.Test.YtjjfjgdhloideaaKFnExactGateRight1
import Derived.Test.YtjjfjgdhloideaaKFnExactGateRight2
import Derived.Test.YtjjfjgdhloideaaKFnExactGateRight3
import Derived.Test.YtjjfjgdhloideaaKFnExactGateRight7
import Derived.Test.YtjjfjgdhloideaaKFnExactGateRight8
import Derived.Test.YtjjfjgdhloideaaKFnExactGateRight9
import Derived.Test.YtjjfjgdhloideaaKFnExactGateRight10
import Derived.Test.YtjjfjgdhloideaaKFnExactGateRight11
namespace Go.Proofs.Ytjjfjgdhloideaa.QI
open Go.RowKit Go.Proofs.YtjjfjgdhloideaaW.PrintWords Go.Proofs.YtjjfjgdhloideaaW.PrintLast Go.Proofs.YtjjfjgdhloideaaW.PrintMore
attribute [local go_sem] max2_int min2_int max_two min_two max_three min_three max_four min_four   -- for this text's walks alone
set_option linter.unusedVariables false
set_option linter.unusedSimpArgs false
def spec_GateRight.T6 : Bool × List (List Nat × List Nat) := (true, [([], []), ([0], [0]), ([], []), ([1, 2], [1, 2]), ([3], [3]), ([4], [4]), ([5], [5]), ([6, 5], [6]), ([7], [7]), ([8, 7], [7, 8]), ([9, 7, 7], [7, 9]), ([10], [10]), ([11, 10], [10, 11]), ([10], [10]), ([12, 13, 10], [10, 12, 13]), ([14, 10], [10, 14]), ([15, 10], [10, 15]), ([10], [10]), ([17, 10], [10, 17]), ([10], [10]), ([19, 10], [10, 19]), ([18, 20, 10], [10, 18, 20]), ([21, 10], [10, 21]), ([22, 10], [10, 22]), ([16, 23, 10], [10, 16, 23]), ([10, 24, 7], [7, 10, 24]), ([7, 25], [7, 25])])
def spec_GateRight.B6 : List Nat := [0, 1, 0, 7, 15, 31, 63, 127, 255, 511, 1023, 2047, 4095, 2047, 16383, 32767, 65535, 2047, 133119, 2047, 526335, 1968127, 4065279, 8259583, 16777215, 33554431, 67108863]
theorem spec_GateRight.tab6 : rtab .any (opsOf Try.f21 6) = spec_GateRight.T6 := by kernel_rfl
theorem spec_GateRight.bits6 : waitsOk spec_GateRight.T6.2 spec_GateRight.B6 = true := by kernel_rfl
set_option maxHeartbeats 8000000 in
set_option maxRecDepth 100000 in
theorem spec_GateRight.calls (k:Nat) (a0_0:ByteArray) (a0_1:Int) (A0_2:Option Addr) (c0_2:Nat) (l0_2:List (S92)) (A0_3:Option Addr) (c0_3:Nat) (l0_3:List (S102)) (A0_4:Option Addr) (c0_4:Nat) (l0_4:List (S71)) (A0_5:Option Addr) (c0_5:Nat) (l0_5:List (S73)) (A0_6:Option Addr) (c0_6:Nat) (l0_6:List (S105)) (A0_7:Option Addr) (c0_7:Nat) (l0_7:List (S108)) (r:Bool) (w:World) (hr0_2:Kd.C k92 w A0_2 l0_2.length l0_2) (hc0_2:l0_2.length≤c0_2) (hr0_3:Kd.C k102 w A0_3 l0_3.length l0_3) (hc0_3:l0_3.length≤c0_3) (hr0_4:Kd.C k71 w A0_4 l0_4.length l0_4) (hc0_4:l0_4.length≤c0_4) (hr0_5:Kd.C k73 w A0_5 l0_5.length l0_5) (hc0_5:l0_5.length≤c0_5) (hr0_6:Kd.C k105 w A0_6 l0_6.length l0_6) (hc0_6:l0_6.length≤c0_6) (hr0_7:Kd.C k108 w A0_7 l0_7.length l0_7) (hc0_7:l0_7.length≤c0_7) (h:spec_GateRight.f k a0_0 a0_1 l0_2 l0_3 l0_4 l0_5 l0_6 l0_7=some r) :
  Calls Try.prog 21 #[.agg #[.string a0_0,.int .i64 a0_1,.slice A0_2 l0_2.length c0_2,.slice A0_3 l0_3.length c0_3,.slice A0_4 l0_4.length c0_4,.slice A0_5 l0_5.length c0_5,.slice A0_6 l0_6.length c0_6,.slice A0_7 l0_7.length c0_7]] w fun e w'=>e=.returned (.bool r)∧Below w.heap.size w w':=by
 have hu31:=Try.underlying31;have hu27:=Try.underlying27;have hu92:=Try.underlying92;have HR0_2:=am hr0_2;have HC0_2:=am hc0_2;clear hr0_2 hc0_2;have HR0_3:=am hr0_3;have HC0_3:=am hc0_3;clear hr0_3 hc0_3;have HR0_4:=am hr0_4;have HC0_4:=am hc0_4;clear hr0_4 hc0_4;have HR0_5:=am hr0_5;have HC0_5:=am hc0_5;clear hr0_5 hc0_5;have HR0_6:=am hr0_6;have HC0_6:=am hc0_6;clear hr0_6 hc0_6;have HR0_7:=am hr0_7;have HC0_7:=am hc0_7;clear hr0_7 hc0_7;have HB:=am (Below.refl w.heap.size w);have H:((spec_l01Name.f k a0_0).bind fun t301=>(if t301=true then ((spec_l01Day.f a0_1).bind fun t302=>(if t302=true then (if (l0_2.length:Int)>20 then (spec_GateRight.j0 k true a0_0 a0_1 l0_2 l0_3 l0_4 l0_5 l0_6 l0_7) else ((spec_CrossRight.f k l0_3).bind fun t303=>(if t303=true then ((spec_BookRight.f k l0_4 l0_5).bind fun t304=>(if t304=true then (if (l0_6.length:Int)>200 then (spec_GateRight.j0 k true a0_0 a0_1 l0_2 l0_3 l0_4 l0_5 l0_6 l0_7) else ((spec_OutboxRight.f k l0_7).bind fun t305=>(spec_GateRight.j0 k (!t305) a0_0 a0_1 l0_2 l0_3 l0_4 l0_5 l0_6 l0_7))) else (spec_GateRight.j0 k true a0_0 a0_1 l0_2 l0_3 l0_4 l0_5 l0_6 l0_7))) else (spec_GateRight.j0 k true a0_0 a0_1 l0_2 l0_3 l0_4 l0_5 l0_6 l0_7)))) else (spec_GateRight.j0 k true a0_0 a0_1 l0_2 l0_3 l0_4 l0_5 l0_6 l0_7))) else (spec_GateRight.j0 k true a0_0 a0_1 l0_2 l0_3 l0_4 l0_5 l0_6 l0_7)))=some r:=h;clear h;have HC2:=am H;clear H
 go_enter Try.func21,Try.ntmps21
 go_upto_region 1 with (first|((with_reducible refine gate_dst (N:=1) rfl ?_);(try (refine gate_guard (by rfl) ?_;dsimp only));refine bx 1 (cs:=#[.string a0_0,.int .i64 a0_1,.slice A0_2 l0_2.length c0_2,.slice A0_3 l0_3.length c0_3,.slice A0_4 l0_4.length c0_4,.slice A0_5 l0_5.length c0_5,.slice A0_6 l0_6.length c0_6,.slice A0_7 l0_7.length c0_7]) (t:=31) ?_;intro gb300 hg w3 hbox hb;have BK300:=am (hbox);have GW300:=am ((gs hg (bs HB)));have GE300:=am ((gs hg (bs HB)));replace HB:=am (below_step (bs HB) hb);clear hb hbox hg))
 (try simp only [Act.put,List.setIfInBounds_toArray,List.set_cons_zero,List.set_cons_succ])
 go_cut [43] (fun v43 wc=>∃ (kq:Nat) (x43_1:Bool),v43=.bool x43_1∧Aside0 (spec_GateRight.j0 kq x43_1 a0_0 a0_1 l0_2 l0_3 l0_4 l0_5 l0_6 l0_7=some r)∧Aside0 (kq≤k)∧Aside0 (wc.heap[gb300]? = some (.cells #[.string a0_0,.int .i64 a0_1,(.slice A0_2 l0_2.length c0_2),(.slice A0_3 l0_3.length c0_3),(.slice A0_4 l0_4.length c0_4),(.slice A0_5 l0_5.length c0_5),(.slice A0_6 l0_6.length c0_6),(.slice A0_7 l0_7.length c0_7)] 31 (0,0)))∧Aside0 (Below w.heap.size w wc))
 case first =>
  have H:=HC2.out;clear HC2;replace H:=Option.bind_eq_some_iff.mp H;obtain ⟨t301,A40,H⟩:=H;replace H:(if t301=true then ((spec_l01Day.f a0_1).bind fun t302=>(if t302=true then (if (l0_2.length:Int)>20 then (spec_GateRight.j0 k true a0_0 a0_1 l0_2 l0_3 l0_4 l0_5 l0_6 l0_7) else ((spec_CrossRight.f k l0_3).bind fun t303=>(if t303=true then ((spec_BookRight.f k l0_4 l0_5).bind fun t304=>(if t304=true then (if (l0_6.length:Int)>200 then (spec_GateRight.j0 k true a0_0 a0_1 l0_2 l0_3 l0_4 l0_5 l0_6 l0_7) else ((spec_OutboxRight.f k l0_7).bind fun t305=>(spec_GateRight.j0 k (!t305) a0_0 a0_1 l0_2 l0_3 l0_4 l0_5 l0_6 l0_7))) else (spec_GateRight.j0 k true a0_0 a0_1 l0_2 l0_3 l0_4 l0_5 l0_6 l0_7))) else (spec_GateRight.j0 k true a0_0 a0_1 l0_2 l0_3 l0_4 l0_5 l0_6 l0_7)))) else (spec_GateRight.j0 k true a0_0 a0_1 l0_2 l0_3 l0_4 l0_5 l0_6 l0_7))) else (spec_GateRight.j0 k true a0_0 a0_1 l0_2 l0_3 l0_4 l0_5 l0_6 l0_7))=some r:=H;have A4:=am A40;clear A40;obtain ⟨hcz5_0,hcz5_1,hcz5_2,hcz5_3,hcz5_4,hcz5_5,hcz5_6,hcz5_7,hfz5_0,hfz5_1,hfz5_2,hfz5_3,hfz5_4,hfz5_5,hfz5_6,hfz5_7⟩:=cf8 BK300
  try go_wp2_with (fail)
  go_at_call 24;(with_reducible refine (spec_l01Name.calls k a0_0 t301 _ A4.out).mono ?_);rintro e w' ⟨rfl,⟨nd,rfl⟩⟩
  by_cases c6:t301=true
  ·subst c6
   have H1:((spec_l01Day.f a0_1).bind fun t302=>(if t302=true then (if (l0_2.length:Int)>20 then (spec_GateRight.j0 k true a0_0 a0_1 l0_2 l0_3 l0_4 l0_5 l0_6 l0_7) else ((spec_CrossRight.f k l0_3).bind fun t303=>(if t303=true then ((spec_BookRight.f k l0_4 l0_5).bind fun t304=>(if t304=true then (if (l0_6.length:Int)>200 then (spec_GateRight.j0 k true a0_0 a0_1 l0_2 l0_3 l0_4 l0_5 l0_6 l0_7) else ((spec_OutboxRight.f k l0_7).bind fun t305=>(spec_GateRight.j0 k (!t305) a0_0 a0_1 l0_2 l0_3 l0_4 l0_5 l0_6 l0_7))) else (spec_GateRight.j0 k true a0_0 a0_1 l0_2 l0_3 l0_4 l0_5 l0_6 l0_7))) else (spec_GateRight.j0 k true a0_0 a0_1 l0_2 l0_3 l0_4 l0_5 l0_6 l0_7)))) else (spec_GateRight.j0 k true a0_0 a0_1 l0_2 l0_3 l0_4 l0_5 l0_6 l0_7)))=some r:=by rw [if_pos rfl] at H;exact H
   clear H;have H:=H1;clear H1;replace H:=Option.bind_eq_some_iff.mp H;obtain ⟨t302,A70,H⟩:=H;replace H:(if t302=true then (if (l0_2.length:Int)>20 then (spec_GateRight.j0 k true a0_0 a0_1 l0_2 l0_3 l0_4 l0_5 l0_6 l0_7) else ((spec_CrossRight.f k l0_3).bind fun t303=>(if t303=true then ((spec_BookRight.f k l0_4 l0_5).bind fun t304=>(if t304=true then (if (l0_6.length:Int)>200 then (spec_GateRight.j0 k true a0_0 a0_1 l0_2 l0_3 l0_4 l0_5 l0_6 l0_7) else ((spec_OutboxRight.f k l0_7).bind fun t305=>(spec_GateRight.j0 k (!t305) a0_0 a0_1 l0_2 l0_3 l0_4 l0_5 l0_6 l0_7))) else (spec_GateRight.j0 k true a0_0 a0_1 l0_2 l0_3 l0_4 l0_5 l0_6 l0_7))) else (spec_GateRight.j0 k true a0_0 a0_1 l0_2 l0_3 l0_4 l0_5 l0_6 l0_7)))) else (spec_GateRight.j0 k true a0_0 a0_1 l0_2 l0_3 l0_4 l0_5 l0_6 l0_7))=some r:=H;have A7:=am A70;clear A70;obtain ⟨hcz8_0,hcz8_1,hcz8_2,hcz8_3,hcz8_4,hcz8_5,hcz8_6,hcz8_7,hfz8_0,hfz8_1,hfz8_2,hfz8_3,hfz8_4,hfz8_5,hfz8_6,hfz8_7⟩:=cf8 BK300
   try go_wp2_with (fail)
   go_at_call 55;(with_reducible refine (spec_l01Day.calls a0_1 t302 _ A7.out).mono ?_);rintro e w' ⟨rfl,⟨nd,rfl⟩⟩
   by_cases c9:t302=true
   ·subst c9
    have H1:(if (l0_2.length:Int)>20 then (spec_GateRight.j0 k true a0_0 a0_1 l0_2 l0_3 l0_4 l0_5 l0_6 l0_7) else ((spec_CrossRight.f k l0_3).bind fun t303=>(if t303=true then ((spec_BookRight.f k l0_4 l0_5).bind fun t304=>(if t304=true then (if (l0_6.length:Int)>200 then (spec_GateRight.j0 k true a0_0 a0_1 l0_2 l0_3 l0_4 l0_5 l0_6 l0_7) else ((spec_OutboxRight.f k l0_7).bind fun t305=>(spec_GateRight.j0 k (!t305) a0_0 a0_1 l0_2 l0_3 l0_4 l0_5 l0_6 l0_7))) else (spec_GateRight.j0 k true a0_0 a0_1 l0_2 l0_3 l0_4 l0_5 l0_6 l0_7))) else (spec_GateRight.j0 k true a0_0 a0_1 l0_2 l0_3 l0_4 l0_5 l0_6 l0_7))))=some r:=by rw [if_pos rfl] at H;exact H
    clear H;have H:=H1;clear H1
    by_cases c10:(l0_2.length:Int)>20
    ·rw [if_pos c10] at H;have c10b0:decide (20<(l0_2.length:Int))=true:=decide_eq_true c10;have c10b1:decide (20<l0_2.length)=true:=decide_eq_true (by omega);clear c10
     (first|rw [c10b0]|(simp only [i64_w,i32_w];rw [c10b0])|skip)
     have H':=am H;clear H;obtain ⟨hcz11_0,hcz11_1,hcz11_2,hcz11_3,hcz11_4,hcz11_5,hcz11_6,hcz11_7,hfz11_0,hfz11_1,hfz11_2,hfz11_3,hfz11_4,hfz11_5,hfz11_6,hfz11_7⟩:=cf8 BK300
     go_wp2
     go_meet
     case rel=>exact ⟨_,(true),fg,H',⟨fl⟩,⟨ks BK300⟩,⟨bs HB⟩⟩
    ·rw [if_neg c10] at H;have c10b0:decide (20<(l0_2.length:Int))=false:=decide_eq_false c10;have c10b1:decide (20<l0_2.length)=false:=decide_eq_false (by omega);clear c10
     (first|rw [c10b0]|(simp only [i64_w,i32_w];rw [c10b0])|skip)
     replace H:=Option.bind_eq_some_iff.mp H;obtain ⟨t303,A120,H⟩:=H;replace H:(if t303=true then ((spec_BookRight.f k l0_4 l0_5).bind fun t304=>(if t304=true then (if (l0_6.length:Int)>200 then (spec_GateRight.j0 k true a0_0 a0_1 l0_2 l0_3 l0_4 l0_5 l0_6 l0_7) else ((spec_OutboxRight.f k l0_7).bind fun t305=>(spec_GateRight.j0 k (!t305) a0_0 a0_1 l0_2 l0_3 l0_4 l0_5 l0_6 l0_7))) else (spec_GateRight.j0 k true a0_0 a0_1 l0_2 l0_3 l0_4 l0_5 l0_6 l0_7))) else (spec_GateRight.j0 k true a0_0 a0_1 l0_2 l0_3 l0_4 l0_5 l0_6 l0_7))=some r:=H;have A12:=am A120;clear A120;obtain ⟨hcz13_0,hcz13_1,hcz13_2,hcz13_3,hcz13_4,hcz13_5,hcz13_6,hcz13_7,hfz13_0,hfz13_1,hfz13_2,hfz13_3,hfz13_4,hfz13_5,hfz13_6,hfz13_7⟩:=cf8 BK300
     try go_wp2_with (fail)
     go_at_call 56;(with_reducible refine (spec_CrossRight.calls k _ _ l0_3 t303 _ (Kd.C_below HR0_3.out (bs HB)) HC0_3.out A12.out).mono ?_);rintro e w14 ⟨rfl,hb⟩;replace BK300:=am (blk_below (ks BK300) hb);replace HB:=am (below_step (bs HB) hb);(try clear hb);(try clear hb2);(try clear hk);(try clear hi)
     by_cases c15:t303=true
     ·subst c15
      have H1:((spec_BookRight.f k l0_4 l0_5).bind fun t304=>(if t304=true then (if (l0_6.length:Int)>200 then (spec_GateRight.j0 k true a0_0 a0_1 l0_2 l0_3 l0_4 l0_5 l0_6 l0_7) else ((spec_OutboxRight.f k l0_7).bind fun t305=>(spec_GateRight.j0 k (!t305) a0_0 a0_1 l0_2 l0_3 l0_4 l0_5 l0_6 l0_7))) else (spec_GateRight.j0 k true a0_0 a0_1 l0_2 l0_3 l0_4 l0_5 l0_6 l0_7)))=some r:=by rw [if_pos rfl] at H;exact H
      clear H;have H:=H1;clear H1;replace H:=Option.bind_eq_some_iff.mp H;obtain ⟨t304,A160,H⟩:=H;replace H:(if t304=true then (if (l0_6.length:Int)>200 then (spec_GateRight.j0 k true a0_0 a0_1 l0_2 l0_3 l0_4 l0_5 l0_6 l0_7) else ((spec_OutboxRight.f k l0_7).bind fun t305=>(spec_GateRight.j0 k (!t305) a0_0 a0_1 l0_2 l0_3 l0_4 l0_5 l0_6 l0_7))) else (spec_GateRight.j0 k true a0_0 a0_1 l0_2 l0_3 l0_4 l0_5 l0_6 l0_7))=some r:=H;have A16:=am A160;clear A160;obtain ⟨hcz17_0,hcz17_1,hcz17_2,hcz17_3,hcz17_4,hcz17_5,hcz17_6,hcz17_7,hfz17_0,hfz17_1,hfz17_2,hfz17_3,hfz17_4,hfz17_5,hfz17_6,hfz17_7⟩:=cf8 BK300
      try go_wp2_with (fail)
      go_at_call 41;(with_reducible refine (spec_BookRight.calls k _ _ l0_4 _ _ l0_5 t304 _ (Kd.C_below HR0_4.out (bs HB)) HC0_4.out (Kd.C_below HR0_5.out (bs HB)) HC0_5.out A16.out).mono ?_);rintro e w18 ⟨rfl,hb⟩;replace BK300:=am (blk_below (ks BK300) hb);replace HB:=am (below_step (bs HB) hb);(try clear hb);(try clear hb2);(try clear hk);(try clear hi)
      by_cases c19:t304=true
      ·subst c19
       have H1:(if (l0_6.length:Int)>200 then (spec_GateRight.j0 k true a0_0 a0_1 l0_2 l0_3 l0_4 l0_5 l0_6 l0_7) else ((spec_OutboxRight.f k l0_7).bind fun t305=>(spec_GateRight.j0 k (!t305) a0_0 a0_1 l0_2 l0_3 l0_4 l0_5 l0_6 l0_7)))=some r:=by rw [if_pos rfl] at H;exact H
       clear H;have H:=H1;clear H1
       by_cases c20:(l0_6.length:Int)>200
       ·rw [if_pos c20] at H;have c20b0:decide (200<(l0_6.length:Int))=true:=decide_eq_true c20;have c20b1:decide (200<l0_6.length)=true:=decide_eq_true (by omega);clear c20;have H':=am H;clear H;obtain ⟨hcz21_0,hcz21_1,hcz21_2,hcz21_3,hcz21_4,hcz21_5,hcz21_6,hcz21_7,hfz21_0,hfz21_1,hfz21_2,hfz21_3,hfz21_4,hfz21_5,hfz21_6,hfz21_7⟩:=cf8 BK300
        go_wp2
        go_meet
        case rel=>exact ⟨_,(true),fg,H',⟨fl⟩,⟨ks BK300⟩,⟨bs HB⟩⟩
       ·rw [if_neg c20] at H;have c20b0:decide (200<(l0_6.length:Int))=false:=decide_eq_false c20;have c20b1:decide (200<l0_6.length)=false:=decide_eq_false (by omega);clear c20;replace H:=Option.bind_eq_some_iff.mp H;obtain ⟨t305,A220,H⟩:=H;replace H:(spec_GateRight.j0 k (!t305) a0_0 a0_1 l0_2 l0_3 l0_4 l0_5 l0_6 l0_7)=some r:=H;have A22:=am A220;clear A220;have H':=am H;clear H;obtain ⟨hcz23_0,hcz23_1,hcz23_2,hcz23_3,hcz23_4,hcz23_5,hcz23_6,hcz23_7,hfz23_0,hfz23_1,hfz23_2,hfz23_3,hfz23_4,hfz23_5,hfz23_6,hfz23_7⟩:=cf8 BK300
        go_wp2_with (first|(go_at_call 57;(with_reducible refine (spec_OutboxRight.calls k _ _ l0_7 t305 _ (Kd.C_below HR0_7.out (bs HB)) HC0_7.out A22.out).mono ?_);rintro e w24 ⟨rfl,hb⟩;replace BK300:=am (blk_below (ks BK300) hb);replace HB:=am (below_step (bs HB) hb);(try clear hb);(try clear hb2);(try clear hk);(try clear hi)))
        go_meet
        case rel=>exact ⟨_,(!t305),fg,H',⟨fl⟩,⟨ks BK300⟩,⟨bs HB⟩⟩
      ·replace c19:=Bool.eq_false_iff.mpr c19;subst c19
       have H1:(spec_GateRight.j0 k true a0_0 a0_1 l0_2 l0_3 l0_4 l0_5 l0_6 l0_7)=some r:=by rw [if_neg (show ¬ (false=true) by decide)] at H;exact H
       clear H;have H:=H1;clear H1;have H':=am H;clear H
       go_wp2
       go_meet
       case rel=>exact ⟨_,(true),fg,H',⟨fl⟩,⟨ks BK300⟩,⟨bs HB⟩⟩
     ·replace c15:=Bool.eq_false_iff.mpr c15;subst c15
      have H1:(spec_GateRight.j0 k true a0_0 a0_1 l0_2 l0_3 l0_4 l0_5 l0_6 l0_7)=some r:=by rw [if_neg (show ¬ (false=true) by decide)] at H;exact H
      clear H;have H:=H1;clear H1;have H':=am H;clear H
      go_wp2
      go_meet
      case rel=>exact ⟨_,(true),fg,H',⟨fl⟩,⟨ks BK300⟩,⟨bs HB⟩⟩
   ·replace c9:=Bool.eq_false_iff.mpr c9;subst c9
    have H1:(spec_GateRight.j0 k true a0_0 a0_1 l0_2 l0_3 l0_4 l0_5 l0_6 l0_7)=some r:=by rw [if_neg (show ¬ (false=true) by decide)] at H;exact H
    clear H;have H:=H1;clear H1;have H':=am H;clear H
    go_wp2
    go_meet
    case rel=>exact ⟨_,(true),fg,H',⟨fl⟩,⟨ks BK300⟩,⟨bs HB⟩⟩
  ·replace c6:=Bool.eq_false_iff.mpr c6;subst c6
   have H1:(spec_GateRight.j0 k true a0_0 a0_1 l0_2 l0_3 l0_4 l0_5 l0_6 l0_7)=some r:=by rw [if_neg (show ¬ (false=true) by decide)] at H;exact H
   clear H;have H:=H1;clear H1;have H':=am H;clear H
   go_wp2
   go_meet
   case rel=>exact ⟨_,(true),fg,H',⟨fl⟩,⟨ks BK300⟩,⟨bs HB⟩⟩
 case rest =>
  clear HC2
  try clear c1
  try clear c2
  try clear p2
  try clear c6
  try clear c9
  try clear c10
  try clear c10b0
  try clear c10b1
  try clear c15
  try clear c19
  try clear c20
  try clear c20b0
  try clear c20b1
  try clear c21
  try clear hcz11_0
  try clear hcz11_1
  try clear hcz11_2
  try clear hcz11_3
  try clear hcz11_4
  try clear hcz11_5
  try clear hcz11_6
  try clear hcz11_7
  try clear hcz13_0
  try clear hcz13_1
  try clear hcz13_2
  try clear hcz13_3
  try clear hcz13_4
  try clear hcz13_5
  try clear hcz13_6
  try clear hcz13_7
  try clear hcz17_0
  try clear hcz17_1
  try clear hcz17_2
  try clear hcz17_3
  try clear hcz17_4
  try clear hcz17_5
  try clear hcz17_6
  try clear hcz17_7
  try clear hcz21_0
  try clear hcz21_1
  try clear hcz21_2
  try clear hcz21_3
  try clear hcz21_4
  try clear hcz21_5
  try clear hcz21_6
  try clear hcz21_7
  try clear hcz23_0
  try clear hcz23_1
  try clear hcz23_2
  try clear hcz23_3
  try clear hcz23_4
  try clear hcz23_5
  try clear hcz23_6
  try clear hcz23_7
  try clear hcz5_0
  try clear hcz5_1
  try clear hcz5_2
  try clear hcz5_3
  try clear hcz5_4
  try clear hcz5_5
  try clear hcz5_6
  try clear hcz5_7
  try clear hcz8_0
  try clear hcz8_1
  try clear hcz8_2
  try clear hcz8_3
  try clear hcz8_4
  try clear hcz8_5
  try clear hcz8_6
  try clear hcz8_7
  try clear hfz11_0
  try clear hfz11_1
  try clear hfz11_2
  try clear hfz11_3
  try clear hfz11_4
  try clear hfz11_5
  try clear hfz11_6
  try clear hfz11_7
  try clear hfz13_0
  try clear hfz13_1
  try clear hfz13_2
  try clear hfz13_3
  try clear hfz13_4
  try clear hfz13_5
  try clear hfz13_6
  try clear hfz13_7
  try clear hfz17_0
  try clear hfz17_1
  try clear hfz17_2
  try clear hfz17_3
  try clear hfz17_4
  try clear hfz17_5
  try clear hfz17_6
  try clear hfz17_7
  try clear hfz21_0
  try clear hfz21_1
  try clear hfz21_2
  try clear hfz21_3
  try clear hfz21_4
  try clear hfz21_5
  try clear hfz21_6
  try clear hfz21_7
  try clear hfz23_0
  try clear hfz23_1
  try clear hfz23_2
  try clear hfz23_3
  try clear hfz23_4
  try clear hfz23_5
  try clear hfz23_6
  try clear hfz23_7
  try clear hfz5_0
  try clear hfz5_1
  try clear hfz5_2
  try clear hfz5_3
  try clear hfz5_4
  try clear hfz5_5
  try clear hfz5_6
  try clear hfz5_7
  try clear hfz8_0
  try clear hfz8_1
  try clear hfz8_2
  try clear hfz8_3
  try clear hfz8_4
  try clear hfz8_5
  try clear hfz8_6
  try clear hfz8_7
  obtain ⟨kq,x43_1,rfl,HA,HJ1,BK300,HB⟩:=hcut
  cases kq with
  | zero=>exact absurd HA.out (by simp [spec_GateRight.j0])
  | succ kj1 =>
   have H:=HA.out;clear HA;simp only [spec_GateRight.j0] at H
   by_cases c25:x43_1=true
   ·subst c25
    have H1:(some false)=some r:=by rw [if_pos rfl] at H;exact H
    clear H;have H:=H1;clear H1;obtain rfl:=Option.some.inj H
    go_wp2
    go_ret
    exact ⟨ff,bs HB⟩
   ·replace c25:=Bool.eq_false_iff.mpr c25;subst c25
    have H1:(spec_GateRight.l0 kj1 0 a0_0 a0_1 l0_2 l0_3 l0_4 l0_5 l0_6 l0_7)=some r:=by rw [if_neg (show ¬ (false=true) by decide)] at H;exact H
    clear H;have H:=H1;clear H1;have H':=am H;clear H
    go_wp2
    go_loopg [3] kj1 (fun kq v3 w'=>∃ (x3_2:Int),v3=.int .i64 x3_2∧Aside0 (spec_GateRight.l0 kq x3_2 a0_0 a0_1 l0_2 l0_3 l0_4 l0_5 l0_6 l0_7=some r)∧Aside0 (kq≤kj1)∧Aside0 (w'.heap[gb300]? = some (.cells #[.string a0_0,.int .i64 a0_1,(.slice A0_2 l0_2.length c0_2),(.slice A0_3 l0_3.length c0_3),(.slice A0_4 l0_4.length c0_4),(.slice A0_5 l0_5.length c0_5),(.slice A0_6 l0_6.length c0_6),(.slice A0_7 l0_7.length c0_7)] 31 (0,0)))∧Aside0 (Below w.heap.size w w'))
    case atStart=>exact ⟨(0),fg,H',⟨Nat.le_refl _⟩,⟨ks BK300⟩,⟨bs HB⟩⟩
    case round =>
     clear H'
     try clear c1
     try clear c2
     try clear p2
     try clear c6
     try clear c9
     try clear c10
     try clear c10b0
     try clear c10b1
     try clear c15
     try clear c19
     try clear c20
     try clear c20b0
     try clear c20b1
     try clear c21
     try clear c25
     try clear hcz11_0
     try clear hcz11_1
     try clear hcz11_2
     try clear hcz11_3
     try clear hcz11_4
     try clear hcz11_5
     try clear hcz11_6
     try clear hcz11_7
     try clear hcz13_0
     try clear hcz13_1
     try clear hcz13_2
     try clear hcz13_3
     try clear hcz13_4
     try clear hcz13_5
     try clear hcz13_6
     try clear hcz13_7
     try clear hcz17_0
     try clear hcz17_1
     try clear hcz17_2
     try clear hcz17_3
     try clear hcz17_4
     try clear hcz17_5
     try clear hcz17_6
     try clear hcz17_7
     try clear hcz21_0
     try clear hcz21_1
     try clear hcz21_2
     try clear hcz21_3
     try clear hcz21_4
     try clear hcz21_5
     try clear hcz21_6
     try clear hcz21_7
     try clear hcz23_0
     try clear hcz23_1
     try clear hcz23_2
     try clear hcz23_3
     try clear hcz23_4
     try clear hcz23_5
     try clear hcz23_6
     try clear hcz23_7
     try clear hcz5_0
     try clear hcz5_1
     try clear hcz5_2
     try clear hcz5_3
     try clear hcz5_4
     try clear hcz5_5
     try clear hcz5_6
     try clear hcz5_7
     try clear hcz8_0
     try clear hcz8_1
     try clear hcz8_2
     try clear hcz8_3
     try clear hcz8_4
     try clear hcz8_5
     try clear hcz8_6
     try clear hcz8_7
     try clear hfz11_0
     try clear hfz11_1
     try clear hfz11_2
     try clear hfz11_3
     try clear hfz11_4
     try clear hfz11_5
     try clear hfz11_6
     try clear hfz11_7
     try clear hfz13_0
     try clear hfz13_1
     try clear hfz13_2
     try clear hfz13_3
     try clear hfz13_4
     try clear hfz13_5
     try clear hfz13_6
     try clear hfz13_7
     try clear hfz17_0
     try clear hfz17_1
     try clear hfz17_2
     try clear hfz17_3
     try clear hfz17_4
     try clear hfz17_5
     try clear hfz17_6
     try clear hfz17_7
     try clear hfz21_0
     try clear hfz21_1
     try clear hfz21_2
     try clear hfz21_3
     try clear hfz21_4
     try clear hfz21_5
     try clear hfz21_6
     try clear hfz21_7
     try clear hfz23_0
     try clear hfz23_1
     try clear hfz23_2
     try clear hfz23_3
     try clear hfz23_4
     try clear hfz23_5
     try clear hfz23_6
     try clear hfz23_7
     try clear hfz5_0
     try clear hfz5_1
     try clear hfz5_2
     try clear hfz5_3
     try clear hfz5_4
     try clear hfz5_5
     try clear hfz5_6
     try clear hfz5_7
     try clear hfz8_0
     try clear hfz8_1
     try clear hfz8_2
     try clear hfz8_3
     try clear hfz8_4
     try clear hfz8_5
     try clear hfz8_6
     try clear hfz8_7
     try clear p2
     obtain ⟨x3_2,rfl,HA,HK2,BK300,HB⟩:=hrel
     cases gk with
     | zero=>exact absurd HA.out (by simp [spec_GateRight.l0])
     | succ k2 =>
      have H:=HA.out;clear HA;simp only [spec_GateRight.l0] at H
      by_cases c26:x3_2<(l0_2.length:Int)
      ·rw [if_pos c26] at H;have c26b0:decide (x3_2<(l0_2.length:Int))=true:=decide_eq_true c26;clear c26
       by_cases c27:0≤x3_2
       ·rw [if_pos c27] at H;have c27b0:decide (0≤x3_2)=true:=decide_eq_true c27;clear c27;replace H:=Option.bind_eq_some_iff.mp H;obtain ⟨t307,A280,H⟩:=H;replace H:(if t307=true then (if x3_2>0 then (if 0≤(wrap64 (x3_2 - 1)) then (if (wrap64 (x3_2 - 1))<(l0_2.length:Int) then (if ((Op.bytesLess (((rd_T92 l0_2 (wrap64 (x3_2 - 1))).f0).toList) (((rd_T92 l0_2 x3_2).f0).toList))=true) then (spec_GateRight.l0 k2 (wrap64 (x3_2+1)) a0_0 a0_1 l0_2 l0_3 l0_4 l0_5 l0_6 l0_7) else (some false)) else (none)) else (none)) else (spec_GateRight.l0 k2 (wrap64 (x3_2+1)) a0_0 a0_1 l0_2 l0_3 l0_4 l0_5 l0_6 l0_7)) else (some false))=some r:=H;have A28:=am A280;clear A280
        by_cases c29:t307=true
        ·subst c29
         have H1:(if x3_2>0 then (if 0≤(wrap64 (x3_2 - 1)) then (if (wrap64 (x3_2 - 1))<(l0_2.length:Int) then (if ((Op.bytesLess (((rd_T92 l0_2 (wrap64 (x3_2 - 1))).f0).toList) (((rd_T92 l0_2 x3_2).f0).toList))=true) then (spec_GateRight.l0 k2 (wrap64 (x3_2+1)) a0_0 a0_1 l0_2 l0_3 l0_4 l0_5 l0_6 l0_7) else (some false)) else (none)) else (none)) else (spec_GateRight.l0 k2 (wrap64 (x3_2+1)) a0_0 a0_1 l0_2 l0_3 l0_4 l0_5 l0_6 l0_7))=some r:=by rw [if_pos rfl] at H;exact H
         clear H;have H:=H1;clear H1
         by_cases c30:x3_2>0
         ·rw [if_pos c30] at H;have c30b0:decide (0<x3_2)=true:=decide_eq_true c30;clear c30;obtain ⟨ji31,hji31⟩:∃ j_:Int,(wrap64 (x3_2 - 1))=j_:=⟨_,rfl⟩
          replace H:(if 0≤(ji31) then (if (ji31)<(l0_2.length:Int) then (if ((Op.bytesLess (((rd_T92 l0_2 (ji31)).f0).toList) (((rd_T92 l0_2 x3_2).f0).toList))=true) then (spec_GateRight.l0 k2 (wrap64 (x3_2+1)) a0_0 a0_1 l0_2 l0_3 l0_4 l0_5 l0_6 l0_7) else (some false)) else (none)) else (none))=some r:=by first|(rw [hji31] at H;exact H)|(simp only [hji31] at H ⊢;exact H)
          (try rw [hji31] at A28)
          have hji31w:(IntKind.i64.wrap (x3_2 - 1))=ji31:=(i64_w _).trans hji31
          by_cases c32:0≤(ji31)
          ·rw [if_pos c32] at H;have c32b0:decide (0≤(ji31))=true:=decide_eq_true c32;clear c32
           by_cases c33:(ji31)<(l0_2.length:Int)
           ·rw [if_pos c33] at H;have c33b0:decide ((ji31)<(l0_2.length:Int))=true:=decide_eq_true c33;clear c33
            by_cases c34:((Op.bytesLess (((rd_T92 l0_2 (ji31)).f0).toList) (((rd_T92 l0_2 x3_2).f0).toList))=true)
            ·rw [if_pos c34] at H;have c34b0:(Op.bytesLess (((rd_T92 l0_2 (ji31)).f0).toList) (((rd_T92 l0_2 x3_2).f0).toList))=true:=c34;clear c34;have H':=am H;clear H;obtain ⟨hcz35_0,hcz35_1,hcz35_2,hcz35_3,hcz35_4,hcz35_5,hcz35_6,hcz35_7,hfz35_0,hfz35_1,hfz35_2,hfz35_3,hfz35_4,hfz35_5,hfz35_6,hfz35_7⟩:=cf8 BK300
             try go_wp2
             replace BK300:=am (blk_drew BK300.out);replace HB:=am (below_drew1 HB.out);have p306:0≤(x3_2:Int):=oa;have q306:x3_2<(l0_2.length:Int):=oa;obtain ⟨ad306,A306_3,c306_3,e306,hx306_0,hx306_1,hx306_2,hx306_3,hl306_3,hi306_3⟩:=at_T92 HR0_2.out x3_2 p306 q306;have hw306_3:=hx306_3;have hw306_2:=hx306_2;have hw306_1:=hx306_1;have hw306_0:=hx306_0
             cases e306
             replace hx306_0:=cb HB hx306_0;replace hx306_1:=cb HB hx306_1;replace hx306_2:=cb HB hx306_2;replace hx306_3:=cb HB hx306_3;have HR306_3:=am hi306_3;have HC306_3:=am hl306_3;clear hi306_3 hl306_3;replace p306:=eq_true p306;replace q306:=eq_true q306;have p308:0≤(x3_2:Int):=oa;have q308:x3_2<(l0_2.length:Int):=oa;obtain ⟨ad308,A308_3,c308_3,e308,hx308_0,hx308_1,hx308_2,hx308_3,hl308_3,hi308_3⟩:=at_T92 HR0_2.out x3_2 p308 q308;have hw308_3:=hx308_3;have hw308_2:=hx308_2;have hw308_1:=hx308_1;have hw308_0:=hx308_0;obtain rfl:ad306=ad308:=(by injection e308);replace hx308_0:=cb HB hx308_0;replace hx308_1:=cb HB hx308_1;replace hx308_2:=cb HB hx308_2;replace hx308_3:=cb HB hx308_3;have HR308_3:=am hi308_3;have HC308_3:=am hl308_3;clear hi308_3 hl308_3;replace p308:=eq_true p308;replace q308:=eq_true q308;have p309:0≤((ji31):Int):=oa;have q309:(ji31)<(l0_2.length:Int):=oa;obtain ⟨ad309,A309_3,c309_3,e309,hx309_0,hx309_1,hx309_2,hx309_3,hl309_3,hi309_3⟩:=at_T92 HR0_2.out (ji31) p309 q309;have hw309_3:=hx309_3;have hw309_2:=hx309_2;have hw309_1:=hx309_1;have hw309_0:=hx309_0;obtain rfl:ad306=ad309:=(by injection e309);replace hx309_0:=cb HB hx309_0;replace hx309_1:=cb HB hx309_1;replace hx309_2:=cb HB hx309_2;replace hx309_3:=cb HB hx309_3;have HR309_3:=am hi309_3;have HC309_3:=am hl309_3;clear hi309_3 hl309_3;replace p309:=eq_true p309;replace q309:=eq_true q309;refine start_ (n:=27) (S:=fun w'=>qk8a w' gb300 (.string a0_0) (.int .i64 a0_1) (.slice (some ad306) l0_2.length c0_2) (.slice A0_3 l0_3.length c0_3) (.slice A0_4 l0_4.length c0_4) (.slice A0_5 l0_5.length c0_5) (.slice A0_6 l0_6.length c0_6) (.slice A0_7 l0_7.length c0_7) (qe4a w' (ad306.add ((x3_2).toNat * 4)) (.string ((rd_T92 l0_2 x3_2).f0)) (.int .i64 ((rd_T92 l0_2 x3_2).f1)) (.int .i64 ((rd_T92 l0_2 x3_2).f2)) (.slice A306_3 ((rd_T92 l0_2 x3_2).f3).length c306_3) (qe4a w' (ad306.add ((x3_2).toNat * 4)) (.string ((rd_T92 l0_2 x3_2).f0)) (.int .i64 ((rd_T92 l0_2 x3_2).f1)) (.int .i64 ((rd_T92 l0_2 x3_2).f2)) (.slice A308_3 ((rd_T92 l0_2 x3_2).f3).length c308_3) (qe4 w' (ad306.add (((ji31)).toNat * 4)) (.string ((rd_T92 l0_2 (ji31)).f0)) (.int .i64 ((rd_T92 l0_2 (ji31)).f1)) (.int .i64 ((rd_T92 l0_2 (ji31)).f2)) (.slice A309_3 ((rd_T92 l0_2 (ji31)).f3).length c309_3))))) (ds:=[]) _ (by kernel_rfl) rfl rfl (qb8a BK300 ⟨((cb HB hw306_0).trans rfl),((cb HB hw306_1).trans rfl),((cb HB hw306_2).trans rfl),((cb HB hw306_3).trans rfl),((cb HB hw308_0).trans rfl),((cb HB hw308_1).trans rfl),((cb HB hw308_2).trans rfl),((cb HB hw308_3).trans rfl),((cb HB hw309_0).trans rfl),((cb HB hw309_1).trans rfl),((cb HB hw309_2).trans rfl),((cb HB hw309_3).trans rfl)⟩) (fun hHeld=>?_);refine with_tabW spec_GateRight.tab6 spec_GateRight.bits6 (fun HT_ HW_=>?_)
             generalize wr.drew=w36 at BK300 HB HR306_3 HR308_3 HR309_3 hx306_0 hx306_1 hx306_2 hx306_3 hx308_0 hx308_1 hx308_2 hx308_3 hx309_0 hx309_1 hx309_2 hx309_3 hHeld ⊢
             refine pA 0 51 HT_ ?_;refine pA 2 53 HT_ ?_;refine tA 1 52 HT_ HW_ hHeld ?_;refine pA 3 54 HT_ ?_;refine tA 4 55 HT_ HW_ hHeld ?_;refine oA 5 56 HT_ (fun K hK=>?_);refine gA Try.func58 #[.agg #[.string ((rd_T92 l0_2 x3_2).f0),.int .i64 ((rd_T92 l0_2 x3_2).f1),.int .i64 ((rd_T92 l0_2 x3_2).f2),.slice A306_3 ((rd_T92 l0_2 x3_2).f3).length c306_3]] ?_;(with_reducible refine (spec_PartnerRight.calls k2 ((rd_T92 l0_2 x3_2).f0) ((rd_T92 l0_2 x3_2).f1) ((rd_T92 l0_2 x3_2).f2) _ _ ((rd_T92 l0_2 x3_2).f3) true _ ?side1 ?side2 A28.out).mono ?_)
             (case side1=>repeat (first|exact (Kd.C_below HR306_3.out HB.out)|(with_reducible refine Kd.C_alloc ?_ _)|(with_reducible refine Kd.C_drewN ?_ _)|(with_reducible refine Kd.C_drew ?_)))
             (case side2=>exact HC306_3.out)
             rintro e w37 ⟨rfl,hb⟩;refine ⟨_,rfl,?_⟩;replace BK300:=am (blk_below (ks BK300) hb);replace HB:=am (below_step (bs HB) hb);(try clear hb);(try clear hb2);(try clear hk);(try clear hi);refine hK.out _ _ (qb8a BK300 ⟨((cb HB hw306_0).trans rfl),((cb HB hw306_1).trans rfl),((cb HB hw306_2).trans rfl),((cb HB hw306_3).trans rfl),((cb HB hw308_0).trans rfl),((cb HB hw308_1).trans rfl),((cb HB hw308_2).trans rfl),((cb HB hw308_3).trans rfl),((cb HB hw309_0).trans rfl),((cb HB hw309_1).trans rfl),((cb HB hw309_2).trans rfl),((cb HB hw309_3).trans rfl)⟩) (fun hHeld=>?_);clear hK K;refine nA 56 ?_;refine pA 6 57 HT_ ?_;refine pA 7 58 HT_ ?_;refine pA 8 59 HT_ ?_;refine pA 9 60 HT_ ?_;refine pA 10 61 HT_ ?_;refine pA 11 62 HT_ ?_;refine pA 13 64 HT_ ?_;refine pA 17 68 HT_ ?_;refine pA 19 70 HT_ ?_;refine pA 20 71 HT_ ?_;refine tA 12 63 HT_ HW_ hHeld ?_;refine pA 14 65 HT_ ?_;refine pA 15 66 HT_ ?_;refine tA 16 67 HT_ HW_ hHeld ?_;refine tA 18 69 HT_ HW_ hHeld ?_;refine pA 21 72 HT_ ?_;refine pA 22 73 HT_ ?_;refine tA 23 74 HT_ HW_ hHeld ?_;refine pA 24 75 HT_ ?_;refine pA 25 76 HT_ ?_;refine pA 26 77 HT_ ?_;refine done_ (done_of HT_.out (by kernel_rfl)) ?_
             try go_wp2
             go_roundg k2
             case measure=>have:=HJ1.out;have:=HK2.out;omega
             case rel=>exact ⟨(wrap64 (x3_2+1)),fg,H',⟨by have:=HJ1.out;have:=HK2.out;omega⟩,⟨ks BK300⟩,⟨bs HB⟩⟩
            ·rw [if_neg c34] at H
             have c34b0:(Op.bytesLess (((rd_T92 l0_2 (ji31)).f0).toList) (((rd_T92 l0_2 x3_2).f0).toList))=false:=by simpa using c34
             clear c34;obtain rfl:=Option.some.inj H;obtain ⟨hcz38_0,hcz38_1,hcz38_2,hcz38_3,hcz38_4,hcz38_5,hcz38_6,hcz38_7,hfz38_0,hfz38_1,hfz38_2,hfz38_3,hfz38_4,hfz38_5,hfz38_6,hfz38_7⟩:=cf8 BK300
             try go_wp2
             replace BK300:=am (blk_drew BK300.out);replace HB:=am (below_drew1 HB.out);have p306:0≤(x3_2:Int):=oa;have q306:x3_2<(l0_2.length:Int):=oa;obtain ⟨ad306,A306_3,c306_3,e306,hx306_0,hx306_1,hx306_2,hx306_3,hl306_3,hi306_3⟩:=at_T92 HR0_2.out x3_2 p306 q306;have hw306_3:=hx306_3;have hw306_2:=hx306_2;have hw306_1:=hx306_1;have hw306_0:=hx306_0
             cases e306
             replace hx306_0:=cb HB hx306_0;replace hx306_1:=cb HB hx306_1;replace hx306_2:=cb HB hx306_2;replace hx306_3:=cb HB hx306_3;have HR306_3:=am hi306_3;have HC306_3:=am hl306_3;clear hi306_3 hl306_3;replace p306:=eq_true p306;replace q306:=eq_true q306;have p308:0≤(x3_2:Int):=oa;have q308:x3_2<(l0_2.length:Int):=oa;obtain ⟨ad308,A308_3,c308_3,e308,hx308_0,hx308_1,hx308_2,hx308_3,hl308_3,hi308_3⟩:=at_T92 HR0_2.out x3_2 p308 q308;have hw308_3:=hx308_3;have hw308_2:=hx308_2;have hw308_1:=hx308_1;have hw308_0:=hx308_0;obtain rfl:ad306=ad308:=(by injection e308);replace hx308_0:=cb HB hx308_0;replace hx308_1:=cb HB hx308_1;replace hx308_2:=cb HB hx308_2;replace hx308_3:=cb HB hx308_3;have HR308_3:=am hi308_3;have HC308_3:=am hl308_3;clear hi308_3 hl308_3;replace p308:=eq_true p308;replace q308:=eq_true q308;have p309:0≤((ji31):Int):=oa;have q309:(ji31)<(l0_2.length:Int):=oa;obtain ⟨ad309,A309_3,c309_3,e309,hx309_0,hx309_1,hx309_2,hx309_3,hl309_3,hi309_3⟩:=at_T92 HR0_2.out (ji31) p309 q309;have hw309_3:=hx309_3;have hw309_2:=hx309_2;have hw309_1:=hx309_1;have hw309_0:=hx309_0;obtain rfl:ad306=ad309:=(by injection e309);replace hx309_0:=cb HB hx309_0;replace hx309_1:=cb HB hx309_1;replace hx309_2:=cb HB hx309_2;replace hx309_3:=cb HB hx309_3;have HR309_3:=am hi309_3;have HC309_3:=am hl309_3;clear hi309_3 hl309_3;replace p309:=eq_true p309;replace q309:=eq_true q309;refine start_ (n:=27) (S:=fun w'=>qk8a w' gb300 (.string a0_0) (.int .i64 a0_1) (.slice (some ad306) l0_2.length c0_2) (.slice A0_3 l0_3.length c0_3) (.slice A0_4 l0_4.length c0_4) (.slice A0_5 l0_5.length c0_5) (.slice A0_6 l0_6.length c0_6) (.slice A0_7 l0_7.length c0_7) (qe4a w' (ad306.add ((x3_2).toNat * 4)) (.string ((rd_T92 l0_2 x3_2).f0)) (.int .i64 ((rd_T92 l0_2 x3_2).f1)) (.int .i64 ((rd_T92 l0_2 x3_2).f2)) (.slice A306_3 ((rd_T92 l0_2 x3_2).f3).length c306_3) (qe4a w' (ad306.add ((x3_2).toNat * 4)) (.string ((rd_T92 l0_2 x3_2).f0)) (.int .i64 ((rd_T92 l0_2 x3_2).f1)) (.int .i64 ((rd_T92 l0_2 x3_2).f2)) (.slice A308_3 ((rd_T92 l0_2 x3_2).f3).length c308_3) (qe4 w' (ad306.add (((ji31)).toNat * 4)) (.string ((rd_T92 l0_2 (ji31)).f0)) (.int .i64 ((rd_T92 l0_2 (ji31)).f1)) (.int .i64 ((rd_T92 l0_2 (ji31)).f2)) (.slice A309_3 ((rd_T92 l0_2 (ji31)).f3).length c309_3))))) (ds:=[]) _ (by kernel_rfl) rfl rfl (qb8a BK300 ⟨((cb HB hw306_0).trans rfl),((cb HB hw306_1).trans rfl),((cb HB hw306_2).trans rfl),((cb HB hw306_3).trans rfl),((cb HB hw308_0).trans rfl),((cb HB hw308_1).trans rfl),((cb HB hw308_2).trans rfl),((cb HB hw308_3).trans rfl),((cb HB hw309_0).trans rfl),((cb HB hw309_1).trans rfl),((cb HB hw309_2).trans rfl),((cb HB hw309_3).trans rfl)⟩) (fun hHeld=>?_);refine with_tabW spec_GateRight.tab6 spec_GateRight.bits6 (fun HT_ HW_=>?_)
             generalize wr.drew=w39 at BK300 HB HR306_3 HR308_3 HR309_3 hx306_0 hx306_1 hx306_2 hx306_3 hx308_0 hx308_1 hx308_2 hx308_3 hx309_0 hx309_1 hx309_2 hx309_3 hHeld ⊢
             refine pA 0 51 HT_ ?_;refine pA 2 53 HT_ ?_;refine tA 1 52 HT_ HW_ hHeld ?_;refine pA 3 54 HT_ ?_;refine tA 4 55 HT_ HW_ hHeld ?_;refine oA 5 56 HT_ (fun K hK=>?_);refine gA Try.func58 #[.agg #[.string ((rd_T92 l0_2 x3_2).f0),.int .i64 ((rd_T92 l0_2 x3_2).f1),.int .i64 ((rd_T92 l0_2 x3_2).f2),.slice A306_3 ((rd_T92 l0_2 x3_2).f3).length c306_3]] ?_;(with_reducible refine (spec_PartnerRight.calls k2 ((rd_T92 l0_2 x3_2).f0) ((rd_T92 l0_2 x3_2).f1) ((rd_T92 l0_2 x3_2).f2) _ _ ((rd_T92 l0_2 x3_2).f3) true _ ?side1 ?side2 A28.out).mono ?_)
             (case side1=>repeat (first|exact (Kd.C_below HR306_3.out HB.out)|(with_reducible refine Kd.C_alloc ?_ _)|(with_reducible refine Kd.C_drewN ?_ _)|(with_reducible refine Kd.C_drew ?_)))
             (case side2=>exact HC306_3.out)
             rintro e w40 ⟨rfl,hb⟩;refine ⟨_,rfl,?_⟩;replace BK300:=am (blk_below (ks BK300) hb);replace HB:=am (below_step (bs HB) hb);(try clear hb);(try clear hb2);(try clear hk);(try clear hi);refine hK.out _ _ (qb8a BK300 ⟨((cb HB hw306_0).trans rfl),((cb HB hw306_1).trans rfl),((cb HB hw306_2).trans rfl),((cb HB hw306_3).trans rfl),((cb HB hw308_0).trans rfl),((cb HB hw308_1).trans rfl),((cb HB hw308_2).trans rfl),((cb HB hw308_3).trans rfl),((cb HB hw309_0).trans rfl),((cb HB hw309_1).trans rfl),((cb HB hw309_2).trans rfl),((cb HB hw309_3).trans rfl)⟩) (fun hHeld=>?_);clear hK K;refine nA 56 ?_;refine pA 6 57 HT_ ?_;refine pA 7 58 HT_ ?_;refine pA 8 59 HT_ ?_;refine pA 9 60 HT_ ?_;refine pA 10 61 HT_ ?_;refine pA 11 62 HT_ ?_;refine pA 13 64 HT_ ?_;refine pA 17 68 HT_ ?_;refine pA 19 70 HT_ ?_;refine pA 20 71 HT_ ?_;refine tA 12 63 HT_ HW_ hHeld ?_;refine pA 14 65 HT_ ?_;refine pA 15 66 HT_ ?_;refine tA 16 67 HT_ HW_ hHeld ?_;refine tA 18 69 HT_ HW_ hHeld ?_;refine pA 21 72 HT_ ?_;refine pA 22 73 HT_ ?_;refine tA 23 74 HT_ HW_ hHeld ?_;refine pA 24 75 HT_ ?_;refine pA 25 76 HT_ ?_;refine pA 26 77 HT_ ?_;refine done_ (done_of HT_.out (by kernel_rfl)) ?_
             try go_wp2
             go_ret
             exact ⟨by first|rfl|(simp [errW_none,errW_some] <;> rfl)|(simp only [← hji31];first|rfl|(simp [errW_none,errW_some] <;> rfl))|(simp [*,errW_none,errW_some] <;> rfl),bs HB⟩
           ·rw [if_neg c33] at H
            exact absurd H (by simp)
          ·rw [if_neg c32] at H
           exact absurd H (by simp)
         ·rw [if_neg c30] at H;have c30b0:decide (0<x3_2)=false:=decide_eq_false c30;clear c30;have H':=am H;clear H;obtain ⟨hcz41_0,hcz41_1,hcz41_2,hcz41_3,hcz41_4,hcz41_5,hcz41_6,hcz41_7,hfz41_0,hfz41_1,hfz41_2,hfz41_3,hfz41_4,hfz41_5,hfz41_6,hfz41_7⟩:=cf8 BK300
          try go_wp2
          replace BK300:=am (blk_drew BK300.out);replace HB:=am (below_drew1 HB.out);have p306:0≤(x3_2:Int):=oa;have q306:x3_2<(l0_2.length:Int):=oa;obtain ⟨ad306,A306_3,c306_3,e306,hx306_0,hx306_1,hx306_2,hx306_3,hl306_3,hi306_3⟩:=at_T92 HR0_2.out x3_2 p306 q306;have hw306_3:=hx306_3;have hw306_2:=hx306_2;have hw306_1:=hx306_1;have hw306_0:=hx306_0
          cases e306
          replace hx306_0:=cb HB hx306_0;replace hx306_1:=cb HB hx306_1;replace hx306_2:=cb HB hx306_2;replace hx306_3:=cb HB hx306_3;have HR306_3:=am hi306_3;have HC306_3:=am hl306_3;clear hi306_3 hl306_3;replace p306:=eq_true p306;replace q306:=eq_true q306;refine start_ (n:=27) (S:=fun w'=>qk8a w' gb300 (.string a0_0) (.int .i64 a0_1) (.slice (some ad306) l0_2.length c0_2) (.slice A0_3 l0_3.length c0_3) (.slice A0_4 l0_4.length c0_4) (.slice A0_5 l0_5.length c0_5) (.slice A0_6 l0_6.length c0_6) (.slice A0_7 l0_7.length c0_7) (qe4 w' (ad306.add ((x3_2).toNat * 4)) (.string ((rd_T92 l0_2 x3_2).f0)) (.int .i64 ((rd_T92 l0_2 x3_2).f1)) (.int .i64 ((rd_T92 l0_2 x3_2).f2)) (.slice A306_3 ((rd_T92 l0_2 x3_2).f3).length c306_3))) (ds:=[]) _ (by kernel_rfl) rfl rfl (qb8a BK300 ⟨((cb HB hw306_0).trans rfl),((cb HB hw306_1).trans rfl),((cb HB hw306_2).trans rfl),((cb HB hw306_3).trans rfl)⟩) (fun hHeld=>?_);refine with_tabW spec_GateRight.tab6 spec_GateRight.bits6 (fun HT_ HW_=>?_)
          generalize wr.drew=w42 at BK300 HB HR306_3 hx306_0 hx306_1 hx306_2 hx306_3 hHeld ⊢
          refine pA 0 51 HT_ ?_;refine pA 2 53 HT_ ?_;refine tA 1 52 HT_ HW_ hHeld ?_;refine pA 3 54 HT_ ?_;refine tA 4 55 HT_ HW_ hHeld ?_;refine oA 5 56 HT_ (fun K hK=>?_);refine gA Try.func58 #[.agg #[.string ((rd_T92 l0_2 x3_2).f0),.int .i64 ((rd_T92 l0_2 x3_2).f1),.int .i64 ((rd_T92 l0_2 x3_2).f2),.slice A306_3 ((rd_T92 l0_2 x3_2).f3).length c306_3]] ?_;(with_reducible refine (spec_PartnerRight.calls k2 ((rd_T92 l0_2 x3_2).f0) ((rd_T92 l0_2 x3_2).f1) ((rd_T92 l0_2 x3_2).f2) _ _ ((rd_T92 l0_2 x3_2).f3) true _ ?side1 ?side2 A28.out).mono ?_)
          (case side1=>repeat (first|exact (Kd.C_below HR306_3.out HB.out)|(with_reducible refine Kd.C_alloc ?_ _)|(with_reducible refine Kd.C_drewN ?_ _)|(with_reducible refine Kd.C_drew ?_)))
          (case side2=>exact HC306_3.out)
          rintro e w43 ⟨rfl,hb⟩;refine ⟨_,rfl,?_⟩;replace BK300:=am (blk_below (ks BK300) hb);replace HB:=am (below_step (bs HB) hb);(try clear hb);(try clear hb2);(try clear hk);(try clear hi);refine hK.out _ _ (qb8a BK300 ⟨((cb HB hw306_0).trans rfl),((cb HB hw306_1).trans rfl),((cb HB hw306_2).trans rfl),((cb HB hw306_3).trans rfl)⟩) (fun hHeld=>?_);clear hK K;refine nA 56 ?_;refine pA 6 57 HT_ ?_;refine pA 7 58 HT_ ?_;refine pA 8 59 HT_ ?_;refine pA 9 60 HT_ ?_;refine pA 10 61 HT_ ?_;refine pB 11 62 HT_ ?_;refine pB 12 63 HT_ ?_;refine pB 13 64 HT_ ?_;refine pB 14 65 HT_ ?_;refine pB 15 66 HT_ ?_;refine pB 16 67 HT_ ?_;refine pB 17 68 HT_ ?_;refine pB 18 69 HT_ ?_;refine pB 19 70 HT_ ?_;refine pB 20 71 HT_ ?_;refine pB 21 72 HT_ ?_;refine pB 22 73 HT_ ?_;refine pB 23 74 HT_ ?_;refine pB 24 75 HT_ ?_;refine pA 25 76 HT_ ?_;refine pA 26 77 HT_ ?_;refine done_ (done_of HT_.out (by kernel_rfl)) ?_
          try go_wp2
          go_roundg k2
          case measure=>have:=HJ1.out;have:=HK2.out;omega
          case rel=>exact ⟨(wrap64 (x3_2+1)),fg,H',⟨by have:=HJ1.out;have:=HK2.out;omega⟩,⟨ks BK300⟩,⟨bs HB⟩⟩
        ·replace c29:=Bool.eq_false_iff.mpr c29;subst c29
         have H1:(some false)=some r:=by rw [if_neg (show ¬ (false=true) by decide)] at H;exact H
         clear H;have H:=H1;clear H1;obtain rfl:=Option.some.inj H;obtain ⟨hcz44_0,hcz44_1,hcz44_2,hcz44_3,hcz44_4,hcz44_5,hcz44_6,hcz44_7,hfz44_0,hfz44_1,hfz44_2,hfz44_3,hfz44_4,hfz44_5,hfz44_6,hfz44_7⟩:=cf8 BK300
         try go_wp2
         replace BK300:=am (blk_drew BK300.out);replace HB:=am (below_drew1 HB.out);have p306:0≤(x3_2:Int):=oa;have q306:x3_2<(l0_2.length:Int):=oa;obtain ⟨ad306,A306_3,c306_3,e306,hx306_0,hx306_1,hx306_2,hx306_3,hl306_3,hi306_3⟩:=at_T92 HR0_2.out x3_2 p306 q306;have hw306_3:=hx306_3;have hw306_2:=hx306_2;have hw306_1:=hx306_1;have hw306_0:=hx306_0
         cases e306
         replace hx306_0:=cb HB hx306_0;replace hx306_1:=cb HB hx306_1;replace hx306_2:=cb HB hx306_2;replace hx306_3:=cb HB hx306_3;have HR306_3:=am hi306_3;have HC306_3:=am hl306_3;clear hi306_3 hl306_3;replace p306:=eq_true p306;replace q306:=eq_true q306;refine start_ (n:=27) (S:=fun w'=>qk8a w' gb300 (.string a0_0) (.int .i64 a0_1) (.slice (some ad306) l0_2.length c0_2) (.slice A0_3 l0_3.length c0_3) (.slice A0_4 l0_4.length c0_4) (.slice A0_5 l0_5.length c0_5) (.slice A0_6 l0_6.length c0_6) (.slice A0_7 l0_7.length c0_7) (qe4 w' (ad306.add ((x3_2).toNat * 4)) (.string ((rd_T92 l0_2 x3_2).f0)) (.int .i64 ((rd_T92 l0_2 x3_2).f1)) (.int .i64 ((rd_T92 l0_2 x3_2).f2)) (.slice A306_3 ((rd_T92 l0_2 x3_2).f3).length c306_3))) (ds:=[]) _ (by kernel_rfl) rfl rfl (qb8a BK300 ⟨((cb HB hw306_0).trans rfl),((cb HB hw306_1).trans rfl),((cb HB hw306_2).trans rfl),((cb HB hw306_3).trans rfl)⟩) (fun hHeld=>?_);refine with_tabW spec_GateRight.tab6 spec_GateRight.bits6 (fun HT_ HW_=>?_)
         generalize wr.drew=w45 at BK300 HB HR306_3 hx306_0 hx306_1 hx306_2 hx306_3 hHeld ⊢
         refine pA 0 51 HT_ ?_;refine pA 2 53 HT_ ?_;refine tA 1 52 HT_ HW_ hHeld ?_;refine pA 3 54 HT_ ?_;refine tA 4 55 HT_ HW_ hHeld ?_;refine oA 5 56 HT_ (fun K hK=>?_);refine gA Try.func58 #[.agg #[.string ((rd_T92 l0_2 x3_2).f0),.int .i64 ((rd_T92 l0_2 x3_2).f1),.int .i64 ((rd_T92 l0_2 x3_2).f2),.slice A306_3 ((rd_T92 l0_2 x3_2).f3).length c306_3]] ?_;(with_reducible refine (spec_PartnerRight.calls k2 ((rd_T92 l0_2 x3_2).f0) ((rd_T92 l0_2 x3_2).f1) ((rd_T92 l0_2 x3_2).f2) _ _ ((rd_T92 l0_2 x3_2).f3) false _ ?side1 ?side2 A28.out).mono ?_)
         (case side1=>repeat (first|exact (Kd.C_below HR306_3.out HB.out)|(with_reducible refine Kd.C_alloc ?_ _)|(with_reducible refine Kd.C_drewN ?_ _)|(with_reducible refine Kd.C_drew ?_)))
         (case side2=>exact HC306_3.out)
         rintro e w46 ⟨rfl,hb⟩;refine ⟨_,rfl,?_⟩;replace BK300:=am (blk_below (ks BK300) hb);replace HB:=am (below_step (bs HB) hb);(try clear hb);(try clear hb2);(try clear hk);(try clear hi);refine hK.out _ _ (qb8a BK300 ⟨((cb HB hw306_0).trans rfl),((cb HB hw306_1).trans rfl),((cb HB hw306_2).trans rfl),((cb HB hw306_3).trans rfl)⟩) (fun hHeld=>?_);clear hK K;refine nA 56 ?_;refine pA 6 57 HT_ ?_;refine pA 7 58 HT_ ?_;refine pB 8 59 HT_ ?_;refine pB 9 60 HT_ ?_;refine pB 10 61 HT_ ?_;refine pB 11 62 HT_ ?_;refine pB 12 63 HT_ ?_;refine pB 13 64 HT_ ?_;refine pB 14 65 HT_ ?_;refine pB 15 66 HT_ ?_;refine pB 16 67 HT_ ?_;refine pB 17 68 HT_ ?_;refine pB 18 69 HT_ ?_;refine pB 19 70 HT_ ?_;refine pB 20 71 HT_ ?_;refine pB 21 72 HT_ ?_;refine pB 22 73 HT_ ?_;refine pB 23 74 HT_ ?_;refine pB 24 75 HT_ ?_;refine pB 25 76 HT_ ?_;refine pA 26 77 HT_ ?_;refine done_ (done_of HT_.out (by kernel_rfl)) ?_
         try go_wp2
         go_ret
         exact ⟨ff,bs HB⟩
       ·rw [if_neg c27] at H
        exact absurd H (by simp)
      ·rw [if_neg c26] at H;have c26b0:decide (x3_2<(l0_2.length:Int))=false:=decide_eq_false c26;clear c26;obtain rfl:=Option.some.inj H;obtain ⟨hcz47_0,hcz47_1,hcz47_2,hcz47_3,hcz47_4,hcz47_5,hcz47_6,hcz47_7,hfz47_0,hfz47_1,hfz47_2,hfz47_3,hfz47_4,hfz47_5,hfz47_6,hfz47_7⟩:=cf8 BK300
       go_wp2
       go_ret
       exact ⟨ff,bs HB⟩
end Go.Proofs.Ytjjfjgdhloideaa.QI
namespace Go.Proofs.Ytjjfjgdhloideaa.QI
open Go.RowKit Go.Proofs.YtjjfjgdhloideaaW.PrintWords Go.Proofs.YtjjfjgdhloideaaW.PrintLast Go.Proofs.YtjjfjgdhloideaaW.PrintMore
attribute [local go_sem] max2_int min2_int max_two min_two max_three min_three max_four min_four   -- for this text's walks alone
set_option linter.unusedVariables false
set_option linter.unusedSimpArgs false
set_option maxHeartbeats 8000000 in
set_option maxRecDepth 100000 in
theorem impl_isGreat.calls (a0:Int) (r:Bool) (w:World) (h:impl_isGreat.f a0=some r) :
  Calls Try.prog 67 #[.int .u8 a0] w fun e w'=>e=.returned (.bool r)∧Drawn0 w w':=by
 have H:(if a0≥65 then (some (decide (a0≤90))) else (some false))=some r:=h;clear h
 by_cases c2:a0≥65
 ·rw [if_pos c2] at H;have c2b0:decide (65≤a0)=true:=decide_eq_true c2;clear c2;obtain rfl:=Option.some.inj H
  go_enter Try.func67,Try.ntmps67
  go_wp2
  go_ret
  exact ⟨fg,by repeat (first|exact Drawn0.refl _|apply Drawn0.step)⟩
 ·rw [if_neg c2] at H;have c2b0:decide (65≤a0)=false:=decide_eq_false c2;clear c2;obtain rfl:=Option.some.inj H
  go_enter Try.func67,Try.ntmps67
  go_wp2
  go_ret
  exact ⟨fg,by repeat (first|exact Drawn0.refl _|apply Drawn0.step)⟩
set_option maxHeartbeats 8000000 in
set_option maxRecDepth 100000 in
theorem impl_isDigit.calls (a0:Int) (r:Bool) (w:World) (h:impl_isDigit.f a0=some r) :
  Calls Try.prog 68 #[.int .u8 a0] w fun e w'=>e=.returned (.bool r)∧Drawn0 w w':=by
 have H:(if a0≥48 then (some (decide (a0≤57))) else (some false))=some r:=h;clear h
 by_cases c2:a0≥48
 ·rw [if_pos c2] at H;have c2b0:decide (48≤a0)=true:=decide_eq_true c2;clear c2;obtain rfl:=Option.some.inj H
  go_enter Try.func68,Try.ntmps68
  go_wp2
  go_ret
  exact ⟨fg,by repeat (first|exact Drawn0.refl _|apply Drawn0.step)⟩
 ·rw [if_neg c2] at H;have c2b0:decide (48≤a0)=false:=decide_eq_false c2;clear c2;obtain rfl:=Option.some.inj H
  go_enter Try.func68,Try.ntmps68
  go_wp2
  go_ret
  exact ⟨fg,by repeat (first|exact Drawn0.refl _|apply Drawn0.step)⟩
set_option maxHeartbeats 8000000 in
set_option maxRecDepth 100000 in
theorem impl_within.calls (a0:Int) (a1:Int) (a2:Int) (r:Bool) (w:World) (h:impl_within.f a0 a1 a2=some r) :
  Calls Try.prog 69 #[.int .i64 a0,.int .i64 a1,.int .i64 a2] w fun e w'=>e=.returned (.bool r)∧Drawn0 w w':=by
 have H:(if a1≤a0 then (some (decide (a0≤a2))) else (some false))=some r:=h;clear h
 by_cases c4:a1≤a0
 ·rw [if_pos c4] at H;have c4b0:decide (a1≤a0)=true:=decide_eq_true c4;clear c4;obtain rfl:=Option.some.inj H
  go_enter Try.func69,Try.ntmps69
  go_wp2
  go_ret
  exact ⟨fg,by repeat (first|exact Drawn0.refl _|apply Drawn0.step)⟩
 ·rw [if_neg c4] at H;have c4b0:decide (a1≤a0)=false:=decide_eq_false c4;clear c4;obtain rfl:=Option.some.inj H
  go_enter Try.func69,Try.ntmps69
  go_wp2
  go_ret
  exact ⟨fg,by repeat (first|exact Drawn0.refl _|apply Drawn0.step)⟩
set_option maxHeartbeats 8000000 in
set_option maxRecDepth 100000 in
theorem impl_isName.calls (k:Nat) (a0:ByteArray) (r:Bool) (w:World) (h:impl_isName.f k a0=some r) :
  Calls Try.prog 25 #[.string a0] w fun e w'=>e=.returned (.bool r)∧Drawn0 w w':=by
 have H:(impl_isName.l0 k a0 (a0.size:Int) 0)=some r:=h;clear h;have H':=am H;clear H
 go_enter Try.func25,Try.ntmps25
 go_wp2
 go_loopg [6] k (fun kq v6 w'=>∃ (x6_1:Int),v6=.int .i64 x6_1∧Aside0 (impl_isName.l0 kq a0 (a0.size:Int) x6_1=some r)∧Aside0 (kq≤k)∧Drawn0 w w')
 case atStart=>exact ⟨(0),fg,H',⟨Nat.le_refl _⟩,by repeat (first|exact Drawn0.refl _|apply Drawn0.step)⟩
 case round =>
  clear H';obtain ⟨x6_1,rfl,HA,HK1,⟨m1,rfl⟩⟩:=hrel
  cases gk with
  | zero=>exact absurd HA.out (by simp [impl_isName.l0])
  | succ k1 =>
   have H:=HA.out;clear HA;simp only [impl_isName.l0] at H
   by_cases c2:x6_1<(a0.size:Int)
   ·rw [if_pos c2] at H;have c2b0:decide (x6_1<(a0.size:Int))=true:=decide_eq_true c2;clear c2
    by_cases c3:0≤x6_1
    ·rw [if_pos c3] at H;have c3b0:decide (0≤x6_1)=true:=decide_eq_true c3;clear c3
     by_cases c4:x6_1<(a0.size:Int)
     ·rw [if_pos c4] at H;have c4b0:decide (x6_1<(a0.size:Int))=true:=decide_eq_true c4;clear c4;replace H:=Option.bind_eq_some_iff.mp H;obtain ⟨t311,A60,H⟩:=H;replace H:(if t311=true then (impl_isName.l0 k1 a0 (a0.size:Int) (wrap64 (x6_1+1))) else (if x6_1=0 then (some false) else ((impl_isDigit.f (bt a0 x6_1)).bind fun t312=>(if t312=true then (impl_isName.l0 k1 a0 (a0.size:Int) (wrap64 (x6_1+1))) else (if (bt a0 x6_1)=45 then (impl_isName.l0 k1 a0 (a0.size:Int) (wrap64 (x6_1+1))) else (some false))))))=some r:=H;have A6:=am A60;clear A60;have p5:0≤(x6_1:Int):=oa;have q5:x6_1<(a0.size:Int):=oa;have hx5:=bt_at a0 x6_1;replace p5:=eq_true p5;replace q5:=eq_true q5
      try go_wp2_with (fail)
      go_at_call 67;(with_reducible refine (impl_isGreat.calls (bt a0 x6_1) t311 _ A6.out).mono ?_);rintro e w' ⟨rfl,⟨nd,rfl⟩⟩
      by_cases c7:t311=true
      ·subst c7
       have H1:(impl_isName.l0 k1 a0 (a0.size:Int) (wrap64 (x6_1+1)))=some r:=by rw [if_pos rfl] at H;exact H
       clear H;have H:=H1;clear H1;have H':=am H;clear H
       go_wp2
       go_roundg k1
       case measure=>have:=HK1.out;omega
       case rel=>exact ⟨(wrap64 (x6_1+1)),fg,H',⟨by have:=HK1.out;omega⟩,by repeat (first|exact Drawn0.refl _|apply Drawn0.step)⟩
      ·replace c7:=Bool.eq_false_iff.mpr c7;subst c7
       have H1:(if x6_1=0 then (some false) else ((impl_isDigit.f (bt a0 x6_1)).bind fun t312=>(if t312=true then (impl_isName.l0 k1 a0 (a0.size:Int) (wrap64 (x6_1+1))) else (if (bt a0 x6_1)=45 then (impl_isName.l0 k1 a0 (a0.size:Int) (wrap64 (x6_1+1))) else (some false)))))=some r:=by rw [if_neg (show ¬ (false=true) by decide)] at H;exact H
       clear H;have H:=H1;clear H1
       by_cases c8:x6_1=0
       ·rw [if_pos c8] at H;have c8b0:(x6_1 == 0)=true:=beq_iff_eq.mpr c8;have c8b1:(x6_1 != 0)=false:=bne_eq_false_iff_eq.mpr c8;clear c8;obtain rfl:=Option.some.inj H
        go_wp2
        go_ret
        exact ⟨fg,by repeat (first|exact Drawn0.refl _|apply Drawn0.step)⟩
       ·rw [if_neg c8] at H;have c8b0:(x6_1 == 0)=false:=beq_eq_false_iff_ne.mpr c8;have c8b1:(x6_1 != 0)=true:=bne_iff_ne.mpr c8;replace H:=Option.bind_eq_some_iff.mp H;obtain ⟨t312,A100,H⟩:=H;replace H:(if t312=true then (impl_isName.l0 k1 a0 (a0.size:Int) (wrap64 (x6_1+1))) else (if (bt a0 x6_1)=45 then (impl_isName.l0 k1 a0 (a0.size:Int) (wrap64 (x6_1+1))) else (some false)))=some r:=H;have A10:=am A100;clear A100;have p9:0≤(x6_1:Int):=oa;have q9:x6_1<(a0.size:Int):=oa;have hx9:=bt_at a0 x6_1;replace p9:=eq_true p9;replace q9:=eq_true q9
        try go_wp2_with (fail)
        go_at_call 68;(with_reducible refine (impl_isDigit.calls (bt a0 x6_1) t312 _ A10.out).mono ?_);rintro e w' ⟨rfl,⟨nd,rfl⟩⟩
        by_cases c11:t312=true
        ·subst c11
         have H1:(impl_isName.l0 k1 a0 (a0.size:Int) (wrap64 (x6_1+1)))=some r:=by rw [if_pos rfl] at H;exact H
         clear H;have H:=H1;clear H1;have H':=am H;clear H
         go_wp2
         go_roundg k1
         case measure=>have:=HK1.out;omega
         case rel=>exact ⟨(wrap64 (x6_1+1)),fg,H',⟨by have:=HK1.out;omega⟩,by repeat (first|exact Drawn0.refl _|apply Drawn0.step)⟩
        ·replace c11:=Bool.eq_false_iff.mpr c11;subst c11
         have H1:(if (bt a0 x6_1)=45 then (impl_isName.l0 k1 a0 (a0.size:Int) (wrap64 (x6_1+1))) else (some false))=some r:=by rw [if_neg (show ¬ (false=true) by decide)] at H;exact H
         clear H;have H:=H1;clear H1
         by_cases c13:(bt a0 x6_1)=45
         ·rw [if_pos c13] at H;have c13b0:((bt a0 x6_1) == 45)=true:=beq_iff_eq.mpr c13;have c13b1:((bt a0 x6_1) != 45)=false:=bne_eq_false_iff_eq.mpr c13;clear c13;have H':=am H;clear H;have p12:0≤(x6_1:Int):=oa;have q12:x6_1<(a0.size:Int):=oa;have hx12:=bt_at a0 x6_1;replace p12:=eq_true p12;replace q12:=eq_true q12
          go_wp2
          go_roundg k1
          case measure=>have:=HK1.out;omega
          case rel=>exact ⟨(wrap64 (x6_1+1)),fg,H',⟨by have:=HK1.out;omega⟩,by repeat (first|exact Drawn0.refl _|apply Drawn0.step)⟩
         ·rw [if_neg c13] at H;have c13b0:((bt a0 x6_1) == 45)=false:=beq_eq_false_iff_ne.mpr c13;have c13b1:((bt a0 x6_1) != 45)=true:=bne_iff_ne.mpr c13;obtain rfl:=Option.some.inj H;have p12:0≤(x6_1:Int):=oa;have q12:x6_1<(a0.size:Int):=oa;have hx12:=bt_at a0 x6_1;replace p12:=eq_true p12;replace q12:=eq_true q12
          go_wp2
          go_ret
          exact ⟨fg,by repeat (first|exact Drawn0.refl _|apply Drawn0.step)⟩
     ·rw [if_neg c4] at H
      exact absurd H (by simp)
    ·rw [if_neg c3] at H
     exact absurd H (by simp)
   ·rw [if_neg c2] at H;have c2b0:decide (x6_1<(a0.size:Int))=false:=decide_eq_false c2;clear c2;replace H:=Option.bind_eq_some_iff.mp H;obtain ⟨t310,A140,H⟩:=H;replace H:(some t310)=some r:=H;have A14:=am A140;clear A140;obtain rfl:=Option.some.inj H
    go_wp2_with (first|((first|((with_reducible refine gate_callee (f:=69) rfl ?_);refine goesL_ (some 34) rfl rfl Try.func69 (by kernel_rfl) rfl #[.int .i64 (a0.size:Int),.int .i64 1,.int .i64 12] rfl (by (try simp only [List.map_toArray,List.map_cons,List.map_nil]);first|done|rfl|(simp only [List.length_drop,List.length_take];rfl)) ?_;(with_reducible refine (impl_within.calls (a0.size:Int) 1 12 t310 _ A14.out).mono ?_);rintro e w' ⟨rfl,⟨nd,rfl⟩⟩;refine ⟨_,rfl,?_⟩)|(go_at_call 69;(with_reducible refine (impl_within.calls (a0.size:Int) 1 12 t310 _ A14.out).mono ?_);rintro e w' ⟨rfl,⟨nd,rfl⟩⟩))))
    go_ret
    exact ⟨fg,by repeat (first|exact Drawn0.refl _|apply Drawn0.step)⟩
set_option maxHeartbeats 8000000 in
set_option maxRecDepth 100000 in
theorem impl_isDay.calls (a0:Int) (r:Bool) (w:World) (h:impl_isDay.f a0=some r) :
  Calls Try.prog 63 #[.int .i64 a0] w fun e w'=>e=.returned (.bool r)∧Drawn0 w w':=by
 have H:((impl_within.f a0 0 100000).bind fun t313=>(some t313))=some r:=h;clear h;replace H:=Option.bind_eq_some_iff.mp H;obtain ⟨t313,A20,H⟩:=H;replace H:(some t313)=some r:=H;have A2:=am A20;clear A20;obtain rfl:=Option.some.inj H
 go_enter Try.func63,Try.ntmps63
 go_wp2_with (first|((first|((with_reducible refine gate_callee (f:=69) rfl ?_);refine goesL_ (some 4) rfl rfl Try.func69 (by kernel_rfl) rfl #[.int .i64 a0,.int .i64 0,.int .i64 100000] rfl (by (try simp only [List.map_toArray,List.map_cons,List.map_nil]);first|done|rfl|(simp only [List.length_drop,List.length_take];rfl)) ?_;(with_reducible refine (impl_within.calls a0 0 100000 t313 _ A2.out).mono ?_);rintro e w' ⟨rfl,⟨nd,rfl⟩⟩;refine ⟨_,rfl,?_⟩)|(go_at_call 69;(with_reducible refine (impl_within.calls a0 0 100000 t313 _ A2.out).mono ?_);rintro e w' ⟨rfl,⟨nd,rfl⟩⟩))))
 go_ret
 exact ⟨fg,by repeat (first|exact Drawn0.refl _|apply Drawn0.step)⟩
end Go.Proofs.Ytjjfjgdhloideaa.QI
namespace Go.Proofs.Ytjjfjgdhloideaa.QI
open Go.RowKit Go.Proofs.YtjjfjgdhloideaaW.PrintWords Go.Proofs.YtjjfjgdhloideaaW.PrintLast Go.Proofs.YtjjfjgdhloideaaW.PrintMore
attribute [local go_sem] max2_int min2_int max_two min_two max_three min_three max_four min_four   -- for this text's walks alone
set_option linter.unusedVariables false
set_option linter.unusedSimpArgs false
set_option maxHeartbeats 8000000 in
set_option maxRecDepth 100000 in
theorem impl_isControl.calls (a0:Int) (r:Bool) (w:World) (h:impl_isControl.f a0=some r) :
  Calls Try.prog 100 #[.int .i64 a0] w fun e w'=>e=.returned (.bool r)∧Drawn0 w w':=by
 have H:((impl_within.f a0 1 999999).bind fun t314=>(some t314))=some r:=h;clear h;replace H:=Option.bind_eq_some_iff.mp H;obtain ⟨t314,A20,H⟩:=H;replace H:(some t314)=some r:=H;have A2:=am A20;clear A20;obtain rfl:=Option.some.inj H
 go_enter Try.func100,Try.ntmps100
 go_wp2_with (first|((first|((with_reducible refine gate_callee (f:=69) rfl ?_);refine goesL_ (some 4) rfl rfl Try.func69 (by kernel_rfl) rfl #[.int .i64 a0,.int .i64 1,.int .i64 999999] rfl (by (try simp only [List.map_toArray,List.map_cons,List.map_nil]);first|done|rfl|(simp only [List.length_drop,List.length_take];rfl)) ?_;(with_reducible refine (impl_within.calls a0 1 999999 t314 _ A2.out).mono ?_);rintro e w' ⟨rfl,⟨nd,rfl⟩⟩;refine ⟨_,rfl,?_⟩)|(go_at_call 69;(with_reducible refine (impl_within.calls a0 1 999999 t314 _ A2.out).mono ?_);rintro e w' ⟨rfl,⟨nd,rfl⟩⟩))))
 go_ret
 exact ⟨fg,by repeat (first|exact Drawn0.refl _|apply Drawn0.step)⟩
set_option maxHeartbeats 8000000 in
set_option maxRecDepth 100000 in
theorem impl_isCode.calls (a0:Int) (r:Bool) (w:World) (h:impl_isCode.f a0=some r) :
  Calls Try.prog 101 #[.int .i64 a0] w fun e w'=>e=.returned (.bool r)∧Drawn0 w w':=by
 have H:((impl_within.f a0 0 13).bind fun t315=>(some t315))=some r:=h;clear h;replace H:=Option.bind_eq_some_iff.mp H;obtain ⟨t315,A20,H⟩:=H;replace H:(some t315)=some r:=H;have A2:=am A20;clear A20;obtain rfl:=Option.some.inj H
 go_enter Try.func101,Try.ntmps101
 go_wp2_with (first|((first|((with_reducible refine gate_callee (f:=69) rfl ?_);refine goesL_ (some 4) rfl rfl Try.func69 (by kernel_rfl) rfl #[.int .i64 a0,.int .i64 0,.int .i64 13] rfl (by (try simp only [List.map_toArray,List.map_cons,List.map_nil]);first|done|rfl|(simp only [List.length_drop,List.length_take];rfl)) ?_;(with_reducible refine (impl_within.calls a0 0 13 t315 _ A2.out).mono ?_);rintro e w' ⟨rfl,⟨nd,rfl⟩⟩;refine ⟨_,rfl,?_⟩)|(go_at_call 69;(with_reducible refine (impl_within.calls a0 0 13 t315 _ A2.out).mono ?_);rintro e w' ⟨rfl,⟨nd,rfl⟩⟩))))
 go_ret
 exact ⟨fg,by repeat (first|exact Drawn0.refl _|apply Drawn0.step)⟩
end Go.Proofs.Ytjjfjgdhloideaa.QI

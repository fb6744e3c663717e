-- Merged by a program of this session (wip/tool/pack.py) out of its own texts for this claim.
import Derived.Test.YtjjfjgdhloideaaKFnExactGateRight0
import Derived.Test.YtjjfjgdhloideaaKFnExactGateRight1
import Derived.Test.YtjjfjgdhloideaaKFnExactGateRight2
import Derived.Test.YtjjfjgdhloideaaKFnExactGateRight3
import Derived.Test.YtjjfjgdhloideaaKFnExactGateRight9
import Derived.Test.YtjjfjgdhloideaaKFnExactGateRight10
import Derived.Test.YtjjfjgdhloideaaKFnExactGateRight12
import Derived.Test.YtjjfjgdhloideaaKFnExactGateRight13
import Derived.Test.YtjjfjgdhloideaaKFnExactGateRight14
namespace Go.Proofs.Ytjjfjgdhloideaa.QI
open Go.RowKit Go.Proofs.YtjjfjgdhloideaaW.PrintWords Go.Proofs.YtjjfjgdhloideaaW.PrintLast Go.Proofs.YtjjfjgdhloideaaW.PrintMore
attribute [local go_sem] max2_int min2_int max_two min_two max_three min_three max_four min_four   -- for this text's walks alone
set_option linter.unusedVariables false
set_option linter.unusedSimpArgs false
set_option maxHeartbeats 8000000 in
set_option maxRecDepth 100000 in
theorem impl_isQty.calls (a0:Int) (r:Bool) (w:World) (h:impl_isQty.f a0=some r) :
  Calls Try.prog 123 #[.int .i64 a0] w fun e w'=>e=.returned (.bool r)∧Drawn0 w w':=by
 have H:((impl_within.f a0 1 1000000).bind fun t362=>(some t362))=some r:=h;clear h;replace H:=Option.bind_eq_some_iff.mp H;obtain ⟨t362,A20,H⟩:=H;replace H:(some t362)=some r:=H;have A2:=am A20;clear A20;obtain rfl:=Option.some.inj H
 go_enter Try.func123,Try.ntmps123
 go_wp2_with (first|((first|((with_reducible refine gate_callee (f:=69) rfl ?_);refine goesL_ (some 4) rfl rfl Try.func69 (by kernel_rfl) rfl #[.int .i64 a0,.int .i64 1,.int .i64 1000000] rfl (by (try simp only [List.map_toArray,List.map_cons,List.map_nil]);first|done|rfl|(simp only [List.length_drop,List.length_take];rfl)) ?_;(with_reducible refine (impl_within.calls a0 1 1000000 t362 _ A2.out).mono ?_);rintro e w' ⟨rfl,⟨nd,rfl⟩⟩;refine ⟨_,rfl,?_⟩)|(go_at_call 69;(with_reducible refine (impl_within.calls a0 1 1000000 t362 _ A2.out).mono ?_);rintro e w' ⟨rfl,⟨nd,rfl⟩⟩))))
 go_ret
 exact ⟨fg,by repeat (first|exact Drawn0.refl _|apply Drawn0.step)⟩
end Go.Proofs.Ytjjfjgdhloideaa.QI
namespace Go.Proofs.Ytjjfjgdhloideaa.QI
open Go.RowKit Go.Proofs.YtjjfjgdhloideaaW.PrintWords Go.Proofs.YtjjfjgdhloideaaW.PrintLast Go.Proofs.YtjjfjgdhloideaaW.PrintMore
attribute [local go_sem] max2_int min2_int max_two min_two max_three min_three max_four min_four   -- for this text's walks alone
set_option linter.unusedVariables false
set_option linter.unusedSimpArgs false
set_option maxHeartbeats 8000000 in
set_option maxRecDepth 100000 in
theorem impl_LineRight.calls (k:Nat) (a0_0:ByteArray) (a0_1:ByteArray) (a0_2:Int) (a0_3:ByteArray) (a0_4:Int) (a0_5:Int) (a0_6:Int) (a0_7:Int) (r:Bool) (w:World) (h:impl_LineRight.f k a0_0 a0_1 a0_2 a0_3 a0_4 a0_5 a0_6 a0_7=some r) :
  Calls Try.prog 110 #[.agg #[.string a0_0,.string a0_1,.int .i64 a0_2,.string a0_3,.int .i64 a0_4,.int .i64 a0_5,.int .i64 a0_6,.int .i64 a0_7]] w fun e w'=>e=.returned (.bool r)∧Below w.heap.size w w':=by
 have hu73:=Try.underlying73;have HB:=am (Below.refl w.heap.size w);have H:((impl_isName.f k a0_0).bind fun t364=>(if t364=true then ((impl_isName.f k a0_1).bind fun t365=>(if t365=true then ((impl_isName.f k a0_3).bind fun t366=>(if t366=true then ((impl_within.f a0_2 1 999).bind fun t367=>(if t367=true then ((impl_isQty.f a0_4).bind fun t368=>(if t368=true then ((impl_within.f a0_5 0 a0_4).bind fun t369=>(if t369=true then ((impl_within.f a0_6 0 a0_5).bind fun t370=>(if t370=true then ((impl_within.f a0_7 0 (wrap64 (a0_4 - a0_5))).bind fun t371=>(some t371)) else (some false))) else (some false))) else (some false))) else (some false))) else (some false))) else (some false))) else (some false)))=some r:=h;clear h;replace H:=Option.bind_eq_some_iff.mp H;obtain ⟨t364,A20,H⟩:=H;replace H:(if t364=true then ((impl_isName.f k a0_1).bind fun t365=>(if t365=true then ((impl_isName.f k a0_3).bind fun t366=>(if t366=true then ((impl_within.f a0_2 1 999).bind fun t367=>(if t367=true then ((impl_isQty.f a0_4).bind fun t368=>(if t368=true then ((impl_within.f a0_5 0 a0_4).bind fun t369=>(if t369=true then ((impl_within.f a0_6 0 a0_5).bind fun t370=>(if t370=true then ((impl_within.f a0_7 0 (wrap64 (a0_4 - a0_5))).bind fun t371=>(some t371)) else (some false))) else (some false))) else (some false))) else (some false))) else (some false))) else (some false))) else (some false))=some r:=H;have A2:=am A20;clear A20
 go_enter Try.func110,Try.ntmps110
 try go_wp2_with (first|((with_reducible refine gate_dst (N:=1) rfl ?_);refine bx 1 (cs:=#[.string a0_0,.string a0_1,.int .i64 a0_2,.string a0_3,.int .i64 a0_4,.int .i64 a0_5,.int .i64 a0_6,.int .i64 a0_7]) (t:=73) ?_;intro gb363 hg w3 hbox hb;have BK363:=am (hbox);have GW363:=am ((gs hg (bs HB)));have GE363:=am ((gs hg (bs HB)));replace HB:=am (below_step (bs HB) hb);clear hb hbox hg;obtain ⟨hcz4_0,hcz4_1,hcz4_2,hcz4_3,hcz4_4,hcz4_5,hcz4_6,hcz4_7,hfz4_0,hfz4_1,hfz4_2,hfz4_3,hfz4_4,hfz4_5,hfz4_6,hfz4_7⟩:=cf8 BK363))
 go_at_call 25;(with_reducible refine (impl_isName.calls k a0_0 t364 _ A2.out).mono ?_);rintro e w' ⟨rfl,⟨nd,rfl⟩⟩
 by_cases c5:t364=true
 ·subst c5
  have H1:((impl_isName.f k a0_1).bind fun t365=>(if t365=true then ((impl_isName.f k a0_3).bind fun t366=>(if t366=true then ((impl_within.f a0_2 1 999).bind fun t367=>(if t367=true then ((impl_isQty.f a0_4).bind fun t368=>(if t368=true then ((impl_within.f a0_5 0 a0_4).bind fun t369=>(if t369=true then ((impl_within.f a0_6 0 a0_5).bind fun t370=>(if t370=true then ((impl_within.f a0_7 0 (wrap64 (a0_4 - a0_5))).bind fun t371=>(some t371)) else (some false))) else (some false))) else (some false))) else (some false))) else (some false))) else (some false)))=some r:=by rw [if_pos rfl] at H;exact H
  clear H;have H:=H1;clear H1;replace H:=Option.bind_eq_some_iff.mp H;obtain ⟨t365,A60,H⟩:=H;replace H:(if t365=true then ((impl_isName.f k a0_3).bind fun t366=>(if t366=true then ((impl_within.f a0_2 1 999).bind fun t367=>(if t367=true then ((impl_isQty.f a0_4).bind fun t368=>(if t368=true then ((impl_within.f a0_5 0 a0_4).bind fun t369=>(if t369=true then ((impl_within.f a0_6 0 a0_5).bind fun t370=>(if t370=true then ((impl_within.f a0_7 0 (wrap64 (a0_4 - a0_5))).bind fun t371=>(some t371)) else (some false))) else (some false))) else (some false))) else (some false))) else (some false))) else (some false))=some r:=H;have A6:=am A60;clear A60;obtain ⟨hcz7_0,hcz7_1,hcz7_2,hcz7_3,hcz7_4,hcz7_5,hcz7_6,hcz7_7,hfz7_0,hfz7_1,hfz7_2,hfz7_3,hfz7_4,hfz7_5,hfz7_6,hfz7_7⟩:=cf8 BK363
  try go_wp2_with (fail)
  go_at_call 25;(with_reducible refine (impl_isName.calls k a0_1 t365 _ A6.out).mono ?_);rintro e w' ⟨rfl,⟨nd,rfl⟩⟩
  by_cases c8:t365=true
  ·subst c8
   have H1:((impl_isName.f k a0_3).bind fun t366=>(if t366=true then ((impl_within.f a0_2 1 999).bind fun t367=>(if t367=true then ((impl_isQty.f a0_4).bind fun t368=>(if t368=true then ((impl_within.f a0_5 0 a0_4).bind fun t369=>(if t369=true then ((impl_within.f a0_6 0 a0_5).bind fun t370=>(if t370=true then ((impl_within.f a0_7 0 (wrap64 (a0_4 - a0_5))).bind fun t371=>(some t371)) else (some false))) else (some false))) else (some false))) else (some false))) else (some false)))=some r:=by rw [if_pos rfl] at H;exact H
   clear H;have H:=H1;clear H1;replace H:=Option.bind_eq_some_iff.mp H;obtain ⟨t366,A90,H⟩:=H;replace H:(if t366=true then ((impl_within.f a0_2 1 999).bind fun t367=>(if t367=true then ((impl_isQty.f a0_4).bind fun t368=>(if t368=true then ((impl_within.f a0_5 0 a0_4).bind fun t369=>(if t369=true then ((impl_within.f a0_6 0 a0_5).bind fun t370=>(if t370=true then ((impl_within.f a0_7 0 (wrap64 (a0_4 - a0_5))).bind fun t371=>(some t371)) else (some false))) else (some false))) else (some false))) else (some false))) else (some false))=some r:=H;have A9:=am A90;clear A90;obtain ⟨hcz10_0,hcz10_1,hcz10_2,hcz10_3,hcz10_4,hcz10_5,hcz10_6,hcz10_7,hfz10_0,hfz10_1,hfz10_2,hfz10_3,hfz10_4,hfz10_5,hfz10_6,hfz10_7⟩:=cf8 BK363
   try go_wp2_with (fail)
   go_at_call 25;(with_reducible refine (impl_isName.calls k a0_3 t366 _ A9.out).mono ?_);rintro e w' ⟨rfl,⟨nd,rfl⟩⟩
   by_cases c11:t366=true
   ·subst c11
    have H1:((impl_within.f a0_2 1 999).bind fun t367=>(if t367=true then ((impl_isQty.f a0_4).bind fun t368=>(if t368=true then ((impl_within.f a0_5 0 a0_4).bind fun t369=>(if t369=true then ((impl_within.f a0_6 0 a0_5).bind fun t370=>(if t370=true then ((impl_within.f a0_7 0 (wrap64 (a0_4 - a0_5))).bind fun t371=>(some t371)) else (some false))) else (some false))) else (some false))) else (some false)))=some r:=by rw [if_pos rfl] at H;exact H
    clear H;have H:=H1;clear H1;replace H:=Option.bind_eq_some_iff.mp H;obtain ⟨t367,A120,H⟩:=H;replace H:(if t367=true then ((impl_isQty.f a0_4).bind fun t368=>(if t368=true then ((impl_within.f a0_5 0 a0_4).bind fun t369=>(if t369=true then ((impl_within.f a0_6 0 a0_5).bind fun t370=>(if t370=true then ((impl_within.f a0_7 0 (wrap64 (a0_4 - a0_5))).bind fun t371=>(some t371)) else (some false))) else (some false))) else (some false))) else (some false))=some r:=H;have A12:=am A120;clear A120;obtain ⟨hcz13_0,hcz13_1,hcz13_2,hcz13_3,hcz13_4,hcz13_5,hcz13_6,hcz13_7,hfz13_0,hfz13_1,hfz13_2,hfz13_3,hfz13_4,hfz13_5,hfz13_6,hfz13_7⟩:=cf8 BK363
    try go_wp2_with (fail)
    go_at_call 69;(with_reducible refine (impl_within.calls a0_2 1 999 t367 _ A12.out).mono ?_);rintro e w' ⟨rfl,⟨nd,rfl⟩⟩
    by_cases c14:t367=true
    ·subst c14
     have H1:((impl_isQty.f a0_4).bind fun t368=>(if t368=true then ((impl_within.f a0_5 0 a0_4).bind fun t369=>(if t369=true then ((impl_within.f a0_6 0 a0_5).bind fun t370=>(if t370=true then ((impl_within.f a0_7 0 (wrap64 (a0_4 - a0_5))).bind fun t371=>(some t371)) else (some false))) else (some false))) else (some false)))=some r:=by rw [if_pos rfl] at H;exact H
     clear H;have H:=H1;clear H1;replace H:=Option.bind_eq_some_iff.mp H;obtain ⟨t368,A150,H⟩:=H;replace H:(if t368=true then ((impl_within.f a0_5 0 a0_4).bind fun t369=>(if t369=true then ((impl_within.f a0_6 0 a0_5).bind fun t370=>(if t370=true then ((impl_within.f a0_7 0 (wrap64 (a0_4 - a0_5))).bind fun t371=>(some t371)) else (some false))) else (some false))) else (some false))=some r:=H;have A15:=am A150;clear A150;obtain ⟨hcz16_0,hcz16_1,hcz16_2,hcz16_3,hcz16_4,hcz16_5,hcz16_6,hcz16_7,hfz16_0,hfz16_1,hfz16_2,hfz16_3,hfz16_4,hfz16_5,hfz16_6,hfz16_7⟩:=cf8 BK363
     try go_wp2_with (fail)
     go_at_call 123;(with_reducible refine (impl_isQty.calls a0_4 t368 _ A15.out).mono ?_);rintro e w' ⟨rfl,⟨nd,rfl⟩⟩
     by_cases c17:t368=true
     ·subst c17
      have H1:((impl_within.f a0_5 0 a0_4).bind fun t369=>(if t369=true then ((impl_within.f a0_6 0 a0_5).bind fun t370=>(if t370=true then ((impl_within.f a0_7 0 (wrap64 (a0_4 - a0_5))).bind fun t371=>(some t371)) else (some false))) else (some false)))=some r:=by rw [if_pos rfl] at H;exact H
      clear H;have H:=H1;clear H1;replace H:=Option.bind_eq_some_iff.mp H;obtain ⟨t369,A180,H⟩:=H;replace H:(if t369=true then ((impl_within.f a0_6 0 a0_5).bind fun t370=>(if t370=true then ((impl_within.f a0_7 0 (wrap64 (a0_4 - a0_5))).bind fun t371=>(some t371)) else (some false))) else (some false))=some r:=H;have A18:=am A180;clear A180;obtain ⟨hcz19_0,hcz19_1,hcz19_2,hcz19_3,hcz19_4,hcz19_5,hcz19_6,hcz19_7,hfz19_0,hfz19_1,hfz19_2,hfz19_3,hfz19_4,hfz19_5,hfz19_6,hfz19_7⟩:=cf8 BK363
      try go_wp2_with (fail)
      go_at_call 69;(with_reducible refine (impl_within.calls a0_5 0 a0_4 t369 _ A18.out).mono ?_);rintro e w' ⟨rfl,⟨nd,rfl⟩⟩
      by_cases c20:t369=true
      ·subst c20
       have H1:((impl_within.f a0_6 0 a0_5).bind fun t370=>(if t370=true then ((impl_within.f a0_7 0 (wrap64 (a0_4 - a0_5))).bind fun t371=>(some t371)) else (some false)))=some r:=by rw [if_pos rfl] at H;exact H
       clear H;have H:=H1;clear H1;replace H:=Option.bind_eq_some_iff.mp H;obtain ⟨t370,A210,H⟩:=H;replace H:(if t370=true then ((impl_within.f a0_7 0 (wrap64 (a0_4 - a0_5))).bind fun t371=>(some t371)) else (some false))=some r:=H;have A21:=am A210;clear A210;obtain ⟨hcz22_0,hcz22_1,hcz22_2,hcz22_3,hcz22_4,hcz22_5,hcz22_6,hcz22_7,hfz22_0,hfz22_1,hfz22_2,hfz22_3,hfz22_4,hfz22_5,hfz22_6,hfz22_7⟩:=cf8 BK363
       try go_wp2_with (fail)
       go_at_call 69;(with_reducible refine (impl_within.calls a0_6 0 a0_5 t370 _ A21.out).mono ?_);rintro e w' ⟨rfl,⟨nd,rfl⟩⟩
       by_cases c23:t370=true
       ·subst c23
        have H1:((impl_within.f a0_7 0 (wrap64 (a0_4 - a0_5))).bind fun t371=>(some t371))=some r:=by rw [if_pos rfl] at H;exact H
        clear H;have H:=H1;clear H1;replace H:=Option.bind_eq_some_iff.mp H;obtain ⟨t371,A240,H⟩:=H;replace H:(some t371)=some r:=H;have A24:=am A240;clear A240;obtain rfl:=Option.some.inj H;obtain ⟨hcz25_0,hcz25_1,hcz25_2,hcz25_3,hcz25_4,hcz25_5,hcz25_6,hcz25_7,hfz25_0,hfz25_1,hfz25_2,hfz25_3,hfz25_4,hfz25_5,hfz25_6,hfz25_7⟩:=cf8 BK363
        go_wp2_with (first|(go_at_call 69;(with_reducible refine (impl_within.calls a0_7 0 (wrap64 (a0_4 - a0_5)) t371 _ A24.out).mono ?_);rintro e w' ⟨rfl,⟨nd,rfl⟩⟩))
        go_ret
        exact ⟨ff,bs HB⟩
       ·replace c23:=Bool.eq_false_iff.mpr c23;subst c23
        have H1:(some false)=some r:=by rw [if_neg (show ¬ (false=true) by decide)] at H;exact H
        clear H;have H:=H1;clear H1;obtain rfl:=Option.some.inj H
        go_wp2
        go_ret
        exact ⟨ff,bs HB⟩
      ·replace c20:=Bool.eq_false_iff.mpr c20;subst c20
       have H1:(some false)=some r:=by rw [if_neg (show ¬ (false=true) by decide)] at H;exact H
       clear H;have H:=H1;clear H1;obtain rfl:=Option.some.inj H
       go_wp2
       go_ret
       exact ⟨ff,bs HB⟩
     ·replace c17:=Bool.eq_false_iff.mpr c17;subst c17
      have H1:(some false)=some r:=by rw [if_neg (show ¬ (false=true) by decide)] at H;exact H
      clear H;have H:=H1;clear H1;obtain rfl:=Option.some.inj H
      go_wp2
      go_ret
      exact ⟨ff,bs HB⟩
    ·replace c14:=Bool.eq_false_iff.mpr c14;subst c14
     have H1:(some false)=some r:=by rw [if_neg (show ¬ (false=true) by decide)] at H;exact H
     clear H;have H:=H1;clear H1;obtain rfl:=Option.some.inj H
     go_wp2
     go_ret
     exact ⟨ff,bs HB⟩
   ·replace c11:=Bool.eq_false_iff.mpr c11;subst c11
    have H1:(some false)=some r:=by rw [if_neg (show ¬ (false=true) by decide)] at H;exact H
    clear H;have H:=H1;clear H1;obtain rfl:=Option.some.inj H
    go_wp2
    go_ret
    exact ⟨ff,bs HB⟩
  ·replace c8:=Bool.eq_false_iff.mpr c8;subst c8
   have H1:(some false)=some r:=by rw [if_neg (show ¬ (false=true) by decide)] at H;exact H
   clear H;have H:=H1;clear H1;obtain rfl:=Option.some.inj H
   go_wp2
   go_ret
   exact ⟨ff,bs HB⟩
 ·replace c5:=Bool.eq_false_iff.mpr c5;subst c5
  have H1:(some false)=some r:=by rw [if_neg (show ¬ (false=true) by decide)] at H;exact H
  clear H;have H:=H1;clear H1;obtain rfl:=Option.some.inj H
  go_wp2
  go_ret
  exact ⟨ff,bs HB⟩
end Go.Proofs.Ytjjfjgdhloideaa.QI
namespace Go.Proofs.Ytjjfjgdhloideaa.QI
open Go.RowKit Go.Proofs.YtjjfjgdhloideaaW.PrintWords Go.Proofs.YtjjfjgdhloideaaW.PrintLast Go.Proofs.YtjjfjgdhloideaaW.PrintMore
attribute [local go_sem] max2_int min2_int max_two min_two max_three min_three max_four min_four   -- for this text's walks alone
set_option linter.unusedVariables false
set_option linter.unusedSimpArgs false
set_option maxHeartbeats 8000000 in
set_option maxRecDepth 100000 in
theorem cmp_isNaN_int64.calls (a0:Int) (r:Bool) (w:World) (h:cmp_isNaN_int64.f a0=some r) :
  Calls Try.prog 139 #[.int .i64 a0] w fun e w'=>e=.returned (.bool r)∧Drawn0 w w':=by
 have H:(some (a0 != a0))=some r:=h;clear h;obtain rfl:=Option.some.inj H
 go_enter Try.func139,Try.ntmps139
 go_wp2
 go_ret
 exact ⟨fg,by repeat (first|exact Drawn0.refl _|apply Drawn0.step)⟩
set_option maxHeartbeats 8000000 in
set_option maxRecDepth 100000 in
theorem cmp_Compare_int64.calls (a0:Int) (a1:Int) (r:Int) (w:World) (h:cmp_Compare_int64.f a0 a1=some r) :
  Calls Try.prog 120 #[.int .i64 a0,.int .i64 a1] w fun e w'=>e=.returned (.int .i64 r)∧Drawn0 w w':=by
 have H:((cmp_isNaN_int64.f a0).bind fun t372=>((cmp_isNaN_int64.f a1).bind fun t373=>(if t372=true then (if t373=true then (some 0) else (some (-1))) else (if t373=true then (some 1) else (if a0<a1 then (some (-1)) else (if a0>a1 then (some 1) else (some 0)))))))=some r:=h;clear h;replace H:=Option.bind_eq_some_iff.mp H;obtain ⟨t372,A30,H⟩:=H;replace H:((cmp_isNaN_int64.f a1).bind fun t373=>(if t372=true then (if t373=true then (some 0) else (some (-1))) else (if t373=true then (some 1) else (if a0<a1 then (some (-1)) else (if a0>a1 then (some 1) else (some 0))))))=some r:=H;have A3:=am A30;clear A30
 go_enter Try.func120,Try.ntmps120
 try go_wp2_with (fail)
 go_at_call 139;(with_reducible refine (cmp_isNaN_int64.calls a0 t372 _ A3.out).mono ?_);rintro e w' ⟨rfl,⟨nd,rfl⟩⟩;replace H:=Option.bind_eq_some_iff.mp H;obtain ⟨t373,A40,H⟩:=H;replace H:(if t372=true then (if t373=true then (some 0) else (some (-1))) else (if t373=true then (some 1) else (if a0<a1 then (some (-1)) else (if a0>a1 then (some 1) else (some 0)))))=some r:=H;have A4:=am A40;clear A40
 try go_wp2_with (fail)
 go_at_call 139;(with_reducible refine (cmp_isNaN_int64.calls a1 t373 _ A4.out).mono ?_);rintro e w' ⟨rfl,⟨nd,rfl⟩⟩
 by_cases c5:t372=true
 ·subst c5
  have H1:(if t373=true then (some 0) else (some (-1)))=some r:=by rw [if_pos rfl] at H;exact H
  clear H;have H:=H1;clear H1
  by_cases c6:t373=true
  ·subst c6
   have H1:(some 0)=some r:=by rw [if_pos rfl] at H;exact H
   clear H;have H:=H1;clear H1;obtain rfl:=Option.some.inj H
   go_wp2
   go_ret
   exact ⟨fg,by repeat (first|exact Drawn0.refl _|apply Drawn0.step)⟩
  ·replace c6:=Bool.eq_false_iff.mpr c6;subst c6
   have H1:(some (-1))=some r:=by rw [if_neg (show ¬ (false=true) by decide)] at H;exact H
   clear H;have H:=H1;clear H1;obtain rfl:=Option.some.inj H
   go_wp2
   go_ret
   exact ⟨fg,by repeat (first|exact Drawn0.refl _|apply Drawn0.step)⟩
 ·replace c5:=Bool.eq_false_iff.mpr c5;subst c5
  have H1:(if t373=true then (some 1) else (if a0<a1 then (some (-1)) else (if a0>a1 then (some 1) else (some 0))))=some r:=by rw [if_neg (show ¬ (false=true) by decide)] at H;exact H
  clear H;have H:=H1;clear H1
  by_cases c7:t373=true
  ·subst c7
   have H1:(some 1)=some r:=by rw [if_pos rfl] at H;exact H
   clear H;have H:=H1;clear H1;obtain rfl:=Option.some.inj H
   go_wp2
   go_ret
   exact ⟨fg,by repeat (first|exact Drawn0.refl _|apply Drawn0.step)⟩
  ·replace c7:=Bool.eq_false_iff.mpr c7;subst c7
   have H1:(if a0<a1 then (some (-1)) else (if a0>a1 then (some 1) else (some 0)))=some r:=by rw [if_neg (show ¬ (false=true) by decide)] at H;exact H
   clear H;have H:=H1;clear H1
   by_cases c8:a0<a1
   ·rw [if_pos c8] at H;have c8b0:decide (a0<a1)=true:=decide_eq_true c8;clear c8;obtain rfl:=Option.some.inj H
    go_wp2
    go_ret
    exact ⟨fg,by repeat (first|exact Drawn0.refl _|apply Drawn0.step)⟩
   ·rw [if_neg c8] at H;have c8b0:decide (a0<a1)=false:=decide_eq_false c8;clear c8
    by_cases c9:a0>a1
    ·rw [if_pos c9] at H;have c9b0:decide (a1<a0)=true:=decide_eq_true c9;clear c9;obtain rfl:=Option.some.inj H
     go_wp2
     go_ret
     exact ⟨fg,by repeat (first|exact Drawn0.refl _|apply Drawn0.step)⟩
    ·rw [if_neg c9] at H;have c9b0:decide (a1<a0)=false:=decide_eq_false c9;clear c9;obtain rfl:=Option.some.inj H
     go_wp2
     go_ret
     exact ⟨fg,by repeat (first|exact Drawn0.refl _|apply Drawn0.step)⟩
end Go.Proofs.Ytjjfjgdhloideaa.QI
namespace Go.Proofs.Ytjjfjgdhloideaa.QI
open Go.RowKit Go.Proofs.YtjjfjgdhloideaaW.PrintWords Go.Proofs.YtjjfjgdhloideaaW.PrintLast Go.Proofs.YtjjfjgdhloideaaW.PrintMore
attribute [local go_sem] max2_int min2_int max_two min_two max_three min_three max_four min_four   -- for this text's walks alone
set_option linter.unusedVariables false
set_option linter.unusedSimpArgs false
def impl_lineOrder.T1 : Bool × List (List Nat × List Nat) := (true, [([], []), ([0], [0]), ([], []), ([2], [2]), ([1, 3], [1, 3]), ([], []), ([5], [5]), ([], []), ([7], [7]), ([6, 8, 4], [6, 8]), ([], []), ([10], [10]), ([], []), ([12], [12]), ([11, 13, 9], [11, 13]), ([4, 9, 14], [4, 9, 14]), ([15, 14], [15]), ([16, 16, 0, 1, 2, 3, 4, 5, 6, 7, 8, 9, 10, 11, 12, 13, 14, 15, 16], [16])])
def impl_lineOrder.B1 : List Nat := [0, 1, 0, 4, 15, 0, 32, 0, 128, 511, 0, 1024, 0, 4096, 16383, 32767, 65535, 131071]
theorem impl_lineOrder.tab1 : rtab .any (opsOf Try.f111 1) = impl_lineOrder.T1 := by kernel_rfl
theorem impl_lineOrder.bits1 : waitsOk impl_lineOrder.T1.2 impl_lineOrder.B1 = true := by kernel_rfl
set_option maxHeartbeats 8000000 in
set_option maxRecDepth 100000 in
theorem impl_lineOrder.calls (k:Nat) (a0_0:ByteArray) (a0_1:ByteArray) (a0_2:Int) (a0_3:ByteArray) (a0_4:Int) (a0_5:Int) (a0_6:Int) (a0_7:Int) (a1_0:ByteArray) (a1_1:ByteArray) (a1_2:Int) (a1_3:ByteArray) (a1_4:Int) (a1_5:Int) (a1_6:Int) (a1_7:Int) (r:Int) (w:World) (h:impl_lineOrder.f k a0_0 a0_1 a0_2 a0_3 a0_4 a0_5 a0_6 a0_7 a1_0 a1_1 a1_2 a1_3 a1_4 a1_5 a1_6 a1_7=some r) :
  Calls Try.prog 111 #[.agg #[.string a0_0,.string a0_1,.int .i64 a0_2,.string a0_3,.int .i64 a0_4,.int .i64 a0_5,.int .i64 a0_6,.int .i64 a0_7],.agg #[.string a1_0,.string a1_1,.int .i64 a1_2,.string a1_3,.int .i64 a1_4,.int .i64 a1_5,.int .i64 a1_6,.int .i64 a1_7]] w fun e w'=>e=.returned (.int .i64 r)∧Below w.heap.size w w':=by
 have hu73:=Try.underlying73;have HB:=am (Below.refl w.heap.size w);have H:((cmp_Compare_string.f a0_0 a1_0).bind fun t376=>((cmp_Compare_string.f a0_1 a1_1).bind fun t377=>((cmp_Compare_int64.f a0_2 a1_2).bind fun t378=>((cmp_Or_int.f k (([t376,t377,t378]:List Int))).bind fun t382=>(some t382)))))=some r:=h;clear h;replace H:=Option.bind_eq_some_iff.mp H;obtain ⟨t376,A30,H⟩:=H;replace H:((cmp_Compare_string.f a0_1 a1_1).bind fun t377=>((cmp_Compare_int64.f a0_2 a1_2).bind fun t378=>((cmp_Or_int.f k (([t376,t377,t378]:List Int))).bind fun t382=>(some t382))))=some r:=H;have A3:=am A30;clear A30;replace H:=Option.bind_eq_some_iff.mp H;obtain ⟨t377,A40,H⟩:=H;replace H:((cmp_Compare_int64.f a0_2 a1_2).bind fun t378=>((cmp_Or_int.f k (([t376,t377,t378]:List Int))).bind fun t382=>(some t382)))=some r:=H;have A4:=am A40;clear A40;replace H:=Option.bind_eq_some_iff.mp H;obtain ⟨t378,A50,H⟩:=H;replace H:((cmp_Or_int.f k (([t376,t377,t378]:List Int))).bind fun t382=>(some t382))=some r:=H;have A5:=am A50;clear A50;obtain ⟨y379,hy379⟩:∃ y_:List Int,y_=(([t376,t377,t378]:List Int)):=⟨_,rfl⟩
 replace H:((cmp_Or_int.f k y379).bind fun t382=>(some t382))=some r:=by first|(rw [hy379];with_reducible exact H)|(have H2_:=(Option.bind_some _ _).symm.trans H;rw [hy379];with_reducible exact H2_)|(have H2_:=(Option.bind_some _ _).symm.trans H;with_reducible exact H2_)|with_reducible exact H|(rw [hy379];exact H)|exact H
 have Ny379:=am hy379;clear hy379;replace H:=Option.bind_eq_some_iff.mp H;obtain ⟨t382,A60,H⟩:=H;replace H:(some t382)=some r:=H;have A6:=am A60;clear A60;obtain rfl:=Option.some.inj H
 go_enter Try.func111,Try.ntmps111
 try go_wp2_with (first|((with_reducible refine gate_dst (N:=2) rfl ?_);refine bx 2 (cs:=#[.string a0_0,.string a0_1,.int .i64 a0_2,.string a0_3,.int .i64 a0_4,.int .i64 a0_5,.int .i64 a0_6,.int .i64 a0_7]) (t:=73) ?_;intro gb374 hg w7 hbox hb;have BK374:=am (hbox);have GW374:=am ((gs hg (bs HB)));have GE374:=am ((gs hg (bs HB)));replace HB:=am (below_step (bs HB) hb);clear hb hbox hg)|((with_reducible refine gate_dst (N:=3) rfl ?_);refine bx 3 (cs:=#[.string a1_0,.string a1_1,.int .i64 a1_2,.string a1_3,.int .i64 a1_4,.int .i64 a1_5,.int .i64 a1_6,.int .i64 a1_7]) (t:=73) ?_;intro gb375 hg w8 hbox hb;have BK375:=am (hbox);have GW375:=am ((gs hg (bs HB)));have GE375:=am ((gs hg (bs HB)));replace HB:=am (below_step (bs HB) hb);have NB374_375:=am ((gn hg (ks BK374)));have NB375_374:=am ((gm hg (ks BK374)));replace BK374:=am (blk_below (ks BK374) hb);clear hb hbox hg))
 replace BK374:=am (blk_drew BK374.out);replace BK375:=am (blk_drew BK375.out);replace HB:=am (below_drew1 HB.out);refine start_ (n:=18) (S:=fun w'=>qk8a w' gb374 (.string a0_0) (.string a0_1) (.int .i64 a0_2) (.string a0_3) (.int .i64 a0_4) (.int .i64 a0_5) (.int .i64 a0_6) (.int .i64 a0_7) (qk8 w' gb375 (.string a1_0) (.string a1_1) (.int .i64 a1_2) (.string a1_3) (.int .i64 a1_4) (.int .i64 a1_5) (.int .i64 a1_6) (.int .i64 a1_7))) (ds:=[]) _ (by kernel_rfl) rfl rfl (qb8a BK374 (qb8 BK375)) (fun hHeld=>?_);refine with_tabW impl_lineOrder.tab1 impl_lineOrder.bits1 (fun HT_ HW_=>?_)
 generalize w8.drew=w9 at BK374 BK375 HB hHeld ⊢
 refine pA 0 5 HT_ ?_;refine pA 2 7 HT_ ?_;refine pA 5 10 HT_ ?_;refine pA 7 12 HT_ ?_;refine pA 10 15 HT_ ?_;refine pA 12 17 HT_ ?_;refine tA 1 6 HT_ HW_ hHeld ?_;refine tA 3 8 HT_ HW_ hHeld ?_;refine tA 6 11 HT_ HW_ hHeld ?_;refine tA 8 13 HT_ HW_ hHeld ?_;refine tA 11 16 HT_ HW_ hHeld ?_;refine tA 13 18 HT_ HW_ hHeld ?_;refine oA 4 9 HT_ (fun K hK=>?_);refine gA Try.func117 #[.string a0_0,.string a1_0] ?_;(with_reducible refine (cmp_Compare_string.calls a0_0 a1_0 t376 _ A3.out).mono ?_);rintro e w' ⟨rfl,⟨nd,rfl⟩⟩;refine ⟨_,rfl,?_⟩;refine hK.out _ _ (qb8a BK374 (qb8 BK375)) (fun hHeld=>?_);clear hK K;refine nA 9 ?_;refine oA 9 14 HT_ (fun K hK=>?_);refine gA Try.func117 #[.string a0_1,.string a1_1] ?_;(with_reducible refine (cmp_Compare_string.calls a0_1 a1_1 t377 _ A4.out).mono ?_);rintro e w' ⟨rfl,⟨nd,rfl⟩⟩;refine ⟨_,rfl,?_⟩;refine hK.out _ _ (qb8a BK374 (qb8 BK375)) (fun hHeld=>?_);clear hK K;refine nA 14 ?_;refine oA 14 19 HT_ (fun K hK=>?_);refine gA Try.func120 #[.int .i64 a0_2,.int .i64 a1_2] ?_;(with_reducible refine (cmp_Compare_int64.calls a0_2 a1_2 t378 _ A5.out).mono ?_);rintro e w' ⟨rfl,⟨nd,rfl⟩⟩;refine ⟨_,rfl,?_⟩;refine hK.out _ _ (qb8a BK374 (qb8 BK375)) (fun hHeld=>?_);clear hK K;refine nA 19 ?_;refine oA 15 20 HT_ (fun K hK=>?_);refine Kd.R_lit_step (Kd.int .i64) _ 3 ?hg (N:=20) ?hd (xs:=([t376,t377,t378]:List Int)) (inner:=[.int .i64 t376,.int .i64 t377,.int .i64 t378]) (ok:=fun _=>True) (okp:=fun _=>True) ?hr ?hp (fun _ hk=>hk) trivial (Below.refl _ _) (Nat.le_refl _) (by simp) ?_;(case hd=>rfl);(case hg=>rfl);(case hr=>first|(go_simp;done)|(go_simp;rfl));(case hp=>exact (Reps.one (show Kd.M (Kd.int .i64) _ _ _ t376 [.int .i64 t376] from rfl) (Reps.one (show Kd.M (Kd.int .i64) _ _ _ t377 [.int .i64 t377] from rfl) (Reps.one (show Kd.M (Kd.int .i64) _ _ _ t378 [.int .i64 t378] from rfl) (Reps.none _ _)))));intro v380 w10 ho11 hb hg_ hnew_;clear hg_ hnew_
 (first|rw [← Ny379.out] at ho11|(simp only [Int.reduceToNat] at ho11;rw [← Ny379.out] at ho11))
 have HO381:=am (Kd.R_lower ho11 (below_size (bs HB)));replace BK374:=am (blk_below (ks BK374) hb);replace BK375:=am (blk_below (ks BK375) hb);replace HB:=am (below_step (bs HB) hb);clear hb ho11;obtain ⟨Ao12,co12,eo12⟩:=Kd.R_slice HO381.out
 (first|subst eo12|(injection eo12 with f1_ f2_ f3_;have f4_:=f1_.symm;have f5_:=f3_.symm;clear f1_ f2_ f3_;subst f4_;subst f5_))
 refine hK.out _ _ (qb8a BK374 (qb8 BK375)) (fun hHeld=>?_);clear hK K;refine nA 20 ?_;refine oA 16 21 HT_ (fun K hK=>?_);refine gA Try.func116 #[.slice Ao12 y379.length co12] ?_;(with_reducible refine (cmp_Or_int.calls k _ _ y379 t382 _ ?side1 ?side2 A6.out).mono ?_)
 (case side1=>repeat (first|exact (Kd.R_reads' HO381.out).2.2|(with_reducible refine Kd.C_alloc ?_ _)|(with_reducible refine Kd.C_drewN ?_ _)|(with_reducible refine Kd.C_drew ?_)))
 (case side2=>exact (Kd.R_reads' HO381.out).2.1)
 rintro e w' ⟨rfl,⟨nd,rfl⟩⟩;refine ⟨_,rfl,?_⟩;refine hK.out _ _ (qb8a BK374 (qb8 BK375)) (fun hHeld=>?_);clear hK K;refine nA 21 ?_;refine pA 17 4 HT_ ?_;refine done_ (done_of HT_.out (by kernel_rfl)) ?_
 try go_wp2
 go_ret
 exact ⟨ff,bs HB⟩
end Go.Proofs.Ytjjfjgdhloideaa.QI
namespace Go.Proofs.Ytjjfjgdhloideaa.QI
open Go.RowKit Go.Proofs.YtjjfjgdhloideaaW.PrintWords Go.Proofs.YtjjfjgdhloideaaW.PrintLast Go.Proofs.YtjjfjgdhloideaaW.PrintMore
attribute [local go_sem] max2_int min2_int max_two min_two max_three min_three max_four min_four   -- for this text's walks alone
set_option linter.unusedVariables false
set_option linter.unusedSimpArgs false
def impl_LinesRight.T6 : Bool × List (List Nat × List Nat) := (true, [([], []), ([0], [0]), ([1], [1]), ([2, 1], [2]), ([3], [3]), ([4, 3], [3, 4]), ([5, 3, 3], [3, 5]), ([6], [6]), ([6], [6]), ([8, 6], [6, 8]), ([7, 9, 6], [6, 7, 9]), ([10, 6], [6, 10]), ([6], [6]), ([11, 12, 6, 6], [6, 11, 12]), ([13, 6], [6, 13]), ([6, 14, 3], [3, 6, 14]), ([3, 15], [3, 15])])
def impl_LinesRight.B6 : List Nat := [0, 1, 3, 7, 15, 31, 63, 127, 127, 383, 1023, 2047, 127, 8191, 16383, 32767, 65535]
theorem impl_LinesRight.tab6 : rtab .any (opsOf Try.f83 6) = impl_LinesRight.T6 := by kernel_rfl
theorem impl_LinesRight.bits6 : waitsOk impl_LinesRight.T6.2 impl_LinesRight.B6 = true := by kernel_rfl
set_option maxHeartbeats 8000000 in
set_option maxRecDepth 100000 in
theorem impl_LinesRight.calls (k:Nat) (A0:Option Addr) (c0:Nat) (l0:List (S73)) (r:Bool) (w:World) (hr0:Kd.C k73 w A0 l0.length l0) (hc0:l0.length≤c0) (h:impl_LinesRight.f k l0=some r) :
  Calls Try.prog 83 #[.slice A0 l0.length c0] w fun e w'=>e=.returned (.bool r)∧Below w.heap.size w w':=by
 have hu73:=Try.underlying73;have HR0:=am hr0;have HC0:=am hc0;clear hr0 hc0;have HB:=am (Below.refl w.heap.size w);have H:(if (l0.length:Int)>200 then (some false) else (impl_LinesRight.l0 k l0 l0 (l0.length:Int) 0))=some r:=h;clear h
 by_cases c2:(l0.length:Int)>200
 ·rw [if_pos c2] at H;have c2b0:decide (200<(l0.length:Int))=true:=decide_eq_true c2;have c2b1:decide (200<l0.length)=true:=decide_eq_true (by omega);clear c2;obtain rfl:=Option.some.inj H
  go_enter Try.func83,Try.ntmps83
  go_wp2
  go_ret
  exact ⟨ff,bs HB⟩
 ·rw [if_neg c2] at H;have c2b0:decide (200<(l0.length:Int))=false:=decide_eq_false c2;have c2b1:decide (200<l0.length)=false:=decide_eq_false (by omega);clear c2;have H':=am H;clear H
  go_enter Try.func83,Try.ntmps83
  go_wp2
  go_loopg [10] k (fun kq v10 w'=>∃ (x10_1:Int),v10=.int .i64 x10_1∧Aside0 (impl_LinesRight.l0 kq l0 l0 (l0.length:Int) x10_1=some r)∧Aside0 (kq≤k)∧Aside0 (Below w.heap.size w w'))
  case atStart=>exact ⟨(0),fg,H',⟨Nat.le_refl _⟩,⟨bs HB⟩⟩
  case round =>
   clear H'
   try clear c2
   try clear c2b0
   try clear c2b1
   try clear p2
   obtain ⟨x10_1,rfl,HA,HK1,HB⟩:=hrel
   cases gk with
   | zero=>exact absurd HA.out (by simp [impl_LinesRight.l0])
   | succ k1 =>
    have H:=HA.out;clear HA;simp only [impl_LinesRight.l0] at H
    by_cases c3:x10_1<(l0.length:Int)
    ·rw [if_pos c3] at H;have c3b0:decide (x10_1<(l0.length:Int))=true:=decide_eq_true c3;clear c3
     by_cases c4:0≤x10_1
     ·rw [if_pos c4] at H;have c4b0:decide (0≤x10_1)=true:=decide_eq_true c4;clear c4
      by_cases c5:x10_1<(l0.length:Int)
      ·rw [if_pos c5] at H;have c5b0:decide (x10_1<(l0.length:Int))=true:=decide_eq_true c5;clear c5;replace H:=Option.bind_eq_some_iff.mp H;obtain ⟨t385,A60,H⟩:=H;replace H:(if t385=true then (if x10_1>0 then (if 0≤(wrap64 (x10_1 - 1)) then (if (wrap64 (x10_1 - 1))<(l0.length:Int) then ((impl_lineOrder.f k1 ((rd_T73 l0 (wrap64 (x10_1 - 1))).f0) ((rd_T73 l0 (wrap64 (x10_1 - 1))).f1) ((rd_T73 l0 (wrap64 (x10_1 - 1))).f2) ((rd_T73 l0 (wrap64 (x10_1 - 1))).f3) ((rd_T73 l0 (wrap64 (x10_1 - 1))).f4) ((rd_T73 l0 (wrap64 (x10_1 - 1))).f5) ((rd_T73 l0 (wrap64 (x10_1 - 1))).f6) ((rd_T73 l0 (wrap64 (x10_1 - 1))).f7) ((rd_T73 l0 x10_1).f0) ((rd_T73 l0 x10_1).f1) ((rd_T73 l0 x10_1).f2) ((rd_T73 l0 x10_1).f3) ((rd_T73 l0 x10_1).f4) ((rd_T73 l0 x10_1).f5) ((rd_T73 l0 x10_1).f6) ((rd_T73 l0 x10_1).f7)).bind fun t387=>(if t387≥0 then (some false) else (impl_LinesRight.l0 k1 l0 l0 (l0.length:Int) (wrap64 (x10_1+1))))) else (none)) else (none)) else (impl_LinesRight.l0 k1 l0 l0 (l0.length:Int) (wrap64 (x10_1+1)))) else (some false))=some r:=H;have A6:=am A60;clear A60
       by_cases c7:t385=true
       ·subst c7
        have H1:(if x10_1>0 then (if 0≤(wrap64 (x10_1 - 1)) then (if (wrap64 (x10_1 - 1))<(l0.length:Int) then ((impl_lineOrder.f k1 ((rd_T73 l0 (wrap64 (x10_1 - 1))).f0) ((rd_T73 l0 (wrap64 (x10_1 - 1))).f1) ((rd_T73 l0 (wrap64 (x10_1 - 1))).f2) ((rd_T73 l0 (wrap64 (x10_1 - 1))).f3) ((rd_T73 l0 (wrap64 (x10_1 - 1))).f4) ((rd_T73 l0 (wrap64 (x10_1 - 1))).f5) ((rd_T73 l0 (wrap64 (x10_1 - 1))).f6) ((rd_T73 l0 (wrap64 (x10_1 - 1))).f7) ((rd_T73 l0 x10_1).f0) ((rd_T73 l0 x10_1).f1) ((rd_T73 l0 x10_1).f2) ((rd_T73 l0 x10_1).f3) ((rd_T73 l0 x10_1).f4) ((rd_T73 l0 x10_1).f5) ((rd_T73 l0 x10_1).f6) ((rd_T73 l0 x10_1).f7)).bind fun t387=>(if t387≥0 then (some false) else (impl_LinesRight.l0 k1 l0 l0 (l0.length:Int) (wrap64 (x10_1+1))))) else (none)) else (none)) else (impl_LinesRight.l0 k1 l0 l0 (l0.length:Int) (wrap64 (x10_1+1))))=some r:=by rw [if_pos rfl] at H;exact H
        clear H;have H:=H1;clear H1
        by_cases c8:x10_1>0
        ·rw [if_pos c8] at H;have c8b0:decide (0<x10_1)=true:=decide_eq_true c8;clear c8;obtain ⟨ji9,hji9⟩:∃ j_:Int,(wrap64 (x10_1 - 1))=j_:=⟨_,rfl⟩
         replace H:(if 0≤(ji9) then (if (ji9)<(l0.length:Int) then ((impl_lineOrder.f k1 ((rd_T73 l0 (ji9)).f0) ((rd_T73 l0 (ji9)).f1) ((rd_T73 l0 (ji9)).f2) ((rd_T73 l0 (ji9)).f3) ((rd_T73 l0 (ji9)).f4) ((rd_T73 l0 (ji9)).f5) ((rd_T73 l0 (ji9)).f6) ((rd_T73 l0 (ji9)).f7) ((rd_T73 l0 x10_1).f0) ((rd_T73 l0 x10_1).f1) ((rd_T73 l0 x10_1).f2) ((rd_T73 l0 x10_1).f3) ((rd_T73 l0 x10_1).f4) ((rd_T73 l0 x10_1).f5) ((rd_T73 l0 x10_1).f6) ((rd_T73 l0 x10_1).f7)).bind fun t387=>(if t387≥0 then (some false) else (impl_LinesRight.l0 k1 l0 l0 (l0.length:Int) (wrap64 (x10_1+1))))) else (none)) else (none))=some r:=by first|(rw [hji9] at H;exact H)|(simp only [hji9] at H ⊢;exact H)
         (try rw [hji9] at A6)
         have hji9w:(IntKind.i64.wrap (x10_1 - 1))=ji9:=(i64_w _).trans hji9
         by_cases c10:0≤(ji9)
         ·rw [if_pos c10] at H;have c10b0:decide (0≤(ji9))=true:=decide_eq_true c10;clear c10
          by_cases c11:(ji9)<(l0.length:Int)
          ·rw [if_pos c11] at H;have c11b0:decide ((ji9)<(l0.length:Int))=true:=decide_eq_true c11;clear c11;replace H:=Option.bind_eq_some_iff.mp H;obtain ⟨t387,A120,H⟩:=H;replace H:(if t387≥0 then (some false) else (impl_LinesRight.l0 k1 l0 l0 (l0.length:Int) (wrap64 (x10_1+1))))=some r:=H;have A12:=am A120;clear A120
           by_cases c13:t387≥0
           ·rw [if_pos c13] at H;have c13b0:decide (0≤t387)=true:=decide_eq_true c13;clear c13;obtain rfl:=Option.some.inj H;have p383:0≤(x10_1:Int):=oa;have q383:x10_1<(l0.length:Int):=oa;obtain ⟨ad383,e383,hx383_0,hx383_1,hx383_2,hx383_3,hx383_4,hx383_5,hx383_6,hx383_7⟩:=at_T73 HR0.out x10_1 p383 q383
            cases e383
            replace hx383_0:=cb HB hx383_0;replace hx383_1:=cb HB hx383_1;replace hx383_2:=cb HB hx383_2;replace hx383_3:=cb HB hx383_3;replace hx383_4:=cb HB hx383_4;replace hx383_5:=cb HB hx383_5;replace hx383_6:=cb HB hx383_6;replace hx383_7:=cb HB hx383_7;replace p383:=eq_true p383;replace q383:=eq_true q383
            try go_wp2_with (first|((with_reducible refine gate_dst (N:=4) rfl ?_);refine bx 4 (cs:=#[.string (⟨#[]⟩:ByteArray),.string (⟨#[]⟩:ByteArray),.int .i64 0,.string (⟨#[]⟩:ByteArray),.int .i64 0,.int .i64 0,.int .i64 0,.int .i64 0]) (t:=73) ?_;intro gb384 hg w14 hbox hb;have BK384:=am (hbox);have GW384:=am ((gs hg (bs HB)));have GE384:=am ((gs hg (bs HB)));replace HB:=am (below_step (bs HB) hb);clear hb hbox hg;obtain ⟨hcz15_0,hcz15_1,hcz15_2,hcz15_3,hcz15_4,hcz15_5,hcz15_6,hcz15_7,hfz15_0,hfz15_1,hfz15_2,hfz15_3,hfz15_4,hfz15_5,hfz15_6,hfz15_7⟩:=cf8 BK384))
            have n0_:Aside0 (((((((((w14.setCell ⟨gb384,0,none⟩ (.string ((rd_T73 l0 x10_1).f0))).setCell ⟨gb384,1,none⟩ (.string ((rd_T73 l0 x10_1).f1))).setCell ⟨gb384,2,none⟩ (.int .i64 ((rd_T73 l0 x10_1).f2))).setCell ⟨gb384,3,none⟩ (.string ((rd_T73 l0 x10_1).f3))).setCell ⟨gb384,4,none⟩ (.int .i64 ((rd_T73 l0 x10_1).f4))).setCell ⟨gb384,5,none⟩ (.int .i64 ((rd_T73 l0 x10_1).f5))).setCell ⟨gb384,6,none⟩ (.int .i64 ((rd_T73 l0 x10_1).f6))).setCell ⟨gb384,7,none⟩ (.int .i64 ((rd_T73 l0 x10_1).f7))).heap[gb384]? = some (.cells #[.string ((rd_T73 l0 x10_1).f0),.string ((rd_T73 l0 x10_1).f1),.int .i64 ((rd_T73 l0 x10_1).f2),.string ((rd_T73 l0 x10_1).f3),.int .i64 ((rd_T73 l0 x10_1).f4),.int .i64 ((rd_T73 l0 x10_1).f5),.int .i64 ((rd_T73 l0 x10_1).f6),.int .i64 ((rd_T73 l0 x10_1).f7)] 73 (0,0))):=⟨kp BK384⟩;have n1_:Aside0 (Below w.heap.size w ((((((((w14.setCell ⟨gb384,0,none⟩ (.string ((rd_T73 l0 x10_1).f0))).setCell ⟨gb384,1,none⟩ (.string ((rd_T73 l0 x10_1).f1))).setCell ⟨gb384,2,none⟩ (.int .i64 ((rd_T73 l0 x10_1).f2))).setCell ⟨gb384,3,none⟩ (.string ((rd_T73 l0 x10_1).f3))).setCell ⟨gb384,4,none⟩ (.int .i64 ((rd_T73 l0 x10_1).f4))).setCell ⟨gb384,5,none⟩ (.int .i64 ((rd_T73 l0 x10_1).f5))).setCell ⟨gb384,6,none⟩ (.int .i64 ((rd_T73 l0 x10_1).f6))).setCell ⟨gb384,7,none⟩ (.int .i64 ((rd_T73 l0 x10_1).f7)))):=⟨bs HB⟩;(try clear BK384);(try clear HB)
            generalize ((((((((w14.setCell ⟨gb384,0,none⟩ (.string ((rd_T73 l0 x10_1).f0))).setCell ⟨gb384,1,none⟩ (.string ((rd_T73 l0 x10_1).f1))).setCell ⟨gb384,2,none⟩ (.int .i64 ((rd_T73 l0 x10_1).f2))).setCell ⟨gb384,3,none⟩ (.string ((rd_T73 l0 x10_1).f3))).setCell ⟨gb384,4,none⟩ (.int .i64 ((rd_T73 l0 x10_1).f4))).setCell ⟨gb384,5,none⟩ (.int .i64 ((rd_T73 l0 x10_1).f5))).setCell ⟨gb384,6,none⟩ (.int .i64 ((rd_T73 l0 x10_1).f6))).setCell ⟨gb384,7,none⟩ (.int .i64 ((rd_T73 l0 x10_1).f7)))=w16 at n0_ n1_ ⊢
            have BK384:=n0_;have HB:=n1_;clear n0_ n1_;replace BK384:=am (blk_drew BK384.out);replace HB:=am (below_drew1 HB.out);have p386:0≤((ji9):Int):=oa;have q386:(ji9)<(l0.length:Int):=oa;obtain ⟨ad386,e386,hx386_0,hx386_1,hx386_2,hx386_3,hx386_4,hx386_5,hx386_6,hx386_7⟩:=at_T73 HR0.out (ji9) p386 q386;have hw386_7:=hx386_7;have hw386_6:=hx386_6;have hw386_5:=hx386_5;have hw386_4:=hx386_4;have hw386_3:=hx386_3;have hw386_2:=hx386_2;have hw386_1:=hx386_1;have hw386_0:=hx386_0;obtain rfl:ad383=ad386:=(by injection e386);replace hx386_0:=cb HB hx386_0;replace hx386_1:=cb HB hx386_1;replace hx386_2:=cb HB hx386_2;replace hx386_3:=cb HB hx386_3;replace hx386_4:=cb HB hx386_4;replace hx386_5:=cb HB hx386_5;replace hx386_6:=cb HB hx386_6;replace hx386_7:=cb HB hx386_7;replace p386:=eq_true p386;replace q386:=eq_true q386;refine start_ (n:=17) (S:=fun w'=>qk8a w' gb384 (.string ((rd_T73 l0 x10_1).f0)) (.string ((rd_T73 l0 x10_1).f1)) (.int .i64 ((rd_T73 l0 x10_1).f2)) (.string ((rd_T73 l0 x10_1).f3)) (.int .i64 ((rd_T73 l0 x10_1).f4)) (.int .i64 ((rd_T73 l0 x10_1).f5)) (.int .i64 ((rd_T73 l0 x10_1).f6)) (.int .i64 ((rd_T73 l0 x10_1).f7)) (qe8 w' (ad383.add (((ji9)).toNat * 8)) (.string ((rd_T73 l0 (ji9)).f0)) (.string ((rd_T73 l0 (ji9)).f1)) (.int .i64 ((rd_T73 l0 (ji9)).f2)) (.string ((rd_T73 l0 (ji9)).f3)) (.int .i64 ((rd_T73 l0 (ji9)).f4)) (.int .i64 ((rd_T73 l0 (ji9)).f5)) (.int .i64 ((rd_T73 l0 (ji9)).f6)) (.int .i64 ((rd_T73 l0 (ji9)).f7)))) (ds:=[]) _ (by kernel_rfl) rfl rfl (qb8a BK384 ⟨((cb HB hw386_0).trans rfl),((cb HB hw386_1).trans rfl),((cb HB hw386_2).trans rfl),((cb HB hw386_3).trans rfl),((cb HB hw386_4).trans rfl),((cb HB hw386_5).trans rfl),((cb HB hw386_6).trans rfl),((cb HB hw386_7).trans rfl)⟩) (fun hHeld=>?_);refine with_tabW impl_LinesRight.tab6 impl_LinesRight.bits6 (fun HT_ HW_=>?_)
            generalize w16.drew=w17 at BK384 HB hx386_0 hx386_1 hx386_2 hx386_3 hx386_4 hx386_5 hx386_6 hx386_7 hHeld ⊢
            refine tA 0 15 HT_ HW_ hHeld ?_;refine oA 1 16 HT_ (fun K hK=>?_);refine gA Try.func110 #[.agg #[.string ((rd_T73 l0 x10_1).f0),.string ((rd_T73 l0 x10_1).f1),.int .i64 ((rd_T73 l0 x10_1).f2),.string ((rd_T73 l0 x10_1).f3),.int .i64 ((rd_T73 l0 x10_1).f4),.int .i64 ((rd_T73 l0 x10_1).f5),.int .i64 ((rd_T73 l0 x10_1).f6),.int .i64 ((rd_T73 l0 x10_1).f7)]] ?_;(with_reducible refine (impl_LineRight.calls k1 ((rd_T73 l0 x10_1).f0) ((rd_T73 l0 x10_1).f1) ((rd_T73 l0 x10_1).f2) ((rd_T73 l0 x10_1).f3) ((rd_T73 l0 x10_1).f4) ((rd_T73 l0 x10_1).f5) ((rd_T73 l0 x10_1).f6) ((rd_T73 l0 x10_1).f7) true _ A6.out).mono ?_);rintro e w18 ⟨rfl,hb⟩;refine ⟨_,rfl,?_⟩;replace BK384:=am (blk_below (ks BK384) hb);replace HB:=am (below_step (bs HB) hb);(try clear hb);(try clear hb2);(try clear hk);(try clear hi);refine hK.out _ _ (qb8a BK384 ⟨((cb HB hw386_0).trans rfl),((cb HB hw386_1).trans rfl),((cb HB hw386_2).trans rfl),((cb HB hw386_3).trans rfl),((cb HB hw386_4).trans rfl),((cb HB hw386_5).trans rfl),((cb HB hw386_6).trans rfl),((cb HB hw386_7).trans rfl)⟩) (fun hHeld=>?_);clear hK K;refine nA 16 ?_;refine pA 2 17 HT_ ?_;refine pA 3 18 HT_ ?_;refine pA 4 19 HT_ ?_;refine pA 5 20 HT_ ?_;refine pA 6 21 HT_ ?_;refine pA 7 22 HT_ ?_;refine pA 8 23 HT_ ?_;refine pA 9 24 HT_ ?_;refine pA 10 25 HT_ ?_;refine tA 11 26 HT_ HW_ hHeld ?_;refine tA 12 27 HT_ HW_ hHeld ?_;refine oA 13 28 HT_ (fun K hK=>?_);refine goes_ Try.func111 (by kernel_rfl) rfl #[.agg #[.string ((rd_T73 l0 (ji9)).f0),.string ((rd_T73 l0 (ji9)).f1),.int .i64 ((rd_T73 l0 (ji9)).f2),.string ((rd_T73 l0 (ji9)).f3),.int .i64 ((rd_T73 l0 (ji9)).f4),.int .i64 ((rd_T73 l0 (ji9)).f5),.int .i64 ((rd_T73 l0 (ji9)).f6),.int .i64 ((rd_T73 l0 (ji9)).f7)],.agg #[.string ((rd_T73 l0 x10_1).f0),.string ((rd_T73 l0 x10_1).f1),.int .i64 ((rd_T73 l0 x10_1).f2),.string ((rd_T73 l0 x10_1).f3),.int .i64 ((rd_T73 l0 x10_1).f4),.int .i64 ((rd_T73 l0 x10_1).f5),.int .i64 ((rd_T73 l0 x10_1).f6),.int .i64 ((rd_T73 l0 x10_1).f7)]] (by rfl) rfl rfl (by (try simp only [List.map_toArray,List.map_cons,List.map_nil]);first|done|(simp only [hji9];rfl)|rfl|(simp only [List.length_drop,List.length_take];rfl)) ?_;(with_reducible refine (impl_lineOrder.calls k1 ((rd_T73 l0 (ji9)).f0) ((rd_T73 l0 (ji9)).f1) ((rd_T73 l0 (ji9)).f2) ((rd_T73 l0 (ji9)).f3) ((rd_T73 l0 (ji9)).f4) ((rd_T73 l0 (ji9)).f5) ((rd_T73 l0 (ji9)).f6) ((rd_T73 l0 (ji9)).f7) ((rd_T73 l0 x10_1).f0) ((rd_T73 l0 x10_1).f1) ((rd_T73 l0 x10_1).f2) ((rd_T73 l0 x10_1).f3) ((rd_T73 l0 x10_1).f4) ((rd_T73 l0 x10_1).f5) ((rd_T73 l0 x10_1).f6) ((rd_T73 l0 x10_1).f7) t387 _ A12.out).mono ?_);rintro e w19 ⟨rfl,hb⟩;refine ⟨_,rfl,?_⟩;replace BK384:=am (blk_below (ks BK384) hb);replace HB:=am (below_step (bs HB) hb);(try clear hb);(try clear hb2);(try clear hk);(try clear hi);refine hK.out _ _ (qb8a BK384 ⟨((cb HB hw386_0).trans rfl),((cb HB hw386_1).trans rfl),((cb HB hw386_2).trans rfl),((cb HB hw386_3).trans rfl),((cb HB hw386_4).trans rfl),((cb HB hw386_5).trans rfl),((cb HB hw386_6).trans rfl),((cb HB hw386_7).trans rfl)⟩) (fun hHeld=>?_);clear hK K;refine nA 28 ?_;refine pA 14 29 HT_ ?_;refine pA 15 30 HT_ ?_;refine pA 16 31 HT_ ?_;refine done_ (done_of HT_.out (by kernel_rfl)) ?_
            try go_wp2
            go_ret
            exact ⟨by first|rfl|(simp [errW_none,errW_some] <;> rfl)|(simp only [← hji9];first|rfl|(simp [errW_none,errW_some] <;> rfl))|(simp [*,errW_none,errW_some] <;> rfl),bs HB⟩
           ·rw [if_neg c13] at H;have c13b0:decide (0≤t387)=false:=decide_eq_false c13;clear c13;have H':=am H;clear H;have p383:0≤(x10_1:Int):=oa;have q383:x10_1<(l0.length:Int):=oa;obtain ⟨ad383,e383,hx383_0,hx383_1,hx383_2,hx383_3,hx383_4,hx383_5,hx383_6,hx383_7⟩:=at_T73 HR0.out x10_1 p383 q383
            cases e383
            replace hx383_0:=cb HB hx383_0;replace hx383_1:=cb HB hx383_1;replace hx383_2:=cb HB hx383_2;replace hx383_3:=cb HB hx383_3;replace hx383_4:=cb HB hx383_4;replace hx383_5:=cb HB hx383_5;replace hx383_6:=cb HB hx383_6;replace hx383_7:=cb HB hx383_7;replace p383:=eq_true p383;replace q383:=eq_true q383
            try go_wp2_with (first|((with_reducible refine gate_dst (N:=4) rfl ?_);refine bx 4 (cs:=#[.string (⟨#[]⟩:ByteArray),.string (⟨#[]⟩:ByteArray),.int .i64 0,.string (⟨#[]⟩:ByteArray),.int .i64 0,.int .i64 0,.int .i64 0,.int .i64 0]) (t:=73) ?_;intro gb384 hg w20 hbox hb;have BK384:=am (hbox);have GW384:=am ((gs hg (bs HB)));have GE384:=am ((gs hg (bs HB)));replace HB:=am (below_step (bs HB) hb);clear hb hbox hg;obtain ⟨hcz21_0,hcz21_1,hcz21_2,hcz21_3,hcz21_4,hcz21_5,hcz21_6,hcz21_7,hfz21_0,hfz21_1,hfz21_2,hfz21_3,hfz21_4,hfz21_5,hfz21_6,hfz21_7⟩:=cf8 BK384))
            have n0_:Aside0 (((((((((w20.setCell ⟨gb384,0,none⟩ (.string ((rd_T73 l0 x10_1).f0))).setCell ⟨gb384,1,none⟩ (.string ((rd_T73 l0 x10_1).f1))).setCell ⟨gb384,2,none⟩ (.int .i64 ((rd_T73 l0 x10_1).f2))).setCell ⟨gb384,3,none⟩ (.string ((rd_T73 l0 x10_1).f3))).setCell ⟨gb384,4,none⟩ (.int .i64 ((rd_T73 l0 x10_1).f4))).setCell ⟨gb384,5,none⟩ (.int .i64 ((rd_T73 l0 x10_1).f5))).setCell ⟨gb384,6,none⟩ (.int .i64 ((rd_T73 l0 x10_1).f6))).setCell ⟨gb384,7,none⟩ (.int .i64 ((rd_T73 l0 x10_1).f7))).heap[gb384]? = some (.cells #[.string ((rd_T73 l0 x10_1).f0),.string ((rd_T73 l0 x10_1).f1),.int .i64 ((rd_T73 l0 x10_1).f2),.string ((rd_T73 l0 x10_1).f3),.int .i64 ((rd_T73 l0 x10_1).f4),.int .i64 ((rd_T73 l0 x10_1).f5),.int .i64 ((rd_T73 l0 x10_1).f6),.int .i64 ((rd_T73 l0 x10_1).f7)] 73 (0,0))):=⟨kp BK384⟩;have n1_:Aside0 (Below w.heap.size w ((((((((w20.setCell ⟨gb384,0,none⟩ (.string ((rd_T73 l0 x10_1).f0))).setCell ⟨gb384,1,none⟩ (.string ((rd_T73 l0 x10_1).f1))).setCell ⟨gb384,2,none⟩ (.int .i64 ((rd_T73 l0 x10_1).f2))).setCell ⟨gb384,3,none⟩ (.string ((rd_T73 l0 x10_1).f3))).setCell ⟨gb384,4,none⟩ (.int .i64 ((rd_T73 l0 x10_1).f4))).setCell ⟨gb384,5,none⟩ (.int .i64 ((rd_T73 l0 x10_1).f5))).setCell ⟨gb384,6,none⟩ (.int .i64 ((rd_T73 l0 x10_1).f6))).setCell ⟨gb384,7,none⟩ (.int .i64 ((rd_T73 l0 x10_1).f7)))):=⟨bs HB⟩;(try clear BK384);(try clear HB)
            generalize ((((((((w20.setCell ⟨gb384,0,none⟩ (.string ((rd_T73 l0 x10_1).f0))).setCell ⟨gb384,1,none⟩ (.string ((rd_T73 l0 x10_1).f1))).setCell ⟨gb384,2,none⟩ (.int .i64 ((rd_T73 l0 x10_1).f2))).setCell ⟨gb384,3,none⟩ (.string ((rd_T73 l0 x10_1).f3))).setCell ⟨gb384,4,none⟩ (.int .i64 ((rd_T73 l0 x10_1).f4))).setCell ⟨gb384,5,none⟩ (.int .i64 ((rd_T73 l0 x10_1).f5))).setCell ⟨gb384,6,none⟩ (.int .i64 ((rd_T73 l0 x10_1).f6))).setCell ⟨gb384,7,none⟩ (.int .i64 ((rd_T73 l0 x10_1).f7)))=w22 at n0_ n1_ ⊢
            have BK384:=n0_;have HB:=n1_;clear n0_ n1_;replace BK384:=am (blk_drew BK384.out);replace HB:=am (below_drew1 HB.out);have p386:0≤((ji9):Int):=oa;have q386:(ji9)<(l0.length:Int):=oa;obtain ⟨ad386,e386,hx386_0,hx386_1,hx386_2,hx386_3,hx386_4,hx386_5,hx386_6,hx386_7⟩:=at_T73 HR0.out (ji9) p386 q386;have hw386_7:=hx386_7;have hw386_6:=hx386_6;have hw386_5:=hx386_5;have hw386_4:=hx386_4;have hw386_3:=hx386_3;have hw386_2:=hx386_2;have hw386_1:=hx386_1;have hw386_0:=hx386_0;obtain rfl:ad383=ad386:=(by injection e386);replace hx386_0:=cb HB hx386_0;replace hx386_1:=cb HB hx386_1;replace hx386_2:=cb HB hx386_2;replace hx386_3:=cb HB hx386_3;replace hx386_4:=cb HB hx386_4;replace hx386_5:=cb HB hx386_5;replace hx386_6:=cb HB hx386_6;replace hx386_7:=cb HB hx386_7;replace p386:=eq_true p386;replace q386:=eq_true q386;refine start_ (n:=17) (S:=fun w'=>qk8a w' gb384 (.string ((rd_T73 l0 x10_1).f0)) (.string ((rd_T73 l0 x10_1).f1)) (.int .i64 ((rd_T73 l0 x10_1).f2)) (.string ((rd_T73 l0 x10_1).f3)) (.int .i64 ((rd_T73 l0 x10_1).f4)) (.int .i64 ((rd_T73 l0 x10_1).f5)) (.int .i64 ((rd_T73 l0 x10_1).f6)) (.int .i64 ((rd_T73 l0 x10_1).f7)) (qe8 w' (ad383.add (((ji9)).toNat * 8)) (.string ((rd_T73 l0 (ji9)).f0)) (.string ((rd_T73 l0 (ji9)).f1)) (.int .i64 ((rd_T73 l0 (ji9)).f2)) (.string ((rd_T73 l0 (ji9)).f3)) (.int .i64 ((rd_T73 l0 (ji9)).f4)) (.int .i64 ((rd_T73 l0 (ji9)).f5)) (.int .i64 ((rd_T73 l0 (ji9)).f6)) (.int .i64 ((rd_T73 l0 (ji9)).f7)))) (ds:=[]) _ (by kernel_rfl) rfl rfl (qb8a BK384 ⟨((cb HB hw386_0).trans rfl),((cb HB hw386_1).trans rfl),((cb HB hw386_2).trans rfl),((cb HB hw386_3).trans rfl),((cb HB hw386_4).trans rfl),((cb HB hw386_5).trans rfl),((cb HB hw386_6).trans rfl),((cb HB hw386_7).trans rfl)⟩) (fun hHeld=>?_);refine with_tabW impl_LinesRight.tab6 impl_LinesRight.bits6 (fun HT_ HW_=>?_)
            generalize w22.drew=w23 at BK384 HB hx386_0 hx386_1 hx386_2 hx386_3 hx386_4 hx386_5 hx386_6 hx386_7 hHeld ⊢
            refine tA 0 15 HT_ HW_ hHeld ?_;refine oA 1 16 HT_ (fun K hK=>?_);refine gA Try.func110 #[.agg #[.string ((rd_T73 l0 x10_1).f0),.string ((rd_T73 l0 x10_1).f1),.int .i64 ((rd_T73 l0 x10_1).f2),.string ((rd_T73 l0 x10_1).f3),.int .i64 ((rd_T73 l0 x10_1).f4),.int .i64 ((rd_T73 l0 x10_1).f5),.int .i64 ((rd_T73 l0 x10_1).f6),.int .i64 ((rd_T73 l0 x10_1).f7)]] ?_;(with_reducible refine (impl_LineRight.calls k1 ((rd_T73 l0 x10_1).f0) ((rd_T73 l0 x10_1).f1) ((rd_T73 l0 x10_1).f2) ((rd_T73 l0 x10_1).f3) ((rd_T73 l0 x10_1).f4) ((rd_T73 l0 x10_1).f5) ((rd_T73 l0 x10_1).f6) ((rd_T73 l0 x10_1).f7) true _ A6.out).mono ?_);rintro e w24 ⟨rfl,hb⟩;refine ⟨_,rfl,?_⟩;replace BK384:=am (blk_below (ks BK384) hb);replace HB:=am (below_step (bs HB) hb);(try clear hb);(try clear hb2);(try clear hk);(try clear hi);refine hK.out _ _ (qb8a BK384 ⟨((cb HB hw386_0).trans rfl),((cb HB hw386_1).trans rfl),((cb HB hw386_2).trans rfl),((cb HB hw386_3).trans rfl),((cb HB hw386_4).trans rfl),((cb HB hw386_5).trans rfl),((cb HB hw386_6).trans rfl),((cb HB hw386_7).trans rfl)⟩) (fun hHeld=>?_);clear hK K;refine nA 16 ?_;refine pA 2 17 HT_ ?_;refine pA 3 18 HT_ ?_;refine pA 4 19 HT_ ?_;refine pA 5 20 HT_ ?_;refine pA 6 21 HT_ ?_;refine pA 7 22 HT_ ?_;refine pA 8 23 HT_ ?_;refine pA 9 24 HT_ ?_;refine pA 10 25 HT_ ?_;refine tA 11 26 HT_ HW_ hHeld ?_;refine tA 12 27 HT_ HW_ hHeld ?_;refine oA 13 28 HT_ (fun K hK=>?_);refine goes_ Try.func111 (by kernel_rfl) rfl #[.agg #[.string ((rd_T73 l0 (ji9)).f0),.string ((rd_T73 l0 (ji9)).f1),.int .i64 ((rd_T73 l0 (ji9)).f2),.string ((rd_T73 l0 (ji9)).f3),.int .i64 ((rd_T73 l0 (ji9)).f4),.int .i64 ((rd_T73 l0 (ji9)).f5),.int .i64 ((rd_T73 l0 (ji9)).f6),.int .i64 ((rd_T73 l0 (ji9)).f7)],.agg #[.string ((rd_T73 l0 x10_1).f0),.string ((rd_T73 l0 x10_1).f1),.int .i64 ((rd_T73 l0 x10_1).f2),.string ((rd_T73 l0 x10_1).f3),.int .i64 ((rd_T73 l0 x10_1).f4),.int .i64 ((rd_T73 l0 x10_1).f5),.int .i64 ((rd_T73 l0 x10_1).f6),.int .i64 ((rd_T73 l0 x10_1).f7)]] (by rfl) rfl rfl (by (try simp only [List.map_toArray,List.map_cons,List.map_nil]);first|done|(simp only [hji9];rfl)|rfl|(simp only [List.length_drop,List.length_take];rfl)) ?_;(with_reducible refine (impl_lineOrder.calls k1 ((rd_T73 l0 (ji9)).f0) ((rd_T73 l0 (ji9)).f1) ((rd_T73 l0 (ji9)).f2) ((rd_T73 l0 (ji9)).f3) ((rd_T73 l0 (ji9)).f4) ((rd_T73 l0 (ji9)).f5) ((rd_T73 l0 (ji9)).f6) ((rd_T73 l0 (ji9)).f7) ((rd_T73 l0 x10_1).f0) ((rd_T73 l0 x10_1).f1) ((rd_T73 l0 x10_1).f2) ((rd_T73 l0 x10_1).f3) ((rd_T73 l0 x10_1).f4) ((rd_T73 l0 x10_1).f5) ((rd_T73 l0 x10_1).f6) ((rd_T73 l0 x10_1).f7) t387 _ A12.out).mono ?_);rintro e w25 ⟨rfl,hb⟩;refine ⟨_,rfl,?_⟩;replace BK384:=am (blk_below (ks BK384) hb);replace HB:=am (below_step (bs HB) hb);(try clear hb);(try clear hb2);(try clear hk);(try clear hi);refine hK.out _ _ (qb8a BK384 ⟨((cb HB hw386_0).trans rfl),((cb HB hw386_1).trans rfl),((cb HB hw386_2).trans rfl),((cb HB hw386_3).trans rfl),((cb HB hw386_4).trans rfl),((cb HB hw386_5).trans rfl),((cb HB hw386_6).trans rfl),((cb HB hw386_7).trans rfl)⟩) (fun hHeld=>?_);clear hK K;refine nA 28 ?_;refine pA 14 29 HT_ ?_;refine pA 15 30 HT_ ?_;refine pA 16 31 HT_ ?_;refine done_ (done_of HT_.out (by kernel_rfl)) ?_
            try go_wp2
            go_roundg k1
            case measure=>have:=HK1.out;omega
            case rel=>exact ⟨(wrap64 (x10_1+1)),fg,H',⟨by have:=HK1.out;omega⟩,⟨bs HB⟩⟩
          ·rw [if_neg c11] at H
           exact absurd H (by simp)
         ·rw [if_neg c10] at H
          exact absurd H (by simp)
        ·rw [if_neg c8] at H;have c8b0:decide (0<x10_1)=false:=decide_eq_false c8;clear c8;have H':=am H;clear H;have p383:0≤(x10_1:Int):=oa;have q383:x10_1<(l0.length:Int):=oa;obtain ⟨ad383,e383,hx383_0,hx383_1,hx383_2,hx383_3,hx383_4,hx383_5,hx383_6,hx383_7⟩:=at_T73 HR0.out x10_1 p383 q383
         cases e383
         replace hx383_0:=cb HB hx383_0;replace hx383_1:=cb HB hx383_1;replace hx383_2:=cb HB hx383_2;replace hx383_3:=cb HB hx383_3;replace hx383_4:=cb HB hx383_4;replace hx383_5:=cb HB hx383_5;replace hx383_6:=cb HB hx383_6;replace hx383_7:=cb HB hx383_7;replace p383:=eq_true p383;replace q383:=eq_true q383
         try go_wp2_with (first|((with_reducible refine gate_dst (N:=4) rfl ?_);refine bx 4 (cs:=#[.string (⟨#[]⟩:ByteArray),.string (⟨#[]⟩:ByteArray),.int .i64 0,.string (⟨#[]⟩:ByteArray),.int .i64 0,.int .i64 0,.int .i64 0,.int .i64 0]) (t:=73) ?_;intro gb384 hg w26 hbox hb;have BK384:=am (hbox);have GW384:=am ((gs hg (bs HB)));have GE384:=am ((gs hg (bs HB)));replace HB:=am (below_step (bs HB) hb);clear hb hbox hg;obtain ⟨hcz27_0,hcz27_1,hcz27_2,hcz27_3,hcz27_4,hcz27_5,hcz27_6,hcz27_7,hfz27_0,hfz27_1,hfz27_2,hfz27_3,hfz27_4,hfz27_5,hfz27_6,hfz27_7⟩:=cf8 BK384))
         have n0_:Aside0 (((((((((w26.setCell ⟨gb384,0,none⟩ (.string ((rd_T73 l0 x10_1).f0))).setCell ⟨gb384,1,none⟩ (.string ((rd_T73 l0 x10_1).f1))).setCell ⟨gb384,2,none⟩ (.int .i64 ((rd_T73 l0 x10_1).f2))).setCell ⟨gb384,3,none⟩ (.string ((rd_T73 l0 x10_1).f3))).setCell ⟨gb384,4,none⟩ (.int .i64 ((rd_T73 l0 x10_1).f4))).setCell ⟨gb384,5,none⟩ (.int .i64 ((rd_T73 l0 x10_1).f5))).setCell ⟨gb384,6,none⟩ (.int .i64 ((rd_T73 l0 x10_1).f6))).setCell ⟨gb384,7,none⟩ (.int .i64 ((rd_T73 l0 x10_1).f7))).heap[gb384]? = some (.cells #[.string ((rd_T73 l0 x10_1).f0),.string ((rd_T73 l0 x10_1).f1),.int .i64 ((rd_T73 l0 x10_1).f2),.string ((rd_T73 l0 x10_1).f3),.int .i64 ((rd_T73 l0 x10_1).f4),.int .i64 ((rd_T73 l0 x10_1).f5),.int .i64 ((rd_T73 l0 x10_1).f6),.int .i64 ((rd_T73 l0 x10_1).f7)] 73 (0,0))):=⟨kp BK384⟩;have n1_:Aside0 (Below w.heap.size w ((((((((w26.setCell ⟨gb384,0,none⟩ (.string ((rd_T73 l0 x10_1).f0))).setCell ⟨gb384,1,none⟩ (.string ((rd_T73 l0 x10_1).f1))).setCell ⟨gb384,2,none⟩ (.int .i64 ((rd_T73 l0 x10_1).f2))).setCell ⟨gb384,3,none⟩ (.string ((rd_T73 l0 x10_1).f3))).setCell ⟨gb384,4,none⟩ (.int .i64 ((rd_T73 l0 x10_1).f4))).setCell ⟨gb384,5,none⟩ (.int .i64 ((rd_T73 l0 x10_1).f5))).setCell ⟨gb384,6,none⟩ (.int .i64 ((rd_T73 l0 x10_1).f6))).setCell ⟨gb384,7,none⟩ (.int .i64 ((rd_T73 l0 x10_1).f7)))):=⟨bs HB⟩;(try clear BK384);(try clear HB)
         generalize ((((((((w26.setCell ⟨gb384,0,none⟩ (.string ((rd_T73 l0 x10_1).f0))).setCell ⟨gb384,1,none⟩ (.string ((rd_T73 l0 x10_1).f1))).setCell ⟨gb384,2,none⟩ (.int .i64 ((rd_T73 l0 x10_1).f2))).setCell ⟨gb384,3,none⟩ (.string ((rd_T73 l0 x10_1).f3))).setCell ⟨gb384,4,none⟩ (.int .i64 ((rd_T73 l0 x10_1).f4))).setCell ⟨gb384,5,none⟩ (.int .i64 ((rd_T73 l0 x10_1).f5))).setCell ⟨gb384,6,none⟩ (.int .i64 ((rd_T73 l0 x10_1).f6))).setCell ⟨gb384,7,none⟩ (.int .i64 ((rd_T73 l0 x10_1).f7)))=w28 at n0_ n1_ ⊢
         have BK384:=n0_;have HB:=n1_;clear n0_ n1_;replace BK384:=am (blk_drew BK384.out);replace HB:=am (below_drew1 HB.out);refine start_ (n:=17) (S:=fun w'=>qk8 w' gb384 (.string ((rd_T73 l0 x10_1).f0)) (.string ((rd_T73 l0 x10_1).f1)) (.int .i64 ((rd_T73 l0 x10_1).f2)) (.string ((rd_T73 l0 x10_1).f3)) (.int .i64 ((rd_T73 l0 x10_1).f4)) (.int .i64 ((rd_T73 l0 x10_1).f5)) (.int .i64 ((rd_T73 l0 x10_1).f6)) (.int .i64 ((rd_T73 l0 x10_1).f7))) (ds:=[]) _ (by kernel_rfl) rfl rfl (qb8 BK384) (fun hHeld=>?_);refine with_tabW impl_LinesRight.tab6 impl_LinesRight.bits6 (fun HT_ HW_=>?_)
         generalize w28.drew=w29 at BK384 HB hHeld ⊢
         refine tA 0 15 HT_ HW_ hHeld ?_;refine oA 1 16 HT_ (fun K hK=>?_);refine gA Try.func110 #[.agg #[.string ((rd_T73 l0 x10_1).f0),.string ((rd_T73 l0 x10_1).f1),.int .i64 ((rd_T73 l0 x10_1).f2),.string ((rd_T73 l0 x10_1).f3),.int .i64 ((rd_T73 l0 x10_1).f4),.int .i64 ((rd_T73 l0 x10_1).f5),.int .i64 ((rd_T73 l0 x10_1).f6),.int .i64 ((rd_T73 l0 x10_1).f7)]] ?_;(with_reducible refine (impl_LineRight.calls k1 ((rd_T73 l0 x10_1).f0) ((rd_T73 l0 x10_1).f1) ((rd_T73 l0 x10_1).f2) ((rd_T73 l0 x10_1).f3) ((rd_T73 l0 x10_1).f4) ((rd_T73 l0 x10_1).f5) ((rd_T73 l0 x10_1).f6) ((rd_T73 l0 x10_1).f7) true _ A6.out).mono ?_);rintro e w30 ⟨rfl,hb⟩;refine ⟨_,rfl,?_⟩;replace BK384:=am (blk_below (ks BK384) hb);replace HB:=am (below_step (bs HB) hb);(try clear hb);(try clear hb2);(try clear hk);(try clear hi);refine hK.out _ _ (qb8 BK384) (fun hHeld=>?_);clear hK K;refine nA 16 ?_;refine pA 2 17 HT_ ?_;refine pA 3 18 HT_ ?_;refine pA 4 19 HT_ ?_;refine pA 5 20 HT_ ?_;refine pA 6 21 HT_ ?_;refine pB 7 22 HT_ ?_;refine pB 8 23 HT_ ?_;refine pB 9 24 HT_ ?_;refine pB 10 25 HT_ ?_;refine pB 11 26 HT_ ?_;refine pB 12 27 HT_ ?_;refine pB 13 28 HT_ ?_;refine pB 14 29 HT_ ?_;refine pA 15 30 HT_ ?_;refine pA 16 31 HT_ ?_;refine done_ (done_of HT_.out (by kernel_rfl)) ?_
         try go_wp2
         go_roundg k1
         case measure=>have:=HK1.out;omega
         case rel=>exact ⟨(wrap64 (x10_1+1)),fg,H',⟨by have:=HK1.out;omega⟩,⟨bs HB⟩⟩
       ·replace c7:=Bool.eq_false_iff.mpr c7;subst c7
        have H1:(some false)=some r:=by rw [if_neg (show ¬ (false=true) by decide)] at H;exact H
        clear H;have H:=H1;clear H1;obtain rfl:=Option.some.inj H;have p383:0≤(x10_1:Int):=oa;have q383:x10_1<(l0.length:Int):=oa;obtain ⟨ad383,e383,hx383_0,hx383_1,hx383_2,hx383_3,hx383_4,hx383_5,hx383_6,hx383_7⟩:=at_T73 HR0.out x10_1 p383 q383
        cases e383
        replace hx383_0:=cb HB hx383_0;replace hx383_1:=cb HB hx383_1;replace hx383_2:=cb HB hx383_2;replace hx383_3:=cb HB hx383_3;replace hx383_4:=cb HB hx383_4;replace hx383_5:=cb HB hx383_5;replace hx383_6:=cb HB hx383_6;replace hx383_7:=cb HB hx383_7;replace p383:=eq_true p383;replace q383:=eq_true q383
        try go_wp2_with (first|((with_reducible refine gate_dst (N:=4) rfl ?_);refine bx 4 (cs:=#[.string (⟨#[]⟩:ByteArray),.string (⟨#[]⟩:ByteArray),.int .i64 0,.string (⟨#[]⟩:ByteArray),.int .i64 0,.int .i64 0,.int .i64 0,.int .i64 0]) (t:=73) ?_;intro gb384 hg w31 hbox hb;have BK384:=am (hbox);have GW384:=am ((gs hg (bs HB)));have GE384:=am ((gs hg (bs HB)));replace HB:=am (below_step (bs HB) hb);clear hb hbox hg;obtain ⟨hcz32_0,hcz32_1,hcz32_2,hcz32_3,hcz32_4,hcz32_5,hcz32_6,hcz32_7,hfz32_0,hfz32_1,hfz32_2,hfz32_3,hfz32_4,hfz32_5,hfz32_6,hfz32_7⟩:=cf8 BK384))
        have n0_:Aside0 (((((((((w31.setCell ⟨gb384,0,none⟩ (.string ((rd_T73 l0 x10_1).f0))).setCell ⟨gb384,1,none⟩ (.string ((rd_T73 l0 x10_1).f1))).setCell ⟨gb384,2,none⟩ (.int .i64 ((rd_T73 l0 x10_1).f2))).setCell ⟨gb384,3,none⟩ (.string ((rd_T73 l0 x10_1).f3))).setCell ⟨gb384,4,none⟩ (.int .i64 ((rd_T73 l0 x10_1).f4))).setCell ⟨gb384,5,none⟩ (.int .i64 ((rd_T73 l0 x10_1).f5))).setCell ⟨gb384,6,none⟩ (.int .i64 ((rd_T73 l0 x10_1).f6))).setCell ⟨gb384,7,none⟩ (.int .i64 ((rd_T73 l0 x10_1).f7))).heap[gb384]? = some (.cells #[.string ((rd_T73 l0 x10_1).f0),.string ((rd_T73 l0 x10_1).f1),.int .i64 ((rd_T73 l0 x10_1).f2),.string ((rd_T73 l0 x10_1).f3),.int .i64 ((rd_T73 l0 x10_1).f4),.int .i64 ((rd_T73 l0 x10_1).f5),.int .i64 ((rd_T73 l0 x10_1).f6),.int .i64 ((rd_T73 l0 x10_1).f7)] 73 (0,0))):=⟨kp BK384⟩;have n1_:Aside0 (Below w.heap.size w ((((((((w31.setCell ⟨gb384,0,none⟩ (.string ((rd_T73 l0 x10_1).f0))).setCell ⟨gb384,1,none⟩ (.string ((rd_T73 l0 x10_1).f1))).setCell ⟨gb384,2,none⟩ (.int .i64 ((rd_T73 l0 x10_1).f2))).setCell ⟨gb384,3,none⟩ (.string ((rd_T73 l0 x10_1).f3))).setCell ⟨gb384,4,none⟩ (.int .i64 ((rd_T73 l0 x10_1).f4))).setCell ⟨gb384,5,none⟩ (.int .i64 ((rd_T73 l0 x10_1).f5))).setCell ⟨gb384,6,none⟩ (.int .i64 ((rd_T73 l0 x10_1).f6))).setCell ⟨gb384,7,none⟩ (.int .i64 ((rd_T73 l0 x10_1).f7)))):=⟨bs HB⟩;(try clear BK384);(try clear HB)
        generalize ((((((((w31.setCell ⟨gb384,0,none⟩ (.string ((rd_T73 l0 x10_1).f0))).setCell ⟨gb384,1,none⟩ (.string ((rd_T73 l0 x10_1).f1))).setCell ⟨gb384,2,none⟩ (.int .i64 ((rd_T73 l0 x10_1).f2))).setCell ⟨gb384,3,none⟩ (.string ((rd_T73 l0 x10_1).f3))).setCell ⟨gb384,4,none⟩ (.int .i64 ((rd_T73 l0 x10_1).f4))).setCell ⟨gb384,5,none⟩ (.int .i64 ((rd_T73 l0 x10_1).f5))).setCell ⟨gb384,6,none⟩ (.int .i64 ((rd_T73 l0 x10_1).f6))).setCell ⟨gb384,7,none⟩ (.int .i64 ((rd_T73 l0 x10_1).f7)))=w33 at n0_ n1_ ⊢
        have BK384:=n0_;have HB:=n1_;clear n0_ n1_;replace BK384:=am (blk_drew BK384.out);replace HB:=am (below_drew1 HB.out);refine start_ (n:=17) (S:=fun w'=>qk8 w' gb384 (.string ((rd_T73 l0 x10_1).f0)) (.string ((rd_T73 l0 x10_1).f1)) (.int .i64 ((rd_T73 l0 x10_1).f2)) (.string ((rd_T73 l0 x10_1).f3)) (.int .i64 ((rd_T73 l0 x10_1).f4)) (.int .i64 ((rd_T73 l0 x10_1).f5)) (.int .i64 ((rd_T73 l0 x10_1).f6)) (.int .i64 ((rd_T73 l0 x10_1).f7))) (ds:=[]) _ (by kernel_rfl) rfl rfl (qb8 BK384) (fun hHeld=>?_);refine with_tabW impl_LinesRight.tab6 impl_LinesRight.bits6 (fun HT_ HW_=>?_)
        generalize w33.drew=w34 at BK384 HB hHeld ⊢
        refine tA 0 15 HT_ HW_ hHeld ?_;refine oA 1 16 HT_ (fun K hK=>?_);refine gA Try.func110 #[.agg #[.string ((rd_T73 l0 x10_1).f0),.string ((rd_T73 l0 x10_1).f1),.int .i64 ((rd_T73 l0 x10_1).f2),.string ((rd_T73 l0 x10_1).f3),.int .i64 ((rd_T73 l0 x10_1).f4),.int .i64 ((rd_T73 l0 x10_1).f5),.int .i64 ((rd_T73 l0 x10_1).f6),.int .i64 ((rd_T73 l0 x10_1).f7)]] ?_;(with_reducible refine (impl_LineRight.calls k1 ((rd_T73 l0 x10_1).f0) ((rd_T73 l0 x10_1).f1) ((rd_T73 l0 x10_1).f2) ((rd_T73 l0 x10_1).f3) ((rd_T73 l0 x10_1).f4) ((rd_T73 l0 x10_1).f5) ((rd_T73 l0 x10_1).f6) ((rd_T73 l0 x10_1).f7) false _ A6.out).mono ?_);rintro e w35 ⟨rfl,hb⟩;refine ⟨_,rfl,?_⟩;replace BK384:=am (blk_below (ks BK384) hb);replace HB:=am (below_step (bs HB) hb);(try clear hb);(try clear hb2);(try clear hk);(try clear hi);refine hK.out _ _ (qb8 BK384) (fun hHeld=>?_);clear hK K;refine nA 16 ?_;refine pA 2 17 HT_ ?_;refine pA 3 18 HT_ ?_;refine pB 4 19 HT_ ?_;refine pB 5 20 HT_ ?_;refine pB 6 21 HT_ ?_;refine pB 7 22 HT_ ?_;refine pB 8 23 HT_ ?_;refine pB 9 24 HT_ ?_;refine pB 10 25 HT_ ?_;refine pB 11 26 HT_ ?_;refine pB 12 27 HT_ ?_;refine pB 13 28 HT_ ?_;refine pB 14 29 HT_ ?_;refine pB 15 30 HT_ ?_;refine pA 16 31 HT_ ?_;refine done_ (done_of HT_.out (by kernel_rfl)) ?_
        try go_wp2
        go_ret
        exact ⟨ff,bs HB⟩
      ·rw [if_neg c5] at H
       exact absurd H (by simp)
     ·rw [if_neg c4] at H
      exact absurd H (by simp)
    ·rw [if_neg c3] at H;have c3b0:decide (x10_1<(l0.length:Int))=false:=decide_eq_false c3;clear c3;obtain rfl:=Option.some.inj H
     go_wp2
     go_ret
     exact ⟨ff,bs HB⟩
end Go.Proofs.Ytjjfjgdhloideaa.QI

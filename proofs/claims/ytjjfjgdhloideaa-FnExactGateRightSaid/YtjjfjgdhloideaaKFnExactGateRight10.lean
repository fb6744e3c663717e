-- Merged by a program of this session (wip/tool/pack.py) out of its own texts for this claim.
import Derived.Test.YtjjfjgdhloideaaKFnExactGateRight0
import Derived.Test.YtjjfjgdhloideaaKFnExactGateRight1
import Derived.Test.YtjjfjgdhloideaaKFnExactGateRight2
import Derived.Test.YtjjfjgdhloideaaKFnExactGateRight3
import Derived.Test.YtjjfjgdhloideaaKFnExactGateRight7
import Derived.Test.YtjjfjgdhloideaaKFnExactGateRight9
namespace Go.Proofs.Ytjjfjgdhloideaa.QI
open Go.RowKit Go.Proofs.YtjjfjgdhloideaaW.PrintWords Go.Proofs.YtjjfjgdhloideaaW.PrintLast Go.Proofs.YtjjfjgdhloideaaW.PrintMore
attribute [local go_sem] max2_int min2_int max_two min_two max_three min_three max_four min_four   -- for this text's walks alone
set_option linter.unusedVariables false
set_option linter.unusedSimpArgs false
set_option maxHeartbeats 8000000 in
set_option maxRecDepth 100000 in
theorem spec_l01Control.calls (a0:Int) (r:Bool) (w:World) (h:spec_l01Control.f a0=some r) :
  Calls Try.prog 95 #[.int .i64 a0] w fun e w'=>e=.returned (.bool r)∧Drawn0 w w':=by
 have H:(if a0≥1 then (some (decide (a0≤999999))) else (some false))=some r:=h;clear h
 by_cases c2:a0≥1
 ·rw [if_pos c2] at H;have c2b0:decide (1≤a0)=true:=decide_eq_true c2;clear c2;obtain rfl:=Option.some.inj H
  go_enter Try.func95,Try.ntmps95
  go_wp2
  go_ret
  exact ⟨fg,by repeat (first|exact Drawn0.refl _|apply Drawn0.step)⟩
 ·rw [if_neg c2] at H;have c2b0:decide (1≤a0)=false:=decide_eq_false c2;clear c2;obtain rfl:=Option.some.inj H
  go_enter Try.func95,Try.ntmps95
  go_wp2
  go_ret
  exact ⟨fg,by repeat (first|exact Drawn0.refl _|apply Drawn0.step)⟩
set_option maxHeartbeats 8000000 in
set_option maxRecDepth 100000 in
theorem spec_l12Out.calls (k:Nat) (a0_0:ByteArray) (a0_1:Int) (a0_2:ByteArray) (a0_3:Int) (a0_4:Int) (r:Bool) (w:World) (h:spec_l12Out.f k a0_0 a0_1 a0_2 a0_3 a0_4=some r) :
  Calls Try.prog 93 #[.agg #[.string a0_0,.int .i64 a0_1,.string a0_2,.int .i64 a0_3,.int .i64 a0_4]] w fun e w'=>e=.returned (.bool r)∧Below w.heap.size w w':=by
 have hu108:=Try.underlying108;have HB:=am (Below.refl w.heap.size w);have H:((spec_l01Name.f k a0_0).bind fun t281=>(if t281=true then ((spec_l01Control.f a0_1).bind fun t282=>(if t282=true then (if (a0_2.size:Int)≥1 then (if (a0_2.size:Int)≤20000 then (if a0_3≥0 then (if a0_3≤5 then ((spec_l01Day.f a0_4).bind fun t283=>(some t283)) else (some false)) else (some false)) else (some false)) else (some false)) else (some false))) else (some false)))=some r:=h;clear h;replace H:=Option.bind_eq_some_iff.mp H;obtain ⟨t281,A20,H⟩:=H;replace H:(if t281=true then ((spec_l01Control.f a0_1).bind fun t282=>(if t282=true then (if (a0_2.size:Int)≥1 then (if (a0_2.size:Int)≤20000 then (if a0_3≥0 then (if a0_3≤5 then ((spec_l01Day.f a0_4).bind fun t283=>(some t283)) else (some false)) else (some false)) else (some false)) else (some false)) else (some false))) else (some false))=some r:=H;have A2:=am A20;clear A20
 go_enter Try.func93,Try.ntmps93
 try go_wp2_with (first|((with_reducible refine gate_dst (N:=1) rfl ?_);(try (refine gate_guard (by rfl) ?_;dsimp only));refine bx 1 (cs:=#[.string a0_0,.int .i64 a0_1,.string a0_2,.int .i64 a0_3,.int .i64 a0_4]) (t:=108) ?_;intro gb280 hg w3 hbox hb;have BK280:=am (hbox);have GW280:=am ((gs hg (bs HB)));have GE280:=am ((gs hg (bs HB)));replace HB:=am (below_step (bs HB) hb);clear hb hbox hg;obtain ⟨hcz4_0,hcz4_1,hcz4_2,hcz4_3,hcz4_4,hfz4_0,hfz4_1,hfz4_2,hfz4_3,hfz4_4⟩:=cf5 BK280))
 go_at_call 24;(with_reducible refine (spec_l01Name.calls k a0_0 t281 _ A2.out).mono ?_);rintro e w' ⟨rfl,⟨nd,rfl⟩⟩
 by_cases c5:t281=true
 ·subst c5
  have H1:((spec_l01Control.f a0_1).bind fun t282=>(if t282=true then (if (a0_2.size:Int)≥1 then (if (a0_2.size:Int)≤20000 then (if a0_3≥0 then (if a0_3≤5 then ((spec_l01Day.f a0_4).bind fun t283=>(some t283)) else (some false)) else (some false)) else (some false)) else (some false)) else (some false)))=some r:=by rw [if_pos rfl] at H;exact H
  clear H;have H:=H1;clear H1;replace H:=Option.bind_eq_some_iff.mp H;obtain ⟨t282,A60,H⟩:=H;replace H:(if t282=true then (if (a0_2.size:Int)≥1 then (if (a0_2.size:Int)≤20000 then (if a0_3≥0 then (if a0_3≤5 then ((spec_l01Day.f a0_4).bind fun t283=>(some t283)) else (some false)) else (some false)) else (some false)) else (some false)) else (some false))=some r:=H;have A6:=am A60;clear A60;obtain ⟨hcz7_0,hcz7_1,hcz7_2,hcz7_3,hcz7_4,hfz7_0,hfz7_1,hfz7_2,hfz7_3,hfz7_4⟩:=cf5 BK280
  try go_wp2_with (fail)
  go_at_call 95;(with_reducible refine (spec_l01Control.calls a0_1 t282 _ A6.out).mono ?_);rintro e w' ⟨rfl,⟨nd,rfl⟩⟩
  by_cases c8:t282=true
  ·subst c8
   have H1:(if (a0_2.size:Int)≥1 then (if (a0_2.size:Int)≤20000 then (if a0_3≥0 then (if a0_3≤5 then ((spec_l01Day.f a0_4).bind fun t283=>(some t283)) else (some false)) else (some false)) else (some false)) else (some false))=some r:=by rw [if_pos rfl] at H;exact H
   clear H;have H:=H1;clear H1
   by_cases c9:(a0_2.size:Int)≥1
   ·rw [if_pos c9] at H;have c9b0:decide (1≤(a0_2.size:Int))=true:=decide_eq_true c9;have c9b1:decide (1≤a0_2.size)=true:=decide_eq_true (by omega);clear c9
    by_cases c10:(a0_2.size:Int)≤20000
    ·rw [if_pos c10] at H;have c10b0:decide ((a0_2.size:Int)≤20000)=true:=decide_eq_true c10;have c10b1:decide (a0_2.size≤20000)=true:=decide_eq_true (by omega);clear c10
     by_cases c11:a0_3≥0
     ·rw [if_pos c11] at H;have c11b0:decide (0≤a0_3)=true:=decide_eq_true c11;clear c11
      by_cases c12:a0_3≤5
      ·rw [if_pos c12] at H;have c12b0:decide (a0_3≤5)=true:=decide_eq_true c12;clear c12;replace H:=Option.bind_eq_some_iff.mp H;obtain ⟨t283,A130,H⟩:=H;replace H:(some t283)=some r:=H;have A13:=am A130;clear A130;obtain rfl:=Option.some.inj H;obtain ⟨hcz14_0,hcz14_1,hcz14_2,hcz14_3,hcz14_4,hfz14_0,hfz14_1,hfz14_2,hfz14_3,hfz14_4⟩:=cf5 BK280
       go_wp2_with (first|(go_at_call 55;(with_reducible refine (spec_l01Day.calls a0_4 t283 _ A13.out).mono ?_);rintro e w' ⟨rfl,⟨nd,rfl⟩⟩))
       go_ret
       exact ⟨ff,bs HB⟩
      ·rw [if_neg c12] at H;have c12b0:decide (a0_3≤5)=false:=decide_eq_false c12;clear c12;obtain rfl:=Option.some.inj H;obtain ⟨hcz15_0,hcz15_1,hcz15_2,hcz15_3,hcz15_4,hfz15_0,hfz15_1,hfz15_2,hfz15_3,hfz15_4⟩:=cf5 BK280
       go_wp2
       go_ret
       exact ⟨ff,bs HB⟩
     ·rw [if_neg c11] at H;have c11b0:decide (0≤a0_3)=false:=decide_eq_false c11;clear c11;obtain rfl:=Option.some.inj H;obtain ⟨hcz16_0,hcz16_1,hcz16_2,hcz16_3,hcz16_4,hfz16_0,hfz16_1,hfz16_2,hfz16_3,hfz16_4⟩:=cf5 BK280
      go_wp2
      go_ret
      exact ⟨ff,bs HB⟩
    ·rw [if_neg c10] at H;have c10b0:decide ((a0_2.size:Int)≤20000)=false:=decide_eq_false c10;have c10b1:decide (a0_2.size≤20000)=false:=decide_eq_false (by omega);clear c10;obtain rfl:=Option.some.inj H;obtain ⟨hcz17_0,hcz17_1,hcz17_2,hcz17_3,hcz17_4,hfz17_0,hfz17_1,hfz17_2,hfz17_3,hfz17_4⟩:=cf5 BK280
     go_wp2
     go_ret
     exact ⟨ff,bs HB⟩
   ·rw [if_neg c9] at H;have c9b0:decide (1≤(a0_2.size:Int))=false:=decide_eq_false c9;have c9b1:decide (1≤a0_2.size)=false:=decide_eq_false (by omega);clear c9;obtain rfl:=Option.some.inj H;obtain ⟨hcz18_0,hcz18_1,hcz18_2,hcz18_3,hcz18_4,hfz18_0,hfz18_1,hfz18_2,hfz18_3,hfz18_4⟩:=cf5 BK280
    go_wp2
    go_ret
    exact ⟨ff,bs HB⟩
  ·replace c8:=Bool.eq_false_iff.mpr c8;subst c8
   have H1:(some false)=some r:=by rw [if_neg (show ¬ (false=true) by decide)] at H;exact H
   clear H;have H:=H1;clear H1;obtain rfl:=Option.some.inj H
   go_wp2
   go_ret
   exact ⟨ff,bs HB⟩
 ·replace c5:=Bool.eq_false_iff.mpr c5;subst c5
  have H1:(some false)=some r:=by rw [if_neg (show ¬ (false=true) by decide)] at H;exact H
  clear H;have H:=H1;clear H1;obtain rfl:=Option.some.inj H
  go_wp2
  go_ret
  exact ⟨ff,bs HB⟩
set_option maxHeartbeats 8000000 in
set_option maxRecDepth 100000 in
theorem spec_l12Before.calls (a0_0:ByteArray) (a0_1:Int) (a0_2:ByteArray) (a0_3:Int) (a0_4:Int) (a1_0:ByteArray) (a1_1:Int) (a1_2:ByteArray) (a1_3:Int) (a1_4:Int) (r:Bool) (w:World) (h:spec_l12Before.f a0_0 a0_1 a0_2 a0_3 a0_4 a1_0 a1_1 a1_2 a1_3 a1_4=some r) :
  Calls Try.prog 94 #[.agg #[.string a0_0,.int .i64 a0_1,.string a0_2,.int .i64 a0_3,.int .i64 a0_4],.agg #[.string a1_0,.int .i64 a1_1,.string a1_2,.int .i64 a1_3,.int .i64 a1_4]] w fun e w'=>e=.returned (.bool r)∧Below w.heap.size w w':=by
 have hu108:=Try.underlying108;have HB:=am (Below.refl w.heap.size w);have H:(if (Op.bytesLess a0_0.toList a1_0.toList)=true then (some true) else (if a0_0.toList=a1_0.toList then (some (decide (a0_1<a1_1))) else (some false)))=some r:=h;clear h
 by_cases c3:(Op.bytesLess a0_0.toList a1_0.toList)=true
 ·rw [if_pos c3] at H;have c3b0:(Op.bytesLess a0_0.toList a1_0.toList)=true:=c3;clear c3;obtain rfl:=Option.some.inj H
  go_enter Try.func94,Try.ntmps94
  go_wp2_with (first|((with_reducible refine gate_dst (N:=2) rfl ?_);refine bx 2 (cs:=#[.string a0_0,.int .i64 a0_1,.string a0_2,.int .i64 a0_3,.int .i64 a0_4]) (t:=108) ?_;intro gb284 hg w4 hbox hb;have BK284:=am (hbox);have GW284:=am ((gs hg (bs HB)));have GE284:=am ((gs hg (bs HB)));replace HB:=am (below_step (bs HB) hb);clear hb hbox hg)|((with_reducible refine gate_dst (N:=3) rfl ?_);refine bx 3 (cs:=#[.string a1_0,.int .i64 a1_1,.string a1_2,.int .i64 a1_3,.int .i64 a1_4]) (t:=108) ?_;intro gb285 hg w5 hbox hb;have BK285:=am (hbox);have GW285:=am ((gs hg (bs HB)));have GE285:=am ((gs hg (bs HB)));replace HB:=am (below_step (bs HB) hb);have NB284_285:=am ((gn hg (ks BK284)));have NB285_284:=am ((gm hg (ks BK284)));replace BK284:=am (blk_below (ks BK284) hb);clear hb hbox hg;have hnb6:=NB284_285.out;have hnc6:=NB285_284.out;obtain ⟨hcz7_0,hcz7_1,hcz7_2,hcz7_3,hcz7_4,hfz7_0,hfz7_1,hfz7_2,hfz7_3,hfz7_4⟩:=cf5 BK284;obtain ⟨hcz8_0,hcz8_1,hcz8_2,hcz8_3,hcz8_4,hfz8_0,hfz8_1,hfz8_2,hfz8_3,hfz8_4⟩:=cf5 BK285))
  go_ret
  exact ⟨ff,bs HB⟩
 ·rw [if_neg c3] at H
  have c3b0:(Op.bytesLess a0_0.toList a1_0.toList)=false:=by simpa using c3
  clear c3
  by_cases c9:a0_0.toList=a1_0.toList
  ·rw [if_pos c9] at H;have c9b0:(a0_0.toList == a1_0.toList)=true:=beq_iff_eq.mpr c9;have c9b1:(a0_0.toList != a1_0.toList)=false:=bne_eq_false_iff_eq.mpr c9;clear c9;obtain rfl:=Option.some.inj H
   go_enter Try.func94,Try.ntmps94
   go_wp2_with (first|((with_reducible refine gate_dst (N:=2) rfl ?_);refine bx 2 (cs:=#[.string a0_0,.int .i64 a0_1,.string a0_2,.int .i64 a0_3,.int .i64 a0_4]) (t:=108) ?_;intro gb284 hg w10 hbox hb;have BK284:=am (hbox);have GW284:=am ((gs hg (bs HB)));have GE284:=am ((gs hg (bs HB)));replace HB:=am (below_step (bs HB) hb);clear hb hbox hg)|((with_reducible refine gate_dst (N:=3) rfl ?_);refine bx 3 (cs:=#[.string a1_0,.int .i64 a1_1,.string a1_2,.int .i64 a1_3,.int .i64 a1_4]) (t:=108) ?_;intro gb285 hg w11 hbox hb;have BK285:=am (hbox);have GW285:=am ((gs hg (bs HB)));have GE285:=am ((gs hg (bs HB)));replace HB:=am (below_step (bs HB) hb);have NB284_285:=am ((gn hg (ks BK284)));have NB285_284:=am ((gm hg (ks BK284)));replace BK284:=am (blk_below (ks BK284) hb);clear hb hbox hg;have hnb12:=NB284_285.out;have hnc12:=NB285_284.out;obtain ⟨hcz13_0,hcz13_1,hcz13_2,hcz13_3,hcz13_4,hfz13_0,hfz13_1,hfz13_2,hfz13_3,hfz13_4⟩:=cf5 BK284;obtain ⟨hcz14_0,hcz14_1,hcz14_2,hcz14_3,hcz14_4,hfz14_0,hfz14_1,hfz14_2,hfz14_3,hfz14_4⟩:=cf5 BK285))
   go_ret
   exact ⟨ff,bs HB⟩
  ·rw [if_neg c9] at H;have c9b0:(a0_0.toList == a1_0.toList)=false:=beq_eq_false_iff_ne.mpr c9;have c9b1:(a0_0.toList != a1_0.toList)=true:=bne_iff_ne.mpr c9;obtain rfl:=Option.some.inj H
   go_enter Try.func94,Try.ntmps94
   go_wp2_with (first|((with_reducible refine gate_dst (N:=2) rfl ?_);refine bx 2 (cs:=#[.string a0_0,.int .i64 a0_1,.string a0_2,.int .i64 a0_3,.int .i64 a0_4]) (t:=108) ?_;intro gb284 hg w15 hbox hb;have BK284:=am (hbox);have GW284:=am ((gs hg (bs HB)));have GE284:=am ((gs hg (bs HB)));replace HB:=am (below_step (bs HB) hb);clear hb hbox hg)|((with_reducible refine gate_dst (N:=3) rfl ?_);refine bx 3 (cs:=#[.string a1_0,.int .i64 a1_1,.string a1_2,.int .i64 a1_3,.int .i64 a1_4]) (t:=108) ?_;intro gb285 hg w16 hbox hb;have BK285:=am (hbox);have GW285:=am ((gs hg (bs HB)));have GE285:=am ((gs hg (bs HB)));replace HB:=am (below_step (bs HB) hb);have NB284_285:=am ((gn hg (ks BK284)));have NB285_284:=am ((gm hg (ks BK284)));replace BK284:=am (blk_below (ks BK284) hb);clear hb hbox hg;have hnb17:=NB284_285.out;have hnc17:=NB285_284.out;obtain ⟨hcz18_0,hcz18_1,hcz18_2,hcz18_3,hcz18_4,hfz18_0,hfz18_1,hfz18_2,hfz18_3,hfz18_4⟩:=cf5 BK284;obtain ⟨hcz19_0,hcz19_1,hcz19_2,hcz19_3,hcz19_4,hfz19_0,hfz19_1,hfz19_2,hfz19_3,hfz19_4⟩:=cf5 BK285))
   go_ret
   exact ⟨ff,bs HB⟩
end Go.Proofs.Ytjjfjgdhloideaa.QI
namespace Go.Proofs.Ytjjfjgdhloideaa.QI
open Go.RowKit Go.Proofs.YtjjfjgdhloideaaW.PrintWords Go.Proofs.YtjjfjgdhloideaaW.PrintLast Go.Proofs.YtjjfjgdhloideaaW.PrintMore
attribute [local go_sem] max2_int min2_int max_two min_two max_three min_three max_four min_four   -- for this text's walks alone
set_option linter.unusedVariables false
set_option linter.unusedSimpArgs false
def spec_OutboxRight.T6 : Bool × List (List Nat × List Nat) := (true, [([], []), ([], []), ([0, 1], [0, 1]), ([2], [2]), ([3], [3]), ([4], [4]), ([5, 4], [5]), ([6], [6]), ([7, 6], [6, 7]), ([8, 6, 6], [6, 8]), ([9], [9]), ([9], [9]), ([11, 9], [9, 11]), ([10, 12, 9], [9, 10, 12]), ([13, 9], [9, 13]), ([9], [9]), ([9], [9]), ([15, 16, 9], [9, 15, 16]), ([17, 9], [9, 17]), ([14, 18, 9, 9], [9, 14, 18]), ([19, 9], [9, 19]), ([9, 20, 6], [6, 9, 20]), ([6, 21], [6, 21])])
def spec_OutboxRight.B6 : List Nat := [0, 0, 3, 7, 15, 31, 63, 127, 255, 511, 1023, 1023, 3071, 8191, 16383, 1023, 1023, 99327, 230399, 524287, 1048575, 2097151, 4194303]
theorem spec_OutboxRight.tab6 : rtab .any (opsOf Try.f57 6) = spec_OutboxRight.T6 := by kernel_rfl
theorem spec_OutboxRight.bits6 : waitsOk spec_OutboxRight.T6.2 spec_OutboxRight.B6 = true := by kernel_rfl
set_option maxHeartbeats 8000000 in
set_option maxRecDepth 100000 in
theorem spec_OutboxRight.calls (k:Nat) (A0:Option Addr) (c0:Nat) (l0:List (S108)) (r:Bool) (w:World) (hr0:Kd.C k108 w A0 l0.length l0) (hc0:l0.length≤c0) (h:spec_OutboxRight.f k l0=some r) :
  Calls Try.prog 57 #[.slice A0 l0.length c0] w fun e w'=>e=.returned (.bool r)∧Below w.heap.size w w':=by
 have hu108:=Try.underlying108;have HR0:=am hr0;have HC0:=am hc0;clear hr0 hc0;have HB:=am (Below.refl w.heap.size w);have H:(if (l0.length:Int)>60 then (some false) else (spec_OutboxRight.l0 k l0 0))=some r:=h;clear h
 by_cases c2:(l0.length:Int)>60
 ·rw [if_pos c2] at H;have c2b0:decide (60<(l0.length:Int))=true:=decide_eq_true c2;have c2b1:decide (60<l0.length)=true:=decide_eq_true (by omega);clear c2;obtain rfl:=Option.some.inj H
  go_enter Try.func57,Try.ntmps57
  go_wp2
  go_ret
  exact ⟨ff,bs HB⟩
 ·rw [if_neg c2] at H;have c2b0:decide (60<(l0.length:Int))=false:=decide_eq_false c2;have c2b1:decide (60<l0.length)=false:=decide_eq_false (by omega);clear c2;have H':=am H;clear H
  go_enter Try.func57,Try.ntmps57
  go_wp2
  go_loopg [3] k (fun kq v3 w'=>∃ (x3_1:Int),v3=.int .i64 x3_1∧Aside0 (spec_OutboxRight.l0 kq l0 x3_1=some r)∧Aside0 (kq≤k)∧Aside0 (Below w.heap.size w w'))
  case atStart=>exact ⟨(0),fg,H',⟨Nat.le_refl _⟩,⟨bs HB⟩⟩
  case round =>
   clear H'
   try clear c2
   try clear c2b0
   try clear c2b1
   try clear p2
   obtain ⟨x3_1,rfl,HA,HK1,HB⟩:=hrel
   cases gk with
   | zero=>exact absurd HA.out (by simp [spec_OutboxRight.l0])
   | succ k1 =>
    have H:=HA.out;clear HA;simp only [spec_OutboxRight.l0] at H
    by_cases c3:x3_1<(l0.length:Int)
    ·rw [if_pos c3] at H;have c3b0:decide (x3_1<(l0.length:Int))=true:=decide_eq_true c3;clear c3
     by_cases c4:0≤x3_1
     ·rw [if_pos c4] at H;have c4b0:decide (0≤x3_1)=true:=decide_eq_true c4;clear c4;replace H:=Option.bind_eq_some_iff.mp H;obtain ⟨t287,A50,H⟩:=H;replace H:(if t287=true then (if x3_1>0 then (if 0≤(wrap64 (x3_1 - 1)) then (if (wrap64 (x3_1 - 1))<(l0.length:Int) then ((spec_l12Before.f ((rd_T108 l0 (wrap64 (x3_1 - 1))).f0) ((rd_T108 l0 (wrap64 (x3_1 - 1))).f1) ((rd_T108 l0 (wrap64 (x3_1 - 1))).f2) ((rd_T108 l0 (wrap64 (x3_1 - 1))).f3) ((rd_T108 l0 (wrap64 (x3_1 - 1))).f4) ((rd_T108 l0 x3_1).f0) ((rd_T108 l0 x3_1).f1) ((rd_T108 l0 x3_1).f2) ((rd_T108 l0 x3_1).f3) ((rd_T108 l0 x3_1).f4)).bind fun t290=>(if t290=true then (spec_OutboxRight.l0 k1 l0 (wrap64 (x3_1+1))) else (some false))) else (none)) else (none)) else (spec_OutboxRight.l0 k1 l0 (wrap64 (x3_1+1)))) else (some false))=some r:=H;have A5:=am A50;clear A50
      by_cases c6:t287=true
      ·subst c6
       have H1:(if x3_1>0 then (if 0≤(wrap64 (x3_1 - 1)) then (if (wrap64 (x3_1 - 1))<(l0.length:Int) then ((spec_l12Before.f ((rd_T108 l0 (wrap64 (x3_1 - 1))).f0) ((rd_T108 l0 (wrap64 (x3_1 - 1))).f1) ((rd_T108 l0 (wrap64 (x3_1 - 1))).f2) ((rd_T108 l0 (wrap64 (x3_1 - 1))).f3) ((rd_T108 l0 (wrap64 (x3_1 - 1))).f4) ((rd_T108 l0 x3_1).f0) ((rd_T108 l0 x3_1).f1) ((rd_T108 l0 x3_1).f2) ((rd_T108 l0 x3_1).f3) ((rd_T108 l0 x3_1).f4)).bind fun t290=>(if t290=true then (spec_OutboxRight.l0 k1 l0 (wrap64 (x3_1+1))) else (some false))) else (none)) else (none)) else (spec_OutboxRight.l0 k1 l0 (wrap64 (x3_1+1))))=some r:=by rw [if_pos rfl] at H;exact H
       clear H;have H:=H1;clear H1
       by_cases c7:x3_1>0
       ·rw [if_pos c7] at H;have c7b0:decide (0<x3_1)=true:=decide_eq_true c7;clear c7;obtain ⟨ji8,hji8⟩:∃ j_:Int,(wrap64 (x3_1 - 1))=j_:=⟨_,rfl⟩
        replace H:(if 0≤(ji8) then (if (ji8)<(l0.length:Int) then ((spec_l12Before.f ((rd_T108 l0 (ji8)).f0) ((rd_T108 l0 (ji8)).f1) ((rd_T108 l0 (ji8)).f2) ((rd_T108 l0 (ji8)).f3) ((rd_T108 l0 (ji8)).f4) ((rd_T108 l0 x3_1).f0) ((rd_T108 l0 x3_1).f1) ((rd_T108 l0 x3_1).f2) ((rd_T108 l0 x3_1).f3) ((rd_T108 l0 x3_1).f4)).bind fun t290=>(if t290=true then (spec_OutboxRight.l0 k1 l0 (wrap64 (x3_1+1))) else (some false))) else (none)) else (none))=some r:=by first|(rw [hji8] at H;exact H)|(simp only [hji8] at H ⊢;exact H)
        (try rw [hji8] at A5)
        have hji8w:(IntKind.i64.wrap (x3_1 - 1))=ji8:=(i64_w _).trans hji8
        by_cases c9:0≤(ji8)
        ·rw [if_pos c9] at H;have c9b0:decide (0≤(ji8))=true:=decide_eq_true c9;clear c9
         by_cases c10:(ji8)<(l0.length:Int)
         ·rw [if_pos c10] at H;have c10b0:decide ((ji8)<(l0.length:Int))=true:=decide_eq_true c10;clear c10;replace H:=Option.bind_eq_some_iff.mp H;obtain ⟨t290,A110,H⟩:=H;replace H:(if t290=true then (spec_OutboxRight.l0 k1 l0 (wrap64 (x3_1+1))) else (some false))=some r:=H;have A11:=am A110;clear A110
          by_cases c12:t290=true
          ·subst c12
           have H1:(spec_OutboxRight.l0 k1 l0 (wrap64 (x3_1+1)))=some r:=by rw [if_pos rfl] at H;exact H
           clear H;have H:=H1;clear H1;have H':=am H;clear H
           try go_wp2
           replace HB:=am (below_drew1 HB.out);have p286:0≤(x3_1:Int):=oa;have q286:x3_1<(l0.length:Int):=oa;obtain ⟨ad286,e286,hx286_0,hx286_1,hx286_2,hx286_3,hx286_4⟩:=at_T108 HR0.out x3_1 p286 q286;have hw286_4:=hx286_4;have hw286_3:=hx286_3;have hw286_2:=hx286_2;have hw286_1:=hx286_1;have hw286_0:=hx286_0
           cases e286
           replace hx286_0:=cb HB hx286_0;replace hx286_1:=cb HB hx286_1;replace hx286_2:=cb HB hx286_2;replace hx286_3:=cb HB hx286_3;replace hx286_4:=cb HB hx286_4;replace p286:=eq_true p286;replace q286:=eq_true q286;have p288:0≤((ji8):Int):=oa;have q288:(ji8)<(l0.length:Int):=oa;obtain ⟨ad288,e288,hx288_0,hx288_1,hx288_2,hx288_3,hx288_4⟩:=at_T108 HR0.out (ji8) p288 q288;have hw288_4:=hx288_4;have hw288_3:=hx288_3;have hw288_2:=hx288_2;have hw288_1:=hx288_1;have hw288_0:=hx288_0;obtain rfl:ad286=ad288:=(by injection e288);replace hx288_0:=cb HB hx288_0;replace hx288_1:=cb HB hx288_1;replace hx288_2:=cb HB hx288_2;replace hx288_3:=cb HB hx288_3;replace hx288_4:=cb HB hx288_4;replace p288:=eq_true p288;replace q288:=eq_true q288;have p289:0≤(x3_1:Int):=oa;have q289:x3_1<(l0.length:Int):=oa;obtain ⟨ad289,e289,hx289_0,hx289_1,hx289_2,hx289_3,hx289_4⟩:=at_T108 HR0.out x3_1 p289 q289;have hw289_4:=hx289_4;have hw289_3:=hx289_3;have hw289_2:=hx289_2;have hw289_1:=hx289_1;have hw289_0:=hx289_0;obtain rfl:ad286=ad289:=(by injection e289);replace hx289_0:=cb HB hx289_0;replace hx289_1:=cb HB hx289_1;replace hx289_2:=cb HB hx289_2;replace hx289_3:=cb HB hx289_3;replace hx289_4:=cb HB hx289_4;replace p289:=eq_true p289;replace q289:=eq_true q289;refine start_ (n:=23) (S:=fun w'=>qe5a w' (ad286.add ((x3_1).toNat * 5)) (.string ((rd_T108 l0 x3_1).f0)) (.int .i64 ((rd_T108 l0 x3_1).f1)) (.string ((rd_T108 l0 x3_1).f2)) (.int .i64 ((rd_T108 l0 x3_1).f3)) (.int .i64 ((rd_T108 l0 x3_1).f4)) (qe5a w' (ad286.add (((ji8)).toNat * 5)) (.string ((rd_T108 l0 (ji8)).f0)) (.int .i64 ((rd_T108 l0 (ji8)).f1)) (.string ((rd_T108 l0 (ji8)).f2)) (.int .i64 ((rd_T108 l0 (ji8)).f3)) (.int .i64 ((rd_T108 l0 (ji8)).f4)) (qe5 w' (ad286.add ((x3_1).toNat * 5)) (.string ((rd_T108 l0 x3_1).f0)) (.int .i64 ((rd_T108 l0 x3_1).f1)) (.string ((rd_T108 l0 x3_1).f2)) (.int .i64 ((rd_T108 l0 x3_1).f3)) (.int .i64 ((rd_T108 l0 x3_1).f4))))) (ds:=[]) _ (by kernel_rfl) rfl rfl ⟨((cb HB hw286_0).trans rfl),((cb HB hw286_1).trans rfl),((cb HB hw286_2).trans rfl),((cb HB hw286_3).trans rfl),((cb HB hw286_4).trans rfl),((cb HB hw288_0).trans rfl),((cb HB hw288_1).trans rfl),((cb HB hw288_2).trans rfl),((cb HB hw288_3).trans rfl),((cb HB hw288_4).trans rfl),((cb HB hw289_0).trans rfl),((cb HB hw289_1).trans rfl),((cb HB hw289_2).trans rfl),((cb HB hw289_3).trans rfl),((cb HB hw289_4).trans rfl)⟩ (fun hHeld=>?_);refine with_tabW spec_OutboxRight.tab6 spec_OutboxRight.bits6 (fun HT_ HW_=>?_)
           generalize wr.drew=w13 at HB hx286_0 hx286_1 hx286_2 hx286_3 hx286_4 hx288_0 hx288_1 hx288_2 hx288_3 hx288_4 hx289_0 hx289_1 hx289_2 hx289_3 hx289_4 hHeld ⊢
           refine pA 0 13 HT_ ?_;refine pA 1 14 HT_ ?_;refine pA 2 15 HT_ ?_;refine tA 3 16 HT_ HW_ hHeld ?_;refine oA 4 17 HT_ (fun K hK=>?_);refine gA Try.func93 #[.agg #[.string ((rd_T108 l0 x3_1).f0),.int .i64 ((rd_T108 l0 x3_1).f1),.string ((rd_T108 l0 x3_1).f2),.int .i64 ((rd_T108 l0 x3_1).f3),.int .i64 ((rd_T108 l0 x3_1).f4)]] ?_;(with_reducible refine (spec_l12Out.calls k1 ((rd_T108 l0 x3_1).f0) ((rd_T108 l0 x3_1).f1) ((rd_T108 l0 x3_1).f2) ((rd_T108 l0 x3_1).f3) ((rd_T108 l0 x3_1).f4) true _ A5.out).mono ?_);rintro e w14 ⟨rfl,hb⟩;refine ⟨_,rfl,?_⟩;replace HB:=am (below_step (bs HB) hb);(try clear hb);(try clear hb2);(try clear hk);(try clear hi);refine hK.out _ _ ⟨((cb HB hw286_0).trans rfl),((cb HB hw286_1).trans rfl),((cb HB hw286_2).trans rfl),((cb HB hw286_3).trans rfl),((cb HB hw286_4).trans rfl),((cb HB hw288_0).trans rfl),((cb HB hw288_1).trans rfl),((cb HB hw288_2).trans rfl),((cb HB hw288_3).trans rfl),((cb HB hw288_4).trans rfl),((cb HB hw289_0).trans rfl),((cb HB hw289_1).trans rfl),((cb HB hw289_2).trans rfl),((cb HB hw289_3).trans rfl),((cb HB hw289_4).trans rfl)⟩ (fun hHeld=>?_);clear hK K;refine nA 17 ?_;refine pA 5 18 HT_ ?_;refine pA 6 19 HT_ ?_;refine pA 7 20 HT_ ?_;refine pA 8 21 HT_ ?_;refine pA 9 22 HT_ ?_;refine pA 10 23 HT_ ?_;refine pA 11 24 HT_ ?_;refine pA 12 25 HT_ ?_;refine pA 13 26 HT_ ?_;refine pA 15 28 HT_ ?_;refine pA 16 29 HT_ ?_;refine pA 17 30 HT_ ?_;refine tA 14 27 HT_ HW_ hHeld ?_;refine tA 18 31 HT_ HW_ hHeld ?_;refine oA 19 32 HT_ (fun K hK=>?_);refine goes_ Try.func94 (by kernel_rfl) rfl #[.agg #[.string ((rd_T108 l0 (ji8)).f0),.int .i64 ((rd_T108 l0 (ji8)).f1),.string ((rd_T108 l0 (ji8)).f2),.int .i64 ((rd_T108 l0 (ji8)).f3),.int .i64 ((rd_T108 l0 (ji8)).f4)],.agg #[.string ((rd_T108 l0 x3_1).f0),.int .i64 ((rd_T108 l0 x3_1).f1),.string ((rd_T108 l0 x3_1).f2),.int .i64 ((rd_T108 l0 x3_1).f3),.int .i64 ((rd_T108 l0 x3_1).f4)]] (by rfl) rfl rfl (by (try simp only [List.map_toArray,List.map_cons,List.map_nil]);first|done|(simp only [hji8];rfl)|rfl|(simp only [List.length_drop,List.length_take];rfl)) ?_;(with_reducible refine (spec_l12Before.calls ((rd_T108 l0 (ji8)).f0) ((rd_T108 l0 (ji8)).f1) ((rd_T108 l0 (ji8)).f2) ((rd_T108 l0 (ji8)).f3) ((rd_T108 l0 (ji8)).f4) ((rd_T108 l0 x3_1).f0) ((rd_T108 l0 x3_1).f1) ((rd_T108 l0 x3_1).f2) ((rd_T108 l0 x3_1).f3) ((rd_T108 l0 x3_1).f4) true _ A11.out).mono ?_);rintro e w15 ⟨rfl,hb⟩;refine ⟨_,rfl,?_⟩;replace HB:=am (below_step (bs HB) hb);(try clear hb);(try clear hb2);(try clear hk);(try clear hi);refine hK.out _ _ ⟨((cb HB hw286_0).trans rfl),((cb HB hw286_1).trans rfl),((cb HB hw286_2).trans rfl),((cb HB hw286_3).trans rfl),((cb HB hw286_4).trans rfl),((cb HB hw288_0).trans rfl),((cb HB hw288_1).trans rfl),((cb HB hw288_2).trans rfl),((cb HB hw288_3).trans rfl),((cb HB hw288_4).trans rfl),((cb HB hw289_0).trans rfl),((cb HB hw289_1).trans rfl),((cb HB hw289_2).trans rfl),((cb HB hw289_3).trans rfl),((cb HB hw289_4).trans rfl)⟩ (fun hHeld=>?_);clear hK K;refine nA 32 ?_;refine pA 20 33 HT_ ?_;refine pA 21 34 HT_ ?_;refine pA 22 35 HT_ ?_;refine done_ (done_of HT_.out (by kernel_rfl)) ?_
           try go_wp2
           go_roundg k1
           case measure=>have:=HK1.out;omega
           case rel=>exact ⟨(wrap64 (x3_1+1)),fg,H',⟨by have:=HK1.out;omega⟩,⟨bs HB⟩⟩
          ·replace c12:=Bool.eq_false_iff.mpr c12;subst c12
           have H1:(some false)=some r:=by rw [if_neg (show ¬ (false=true) by decide)] at H;exact H
           clear H;have H:=H1;clear H1;obtain rfl:=Option.some.inj H
           try go_wp2
           replace HB:=am (below_drew1 HB.out);have p286:0≤(x3_1:Int):=oa;have q286:x3_1<(l0.length:Int):=oa;obtain ⟨ad286,e286,hx286_0,hx286_1,hx286_2,hx286_3,hx286_4⟩:=at_T108 HR0.out x3_1 p286 q286;have hw286_4:=hx286_4;have hw286_3:=hx286_3;have hw286_2:=hx286_2;have hw286_1:=hx286_1;have hw286_0:=hx286_0
           cases e286
           replace hx286_0:=cb HB hx286_0;replace hx286_1:=cb HB hx286_1;replace hx286_2:=cb HB hx286_2;replace hx286_3:=cb HB hx286_3;replace hx286_4:=cb HB hx286_4;replace p286:=eq_true p286;replace q286:=eq_true q286;have p288:0≤((ji8):Int):=oa;have q288:(ji8)<(l0.length:Int):=oa;obtain ⟨ad288,e288,hx288_0,hx288_1,hx288_2,hx288_3,hx288_4⟩:=at_T108 HR0.out (ji8) p288 q288;have hw288_4:=hx288_4;have hw288_3:=hx288_3;have hw288_2:=hx288_2;have hw288_1:=hx288_1;have hw288_0:=hx288_0;obtain rfl:ad286=ad288:=(by injection e288);replace hx288_0:=cb HB hx288_0;replace hx288_1:=cb HB hx288_1;replace hx288_2:=cb HB hx288_2;replace hx288_3:=cb HB hx288_3;replace hx288_4:=cb HB hx288_4;replace p288:=eq_true p288;replace q288:=eq_true q288;have p289:0≤(x3_1:Int):=oa;have q289:x3_1<(l0.length:Int):=oa;obtain ⟨ad289,e289,hx289_0,hx289_1,hx289_2,hx289_3,hx289_4⟩:=at_T108 HR0.out x3_1 p289 q289;have hw289_4:=hx289_4;have hw289_3:=hx289_3;have hw289_2:=hx289_2;have hw289_1:=hx289_1;have hw289_0:=hx289_0;obtain rfl:ad286=ad289:=(by injection e289);replace hx289_0:=cb HB hx289_0;replace hx289_1:=cb HB hx289_1;replace hx289_2:=cb HB hx289_2;replace hx289_3:=cb HB hx289_3;replace hx289_4:=cb HB hx289_4;replace p289:=eq_true p289;replace q289:=eq_true q289;refine start_ (n:=23) (S:=fun w'=>qe5a w' (ad286.add ((x3_1).toNat * 5)) (.string ((rd_T108 l0 x3_1).f0)) (.int .i64 ((rd_T108 l0 x3_1).f1)) (.string ((rd_T108 l0 x3_1).f2)) (.int .i64 ((rd_T108 l0 x3_1).f3)) (.int .i64 ((rd_T108 l0 x3_1).f4)) (qe5a w' (ad286.add (((ji8)).toNat * 5)) (.string ((rd_T108 l0 (ji8)).f0)) (.int .i64 ((rd_T108 l0 (ji8)).f1)) (.string ((rd_T108 l0 (ji8)).f2)) (.int .i64 ((rd_T108 l0 (ji8)).f3)) (.int .i64 ((rd_T108 l0 (ji8)).f4)) (qe5 w' (ad286.add ((x3_1).toNat * 5)) (.string ((rd_T108 l0 x3_1).f0)) (.int .i64 ((rd_T108 l0 x3_1).f1)) (.string ((rd_T108 l0 x3_1).f2)) (.int .i64 ((rd_T108 l0 x3_1).f3)) (.int .i64 ((rd_T108 l0 x3_1).f4))))) (ds:=[]) _ (by kernel_rfl) rfl rfl ⟨((cb HB hw286_0).trans rfl),((cb HB hw286_1).trans rfl),((cb HB hw286_2).trans rfl),((cb HB hw286_3).trans rfl),((cb HB hw286_4).trans rfl),((cb HB hw288_0).trans rfl),((cb HB hw288_1).trans rfl),((cb HB hw288_2).trans rfl),((cb HB hw288_3).trans rfl),((cb HB hw288_4).trans rfl),((cb HB hw289_0).trans rfl),((cb HB hw289_1).trans rfl),((cb HB hw289_2).trans rfl),((cb HB hw289_3).trans rfl),((cb HB hw289_4).trans rfl)⟩ (fun hHeld=>?_);refine with_tabW spec_OutboxRight.tab6 spec_OutboxRight.bits6 (fun HT_ HW_=>?_)
           generalize wr.drew=w16 at HB hx286_0 hx286_1 hx286_2 hx286_3 hx286_4 hx288_0 hx288_1 hx288_2 hx288_3 hx288_4 hx289_0 hx289_1 hx289_2 hx289_3 hx289_4 hHeld ⊢
           refine pA 0 13 HT_ ?_;refine pA 1 14 HT_ ?_;refine pA 2 15 HT_ ?_;refine tA 3 16 HT_ HW_ hHeld ?_;refine oA 4 17 HT_ (fun K hK=>?_);refine gA Try.func93 #[.agg #[.string ((rd_T108 l0 x3_1).f0),.int .i64 ((rd_T108 l0 x3_1).f1),.string ((rd_T108 l0 x3_1).f2),.int .i64 ((rd_T108 l0 x3_1).f3),.int .i64 ((rd_T108 l0 x3_1).f4)]] ?_;(with_reducible refine (spec_l12Out.calls k1 ((rd_T108 l0 x3_1).f0) ((rd_T108 l0 x3_1).f1) ((rd_T108 l0 x3_1).f2) ((rd_T108 l0 x3_1).f3) ((rd_T108 l0 x3_1).f4) true _ A5.out).mono ?_);rintro e w17 ⟨rfl,hb⟩;refine ⟨_,rfl,?_⟩;replace HB:=am (below_step (bs HB) hb);(try clear hb);(try clear hb2);(try clear hk);(try clear hi);refine hK.out _ _ ⟨((cb HB hw286_0).trans rfl),((cb HB hw286_1).trans rfl),((cb HB hw286_2).trans rfl),((cb HB hw286_3).trans rfl),((cb HB hw286_4).trans rfl),((cb HB hw288_0).trans rfl),((cb HB hw288_1).trans rfl),((cb HB hw288_2).trans rfl),((cb HB hw288_3).trans rfl),((cb HB hw288_4).trans rfl),((cb HB hw289_0).trans rfl),((cb HB hw289_1).trans rfl),((cb HB hw289_2).trans rfl),((cb HB hw289_3).trans rfl),((cb HB hw289_4).trans rfl)⟩ (fun hHeld=>?_);clear hK K;refine nA 17 ?_;refine pA 5 18 HT_ ?_;refine pA 6 19 HT_ ?_;refine pA 7 20 HT_ ?_;refine pA 8 21 HT_ ?_;refine pA 9 22 HT_ ?_;refine pA 10 23 HT_ ?_;refine pA 11 24 HT_ ?_;refine pA 12 25 HT_ ?_;refine pA 13 26 HT_ ?_;refine pA 15 28 HT_ ?_;refine pA 16 29 HT_ ?_;refine pA 17 30 HT_ ?_;refine tA 14 27 HT_ HW_ hHeld ?_;refine tA 18 31 HT_ HW_ hHeld ?_;refine oA 19 32 HT_ (fun K hK=>?_);refine goes_ Try.func94 (by kernel_rfl) rfl #[.agg #[.string ((rd_T108 l0 (ji8)).f0),.int .i64 ((rd_T108 l0 (ji8)).f1),.string ((rd_T108 l0 (ji8)).f2),.int .i64 ((rd_T108 l0 (ji8)).f3),.int .i64 ((rd_T108 l0 (ji8)).f4)],.agg #[.string ((rd_T108 l0 x3_1).f0),.int .i64 ((rd_T108 l0 x3_1).f1),.string ((rd_T108 l0 x3_1).f2),.int .i64 ((rd_T108 l0 x3_1).f3),.int .i64 ((rd_T108 l0 x3_1).f4)]] (by rfl) rfl rfl (by (try simp only [List.map_toArray,List.map_cons,List.map_nil]);first|done|(simp only [hji8];rfl)|rfl|(simp only [List.length_drop,List.length_take];rfl)) ?_;(with_reducible refine (spec_l12Before.calls ((rd_T108 l0 (ji8)).f0) ((rd_T108 l0 (ji8)).f1) ((rd_T108 l0 (ji8)).f2) ((rd_T108 l0 (ji8)).f3) ((rd_T108 l0 (ji8)).f4) ((rd_T108 l0 x3_1).f0) ((rd_T108 l0 x3_1).f1) ((rd_T108 l0 x3_1).f2) ((rd_T108 l0 x3_1).f3) ((rd_T108 l0 x3_1).f4) false _ A11.out).mono ?_);rintro e w18 ⟨rfl,hb⟩;refine ⟨_,rfl,?_⟩;replace HB:=am (below_step (bs HB) hb);(try clear hb);(try clear hb2);(try clear hk);(try clear hi);refine hK.out _ _ ⟨((cb HB hw286_0).trans rfl),((cb HB hw286_1).trans rfl),((cb HB hw286_2).trans rfl),((cb HB hw286_3).trans rfl),((cb HB hw286_4).trans rfl),((cb HB hw288_0).trans rfl),((cb HB hw288_1).trans rfl),((cb HB hw288_2).trans rfl),((cb HB hw288_3).trans rfl),((cb HB hw288_4).trans rfl),((cb HB hw289_0).trans rfl),((cb HB hw289_1).trans rfl),((cb HB hw289_2).trans rfl),((cb HB hw289_3).trans rfl),((cb HB hw289_4).trans rfl)⟩ (fun hHeld=>?_);clear hK K;refine nA 32 ?_;refine pA 20 33 HT_ ?_;refine pA 21 34 HT_ ?_;refine pA 22 35 HT_ ?_;refine done_ (done_of HT_.out (by kernel_rfl)) ?_
           try go_wp2
           go_ret
           exact ⟨by first|rfl|(simp [errW_none,errW_some] <;> rfl)|(simp only [← hji8];first|rfl|(simp [errW_none,errW_some] <;> rfl))|(simp [*,errW_none,errW_some] <;> rfl),bs HB⟩
         ·rw [if_neg c10] at H
          exact absurd H (by simp)
        ·rw [if_neg c9] at H
         exact absurd H (by simp)
       ·rw [if_neg c7] at H;have c7b0:decide (0<x3_1)=false:=decide_eq_false c7;clear c7;have H':=am H;clear H
        try go_wp2
        replace HB:=am (below_drew1 HB.out);have p286:0≤(x3_1:Int):=oa;have q286:x3_1<(l0.length:Int):=oa;obtain ⟨ad286,e286,hx286_0,hx286_1,hx286_2,hx286_3,hx286_4⟩:=at_T108 HR0.out x3_1 p286 q286;have hw286_4:=hx286_4;have hw286_3:=hx286_3;have hw286_2:=hx286_2;have hw286_1:=hx286_1;have hw286_0:=hx286_0
        cases e286
        replace hx286_0:=cb HB hx286_0;replace hx286_1:=cb HB hx286_1;replace hx286_2:=cb HB hx286_2;replace hx286_3:=cb HB hx286_3;replace hx286_4:=cb HB hx286_4;replace p286:=eq_true p286;replace q286:=eq_true q286;refine start_ (n:=23) (S:=fun w'=>qe5 w' (ad286.add ((x3_1).toNat * 5)) (.string ((rd_T108 l0 x3_1).f0)) (.int .i64 ((rd_T108 l0 x3_1).f1)) (.string ((rd_T108 l0 x3_1).f2)) (.int .i64 ((rd_T108 l0 x3_1).f3)) (.int .i64 ((rd_T108 l0 x3_1).f4))) (ds:=[]) _ (by kernel_rfl) rfl rfl ⟨((cb HB hw286_0).trans rfl),((cb HB hw286_1).trans rfl),((cb HB hw286_2).trans rfl),((cb HB hw286_3).trans rfl),((cb HB hw286_4).trans rfl)⟩ (fun hHeld=>?_);refine with_tabW spec_OutboxRight.tab6 spec_OutboxRight.bits6 (fun HT_ HW_=>?_)
        generalize wr.drew=w19 at HB hx286_0 hx286_1 hx286_2 hx286_3 hx286_4 hHeld ⊢
        refine pA 0 13 HT_ ?_;refine pA 1 14 HT_ ?_;refine pA 2 15 HT_ ?_;refine tA 3 16 HT_ HW_ hHeld ?_;refine oA 4 17 HT_ (fun K hK=>?_);refine gA Try.func93 #[.agg #[.string ((rd_T108 l0 x3_1).f0),.int .i64 ((rd_T108 l0 x3_1).f1),.string ((rd_T108 l0 x3_1).f2),.int .i64 ((rd_T108 l0 x3_1).f3),.int .i64 ((rd_T108 l0 x3_1).f4)]] ?_;(with_reducible refine (spec_l12Out.calls k1 ((rd_T108 l0 x3_1).f0) ((rd_T108 l0 x3_1).f1) ((rd_T108 l0 x3_1).f2) ((rd_T108 l0 x3_1).f3) ((rd_T108 l0 x3_1).f4) true _ A5.out).mono ?_);rintro e w20 ⟨rfl,hb⟩;refine ⟨_,rfl,?_⟩;replace HB:=am (below_step (bs HB) hb);(try clear hb);(try clear hb2);(try clear hk);(try clear hi);refine hK.out _ _ ⟨((cb HB hw286_0).trans rfl),((cb HB hw286_1).trans rfl),((cb HB hw286_2).trans rfl),((cb HB hw286_3).trans rfl),((cb HB hw286_4).trans rfl)⟩ (fun hHeld=>?_);clear hK K;refine nA 17 ?_;refine pA 5 18 HT_ ?_;refine pA 6 19 HT_ ?_;refine pA 7 20 HT_ ?_;refine pA 8 21 HT_ ?_;refine pA 9 22 HT_ ?_;refine pB 10 23 HT_ ?_;refine pB 11 24 HT_ ?_;refine pB 12 25 HT_ ?_;refine pB 13 26 HT_ ?_;refine pB 14 27 HT_ ?_;refine pB 15 28 HT_ ?_;refine pB 16 29 HT_ ?_;refine pB 17 30 HT_ ?_;refine pB 18 31 HT_ ?_;refine pB 19 32 HT_ ?_;refine pB 20 33 HT_ ?_;refine pA 21 34 HT_ ?_;refine pA 22 35 HT_ ?_;refine done_ (done_of HT_.out (by kernel_rfl)) ?_
        try go_wp2
        go_roundg k1
        case measure=>have:=HK1.out;omega
        case rel=>exact ⟨(wrap64 (x3_1+1)),fg,H',⟨by have:=HK1.out;omega⟩,⟨bs HB⟩⟩
      ·replace c6:=Bool.eq_false_iff.mpr c6;subst c6
       have H1:(some false)=some r:=by rw [if_neg (show ¬ (false=true) by decide)] at H;exact H
       clear H;have H:=H1;clear H1;obtain rfl:=Option.some.inj H
       try go_wp2
       replace HB:=am (below_drew1 HB.out);have p286:0≤(x3_1:Int):=oa;have q286:x3_1<(l0.length:Int):=oa;obtain ⟨ad286,e286,hx286_0,hx286_1,hx286_2,hx286_3,hx286_4⟩:=at_T108 HR0.out x3_1 p286 q286;have hw286_4:=hx286_4;have hw286_3:=hx286_3;have hw286_2:=hx286_2;have hw286_1:=hx286_1;have hw286_0:=hx286_0
       cases e286
       replace hx286_0:=cb HB hx286_0;replace hx286_1:=cb HB hx286_1;replace hx286_2:=cb HB hx286_2;replace hx286_3:=cb HB hx286_3;replace hx286_4:=cb HB hx286_4;replace p286:=eq_true p286;replace q286:=eq_true q286;refine start_ (n:=23) (S:=fun w'=>qe5 w' (ad286.add ((x3_1).toNat * 5)) (.string ((rd_T108 l0 x3_1).f0)) (.int .i64 ((rd_T108 l0 x3_1).f1)) (.string ((rd_T108 l0 x3_1).f2)) (.int .i64 ((rd_T108 l0 x3_1).f3)) (.int .i64 ((rd_T108 l0 x3_1).f4))) (ds:=[]) _ (by kernel_rfl) rfl rfl ⟨((cb HB hw286_0).trans rfl),((cb HB hw286_1).trans rfl),((cb HB hw286_2).trans rfl),((cb HB hw286_3).trans rfl),((cb HB hw286_4).trans rfl)⟩ (fun hHeld=>?_);refine with_tabW spec_OutboxRight.tab6 spec_OutboxRight.bits6 (fun HT_ HW_=>?_)
       generalize wr.drew=w21 at HB hx286_0 hx286_1 hx286_2 hx286_3 hx286_4 hHeld ⊢
       refine pA 0 13 HT_ ?_;refine pA 1 14 HT_ ?_;refine pA 2 15 HT_ ?_;refine tA 3 16 HT_ HW_ hHeld ?_;refine oA 4 17 HT_ (fun K hK=>?_);refine gA Try.func93 #[.agg #[.string ((rd_T108 l0 x3_1).f0),.int .i64 ((rd_T108 l0 x3_1).f1),.string ((rd_T108 l0 x3_1).f2),.int .i64 ((rd_T108 l0 x3_1).f3),.int .i64 ((rd_T108 l0 x3_1).f4)]] ?_;(with_reducible refine (spec_l12Out.calls k1 ((rd_T108 l0 x3_1).f0) ((rd_T108 l0 x3_1).f1) ((rd_T108 l0 x3_1).f2) ((rd_T108 l0 x3_1).f3) ((rd_T108 l0 x3_1).f4) false _ A5.out).mono ?_);rintro e w22 ⟨rfl,hb⟩;refine ⟨_,rfl,?_⟩;replace HB:=am (below_step (bs HB) hb);(try clear hb);(try clear hb2);(try clear hk);(try clear hi);refine hK.out _ _ ⟨((cb HB hw286_0).trans rfl),((cb HB hw286_1).trans rfl),((cb HB hw286_2).trans rfl),((cb HB hw286_3).trans rfl),((cb HB hw286_4).trans rfl)⟩ (fun hHeld=>?_);clear hK K;refine nA 17 ?_;refine pA 5 18 HT_ ?_;refine pA 6 19 HT_ ?_;refine pB 7 20 HT_ ?_;refine pB 8 21 HT_ ?_;refine pB 9 22 HT_ ?_;refine pB 10 23 HT_ ?_;refine pB 11 24 HT_ ?_;refine pB 12 25 HT_ ?_;refine pB 13 26 HT_ ?_;refine pB 14 27 HT_ ?_;refine pB 15 28 HT_ ?_;refine pB 16 29 HT_ ?_;refine pB 17 30 HT_ ?_;refine pB 18 31 HT_ ?_;refine pB 19 32 HT_ ?_;refine pB 20 33 HT_ ?_;refine pB 21 34 HT_ ?_;refine pA 22 35 HT_ ?_;refine done_ (done_of HT_.out (by kernel_rfl)) ?_
       try go_wp2
       go_ret
       exact ⟨ff,bs HB⟩
     ·rw [if_neg c4] at H
      exact absurd H (by simp)
    ·rw [if_neg c3] at H;have c3b0:decide (x3_1<(l0.length:Int))=false:=decide_eq_false c3;clear c3;obtain rfl:=Option.some.inj H
     go_wp2
     go_ret
     exact ⟨ff,bs HB⟩
end Go.Proofs.Ytjjfjgdhloideaa.QI

-- Merged by a program of this session (wip/tool/pack.py) out of its own texts for this claim.
import Derived.Test.YtjjfjgdhloideaaKFnExactGateRight0
import Derived.Test.YtjjfjgdhloideaaKFnExactGateRight1
import Derived.Test.YtjjfjgdhloideaaKFnExactGateRight2
import Derived.Test.YtjjfjgdhloideaaKFnExactGateRight3
namespace Go.Proofs.Ytjjfjgdhloideaa.QI
open Go.RowKit Go.Proofs.YtjjfjgdhloideaaW.PrintWords Go.Proofs.YtjjfjgdhloideaaW.PrintLast Go.Proofs.YtjjfjgdhloideaaW.PrintMore
attribute [local go_sem] max2_int min2_int max_two min_two max_three min_three max_four min_four   -- for this text's walks alone
set_option linter.unusedVariables false
set_option linter.unusedSimpArgs false
set_option maxHeartbeats 8000000 in
set_option maxRecDepth 100000 in
theorem laws_szSeenS.calls (A0:Option Addr) (c0:Nat) (l0:List (S172)) (a1:Int) (r:Int) (w:World) (hr0:Kd.C k172 w A0 l0.length l0) (hc0:l0.length≤c0) (h:laws_szSeenS.f l0 a1=some r) :
  Calls Try.prog 114 #[.slice A0 l0.length c0,.int .i64 a1] w fun e w'=>e=.returned (.int .i64 r)∧Drawn0 w w':=by
 have HR0:=am hr0;have HC0:=am hc0;clear hr0 hc0;have H:(if (wrap64 (a1 - (l0.length:Int)))<0 then (some (-1)) else (some (wrap64 (a1 - (l0.length:Int)))))=some r:=h;clear h
 by_cases c3:(wrap64 (a1 - (l0.length:Int)))<0
 ·rw [if_pos c3] at H;have c3b0:decide ((wrap64 (a1 - (l0.length:Int)))<0)=true:=decide_eq_true c3;clear c3;obtain rfl:=Option.some.inj H
  go_enter Try.func114,Try.ntmps114
  go_wp2
  go_ret
  exact ⟨fg,by repeat (first|exact Drawn0.refl _|apply Drawn0.step)⟩
 ·rw [if_neg c3] at H;have c3b0:decide ((wrap64 (a1 - (l0.length:Int)))<0)=false:=decide_eq_false c3;clear c3;obtain rfl:=Option.some.inj H
  go_enter Try.func114,Try.ntmps114
  go_wp2
  go_ret
  exact ⟨fg,by repeat (first|exact Drawn0.refl _|apply Drawn0.step)⟩
set_option maxHeartbeats 8000000 in
set_option maxRecDepth 100000 in
theorem laws_szPartner.calls (a0_0:ByteArray) (a0_1:Int) (a0_2:Int) (A0_3:Option Addr) (c0_3:Nat) (l0_3:List (S172)) (a1:Int) (r:Int) (w:World) (hr0_3:Kd.C k172 w A0_3 l0_3.length l0_3) (hc0_3:l0_3.length≤c0_3) (h:laws_szPartner.f a0_0 a0_1 a0_2 l0_3 a1=some r) :
  Calls Try.prog 88 #[.agg #[.string a0_0,.int .i64 a0_1,.int .i64 a0_2,.slice A0_3 l0_3.length c0_3],.int .i64 a1] w fun e w'=>e=.returned (.int .i64 r)∧Below w.heap.size w w':=by
 have hu126:=Try.underlying126;have HR0_3:=am hr0_3;have HC0_3:=am hc0_3;clear hr0_3 hc0_3;have HB:=am (Below.refl w.heap.size w);have H:(if (wrap64 (a1 - (a0_0.size:Int)))<0 then (some (-1)) else ((laws_szSeenS.f l0_3 (wrap64 (a1 - (a0_0.size:Int)))).bind fun t102=>(if t102<0 then (some (-1)) else (some t102))))=some r:=h;clear h
 by_cases c3:(wrap64 (a1 - (a0_0.size:Int)))<0
 ·rw [if_pos c3] at H;have c3b0:decide ((wrap64 (a1 - (a0_0.size:Int)))<0)=true:=decide_eq_true c3;clear c3;obtain rfl:=Option.some.inj H
  go_enter Try.func88,Try.ntmps88
  go_wp2_with (first|((with_reducible refine gate_dst (N:=2) rfl ?_);refine bx 2 (cs:=#[.string a0_0,.int .i64 a0_1,.int .i64 a0_2,.slice A0_3 l0_3.length c0_3]) (t:=126) ?_;intro gb101 hg w4 hbox hb;have BK101:=am (hbox);have GW101:=am ((gs hg (bs HB)));have GE101:=am ((gs hg (bs HB)));replace HB:=am (below_step (bs HB) hb);clear hb hbox hg;obtain ⟨hcz5_0,hcz5_1,hcz5_2,hcz5_3,hfz5_0,hfz5_1,hfz5_2,hfz5_3⟩:=cf4 BK101))
  go_ret
  exact ⟨ff,bs HB⟩
 ·rw [if_neg c3] at H;have c3b0:decide ((wrap64 (a1 - (a0_0.size:Int)))<0)=false:=decide_eq_false c3;clear c3;replace H:=Option.bind_eq_some_iff.mp H;obtain ⟨t102,A60,H⟩:=H;replace H:(if t102<0 then (some (-1)) else (some t102))=some r:=H;have A6:=am A60;clear A60
  go_enter Try.func88,Try.ntmps88
  try go_wp2_with (first|((with_reducible refine gate_dst (N:=2) rfl ?_);refine bx 2 (cs:=#[.string a0_0,.int .i64 a0_1,.int .i64 a0_2,.slice A0_3 l0_3.length c0_3]) (t:=126) ?_;intro gb101 hg w7 hbox hb;have BK101:=am (hbox);have GW101:=am ((gs hg (bs HB)));have GE101:=am ((gs hg (bs HB)));replace HB:=am (below_step (bs HB) hb);clear hb hbox hg;obtain ⟨hcz8_0,hcz8_1,hcz8_2,hcz8_3,hfz8_0,hfz8_1,hfz8_2,hfz8_3⟩:=cf4 BK101))
  go_at_call 114;(with_reducible refine (laws_szSeenS.calls _ _ l0_3 (wrap64 (a1 - (a0_0.size:Int))) t102 _ (Kd.C_below HR0_3.out (bs HB)) HC0_3.out A6.out).mono ?_);rintro e w' ⟨rfl,⟨nd,rfl⟩⟩
  by_cases c9:t102<0
  ·rw [if_pos c9] at H;have c9b0:decide (t102<0)=true:=decide_eq_true c9;clear c9;obtain rfl:=Option.some.inj H
   go_wp2
   go_ret
   exact ⟨ff,bs HB⟩
  ·rw [if_neg c9] at H;have c9b0:decide (t102<0)=false:=decide_eq_false c9;clear c9;obtain rfl:=Option.some.inj H
   go_wp2
   go_ret
   exact ⟨ff,bs HB⟩
set_option maxHeartbeats 8000000 in
set_option maxRecDepth 100000 in
theorem laws_szPartnerS.calls (k:Nat) (A0:Option Addr) (c0:Nat) (l0:List (S126)) (a1:Int) (r:Int) (w:World) (hr0:Kd.C k126 w A0 l0.length l0) (hc0:l0.length≤c0) (h:laws_szPartnerS.f k l0 a1=some r) :
  Calls Try.prog 51 #[.slice A0 l0.length c0,.int .i64 a1] w fun e w'=>e=.returned (.int .i64 r)∧Below w.heap.size w w':=by
 have hu126:=Try.underlying126;have HR0:=am hr0;have HC0:=am hc0;clear hr0 hc0;have HB:=am (Below.refl w.heap.size w);have H:(if (wrap64 (a1 - (l0.length:Int)))<0 then (some (-1)) else (laws_szPartnerS.l0 k l0 (wrap64 (a1 - (l0.length:Int))) 0))=some r:=h;clear h
 by_cases c3:(wrap64 (a1 - (l0.length:Int)))<0
 ·rw [if_pos c3] at H;have c3b0:decide ((wrap64 (a1 - (l0.length:Int)))<0)=true:=decide_eq_true c3;clear c3;obtain rfl:=Option.some.inj H
  go_enter Try.func51,Try.ntmps51
  go_wp2
  go_ret
  exact ⟨ff,bs HB⟩
 ·rw [if_neg c3] at H;have c3b0:decide ((wrap64 (a1 - (l0.length:Int)))<0)=false:=decide_eq_false c3;clear c3;have H':=am H;clear H
  go_enter Try.func51,Try.ntmps51
  go_wp2
  go_loopg [1,5] k (fun kq v1 v5 w'=>∃ (x1_1:Int) (x5_1:Int),v1=.int .i64 x1_1∧v5=.int .i64 x5_1∧Aside0 (laws_szPartnerS.l0 kq l0 x1_1 x5_1=some r)∧Aside0 (kq≤k)∧Aside0 (Below w.heap.size w w'))
  case atStart=>exact ⟨(wrap64 (a1 - (l0.length:Int))),(0),fg,fg,H',⟨Nat.le_refl _⟩,⟨bs HB⟩⟩
  case round =>
   clear H'
   try clear p2
   try clear c3
   try clear c3b0
   obtain ⟨x1_1,x5_1,rfl,rfl,HA,HK1,HB⟩:=hrel
   cases gk with
   | zero=>exact absurd HA.out (by simp [laws_szPartnerS.l0])
   | succ k1 =>
    have H:=HA.out;clear HA;simp only [laws_szPartnerS.l0] at H
    by_cases c4:x5_1<(l0.length:Int)
    ·rw [if_pos c4] at H;have c4b0:decide (x5_1<(l0.length:Int))=true:=decide_eq_true c4;clear c4
     by_cases c5:0≤x5_1
     ·rw [if_pos c5] at H;have c5b0:decide (0≤x5_1)=true:=decide_eq_true c5;clear c5;replace H:=Option.bind_eq_some_iff.mp H;obtain ⟨t104,A60,H⟩:=H;replace H:(if t104<0 then (some (-1)) else (laws_szPartnerS.l0 k1 l0 t104 (wrap64 (x5_1+1))))=some r:=H;have A6:=am A60;clear A60;have p103:0≤(x5_1:Int):=oa;have q103:x5_1<(l0.length:Int):=oa;obtain ⟨ad103,A103_3,c103_3,e103,hx103_0,hx103_1,hx103_2,hx103_3,hl103_3,hi103_3⟩:=at_T126 HR0.out x5_1 p103 q103
      cases e103
      replace hx103_0:=cb HB hx103_0;replace hx103_1:=cb HB hx103_1;replace hx103_2:=cb HB hx103_2;replace hx103_3:=cb HB hx103_3;have HR103_3:=am hi103_3;have HC103_3:=am hl103_3;clear hi103_3 hl103_3;replace p103:=eq_true p103;replace q103:=eq_true q103
      try go_wp2_with (fail)
      go_at_call 88;(with_reducible refine (laws_szPartner.calls ((rd_T126 l0 x5_1).f0) ((rd_T126 l0 x5_1).f1) ((rd_T126 l0 x5_1).f2) _ _ ((rd_T126 l0 x5_1).f3) x1_1 t104 _ (Kd.C_below HR103_3.out (bs HB)) HC103_3.out A6.out).mono ?_);rintro e w7 ⟨rfl,hb⟩;replace HB:=am (below_step (bs HB) hb);(try clear hb);(try clear hb2);(try clear hk);(try clear hi)
      by_cases c8:t104<0
      ·rw [if_pos c8] at H;have c8b0:decide (t104<0)=true:=decide_eq_true c8;clear c8;obtain rfl:=Option.some.inj H
       go_wp2
       go_ret
       exact ⟨ff,bs HB⟩
      ·rw [if_neg c8] at H;have c8b0:decide (t104<0)=false:=decide_eq_false c8;clear c8;have H':=am H;clear H
       go_wp2
       go_roundg k1
       case measure=>have:=HK1.out;omega
       case rel=>exact ⟨(t104),(wrap64 (x5_1+1)),fg,fg,H',⟨by have:=HK1.out;omega⟩,⟨bs HB⟩⟩
     ·rw [if_neg c5] at H
      exact absurd H (by simp)
    ·rw [if_neg c4] at H;have c4b0:decide (x5_1<(l0.length:Int))=false:=decide_eq_false c4;clear c4;obtain rfl:=Option.some.inj H
     go_wp2
     go_ret
     exact ⟨ff,bs HB⟩
set_option maxHeartbeats 8000000 in
set_option maxRecDepth 100000 in
theorem laws_szCross.calls (a0_0:ByteArray) (a0_1:ByteArray) (a0_2:ByteArray) (a1:Int) (r:Int) (w:World) (h:laws_szCross.f a0_0 a0_1 a0_2 a1=some r) :
  Calls Try.prog 89 #[.agg #[.string a0_0,.string a0_1,.string a0_2],.int .i64 a1] w fun e w'=>e=.returned (.int .i64 r)∧Below w.heap.size w w':=by
 have hu128:=Try.underlying128;have HB:=am (Below.refl w.heap.size w);have H:(if (wrap64 (a1 - (a0_0.size:Int)))<0 then (some (-1)) else (if (wrap64 ((wrap64 (a1 - (a0_0.size:Int))) - (a0_1.size:Int)))<0 then (some (-1)) else (if (wrap64 ((wrap64 ((wrap64 (a1 - (a0_0.size:Int))) - (a0_1.size:Int))) - (a0_2.size:Int)))<0 then (some (-1)) else (some (wrap64 ((wrap64 ((wrap64 (a1 - (a0_0.size:Int))) - (a0_1.size:Int))) - (a0_2.size:Int)))))))=some r:=h;clear h
 by_cases c3:(wrap64 (a1 - (a0_0.size:Int)))<0
 ·rw [if_pos c3] at H;have c3b0:decide ((wrap64 (a1 - (a0_0.size:Int)))<0)=true:=decide_eq_true c3;clear c3;obtain rfl:=Option.some.inj H
  go_enter Try.func89,Try.ntmps89
  go_wp2_with (first|((with_reducible refine gate_dst (N:=2) rfl ?_);refine bx 2 (cs:=#[.string a0_0,.string a0_1,.string a0_2]) (t:=128) ?_;intro gb105 hg w4 hbox hb;have BK105:=am (hbox);have GW105:=am ((gs hg (bs HB)));have GE105:=am ((gs hg (bs HB)));replace HB:=am (below_step (bs HB) hb);clear hb hbox hg;obtain ⟨hcz5_0,hcz5_1,hcz5_2,hfz5_0,hfz5_1,hfz5_2⟩:=cf3 BK105))
  go_ret
  exact ⟨ff,bs HB⟩
 ·rw [if_neg c3] at H;have c3b0:decide ((wrap64 (a1 - (a0_0.size:Int)))<0)=false:=decide_eq_false c3;clear c3
  by_cases c6:(wrap64 ((wrap64 (a1 - (a0_0.size:Int))) - (a0_1.size:Int)))<0
  ·rw [if_pos c6] at H;have c6b0:decide ((wrap64 ((wrap64 (a1 - (a0_0.size:Int))) - (a0_1.size:Int)))<0)=true:=decide_eq_true c6;clear c6;obtain rfl:=Option.some.inj H
   go_enter Try.func89,Try.ntmps89
   go_wp2_with (first|((with_reducible refine gate_dst (N:=2) rfl ?_);refine bx 2 (cs:=#[.string a0_0,.string a0_1,.string a0_2]) (t:=128) ?_;intro gb105 hg w7 hbox hb;have BK105:=am (hbox);have GW105:=am ((gs hg (bs HB)));have GE105:=am ((gs hg (bs HB)));replace HB:=am (below_step (bs HB) hb);clear hb hbox hg;obtain ⟨hcz8_0,hcz8_1,hcz8_2,hfz8_0,hfz8_1,hfz8_2⟩:=cf3 BK105))
   go_ret
   exact ⟨ff,bs HB⟩
  ·rw [if_neg c6] at H;have c6b0:decide ((wrap64 ((wrap64 (a1 - (a0_0.size:Int))) - (a0_1.size:Int)))<0)=false:=decide_eq_false c6;clear c6
   by_cases c9:(wrap64 ((wrap64 ((wrap64 (a1 - (a0_0.size:Int))) - (a0_1.size:Int))) - (a0_2.size:Int)))<0
   ·rw [if_pos c9] at H;have c9b0:decide ((wrap64 ((wrap64 ((wrap64 (a1 - (a0_0.size:Int))) - (a0_1.size:Int))) - (a0_2.size:Int)))<0)=true:=decide_eq_true c9;clear c9;obtain rfl:=Option.some.inj H
    go_enter Try.func89,Try.ntmps89
    go_wp2_with (first|((with_reducible refine gate_dst (N:=2) rfl ?_);refine bx 2 (cs:=#[.string a0_0,.string a0_1,.string a0_2]) (t:=128) ?_;intro gb105 hg w10 hbox hb;have BK105:=am (hbox);have GW105:=am ((gs hg (bs HB)));have GE105:=am ((gs hg (bs HB)));replace HB:=am (below_step (bs HB) hb);clear hb hbox hg;obtain ⟨hcz11_0,hcz11_1,hcz11_2,hfz11_0,hfz11_1,hfz11_2⟩:=cf3 BK105))
    go_ret
    exact ⟨ff,bs HB⟩
   ·rw [if_neg c9] at H;have c9b0:decide ((wrap64 ((wrap64 ((wrap64 (a1 - (a0_0.size:Int))) - (a0_1.size:Int))) - (a0_2.size:Int)))<0)=false:=decide_eq_false c9;clear c9;obtain rfl:=Option.some.inj H
    go_enter Try.func89,Try.ntmps89
    go_wp2_with (first|((with_reducible refine gate_dst (N:=2) rfl ?_);refine bx 2 (cs:=#[.string a0_0,.string a0_1,.string a0_2]) (t:=128) ?_;intro gb105 hg w12 hbox hb;have BK105:=am (hbox);have GW105:=am ((gs hg (bs HB)));have GE105:=am ((gs hg (bs HB)));replace HB:=am (below_step (bs HB) hb);clear hb hbox hg;obtain ⟨hcz13_0,hcz13_1,hcz13_2,hfz13_0,hfz13_1,hfz13_2⟩:=cf3 BK105))
    go_ret
    exact ⟨ff,bs HB⟩
end Go.Proofs.Ytjjfjgdhloideaa.QI
namespace Go.Proofs.Ytjjfjgdhloideaa.QI
open Go.RowKit Go.Proofs.YtjjfjgdhloideaaW.PrintWords Go.Proofs.YtjjfjgdhloideaaW.PrintLast Go.Proofs.YtjjfjgdhloideaaW.PrintMore
attribute [local go_sem] max2_int min2_int max_two min_two max_three min_three max_four min_four   -- for this text's walks alone
set_option linter.unusedVariables false
set_option linter.unusedSimpArgs false
set_option maxHeartbeats 8000000 in
set_option maxRecDepth 100000 in
theorem laws_szCrossS.calls (k:Nat) (A0:Option Addr) (c0:Nat) (l0:List (S128)) (a1:Int) (r:Int) (w:World) (hr0:Kd.C k128 w A0 l0.length l0) (hc0:l0.length≤c0) (h:laws_szCrossS.f k l0 a1=some r) :
  Calls Try.prog 52 #[.slice A0 l0.length c0,.int .i64 a1] w fun e w'=>e=.returned (.int .i64 r)∧Below w.heap.size w w':=by
 have hu128:=Try.underlying128;have HR0:=am hr0;have HC0:=am hc0;clear hr0 hc0;have HB:=am (Below.refl w.heap.size w);have H:(if (wrap64 (a1 - (l0.length:Int)))<0 then (some (-1)) else (laws_szCrossS.l0 k l0 (wrap64 (a1 - (l0.length:Int))) 0))=some r:=h;clear h
 by_cases c3:(wrap64 (a1 - (l0.length:Int)))<0
 ·rw [if_pos c3] at H;have c3b0:decide ((wrap64 (a1 - (l0.length:Int)))<0)=true:=decide_eq_true c3;clear c3;obtain rfl:=Option.some.inj H
  go_enter Try.func52,Try.ntmps52
  go_wp2
  go_ret
  exact ⟨ff,bs HB⟩
 ·rw [if_neg c3] at H;have c3b0:decide ((wrap64 (a1 - (l0.length:Int)))<0)=false:=decide_eq_false c3;clear c3;have H':=am H;clear H
  go_enter Try.func52,Try.ntmps52
  go_wp2
  go_loopg [1,5] k (fun kq v1 v5 w'=>∃ (x1_1:Int) (x5_1:Int),v1=.int .i64 x1_1∧v5=.int .i64 x5_1∧Aside0 (laws_szCrossS.l0 kq l0 x1_1 x5_1=some r)∧Aside0 (kq≤k)∧Aside0 (Below w.heap.size w w'))
  case atStart=>exact ⟨(wrap64 (a1 - (l0.length:Int))),(0),fg,fg,H',⟨Nat.le_refl _⟩,⟨bs HB⟩⟩
  case round =>
   clear H'
   try clear p2
   try clear c3
   try clear c3b0
   obtain ⟨x1_1,x5_1,rfl,rfl,HA,HK1,HB⟩:=hrel
   cases gk with
   | zero=>exact absurd HA.out (by simp [laws_szCrossS.l0])
   | succ k1 =>
    have H:=HA.out;clear HA;simp only [laws_szCrossS.l0] at H
    by_cases c4:x5_1<(l0.length:Int)
    ·rw [if_pos c4] at H;have c4b0:decide (x5_1<(l0.length:Int))=true:=decide_eq_true c4;clear c4
     by_cases c5:0≤x5_1
     ·rw [if_pos c5] at H;have c5b0:decide (0≤x5_1)=true:=decide_eq_true c5;clear c5;replace H:=Option.bind_eq_some_iff.mp H;obtain ⟨t107,A60,H⟩:=H;replace H:(if t107<0 then (some (-1)) else (laws_szCrossS.l0 k1 l0 t107 (wrap64 (x5_1+1))))=some r:=H;have A6:=am A60;clear A60;have p106:0≤(x5_1:Int):=oa;have q106:x5_1<(l0.length:Int):=oa;obtain ⟨ad106,e106,hx106_0,hx106_1,hx106_2⟩:=at_T128 HR0.out x5_1 p106 q106
      cases e106
      replace hx106_0:=cb HB hx106_0;replace hx106_1:=cb HB hx106_1;replace hx106_2:=cb HB hx106_2;replace p106:=eq_true p106;replace q106:=eq_true q106
      try go_wp2_with (fail)
      go_at_call 89;(with_reducible refine (laws_szCross.calls ((rd_T128 l0 x5_1).f0) ((rd_T128 l0 x5_1).f1) ((rd_T128 l0 x5_1).f2) x1_1 t107 _ A6.out).mono ?_);rintro e w7 ⟨rfl,hb⟩;replace HB:=am (below_step (bs HB) hb);(try clear hb);(try clear hb2);(try clear hk);(try clear hi)
      by_cases c8:t107<0
      ·rw [if_pos c8] at H;have c8b0:decide (t107<0)=true:=decide_eq_true c8;clear c8;obtain rfl:=Option.some.inj H
       go_wp2
       go_ret
       exact ⟨ff,bs HB⟩
      ·rw [if_neg c8] at H;have c8b0:decide (t107<0)=false:=decide_eq_false c8;clear c8;have H':=am H;clear H
       go_wp2
       go_roundg k1
       case measure=>have:=HK1.out;omega
       case rel=>exact ⟨(t107),(wrap64 (x5_1+1)),fg,fg,H',⟨by have:=HK1.out;omega⟩,⟨bs HB⟩⟩
     ·rw [if_neg c5] at H
      exact absurd H (by simp)
    ·rw [if_neg c4] at H;have c4b0:decide (x5_1<(l0.length:Int))=false:=decide_eq_false c4;clear c4;obtain rfl:=Option.some.inj H
     go_wp2
     go_ret
     exact ⟨ff,bs HB⟩
set_option maxHeartbeats 8000000 in
set_option maxRecDepth 100000 in
theorem laws_szStock.calls (a0_0:ByteArray) (a0_1:Int) (a1:Int) (r:Int) (w:World) (h:laws_szStock.f a0_0 a0_1 a1=some r) :
  Calls Try.prog 78 #[.agg #[.string a0_0,.int .i64 a0_1],.int .i64 a1] w fun e w'=>e=.returned (.int .i64 r)∧Below w.heap.size w w':=by
 have hu111:=Try.underlying111;have HB:=am (Below.refl w.heap.size w);have H:(if (wrap64 (a1 - (a0_0.size:Int)))<0 then (some (-1)) else (some (wrap64 (a1 - (a0_0.size:Int)))))=some r:=h;clear h
 by_cases c3:(wrap64 (a1 - (a0_0.size:Int)))<0
 ·rw [if_pos c3] at H;have c3b0:decide ((wrap64 (a1 - (a0_0.size:Int)))<0)=true:=decide_eq_true c3;clear c3;obtain rfl:=Option.some.inj H
  go_enter Try.func78,Try.ntmps78
  go_wp2_with (first|((with_reducible refine gate_dst (N:=2) rfl ?_);refine bx 2 (cs:=#[.string a0_0,.int .i64 a0_1]) (t:=111) ?_;intro gb108 hg w4 hbox hb;have BK108:=am (hbox);have GW108:=am ((gs hg (bs HB)));have GE108:=am ((gs hg (bs HB)));replace HB:=am (below_step (bs HB) hb);clear hb hbox hg;obtain ⟨hcz5_0,hcz5_1,hfz5_0,hfz5_1⟩:=cf2 BK108))
  go_ret
  exact ⟨ff,bs HB⟩
 ·rw [if_neg c3] at H;have c3b0:decide ((wrap64 (a1 - (a0_0.size:Int)))<0)=false:=decide_eq_false c3;clear c3;obtain rfl:=Option.some.inj H
  go_enter Try.func78,Try.ntmps78
  go_wp2_with (first|((with_reducible refine gate_dst (N:=2) rfl ?_);refine bx 2 (cs:=#[.string a0_0,.int .i64 a0_1]) (t:=111) ?_;intro gb108 hg w6 hbox hb;have BK108:=am (hbox);have GW108:=am ((gs hg (bs HB)));have GE108:=am ((gs hg (bs HB)));replace HB:=am (below_step (bs HB) hb);clear hb hbox hg;obtain ⟨hcz7_0,hcz7_1,hfz7_0,hfz7_1⟩:=cf2 BK108))
  go_ret
  exact ⟨ff,bs HB⟩
set_option maxHeartbeats 8000000 in
set_option maxRecDepth 100000 in
theorem laws_szStockS.calls (k:Nat) (A0:Option Addr) (c0:Nat) (l0:List (S111)) (a1:Int) (r:Int) (w:World) (hr0:Kd.C k111 w A0 l0.length l0) (hc0:l0.length≤c0) (h:laws_szStockS.f k l0 a1=some r) :
  Calls Try.prog 39 #[.slice A0 l0.length c0,.int .i64 a1] w fun e w'=>e=.returned (.int .i64 r)∧Below w.heap.size w w':=by
 have hu111:=Try.underlying111;have HR0:=am hr0;have HC0:=am hc0;clear hr0 hc0;have HB:=am (Below.refl w.heap.size w);have H:(if (wrap64 (a1 - (l0.length:Int)))<0 then (some (-1)) else (laws_szStockS.l0 k l0 (wrap64 (a1 - (l0.length:Int))) 0))=some r:=h;clear h
 by_cases c3:(wrap64 (a1 - (l0.length:Int)))<0
 ·rw [if_pos c3] at H;have c3b0:decide ((wrap64 (a1 - (l0.length:Int)))<0)=true:=decide_eq_true c3;clear c3;obtain rfl:=Option.some.inj H
  go_enter Try.func39,Try.ntmps39
  go_wp2
  go_ret
  exact ⟨ff,bs HB⟩
 ·rw [if_neg c3] at H;have c3b0:decide ((wrap64 (a1 - (l0.length:Int)))<0)=false:=decide_eq_false c3;clear c3;have H':=am H;clear H
  go_enter Try.func39,Try.ntmps39
  go_wp2
  go_loopg [1,5] k (fun kq v1 v5 w'=>∃ (x1_1:Int) (x5_1:Int),v1=.int .i64 x1_1∧v5=.int .i64 x5_1∧Aside0 (laws_szStockS.l0 kq l0 x1_1 x5_1=some r)∧Aside0 (kq≤k)∧Aside0 (Below w.heap.size w w'))
  case atStart=>exact ⟨(wrap64 (a1 - (l0.length:Int))),(0),fg,fg,H',⟨Nat.le_refl _⟩,⟨bs HB⟩⟩
  case round =>
   clear H'
   try clear p2
   try clear c3
   try clear c3b0
   obtain ⟨x1_1,x5_1,rfl,rfl,HA,HK1,HB⟩:=hrel
   cases gk with
   | zero=>exact absurd HA.out (by simp [laws_szStockS.l0])
   | succ k1 =>
    have H:=HA.out;clear HA;simp only [laws_szStockS.l0] at H
    by_cases c4:x5_1<(l0.length:Int)
    ·rw [if_pos c4] at H;have c4b0:decide (x5_1<(l0.length:Int))=true:=decide_eq_true c4;clear c4
     by_cases c5:0≤x5_1
     ·rw [if_pos c5] at H;have c5b0:decide (0≤x5_1)=true:=decide_eq_true c5;clear c5;replace H:=Option.bind_eq_some_iff.mp H;obtain ⟨t110,A60,H⟩:=H;replace H:(if t110<0 then (some (-1)) else (laws_szStockS.l0 k1 l0 t110 (wrap64 (x5_1+1))))=some r:=H;have A6:=am A60;clear A60;have p109:0≤(x5_1:Int):=oa;have q109:x5_1<(l0.length:Int):=oa;obtain ⟨ad109,e109,hx109_0,hx109_1⟩:=at_T111 HR0.out x5_1 p109 q109
      cases e109
      replace hx109_0:=cb HB hx109_0;replace hx109_1:=cb HB hx109_1;replace p109:=eq_true p109;replace q109:=eq_true q109
      try go_wp2_with (fail)
      go_at_call 78;(with_reducible refine (laws_szStock.calls ((rd_T111 l0 x5_1).f0) ((rd_T111 l0 x5_1).f1) x1_1 t110 _ A6.out).mono ?_);rintro e w7 ⟨rfl,hb⟩;replace HB:=am (below_step (bs HB) hb);(try clear hb);(try clear hb2);(try clear hk);(try clear hi)
      by_cases c8:t110<0
      ·rw [if_pos c8] at H;have c8b0:decide (t110<0)=true:=decide_eq_true c8;clear c8;obtain rfl:=Option.some.inj H
       go_wp2
       go_ret
       exact ⟨ff,bs HB⟩
      ·rw [if_neg c8] at H;have c8b0:decide (t110<0)=false:=decide_eq_false c8;clear c8;have H':=am H;clear H
       go_wp2
       go_roundg k1
       case measure=>have:=HK1.out;omega
       case rel=>exact ⟨(t110),(wrap64 (x5_1+1)),fg,fg,H',⟨by have:=HK1.out;omega⟩,⟨bs HB⟩⟩
     ·rw [if_neg c5] at H
      exact absurd H (by simp)
    ·rw [if_neg c4] at H;have c4b0:decide (x5_1<(l0.length:Int))=false:=decide_eq_false c4;clear c4;obtain rfl:=Option.some.inj H
     go_wp2
     go_ret
     exact ⟨ff,bs HB⟩
end Go.Proofs.Ytjjfjgdhloideaa.QI
namespace Go.Proofs.Ytjjfjgdhloideaa.QI
open Go.RowKit Go.Proofs.YtjjfjgdhloideaaW.PrintWords Go.Proofs.YtjjfjgdhloideaaW.PrintLast Go.Proofs.YtjjfjgdhloideaaW.PrintMore
attribute [local go_sem] max2_int min2_int max_two min_two max_three min_three max_four min_four   -- for this text's walks alone
set_option linter.unusedVariables false
set_option linter.unusedSimpArgs false
set_option maxHeartbeats 8000000 in
set_option maxRecDepth 100000 in
theorem laws_szOrderLine.calls (a0_0:ByteArray) (a0_1:ByteArray) (a0_2:Int) (a0_3:ByteArray) (a0_4:Int) (a0_5:Int) (a0_6:Int) (a0_7:Int) (a1:Int) (r:Int) (w:World) (h:laws_szOrderLine.f a0_0 a0_1 a0_2 a0_3 a0_4 a0_5 a0_6 a0_7 a1=some r) :
  Calls Try.prog 79 #[.agg #[.string a0_0,.string a0_1,.int .i64 a0_2,.string a0_3,.int .i64 a0_4,.int .i64 a0_5,.int .i64 a0_6,.int .i64 a0_7],.int .i64 a1] w fun e w'=>e=.returned (.int .i64 r)∧Below w.heap.size w w':=by
 have hu113:=Try.underlying113;have HB:=am (Below.refl w.heap.size w);have H:(if (wrap64 (a1 - (a0_0.size:Int)))<0 then (some (-1)) else (if (wrap64 ((wrap64 (a1 - (a0_0.size:Int))) - (a0_1.size:Int)))<0 then (some (-1)) else (if (wrap64 ((wrap64 ((wrap64 (a1 - (a0_0.size:Int))) - (a0_1.size:Int))) - (a0_3.size:Int)))<0 then (some (-1)) else (some (wrap64 ((wrap64 ((wrap64 (a1 - (a0_0.size:Int))) - (a0_1.size:Int))) - (a0_3.size:Int)))))))=some r:=h;clear h
 by_cases c3:(wrap64 (a1 - (a0_0.size:Int)))<0
 ·rw [if_pos c3] at H;have c3b0:decide ((wrap64 (a1 - (a0_0.size:Int)))<0)=true:=decide_eq_true c3;clear c3;obtain rfl:=Option.some.inj H
  go_enter Try.func79,Try.ntmps79
  go_wp2_with (first|((with_reducible refine gate_dst (N:=2) rfl ?_);refine bx 2 (cs:=#[.string a0_0,.string a0_1,.int .i64 a0_2,.string a0_3,.int .i64 a0_4,.int .i64 a0_5,.int .i64 a0_6,.int .i64 a0_7]) (t:=113) ?_;intro gb111 hg w4 hbox hb;have BK111:=am (hbox);have GW111:=am ((gs hg (bs HB)));have GE111:=am ((gs hg (bs HB)));replace HB:=am (below_step (bs HB) hb);clear hb hbox hg;obtain ⟨hcz5_0,hcz5_1,hcz5_2,hcz5_3,hcz5_4,hcz5_5,hcz5_6,hcz5_7,hfz5_0,hfz5_1,hfz5_2,hfz5_3,hfz5_4,hfz5_5,hfz5_6,hfz5_7⟩:=cf8 BK111))
  go_ret
  exact ⟨ff,bs HB⟩
 ·rw [if_neg c3] at H;have c3b0:decide ((wrap64 (a1 - (a0_0.size:Int)))<0)=false:=decide_eq_false c3;clear c3
  by_cases c6:(wrap64 ((wrap64 (a1 - (a0_0.size:Int))) - (a0_1.size:Int)))<0
  ·rw [if_pos c6] at H;have c6b0:decide ((wrap64 ((wrap64 (a1 - (a0_0.size:Int))) - (a0_1.size:Int)))<0)=true:=decide_eq_true c6;clear c6;obtain rfl:=Option.some.inj H
   go_enter Try.func79,Try.ntmps79
   go_wp2_with (first|((with_reducible refine gate_dst (N:=2) rfl ?_);refine bx 2 (cs:=#[.string a0_0,.string a0_1,.int .i64 a0_2,.string a0_3,.int .i64 a0_4,.int .i64 a0_5,.int .i64 a0_6,.int .i64 a0_7]) (t:=113) ?_;intro gb111 hg w7 hbox hb;have BK111:=am (hbox);have GW111:=am ((gs hg (bs HB)));have GE111:=am ((gs hg (bs HB)));replace HB:=am (below_step (bs HB) hb);clear hb hbox hg;obtain ⟨hcz8_0,hcz8_1,hcz8_2,hcz8_3,hcz8_4,hcz8_5,hcz8_6,hcz8_7,hfz8_0,hfz8_1,hfz8_2,hfz8_3,hfz8_4,hfz8_5,hfz8_6,hfz8_7⟩:=cf8 BK111))
   go_ret
   exact ⟨ff,bs HB⟩
  ·rw [if_neg c6] at H;have c6b0:decide ((wrap64 ((wrap64 (a1 - (a0_0.size:Int))) - (a0_1.size:Int)))<0)=false:=decide_eq_false c6;clear c6
   by_cases c9:(wrap64 ((wrap64 ((wrap64 (a1 - (a0_0.size:Int))) - (a0_1.size:Int))) - (a0_3.size:Int)))<0
   ·rw [if_pos c9] at H;have c9b0:decide ((wrap64 ((wrap64 ((wrap64 (a1 - (a0_0.size:Int))) - (a0_1.size:Int))) - (a0_3.size:Int)))<0)=true:=decide_eq_true c9;clear c9;obtain rfl:=Option.some.inj H
    go_enter Try.func79,Try.ntmps79
    go_wp2_with (first|((with_reducible refine gate_dst (N:=2) rfl ?_);refine bx 2 (cs:=#[.string a0_0,.string a0_1,.int .i64 a0_2,.string a0_3,.int .i64 a0_4,.int .i64 a0_5,.int .i64 a0_6,.int .i64 a0_7]) (t:=113) ?_;intro gb111 hg w10 hbox hb;have BK111:=am (hbox);have GW111:=am ((gs hg (bs HB)));have GE111:=am ((gs hg (bs HB)));replace HB:=am (below_step (bs HB) hb);clear hb hbox hg;obtain ⟨hcz11_0,hcz11_1,hcz11_2,hcz11_3,hcz11_4,hcz11_5,hcz11_6,hcz11_7,hfz11_0,hfz11_1,hfz11_2,hfz11_3,hfz11_4,hfz11_5,hfz11_6,hfz11_7⟩:=cf8 BK111))
    go_ret
    exact ⟨ff,bs HB⟩
   ·rw [if_neg c9] at H;have c9b0:decide ((wrap64 ((wrap64 ((wrap64 (a1 - (a0_0.size:Int))) - (a0_1.size:Int))) - (a0_3.size:Int)))<0)=false:=decide_eq_false c9;clear c9;obtain rfl:=Option.some.inj H
    go_enter Try.func79,Try.ntmps79
    go_wp2_with (first|((with_reducible refine gate_dst (N:=2) rfl ?_);refine bx 2 (cs:=#[.string a0_0,.string a0_1,.int .i64 a0_2,.string a0_3,.int .i64 a0_4,.int .i64 a0_5,.int .i64 a0_6,.int .i64 a0_7]) (t:=113) ?_;intro gb111 hg w12 hbox hb;have BK111:=am (hbox);have GW111:=am ((gs hg (bs HB)));have GE111:=am ((gs hg (bs HB)));replace HB:=am (below_step (bs HB) hb);clear hb hbox hg;obtain ⟨hcz13_0,hcz13_1,hcz13_2,hcz13_3,hcz13_4,hcz13_5,hcz13_6,hcz13_7,hfz13_0,hfz13_1,hfz13_2,hfz13_3,hfz13_4,hfz13_5,hfz13_6,hfz13_7⟩:=cf8 BK111))
    go_ret
    exact ⟨ff,bs HB⟩
set_option maxHeartbeats 8000000 in
set_option maxRecDepth 100000 in
theorem laws_szOrderLineS.calls (k:Nat) (A0:Option Addr) (c0:Nat) (l0:List (S113)) (a1:Int) (r:Int) (w:World) (hr0:Kd.C k113 w A0 l0.length l0) (hc0:l0.length≤c0) (h:laws_szOrderLineS.f k l0 a1=some r) :
  Calls Try.prog 40 #[.slice A0 l0.length c0,.int .i64 a1] w fun e w'=>e=.returned (.int .i64 r)∧Below w.heap.size w w':=by
 have hu113:=Try.underlying113;have HR0:=am hr0;have HC0:=am hc0;clear hr0 hc0;have HB:=am (Below.refl w.heap.size w);have H:(if (wrap64 (a1 - (l0.length:Int)))<0 then (some (-1)) else (laws_szOrderLineS.l0 k l0 (wrap64 (a1 - (l0.length:Int))) 0))=some r:=h;clear h
 by_cases c3:(wrap64 (a1 - (l0.length:Int)))<0
 ·rw [if_pos c3] at H;have c3b0:decide ((wrap64 (a1 - (l0.length:Int)))<0)=true:=decide_eq_true c3;clear c3;obtain rfl:=Option.some.inj H
  go_enter Try.func40,Try.ntmps40
  go_wp2
  go_ret
  exact ⟨ff,bs HB⟩
 ·rw [if_neg c3] at H;have c3b0:decide ((wrap64 (a1 - (l0.length:Int)))<0)=false:=decide_eq_false c3;clear c3;have H':=am H;clear H
  go_enter Try.func40,Try.ntmps40
  go_wp2
  go_loopg [1,5] k (fun kq v1 v5 w'=>∃ (x1_1:Int) (x5_1:Int),v1=.int .i64 x1_1∧v5=.int .i64 x5_1∧Aside0 (laws_szOrderLineS.l0 kq l0 x1_1 x5_1=some r)∧Aside0 (kq≤k)∧Aside0 (Below w.heap.size w w'))
  case atStart=>exact ⟨(wrap64 (a1 - (l0.length:Int))),(0),fg,fg,H',⟨Nat.le_refl _⟩,⟨bs HB⟩⟩
  case round =>
   clear H'
   try clear p2
   try clear c3
   try clear c3b0
   obtain ⟨x1_1,x5_1,rfl,rfl,HA,HK1,HB⟩:=hrel
   cases gk with
   | zero=>exact absurd HA.out (by simp [laws_szOrderLineS.l0])
   | succ k1 =>
    have H:=HA.out;clear HA;simp only [laws_szOrderLineS.l0] at H
    by_cases c4:x5_1<(l0.length:Int)
    ·rw [if_pos c4] at H;have c4b0:decide (x5_1<(l0.length:Int))=true:=decide_eq_true c4;clear c4
     by_cases c5:0≤x5_1
     ·rw [if_pos c5] at H;have c5b0:decide (0≤x5_1)=true:=decide_eq_true c5;clear c5;replace H:=Option.bind_eq_some_iff.mp H;obtain ⟨t113,A60,H⟩:=H;replace H:(if t113<0 then (some (-1)) else (laws_szOrderLineS.l0 k1 l0 t113 (wrap64 (x5_1+1))))=some r:=H;have A6:=am A60;clear A60;have p112:0≤(x5_1:Int):=oa;have q112:x5_1<(l0.length:Int):=oa;obtain ⟨ad112,e112,hx112_0,hx112_1,hx112_2,hx112_3,hx112_4,hx112_5,hx112_6,hx112_7⟩:=at_T113 HR0.out x5_1 p112 q112
      cases e112
      replace hx112_0:=cb HB hx112_0;replace hx112_1:=cb HB hx112_1;replace hx112_2:=cb HB hx112_2;replace hx112_3:=cb HB hx112_3;replace hx112_4:=cb HB hx112_4;replace hx112_5:=cb HB hx112_5;replace hx112_6:=cb HB hx112_6;replace hx112_7:=cb HB hx112_7;replace p112:=eq_true p112;replace q112:=eq_true q112
      try go_wp2_with (fail)
      go_at_call 79;(with_reducible refine (laws_szOrderLine.calls ((rd_T113 l0 x5_1).f0) ((rd_T113 l0 x5_1).f1) ((rd_T113 l0 x5_1).f2) ((rd_T113 l0 x5_1).f3) ((rd_T113 l0 x5_1).f4) ((rd_T113 l0 x5_1).f5) ((rd_T113 l0 x5_1).f6) ((rd_T113 l0 x5_1).f7) x1_1 t113 _ A6.out).mono ?_);rintro e w7 ⟨rfl,hb⟩;replace HB:=am (below_step (bs HB) hb);(try clear hb);(try clear hb2);(try clear hk);(try clear hi)
      by_cases c8:t113<0
      ·rw [if_pos c8] at H;have c8b0:decide (t113<0)=true:=decide_eq_true c8;clear c8;obtain rfl:=Option.some.inj H
       go_wp2
       go_ret
       exact ⟨ff,bs HB⟩
      ·rw [if_neg c8] at H;have c8b0:decide (t113<0)=false:=decide_eq_false c8;clear c8;have H':=am H;clear H
       go_wp2
       go_roundg k1
       case measure=>have:=HK1.out;omega
       case rel=>exact ⟨(t113),(wrap64 (x5_1+1)),fg,fg,H',⟨by have:=HK1.out;omega⟩,⟨bs HB⟩⟩
     ·rw [if_neg c5] at H
      exact absurd H (by simp)
    ·rw [if_neg c4] at H;have c4b0:decide (x5_1<(l0.length:Int))=false:=decide_eq_false c4;clear c4;obtain rfl:=Option.some.inj H
     go_wp2
     go_ret
     exact ⟨ff,bs HB⟩
set_option maxHeartbeats 8000000 in
set_option maxRecDepth 100000 in
theorem laws_szBook.calls (k:Nat) (A0_0:Option Addr) (c0_0:Nat) (l0_0:List (S111)) (A0_1:Option Addr) (c0_1:Nat) (l0_1:List (S113)) (a1:Int) (r:Int) (w:World) (hr0_0:Kd.C k111 w A0_0 l0_0.length l0_0) (hc0_0:l0_0.length≤c0_0) (hr0_1:Kd.C k113 w A0_1 l0_1.length l0_1) (hc0_1:l0_1.length≤c0_1) (h:laws_szBook.f k l0_0 l0_1 a1=some r) :
  Calls Try.prog 11 #[.agg #[.slice A0_0 l0_0.length c0_0,.slice A0_1 l0_1.length c0_1],.int .i64 a1] w fun e w'=>e=.returned (.int .i64 r)∧Below w.heap.size w w':=by
 have hu39:=Try.underlying39;have HR0_0:=am hr0_0;have HC0_0:=am hc0_0;clear hr0_0 hc0_0;have HR0_1:=am hr0_1;have HC0_1:=am hc0_1;clear hr0_1 hc0_1;have HB:=am (Below.refl w.heap.size w);have H:((laws_szStockS.f k l0_0 a1).bind fun t115=>(if t115<0 then (some (-1)) else ((laws_szOrderLineS.f k l0_1 t115).bind fun t116=>(if t116<0 then (some (-1)) else (some t116)))))=some r:=h;clear h;replace H:=Option.bind_eq_some_iff.mp H;obtain ⟨t115,A30,H⟩:=H;replace H:(if t115<0 then (some (-1)) else ((laws_szOrderLineS.f k l0_1 t115).bind fun t116=>(if t116<0 then (some (-1)) else (some t116))))=some r:=H;have A3:=am A30;clear A30
 go_enter Try.func11,Try.ntmps11
 try go_wp2_with (first|((with_reducible refine gate_dst (N:=2) rfl ?_);refine bx 2 (cs:=#[.slice A0_0 l0_0.length c0_0,.slice A0_1 l0_1.length c0_1]) (t:=39) ?_;intro gb114 hg w4 hbox hb;have BK114:=am (hbox);have GW114:=am ((gs hg (bs HB)));have GE114:=am ((gs hg (bs HB)));replace HB:=am (below_step (bs HB) hb);clear hb hbox hg;obtain ⟨hcz5_0,hcz5_1,hfz5_0,hfz5_1⟩:=cf2 BK114))
 go_at_call 39;(with_reducible refine (laws_szStockS.calls k _ _ l0_0 a1 t115 _ (Kd.C_below HR0_0.out (bs HB)) HC0_0.out A3.out).mono ?_);rintro e w6 ⟨rfl,hb⟩;replace BK114:=am (blk_below (ks BK114) hb);replace HB:=am (below_step (bs HB) hb);(try clear hb);(try clear hb2);(try clear hk);(try clear hi)
 by_cases c7:t115<0
 ·rw [if_pos c7] at H;have c7b0:decide (t115<0)=true:=decide_eq_true c7;clear c7;obtain rfl:=Option.some.inj H
  go_wp2
  go_ret
  exact ⟨ff,bs HB⟩
 ·rw [if_neg c7] at H;have c7b0:decide (t115<0)=false:=decide_eq_false c7;clear c7;replace H:=Option.bind_eq_some_iff.mp H;obtain ⟨t116,A80,H⟩:=H;replace H:(if t116<0 then (some (-1)) else (some t116))=some r:=H;have A8:=am A80;clear A80;obtain ⟨hcz9_0,hcz9_1,hfz9_0,hfz9_1⟩:=cf2 BK114
  try go_wp2_with (fail)
  go_at_call 40;(with_reducible refine (laws_szOrderLineS.calls k _ _ l0_1 t115 t116 _ (Kd.C_below HR0_1.out (bs HB)) HC0_1.out A8.out).mono ?_);rintro e w10 ⟨rfl,hb⟩;replace BK114:=am (blk_below (ks BK114) hb);replace HB:=am (below_step (bs HB) hb);(try clear hb);(try clear hb2);(try clear hk);(try clear hi)
  by_cases c11:t116<0
  ·rw [if_pos c11] at H;have c11b0:decide (t116<0)=true:=decide_eq_true c11;clear c11;obtain rfl:=Option.some.inj H
   go_wp2
   go_ret
   exact ⟨ff,bs HB⟩
  ·rw [if_neg c11] at H;have c11b0:decide (t116<0)=false:=decide_eq_false c11;clear c11;obtain rfl:=Option.some.inj H
   go_wp2
   go_ret
   exact ⟨ff,bs HB⟩
end Go.Proofs.Ytjjfjgdhloideaa.QI
namespace Go.Proofs.Ytjjfjgdhloideaa.QI
open Go.RowKit Go.Proofs.YtjjfjgdhloideaaW.PrintWords Go.Proofs.YtjjfjgdhloideaaW.PrintLast Go.Proofs.YtjjfjgdhloideaaW.PrintMore
attribute [local go_sem] max2_int min2_int max_two min_two max_three min_three max_four min_four   -- for this text's walks alone
set_option linter.unusedVariables false
set_option linter.unusedSimpArgs false
set_option maxHeartbeats 8000000 in
set_option maxRecDepth 100000 in
theorem laws_szDiff.calls (a0_0:Int) (a0_1:ByteArray) (a0_2:ByteArray) (a0_3:Int) (a0_4:ByteArray) (a0_5:Int) (a1:Int) (r:Int) (w:World) (h:laws_szDiff.f a0_0 a0_1 a0_2 a0_3 a0_4 a0_5 a1=some r) :
  Calls Try.prog 90 #[.agg #[.int .i64 a0_0,.string a0_1,.string a0_2,.int .i64 a0_3,.string a0_4,.int .i64 a0_5],.int .i64 a1] w fun e w'=>e=.returned (.int .i64 r)∧Below w.heap.size w w':=by
 have hu130:=Try.underlying130;have HB:=am (Below.refl w.heap.size w);have H:(if (wrap64 (a1 - (a0_1.size:Int)))<0 then (some (-1)) else (if (wrap64 ((wrap64 (a1 - (a0_1.size:Int))) - (a0_2.size:Int)))<0 then (some (-1)) else (if (wrap64 ((wrap64 ((wrap64 (a1 - (a0_1.size:Int))) - (a0_2.size:Int))) - (a0_4.size:Int)))<0 then (some (-1)) else (some (wrap64 ((wrap64 ((wrap64 (a1 - (a0_1.size:Int))) - (a0_2.size:Int))) - (a0_4.size:Int)))))))=some r:=h;clear h
 by_cases c3:(wrap64 (a1 - (a0_1.size:Int)))<0
 ·rw [if_pos c3] at H;have c3b0:decide ((wrap64 (a1 - (a0_1.size:Int)))<0)=true:=decide_eq_true c3;clear c3;obtain rfl:=Option.some.inj H
  go_enter Try.func90,Try.ntmps90
  go_wp2_with (first|((with_reducible refine gate_dst (N:=2) rfl ?_);refine bx 2 (cs:=#[.int .i64 a0_0,.string a0_1,.string a0_2,.int .i64 a0_3,.string a0_4,.int .i64 a0_5]) (t:=130) ?_;intro gb117 hg w4 hbox hb;have BK117:=am (hbox);have GW117:=am ((gs hg (bs HB)));have GE117:=am ((gs hg (bs HB)));replace HB:=am (below_step (bs HB) hb);clear hb hbox hg;obtain ⟨hcz5_0,hcz5_1,hcz5_2,hcz5_3,hcz5_4,hcz5_5,hfz5_0,hfz5_1,hfz5_2,hfz5_3,hfz5_4,hfz5_5⟩:=cf6 BK117))
  go_ret
  exact ⟨ff,bs HB⟩
 ·rw [if_neg c3] at H;have c3b0:decide ((wrap64 (a1 - (a0_1.size:Int)))<0)=false:=decide_eq_false c3;clear c3
  by_cases c6:(wrap64 ((wrap64 (a1 - (a0_1.size:Int))) - (a0_2.size:Int)))<0
  ·rw [if_pos c6] at H;have c6b0:decide ((wrap64 ((wrap64 (a1 - (a0_1.size:Int))) - (a0_2.size:Int)))<0)=true:=decide_eq_true c6;clear c6;obtain rfl:=Option.some.inj H
   go_enter Try.func90,Try.ntmps90
   go_wp2_with (first|((with_reducible refine gate_dst (N:=2) rfl ?_);refine bx 2 (cs:=#[.int .i64 a0_0,.string a0_1,.string a0_2,.int .i64 a0_3,.string a0_4,.int .i64 a0_5]) (t:=130) ?_;intro gb117 hg w7 hbox hb;have BK117:=am (hbox);have GW117:=am ((gs hg (bs HB)));have GE117:=am ((gs hg (bs HB)));replace HB:=am (below_step (bs HB) hb);clear hb hbox hg;obtain ⟨hcz8_0,hcz8_1,hcz8_2,hcz8_3,hcz8_4,hcz8_5,hfz8_0,hfz8_1,hfz8_2,hfz8_3,hfz8_4,hfz8_5⟩:=cf6 BK117))
   go_ret
   exact ⟨ff,bs HB⟩
  ·rw [if_neg c6] at H;have c6b0:decide ((wrap64 ((wrap64 (a1 - (a0_1.size:Int))) - (a0_2.size:Int)))<0)=false:=decide_eq_false c6;clear c6
   by_cases c9:(wrap64 ((wrap64 ((wrap64 (a1 - (a0_1.size:Int))) - (a0_2.size:Int))) - (a0_4.size:Int)))<0
   ·rw [if_pos c9] at H;have c9b0:decide ((wrap64 ((wrap64 ((wrap64 (a1 - (a0_1.size:Int))) - (a0_2.size:Int))) - (a0_4.size:Int)))<0)=true:=decide_eq_true c9;clear c9;obtain rfl:=Option.some.inj H
    go_enter Try.func90,Try.ntmps90
    go_wp2_with (first|((with_reducible refine gate_dst (N:=2) rfl ?_);refine bx 2 (cs:=#[.int .i64 a0_0,.string a0_1,.string a0_2,.int .i64 a0_3,.string a0_4,.int .i64 a0_5]) (t:=130) ?_;intro gb117 hg w10 hbox hb;have BK117:=am (hbox);have GW117:=am ((gs hg (bs HB)));have GE117:=am ((gs hg (bs HB)));replace HB:=am (below_step (bs HB) hb);clear hb hbox hg;obtain ⟨hcz11_0,hcz11_1,hcz11_2,hcz11_3,hcz11_4,hcz11_5,hfz11_0,hfz11_1,hfz11_2,hfz11_3,hfz11_4,hfz11_5⟩:=cf6 BK117))
    go_ret
    exact ⟨ff,bs HB⟩
   ·rw [if_neg c9] at H;have c9b0:decide ((wrap64 ((wrap64 ((wrap64 (a1 - (a0_1.size:Int))) - (a0_2.size:Int))) - (a0_4.size:Int)))<0)=false:=decide_eq_false c9;clear c9;obtain rfl:=Option.some.inj H
    go_enter Try.func90,Try.ntmps90
    go_wp2_with (first|((with_reducible refine gate_dst (N:=2) rfl ?_);refine bx 2 (cs:=#[.int .i64 a0_0,.string a0_1,.string a0_2,.int .i64 a0_3,.string a0_4,.int .i64 a0_5]) (t:=130) ?_;intro gb117 hg w12 hbox hb;have BK117:=am (hbox);have GW117:=am ((gs hg (bs HB)));have GE117:=am ((gs hg (bs HB)));replace HB:=am (below_step (bs HB) hb);clear hb hbox hg;obtain ⟨hcz13_0,hcz13_1,hcz13_2,hcz13_3,hcz13_4,hcz13_5,hfz13_0,hfz13_1,hfz13_2,hfz13_3,hfz13_4,hfz13_5⟩:=cf6 BK117))
    go_ret
    exact ⟨ff,bs HB⟩
set_option maxHeartbeats 8000000 in
set_option maxRecDepth 100000 in
theorem laws_szDiffS.calls (k:Nat) (A0:Option Addr) (c0:Nat) (l0:List (S130)) (a1:Int) (r:Int) (w:World) (hr0:Kd.C k130 w A0 l0.length l0) (hc0:l0.length≤c0) (h:laws_szDiffS.f k l0 a1=some r) :
  Calls Try.prog 53 #[.slice A0 l0.length c0,.int .i64 a1] w fun e w'=>e=.returned (.int .i64 r)∧Below w.heap.size w w':=by
 have hu130:=Try.underlying130;have HR0:=am hr0;have HC0:=am hc0;clear hr0 hc0;have HB:=am (Below.refl w.heap.size w);have H:(if (wrap64 (a1 - (l0.length:Int)))<0 then (some (-1)) else (laws_szDiffS.l0 k l0 (wrap64 (a1 - (l0.length:Int))) 0))=some r:=h;clear h
 by_cases c3:(wrap64 (a1 - (l0.length:Int)))<0
 ·rw [if_pos c3] at H;have c3b0:decide ((wrap64 (a1 - (l0.length:Int)))<0)=true:=decide_eq_true c3;clear c3;obtain rfl:=Option.some.inj H
  go_enter Try.func53,Try.ntmps53
  go_wp2
  go_ret
  exact ⟨ff,bs HB⟩
 ·rw [if_neg c3] at H;have c3b0:decide ((wrap64 (a1 - (l0.length:Int)))<0)=false:=decide_eq_false c3;clear c3;have H':=am H;clear H
  go_enter Try.func53,Try.ntmps53
  go_wp2
  go_loopg [1,5] k (fun kq v1 v5 w'=>∃ (x1_1:Int) (x5_1:Int),v1=.int .i64 x1_1∧v5=.int .i64 x5_1∧Aside0 (laws_szDiffS.l0 kq l0 x1_1 x5_1=some r)∧Aside0 (kq≤k)∧Aside0 (Below w.heap.size w w'))
  case atStart=>exact ⟨(wrap64 (a1 - (l0.length:Int))),(0),fg,fg,H',⟨Nat.le_refl _⟩,⟨bs HB⟩⟩
  case round =>
   clear H'
   try clear p2
   try clear c3
   try clear c3b0
   obtain ⟨x1_1,x5_1,rfl,rfl,HA,HK1,HB⟩:=hrel
   cases gk with
   | zero=>exact absurd HA.out (by simp [laws_szDiffS.l0])
   | succ k1 =>
    have H:=HA.out;clear HA;simp only [laws_szDiffS.l0] at H
    by_cases c4:x5_1<(l0.length:Int)
    ·rw [if_pos c4] at H;have c4b0:decide (x5_1<(l0.length:Int))=true:=decide_eq_true c4;clear c4
     by_cases c5:0≤x5_1
     ·rw [if_pos c5] at H;have c5b0:decide (0≤x5_1)=true:=decide_eq_true c5;clear c5;replace H:=Option.bind_eq_some_iff.mp H;obtain ⟨t119,A60,H⟩:=H;replace H:(if t119<0 then (some (-1)) else (laws_szDiffS.l0 k1 l0 t119 (wrap64 (x5_1+1))))=some r:=H;have A6:=am A60;clear A60;have p118:0≤(x5_1:Int):=oa;have q118:x5_1<(l0.length:Int):=oa;obtain ⟨ad118,e118,hx118_0,hx118_1,hx118_2,hx118_3,hx118_4,hx118_5⟩:=at_T130 HR0.out x5_1 p118 q118
      cases e118
      replace hx118_0:=cb HB hx118_0;replace hx118_1:=cb HB hx118_1;replace hx118_2:=cb HB hx118_2;replace hx118_3:=cb HB hx118_3;replace hx118_4:=cb HB hx118_4;replace hx118_5:=cb HB hx118_5;replace p118:=eq_true p118;replace q118:=eq_true q118
      try go_wp2_with (fail)
      go_at_call 90;(with_reducible refine (laws_szDiff.calls ((rd_T130 l0 x5_1).f0) ((rd_T130 l0 x5_1).f1) ((rd_T130 l0 x5_1).f2) ((rd_T130 l0 x5_1).f3) ((rd_T130 l0 x5_1).f4) ((rd_T130 l0 x5_1).f5) x1_1 t119 _ A6.out).mono ?_);rintro e w7 ⟨rfl,hb⟩;replace HB:=am (below_step (bs HB) hb);(try clear hb);(try clear hb2);(try clear hk);(try clear hi)
      by_cases c8:t119<0
      ·rw [if_pos c8] at H;have c8b0:decide (t119<0)=true:=decide_eq_true c8;clear c8;obtain rfl:=Option.some.inj H
       go_wp2
       go_ret
       exact ⟨ff,bs HB⟩
      ·rw [if_neg c8] at H;have c8b0:decide (t119<0)=false:=decide_eq_false c8;clear c8;have H':=am H;clear H
       go_wp2
       go_roundg k1
       case measure=>have:=HK1.out;omega
       case rel=>exact ⟨(t119),(wrap64 (x5_1+1)),fg,fg,H',⟨by have:=HK1.out;omega⟩,⟨bs HB⟩⟩
     ·rw [if_neg c5] at H
      exact absurd H (by simp)
    ·rw [if_neg c4] at H;have c4b0:decide (x5_1<(l0.length:Int))=false:=decide_eq_false c4;clear c4;obtain rfl:=Option.some.inj H
     go_wp2
     go_ret
     exact ⟨ff,bs HB⟩
set_option maxHeartbeats 8000000 in
set_option maxRecDepth 100000 in
theorem laws_szOut.calls (a0_0:ByteArray) (a0_1:Int) (a0_2:ByteArray) (a0_3:Int) (a0_4:Int) (a1:Int) (r:Int) (w:World) (h:laws_szOut.f a0_0 a0_1 a0_2 a0_3 a0_4 a1=some r) :
  Calls Try.prog 91 #[.agg #[.string a0_0,.int .i64 a0_1,.string a0_2,.int .i64 a0_3,.int .i64 a0_4],.int .i64 a1] w fun e w'=>e=.returned (.int .i64 r)∧Below w.heap.size w w':=by
 have hu132:=Try.underlying132;have HB:=am (Below.refl w.heap.size w);have H:(if (wrap64 (a1 - (a0_0.size:Int)))<0 then (some (-1)) else (if (wrap64 ((wrap64 (a1 - (a0_0.size:Int))) - (a0_2.size:Int)))<0 then (some (-1)) else (some (wrap64 ((wrap64 (a1 - (a0_0.size:Int))) - (a0_2.size:Int))))))=some r:=h;clear h
 by_cases c3:(wrap64 (a1 - (a0_0.size:Int)))<0
 ·rw [if_pos c3] at H;have c3b0:decide ((wrap64 (a1 - (a0_0.size:Int)))<0)=true:=decide_eq_true c3;clear c3;obtain rfl:=Option.some.inj H
  go_enter Try.func91,Try.ntmps91
  go_wp2_with (first|((with_reducible refine gate_dst (N:=2) rfl ?_);refine bx 2 (cs:=#[.string a0_0,.int .i64 a0_1,.string a0_2,.int .i64 a0_3,.int .i64 a0_4]) (t:=132) ?_;intro gb120 hg w4 hbox hb;have BK120:=am (hbox);have GW120:=am ((gs hg (bs HB)));have GE120:=am ((gs hg (bs HB)));replace HB:=am (below_step (bs HB) hb);clear hb hbox hg;obtain ⟨hcz5_0,hcz5_1,hcz5_2,hcz5_3,hcz5_4,hfz5_0,hfz5_1,hfz5_2,hfz5_3,hfz5_4⟩:=cf5 BK120))
  go_ret
  exact ⟨ff,bs HB⟩
 ·rw [if_neg c3] at H;have c3b0:decide ((wrap64 (a1 - (a0_0.size:Int)))<0)=false:=decide_eq_false c3;clear c3
  by_cases c6:(wrap64 ((wrap64 (a1 - (a0_0.size:Int))) - (a0_2.size:Int)))<0
  ·rw [if_pos c6] at H;have c6b0:decide ((wrap64 ((wrap64 (a1 - (a0_0.size:Int))) - (a0_2.size:Int)))<0)=true:=decide_eq_true c6;clear c6;obtain rfl:=Option.some.inj H
   go_enter Try.func91,Try.ntmps91
   go_wp2_with (first|((with_reducible refine gate_dst (N:=2) rfl ?_);refine bx 2 (cs:=#[.string a0_0,.int .i64 a0_1,.string a0_2,.int .i64 a0_3,.int .i64 a0_4]) (t:=132) ?_;intro gb120 hg w7 hbox hb;have BK120:=am (hbox);have GW120:=am ((gs hg (bs HB)));have GE120:=am ((gs hg (bs HB)));replace HB:=am (below_step (bs HB) hb);clear hb hbox hg;obtain ⟨hcz8_0,hcz8_1,hcz8_2,hcz8_3,hcz8_4,hfz8_0,hfz8_1,hfz8_2,hfz8_3,hfz8_4⟩:=cf5 BK120))
   go_ret
   exact ⟨ff,bs HB⟩
  ·rw [if_neg c6] at H;have c6b0:decide ((wrap64 ((wrap64 (a1 - (a0_0.size:Int))) - (a0_2.size:Int)))<0)=false:=decide_eq_false c6;clear c6;obtain rfl:=Option.some.inj H
   go_enter Try.func91,Try.ntmps91
   go_wp2_with (first|((with_reducible refine gate_dst (N:=2) rfl ?_);refine bx 2 (cs:=#[.string a0_0,.int .i64 a0_1,.string a0_2,.int .i64 a0_3,.int .i64 a0_4]) (t:=132) ?_;intro gb120 hg w9 hbox hb;have BK120:=am (hbox);have GW120:=am ((gs hg (bs HB)));have GE120:=am ((gs hg (bs HB)));replace HB:=am (below_step (bs HB) hb);clear hb hbox hg;obtain ⟨hcz10_0,hcz10_1,hcz10_2,hcz10_3,hcz10_4,hfz10_0,hfz10_1,hfz10_2,hfz10_3,hfz10_4⟩:=cf5 BK120))
   go_ret
   exact ⟨ff,bs HB⟩
end Go.Proofs.Ytjjfjgdhloideaa.QI
namespace Go.Proofs.Ytjjfjgdhloideaa.QI
open Go.RowKit Go.Proofs.YtjjfjgdhloideaaW.PrintWords Go.Proofs.YtjjfjgdhloideaaW.PrintLast Go.Proofs.YtjjfjgdhloideaaW.PrintMore
attribute [local go_sem] max2_int min2_int max_two min_two max_three min_three max_four min_four   -- for this text's walks alone
set_option linter.unusedVariables false
set_option linter.unusedSimpArgs false
set_option maxHeartbeats 8000000 in
set_option maxRecDepth 100000 in
theorem laws_szOutS.calls (k:Nat) (A0:Option Addr) (c0:Nat) (l0:List (S132)) (a1:Int) (r:Int) (w:World) (hr0:Kd.C k132 w A0 l0.length l0) (hc0:l0.length≤c0) (h:laws_szOutS.f k l0 a1=some r) :
  Calls Try.prog 54 #[.slice A0 l0.length c0,.int .i64 a1] w fun e w'=>e=.returned (.int .i64 r)∧Below w.heap.size w w':=by
 have hu132:=Try.underlying132;have HR0:=am hr0;have HC0:=am hc0;clear hr0 hc0;have HB:=am (Below.refl w.heap.size w);have H:(if (wrap64 (a1 - (l0.length:Int)))<0 then (some (-1)) else (laws_szOutS.l0 k l0 (wrap64 (a1 - (l0.length:Int))) 0))=some r:=h;clear h
 by_cases c3:(wrap64 (a1 - (l0.length:Int)))<0
 ·rw [if_pos c3] at H;have c3b0:decide ((wrap64 (a1 - (l0.length:Int)))<0)=true:=decide_eq_true c3;clear c3;obtain rfl:=Option.some.inj H
  go_enter Try.func54,Try.ntmps54
  go_wp2
  go_ret
  exact ⟨ff,bs HB⟩
 ·rw [if_neg c3] at H;have c3b0:decide ((wrap64 (a1 - (l0.length:Int)))<0)=false:=decide_eq_false c3;clear c3;have H':=am H;clear H
  go_enter Try.func54,Try.ntmps54
  go_wp2
  go_loopg [1,5] k (fun kq v1 v5 w'=>∃ (x1_1:Int) (x5_1:Int),v1=.int .i64 x1_1∧v5=.int .i64 x5_1∧Aside0 (laws_szOutS.l0 kq l0 x1_1 x5_1=some r)∧Aside0 (kq≤k)∧Aside0 (Below w.heap.size w w'))
  case atStart=>exact ⟨(wrap64 (a1 - (l0.length:Int))),(0),fg,fg,H',⟨Nat.le_refl _⟩,⟨bs HB⟩⟩
  case round =>
   clear H'
   try clear p2
   try clear c3
   try clear c3b0
   obtain ⟨x1_1,x5_1,rfl,rfl,HA,HK1,HB⟩:=hrel
   cases gk with
   | zero=>exact absurd HA.out (by simp [laws_szOutS.l0])
   | succ k1 =>
    have H:=HA.out;clear HA;simp only [laws_szOutS.l0] at H
    by_cases c4:x5_1<(l0.length:Int)
    ·rw [if_pos c4] at H;have c4b0:decide (x5_1<(l0.length:Int))=true:=decide_eq_true c4;clear c4
     by_cases c5:0≤x5_1
     ·rw [if_pos c5] at H;have c5b0:decide (0≤x5_1)=true:=decide_eq_true c5;clear c5;replace H:=Option.bind_eq_some_iff.mp H;obtain ⟨t122,A60,H⟩:=H;replace H:(if t122<0 then (some (-1)) else (laws_szOutS.l0 k1 l0 t122 (wrap64 (x5_1+1))))=some r:=H;have A6:=am A60;clear A60;have p121:0≤(x5_1:Int):=oa;have q121:x5_1<(l0.length:Int):=oa;obtain ⟨ad121,e121,hx121_0,hx121_1,hx121_2,hx121_3,hx121_4⟩:=at_T132 HR0.out x5_1 p121 q121
      cases e121
      replace hx121_0:=cb HB hx121_0;replace hx121_1:=cb HB hx121_1;replace hx121_2:=cb HB hx121_2;replace hx121_3:=cb HB hx121_3;replace hx121_4:=cb HB hx121_4;replace p121:=eq_true p121;replace q121:=eq_true q121
      try go_wp2_with (fail)
      go_at_call 91;(with_reducible refine (laws_szOut.calls ((rd_T132 l0 x5_1).f0) ((rd_T132 l0 x5_1).f1) ((rd_T132 l0 x5_1).f2) ((rd_T132 l0 x5_1).f3) ((rd_T132 l0 x5_1).f4) x1_1 t122 _ A6.out).mono ?_);rintro e w7 ⟨rfl,hb⟩;replace HB:=am (below_step (bs HB) hb);(try clear hb);(try clear hb2);(try clear hk);(try clear hi)
      by_cases c8:t122<0
      ·rw [if_pos c8] at H;have c8b0:decide (t122<0)=true:=decide_eq_true c8;clear c8;obtain rfl:=Option.some.inj H
       go_wp2
       go_ret
       exact ⟨ff,bs HB⟩
      ·rw [if_neg c8] at H;have c8b0:decide (t122<0)=false:=decide_eq_false c8;clear c8;have H':=am H;clear H
       go_wp2
       go_roundg k1
       case measure=>have:=HK1.out;omega
       case rel=>exact ⟨(t122),(wrap64 (x5_1+1)),fg,fg,H',⟨by have:=HK1.out;omega⟩,⟨bs HB⟩⟩
     ·rw [if_neg c5] at H
      exact absurd H (by simp)
    ·rw [if_neg c4] at H;have c4b0:decide (x5_1<(l0.length:Int))=false:=decide_eq_false c4;clear c4;obtain rfl:=Option.some.inj H
     go_wp2
     go_ret
     exact ⟨ff,bs HB⟩
end Go.Proofs.Ytjjfjgdhloideaa.QI
namespace Go.Proofs.Ytjjfjgdhloideaa.QI
open Go.RowKit Go.Proofs.YtjjfjgdhloideaaW.PrintWords Go.Proofs.YtjjfjgdhloideaaW.PrintLast Go.Proofs.YtjjfjgdhloideaaW.PrintMore
attribute [local go_sem] max2_int min2_int max_two min_two max_three min_three max_four min_four   -- for this text's walks alone
set_option linter.unusedVariables false
set_option linter.unusedSimpArgs false
set_option maxHeartbeats 8000000 in
set_option maxRecDepth 100000 in
theorem laws_szGate.calls (k:Nat) (a0_0:ByteArray) (a0_1:Int) (A0_2:Option Addr) (c0_2:Nat) (l0_2:List (S126)) (A0_3:Option Addr) (c0_3:Nat) (l0_3:List (S128)) (A0_4:Option Addr) (c0_4:Nat) (l0_4:List (S111)) (A0_5:Option Addr) (c0_5:Nat) (l0_5:List (S113)) (A0_6:Option Addr) (c0_6:Nat) (l0_6:List (S130)) (A0_7:Option Addr) (c0_7:Nat) (l0_7:List (S132)) (a1:Int) (r:Int) (w:World) (hr0_2:Kd.C k126 w A0_2 l0_2.length l0_2) (hc0_2:l0_2.length≤c0_2) (hr0_3:Kd.C k128 w A0_3 l0_3.length l0_3) (hc0_3:l0_3.length≤c0_3) (hr0_4:Kd.C k111 w A0_4 l0_4.length l0_4) (hc0_4:l0_4.length≤c0_4) (hr0_5:Kd.C k113 w A0_5 l0_5.length l0_5) (hc0_5:l0_5.length≤c0_5) (hr0_6:Kd.C k130 w A0_6 l0_6.length l0_6) (hc0_6:l0_6.length≤c0_6) (hr0_7:Kd.C k132 w A0_7 l0_7.length l0_7) (hc0_7:l0_7.length≤c0_7) (h:laws_szGate.f k a0_0 a0_1 l0_2 l0_3 l0_4 l0_5 l0_6 l0_7 a1=some r) :
  Calls Try.prog 20 #[.agg #[.string a0_0,.int .i64 a0_1,.slice A0_2 l0_2.length c0_2,.slice A0_3 l0_3.length c0_3,.slice A0_4 l0_4.length c0_4,.slice A0_5 l0_5.length c0_5,.slice A0_6 l0_6.length c0_6,.slice A0_7 l0_7.length c0_7],.int .i64 a1] w fun e w'=>e=.returned (.int .i64 r)∧Below w.heap.size w w':=by
 have hu54:=Try.underlying54;have hu39:=Try.underlying39;have HR0_2:=am hr0_2;have HC0_2:=am hc0_2;clear hr0_2 hc0_2;have HR0_3:=am hr0_3;have HC0_3:=am hc0_3;clear hr0_3 hc0_3;have HR0_4:=am hr0_4;have HC0_4:=am hc0_4;clear hr0_4 hc0_4;have HR0_5:=am hr0_5;have HC0_5:=am hc0_5;clear hr0_5 hc0_5;have HR0_6:=am hr0_6;have HC0_6:=am hc0_6;clear hr0_6 hc0_6;have HR0_7:=am hr0_7;have HC0_7:=am hc0_7;clear hr0_7 hc0_7;have HB:=am (Below.refl w.heap.size w);have H:(if (wrap64 (a1 - (a0_0.size:Int)))<0 then (some (-1)) else ((laws_szPartnerS.f k l0_2 (wrap64 (a1 - (a0_0.size:Int)))).bind fun t124=>(if t124<0 then (some (-1)) else ((laws_szCrossS.f k l0_3 t124).bind fun t125=>(if t125<0 then (some (-1)) else ((laws_szBook.f k l0_4 l0_5 t125).bind fun t126=>(if t126<0 then (some (-1)) else ((laws_szDiffS.f k l0_6 t126).bind fun t127=>(if t127<0 then (some (-1)) else ((laws_szOutS.f k l0_7 t127).bind fun t128=>(if t128<0 then (some (-1)) else (some t128))))))))))))=some r:=h;clear h
 by_cases c3:(wrap64 (a1 - (a0_0.size:Int)))<0
 ·rw [if_pos c3] at H;have c3b0:decide ((wrap64 (a1 - (a0_0.size:Int)))<0)=true:=decide_eq_true c3;clear c3;obtain rfl:=Option.some.inj H
  go_enter Try.func20,Try.ntmps20
  go_wp2_with (first|((with_reducible refine gate_dst (N:=2) rfl ?_);refine bx 2 (cs:=#[.string a0_0,.int .i64 a0_1,.slice A0_2 l0_2.length c0_2,.slice A0_3 l0_3.length c0_3,.slice A0_4 l0_4.length c0_4,.slice A0_5 l0_5.length c0_5,.slice A0_6 l0_6.length c0_6,.slice A0_7 l0_7.length c0_7]) (t:=54) ?_;intro gb123 hg w4 hbox hb;have BK123:=am (hbox);have GW123:=am ((gs hg (bs HB)));have GE123:=am ((gs hg (bs HB)));replace HB:=am (below_step (bs HB) hb);clear hb hbox hg;obtain ⟨hcz5_0,hcz5_1,hcz5_2,hcz5_3,hcz5_4,hcz5_5,hcz5_6,hcz5_7,hfz5_0,hfz5_1,hfz5_2,hfz5_3,hfz5_4,hfz5_5,hfz5_6,hfz5_7⟩:=cf8 BK123))
  go_ret
  exact ⟨ff,bs HB⟩
 ·rw [if_neg c3] at H;have c3b0:decide ((wrap64 (a1 - (a0_0.size:Int)))<0)=false:=decide_eq_false c3;clear c3;replace H:=Option.bind_eq_some_iff.mp H;obtain ⟨t124,A60,H⟩:=H;replace H:(if t124<0 then (some (-1)) else ((laws_szCrossS.f k l0_3 t124).bind fun t125=>(if t125<0 then (some (-1)) else ((laws_szBook.f k l0_4 l0_5 t125).bind fun t126=>(if t126<0 then (some (-1)) else ((laws_szDiffS.f k l0_6 t126).bind fun t127=>(if t127<0 then (some (-1)) else ((laws_szOutS.f k l0_7 t127).bind fun t128=>(if t128<0 then (some (-1)) else (some t128))))))))))=some r:=H;have A6:=am A60;clear A60
  go_enter Try.func20,Try.ntmps20
  try go_wp2_with (first|((with_reducible refine gate_dst (N:=2) rfl ?_);refine bx 2 (cs:=#[.string a0_0,.int .i64 a0_1,.slice A0_2 l0_2.length c0_2,.slice A0_3 l0_3.length c0_3,.slice A0_4 l0_4.length c0_4,.slice A0_5 l0_5.length c0_5,.slice A0_6 l0_6.length c0_6,.slice A0_7 l0_7.length c0_7]) (t:=54) ?_;intro gb123 hg w7 hbox hb;have BK123:=am (hbox);have GW123:=am ((gs hg (bs HB)));have GE123:=am ((gs hg (bs HB)));replace HB:=am (below_step (bs HB) hb);clear hb hbox hg;obtain ⟨hcz8_0,hcz8_1,hcz8_2,hcz8_3,hcz8_4,hcz8_5,hcz8_6,hcz8_7,hfz8_0,hfz8_1,hfz8_2,hfz8_3,hfz8_4,hfz8_5,hfz8_6,hfz8_7⟩:=cf8 BK123))
  go_at_call 51;(with_reducible refine (laws_szPartnerS.calls k _ _ l0_2 (wrap64 (a1 - (a0_0.size:Int))) t124 _ (Kd.C_below HR0_2.out (bs HB)) HC0_2.out A6.out).mono ?_);rintro e w9 ⟨rfl,hb⟩;replace BK123:=am (blk_below (ks BK123) hb);replace HB:=am (below_step (bs HB) hb);(try clear hb);(try clear hb2);(try clear hk);(try clear hi)
  by_cases c10:t124<0
  ·rw [if_pos c10] at H;have c10b0:decide (t124<0)=true:=decide_eq_true c10;clear c10;obtain rfl:=Option.some.inj H
   go_wp2
   go_ret
   exact ⟨ff,bs HB⟩
  ·rw [if_neg c10] at H;have c10b0:decide (t124<0)=false:=decide_eq_false c10;clear c10;replace H:=Option.bind_eq_some_iff.mp H;obtain ⟨t125,A110,H⟩:=H;replace H:(if t125<0 then (some (-1)) else ((laws_szBook.f k l0_4 l0_5 t125).bind fun t126=>(if t126<0 then (some (-1)) else ((laws_szDiffS.f k l0_6 t126).bind fun t127=>(if t127<0 then (some (-1)) else ((laws_szOutS.f k l0_7 t127).bind fun t128=>(if t128<0 then (some (-1)) else (some t128))))))))=some r:=H;have A11:=am A110;clear A110;obtain ⟨hcz12_0,hcz12_1,hcz12_2,hcz12_3,hcz12_4,hcz12_5,hcz12_6,hcz12_7,hfz12_0,hfz12_1,hfz12_2,hfz12_3,hfz12_4,hfz12_5,hfz12_6,hfz12_7⟩:=cf8 BK123
   try go_wp2_with (fail)
   go_at_call 52;(with_reducible refine (laws_szCrossS.calls k _ _ l0_3 t124 t125 _ (Kd.C_below HR0_3.out (bs HB)) HC0_3.out A11.out).mono ?_);rintro e w13 ⟨rfl,hb⟩;replace BK123:=am (blk_below (ks BK123) hb);replace HB:=am (below_step (bs HB) hb);(try clear hb);(try clear hb2);(try clear hk);(try clear hi)
   by_cases c14:t125<0
   ·rw [if_pos c14] at H;have c14b0:decide (t125<0)=true:=decide_eq_true c14;clear c14;obtain rfl:=Option.some.inj H
    go_wp2
    go_ret
    exact ⟨ff,bs HB⟩
   ·rw [if_neg c14] at H;have c14b0:decide (t125<0)=false:=decide_eq_false c14;clear c14;replace H:=Option.bind_eq_some_iff.mp H;obtain ⟨t126,A150,H⟩:=H;replace H:(if t126<0 then (some (-1)) else ((laws_szDiffS.f k l0_6 t126).bind fun t127=>(if t127<0 then (some (-1)) else ((laws_szOutS.f k l0_7 t127).bind fun t128=>(if t128<0 then (some (-1)) else (some t128))))))=some r:=H;have A15:=am A150;clear A150;obtain ⟨hcz16_0,hcz16_1,hcz16_2,hcz16_3,hcz16_4,hcz16_5,hcz16_6,hcz16_7,hfz16_0,hfz16_1,hfz16_2,hfz16_3,hfz16_4,hfz16_5,hfz16_6,hfz16_7⟩:=cf8 BK123
    try go_wp2_with (fail)
    go_at_call 11;(with_reducible refine (laws_szBook.calls k _ _ l0_4 _ _ l0_5 t125 t126 _ (Kd.C_below HR0_4.out (bs HB)) HC0_4.out (Kd.C_below HR0_5.out (bs HB)) HC0_5.out A15.out).mono ?_);rintro e w17 ⟨rfl,hb⟩;replace BK123:=am (blk_below (ks BK123) hb);replace HB:=am (below_step (bs HB) hb);(try clear hb);(try clear hb2);(try clear hk);(try clear hi)
    by_cases c18:t126<0
    ·rw [if_pos c18] at H;have c18b0:decide (t126<0)=true:=decide_eq_true c18;clear c18;obtain rfl:=Option.some.inj H
     go_wp2
     go_ret
     exact ⟨ff,bs HB⟩
    ·rw [if_neg c18] at H;have c18b0:decide (t126<0)=false:=decide_eq_false c18;clear c18;replace H:=Option.bind_eq_some_iff.mp H;obtain ⟨t127,A190,H⟩:=H;replace H:(if t127<0 then (some (-1)) else ((laws_szOutS.f k l0_7 t127).bind fun t128=>(if t128<0 then (some (-1)) else (some t128))))=some r:=H;have A19:=am A190;clear A190;obtain ⟨hcz20_0,hcz20_1,hcz20_2,hcz20_3,hcz20_4,hcz20_5,hcz20_6,hcz20_7,hfz20_0,hfz20_1,hfz20_2,hfz20_3,hfz20_4,hfz20_5,hfz20_6,hfz20_7⟩:=cf8 BK123
     try go_wp2_with (fail)
     go_at_call 53;(with_reducible refine (laws_szDiffS.calls k _ _ l0_6 t126 t127 _ (Kd.C_below HR0_6.out (bs HB)) HC0_6.out A19.out).mono ?_);rintro e w21 ⟨rfl,hb⟩;replace BK123:=am (blk_below (ks BK123) hb);replace HB:=am (below_step (bs HB) hb);(try clear hb);(try clear hb2);(try clear hk);(try clear hi)
     by_cases c22:t127<0
     ·rw [if_pos c22] at H;have c22b0:decide (t127<0)=true:=decide_eq_true c22;clear c22;obtain rfl:=Option.some.inj H
      go_wp2
      go_ret
      exact ⟨ff,bs HB⟩
     ·rw [if_neg c22] at H;have c22b0:decide (t127<0)=false:=decide_eq_false c22;clear c22;replace H:=Option.bind_eq_some_iff.mp H;obtain ⟨t128,A230,H⟩:=H;replace H:(if t128<0 then (some (-1)) else (some t128))=some r:=H;have A23:=am A230;clear A230;obtain ⟨hcz24_0,hcz24_1,hcz24_2,hcz24_3,hcz24_4,hcz24_5,hcz24_6,hcz24_7,hfz24_0,hfz24_1,hfz24_2,hfz24_3,hfz24_4,hfz24_5,hfz24_6,hfz24_7⟩:=cf8 BK123
      try go_wp2_with (fail)
      go_at_call 54;(with_reducible refine (laws_szOutS.calls k _ _ l0_7 t127 t128 _ (Kd.C_below HR0_7.out (bs HB)) HC0_7.out A23.out).mono ?_);rintro e w25 ⟨rfl,hb⟩;replace BK123:=am (blk_below (ks BK123) hb);replace HB:=am (below_step (bs HB) hb);(try clear hb);(try clear hb2);(try clear hk);(try clear hi)
      by_cases c26:t128<0
      ·rw [if_pos c26] at H;have c26b0:decide (t128<0)=true:=decide_eq_true c26;clear c26;obtain rfl:=Option.some.inj H
       go_wp2
       go_ret
       exact ⟨ff,bs HB⟩
      ·rw [if_neg c26] at H;have c26b0:decide (t128<0)=false:=decide_eq_false c26;clear c26;obtain rfl:=Option.some.inj H
       go_wp2
       go_ret
       exact ⟨ff,bs HB⟩
end Go.Proofs.Ytjjfjgdhloideaa.QI

-- Merged by a program of this session (wip/tool/pack.py) out of its own texts for this claim.
import Derived.Test.YtjjfjgdhloideaaKFnExactGateRight0
import Derived.Test.YtjjfjgdhloideaaKFnExactGateRight1
import Derived.Test.YtjjfjgdhloideaaKFnExactGateRight2
import Derived.Test.YtjjfjgdhloideaaKFnExactGateRight3
import Derived.Test.YtjjfjgdhloideaaKFnExactGateRight19
import Derived.Test.YtjjfjgdhloideaaKFnExactGateRight20
namespace Go.Proofs.Ytjjfjgdhloideaa.QI
open Go.RowKit Go.Proofs.YtjjfjgdhloideaaW.PrintWords Go.Proofs.YtjjfjgdhloideaaW.PrintLast Go.Proofs.YtjjfjgdhloideaaW.PrintMore
attribute [local go_sem] max2_int min2_int max_two min_two max_three min_three max_four min_four   -- for this text's walks alone
set_option linter.unusedVariables false
set_option linter.unusedSimpArgs false
set_option maxHeartbeats 8000000 in
set_option maxRecDepth 100000 in
theorem laws_eqGate.calls (k:Nat) (a0_0:ByteArray) (a0_1:Int) (A0_2:Option Addr) (c0_2:Nat) (l0_2:List (S92)) (A0_3:Option Addr) (c0_3:Nat) (l0_3:List (S102)) (A0_4:Option Addr) (c0_4:Nat) (l0_4:List (S71)) (A0_5:Option Addr) (c0_5:Nat) (l0_5:List (S73)) (A0_6:Option Addr) (c0_6:Nat) (l0_6:List (S105)) (A0_7:Option Addr) (c0_7:Nat) (l0_7:List (S108)) (a1_0:ByteArray) (a1_1:Int) (A1_2:Option Addr) (c1_2:Nat) (l1_2:List (S92)) (A1_3:Option Addr) (c1_3:Nat) (l1_3:List (S102)) (A1_4:Option Addr) (c1_4:Nat) (l1_4:List (S71)) (A1_5:Option Addr) (c1_5:Nat) (l1_5:List (S73)) (A1_6:Option Addr) (c1_6:Nat) (l1_6:List (S105)) (A1_7:Option Addr) (c1_7:Nat) (l1_7:List (S108)) (r:Bool) (w:World) (hr0_2:Kd.C k92 w A0_2 l0_2.length l0_2) (hc0_2:l0_2.length≤c0_2) (hr0_3:Kd.C k102 w A0_3 l0_3.length l0_3) (hc0_3:l0_3.length≤c0_3) (hr0_4:Kd.C k71 w A0_4 l0_4.length l0_4) (hc0_4:l0_4.length≤c0_4) (hr0_5:Kd.C k73 w A0_5 l0_5.length l0_5) (hc0_5:l0_5.length≤c0_5) (hr0_6:Kd.C k105 w A0_6 l0_6.length l0_6) (hc0_6:l0_6.length≤c0_6) (hr0_7:Kd.C k108 w A0_7 l0_7.length l0_7) (hc0_7:l0_7.length≤c0_7) (hr1_2:Kd.C k92 w A1_2 l1_2.length l1_2) (hc1_2:l1_2.length≤c1_2) (hr1_3:Kd.C k102 w A1_3 l1_3.length l1_3) (hc1_3:l1_3.length≤c1_3) (hr1_4:Kd.C k71 w A1_4 l1_4.length l1_4) (hc1_4:l1_4.length≤c1_4) (hr1_5:Kd.C k73 w A1_5 l1_5.length l1_5) (hc1_5:l1_5.length≤c1_5) (hr1_6:Kd.C k105 w A1_6 l1_6.length l1_6) (hc1_6:l1_6.length≤c1_6) (hr1_7:Kd.C k108 w A1_7 l1_7.length l1_7) (hc1_7:l1_7.length≤c1_7) (h:laws_eqGate.f k a0_0 a0_1 l0_2 l0_3 l0_4 l0_5 l0_6 l0_7 a1_0 a1_1 l1_2 l1_3 l1_4 l1_5 l1_6 l1_7=some r) :
  Calls Try.prog 8 #[.agg #[.string a0_0,.int .i64 a0_1,.slice A0_2 l0_2.length c0_2,.slice A0_3 l0_3.length c0_3,.slice A0_4 l0_4.length c0_4,.slice A0_5 l0_5.length c0_5,.slice A0_6 l0_6.length c0_6,.slice A0_7 l0_7.length c0_7],.agg #[.string a1_0,.int .i64 a1_1,.slice A1_2 l1_2.length c1_2,.slice A1_3 l1_3.length c1_3,.slice A1_4 l1_4.length c1_4,.slice A1_5 l1_5.length c1_5,.slice A1_6 l1_6.length c1_6,.slice A1_7 l1_7.length c1_7]] w fun e w'=>e=.returned (.bool r)∧Below w.heap.size w w':=by
 have hu31:=Try.underlying31;have hu27:=Try.underlying27;have HR0_2:=am hr0_2;have HC0_2:=am hc0_2;clear hr0_2 hc0_2;have HR0_3:=am hr0_3;have HC0_3:=am hc0_3;clear hr0_3 hc0_3;have HR0_4:=am hr0_4;have HC0_4:=am hc0_4;clear hr0_4 hc0_4;have HR0_5:=am hr0_5;have HC0_5:=am hc0_5;clear hr0_5 hc0_5;have HR0_6:=am hr0_6;have HC0_6:=am hc0_6;clear hr0_6 hc0_6;have HR0_7:=am hr0_7;have HC0_7:=am hc0_7;clear hr0_7 hc0_7;have HR1_2:=am hr1_2;have HC1_2:=am hc1_2;clear hr1_2 hc1_2;have HR1_3:=am hr1_3;have HC1_3:=am hc1_3;clear hr1_3 hc1_3;have HR1_4:=am hr1_4;have HC1_4:=am hc1_4;clear hr1_4 hc1_4;have HR1_5:=am hr1_5;have HC1_5:=am hc1_5;clear hr1_5 hc1_5;have HR1_6:=am hr1_6;have HC1_6:=am hc1_6;clear hr1_6 hc1_6;have HR1_7:=am hr1_7;have HC1_7:=am hc1_7;clear hr1_7 hc1_7;have HB:=am (Below.refl w.heap.size w);have H:(if a0_0.toList=a1_0.toList then (if a0_1=a1_1 then ((laws_eqPartnerS.f k l0_2 l1_2).bind fun t473=>(if t473=true then ((laws_eqCrossS.f k l0_3 l1_3).bind fun t474=>(if t474=true then ((laws_eqBook.f k l0_4 l0_5 l1_4 l1_5).bind fun t475=>(if t475=true then ((laws_eqDiffS.f k l0_6 l1_6).bind fun t476=>(if t476=true then ((laws_eqOutS.f k l0_7 l1_7).bind fun t477=>(if t477=true then (some true) else (some false))) else (some false))) else (some false))) else (some false))) else (some false))) else (some false)) else (some false))=some r:=h;clear h
 by_cases c3:a0_0.toList=a1_0.toList
 ·rw [if_pos c3] at H;have c3b0:(a0_0.toList == a1_0.toList)=true:=beq_iff_eq.mpr c3;have c3b1:(a0_0.toList != a1_0.toList)=false:=bne_eq_false_iff_eq.mpr c3;clear c3
  by_cases c4:a0_1=a1_1
  ·rw [if_pos c4] at H;have c4b0:(a0_1 == a1_1)=true:=beq_iff_eq.mpr c4;have c4b1:(a0_1 != a1_1)=false:=bne_eq_false_iff_eq.mpr c4;clear c4;replace H:=Option.bind_eq_some_iff.mp H;obtain ⟨t473,A50,H⟩:=H;replace H:(if t473=true then ((laws_eqCrossS.f k l0_3 l1_3).bind fun t474=>(if t474=true then ((laws_eqBook.f k l0_4 l0_5 l1_4 l1_5).bind fun t475=>(if t475=true then ((laws_eqDiffS.f k l0_6 l1_6).bind fun t476=>(if t476=true then ((laws_eqOutS.f k l0_7 l1_7).bind fun t477=>(if t477=true then (some true) else (some false))) else (some false))) else (some false))) else (some false))) else (some false))=some r:=H;have A5:=am A50;clear A50
   go_enter Try.func8,Try.ntmps8
   try go_wp2_with (first|((with_reducible refine gate_dst (N:=2) rfl ?_);refine bx 2 (cs:=#[.string a0_0,.int .i64 a0_1,.slice A0_2 l0_2.length c0_2,.slice A0_3 l0_3.length c0_3,.slice A0_4 l0_4.length c0_4,.slice A0_5 l0_5.length c0_5,.slice A0_6 l0_6.length c0_6,.slice A0_7 l0_7.length c0_7]) (t:=31) ?_;intro gb471 hg w6 hbox hb;have BK471:=am (hbox);have GW471:=am ((gs hg (bs HB)));have GE471:=am ((gs hg (bs HB)));replace HB:=am (below_step (bs HB) hb);clear hb hbox hg)|((with_reducible refine gate_dst (N:=3) rfl ?_);refine bx 3 (cs:=#[.string a1_0,.int .i64 a1_1,.slice A1_2 l1_2.length c1_2,.slice A1_3 l1_3.length c1_3,.slice A1_4 l1_4.length c1_4,.slice A1_5 l1_5.length c1_5,.slice A1_6 l1_6.length c1_6,.slice A1_7 l1_7.length c1_7]) (t:=31) ?_;intro gb472 hg w7 hbox hb;have BK472:=am (hbox);have GW472:=am ((gs hg (bs HB)));have GE472:=am ((gs hg (bs HB)));replace HB:=am (below_step (bs HB) hb);have NB471_472:=am ((gn hg (ks BK471)));have NB472_471:=am ((gm hg (ks BK471)));replace BK471:=am (blk_below (ks BK471) hb);clear hb hbox hg;have hnb8:=NB471_472.out;have hnc8:=NB472_471.out;obtain ⟨hcz9_0,hcz9_1,hcz9_2,hcz9_3,hcz9_4,hcz9_5,hcz9_6,hcz9_7,hfz9_0,hfz9_1,hfz9_2,hfz9_3,hfz9_4,hfz9_5,hfz9_6,hfz9_7⟩:=cf8 BK471;obtain ⟨hcz10_0,hcz10_1,hcz10_2,hcz10_3,hcz10_4,hcz10_5,hcz10_6,hcz10_7,hfz10_0,hfz10_1,hfz10_2,hfz10_3,hfz10_4,hfz10_5,hfz10_6,hfz10_7⟩:=cf8 BK472))
   go_at_call 26;(with_reducible refine (laws_eqPartnerS.calls k _ _ l0_2 _ _ l1_2 t473 _ (Kd.C_below HR0_2.out (bs HB)) HC0_2.out (Kd.C_below HR1_2.out (bs HB)) HC1_2.out A5.out).mono ?_);rintro e w11 ⟨rfl,hb⟩;replace BK471:=am (blk_below (ks BK471) hb);replace BK472:=am (blk_below (ks BK472) hb);replace HB:=am (below_step (bs HB) hb);(try clear hb);(try clear hb2);(try clear hk);(try clear hi)
   by_cases c12:t473=true
   ·subst c12
    have H1:((laws_eqCrossS.f k l0_3 l1_3).bind fun t474=>(if t474=true then ((laws_eqBook.f k l0_4 l0_5 l1_4 l1_5).bind fun t475=>(if t475=true then ((laws_eqDiffS.f k l0_6 l1_6).bind fun t476=>(if t476=true then ((laws_eqOutS.f k l0_7 l1_7).bind fun t477=>(if t477=true then (some true) else (some false))) else (some false))) else (some false))) else (some false)))=some r:=by rw [if_pos rfl] at H;exact H
    clear H;have H:=H1;clear H1;replace H:=Option.bind_eq_some_iff.mp H;obtain ⟨t474,A130,H⟩:=H;replace H:(if t474=true then ((laws_eqBook.f k l0_4 l0_5 l1_4 l1_5).bind fun t475=>(if t475=true then ((laws_eqDiffS.f k l0_6 l1_6).bind fun t476=>(if t476=true then ((laws_eqOutS.f k l0_7 l1_7).bind fun t477=>(if t477=true then (some true) else (some false))) else (some false))) else (some false))) else (some false))=some r:=H;have A13:=am A130;clear A130;have hnb14:=NB471_472.out;have hnc14:=NB472_471.out;obtain ⟨hcz15_0,hcz15_1,hcz15_2,hcz15_3,hcz15_4,hcz15_5,hcz15_6,hcz15_7,hfz15_0,hfz15_1,hfz15_2,hfz15_3,hfz15_4,hfz15_5,hfz15_6,hfz15_7⟩:=cf8 BK471;obtain ⟨hcz16_0,hcz16_1,hcz16_2,hcz16_3,hcz16_4,hcz16_5,hcz16_6,hcz16_7,hfz16_0,hfz16_1,hfz16_2,hfz16_3,hfz16_4,hfz16_5,hfz16_6,hfz16_7⟩:=cf8 BK472
    try go_wp2_with (fail)
    go_at_call 27;(with_reducible refine (laws_eqCrossS.calls k _ _ l0_3 _ _ l1_3 t474 _ (Kd.C_below HR0_3.out (bs HB)) HC0_3.out (Kd.C_below HR1_3.out (bs HB)) HC1_3.out A13.out).mono ?_);rintro e w17 ⟨rfl,hb⟩;replace BK471:=am (blk_below (ks BK471) hb);replace BK472:=am (blk_below (ks BK472) hb);replace HB:=am (below_step (bs HB) hb);(try clear hb);(try clear hb2);(try clear hk);(try clear hi)
    by_cases c18:t474=true
    ·subst c18
     have H1:((laws_eqBook.f k l0_4 l0_5 l1_4 l1_5).bind fun t475=>(if t475=true then ((laws_eqDiffS.f k l0_6 l1_6).bind fun t476=>(if t476=true then ((laws_eqOutS.f k l0_7 l1_7).bind fun t477=>(if t477=true then (some true) else (some false))) else (some false))) else (some false)))=some r:=by rw [if_pos rfl] at H;exact H
     clear H;have H:=H1;clear H1;replace H:=Option.bind_eq_some_iff.mp H;obtain ⟨t475,A190,H⟩:=H;replace H:(if t475=true then ((laws_eqDiffS.f k l0_6 l1_6).bind fun t476=>(if t476=true then ((laws_eqOutS.f k l0_7 l1_7).bind fun t477=>(if t477=true then (some true) else (some false))) else (some false))) else (some false))=some r:=H;have A19:=am A190;clear A190;have hnb20:=NB471_472.out;have hnc20:=NB472_471.out;obtain ⟨hcz21_0,hcz21_1,hcz21_2,hcz21_3,hcz21_4,hcz21_5,hcz21_6,hcz21_7,hfz21_0,hfz21_1,hfz21_2,hfz21_3,hfz21_4,hfz21_5,hfz21_6,hfz21_7⟩:=cf8 BK471;obtain ⟨hcz22_0,hcz22_1,hcz22_2,hcz22_3,hcz22_4,hcz22_5,hcz22_6,hcz22_7,hfz22_0,hfz22_1,hfz22_2,hfz22_3,hfz22_4,hfz22_5,hfz22_6,hfz22_7⟩:=cf8 BK472
     try go_wp2_with (fail)
     go_at_call 16;(with_reducible refine (laws_eqBook.calls k _ _ l0_4 _ _ l0_5 _ _ l1_4 _ _ l1_5 t475 _ (Kd.C_below HR0_4.out (bs HB)) HC0_4.out (Kd.C_below HR0_5.out (bs HB)) HC0_5.out (Kd.C_below HR1_4.out (bs HB)) HC1_4.out (Kd.C_below HR1_5.out (bs HB)) HC1_5.out A19.out).mono ?_);rintro e w23 ⟨rfl,hb⟩;replace BK471:=am (blk_below (ks BK471) hb);replace BK472:=am (blk_below (ks BK472) hb);replace HB:=am (below_step (bs HB) hb);(try clear hb);(try clear hb2);(try clear hk);(try clear hi)
     by_cases c24:t475=true
     ·subst c24
      have H1:((laws_eqDiffS.f k l0_6 l1_6).bind fun t476=>(if t476=true then ((laws_eqOutS.f k l0_7 l1_7).bind fun t477=>(if t477=true then (some true) else (some false))) else (some false)))=some r:=by rw [if_pos rfl] at H;exact H
      clear H;have H:=H1;clear H1;replace H:=Option.bind_eq_some_iff.mp H;obtain ⟨t476,A250,H⟩:=H;replace H:(if t476=true then ((laws_eqOutS.f k l0_7 l1_7).bind fun t477=>(if t477=true then (some true) else (some false))) else (some false))=some r:=H;have A25:=am A250;clear A250;have hnb26:=NB471_472.out;have hnc26:=NB472_471.out;obtain ⟨hcz27_0,hcz27_1,hcz27_2,hcz27_3,hcz27_4,hcz27_5,hcz27_6,hcz27_7,hfz27_0,hfz27_1,hfz27_2,hfz27_3,hfz27_4,hfz27_5,hfz27_6,hfz27_7⟩:=cf8 BK471;obtain ⟨hcz28_0,hcz28_1,hcz28_2,hcz28_3,hcz28_4,hcz28_5,hcz28_6,hcz28_7,hfz28_0,hfz28_1,hfz28_2,hfz28_3,hfz28_4,hfz28_5,hfz28_6,hfz28_7⟩:=cf8 BK472
      try go_wp2_with (fail)
      go_at_call 28;(with_reducible refine (laws_eqDiffS.calls k _ _ l0_6 _ _ l1_6 t476 _ (Kd.C_below HR0_6.out (bs HB)) HC0_6.out (Kd.C_below HR1_6.out (bs HB)) HC1_6.out A25.out).mono ?_);rintro e w29 ⟨rfl,hb⟩;replace BK471:=am (blk_below (ks BK471) hb);replace BK472:=am (blk_below (ks BK472) hb);replace HB:=am (below_step (bs HB) hb);(try clear hb);(try clear hb2);(try clear hk);(try clear hi)
      by_cases c30:t476=true
      ·subst c30
       have H1:((laws_eqOutS.f k l0_7 l1_7).bind fun t477=>(if t477=true then (some true) else (some false)))=some r:=by rw [if_pos rfl] at H;exact H
       clear H;have H:=H1;clear H1;replace H:=Option.bind_eq_some_iff.mp H;obtain ⟨t477,A310,H⟩:=H;replace H:(if t477=true then (some true) else (some false))=some r:=H;have A31:=am A310;clear A310;have hnb32:=NB471_472.out;have hnc32:=NB472_471.out;obtain ⟨hcz33_0,hcz33_1,hcz33_2,hcz33_3,hcz33_4,hcz33_5,hcz33_6,hcz33_7,hfz33_0,hfz33_1,hfz33_2,hfz33_3,hfz33_4,hfz33_5,hfz33_6,hfz33_7⟩:=cf8 BK471;obtain ⟨hcz34_0,hcz34_1,hcz34_2,hcz34_3,hcz34_4,hcz34_5,hcz34_6,hcz34_7,hfz34_0,hfz34_1,hfz34_2,hfz34_3,hfz34_4,hfz34_5,hfz34_6,hfz34_7⟩:=cf8 BK472
       try go_wp2_with (fail)
       go_at_call 29;(with_reducible refine (laws_eqOutS.calls k _ _ l0_7 _ _ l1_7 t477 _ (Kd.C_below HR0_7.out (bs HB)) HC0_7.out (Kd.C_below HR1_7.out (bs HB)) HC1_7.out A31.out).mono ?_);rintro e w35 ⟨rfl,hb⟩;replace BK471:=am (blk_below (ks BK471) hb);replace BK472:=am (blk_below (ks BK472) hb);replace HB:=am (below_step (bs HB) hb);(try clear hb);(try clear hb2);(try clear hk);(try clear hi)
       by_cases c36:t477=true
       ·subst c36
        have H1:(some true)=some r:=by rw [if_pos rfl] at H;exact H
        clear H;have H:=H1;clear H1;obtain rfl:=Option.some.inj H
        go_wp2
        go_ret
        exact ⟨ff,bs HB⟩
       ·replace c36:=Bool.eq_false_iff.mpr c36;subst c36
        have H1:(some false)=some r:=by rw [if_neg (show ¬ (false=true) by decide)] at H;exact H
        clear H;have H:=H1;clear H1;obtain rfl:=Option.some.inj H
        go_wp2
        go_ret
        exact ⟨ff,bs HB⟩
      ·replace c30:=Bool.eq_false_iff.mpr c30;subst c30
       have H1:(some false)=some r:=by rw [if_neg (show ¬ (false=true) by decide)] at H;exact H
       clear H;have H:=H1;clear H1;obtain rfl:=Option.some.inj H
       go_wp2
       go_ret
       exact ⟨ff,bs HB⟩
     ·replace c24:=Bool.eq_false_iff.mpr c24;subst c24
      have H1:(some false)=some r:=by rw [if_neg (show ¬ (false=true) by decide)] at H;exact H
      clear H;have H:=H1;clear H1;obtain rfl:=Option.some.inj H
      go_wp2
      go_ret
      exact ⟨ff,bs HB⟩
    ·replace c18:=Bool.eq_false_iff.mpr c18;subst c18
     have H1:(some false)=some r:=by rw [if_neg (show ¬ (false=true) by decide)] at H;exact H
     clear H;have H:=H1;clear H1;obtain rfl:=Option.some.inj H
     go_wp2
     go_ret
     exact ⟨ff,bs HB⟩
   ·replace c12:=Bool.eq_false_iff.mpr c12;subst c12
    have H1:(some false)=some r:=by rw [if_neg (show ¬ (false=true) by decide)] at H;exact H
    clear H;have H:=H1;clear H1;obtain rfl:=Option.some.inj H
    go_wp2
    go_ret
    exact ⟨ff,bs HB⟩
  ·rw [if_neg c4] at H;have c4b0:(a0_1 == a1_1)=false:=beq_eq_false_iff_ne.mpr c4;have c4b1:(a0_1 != a1_1)=true:=bne_iff_ne.mpr c4;obtain rfl:=Option.some.inj H
   go_enter Try.func8,Try.ntmps8
   go_wp2_with (first|((with_reducible refine gate_dst (N:=2) rfl ?_);refine bx 2 (cs:=#[.string a0_0,.int .i64 a0_1,.slice A0_2 l0_2.length c0_2,.slice A0_3 l0_3.length c0_3,.slice A0_4 l0_4.length c0_4,.slice A0_5 l0_5.length c0_5,.slice A0_6 l0_6.length c0_6,.slice A0_7 l0_7.length c0_7]) (t:=31) ?_;intro gb471 hg w37 hbox hb;have BK471:=am (hbox);have GW471:=am ((gs hg (bs HB)));have GE471:=am ((gs hg (bs HB)));replace HB:=am (below_step (bs HB) hb);clear hb hbox hg)|((with_reducible refine gate_dst (N:=3) rfl ?_);refine bx 3 (cs:=#[.string a1_0,.int .i64 a1_1,.slice A1_2 l1_2.length c1_2,.slice A1_3 l1_3.length c1_3,.slice A1_4 l1_4.length c1_4,.slice A1_5 l1_5.length c1_5,.slice A1_6 l1_6.length c1_6,.slice A1_7 l1_7.length c1_7]) (t:=31) ?_;intro gb472 hg w38 hbox hb;have BK472:=am (hbox);have GW472:=am ((gs hg (bs HB)));have GE472:=am ((gs hg (bs HB)));replace HB:=am (below_step (bs HB) hb);have NB471_472:=am ((gn hg (ks BK471)));have NB472_471:=am ((gm hg (ks BK471)));replace BK471:=am (blk_below (ks BK471) hb);clear hb hbox hg;have hnb39:=NB471_472.out;have hnc39:=NB472_471.out;obtain ⟨hcz40_0,hcz40_1,hcz40_2,hcz40_3,hcz40_4,hcz40_5,hcz40_6,hcz40_7,hfz40_0,hfz40_1,hfz40_2,hfz40_3,hfz40_4,hfz40_5,hfz40_6,hfz40_7⟩:=cf8 BK471;obtain ⟨hcz41_0,hcz41_1,hcz41_2,hcz41_3,hcz41_4,hcz41_5,hcz41_6,hcz41_7,hfz41_0,hfz41_1,hfz41_2,hfz41_3,hfz41_4,hfz41_5,hfz41_6,hfz41_7⟩:=cf8 BK472))
   go_ret
   exact ⟨ff,bs HB⟩
 ·rw [if_neg c3] at H;have c3b0:(a0_0.toList == a1_0.toList)=false:=beq_eq_false_iff_ne.mpr c3;have c3b1:(a0_0.toList != a1_0.toList)=true:=bne_iff_ne.mpr c3;obtain rfl:=Option.some.inj H
  go_enter Try.func8,Try.ntmps8
  go_wp2_with (first|((with_reducible refine gate_dst (N:=2) rfl ?_);refine bx 2 (cs:=#[.string a0_0,.int .i64 a0_1,.slice A0_2 l0_2.length c0_2,.slice A0_3 l0_3.length c0_3,.slice A0_4 l0_4.length c0_4,.slice A0_5 l0_5.length c0_5,.slice A0_6 l0_6.length c0_6,.slice A0_7 l0_7.length c0_7]) (t:=31) ?_;intro gb471 hg w42 hbox hb;have BK471:=am (hbox);have GW471:=am ((gs hg (bs HB)));have GE471:=am ((gs hg (bs HB)));replace HB:=am (below_step (bs HB) hb);clear hb hbox hg)|((with_reducible refine gate_dst (N:=3) rfl ?_);refine bx 3 (cs:=#[.string a1_0,.int .i64 a1_1,.slice A1_2 l1_2.length c1_2,.slice A1_3 l1_3.length c1_3,.slice A1_4 l1_4.length c1_4,.slice A1_5 l1_5.length c1_5,.slice A1_6 l1_6.length c1_6,.slice A1_7 l1_7.length c1_7]) (t:=31) ?_;intro gb472 hg w43 hbox hb;have BK472:=am (hbox);have GW472:=am ((gs hg (bs HB)));have GE472:=am ((gs hg (bs HB)));replace HB:=am (below_step (bs HB) hb);have NB471_472:=am ((gn hg (ks BK471)));have NB472_471:=am ((gm hg (ks BK471)));replace BK471:=am (blk_below (ks BK471) hb);clear hb hbox hg;have hnb44:=NB471_472.out;have hnc44:=NB472_471.out;obtain ⟨hcz45_0,hcz45_1,hcz45_2,hcz45_3,hcz45_4,hcz45_5,hcz45_6,hcz45_7,hfz45_0,hfz45_1,hfz45_2,hfz45_3,hfz45_4,hfz45_5,hfz45_6,hfz45_7⟩:=cf8 BK471;obtain ⟨hcz46_0,hcz46_1,hcz46_2,hcz46_3,hcz46_4,hcz46_5,hcz46_6,hcz46_7,hfz46_0,hfz46_1,hfz46_2,hfz46_3,hfz46_4,hfz46_5,hfz46_6,hfz46_7⟩:=cf8 BK472))
  go_ret
  exact ⟨ff,bs HB⟩
end Go.Proofs.Ytjjfjgdhloideaa.QI

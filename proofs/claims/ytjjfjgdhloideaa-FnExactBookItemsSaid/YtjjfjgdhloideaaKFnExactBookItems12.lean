-- Merged by a program of this session (wip/tool/pack.py) out of its own texts for this claim.
import Derived.Test.YtjjfjgdhloideaaKFnExactBookItems0
import Derived.Test.YtjjfjgdhloideaaKFnExactBookItems1
import Derived.Test.YtjjfjgdhloideaaKFnExactBookItems2
import Derived.Test.YtjjfjgdhloideaaKFnExactBookItems5
import Derived.Test.YtjjfjgdhloideaaKFnExactBookItems9
import Derived.Test.YtjjfjgdhloideaaKFnExactBookItems11
namespace Go.Proofs.Ytjjfjgdhloideaa.QH
open Go.RowKit Go.Proofs.YtjjfjgdhloideaaW.PrintWords Go.Proofs.YtjjfjgdhloideaaW.PrintLast Go.Proofs.YtjjfjgdhloideaaW.PrintMore
attribute [local go_sem] max2_int min2_int max_two min_two max_three min_three max_four min_four   -- for this text's walks alone
set_option linter.unusedVariables false
set_option linter.unusedSimpArgs false
set_option maxHeartbeats 8000000 in
set_option maxRecDepth 100000 in
theorem laws_eqOrderLine.calls (a0_0 : ByteArray) (a0_1 : ByteArray) (a0_2 : Int) (a0_3 : ByteArray) (a0_4 : Int) (a0_5 : Int) (a0_6 : Int) (a0_7 : Int) (a1_0 : ByteArray) (a1_1 : ByteArray) (a1_2 : Int) (a1_3 : ByteArray) (a1_4 : Int) (a1_5 : Int) (a1_6 : Int) (a1_7 : Int) (r : Bool) (w : World) (h : laws_eqOrderLine.f a0_0 a0_1 a0_2 a0_3 a0_4 a0_5 a0_6 a0_7 a1_0 a1_1 a1_2 a1_3 a1_4 a1_5 a1_6 a1_7 = some r) :
    Calls Try.prog 87 #[.agg #[.string a0_0, .string a0_1, .int .i64 a0_2, .string a0_3, .int .i64 a0_4, .int .i64 a0_5, .int .i64 a0_6, .int .i64 a0_7], .agg #[.string a1_0, .string a1_1, .int .i64 a1_2, .string a1_3, .int .i64 a1_4, .int .i64 a1_5, .int .i64 a1_6, .int .i64 a1_7]] w fun e w' => e = .returned (.bool r) ∧ Below w.heap.size w w' := by
  have hu73 := Try.underlying73; have HB := Aside0.mk (Below.refl w.heap.size w); have H : (if a0_0.toList = a1_0.toList then (if a0_1.toList = a1_1.toList then (if a0_2 = a1_2 then (if a0_3.toList = a1_3.toList then (if a0_4 = a1_4 then (if a0_5 = a1_5 then (if a0_6 = a1_6 then (if a0_7 = a1_7 then (some true) else (some false)) else (some false)) else (some false)) else (some false)) else (some false)) else (some false)) else (some false)) else (some false)) = some r := h; clear h
  by_cases c3 : a0_0.toList = a1_0.toList
  · rw [if_pos c3] at H; have c3b0 : (a0_0.toList == a1_0.toList) = true := beq_iff_eq.mpr c3; have c3b1 : (a0_0.toList != a1_0.toList) = false := bne_eq_false_iff_eq.mpr c3; clear c3
    by_cases c4 : a0_1.toList = a1_1.toList
    · rw [if_pos c4] at H; have c4b0 : (a0_1.toList == a1_1.toList) = true := beq_iff_eq.mpr c4; have c4b1 : (a0_1.toList != a1_1.toList) = false := bne_eq_false_iff_eq.mpr c4; clear c4
      by_cases c5 : a0_2 = a1_2
      · rw [if_pos c5] at H; have c5b0 : (a0_2 == a1_2) = true := beq_iff_eq.mpr c5; have c5b1 : (a0_2 != a1_2) = false := bne_eq_false_iff_eq.mpr c5; clear c5
        by_cases c6 : a0_3.toList = a1_3.toList
        · rw [if_pos c6] at H; have c6b0 : (a0_3.toList == a1_3.toList) = true := beq_iff_eq.mpr c6; have c6b1 : (a0_3.toList != a1_3.toList) = false := bne_eq_false_iff_eq.mpr c6; clear c6
          by_cases c7 : a0_4 = a1_4
          · rw [if_pos c7] at H; have c7b0 : (a0_4 == a1_4) = true := beq_iff_eq.mpr c7; have c7b1 : (a0_4 != a1_4) = false := bne_eq_false_iff_eq.mpr c7; clear c7
            by_cases c8 : a0_5 = a1_5
            · rw [if_pos c8] at H; have c8b0 : (a0_5 == a1_5) = true := beq_iff_eq.mpr c8; have c8b1 : (a0_5 != a1_5) = false := bne_eq_false_iff_eq.mpr c8; clear c8
              by_cases c9 : a0_6 = a1_6
              · rw [if_pos c9] at H; have c9b0 : (a0_6 == a1_6) = true := beq_iff_eq.mpr c9; have c9b1 : (a0_6 != a1_6) = false := bne_eq_false_iff_eq.mpr c9; clear c9
                by_cases c10 : a0_7 = a1_7
                · rw [if_pos c10] at H; have c10b0 : (a0_7 == a1_7) = true := beq_iff_eq.mpr c10; have c10b1 : (a0_7 != a1_7) = false := bne_eq_false_iff_eq.mpr c10; clear c10; obtain rfl := Option.some.inj H
                  go_enter Try.func87, Try.ntmps87
                  go_wp2_with (first | ((with_reducible refine gate_dst (N := 2) rfl ?_); refine bx 2 (cs := #[.string a0_0, .string a0_1, .int .i64 a0_2, .string a0_3, .int .i64 a0_4, .int .i64 a0_5, .int .i64 a0_6, .int .i64 a0_7]) (t := 73) ?_; intro gb258 hg w11 hbox hb; have BK258 := Aside0.mk (hbox); have GW258 := Aside0.mk ((gs hg (bs HB))); have GE258 := Aside0.mk ((gs hg (bs HB))); replace HB := Aside0.mk (below_step (bs HB) hb); clear hb hbox hg) | ((with_reducible refine gate_dst (N := 3) rfl ?_); refine bx 3 (cs := #[.string a1_0, .string a1_1, .int .i64 a1_2, .string a1_3, .int .i64 a1_4, .int .i64 a1_5, .int .i64 a1_6, .int .i64 a1_7]) (t := 73) ?_; intro gb259 hg w12 hbox hb; have BK259 := Aside0.mk (hbox); have GW259 := Aside0.mk ((gs hg (bs HB))); have GE259 := Aside0.mk ((gs hg (bs HB))); replace HB := Aside0.mk (below_step (bs HB) hb); have NB258_259 := Aside0.mk ((gn hg (ks BK258))); have NB259_258 := Aside0.mk ((gm hg (ks BK258))); replace BK258 := Aside0.mk (blk_below (ks BK258) hb); clear hb hbox hg; have hnb13 := NB258_259.out; have hnc13 := NB259_258.out; obtain ⟨hcz14_0, hcz14_1, hcz14_2, hcz14_3, hcz14_4, hcz14_5, hcz14_6, hcz14_7, hfz14_0, hfz14_1, hfz14_2, hfz14_3, hfz14_4, hfz14_5, hfz14_6, hfz14_7⟩ := cf8 BK258; obtain ⟨hcz15_0, hcz15_1, hcz15_2, hcz15_3, hcz15_4, hcz15_5, hcz15_6, hcz15_7, hfz15_0, hfz15_1, hfz15_2, hfz15_3, hfz15_4, hfz15_5, hfz15_6, hfz15_7⟩ := cf8 BK259))
                  go_ret
                  exact ⟨ff, bs HB⟩
                · rw [if_neg c10] at H; have c10b0 : (a0_7 == a1_7) = false := beq_eq_false_iff_ne.mpr c10; have c10b1 : (a0_7 != a1_7) = true := bne_iff_ne.mpr c10; obtain rfl := Option.some.inj H
                  go_enter Try.func87, Try.ntmps87
                  go_wp2_with (first | ((with_reducible refine gate_dst (N := 2) rfl ?_); refine bx 2 (cs := #[.string a0_0, .string a0_1, .int .i64 a0_2, .string a0_3, .int .i64 a0_4, .int .i64 a0_5, .int .i64 a0_6, .int .i64 a0_7]) (t := 73) ?_; intro gb258 hg w16 hbox hb; have BK258 := Aside0.mk (hbox); have GW258 := Aside0.mk ((gs hg (bs HB))); have GE258 := Aside0.mk ((gs hg (bs HB))); replace HB := Aside0.mk (below_step (bs HB) hb); clear hb hbox hg) | ((with_reducible refine gate_dst (N := 3) rfl ?_); refine bx 3 (cs := #[.string a1_0, .string a1_1, .int .i64 a1_2, .string a1_3, .int .i64 a1_4, .int .i64 a1_5, .int .i64 a1_6, .int .i64 a1_7]) (t := 73) ?_; intro gb259 hg w17 hbox hb; have BK259 := Aside0.mk (hbox); have GW259 := Aside0.mk ((gs hg (bs HB))); have GE259 := Aside0.mk ((gs hg (bs HB))); replace HB := Aside0.mk (below_step (bs HB) hb); have NB258_259 := Aside0.mk ((gn hg (ks BK258))); have NB259_258 := Aside0.mk ((gm hg (ks BK258))); replace BK258 := Aside0.mk (blk_below (ks BK258) hb); clear hb hbox hg; have hnb18 := NB258_259.out; have hnc18 := NB259_258.out; obtain ⟨hcz19_0, hcz19_1, hcz19_2, hcz19_3, hcz19_4, hcz19_5, hcz19_6, hcz19_7, hfz19_0, hfz19_1, hfz19_2, hfz19_3, hfz19_4, hfz19_5, hfz19_6, hfz19_7⟩ := cf8 BK258; obtain ⟨hcz20_0, hcz20_1, hcz20_2, hcz20_3, hcz20_4, hcz20_5, hcz20_6, hcz20_7, hfz20_0, hfz20_1, hfz20_2, hfz20_3, hfz20_4, hfz20_5, hfz20_6, hfz20_7⟩ := cf8 BK259))
                  go_ret
                  exact ⟨ff, bs HB⟩
              · rw [if_neg c9] at H; have c9b0 : (a0_6 == a1_6) = false := beq_eq_false_iff_ne.mpr c9; have c9b1 : (a0_6 != a1_6) = true := bne_iff_ne.mpr c9; obtain rfl := Option.some.inj H
                go_enter Try.func87, Try.ntmps87
                go_wp2_with (first | ((with_reducible refine gate_dst (N := 2) rfl ?_); refine bx 2 (cs := #[.string a0_0, .string a0_1, .int .i64 a0_2, .string a0_3, .int .i64 a0_4, .int .i64 a0_5, .int .i64 a0_6, .int .i64 a0_7]) (t := 73) ?_; intro gb258 hg w21 hbox hb; have BK258 := Aside0.mk (hbox); have GW258 := Aside0.mk ((gs hg (bs HB))); have GE258 := Aside0.mk ((gs hg (bs HB))); replace HB := Aside0.mk (below_step (bs HB) hb); clear hb hbox hg) | ((with_reducible refine gate_dst (N := 3) rfl ?_); refine bx 3 (cs := #[.string a1_0, .string a1_1, .int .i64 a1_2, .string a1_3, .int .i64 a1_4, .int .i64 a1_5, .int .i64 a1_6, .int .i64 a1_7]) (t := 73) ?_; intro gb259 hg w22 hbox hb; have BK259 := Aside0.mk (hbox); have GW259 := Aside0.mk ((gs hg (bs HB))); have GE259 := Aside0.mk ((gs hg (bs HB))); replace HB := Aside0.mk (below_step (bs HB) hb); have NB258_259 := Aside0.mk ((gn hg (ks BK258))); have NB259_258 := Aside0.mk ((gm hg (ks BK258))); replace BK258 := Aside0.mk (blk_below (ks BK258) hb); clear hb hbox hg; have hnb23 := NB258_259.out; have hnc23 := NB259_258.out; obtain ⟨hcz24_0, hcz24_1, hcz24_2, hcz24_3, hcz24_4, hcz24_5, hcz24_6, hcz24_7, hfz24_0, hfz24_1, hfz24_2, hfz24_3, hfz24_4, hfz24_5, hfz24_6, hfz24_7⟩ := cf8 BK258; obtain ⟨hcz25_0, hcz25_1, hcz25_2, hcz25_3, hcz25_4, hcz25_5, hcz25_6, hcz25_7, hfz25_0, hfz25_1, hfz25_2, hfz25_3, hfz25_4, hfz25_5, hfz25_6, hfz25_7⟩ := cf8 BK259))
                go_ret
                exact ⟨ff, bs HB⟩
            · rw [if_neg c8] at H; have c8b0 : (a0_5 == a1_5) = false := beq_eq_false_iff_ne.mpr c8; have c8b1 : (a0_5 != a1_5) = true := bne_iff_ne.mpr c8; obtain rfl := Option.some.inj H
              go_enter Try.func87, Try.ntmps87
              go_wp2_with (first | ((with_reducible refine gate_dst (N := 2) rfl ?_); refine bx 2 (cs := #[.string a0_0, .string a0_1, .int .i64 a0_2, .string a0_3, .int .i64 a0_4, .int .i64 a0_5, .int .i64 a0_6, .int .i64 a0_7]) (t := 73) ?_; intro gb258 hg w26 hbox hb; have BK258 := Aside0.mk (hbox); have GW258 := Aside0.mk ((gs hg (bs HB))); have GE258 := Aside0.mk ((gs hg (bs HB))); replace HB := Aside0.mk (below_step (bs HB) hb); clear hb hbox hg) | ((with_reducible refine gate_dst (N := 3) rfl ?_); refine bx 3 (cs := #[.string a1_0, .string a1_1, .int .i64 a1_2, .string a1_3, .int .i64 a1_4, .int .i64 a1_5, .int .i64 a1_6, .int .i64 a1_7]) (t := 73) ?_; intro gb259 hg w27 hbox hb; have BK259 := Aside0.mk (hbox); have GW259 := Aside0.mk ((gs hg (bs HB))); have GE259 := Aside0.mk ((gs hg (bs HB))); replace HB := Aside0.mk (below_step (bs HB) hb); have NB258_259 := Aside0.mk ((gn hg (ks BK258))); have NB259_258 := Aside0.mk ((gm hg (ks BK258))); replace BK258 := Aside0.mk (blk_below (ks BK258) hb); clear hb hbox hg; have hnb28 := NB258_259.out; have hnc28 := NB259_258.out; obtain ⟨hcz29_0, hcz29_1, hcz29_2, hcz29_3, hcz29_4, hcz29_5, hcz29_6, hcz29_7, hfz29_0, hfz29_1, hfz29_2, hfz29_3, hfz29_4, hfz29_5, hfz29_6, hfz29_7⟩ := cf8 BK258; obtain ⟨hcz30_0, hcz30_1, hcz30_2, hcz30_3, hcz30_4, hcz30_5, hcz30_6, hcz30_7, hfz30_0, hfz30_1, hfz30_2, hfz30_3, hfz30_4, hfz30_5, hfz30_6, hfz30_7⟩ := cf8 BK259))
              go_ret
              exact ⟨ff, bs HB⟩
          · rw [if_neg c7] at H; have c7b0 : (a0_4 == a1_4) = false := beq_eq_false_iff_ne.mpr c7; have c7b1 : (a0_4 != a1_4) = true := bne_iff_ne.mpr c7; obtain rfl := Option.some.inj H
            go_enter Try.func87, Try.ntmps87
            go_wp2_with (first | ((with_reducible refine gate_dst (N := 2) rfl ?_); refine bx 2 (cs := #[.string a0_0, .string a0_1, .int .i64 a0_2, .string a0_3, .int .i64 a0_4, .int .i64 a0_5, .int .i64 a0_6, .int .i64 a0_7]) (t := 73) ?_; intro gb258 hg w31 hbox hb; have BK258 := Aside0.mk (hbox); have GW258 := Aside0.mk ((gs hg (bs HB))); have GE258 := Aside0.mk ((gs hg (bs HB))); replace HB := Aside0.mk (below_step (bs HB) hb); clear hb hbox hg) | ((with_reducible refine gate_dst (N := 3) rfl ?_); refine bx 3 (cs := #[.string a1_0, .string a1_1, .int .i64 a1_2, .string a1_3, .int .i64 a1_4, .int .i64 a1_5, .int .i64 a1_6, .int .i64 a1_7]) (t := 73) ?_; intro gb259 hg w32 hbox hb; have BK259 := Aside0.mk (hbox); have GW259 := Aside0.mk ((gs hg (bs HB))); have GE259 := Aside0.mk ((gs hg (bs HB))); replace HB := Aside0.mk (below_step (bs HB) hb); have NB258_259 := Aside0.mk ((gn hg (ks BK258))); have NB259_258 := Aside0.mk ((gm hg (ks BK258))); replace BK258 := Aside0.mk (blk_below (ks BK258) hb); clear hb hbox hg; have hnb33 := NB258_259.out; have hnc33 := NB259_258.out; obtain ⟨hcz34_0, hcz34_1, hcz34_2, hcz34_3, hcz34_4, hcz34_5, hcz34_6, hcz34_7, hfz34_0, hfz34_1, hfz34_2, hfz34_3, hfz34_4, hfz34_5, hfz34_6, hfz34_7⟩ := cf8 BK258; obtain ⟨hcz35_0, hcz35_1, hcz35_2, hcz35_3, hcz35_4, hcz35_5, hcz35_6, hcz35_7, hfz35_0, hfz35_1, hfz35_2, hfz35_3, hfz35_4, hfz35_5, hfz35_6, hfz35_7⟩ := cf8 BK259))
            go_ret
            exact ⟨ff, bs HB⟩
        · rw [if_neg c6] at H; have c6b0 : (a0_3.toList == a1_3.toList) = false := beq_eq_false_iff_ne.mpr c6; have c6b1 : (a0_3.toList != a1_3.toList) = true := bne_iff_ne.mpr c6; obtain rfl := Option.some.inj H
          go_enter Try.func87, Try.ntmps87
          go_wp2_with (first | ((with_reducible refine gate_dst (N := 2) rfl ?_); refine bx 2 (cs := #[.string a0_0, .string a0_1, .int .i64 a0_2, .string a0_3, .int .i64 a0_4, .int .i64 a0_5, .int .i64 a0_6, .int .i64 a0_7]) (t := 73) ?_; intro gb258 hg w36 hbox hb; have BK258 := Aside0.mk (hbox); have GW258 := Aside0.mk ((gs hg (bs HB))); have GE258 := Aside0.mk ((gs hg (bs HB))); replace HB := Aside0.mk (below_step (bs HB) hb); clear hb hbox hg) | ((with_reducible refine gate_dst (N := 3) rfl ?_); refine bx 3 (cs := #[.string a1_0, .string a1_1, .int .i64 a1_2, .string a1_3, .int .i64 a1_4, .int .i64 a1_5, .int .i64 a1_6, .int .i64 a1_7]) (t := 73) ?_; intro gb259 hg w37 hbox hb; have BK259 := Aside0.mk (hbox); have GW259 := Aside0.mk ((gs hg (bs HB))); have GE259 := Aside0.mk ((gs hg (bs HB))); replace HB := Aside0.mk (below_step (bs HB) hb); have NB258_259 := Aside0.mk ((gn hg (ks BK258))); have NB259_258 := Aside0.mk ((gm hg (ks BK258))); replace BK258 := Aside0.mk (blk_below (ks BK258) hb); clear hb hbox hg; have hnb38 := NB258_259.out; have hnc38 := NB259_258.out; obtain ⟨hcz39_0, hcz39_1, hcz39_2, hcz39_3, hcz39_4, hcz39_5, hcz39_6, hcz39_7, hfz39_0, hfz39_1, hfz39_2, hfz39_3, hfz39_4, hfz39_5, hfz39_6, hfz39_7⟩ := cf8 BK258; obtain ⟨hcz40_0, hcz40_1, hcz40_2, hcz40_3, hcz40_4, hcz40_5, hcz40_6, hcz40_7, hfz40_0, hfz40_1, hfz40_2, hfz40_3, hfz40_4, hfz40_5, hfz40_6, hfz40_7⟩ := cf8 BK259))
          go_ret
          exact ⟨ff, bs HB⟩
      · rw [if_neg c5] at H; have c5b0 : (a0_2 == a1_2) = false := beq_eq_false_iff_ne.mpr c5; have c5b1 : (a0_2 != a1_2) = true := bne_iff_ne.mpr c5; obtain rfl := Option.some.inj H
        go_enter Try.func87, Try.ntmps87
        go_wp2_with (first | ((with_reducible refine gate_dst (N := 2) rfl ?_); refine bx 2 (cs := #[.string a0_0, .string a0_1, .int .i64 a0_2, .string a0_3, .int .i64 a0_4, .int .i64 a0_5, .int .i64 a0_6, .int .i64 a0_7]) (t := 73) ?_; intro gb258 hg w41 hbox hb; have BK258 := Aside0.mk (hbox); have GW258 := Aside0.mk ((gs hg (bs HB))); have GE258 := Aside0.mk ((gs hg (bs HB))); replace HB := Aside0.mk (below_step (bs HB) hb); clear hb hbox hg) | ((with_reducible refine gate_dst (N := 3) rfl ?_); refine bx 3 (cs := #[.string a1_0, .string a1_1, .int .i64 a1_2, .string a1_3, .int .i64 a1_4, .int .i64 a1_5, .int .i64 a1_6, .int .i64 a1_7]) (t := 73) ?_; intro gb259 hg w42 hbox hb; have BK259 := Aside0.mk (hbox); have GW259 := Aside0.mk ((gs hg (bs HB))); have GE259 := Aside0.mk ((gs hg (bs HB))); replace HB := Aside0.mk (below_step (bs HB) hb); have NB258_259 := Aside0.mk ((gn hg (ks BK258))); have NB259_258 := Aside0.mk ((gm hg (ks BK258))); replace BK258 := Aside0.mk (blk_below (ks BK258) hb); clear hb hbox hg; have hnb43 := NB258_259.out; have hnc43 := NB259_258.out; obtain ⟨hcz44_0, hcz44_1, hcz44_2, hcz44_3, hcz44_4, hcz44_5, hcz44_6, hcz44_7, hfz44_0, hfz44_1, hfz44_2, hfz44_3, hfz44_4, hfz44_5, hfz44_6, hfz44_7⟩ := cf8 BK258; obtain ⟨hcz45_0, hcz45_1, hcz45_2, hcz45_3, hcz45_4, hcz45_5, hcz45_6, hcz45_7, hfz45_0, hfz45_1, hfz45_2, hfz45_3, hfz45_4, hfz45_5, hfz45_6, hfz45_7⟩ := cf8 BK259))
        go_ret
        exact ⟨ff, bs HB⟩
    · rw [if_neg c4] at H; have c4b0 : (a0_1.toList == a1_1.toList) = false := beq_eq_false_iff_ne.mpr c4; have c4b1 : (a0_1.toList != a1_1.toList) = true := bne_iff_ne.mpr c4; obtain rfl := Option.some.inj H
      go_enter Try.func87, Try.ntmps87
      go_wp2_with (first | ((with_reducible refine gate_dst (N := 2) rfl ?_); refine bx 2 (cs := #[.string a0_0, .string a0_1, .int .i64 a0_2, .string a0_3, .int .i64 a0_4, .int .i64 a0_5, .int .i64 a0_6, .int .i64 a0_7]) (t := 73) ?_; intro gb258 hg w46 hbox hb; have BK258 := Aside0.mk (hbox); have GW258 := Aside0.mk ((gs hg (bs HB))); have GE258 := Aside0.mk ((gs hg (bs HB))); replace HB := Aside0.mk (below_step (bs HB) hb); clear hb hbox hg) | ((with_reducible refine gate_dst (N := 3) rfl ?_); refine bx 3 (cs := #[.string a1_0, .string a1_1, .int .i64 a1_2, .string a1_3, .int .i64 a1_4, .int .i64 a1_5, .int .i64 a1_6, .int .i64 a1_7]) (t := 73) ?_; intro gb259 hg w47 hbox hb; have BK259 := Aside0.mk (hbox); have GW259 := Aside0.mk ((gs hg (bs HB))); have GE259 := Aside0.mk ((gs hg (bs HB))); replace HB := Aside0.mk (below_step (bs HB) hb); have NB258_259 := Aside0.mk ((gn hg (ks BK258))); have NB259_258 := Aside0.mk ((gm hg (ks BK258))); replace BK258 := Aside0.mk (blk_below (ks BK258) hb); clear hb hbox hg; have hnb48 := NB258_259.out; have hnc48 := NB259_258.out; obtain ⟨hcz49_0, hcz49_1, hcz49_2, hcz49_3, hcz49_4, hcz49_5, hcz49_6, hcz49_7, hfz49_0, hfz49_1, hfz49_2, hfz49_3, hfz49_4, hfz49_5, hfz49_6, hfz49_7⟩ := cf8 BK258; obtain ⟨hcz50_0, hcz50_1, hcz50_2, hcz50_3, hcz50_4, hcz50_5, hcz50_6, hcz50_7, hfz50_0, hfz50_1, hfz50_2, hfz50_3, hfz50_4, hfz50_5, hfz50_6, hfz50_7⟩ := cf8 BK259))
      go_ret
      exact ⟨ff, bs HB⟩
  · rw [if_neg c3] at H; have c3b0 : (a0_0.toList == a1_0.toList) = false := beq_eq_false_iff_ne.mpr c3; have c3b1 : (a0_0.toList != a1_0.toList) = true := bne_iff_ne.mpr c3; obtain rfl := Option.some.inj H
    go_enter Try.func87, Try.ntmps87
    go_wp2_with (first | ((with_reducible refine gate_dst (N := 2) rfl ?_); refine bx 2 (cs := #[.string a0_0, .string a0_1, .int .i64 a0_2, .string a0_3, .int .i64 a0_4, .int .i64 a0_5, .int .i64 a0_6, .int .i64 a0_7]) (t := 73) ?_; intro gb258 hg w51 hbox hb; have BK258 := Aside0.mk (hbox); have GW258 := Aside0.mk ((gs hg (bs HB))); have GE258 := Aside0.mk ((gs hg (bs HB))); replace HB := Aside0.mk (below_step (bs HB) hb); clear hb hbox hg) | ((with_reducible refine gate_dst (N := 3) rfl ?_); refine bx 3 (cs := #[.string a1_0, .string a1_1, .int .i64 a1_2, .string a1_3, .int .i64 a1_4, .int .i64 a1_5, .int .i64 a1_6, .int .i64 a1_7]) (t := 73) ?_; intro gb259 hg w52 hbox hb; have BK259 := Aside0.mk (hbox); have GW259 := Aside0.mk ((gs hg (bs HB))); have GE259 := Aside0.mk ((gs hg (bs HB))); replace HB := Aside0.mk (below_step (bs HB) hb); have NB258_259 := Aside0.mk ((gn hg (ks BK258))); have NB259_258 := Aside0.mk ((gm hg (ks BK258))); replace BK258 := Aside0.mk (blk_below (ks BK258) hb); clear hb hbox hg; have hnb53 := NB258_259.out; have hnc53 := NB259_258.out; obtain ⟨hcz54_0, hcz54_1, hcz54_2, hcz54_3, hcz54_4, hcz54_5, hcz54_6, hcz54_7, hfz54_0, hfz54_1, hfz54_2, hfz54_3, hfz54_4, hfz54_5, hfz54_6, hfz54_7⟩ := cf8 BK258; obtain ⟨hcz55_0, hcz55_1, hcz55_2, hcz55_3, hcz55_4, hcz55_5, hcz55_6, hcz55_7, hfz55_0, hfz55_1, hfz55_2, hfz55_3, hfz55_4, hfz55_5, hfz55_6, hfz55_7⟩ := cf8 BK259))
    go_ret
    exact ⟨ff, bs HB⟩
end Go.Proofs.Ytjjfjgdhloideaa.QH
namespace Go.Proofs.Ytjjfjgdhloideaa.QH
open Go.RowKit Go.Proofs.YtjjfjgdhloideaaW.PrintWords Go.Proofs.YtjjfjgdhloideaaW.PrintLast Go.Proofs.YtjjfjgdhloideaaW.PrintMore
attribute [local go_sem] max2_int min2_int max_two min_two max_three min_three max_four min_four   -- for this text's walks alone
set_option linter.unusedVariables false
set_option linter.unusedSimpArgs false
def laws_eqOrderLineS.T6 : Bool × List (List Nat × List Nat) := (true, [([], []), ([], []), ([0, 1], [0, 1]), ([2], [2]), ([], []), ([], []), ([4, 5], [4, 5]), ([6], [6]), ([3, 7], [3, 7]), ([8], [8])])
def laws_eqOrderLineS.B6 : List Nat := [0, 0, 3, 7, 0, 0, 48, 112, 255, 511]
theorem laws_eqOrderLineS.tab6 : rtab .any (opsOf Try.f47 6) = laws_eqOrderLineS.T6 := by kernel_rfl
theorem laws_eqOrderLineS.bits6 : waitsOk laws_eqOrderLineS.T6.2 laws_eqOrderLineS.B6 = true := by kernel_rfl
set_option maxHeartbeats 8000000 in
set_option maxRecDepth 100000 in
theorem laws_eqOrderLineS.calls (k : Nat) (A0 : Option Addr) (c0 : Nat) (l0 : List (S73)) (A1 : Option Addr) (c1 : Nat) (l1 : List (S73)) (r : Bool) (w : World) (hr0 : Kd.C k73 w A0 l0.length l0) (hc0 : l0.length ≤ c0) (hr1 : Kd.C k73 w A1 l1.length l1) (hc1 : l1.length ≤ c1) (h : laws_eqOrderLineS.f k l0 l1 = some r) :
    Calls Try.prog 47 #[.slice A0 l0.length c0, .slice A1 l1.length c1] w fun e w' => e = .returned (.bool r) ∧ Below w.heap.size w w' := by
  have hu73 := Try.underlying73; have HR0 := Aside0.mk hr0; have HC0 := Aside0.mk hc0; clear hr0 hc0; have HR1 := Aside0.mk hr1; have HC1 := Aside0.mk hc1; clear hr1 hc1; have HB := Aside0.mk (Below.refl w.heap.size w); have H : (if (l0.length : Int) = (l1.length : Int) then (laws_eqOrderLineS.l0 k l0 l1 0) else (some false)) = some r := h; clear h
  by_cases c3 : (l0.length : Int) = (l1.length : Int)
  · rw [if_pos c3] at H; have c3b0 : ((l0.length : Int) == (l1.length : Int)) = true := beq_iff_eq.mpr c3; have c3b1 : ((l0.length : Int) != (l1.length : Int)) = false := bne_eq_false_iff_eq.mpr c3
    have c3b2 : (l0.length == l1.length) = true := by first | simpa using c3 | (simp at c3 ⊢; omega)
    clear c3; have H' := Aside0.mk H; clear H
    go_enter Try.func47, Try.ntmps47
    go_wp2
    go_loopg [5] k (fun kq v5 w' => ∃ (x5_1 : Int), v5 = .int .i64 x5_1 ∧ Aside0 (laws_eqOrderLineS.l0 kq l0 l1 x5_1 = some r) ∧ Aside0 (kq ≤ k) ∧ Aside0 (Below w.heap.size w w'))
    case atStart => exact ⟨(0), fg, H', ⟨Nat.le_refl _⟩, ⟨bs HB⟩⟩
    case round =>
      clear H'
      try clear c1
      try clear p2
      try clear c3
      try clear c3b0
      try clear c3b1
      try clear c3b2
      obtain ⟨x5_1, rfl, HA, HK1, HB⟩ := hrel
      cases gk with
      | zero => exact absurd HA.out (by simp [laws_eqOrderLineS.l0])
      | succ k1 =>
        have H := HA.out; clear HA; simp only [laws_eqOrderLineS.l0] at H
        by_cases c4 : x5_1 < (l0.length : Int)
        · rw [if_pos c4] at H; have c4b0 : decide (x5_1 < (l0.length : Int)) = true := decide_eq_true c4; clear c4
          by_cases c5 : 0 ≤ x5_1
          · rw [if_pos c5] at H; have c5b0 : decide (0 ≤ x5_1) = true := decide_eq_true c5; clear c5
            by_cases c6 : x5_1 < (l1.length : Int)
            · rw [if_pos c6] at H; have c6b0 : decide (x5_1 < (l1.length : Int)) = true := decide_eq_true c6; clear c6; replace H := Option.bind_eq_some_iff.mp H; obtain ⟨t262, A70, H⟩ := H; replace H : (if t262 = true then (laws_eqOrderLineS.l0 k1 l0 l1 (wrap64 (x5_1 + 1))) else (some false)) = some r := H; have A7 := Aside0.mk A70; clear A70
              by_cases c8 : t262 = true
              · subst c8
                have H1 : (laws_eqOrderLineS.l0 k1 l0 l1 (wrap64 (x5_1 + 1))) = some r := by rw [if_pos rfl] at H; exact H
                clear H; have H := H1; clear H1; have H' := Aside0.mk H; clear H
                try go_wp2
                replace HB := Aside0.mk (below_drew1 HB.out); have p260 : 0 ≤ (x5_1 : Int) := oa; have q260 : x5_1 < (l0.length : Int) := oa; obtain ⟨ad260, e260, hx260_0, hx260_1, hx260_2, hx260_3, hx260_4, hx260_5, hx260_6, hx260_7⟩ := at_T73 HR0.out x5_1 p260 q260; have hw260_7 := hx260_7; have hw260_6 := hx260_6; have hw260_5 := hx260_5; have hw260_4 := hx260_4; have hw260_3 := hx260_3; have hw260_2 := hx260_2; have hw260_1 := hx260_1; have hw260_0 := hx260_0
                cases e260
                replace hx260_0 := cb HB hx260_0; replace hx260_1 := cb HB hx260_1; replace hx260_2 := cb HB hx260_2; replace hx260_3 := cb HB hx260_3; replace hx260_4 := cb HB hx260_4; replace hx260_5 := cb HB hx260_5; replace hx260_6 := cb HB hx260_6; replace hx260_7 := cb HB hx260_7; replace p260 := eq_true p260; replace q260 := eq_true q260; have p261 : 0 ≤ (x5_1 : Int) := oa; have q261 : x5_1 < (l1.length : Int) := oa; obtain ⟨ad261, e261, hx261_0, hx261_1, hx261_2, hx261_3, hx261_4, hx261_5, hx261_6, hx261_7⟩ := at_T73 HR1.out x5_1 p261 q261; have hw261_7 := hx261_7; have hw261_6 := hx261_6; have hw261_5 := hx261_5; have hw261_4 := hx261_4; have hw261_3 := hx261_3; have hw261_2 := hx261_2; have hw261_1 := hx261_1; have hw261_0 := hx261_0
                cases e261
                replace hx261_0 := cb HB hx261_0; replace hx261_1 := cb HB hx261_1; replace hx261_2 := cb HB hx261_2; replace hx261_3 := cb HB hx261_3; replace hx261_4 := cb HB hx261_4; replace hx261_5 := cb HB hx261_5; replace hx261_6 := cb HB hx261_6; replace hx261_7 := cb HB hx261_7; replace p261 := eq_true p261; replace q261 := eq_true q261; refine start_ (n := 10) (S := fun w' => w'.cell? (ad260.add ((x5_1).toNat * 8)) = some (.string ((rd_T73 l0 x5_1).f0)) ∧ w'.cell? ⟨(ad260.add ((x5_1).toNat * 8)).block, (ad260.add ((x5_1).toNat * 8)).off + 1, none⟩ = some (.string ((rd_T73 l0 x5_1).f1)) ∧ w'.cell? ⟨(ad260.add ((x5_1).toNat * 8)).block, (ad260.add ((x5_1).toNat * 8)).off + 2, none⟩ = some (.int .i64 ((rd_T73 l0 x5_1).f2)) ∧ w'.cell? ⟨(ad260.add ((x5_1).toNat * 8)).block, (ad260.add ((x5_1).toNat * 8)).off + 3, none⟩ = some (.string ((rd_T73 l0 x5_1).f3)) ∧ w'.cell? ⟨(ad260.add ((x5_1).toNat * 8)).block, (ad260.add ((x5_1).toNat * 8)).off + 4, none⟩ = some (.int .i64 ((rd_T73 l0 x5_1).f4)) ∧ w'.cell? ⟨(ad260.add ((x5_1).toNat * 8)).block, (ad260.add ((x5_1).toNat * 8)).off + 5, none⟩ = some (.int .i64 ((rd_T73 l0 x5_1).f5)) ∧ w'.cell? ⟨(ad260.add ((x5_1).toNat * 8)).block, (ad260.add ((x5_1).toNat * 8)).off + 6, none⟩ = some (.int .i64 ((rd_T73 l0 x5_1).f6)) ∧ w'.cell? ⟨(ad260.add ((x5_1).toNat * 8)).block, (ad260.add ((x5_1).toNat * 8)).off + 7, none⟩ = some (.int .i64 ((rd_T73 l0 x5_1).f7)) ∧ w'.cell? (ad261.add ((x5_1).toNat * 8)) = some (.string ((rd_T73 l1 x5_1).f0)) ∧ w'.cell? ⟨(ad261.add ((x5_1).toNat * 8)).block, (ad261.add ((x5_1).toNat * 8)).off + 1, none⟩ = some (.string ((rd_T73 l1 x5_1).f1)) ∧ w'.cell? ⟨(ad261.add ((x5_1).toNat * 8)).block, (ad261.add ((x5_1).toNat * 8)).off + 2, none⟩ = some (.int .i64 ((rd_T73 l1 x5_1).f2)) ∧ w'.cell? ⟨(ad261.add ((x5_1).toNat * 8)).block, (ad261.add ((x5_1).toNat * 8)).off + 3, none⟩ = some (.string ((rd_T73 l1 x5_1).f3)) ∧ w'.cell? ⟨(ad261.add ((x5_1).toNat * 8)).block, (ad261.add ((x5_1).toNat * 8)).off + 4, none⟩ = some (.int .i64 ((rd_T73 l1 x5_1).f4)) ∧ w'.cell? ⟨(ad261.add ((x5_1).toNat * 8)).block, (ad261.add ((x5_1).toNat * 8)).off + 5, none⟩ = some (.int .i64 ((rd_T73 l1 x5_1).f5)) ∧ w'.cell? ⟨(ad261.add ((x5_1).toNat * 8)).block, (ad261.add ((x5_1).toNat * 8)).off + 6, none⟩ = some (.int .i64 ((rd_T73 l1 x5_1).f6)) ∧ w'.cell? ⟨(ad261.add ((x5_1).toNat * 8)).block, (ad261.add ((x5_1).toNat * 8)).off + 7, none⟩ = some (.int .i64 ((rd_T73 l1 x5_1).f7))) (ds := []) #[false, false, false, false, false, false, false, false, false, false] (by kernel_rfl) rfl rfl ⟨((cb HB hw260_0).trans rfl), ((cb HB hw260_1).trans rfl), ((cb HB hw260_2).trans rfl), ((cb HB hw260_3).trans rfl), ((cb HB hw260_4).trans rfl), ((cb HB hw260_5).trans rfl), ((cb HB hw260_6).trans rfl), ((cb HB hw260_7).trans rfl), ((cb HB hw261_0).trans rfl), ((cb HB hw261_1).trans rfl), ((cb HB hw261_2).trans rfl), ((cb HB hw261_3).trans rfl), ((cb HB hw261_4).trans rfl), ((cb HB hw261_5).trans rfl), ((cb HB hw261_6).trans rfl), ((cb HB hw261_7).trans rfl)⟩ (fun hHeld => ?_); refine with_tabW laws_eqOrderLineS.tab6 laws_eqOrderLineS.bits6 (fun HT_ HW_ => ?_)
                generalize wr.drew = w9 at HB hx260_0 hx260_1 hx260_2 hx260_3 hx260_4 hx260_5 hx260_6 hx260_7 hx261_0 hx261_1 hx261_2 hx261_3 hx261_4 hx261_5 hx261_6 hx261_7 hHeld ⊢
                refine pA 0 17 HT_ ?_; refine pA 1 18 HT_ ?_; refine pA 2 19 HT_ ?_; refine pA 4 21 HT_ ?_; refine pA 5 22 HT_ ?_; refine pA 6 23 HT_ ?_; refine tA 3 20 HT_ HW_ hHeld ?_; refine tA 7 24 HT_ HW_ hHeld ?_; refine oA 8 25 HT_ (fun K hK => ?_); refine gA Try.func87 #[.agg #[.string ((rd_T73 l0 x5_1).f0), .string ((rd_T73 l0 x5_1).f1), .int .i64 ((rd_T73 l0 x5_1).f2), .string ((rd_T73 l0 x5_1).f3), .int .i64 ((rd_T73 l0 x5_1).f4), .int .i64 ((rd_T73 l0 x5_1).f5), .int .i64 ((rd_T73 l0 x5_1).f6), .int .i64 ((rd_T73 l0 x5_1).f7)], .agg #[.string ((rd_T73 l1 x5_1).f0), .string ((rd_T73 l1 x5_1).f1), .int .i64 ((rd_T73 l1 x5_1).f2), .string ((rd_T73 l1 x5_1).f3), .int .i64 ((rd_T73 l1 x5_1).f4), .int .i64 ((rd_T73 l1 x5_1).f5), .int .i64 ((rd_T73 l1 x5_1).f6), .int .i64 ((rd_T73 l1 x5_1).f7)]] ?_; (with_reducible refine (laws_eqOrderLine.calls ((rd_T73 l0 x5_1).f0) ((rd_T73 l0 x5_1).f1) ((rd_T73 l0 x5_1).f2) ((rd_T73 l0 x5_1).f3) ((rd_T73 l0 x5_1).f4) ((rd_T73 l0 x5_1).f5) ((rd_T73 l0 x5_1).f6) ((rd_T73 l0 x5_1).f7) ((rd_T73 l1 x5_1).f0) ((rd_T73 l1 x5_1).f1) ((rd_T73 l1 x5_1).f2) ((rd_T73 l1 x5_1).f3) ((rd_T73 l1 x5_1).f4) ((rd_T73 l1 x5_1).f5) ((rd_T73 l1 x5_1).f6) ((rd_T73 l1 x5_1).f7) true _ A7.out).mono ?_); rintro e w10 ⟨rfl, hb⟩; refine ⟨_, rfl, ?_⟩; replace HB := Aside0.mk (below_step (bs HB) hb); (try clear hb); (try clear hb2); (try clear hk); (try clear hi); refine hK.out _ _ ⟨((cb HB hw260_0).trans rfl), ((cb HB hw260_1).trans rfl), ((cb HB hw260_2).trans rfl), ((cb HB hw260_3).trans rfl), ((cb HB hw260_4).trans rfl), ((cb HB hw260_5).trans rfl), ((cb HB hw260_6).trans rfl), ((cb HB hw260_7).trans rfl), ((cb HB hw261_0).trans rfl), ((cb HB hw261_1).trans rfl), ((cb HB hw261_2).trans rfl), ((cb HB hw261_3).trans rfl), ((cb HB hw261_4).trans rfl), ((cb HB hw261_5).trans rfl), ((cb HB hw261_6).trans rfl), ((cb HB hw261_7).trans rfl)⟩ (fun hHeld => ?_); clear hK K; refine nA 25 ?_; refine pA 9 26 HT_ ?_; refine done_ (done_of HT_.out (by kernel_rfl)) ?_
                try go_wp2
                go_roundg k1
                case measure => have := HK1.out; omega
                case rel => exact ⟨(wrap64 (x5_1 + 1)), fg, H', ⟨by have := HK1.out; omega⟩, ⟨bs HB⟩⟩
              · replace c8 := Bool.eq_false_iff.mpr c8; subst c8
                have H1 : (some false) = some r := by rw [if_neg (show ¬ (false = true) by decide)] at H; exact H
                clear H; have H := H1; clear H1; obtain rfl := Option.some.inj H
                try go_wp2
                replace HB := Aside0.mk (below_drew1 HB.out); have p260 : 0 ≤ (x5_1 : Int) := oa; have q260 : x5_1 < (l0.length : Int) := oa; obtain ⟨ad260, e260, hx260_0, hx260_1, hx260_2, hx260_3, hx260_4, hx260_5, hx260_6, hx260_7⟩ := at_T73 HR0.out x5_1 p260 q260; have hw260_7 := hx260_7; have hw260_6 := hx260_6; have hw260_5 := hx260_5; have hw260_4 := hx260_4; have hw260_3 := hx260_3; have hw260_2 := hx260_2; have hw260_1 := hx260_1; have hw260_0 := hx260_0
                cases e260
                replace hx260_0 := cb HB hx260_0; replace hx260_1 := cb HB hx260_1; replace hx260_2 := cb HB hx260_2; replace hx260_3 := cb HB hx260_3; replace hx260_4 := cb HB hx260_4; replace hx260_5 := cb HB hx260_5; replace hx260_6 := cb HB hx260_6; replace hx260_7 := cb HB hx260_7; replace p260 := eq_true p260; replace q260 := eq_true q260; have p261 : 0 ≤ (x5_1 : Int) := oa; have q261 : x5_1 < (l1.length : Int) := oa; obtain ⟨ad261, e261, hx261_0, hx261_1, hx261_2, hx261_3, hx261_4, hx261_5, hx261_6, hx261_7⟩ := at_T73 HR1.out x5_1 p261 q261; have hw261_7 := hx261_7; have hw261_6 := hx261_6; have hw261_5 := hx261_5; have hw261_4 := hx261_4; have hw261_3 := hx261_3; have hw261_2 := hx261_2; have hw261_1 := hx261_1; have hw261_0 := hx261_0
                cases e261
                replace hx261_0 := cb HB hx261_0; replace hx261_1 := cb HB hx261_1; replace hx261_2 := cb HB hx261_2; replace hx261_3 := cb HB hx261_3; replace hx261_4 := cb HB hx261_4; replace hx261_5 := cb HB hx261_5; replace hx261_6 := cb HB hx261_6; replace hx261_7 := cb HB hx261_7; replace p261 := eq_true p261; replace q261 := eq_true q261; refine start_ (n := 10) (S := fun w' => w'.cell? (ad260.add ((x5_1).toNat * 8)) = some (.string ((rd_T73 l0 x5_1).f0)) ∧ w'.cell? ⟨(ad260.add ((x5_1).toNat * 8)).block, (ad260.add ((x5_1).toNat * 8)).off + 1, none⟩ = some (.string ((rd_T73 l0 x5_1).f1)) ∧ w'.cell? ⟨(ad260.add ((x5_1).toNat * 8)).block, (ad260.add ((x5_1).toNat * 8)).off + 2, none⟩ = some (.int .i64 ((rd_T73 l0 x5_1).f2)) ∧ w'.cell? ⟨(ad260.add ((x5_1).toNat * 8)).block, (ad260.add ((x5_1).toNat * 8)).off + 3, none⟩ = some (.string ((rd_T73 l0 x5_1).f3)) ∧ w'.cell? ⟨(ad260.add ((x5_1).toNat * 8)).block, (ad260.add ((x5_1).toNat * 8)).off + 4, none⟩ = some (.int .i64 ((rd_T73 l0 x5_1).f4)) ∧ w'.cell? ⟨(ad260.add ((x5_1).toNat * 8)).block, (ad260.add ((x5_1).toNat * 8)).off + 5, none⟩ = some (.int .i64 ((rd_T73 l0 x5_1).f5)) ∧ w'.cell? ⟨(ad260.add ((x5_1).toNat * 8)).block, (ad260.add ((x5_1).toNat * 8)).off + 6, none⟩ = some (.int .i64 ((rd_T73 l0 x5_1).f6)) ∧ w'.cell? ⟨(ad260.add ((x5_1).toNat * 8)).block, (ad260.add ((x5_1).toNat * 8)).off + 7, none⟩ = some (.int .i64 ((rd_T73 l0 x5_1).f7)) ∧ w'.cell? (ad261.add ((x5_1).toNat * 8)) = some (.string ((rd_T73 l1 x5_1).f0)) ∧ w'.cell? ⟨(ad261.add ((x5_1).toNat * 8)).block, (ad261.add ((x5_1).toNat * 8)).off + 1, none⟩ = some (.string ((rd_T73 l1 x5_1).f1)) ∧ w'.cell? ⟨(ad261.add ((x5_1).toNat * 8)).block, (ad261.add ((x5_1).toNat * 8)).off + 2, none⟩ = some (.int .i64 ((rd_T73 l1 x5_1).f2)) ∧ w'.cell? ⟨(ad261.add ((x5_1).toNat * 8)).block, (ad261.add ((x5_1).toNat * 8)).off + 3, none⟩ = some (.string ((rd_T73 l1 x5_1).f3)) ∧ w'.cell? ⟨(ad261.add ((x5_1).toNat * 8)).block, (ad261.add ((x5_1).toNat * 8)).off + 4, none⟩ = some (.int .i64 ((rd_T73 l1 x5_1).f4)) ∧ w'.cell? ⟨(ad261.add ((x5_1).toNat * 8)).block, (ad261.add ((x5_1).toNat * 8)).off + 5, none⟩ = some (.int .i64 ((rd_T73 l1 x5_1).f5)) ∧ w'.cell? ⟨(ad261.add ((x5_1).toNat * 8)).block, (ad261.add ((x5_1).toNat * 8)).off + 6, none⟩ = some (.int .i64 ((rd_T73 l1 x5_1).f6)) ∧ w'.cell? ⟨(ad261.add ((x5_1).toNat * 8)).block, (ad261.add ((x5_1).toNat * 8)).off + 7, none⟩ = some (.int .i64 ((rd_T73 l1 x5_1).f7))) (ds := []) #[false, false, false, false, false, false, false, false, false, false] (by kernel_rfl) rfl rfl ⟨((cb HB hw260_0).trans rfl), ((cb HB hw260_1).trans rfl), ((cb HB hw260_2).trans rfl), ((cb HB hw260_3).trans rfl), ((cb HB hw260_4).trans rfl), ((cb HB hw260_5).trans rfl), ((cb HB hw260_6).trans rfl), ((cb HB hw260_7).trans rfl), ((cb HB hw261_0).trans rfl), ((cb HB hw261_1).trans rfl), ((cb HB hw261_2).trans rfl), ((cb HB hw261_3).trans rfl), ((cb HB hw261_4).trans rfl), ((cb HB hw261_5).trans rfl), ((cb HB hw261_6).trans rfl), ((cb HB hw261_7).trans rfl)⟩ (fun hHeld => ?_); refine with_tabW laws_eqOrderLineS.tab6 laws_eqOrderLineS.bits6 (fun HT_ HW_ => ?_)
                generalize wr.drew = w11 at HB hx260_0 hx260_1 hx260_2 hx260_3 hx260_4 hx260_5 hx260_6 hx260_7 hx261_0 hx261_1 hx261_2 hx261_3 hx261_4 hx261_5 hx261_6 hx261_7 hHeld ⊢
                refine pA 0 17 HT_ ?_; refine pA 1 18 HT_ ?_; refine pA 2 19 HT_ ?_; refine pA 4 21 HT_ ?_; refine pA 5 22 HT_ ?_; refine pA 6 23 HT_ ?_; refine tA 3 20 HT_ HW_ hHeld ?_; refine tA 7 24 HT_ HW_ hHeld ?_; refine oA 8 25 HT_ (fun K hK => ?_); refine gA Try.func87 #[.agg #[.string ((rd_T73 l0 x5_1).f0), .string ((rd_T73 l0 x5_1).f1), .int .i64 ((rd_T73 l0 x5_1).f2), .string ((rd_T73 l0 x5_1).f3), .int .i64 ((rd_T73 l0 x5_1).f4), .int .i64 ((rd_T73 l0 x5_1).f5), .int .i64 ((rd_T73 l0 x5_1).f6), .int .i64 ((rd_T73 l0 x5_1).f7)], .agg #[.string ((rd_T73 l1 x5_1).f0), .string ((rd_T73 l1 x5_1).f1), .int .i64 ((rd_T73 l1 x5_1).f2), .string ((rd_T73 l1 x5_1).f3), .int .i64 ((rd_T73 l1 x5_1).f4), .int .i64 ((rd_T73 l1 x5_1).f5), .int .i64 ((rd_T73 l1 x5_1).f6), .int .i64 ((rd_T73 l1 x5_1).f7)]] ?_; (with_reducible refine (laws_eqOrderLine.calls ((rd_T73 l0 x5_1).f0) ((rd_T73 l0 x5_1).f1) ((rd_T73 l0 x5_1).f2) ((rd_T73 l0 x5_1).f3) ((rd_T73 l0 x5_1).f4) ((rd_T73 l0 x5_1).f5) ((rd_T73 l0 x5_1).f6) ((rd_T73 l0 x5_1).f7) ((rd_T73 l1 x5_1).f0) ((rd_T73 l1 x5_1).f1) ((rd_T73 l1 x5_1).f2) ((rd_T73 l1 x5_1).f3) ((rd_T73 l1 x5_1).f4) ((rd_T73 l1 x5_1).f5) ((rd_T73 l1 x5_1).f6) ((rd_T73 l1 x5_1).f7) false _ A7.out).mono ?_); rintro e w12 ⟨rfl, hb⟩; refine ⟨_, rfl, ?_⟩; replace HB := Aside0.mk (below_step (bs HB) hb); (try clear hb); (try clear hb2); (try clear hk); (try clear hi); refine hK.out _ _ ⟨((cb HB hw260_0).trans rfl), ((cb HB hw260_1).trans rfl), ((cb HB hw260_2).trans rfl), ((cb HB hw260_3).trans rfl), ((cb HB hw260_4).trans rfl), ((cb HB hw260_5).trans rfl), ((cb HB hw260_6).trans rfl), ((cb HB hw260_7).trans rfl), ((cb HB hw261_0).trans rfl), ((cb HB hw261_1).trans rfl), ((cb HB hw261_2).trans rfl), ((cb HB hw261_3).trans rfl), ((cb HB hw261_4).trans rfl), ((cb HB hw261_5).trans rfl), ((cb HB hw261_6).trans rfl), ((cb HB hw261_7).trans rfl)⟩ (fun hHeld => ?_); clear hK K; refine nA 25 ?_; refine pA 9 26 HT_ ?_; refine done_ (done_of HT_.out (by kernel_rfl)) ?_
                try go_wp2
                go_ret
                exact ⟨ff, bs HB⟩
            · rw [if_neg c6] at H
              exact absurd H (by simp)
          · rw [if_neg c5] at H
            exact absurd H (by simp)
        · rw [if_neg c4] at H; have c4b0 : decide (x5_1 < (l0.length : Int)) = false := decide_eq_false c4; clear c4; obtain rfl := Option.some.inj H
          go_wp2
          go_ret
          exact ⟨ff, bs HB⟩
  · rw [if_neg c3] at H; have c3b0 : ((l0.length : Int) == (l1.length : Int)) = false := beq_eq_false_iff_ne.mpr c3; have c3b1 : ((l0.length : Int) != (l1.length : Int)) = true := bne_iff_ne.mpr c3
    have c3b2 : (l0.length == l1.length) = false := by first | simpa using c3 | (simp at c3 ⊢; omega)
    obtain rfl := Option.some.inj H
    go_enter Try.func47, Try.ntmps47
    go_wp2
    go_ret
    exact ⟨ff, bs HB⟩
end Go.Proofs.Ytjjfjgdhloideaa.QH
namespace Go.Proofs.Ytjjfjgdhloideaa.QH
open Go.RowKit Go.Proofs.YtjjfjgdhloideaaW.PrintWords Go.Proofs.YtjjfjgdhloideaaW.PrintLast Go.Proofs.YtjjfjgdhloideaaW.PrintMore
attribute [local go_sem] max2_int min2_int max_two min_two max_three min_three max_four min_four   -- for this text's walks alone
set_option linter.unusedVariables false
set_option linter.unusedSimpArgs false
set_option maxHeartbeats 8000000 in
set_option maxRecDepth 100000 in
theorem laws_eqBook.calls (k : Nat) (A0_0 : Option Addr) (c0_0 : Nat) (l0_0 : List (S71)) (A0_1 : Option Addr) (c0_1 : Nat) (l0_1 : List (S73)) (A1_0 : Option Addr) (c1_0 : Nat) (l1_0 : List (S71)) (A1_1 : Option Addr) (c1_1 : Nat) (l1_1 : List (S73)) (r : Bool) (w : World) (hr0_0 : Kd.C k71 w A0_0 l0_0.length l0_0) (hc0_0 : l0_0.length ≤ c0_0) (hr0_1 : Kd.C k73 w A0_1 l0_1.length l0_1) (hc0_1 : l0_1.length ≤ c0_1) (hr1_0 : Kd.C k71 w A1_0 l1_0.length l1_0) (hc1_0 : l1_0.length ≤ c1_0) (hr1_1 : Kd.C k73 w A1_1 l1_1.length l1_1) (hc1_1 : l1_1.length ≤ c1_1) (h : laws_eqBook.f k l0_0 l0_1 l1_0 l1_1 = some r) :
    Calls Try.prog 16 #[.agg #[.slice A0_0 l0_0.length c0_0, .slice A0_1 l0_1.length c0_1], .agg #[.slice A1_0 l1_0.length c1_0, .slice A1_1 l1_1.length c1_1]] w fun e w' => e = .returned (.bool r) ∧ Below w.heap.size w w' := by
  have hu27 := Try.underlying27; have HR0_0 := Aside0.mk hr0_0; have HC0_0 := Aside0.mk hc0_0; clear hr0_0 hc0_0; have HR0_1 := Aside0.mk hr0_1; have HC0_1 := Aside0.mk hc0_1; clear hr0_1 hc0_1; have HR1_0 := Aside0.mk hr1_0; have HC1_0 := Aside0.mk hc1_0; clear hr1_0 hc1_0; have HR1_1 := Aside0.mk hr1_1; have HC1_1 := Aside0.mk hc1_1; clear hr1_1 hc1_1; have HB := Aside0.mk (Below.refl w.heap.size w); have H : ((laws_eqStockS.f k l0_0 l1_0).bind fun t265 => (if t265 = true then ((laws_eqOrderLineS.f k l0_1 l1_1).bind fun t266 => (if t266 = true then (some true) else (some false))) else (some false))) = some r := h; clear h; replace H := Option.bind_eq_some_iff.mp H; obtain ⟨t265, A30, H⟩ := H; replace H : (if t265 = true then ((laws_eqOrderLineS.f k l0_1 l1_1).bind fun t266 => (if t266 = true then (some true) else (some false))) else (some false)) = some r := H; have A3 := Aside0.mk A30; clear A30
  go_enter Try.func16, Try.ntmps16
  try go_wp2_with (first | ((with_reducible refine gate_dst (N := 2) rfl ?_); refine bx 2 (cs := #[.slice A0_0 l0_0.length c0_0, .slice A0_1 l0_1.length c0_1]) (t := 27) ?_; intro gb263 hg w4 hbox hb; have BK263 := Aside0.mk (hbox); have GW263 := Aside0.mk ((gs hg (bs HB))); have GE263 := Aside0.mk ((gs hg (bs HB))); replace HB := Aside0.mk (below_step (bs HB) hb); clear hb hbox hg) | ((with_reducible refine gate_dst (N := 3) rfl ?_); refine bx 3 (cs := #[.slice A1_0 l1_0.length c1_0, .slice A1_1 l1_1.length c1_1]) (t := 27) ?_; intro gb264 hg w5 hbox hb; have BK264 := Aside0.mk (hbox); have GW264 := Aside0.mk ((gs hg (bs HB))); have GE264 := Aside0.mk ((gs hg (bs HB))); replace HB := Aside0.mk (below_step (bs HB) hb); have NB263_264 := Aside0.mk ((gn hg (ks BK263))); have NB264_263 := Aside0.mk ((gm hg (ks BK263))); replace BK263 := Aside0.mk (blk_below (ks BK263) hb); clear hb hbox hg; have hnb6 := NB263_264.out; have hnc6 := NB264_263.out; obtain ⟨hcz7_0, hcz7_1, hfz7_0, hfz7_1⟩ := cf2 BK263; obtain ⟨hcz8_0, hcz8_1, hfz8_0, hfz8_1⟩ := cf2 BK264))
  go_at_call 46; (with_reducible refine (laws_eqStockS.calls k _ _ l0_0 _ _ l1_0 t265 _ (Kd.C_below HR0_0.out (bs HB)) HC0_0.out (Kd.C_below HR1_0.out (bs HB)) HC1_0.out A3.out).mono ?_); rintro e w9 ⟨rfl, hb⟩; replace BK263 := Aside0.mk (blk_below (ks BK263) hb); replace BK264 := Aside0.mk (blk_below (ks BK264) hb); replace HB := Aside0.mk (below_step (bs HB) hb); (try clear hb); (try clear hb2); (try clear hk); (try clear hi)
  by_cases c10 : t265 = true
  · subst c10
    have H1 : ((laws_eqOrderLineS.f k l0_1 l1_1).bind fun t266 => (if t266 = true then (some true) else (some false))) = some r := by rw [if_pos rfl] at H; exact H
    clear H; have H := H1; clear H1; replace H := Option.bind_eq_some_iff.mp H; obtain ⟨t266, A110, H⟩ := H; replace H : (if t266 = true then (some true) else (some false)) = some r := H; have A11 := Aside0.mk A110; clear A110; have hnb12 := NB263_264.out; have hnc12 := NB264_263.out; obtain ⟨hcz13_0, hcz13_1, hfz13_0, hfz13_1⟩ := cf2 BK263; obtain ⟨hcz14_0, hcz14_1, hfz14_0, hfz14_1⟩ := cf2 BK264
    try go_wp2_with (fail)
    go_at_call 47; (with_reducible refine (laws_eqOrderLineS.calls k _ _ l0_1 _ _ l1_1 t266 _ (Kd.C_below HR0_1.out (bs HB)) HC0_1.out (Kd.C_below HR1_1.out (bs HB)) HC1_1.out A11.out).mono ?_); rintro e w15 ⟨rfl, hb⟩; replace BK263 := Aside0.mk (blk_below (ks BK263) hb); replace BK264 := Aside0.mk (blk_below (ks BK264) hb); replace HB := Aside0.mk (below_step (bs HB) hb); (try clear hb); (try clear hb2); (try clear hk); (try clear hi)
    by_cases c16 : t266 = true
    · subst c16
      have H1 : (some true) = some r := by rw [if_pos rfl] at H; exact H
      clear H; have H := H1; clear H1; obtain rfl := Option.some.inj H
      go_wp2
      go_ret
      exact ⟨ff, bs HB⟩
    · replace c16 := Bool.eq_false_iff.mpr c16; subst c16
      have H1 : (some false) = some r := by rw [if_neg (show ¬ (false = true) by decide)] at H; exact H
      clear H; have H := H1; clear H1; obtain rfl := Option.some.inj H
      go_wp2
      go_ret
      exact ⟨ff, bs HB⟩
  · replace c10 := Bool.eq_false_iff.mpr c10; subst c10
    have H1 : (some false) = some r := by rw [if_neg (show ¬ (false = true) by decide)] at H; exact H
    clear H; have H := H1; clear H1; obtain rfl := Option.some.inj H
    go_wp2
    go_ret
    exact ⟨ff, bs HB⟩
set_option maxHeartbeats 8000000 in
set_option maxRecDepth 100000 in
theorem laws_markText.calls (k : Nat) (a0 : Int) (r : ByteArray) (w : World) (h : laws_markText.f k a0 = some r) :
    Calls Try.prog 50 #[.int .i64 a0] w fun e w' => e = .returned (.string r) ∧ Below w.heap.size w w' := by
  have HB := Aside0.mk (Below.refl w.heap.size w); have H : (if a0 ≤ 0 then (some (⟨#[109, 48]⟩ : ByteArray)) else (laws_markText.l0 k a0 (⟨#[]⟩ : ByteArray))) = some r := h; clear h
  by_cases c2 : a0 ≤ 0
  · rw [if_pos c2] at H; have c2b0 : decide (a0 ≤ 0) = true := decide_eq_true c2; clear c2; obtain rfl := Option.some.inj H
    go_enter Try.func50, Try.ntmps50
    go_wp2
    go_ret
    exact ⟨ff, bs HB⟩
  · rw [if_neg c2] at H; have c2b0 : decide (a0 ≤ 0) = false := decide_eq_false c2; clear c2; have H' := Aside0.mk H; clear H
    go_enter Try.func50, Try.ntmps50
    go_wp2
    go_loopg [0, 3] k (fun kq v0 v3 w' => ∃ (x0_1 : Int) (x3_1 : ByteArray), v0 = .int .i64 x0_1 ∧ v3 = .string x3_1 ∧ Aside0 (laws_markText.l0 kq x0_1 x3_1 = some r) ∧ Aside0 (kq ≤ k) ∧ Aside0 (Below w.heap.size w w'))
    case atStart => exact ⟨(a0), ((⟨#[]⟩ : ByteArray)), fg, fg, H', ⟨Nat.le_refl _⟩, ⟨bs HB⟩⟩
    case round =>
      clear H'
      try clear c2
      try clear c2b0
      try clear p2
      obtain ⟨x0_1, x3_1, rfl, rfl, HA, HK1, HB⟩ := hrel
      cases gk with
      | zero => exact absurd HA.out (by simp [laws_markText.l0])
      | succ k1 =>
        have H := HA.out; clear HA; simp only [laws_markText.l0] at H
        by_cases c3 : x0_1 > 0
        · rw [if_pos c3] at H; have c3b0 : decide (0 < x0_1) = true := decide_eq_true c3; clear c3; obtain ⟨y267, hy267⟩ : ∃ y_ : List Int, y_ = (([(wrap64 (48 + (Int.tmod x0_1 10))) % 256] : List Int)) := ⟨_, rfl⟩
          replace H : (if (strOfNums y267).size + x3_1.size ≤ 9223372036854775807 then (laws_markText.l0 k1 (wrap64 (Int.tdiv x0_1 10)) ((strOfNums y267) ++ x3_1)) else (none)) = some r := by first | (rw [hy267]; with_reducible exact H) | (have H2_ := (Option.bind_some _ _).symm.trans H; rw [hy267]; with_reducible exact H2_) | (have H2_ := (Option.bind_some _ _).symm.trans H; with_reducible exact H2_) | with_reducible exact H | (rw [hy267]; exact H) | exact H
          have Ny267 := Aside0.mk hy267; clear hy267
          by_cases c4 : (strOfNums y267).size + x3_1.size ≤ 9223372036854775807
          · rw [if_pos c4] at H; have c4b0 := eq_true c4; have c4b1 : decide ((strOfNums y267).size + x3_1.size ≤ 9223372036854775807) = true := decide_eq_true c4
            try have c4b2 : (9223372036854775807 < (strOfNums y267).size + x3_1.size) = False := eq_false (Nat.not_lt.2 c4)
            have H' := Aside0.mk H; clear H
            go_wp2_with (first | ((with_reducible refine gate_dst (N := 12) rfl ?_); refine Kd.R_lit (Kd.int .u8) _ 5 ?hg (N := 12) ?hd (xs := ([(wrap64 (48 + (Int.tmod x0_1 10))) % 256] : List Int)) (inner := [.int .u8 ((wrap64 (48 + (Int.tmod x0_1 10))) % 256)]) (ok := fun _ => True) (okp := fun _ => True) ?hr ?hp (fun _ hk => hk) trivial (Below.refl _ _) (Nat.le_refl _) (by simp) ?_; (case hd => rfl); (case hg => rfl); (case hr => first | (go_simp; done) | (go_simp; rfl)); (case hp => exact (Reps.one (show Kd.M (Kd.int .u8) _ _ _ ((wrap64 (48 + (Int.tmod x0_1 10))) % 256) [.int .u8 ((wrap64 (48 + (Int.tmod x0_1 10))) % 256)] from rfl) (Reps.none _ _))); intro v268 w5 ho6 hb hg_ hnew_; clear hg_ hnew_; (first | rw [← Ny267.out] at ho6 | (simp only [Int.reduceToNat] at ho6; rw [← Ny267.out] at ho6)); have HO269 := Aside0.mk (Kd.R_lower ho6 (below_size (bs HB))); replace HB := Aside0.mk (below_step (bs HB) hb); clear hb ho6; have hcv7 := own_string (P := Try.prog) Try.underlying122 Try.underlying5 Try.underlying9 (Kd.own_of_R HO269.out)))
            go_roundg k1
            case measure => have := HK1.out; omega
            case rel => exact ⟨(wrap64 (Int.tdiv x0_1 10)), ((strOfNums y267) ++ x3_1), fg, fg, H', ⟨by have := HK1.out; omega⟩, ⟨bs HB⟩⟩
          · rw [if_neg c4] at H
            exact absurd H (by simp)
        · rw [if_neg c3] at H; have c3b0 : decide (0 < x0_1) = false := decide_eq_false c3; clear c3
          by_cases c8 : 1 + x3_1.size ≤ 9223372036854775807
          · rw [if_pos c8] at H; have c8b0 := eq_true c8; have c8b1 : decide (1 + x3_1.size ≤ 9223372036854775807) = true := decide_eq_true c8
            try have c8b2 : (9223372036854775807 < 1 + x3_1.size) = False := eq_false (Nat.not_lt.2 c8)
            obtain rfl := Option.some.inj H
            go_wp2
            go_ret
            exact ⟨ff, bs HB⟩
          · rw [if_neg c8] at H
            exact absurd H (by simp)
end Go.Proofs.Ytjjfjgdhloideaa.QH

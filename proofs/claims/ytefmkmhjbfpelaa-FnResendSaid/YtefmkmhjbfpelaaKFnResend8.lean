-- Merged by a program of this session (wip/tool/pack.py) out of its own texts for this claim.
import Derived.Test.YtefmkmhjbfpelaaKFnResend0
import Derived.Test.YtefmkmhjbfpelaaKFnResend1
import Derived.Test.YtefmkmhjbfpelaaKFnResend2
import Derived.Test.YtefmkmhjbfpelaaKFnResend3
import Derived.Test.YtefmkmhjbfpelaaKFnResend4
import Derived.Test.YtefmkmhjbfpelaaKFnResend7
namespace Go.Proofs.Ytefmkmhjbfpelaa.QO
open Go.RowKit Go.Proofs.YtefmkmhjbfpelaaW.PrintWords Go.Proofs.YtefmkmhjbfpelaaW.PrintLast Go.Proofs.YtefmkmhjbfpelaaW.PrintMore
attribute [local go_sem] max2_int min2_int max_two min_two max_three min_three max_four min_four   -- for this text's walks alone
set_option linter.unusedVariables false
set_option linter.unusedSimpArgs false
set_option maxHeartbeats 8000000 in
set_option maxRecDepth 100000 in
theorem impl_OutboxTick.calls (k : Nat) (A0 : Option Addr) (c0 : Nat) (l0 : List (S24)) (a1 : Int) (r1 : List (S24)) (r2 : List (S105)) (r3 : List (S24)) (r4 : Int) (w : World) (hr0 : Kd.C k24 w A0 l0.length l0) (hc0 : l0.length ≤ c0) (h : impl_OutboxTick.f k l0 a1 = some (r1, r2, r3, r4)) :
    Calls Try.prog 20 #[.slice A0 l0.length c0, .int .i64 a1] w fun e w' => ∃ v0_ v1_ v2_ : Value, e = .returned (.agg #[v0_, v1_, v2_, .int .i64 r4]) ∧ Kd.R k24 24 w' w.heap.size (fun k_ => some k_ ≠ (v2_ : Value).ownBlock) v0_ r1 ∧ Kd.R k105 105 w' w.heap.size (fun _ => True) v1_ r2 ∧ Kd.R k24 24 w' w.heap.size (fun k_ => some k_ ≠ (v0_ : Value).ownBlock) v2_ r3 ∧ Below w.heap.size w w' := by
  have hu34 := Try.underlying34; have hu24 := Try.underlying24; have hu105 := Try.underlying105; have HR0 := Aside0.mk hr0; have HC0 := Aside0.mk hc0; clear hr0 hc0; have HB := Aside0.mk (Below.refl w.heap.size w); have H : ((impl_outboxCode.f k l0).bind fun t768 => (if t768 = 0 then ((impl_isDay.f a1).bind fun t769 => (if t769 = true then (impl_OutboxTick.l0 k a1 l0 (l0.length : Int) 0 ([] : List (S24)) ([] : List (S105)) ([] : List (S24)) 0) else (some (([] : List (S24)), ([] : List (S105)), ([] : List (S24)), 1)))) else (some (([] : List (S24)), ([] : List (S105)), ([] : List (S24)), t768)))) = some (r1, r2, r3, r4) := h; clear h; replace H := Option.bind_eq_some_iff.mp H; obtain ⟨t768, A30, H⟩ := H; replace H : (if t768 = 0 then ((impl_isDay.f a1).bind fun t769 => (if t769 = true then (impl_OutboxTick.l0 k a1 l0 (l0.length : Int) 0 ([] : List (S24)) ([] : List (S105)) ([] : List (S24)) 0) else (some (([] : List (S24)), ([] : List (S105)), ([] : List (S24)), 1)))) else (some (([] : List (S24)), ([] : List (S105)), ([] : List (S24)), t768))) = some (r1, r2, r3, r4) := H; have A3 := Aside0.mk A30; clear A30
  go_enter Try.func20, Try.ntmps20
  try go_wp2_with (first | ((with_reducible refine gate_dst (N := 4) rfl ?_); refine bx 4 (cs := #[.slice none 0 0, .slice none 0 0, .slice none 0 0, .int .i64 0]) (t := 34) ?_; intro gb767 hg w4 hbox hb; have BK767 := Aside0.mk (hbox); have GW767 := Aside0.mk ((gs hg (bs HB))); have GE767 := Aside0.mk ((gs hg (bs HB))); replace HB := Aside0.mk (below_step (bs HB) hb); clear hb hbox hg))
  go_at_call 80; (with_reducible refine (impl_outboxCode.calls k _ _ l0 t768 _ (Kd.C_below HR0.out (bs HB)) HC0.out A3.out).mono ?_); rintro e w5 ⟨rfl, hb⟩; replace BK767 := Aside0.mk (blk_below (ks BK767) hb); replace HB := Aside0.mk (below_step (bs HB) hb); (try clear hb); (try clear hb2); (try clear hk); (try clear hi)
  by_cases c6 : t768 = 0
  · rw [if_pos c6] at H; have c6b0 : (t768 == 0) = true := beq_iff_eq.mpr c6; have c6b1 : (t768 != 0) = false := bne_eq_false_iff_eq.mpr c6; clear c6; replace H := Option.bind_eq_some_iff.mp H; obtain ⟨t769, A70, H⟩ := H; replace H : (if t769 = true then (impl_OutboxTick.l0 k a1 l0 (l0.length : Int) 0 ([] : List (S24)) ([] : List (S105)) ([] : List (S24)) 0) else (some (([] : List (S24)), ([] : List (S105)), ([] : List (S24)), 1))) = some (r1, r2, r3, r4) := H; have A7 := Aside0.mk A70; clear A70
    try go_wp2_with (fail)
    go_at_call 73; (with_reducible refine (impl_isDay.calls a1 t769 _ A7.out).mono ?_); rintro e w' ⟨rfl, ⟨nd, rfl⟩⟩
    by_cases c8 : t769 = true
    · subst c8
      have H1 : (impl_OutboxTick.l0 k a1 l0 (l0.length : Int) 0 ([] : List (S24)) ([] : List (S105)) ([] : List (S24)) 0) = some (r1, r2, r3, r4) := by rw [if_pos rfl] at H; exact H
      clear H; have H := H1; clear H1; have H' := Aside0.mk H; clear H
      go_wp2_with (first | ((with_reducible refine gate_dst (N := 6) rfl ?_); refine bx 6 (cs := #[.slice none 0 0, .slice none 0 0, .slice none 0 0, .int .i64 0]) (t := 34) ?_; intro gb770 hg w9 hbox hb; have BK770 := Aside0.mk (hbox); have GW770 := Aside0.mk ((gs hg (bs HB))); have GE770 := Aside0.mk ((gs hg (bs HB))); replace HB := Aside0.mk (below_step (bs HB) hb); have NB767_770 := Aside0.mk ((gn hg (ks BK767))); have NB770_767 := Aside0.mk ((gm hg (ks BK767))); replace BK767 := Aside0.mk (blk_below (ks BK767) hb); clear hb hbox hg; have hnb10 := NB770_767.out; have hnc10 := NB767_770.out; obtain ⟨hcz11_0, hcz11_1, hcz11_2, hcz11_3, hfz11_0, hfz11_1, hfz11_2, hfz11_3⟩ := cf4 BK770))
      go_loopg [22] k (fun kq v22 w' => ∃ (x22_1 : Int) (x771000_1 : List (S24)) (x771001_1 : List (S105)) (x771002_1 : List (S24)) (u771000 : Value) (u771001 : Value) (u771002 : Value), v22 = .int .i64 x22_1 ∧ Aside0 (impl_OutboxTick.l0 kq a1 l0 (l0.length : Int) x22_1 x771000_1 x771001_1 x771002_1 0 = some (r1, r2, r3, r4)) ∧ Aside0 (kq ≤ k) ∧ Aside0 (Kd.R k24 24 w' w.heap.size (fun k_ => some k_ ≠ (u771002 : Value).ownBlock) u771000 x771000_1) ∧ Aside0 (Kd.R k105 105 w' w.heap.size (fun _ => True) u771001 x771001_1) ∧ Aside0 (Kd.R k24 24 w' w.heap.size (fun k_ => some k_ ≠ (u771000 : Value).ownBlock) u771002 x771002_1) ∧ Aside0 (w'.heap[gb767]? = some (.cells #[(.slice none 0 0), (.slice none 0 0), (.slice none 0 0), .int .i64 0] 34 (0, 0))) ∧ Aside0 (w'.heap[gb770]? = some (.cells #[u771000, u771001, u771002, .int .i64 0] 34 (0, 0))) ∧ Aside0 (Below w.heap.size w w'))
      case atStart => exact ⟨(0), (([] : List (S24))), (([] : List (S105))), (([] : List (S24))), (.slice none 0 0), (.slice none 0 0), (.slice none 0 0), fg, H', ⟨Nat.le_refl _⟩, ⟨by first | exact Kd.R_nil _ _ _ _ _ | exact Kd.N_nil _ _ _ _ _ | exact Kd.V_nil _ _ _ _ _ | exact Kd.Q_nil _ _ _ _ _ | exact Kd.S_nil _ _ _ _ _⟩, ⟨by first | exact Kd.R_nil _ _ _ _ _ | exact Kd.N_nil _ _ _ _ _ | exact Kd.V_nil _ _ _ _ _ | exact Kd.Q_nil _ _ _ _ _ | exact Kd.S_nil _ _ _ _ _⟩, ⟨by first | exact Kd.R_nil _ _ _ _ _ | exact Kd.N_nil _ _ _ _ _ | exact Kd.V_nil _ _ _ _ _ | exact Kd.Q_nil _ _ _ _ _ | exact Kd.S_nil _ _ _ _ _⟩, ⟨ks BK767⟩, ⟨kp BK770⟩, ⟨bs HB⟩⟩
      case round =>
        clear H'
        try clear c1
        try clear c2
        try clear p2
        try clear c6
        try clear c6b0
        try clear c6b1
        try clear c8
        try clear c10
        try clear hcz11_0
        try clear hcz11_1
        try clear hcz11_2
        try clear hcz11_3
        try clear hfz11_0
        try clear hfz11_1
        try clear hfz11_2
        try clear hfz11_3
        obtain ⟨x22_1, x771000_1, x771001_1, x771002_1, u771000, u771001, u771002, rfl, HA, HK1, HO_771000, HO_771001, HO_771002, BK767, BK770, HB⟩ := hrel
        cases gk with
        | zero => exact absurd HA.out (by simp [impl_OutboxTick.l0])
        | succ k1 =>
          have H := HA.out; clear HA; simp only [impl_OutboxTick.l0] at H
          by_cases c12 : x22_1 < (l0.length : Int)
          · rw [if_pos c12] at H; have c12b0 : decide (x22_1 < (l0.length : Int)) = true := decide_eq_true c12; clear c12
            by_cases c13 : 0 ≤ x22_1
            · rw [if_pos c13] at H; have c13b0 : decide (0 ≤ x22_1) = true := decide_eq_true c13; clear c13
              by_cases c14 : x22_1 < (l0.length : Int)
              · rw [if_pos c14] at H; have c14b0 : decide (x22_1 < (l0.length : Int)) = true := decide_eq_true c14; clear c14; have HC15 := Aside0.mk H; clear H; have p771 : 0 ≤ (x22_1 : Int) := oa; have q771 : x22_1 < (l0.length : Int) := oa; obtain ⟨ad771, e771, hx771_0, hx771_1, hx771_2, hx771_3, hx771_4⟩ := at_T24 HR0.out x22_1 p771 q771
                cases e771
                replace hx771_0 := cb HB hx771_0; replace hx771_1 := cb HB hx771_1; replace hx771_2 := cb HB hx771_2; replace hx771_3 := cb HB hx771_3; replace hx771_4 := cb HB hx771_4; replace p771 := eq_true p771; replace q771 := eq_true q771
                go_upto_region 10 with (first | ((with_reducible refine gate_dst (N := 8) rfl ?_); refine bx 8 (cs := #[.string (⟨#[]⟩ : ByteArray), .int .i64 0, .string (⟨#[]⟩ : ByteArray), .int .i64 0, .int .i64 0]) (t := 24) ?_; intro gb772 hg w16 hbox hb; replace HO_771000 := Aside0.mk (Kd.R_below (Kd.R_elderB (rs HO_771000) gb772 (Nat.le_of_eq hg.symm)) hb); replace HO_771001 := Aside0.mk (Kd.R_below (rs HO_771001) hb); replace HO_771002 := Aside0.mk (Kd.R_below (Kd.R_elderB (rs HO_771002) gb772 (Nat.le_of_eq hg.symm)) hb); have BK772 := Aside0.mk (hbox); have GW772 := Aside0.mk ((gs hg (bs HB))); have GE772 := Aside0.mk ((gs hg (bs HB))); replace HB := Aside0.mk (below_step (bs HB) hb); have NB767_772 := Aside0.mk ((gn hg (ks BK767))); have NB772_767 := Aside0.mk ((gm hg (ks BK767))); replace BK767 := Aside0.mk (blk_below (ks BK767) hb); have NB770_772 := Aside0.mk ((gn hg (ks BK770))); have NB772_770 := Aside0.mk ((gm hg (ks BK770))); replace BK770 := Aside0.mk (blk_below (ks BK770) hb); clear hb hbox hg; have hnb17 := NB772_767.out; have hnc17 := NB767_772.out; have hnb18 := NB772_770.out; have hnc18 := NB770_772.out; obtain ⟨hcz19_0, hcz19_1, hcz19_2, hcz19_3, hcz19_4, hfz19_0, hfz19_1, hfz19_2, hfz19_3, hfz19_4⟩ := cf5 BK772))
                (try simp only [Act.put, List.setIfInBounds_toArray, List.set_cons_zero, List.set_cons_succ])
                go_cut [34] (fun v34 wc => ∃ (kq : Nat) (x34_14 : Bool), v34 = .bool x34_14 ∧ Aside0 (impl_OutboxTick.j1 kq a1 l0 (l0.length : Int) x22_1 x34_14 x771000_1 x771001_1 x771002_1 0 ((rd_T24 l0 x22_1).f0) ((rd_T24 l0 x22_1).f1) ((rd_T24 l0 x22_1).f2) ((rd_T24 l0 x22_1).f3) ((rd_T24 l0 x22_1).f4) = some (r1, r2, r3, r4)) ∧ Aside0 (kq ≤ k1) ∧ Aside0 (Kd.R k24 24 wc w.heap.size (fun k_ => some k_ ≠ (u771002 : Value).ownBlock ∧ k_ ≠ gb772) u771000 x771000_1) ∧ Aside0 (Kd.R k105 105 wc w.heap.size (fun _ => True) u771001 x771001_1) ∧ Aside0 (Kd.R k24 24 wc w.heap.size (fun k_ => some k_ ≠ (u771000 : Value).ownBlock ∧ k_ ≠ gb772) u771002 x771002_1) ∧ Aside0 (wc.heap[gb767]? = some (.cells #[(.slice none 0 0), (.slice none 0 0), (.slice none 0 0), .int .i64 0] 34 (0, 0))) ∧ Aside0 (wc.heap[gb770]? = some (.cells #[u771000, u771001, u771002, .int .i64 0] 34 (0, 0))) ∧ Aside0 (wc.heap[gb772]? = some (.cells #[.string ((rd_T24 l0 x22_1).f0), .int .i64 ((rd_T24 l0 x22_1).f1), .string ((rd_T24 l0 x22_1).f2), .int .i64 ((rd_T24 l0 x22_1).f3), .int .i64 ((rd_T24 l0 x22_1).f4)] 24 (0, 0))) ∧ Aside0 (Below w.heap.size w wc))
                case first =>
                  have H := HC15.out; clear HC15
                  by_cases c20 : ((rd_T24 l0 x22_1).f4) ≤ a1
                  · rw [if_pos c20] at H; have c20b0 : decide (((rd_T24 l0 x22_1).f4) ≤ a1) = true := decide_eq_true c20; clear c20
                    (first | rw [c20b0] | (simp only [i64_w, i32_w]; rw [c20b0]) | skip)
                    have H' := Aside0.mk H; clear H; have hnb21 := NB772_767.out; have hnc21 := NB767_772.out; have hnb22 := NB772_770.out; have hnc22 := NB770_772.out; obtain ⟨hcz23_0, hcz23_1, hcz23_2, hcz23_3, hcz23_4, hfz23_0, hfz23_1, hfz23_2, hfz23_3, hfz23_4⟩ := cf5 BK772
                    go_wp2
                    go_meet
                    case rel => exact ⟨_, ((((rd_T24 l0 x22_1).f3) == 5)), fg, H', ⟨by have := HK1.out; first | omega | exact Nat.le_refl _⟩, ⟨Kd.R_mono (rf (Kd.R_mono HO_771000.out (fun k_ hk => (⟨hk, hk.2⟩ : _ ∧ k_ ≠ gb772)))) (fun _ hk => ⟨hk.1.1, hk.1.2⟩)⟩, ⟨Kd.R_mono (rf (Kd.R_types HO_771001.out BK772.out (by decide))) (fun _ hk => trivial)⟩, ⟨Kd.R_mono (rf (Kd.R_mono HO_771002.out (fun k_ hk => (⟨hk, hk.2⟩ : _ ∧ k_ ≠ gb772)))) (fun _ hk => ⟨hk.1.1, hk.1.2⟩)⟩, ⟨ks BK767⟩, ⟨ks BK770⟩, ⟨kp BK772⟩, ⟨bs HB⟩⟩
                  · rw [if_neg c20] at H; have c20b0 : decide (((rd_T24 l0 x22_1).f4) ≤ a1) = false := decide_eq_false c20; clear c20
                    (first | rw [c20b0] | (simp only [i64_w, i32_w]; rw [c20b0]) | skip)
                    have H' := Aside0.mk H; clear H; have hnb24 := NB772_767.out; have hnc24 := NB767_772.out; have hnb25 := NB772_770.out; have hnc25 := NB770_772.out; obtain ⟨hcz26_0, hcz26_1, hcz26_2, hcz26_3, hcz26_4, hfz26_0, hfz26_1, hfz26_2, hfz26_3, hfz26_4⟩ := cf5 BK772
                    go_wp2
                    go_meet
                    case rel => exact ⟨_, (false), fg, H', ⟨by have := HK1.out; first | omega | exact Nat.le_refl _⟩, ⟨Kd.R_mono (rf (Kd.R_mono HO_771000.out (fun k_ hk => (⟨hk, hk.2⟩ : _ ∧ k_ ≠ gb772)))) (fun _ hk => ⟨hk.1.1, hk.1.2⟩)⟩, ⟨Kd.R_mono (rf (Kd.R_types HO_771001.out BK772.out (by decide))) (fun _ hk => trivial)⟩, ⟨Kd.R_mono (rf (Kd.R_mono HO_771002.out (fun k_ hk => (⟨hk, hk.2⟩ : _ ∧ k_ ≠ gb772)))) (fun _ hk => ⟨hk.1.1, hk.1.2⟩)⟩, ⟨ks BK767⟩, ⟨ks BK770⟩, ⟨kp BK772⟩, ⟨bs HB⟩⟩
                case rest =>
                  clear HC15
                  try clear c1
                  try clear c2
                  try clear p2
                  try clear c6
                  try clear c6b0
                  try clear c6b1
                  try clear p7
                  try clear q7
                  try clear hx7
                  try clear c8
                  try clear c10
                  try clear c12
                  try clear c12b0
                  try clear c13
                  try clear c13b0
                  try clear c14
                  try clear c14b0
                  try clear c17
                  try clear c18
                  try clear c20
                  try clear c20b0
                  try clear c21
                  try clear c22
                  try clear c24
                  try clear c25
                  try clear hcz11_0
                  try clear hcz11_1
                  try clear hcz11_2
                  try clear hcz11_3
                  try clear hcz19_0
                  try clear hcz19_1
                  try clear hcz19_2
                  try clear hcz19_3
                  try clear hcz19_4
                  try clear hcz23_0
                  try clear hcz23_1
                  try clear hcz23_2
                  try clear hcz23_3
                  try clear hcz23_4
                  try clear hcz26_0
                  try clear hcz26_1
                  try clear hcz26_2
                  try clear hcz26_3
                  try clear hcz26_4
                  try clear hfz11_0
                  try clear hfz11_1
                  try clear hfz11_2
                  try clear hfz11_3
                  try clear hfz19_0
                  try clear hfz19_1
                  try clear hfz19_2
                  try clear hfz19_3
                  try clear hfz19_4
                  try clear hfz23_0
                  try clear hfz23_1
                  try clear hfz23_2
                  try clear hfz23_3
                  try clear hfz23_4
                  try clear hfz26_0
                  try clear hfz26_1
                  try clear hfz26_2
                  try clear hfz26_3
                  try clear hfz26_4
                  try clear hx771_0
                  try clear hx771_1
                  try clear hx771_2
                  try clear hx771_3
                  try clear hx771_4
                  try clear p2
                  try clear p771
                  try clear q771
                  obtain ⟨kq, x34_14, rfl, HA, HJ14, HO_771000, HO_771001, HO_771002, BK767, BK770, BK772, HB⟩ := hcut
                  cases kq with
                  | zero => exact absurd HA.out (by simp [impl_OutboxTick.j1])
                  | succ kj14 =>
                    have H := HA.out; clear HA; simp only [impl_OutboxTick.j1] at H
                    by_cases c27 : x34_14 = true
                    · subst c27
                      have H1 : (if x771002_1.length < 2513169434916 then (impl_OutboxTick.l0 kj14 a1 l0 (l0.length : Int) (wrap64 (x22_1 + 1)) x771000_1 x771001_1 (x771002_1 ++ [(⟨((rd_T24 l0 x22_1).f0), ((rd_T24 l0 x22_1).f1), ((rd_T24 l0 x22_1).f2), ((rd_T24 l0 x22_1).f3), ((rd_T24 l0 x22_1).f4)⟩ : S24)]) 0) else (none)) = some (r1, r2, r3, r4) := by rw [if_pos rfl] at H; exact H
                      clear H; have H := H1; clear H1
                      by_cases c28 : x771002_1.length < 2513169434916
                      · rw [if_pos c28] at H; have LMc28 := Aside0.mk c28; clear c28; obtain ⟨y773, hy773⟩ : ∃ y_ : List (S24), y_ = (x771002_1 ++ [(⟨((rd_T24 l0 x22_1).f0), ((rd_T24 l0 x22_1).f1), ((rd_T24 l0 x22_1).f2), ((rd_T24 l0 x22_1).f3), ((rd_T24 l0 x22_1).f4)⟩ : S24)]) := ⟨_, rfl⟩
                        replace H : (impl_OutboxTick.l0 kj14 a1 l0 (l0.length : Int) (wrap64 (x22_1 + 1)) x771000_1 x771001_1 y773 0) = some (r1, r2, r3, r4) := by first | (rw [hy773]; with_reducible exact H) | (have H2_ := (Option.bind_some _ _).symm.trans H; rw [hy773]; with_reducible exact H2_) | (have H2_ := (Option.bind_some _ _).symm.trans H; with_reducible exact H2_) | with_reducible exact H | (rw [hy773]; exact H) | exact H
                        have Ny773 := Aside0.mk hy773; clear hy773; have H' := Aside0.mk H; clear H; have hnb29 := NB770_767.out; have hnc29 := NB767_770.out; have hnb30 := NB770_772.out; have hnc30 := NB772_770.out; obtain ⟨hcz31_0, hcz31_1, hcz31_2, hcz31_3, hfz31_0, hfz31_1, hfz31_2, hfz31_3⟩ := cf4 BK770; have hnb32 := NB772_767.out; have hnc32 := NB767_772.out; obtain ⟨hcz33_0, hcz33_1, hcz33_2, hcz33_3, hcz33_4, hfz33_0, hfz33_1, hfz33_2, hfz33_3, hfz33_4⟩ := cf5 BK772
                        go_wp2_with (first | ((with_reducible refine gate_builtin (b := .append) (xs := #[.tmp 36, .tmp 38]) rfl ?_); at_builtin; refine Kd.R_append k24 (w0 := w) w.heap.size rfl (.tmp 36) (.tmp 38) 29 24 (.agg #[(.string ⟨#[]⟩), (.int .i64 0), (.string ⟨#[]⟩), (.int .i64 0), (.int .i64 0)]) 56 rfl Try.underlying29 info24 rfl (by decide) (by omega) u771002 x771002_1 (⟨((rd_T24 l0 x22_1).f0), ((rd_T24 l0 x22_1).f1), ((rd_T24 l0 x22_1).f2), ((rd_T24 l0 x22_1).f3), ((rd_T24 l0 x22_1).f4)⟩ : S24) [.string ((rd_T24 l0 x22_1).f0), .int .i64 ((rd_T24 l0 x22_1).f1), .string ((rd_T24 l0 x22_1).f2), .int .i64 ((rd_T24 l0 x22_1).f3), .int .i64 ((rd_T24 l0 x22_1).f4)] (fun k_ => some k_ ≠ (u771000 : Value).ownBlock ∧ k_ ≠ gb772) (fun _ => False) rfl rfl ?aP (fun _ hk => hk.elim) ?aF ?aO ?aB ?aS ?aL ?_; (case aP => exact k24_mkM _ _ _ (⟨((rd_T24 l0 x22_1).f0), ((rd_T24 l0 x22_1).f1), ((rd_T24 l0 x22_1).f2), ((rd_T24 l0 x22_1).f3), ((rd_T24 l0 x22_1).f4)⟩ : S24)); (case aB => exact (bs HB)); (case aF => exact (fun k_ hk => ⟨Kd.fresh' (Kd.R_lt (rs HO_771000)) k_ hk, Kd.freshB (g := gb772) (o := .cells #[.string ((rd_T24 l0 x22_1).f0), .int .i64 ((rd_T24 l0 x22_1).f1), .string ((rd_T24 l0 x22_1).f2), .int .i64 ((rd_T24 l0 x22_1).f3), .int .i64 ((rd_T24 l0 x22_1).f4)] 24 (0, 0)) (ks BK772) k_ hk⟩)); (case aO => exact (rs HO_771002)); (case aS => exact (below_size (bs HB))); (case aL => have := LMc28.out; omega); intro v774 w34 ho hb hg hat; rw [← Ny773.out] at ho; have n0_ := Aside0.mk (Kd.R_after (ok := (fun k_ => k_ ≠ gb772)) (by (with_reducible repeat (first | apply Kd.R_alloc | apply Kd.R_drewN | apply Kd.R_drew)); exact Kd.R_mono HO_771000.out (fun _ hk => ⟨hk.2, hk.1⟩)) hg hat); have n1_ := Aside0.mk (Kd.R_over' (rs HO_771001) (Kd.R_typed (rs HO_771002)) (by decide) hg); have n2_ := Aside0.mk (blk_grown (ks BK767) hg (Kd.R_ne HO_771002.out BK767.out (by decide))); have n3_ := Aside0.mk (blk_grown (ks BK770) hg (Kd.R_ne HO_771002.out BK770.out (by decide))); have n4_ := Aside0.mk (blk_grown (ks BK772) hg (Kd.R_away HO_771002.out (fun _ hk => hk.2))); have n5_ := Aside0.mk (hb); have n6_ := Aside0.mk (ho); clear HO_771000; clear HO_771001; clear BK767; clear BK770; clear BK772; clear HB; clear HO_771002; have HO_771000 := n0_; have HO_771001 := n1_; have BK767 := n2_; have BK770 := n3_; have BK772 := n4_; have HB := n5_; have HO775 := n6_; clear n0_ n1_ n2_ n3_ n4_ n5_ n6_; clear ho hb hg hat; obtain ⟨Ao35, co35, eo35⟩ := Kd.R_slice HO775.out; subst eo35; obtain ⟨hcz36_0, hcz36_1, hcz36_2, hcz36_3, hfz36_0, hfz36_1, hfz36_2, hfz36_3⟩ := cf4 BK770))
                        go_roundg kj14
                        case measure => have := HK1.out; have := HJ14.out; omega
                        case rel => exact ⟨(wrap64 (x22_1 + 1)), (x771000_1), (x771001_1), (y773), (u771000), (u771001), (.slice Ao35 y773.length co35), fg, H', ⟨by have := HK1.out; have := HJ14.out; omega⟩, ⟨Kd.R_mono (rf (Kd.R_types HO_771000.out BK770.out (by decide))) (fun _ hk => hk.1.2)⟩, ⟨Kd.R_mono (rf (Kd.R_types HO_771001.out BK770.out (by decide))) (fun _ hk => trivial)⟩, ⟨Kd.R_mono (rf (Kd.R_types HO775.out BK770.out (by decide))) (fun _ hk => hk.1.1)⟩, ⟨ks BK767⟩, ⟨kp BK770⟩, ⟨bs HB⟩⟩
                      · rw [if_neg c28] at H
                        exact absurd H (by simp)
                    · replace c27 := Bool.eq_false_iff.mpr c27; subst c27
                      have H1 : (if ((rd_T24 l0 x22_1).f4) ≤ a1 then (if x771001_1.length < 3518437208883 then (if x771000_1.length < 2513169434916 then (impl_OutboxTick.l0 kj14 a1 l0 (l0.length : Int) (wrap64 (x22_1 + 1)) (x771000_1 ++ [(⟨((rd_T24 l0 x22_1).f0), ((rd_T24 l0 x22_1).f1), ((rd_T24 l0 x22_1).f2), wrap64 (((rd_T24 l0 x22_1).f3) + 1), mn (wrap64 (a1 + (wrap64 (3 * (wrap64 (((rd_T24 l0 x22_1).f3) + 1)))))) 100000⟩ : S24)]) (x771001_1 ++ [(⟨((rd_T24 l0 x22_1).f0), ((rd_T24 l0 x22_1).f1), ((rd_T24 l0 x22_1).f2)⟩ : S105)]) x771002_1 0) else (none)) else (none)) else (if x771000_1.length < 2513169434916 then (impl_OutboxTick.l0 kj14 a1 l0 (l0.length : Int) (wrap64 (x22_1 + 1)) (x771000_1 ++ [(⟨((rd_T24 l0 x22_1).f0), ((rd_T24 l0 x22_1).f1), ((rd_T24 l0 x22_1).f2), ((rd_T24 l0 x22_1).f3), ((rd_T24 l0 x22_1).f4)⟩ : S24)]) x771001_1 x771002_1 0) else (none))) = some (r1, r2, r3, r4) := by rw [if_neg (show ¬ (false = true) by decide)] at H; exact H
                      clear H; have H := H1; clear H1
                      by_cases c37 : ((rd_T24 l0 x22_1).f4) ≤ a1
                      · rw [if_pos c37] at H; have c37b0 : decide (((rd_T24 l0 x22_1).f4) ≤ a1) = true := decide_eq_true c37; clear c37
                        by_cases c38 : x771001_1.length < 3518437208883
                        · rw [if_pos c38] at H; have LMc38 := Aside0.mk c38; clear c38; obtain ⟨y776, hy776⟩ : ∃ y_ : List (S105), y_ = (x771001_1 ++ [(⟨((rd_T24 l0 x22_1).f0), ((rd_T24 l0 x22_1).f1), ((rd_T24 l0 x22_1).f2)⟩ : S105)]) := ⟨_, rfl⟩
                          replace H : (if x771000_1.length < 2513169434916 then (impl_OutboxTick.l0 kj14 a1 l0 (l0.length : Int) (wrap64 (x22_1 + 1)) (x771000_1 ++ [(⟨((rd_T24 l0 x22_1).f0), ((rd_T24 l0 x22_1).f1), ((rd_T24 l0 x22_1).f2), wrap64 (((rd_T24 l0 x22_1).f3) + 1), mn (wrap64 (a1 + (wrap64 (3 * (wrap64 (((rd_T24 l0 x22_1).f3) + 1)))))) 100000⟩ : S24)]) y776 x771002_1 0) else (none)) = some (r1, r2, r3, r4) := by first | (rw [hy776]; with_reducible exact H) | (have H2_ := (Option.bind_some _ _).symm.trans H; rw [hy776]; with_reducible exact H2_) | (have H2_ := (Option.bind_some _ _).symm.trans H; with_reducible exact H2_) | with_reducible exact H | (rw [hy776]; exact H) | exact H
                          have Ny776 := Aside0.mk hy776; clear hy776; obtain ⟨ji39, hji39⟩ : ∃ j_ : Int, (mn (wrap64 (a1 + (wrap64 (3 * (wrap64 (((rd_T24 l0 x22_1).f3) + 1)))))) 100000) = j_ := ⟨_, rfl⟩
                          replace H : (if x771000_1.length < 2513169434916 then (impl_OutboxTick.l0 kj14 a1 l0 (l0.length : Int) (wrap64 (x22_1 + 1)) (x771000_1 ++ [(⟨((rd_T24 l0 x22_1).f0), ((rd_T24 l0 x22_1).f1), ((rd_T24 l0 x22_1).f2), wrap64 (((rd_T24 l0 x22_1).f3) + 1), ji39⟩ : S24)]) y776 x771002_1 0) else (none)) = some (r1, r2, r3, r4) := by first | (rw [hji39] at H; exact H) | (simp only [hji39] at H ⊢; exact H)
                          have hji39_ : (if 100000 < (wrap64 (a1 + (wrap64 (3 * (wrap64 (((rd_T24 l0 x22_1).f3) + 1)))))) then 100000 else (wrap64 (a1 + (wrap64 (3 * (wrap64 (((rd_T24 l0 x22_1).f3) + 1))))))) = ji39 := hji39
                          by_cases c40 : x771000_1.length < 2513169434916
                          · rw [if_pos c40] at H; have LMc40 := Aside0.mk c40; clear c40; obtain ⟨y779, hy779⟩ : ∃ y_ : List (S24), y_ = (x771000_1 ++ [(⟨((rd_T24 l0 x22_1).f0), ((rd_T24 l0 x22_1).f1), ((rd_T24 l0 x22_1).f2), wrap64 (((rd_T24 l0 x22_1).f3) + 1), ji39⟩ : S24)]) := ⟨_, rfl⟩
                            replace H : (impl_OutboxTick.l0 kj14 a1 l0 (l0.length : Int) (wrap64 (x22_1 + 1)) y779 y776 x771002_1 0) = some (r1, r2, r3, r4) := by first | (rw [hy779]; with_reducible exact H) | (have H2_ := (Option.bind_some _ _).symm.trans H; rw [hy779]; with_reducible exact H2_) | (have H2_ := (Option.bind_some _ _).symm.trans H; with_reducible exact H2_) | with_reducible exact H | (rw [hy779]; exact H) | exact H
                            have Ny779 := Aside0.mk hy779; clear hy779; have H' := Aside0.mk H; clear H; have hnb41 := NB772_767.out; have hnc41 := NB767_772.out; have hnb42 := NB772_770.out; have hnc42 := NB770_772.out; obtain ⟨hcz43_0, hcz43_1, hcz43_2, hcz43_3, hcz43_4, hfz43_0, hfz43_1, hfz43_2, hfz43_3, hfz43_4⟩ := cf5 BK772; have hnb44 := NB770_767.out; have hnc44 := NB767_770.out; obtain ⟨hcz45_0, hcz45_1, hcz45_2, hcz45_3, hfz45_0, hfz45_1, hfz45_2, hfz45_3⟩ := cf4 BK770
                            go_wp2_with (first | ((with_reducible refine gate_builtin (b := .append) (xs := #[.tmp 46, .tmp 54]) rfl ?_); at_builtin; refine Kd.R_append k105 (w0 := w) w.heap.size rfl (.tmp 46) (.tmp 54) 32 105 (.agg #[(.string ⟨#[]⟩), (.int .i64 0), (.string ⟨#[]⟩)]) 40 rfl Try.underlying32 info105 rfl (by decide) (by omega) u771001 x771001_1 (⟨((rd_T24 l0 x22_1).f0), ((rd_T24 l0 x22_1).f1), ((rd_T24 l0 x22_1).f2)⟩ : S105) [.string ((rd_T24 l0 x22_1).f0), .int .i64 ((rd_T24 l0 x22_1).f1), .string ((rd_T24 l0 x22_1).f2)] (fun _ => True) (fun _ => False) rfl rfl ?aP (fun _ hk => hk.elim) ?aF ?aO ?aB ?aS ?aL ?_; (case aP => exact k105_mkM _ _ _ (⟨((rd_T24 l0 x22_1).f0), ((rd_T24 l0 x22_1).f1), ((rd_T24 l0 x22_1).f2)⟩ : S105)); (case aB => exact (bs HB)); (case aF => exact (fun _ _ => trivial)); (case aO => exact (rs HO_771001)); (case aS => exact (below_size (bs HB))); (case aL => have := LMc38.out; omega); intro v777 w46 ho hb hg hat; rw [← Ny776.out] at ho; have n0_ := Aside0.mk (Kd.R_over' (rs HO_771000) (Kd.R_typed (rs HO_771001)) (by decide) hg); have n1_ := Aside0.mk (Kd.R_over' (rs HO_771002) (Kd.R_typed (rs HO_771001)) (by decide) hg); have n2_ := Aside0.mk (blk_grown (ks BK767) hg (Kd.R_ne HO_771001.out BK767.out (by decide))); have n3_ := Aside0.mk (blk_grown (ks BK770) hg (Kd.R_ne HO_771001.out BK770.out (by decide))); have n4_ := Aside0.mk (blk_grown (ks BK772) hg (Kd.R_ne HO_771001.out BK772.out (by decide))); have n5_ := Aside0.mk (hb); have n6_ := Aside0.mk (ho); clear HO_771000; clear HO_771002; clear BK767; clear BK770; clear BK772; clear HB; clear HO_771001; have HO_771000 := n0_; have HO_771002 := n1_; have BK767 := n2_; have BK770 := n3_; have BK772 := n4_; have HB := n5_; have HO778 := n6_; clear n0_ n1_ n2_ n3_ n4_ n5_ n6_; clear ho hb hg hat; obtain ⟨Ao47, co47, eo47⟩ := Kd.R_slice HO778.out; subst eo47; obtain ⟨hcz48_0, hcz48_1, hcz48_2, hcz48_3, hfz48_0, hfz48_1, hfz48_2, hfz48_3⟩ := cf4 BK770; have hcz49_0 : w46.cell? ⟨gb772, 0, none⟩ = some (.string ((rd_T24 l0 x22_1).f0)) := (blk_cell BK772.out 0).trans rfl; have hcz49_1 : w46.cell? ⟨gb772, 1, none⟩ = some (.int .i64 ((rd_T24 l0 x22_1).f1)) := (blk_cell BK772.out 1).trans rfl; have hcz49_2 : w46.cell? ⟨gb772, 2, none⟩ = some (.string ((rd_T24 l0 x22_1).f2)) := (blk_cell BK772.out 2).trans rfl; have hcz49_3 : w46.cell? ⟨gb772, 3, none⟩ = some (.int .i64 ((rd_T24 l0 x22_1).f3)) := (blk_cell BK772.out 3).trans rfl; have hcz49_4 : w46.cell? ⟨gb772, 4, none⟩ = some (.int .i64 ((rd_T24 l0 x22_1).f4)) := (blk_cell BK772.out 4).trans rfl; have hfz49_0 := blk_frozen BK772.out 0; have hfz49_1 := blk_frozen BK772.out 1; have hfz49_2 := blk_frozen BK772.out 2; have hfz49_3 := blk_frozen BK772.out 3; have hfz49_4 := blk_frozen BK772.out 4) | ((with_reducible refine gate_builtin (b := .append) (xs := #[.tmp 69, .tmp 71]) rfl ?_); at_builtin; refine Kd.R_append k24 (w0 := w) w.heap.size rfl (.tmp 69) (.tmp 71) 29 24 (.agg #[(.string ⟨#[]⟩), (.int .i64 0), (.string ⟨#[]⟩), (.int .i64 0), (.int .i64 0)]) 56 rfl Try.underlying29 info24 rfl (by decide) (by omega) u771000 x771000_1 (⟨((rd_T24 l0 x22_1).f0), ((rd_T24 l0 x22_1).f1), ((rd_T24 l0 x22_1).f2), wrap64 (((rd_T24 l0 x22_1).f3) + 1), ji39⟩ : S24) [.string ((rd_T24 l0 x22_1).f0), .int .i64 ((rd_T24 l0 x22_1).f1), .string ((rd_T24 l0 x22_1).f2), .int .i64 (wrap64 (((rd_T24 l0 x22_1).f3) + 1)), .int .i64 ji39] (fun k_ => some k_ ≠ (u771002 : Value).ownBlock ∧ k_ ≠ gb772) (fun _ => False) rfl (by first | (go_simp; done) | (go_simp; rfl)) ?aP (fun _ hk => hk.elim) ?aF ?aO ?aB ?aS ?aL ?_; (case aP => exact k24_mkM _ _ _ (⟨((rd_T24 l0 x22_1).f0), ((rd_T24 l0 x22_1).f1), ((rd_T24 l0 x22_1).f2), wrap64 (((rd_T24 l0 x22_1).f3) + 1), ji39⟩ : S24)); (case aB => exact (bs HB)); (case aF => exact (fun k_ hk => ⟨Kd.fresh' (Kd.R_lt (by (with_reducible repeat (first | apply Kd.R_alloc | apply Kd.R_drewN | apply Kd.R_drew)); exact (Kd.R_mono (Kd.R_mono (Kd.R_far (p := ⟨gb772, 4, none⟩) (Kd.R_far (p := ⟨gb772, 3, none⟩) (Kd.R_far (p := ⟨gb770, 1, none⟩) (Kd.R_mono (Kd.R_types HO_771002.out BK770.out (by decide)) (fun k_ hk => (⟨hk, hk.1.2⟩ : _ ∧ k_ ≠ gb772))) (fun _ hk => hk.1.2) (.slice Ao47 y776.length co47)) (fun _ hk => hk.2) (.int .i64 (wrap64 (((rd_T24 l0 x22_1).f3) + 1)))) (fun _ hk => hk.2) (.int .i64 ji39)) (fun _ h_ => h_.1)) (fun _ h_ => h_.1)))) k_ hk, Kd.freshB (g := gb772) (o := .cells #[.string ((rd_T24 l0 x22_1).f0), .int .i64 ((rd_T24 l0 x22_1).f1), .string ((rd_T24 l0 x22_1).f2), .int .i64 (wrap64 (((rd_T24 l0 x22_1).f3) + 1)), .int .i64 ji39] 24 (0, 0)) (kp BK772) k_ hk⟩)); (case aO => exact (by (with_reducible repeat (first | apply Kd.R_alloc | apply Kd.R_drewN | apply Kd.R_drew)); exact Kd.R_mono (Kd.R_far (p := ⟨gb772, 4, none⟩) (Kd.R_far (p := ⟨gb772, 3, none⟩) (Kd.R_far (p := ⟨gb770, 1, none⟩) (Kd.R_mono (Kd.R_types HO_771000.out BK770.out (by decide)) (fun k_ hk => (⟨hk, hk.1.2⟩ : _ ∧ k_ ≠ gb772))) (fun _ hk => hk.1.2) (.slice Ao47 y776.length co47)) (fun _ hk => hk.2) (.int .i64 (wrap64 (((rd_T24 l0 x22_1).f3) + 1)))) (fun _ hk => hk.2) (.int .i64 ji39)) (fun _ hk => ⟨hk.1.1.1, hk.1.1.2⟩))); (case aS => exact (below_size (bs HB))); (case aL => have := LMc40.out; omega); intro v780 w50 ho hb hg hat; rw [← Ny779.out] at ho; have n0_ := Aside0.mk (Kd.R_after (ok := (fun k_ => k_ ≠ gb772)) (by (with_reducible repeat (first | apply Kd.R_alloc | apply Kd.R_drewN | apply Kd.R_drew)); exact Kd.R_mono (Kd.R_far (p := ⟨gb772, 4, none⟩) (Kd.R_far (p := ⟨gb772, 3, none⟩) (Kd.R_far (p := ⟨gb770, 1, none⟩) (Kd.R_mono (Kd.R_types HO_771002.out BK770.out (by decide)) (fun k_ hk => (⟨hk, hk.1.2⟩ : _ ∧ k_ ≠ gb772))) (fun _ hk => hk.1.2) (.slice Ao47 y776.length co47)) (fun _ hk => hk.2) (.int .i64 (wrap64 (((rd_T24 l0 x22_1).f3) + 1)))) (fun _ hk => hk.2) (.int .i64 ji39)) (fun _ hk => ⟨hk.1.1.2, hk.1.1.1⟩)) hg hat); have n1_ := Aside0.mk (blk_grown (ks BK767) hg (Kd.R_ne HO_771000.out BK767.out (by decide))); have n2_ := Aside0.mk (blk_grown (g := gb770) (o := .cells #[u771000, .slice Ao47 y776.length co47, u771002, .int .i64 0] 34 (0, 0)) (kp BK770) hg (Kd.R_ne HO_771000.out BK770.out (by decide))); have n3_ := Aside0.mk (blk_grown (g := gb772) (o := .cells #[.string ((rd_T24 l0 x22_1).f0), .int .i64 ((rd_T24 l0 x22_1).f1), .string ((rd_T24 l0 x22_1).f2), .int .i64 (wrap64 (((rd_T24 l0 x22_1).f3) + 1)), .int .i64 ji39] 24 (0, 0)) (kp BK772) hg (Kd.R_away HO_771000.out (fun _ hk => hk.2))); have n4_ := Aside0.mk (Kd.R_over' (by (with_reducible repeat (first | apply Kd.R_alloc | apply Kd.R_drewN | apply Kd.R_drew)); exact (Kd.R_mono (Kd.R_mono (Kd.R_far (p := ⟨gb772, 4, none⟩) (Kd.R_far (p := ⟨gb772, 3, none⟩) (Kd.R_far (p := ⟨gb770, 1, none⟩) (Kd.R_types (Kd.R_types HO778.out BK770.out (by decide)) BK772.out (by decide)) (fun _ hk => hk.1.2) (.slice Ao47 y776.length co47)) (fun _ hk => hk.2) (.int .i64 (wrap64 (((rd_T24 l0 x22_1).f3) + 1)))) (fun _ hk => hk.2) (.int .i64 ji39)) (fun _ h_ => h_.1)) (fun _ h_ => h_.1))) (Kd.R_typed (by (with_reducible repeat (first | apply Kd.R_alloc | apply Kd.R_drewN | apply Kd.R_drew)); exact (Kd.R_mono (Kd.R_mono (Kd.R_far (p := ⟨gb772, 4, none⟩) (Kd.R_far (p := ⟨gb772, 3, none⟩) (Kd.R_far (p := ⟨gb770, 1, none⟩) (Kd.R_mono (Kd.R_types HO_771000.out BK770.out (by decide)) (fun k_ hk => (⟨hk, hk.1.2⟩ : _ ∧ k_ ≠ gb772))) (fun _ hk => hk.1.2) (.slice Ao47 y776.length co47)) (fun _ hk => hk.2) (.int .i64 (wrap64 (((rd_T24 l0 x22_1).f3) + 1)))) (fun _ hk => hk.2) (.int .i64 ji39)) (fun _ h_ => h_.1)) (fun _ h_ => h_.1)))) (by decide) hg); have n5_ := Aside0.mk (hb); have n6_ := Aside0.mk (ho); clear HO_771002; clear BK767; clear BK770; clear BK772; clear HO778; clear HB; clear HO_771000; have HO_771002 := n0_; have BK767 := n1_; have BK770 := n2_; have BK772 := n3_; have HO778 := n4_; have HB := n5_; have HO781 := n6_; clear n0_ n1_ n2_ n3_ n4_ n5_ n6_; clear ho hb hg hat; obtain ⟨Ao51, co51, eo51⟩ := Kd.R_slice HO781.out; subst eo51; obtain ⟨hcz52_0, hcz52_1, hcz52_2, hcz52_3, hfz52_0, hfz52_1, hfz52_2, hfz52_3⟩ := cf4 BK770))
                            go_roundg kj14
                            case measure => have := HK1.out; have := HJ14.out; omega
                            case rel => exact ⟨(wrap64 (x22_1 + 1)), (y779), (y776), (x771002_1), (.slice Ao51 y779.length co51), (.slice Ao47 y776.length co47), (u771002), fg, H', ⟨by have := HK1.out; have := HJ14.out; omega⟩, ⟨Kd.R_mono (rf (Kd.R_types HO781.out BK770.out (by decide))) (fun _ hk => hk.1.1)⟩, ⟨Kd.R_mono (rf (Kd.R_types HO778.out BK770.out (by decide))) (fun _ hk => trivial)⟩, ⟨Kd.R_mono (rf (Kd.R_types HO_771002.out BK770.out (by decide))) (fun _ hk => hk.1.2)⟩, ⟨ks BK767⟩, ⟨kp BK770⟩, ⟨bs HB⟩⟩
                          · rw [if_neg c40] at H
                            exact absurd H (by simp)
                        · rw [if_neg c38] at H
                          exact absurd H (by simp)
                      · rw [if_neg c37] at H; have c37b0 : decide (((rd_T24 l0 x22_1).f4) ≤ a1) = false := decide_eq_false c37; clear c37
                        by_cases c53 : x771000_1.length < 2513169434916
                        · rw [if_pos c53] at H; have LMc53 := Aside0.mk c53; clear c53; obtain ⟨y782, hy782⟩ : ∃ y_ : List (S24), y_ = (x771000_1 ++ [(⟨((rd_T24 l0 x22_1).f0), ((rd_T24 l0 x22_1).f1), ((rd_T24 l0 x22_1).f2), ((rd_T24 l0 x22_1).f3), ((rd_T24 l0 x22_1).f4)⟩ : S24)]) := ⟨_, rfl⟩
                          replace H : (impl_OutboxTick.l0 kj14 a1 l0 (l0.length : Int) (wrap64 (x22_1 + 1)) y782 x771001_1 x771002_1 0) = some (r1, r2, r3, r4) := by first | (rw [hy782]; with_reducible exact H) | (have H2_ := (Option.bind_some _ _).symm.trans H; rw [hy782]; with_reducible exact H2_) | (have H2_ := (Option.bind_some _ _).symm.trans H; with_reducible exact H2_) | with_reducible exact H | (rw [hy782]; exact H) | exact H
                          have Ny782 := Aside0.mk hy782; clear hy782; have H' := Aside0.mk H; clear H; have hnb54 := NB772_767.out; have hnc54 := NB767_772.out; have hnb55 := NB772_770.out; have hnc55 := NB770_772.out; obtain ⟨hcz56_0, hcz56_1, hcz56_2, hcz56_3, hcz56_4, hfz56_0, hfz56_1, hfz56_2, hfz56_3, hfz56_4⟩ := cf5 BK772; have hnb57 := NB770_767.out; have hnc57 := NB767_770.out; obtain ⟨hcz58_0, hcz58_1, hcz58_2, hcz58_3, hfz58_0, hfz58_1, hfz58_2, hfz58_3⟩ := cf4 BK770
                          go_wp2_with (first | ((with_reducible refine gate_builtin (b := .append) (xs := #[.tmp 69, .tmp 71]) rfl ?_); at_builtin; refine Kd.R_append k24 (w0 := w) w.heap.size rfl (.tmp 69) (.tmp 71) 29 24 (.agg #[(.string ⟨#[]⟩), (.int .i64 0), (.string ⟨#[]⟩), (.int .i64 0), (.int .i64 0)]) 56 rfl Try.underlying29 info24 rfl (by decide) (by omega) u771000 x771000_1 (⟨((rd_T24 l0 x22_1).f0), ((rd_T24 l0 x22_1).f1), ((rd_T24 l0 x22_1).f2), ((rd_T24 l0 x22_1).f3), ((rd_T24 l0 x22_1).f4)⟩ : S24) [.string ((rd_T24 l0 x22_1).f0), .int .i64 ((rd_T24 l0 x22_1).f1), .string ((rd_T24 l0 x22_1).f2), .int .i64 ((rd_T24 l0 x22_1).f3), .int .i64 ((rd_T24 l0 x22_1).f4)] (fun k_ => some k_ ≠ (u771002 : Value).ownBlock ∧ k_ ≠ gb772) (fun _ => False) rfl rfl ?aP (fun _ hk => hk.elim) ?aF ?aO ?aB ?aS ?aL ?_; (case aP => exact k24_mkM _ _ _ (⟨((rd_T24 l0 x22_1).f0), ((rd_T24 l0 x22_1).f1), ((rd_T24 l0 x22_1).f2), ((rd_T24 l0 x22_1).f3), ((rd_T24 l0 x22_1).f4)⟩ : S24)); (case aB => exact (bs HB)); (case aF => exact (fun k_ hk => ⟨Kd.fresh' (Kd.R_lt (rs HO_771002)) k_ hk, Kd.freshB (g := gb772) (o := .cells #[.string ((rd_T24 l0 x22_1).f0), .int .i64 ((rd_T24 l0 x22_1).f1), .string ((rd_T24 l0 x22_1).f2), .int .i64 ((rd_T24 l0 x22_1).f3), .int .i64 ((rd_T24 l0 x22_1).f4)] 24 (0, 0)) (ks BK772) k_ hk⟩)); (case aO => exact (rs HO_771000)); (case aS => exact (below_size (bs HB))); (case aL => have := LMc53.out; omega); intro v783 w59 ho hb hg hat; rw [← Ny782.out] at ho; have n0_ := Aside0.mk (Kd.R_over' (rs HO_771001) (Kd.R_typed (rs HO_771000)) (by decide) hg); have n1_ := Aside0.mk (Kd.R_after (ok := (fun k_ => k_ ≠ gb772)) (by (with_reducible repeat (first | apply Kd.R_alloc | apply Kd.R_drewN | apply Kd.R_drew)); exact Kd.R_mono HO_771002.out (fun _ hk => ⟨hk.2, hk.1⟩)) hg hat); have n2_ := Aside0.mk (blk_grown (ks BK767) hg (Kd.R_ne HO_771000.out BK767.out (by decide))); have n3_ := Aside0.mk (blk_grown (ks BK770) hg (Kd.R_ne HO_771000.out BK770.out (by decide))); have n4_ := Aside0.mk (blk_grown (ks BK772) hg (Kd.R_away HO_771000.out (fun _ hk => hk.2))); have n5_ := Aside0.mk (hb); have n6_ := Aside0.mk (ho); clear HO_771001; clear HO_771002; clear BK767; clear BK770; clear BK772; clear HB; clear HO_771000; have HO_771001 := n0_; have HO_771002 := n1_; have BK767 := n2_; have BK770 := n3_; have BK772 := n4_; have HB := n5_; have HO784 := n6_; clear n0_ n1_ n2_ n3_ n4_ n5_ n6_; clear ho hb hg hat; obtain ⟨Ao60, co60, eo60⟩ := Kd.R_slice HO784.out; subst eo60; obtain ⟨hcz61_0, hcz61_1, hcz61_2, hcz61_3, hfz61_0, hfz61_1, hfz61_2, hfz61_3⟩ := cf4 BK770))
                          go_roundg kj14
                          case measure => have := HK1.out; have := HJ14.out; omega
                          case rel => exact ⟨(wrap64 (x22_1 + 1)), (y782), (x771001_1), (x771002_1), (.slice Ao60 y782.length co60), (u771001), (u771002), fg, H', ⟨by have := HK1.out; have := HJ14.out; omega⟩, ⟨Kd.R_mono (rf (Kd.R_types HO784.out BK770.out (by decide))) (fun _ hk => hk.1.1)⟩, ⟨Kd.R_mono (rf (Kd.R_types HO_771001.out BK770.out (by decide))) (fun _ hk => trivial)⟩, ⟨Kd.R_mono (rf (Kd.R_types HO_771002.out BK770.out (by decide))) (fun _ hk => hk.1.2)⟩, ⟨ks BK767⟩, ⟨kp BK770⟩, ⟨bs HB⟩⟩
                        · rw [if_neg c53] at H
                          exact absurd H (by simp)
              · rw [if_neg c14] at H
                exact absurd H (by simp)
            · rw [if_neg c13] at H
              exact absurd H (by simp)
          · rw [if_neg c12] at H; have c12b0 : decide (x22_1 < (l0.length : Int)) = false := decide_eq_false c12; clear c12; simp only [Option.some.injEq, Prod.mk.injEq] at H; obtain ⟨rfl, rfl, rfl, rfl⟩ := H; have hnb62 := NB770_767.out; have hnc62 := NB767_770.out; obtain ⟨hcz63_0, hcz63_1, hcz63_2, hcz63_3, hfz63_0, hfz63_1, hfz63_2, hfz63_3⟩ := cf4 BK770; obtain ⟨Ao64, co64, eo64⟩ := Kd.R_slice HO_771000.out; subst eo64; obtain ⟨hcz65_0, hcz65_1, hcz65_2, hcz65_3, hfz65_0, hfz65_1, hfz65_2, hfz65_3⟩ := cf4 BK767; obtain ⟨Ao66, co66, eo66⟩ := Kd.R_slice HO_771001.out; subst eo66; obtain ⟨Ao67, co67, eo67⟩ := Kd.R_slice HO_771002.out; subst eo67
            go_wp2
            refine bodyPost_ret (results_cell_row rfl _ _ gb767 34 #[.slice Ao64 x771000_1.length co64, .slice Ao66 x771001_1.length co66, .slice Ao67 x771002_1.length co67, .int .i64 0] (0, 0) _ rfl (kp BK767) Try.underlying34 rfl (by kernel_rfl)) rfl ?_
            exact ⟨_, _, _, ff, Kd.R_mono (rf (Kd.R_types HO_771000.out BK767.out (by decide))) (fun _ hk => hk.1), Kd.R_mono (rf (Kd.R_types HO_771001.out BK767.out (by decide))) (fun _ hk => trivial), Kd.R_mono (rf (Kd.R_types HO_771002.out BK767.out (by decide))) (fun _ hk => hk.1), bs HB⟩
    · replace c8 := Bool.eq_false_iff.mpr c8; subst c8
      have H1 : (some (([] : List (S24)), ([] : List (S105)), ([] : List (S24)), 1)) = some (r1, r2, r3, r4) := by rw [if_neg (show ¬ (false = true) by decide)] at H; exact H
      clear H; have H := H1; clear H1; simp only [Option.some.injEq, Prod.mk.injEq] at H; obtain ⟨rfl, rfl, rfl, rfl⟩ := H; obtain ⟨hcz68_0, hcz68_1, hcz68_2, hcz68_3, hfz68_0, hfz68_1, hfz68_2, hfz68_3⟩ := cf4 BK767
      go_wp2
      refine bodyPost_ret (results_cell_row rfl _ _ gb767 34 #[.slice none 0 0, .slice none 0 0, .slice none 0 0, .int .i64 1] (0, 0) _ rfl (kp BK767) Try.underlying34 rfl (by kernel_rfl)) rfl ?_
      exact ⟨_, _, _, ff, by first | exact Kd.R_nil _ _ _ _ _ | exact Kd.N_nil _ _ _ _ _ | exact Kd.V_nil _ _ _ _ _ | exact Kd.Q_nil _ _ _ _ _ | exact Kd.S_nil _ _ _ _ _, by first | exact Kd.R_nil _ _ _ _ _ | exact Kd.N_nil _ _ _ _ _ | exact Kd.V_nil _ _ _ _ _ | exact Kd.Q_nil _ _ _ _ _ | exact Kd.S_nil _ _ _ _ _, by first | exact Kd.R_nil _ _ _ _ _ | exact Kd.N_nil _ _ _ _ _ | exact Kd.V_nil _ _ _ _ _ | exact Kd.Q_nil _ _ _ _ _ | exact Kd.S_nil _ _ _ _ _, bs HB⟩
  · rw [if_neg c6] at H; have c6b0 : (t768 == 0) = false := beq_eq_false_iff_ne.mpr c6; have c6b1 : (t768 != 0) = true := bne_iff_ne.mpr c6; simp only [Option.some.injEq, Prod.mk.injEq] at H; obtain ⟨rfl, rfl, rfl, rfl⟩ := H; obtain ⟨hcz69_0, hcz69_1, hcz69_2, hcz69_3, hfz69_0, hfz69_1, hfz69_2, hfz69_3⟩ := cf4 BK767
    go_wp2
    refine bodyPost_ret (results_cell_row rfl _ _ gb767 34 #[.slice none 0 0, .slice none 0 0, .slice none 0 0, .int .i64 t768] (0, 0) _ rfl (kp BK767) Try.underlying34 rfl (by kernel_rfl)) rfl ?_
    exact ⟨_, _, _, ff, by first | exact Kd.R_nil _ _ _ _ _ | exact Kd.N_nil _ _ _ _ _ | exact Kd.V_nil _ _ _ _ _ | exact Kd.Q_nil _ _ _ _ _ | exact Kd.S_nil _ _ _ _ _, by first | exact Kd.R_nil _ _ _ _ _ | exact Kd.N_nil _ _ _ _ _ | exact Kd.V_nil _ _ _ _ _ | exact Kd.Q_nil _ _ _ _ _ | exact Kd.S_nil _ _ _ _ _, by first | exact Kd.R_nil _ _ _ _ _ | exact Kd.N_nil _ _ _ _ _ | exact Kd.V_nil _ _ _ _ _ | exact Kd.Q_nil _ _ _ _ _ | exact Kd.S_nil _ _ _ _ _, bs HB⟩
end Go.Proofs.Ytefmkmhjbfpelaa.QO

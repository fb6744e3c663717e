-- Merged by a program of this session (wip/tool/pack.py) out of its own texts for this claim.
import Derived.Test.YtefmkmhjbfpelaaKFnExactOutboxTick0
import Derived.Test.YtefmkmhjbfpelaaKFnExactOutboxTick1
import Derived.Test.YtefmkmhjbfpelaaKFnExactOutboxTick2
import Derived.Test.YtefmkmhjbfpelaaKFnExactOutboxTick8
import Derived.Test.YtefmkmhjbfpelaaKFnExactOutboxTick11
namespace Go.Proofs.Ytefmkmhjbfpelaa.QK
open Go.RowKit Go.Proofs.YtefmkmhjbfpelaaW.PrintWords Go.Proofs.YtefmkmhjbfpelaaW.PrintLast Go.Proofs.YtefmkmhjbfpelaaW.PrintMore
attribute [local go_sem] max2_int min2_int max_two min_two max_three min_three max_four min_four   -- for this text's walks alone
set_option linter.unusedVariables false
set_option linter.unusedSimpArgs false
set_option maxHeartbeats 8000000 in
set_option maxRecDepth 100000 in
theorem impl_OutboxTick.calls (k : Nat) (A0 : Option Addr) (c0 : Nat) (l0 : List (S24)) (a1 : Int) (r1 : List (S24)) (r2 : List (S105)) (r3 : List (S24)) (r4 : Int) (w : World) (hr0 : Kd.C k24 w A0 l0.length l0) (hc0 : l0.length ≤ c0) (h : impl_OutboxTick.f k l0 a1 = some (r1, r2, r3, r4)) :
    Calls Try.prog 20 #[.slice A0 l0.length c0, .int .i64 a1] w fun e w' => ∃ v0_ v1_ v2_ : Value, e = .returned (.agg #[v0_, v1_, v2_, .int .i64 r4]) ∧ Kd.R k24 24 w' w.heap.size (fun k_ => some k_ ≠ (v2_ : Value).ownBlock) v0_ r1 ∧ Kd.R k105 105 w' w.heap.size (fun _ => True) v1_ r2 ∧ Kd.R k24 24 w' w.heap.size (fun k_ => some k_ ≠ (v0_ : Value).ownBlock) v2_ r3 ∧ Below w.heap.size w w' := by
  have hu34 := Try.underlying34
  have hu24 := Try.underlying24
  have hu105 := Try.underlying105
  have HR0 := Aside0.mk hr0
  have HC0 := Aside0.mk hc0
  clear hr0 hc0
  have HB := Aside0.mk (Below.refl w.heap.size w)
  have H : ((impl_outboxCode.f k l0).bind fun t207 => (if t207 = 0 then ((impl_isDay.f a1).bind fun t208 => (if t208 = true then (impl_OutboxTick.l0 k a1 l0 (l0.length : Int) 0 ([] : List (S24)) ([] : List (S105)) ([] : List (S24)) 0) else (some (([] : List (S24)), ([] : List (S105)), ([] : List (S24)), 1)))) else (some (([] : List (S24)), ([] : List (S105)), ([] : List (S24)), t207)))) = some (r1, r2, r3, r4) := h
  clear h
  replace H := Option.bind_eq_some_iff.mp H
  obtain ⟨t207, A30, H⟩ := H
  replace H : (if t207 = 0 then ((impl_isDay.f a1).bind fun t208 => (if t208 = true then (impl_OutboxTick.l0 k a1 l0 (l0.length : Int) 0 ([] : List (S24)) ([] : List (S105)) ([] : List (S24)) 0) else (some (([] : List (S24)), ([] : List (S105)), ([] : List (S24)), 1)))) else (some (([] : List (S24)), ([] : List (S105)), ([] : List (S24)), t207))) = some (r1, r2, r3, r4) := H
  have A3 := Aside0.mk A30
  clear A30
  go_enter Try.func20, Try.ntmps20
  try go_wp2_with (first | ((with_reducible refine gate_dst (N := 4) rfl ?_); refine box_event ?hg (N := 4) ?hd (cs := #[.slice none 0 0, .slice none 0 0, .slice none 0 0, .int .i64 0]) (t := 34) ?hr ?_; (case hd => rfl); (case hg => rfl); (case hr => first | (go_simp; done) | (go_simp; rfl)); intro gb206 hg w4 hbox hb; have n0_ := Aside0.mk (below_step (by repeat (first | (with_reducible first | exact HB.out | apply below_alloc | apply pw_below_drewN | apply below_drew1) | exact HB.out)) hb); have n1_ := Aside0.mk (hbox); have n2_ := Aside0.mk ((by rw [hg]; exact (below_size (by repeat (first | (with_reducible first | exact HB.out | apply below_alloc | apply pw_below_drewN | apply below_drew1) | exact HB.out))) : w.heap.size ≤ gb206)); have n3_ := Aside0.mk ((by rw [hg]; exact (below_size (by repeat (first | (with_reducible first | exact HB.out | apply below_alloc | apply pw_below_drewN | apply below_drew1) | exact HB.out))) : w.heap.size ≤ gb206)); clear HB; have HB := n0_; have BK206 := n1_; have GW206 := n2_; have GE206 := n3_; clear n0_ n1_ n2_ n3_; clear hb hbox hg))
  go_at_call 80; (with_reducible refine (impl_outboxCode.calls k _ _ l0 t207 _ ?side1 ?side2 A3.out).mono ?_); (case side1 => repeat (first | exact (Kd.C_below HR0.out HB.out) | (with_reducible refine Kd.C_alloc ?_ _) | (with_reducible refine Kd.C_drewN ?_ _) | (with_reducible refine Kd.C_drew ?_))); (case side2 => exact HC0.out)
  rintro e w5 ⟨rfl, hb⟩
  have n0_ := Aside0.mk (blk_below (g := gb206) (o := .cells #[.slice none 0 0, .slice none 0 0, .slice none 0 0, .int .i64 0] 34 (0, 0)) (by (with_reducible repeat (first | refine blk_drewN ?_ _ | refine blk_drew ?_ | refine blk_alloc ?_ _)); exact BK206.out) hb)
  have n1_ := Aside0.mk (below_step (by repeat (first | (with_reducible first | exact HB.out | apply below_alloc | apply pw_below_drewN | apply below_drew1 | refine below_set ?_ GE206.out) | exact HB.out)) hb)
  clear BK206
  clear HB
  have BK206 := n0_
  have HB := n1_
  clear n0_ n1_
  (try clear hb)
  (try clear hb2)
  (try clear hk)
  (try clear hi)
  by_cases c6 : t207 = 0
  · rw [if_pos c6] at H
    have c6b0 : (t207 == 0) = true := beq_iff_eq.mpr c6
    have c6b1 : (t207 != 0) = false := bne_eq_false_iff_eq.mpr c6
    clear c6
    replace H := Option.bind_eq_some_iff.mp H
    obtain ⟨t208, A70, H⟩ := H
    replace H : (if t208 = true then (impl_OutboxTick.l0 k a1 l0 (l0.length : Int) 0 ([] : List (S24)) ([] : List (S105)) ([] : List (S24)) 0) else (some (([] : List (S24)), ([] : List (S105)), ([] : List (S24)), 1))) = some (r1, r2, r3, r4) := H
    have A7 := Aside0.mk A70
    clear A70
    try go_wp2_with (fail)
    go_at_call 73; (with_reducible refine (impl_isDay.calls a1 t208 _ A7.out).mono ?_)
    rintro e w' ⟨rfl, ⟨nd, rfl⟩⟩
    by_cases c8 : t208 = true
    · subst c8
      have H1 : (impl_OutboxTick.l0 k a1 l0 (l0.length : Int) 0 ([] : List (S24)) ([] : List (S105)) ([] : List (S24)) 0) = some (r1, r2, r3, r4) := by rw [if_pos rfl] at H; exact H
      clear H
      have H := H1
      clear H1
      have H' := Aside0.mk H
      clear H
      go_wp2_with (first | ((with_reducible refine gate_dst (N := 6) rfl ?_); refine box_event ?hg (N := 6) ?hd (cs := #[.slice none 0 0, .slice none 0 0, .slice none 0 0, .int .i64 0]) (t := 34) ?hr ?_; (case hd => rfl); (case hg => rfl); (case hr => first | (go_simp; done) | (go_simp; rfl)); intro gb209 hg w9 hbox hb; have n0_ := Aside0.mk (blk_below (g := gb206) (o := .cells #[.slice none 0 0, .slice none 0 0, .slice none 0 0, .int .i64 0] 34 (0, 0)) (by (with_reducible repeat (first | refine blk_drewN ?_ _ | refine blk_drew ?_ | refine blk_alloc ?_ _)); exact BK206.out) hb); have n1_ := Aside0.mk (below_step (by repeat (first | (with_reducible first | exact HB.out | apply below_alloc | apply pw_below_drewN | apply below_drew1 | refine below_set ?_ GE206.out) | exact HB.out)) hb); have n2_ := Aside0.mk (hbox); have n3_ := Aside0.mk ((by rw [hg]; exact (below_size (by repeat (first | (with_reducible first | exact HB.out | apply below_alloc | apply pw_below_drewN | apply below_drew1 | refine below_set ?_ GE206.out) | exact HB.out))) : w.heap.size ≤ gb209)); have n4_ := Aside0.mk ((by rw [hg]; exact (below_size (by repeat (first | (with_reducible first | exact HB.out | apply below_alloc | apply pw_below_drewN | apply below_drew1 | refine below_set ?_ GE206.out) | exact HB.out))) : w.heap.size ≤ gb209)); have n5_ := Aside0.mk ((by rw [hg]; exact Nat.ne_of_lt (blk_lt (g := gb206) (o := .cells #[.slice none 0 0, .slice none 0 0, .slice none 0 0, .int .i64 0] 34 (0, 0)) (by (with_reducible repeat (first | refine blk_drewN ?_ _ | refine blk_drew ?_ | refine blk_alloc ?_ _)); exact BK206.out)) : gb206 ≠ gb209)); have n6_ := Aside0.mk ((by rw [hg]; exact Nat.ne_of_gt (blk_lt (g := gb206) (o := .cells #[.slice none 0 0, .slice none 0 0, .slice none 0 0, .int .i64 0] 34 (0, 0)) (by (with_reducible repeat (first | refine blk_drewN ?_ _ | refine blk_drew ?_ | refine blk_alloc ?_ _)); exact BK206.out)) : gb209 ≠ gb206)); clear BK206; clear HB; have BK206 := n0_; have HB := n1_; have BK209 := n2_; have GW209 := n3_; have GE209 := n4_; have NB206_209 := n5_; have NB209_206 := n6_; clear n0_ n1_ n2_ n3_ n4_ n5_ n6_; clear hb hbox hg; have hnb10 := NB209_206.out; have hnc10 := NB206_209.out; have hcz11_0 : w9.cell? ⟨gb209, 0, none⟩ = some (.slice none 0 0) := (blk_cell BK209.out 0).trans rfl; have hcz11_1 : w9.cell? ⟨gb209, 1, none⟩ = some (.slice none 0 0) := (blk_cell BK209.out 1).trans rfl; have hcz11_2 : w9.cell? ⟨gb209, 2, none⟩ = some (.slice none 0 0) := (blk_cell BK209.out 2).trans rfl; have hcz11_3 : w9.cell? ⟨gb209, 3, none⟩ = some (.int .i64 0) := (blk_cell BK209.out 3).trans rfl; have hfz11_0 := blk_frozen BK209.out 0; have hfz11_1 := blk_frozen BK209.out 1; have hfz11_2 := blk_frozen BK209.out 2; have hfz11_3 := blk_frozen BK209.out 3))
      go_loopg [22] k (fun kq v22 w' => ∃ (x22_1 : Int) (x210000_1 : List (S24)) (x210001_1 : List (S105)) (x210002_1 : List (S24)) (u210000 : Value) (u210001 : Value) (u210002 : Value), v22 = .int .i64 x22_1 ∧ Aside0 (impl_OutboxTick.l0 kq a1 l0 (l0.length : Int) x22_1 x210000_1 x210001_1 x210002_1 0 = some (r1, r2, r3, r4)) ∧ Aside0 (kq ≤ k) ∧ Aside0 (Kd.R k24 24 w' w.heap.size (fun k_ => some k_ ≠ (u210002 : Value).ownBlock) u210000 x210000_1) ∧ Aside0 (Kd.R k105 105 w' w.heap.size (fun _ => True) u210001 x210001_1) ∧ Aside0 (Kd.R k24 24 w' w.heap.size (fun k_ => some k_ ≠ (u210000 : Value).ownBlock) u210002 x210002_1) ∧ Aside0 (w'.heap[gb206]? = some (.cells #[(.slice none 0 0), (.slice none 0 0), (.slice none 0 0), .int .i64 0] 34 (0, 0))) ∧ Aside0 (w'.heap[gb209]? = some (.cells #[u210000, u210001, u210002, .int .i64 0] 34 (0, 0))) ∧ Aside0 (Below w.heap.size w w'))
      case atStart => exact ⟨(0), (([] : List (S24))), (([] : List (S105))), (([] : List (S24))), (.slice none 0 0), (.slice none 0 0), (.slice none 0 0), (by first | rfl | (simp; done) | (simp [*]; done)), H', ⟨Nat.le_refl _⟩, ⟨by first | exact Kd.R_nil _ _ _ _ _ | exact Kd.N_nil _ _ _ _ _ | exact Kd.V_nil _ _ _ _ _ | exact Kd.Q_nil _ _ _ _ _ | exact Kd.S_nil _ _ _ _ _⟩, ⟨by first | exact Kd.R_nil _ _ _ _ _ | exact Kd.N_nil _ _ _ _ _ | exact Kd.V_nil _ _ _ _ _ | exact Kd.Q_nil _ _ _ _ _ | exact Kd.S_nil _ _ _ _ _⟩, ⟨by first | exact Kd.R_nil _ _ _ _ _ | exact Kd.N_nil _ _ _ _ _ | exact Kd.V_nil _ _ _ _ _ | exact Kd.Q_nil _ _ _ _ _ | exact Kd.S_nil _ _ _ _ _⟩, ⟨by (with_reducible repeat (first | refine blk_drewN ?_ _ | refine blk_drew ?_ | refine blk_alloc ?_ _)); refine blk_far ?_ NB206_209.out _; (with_reducible repeat (first | refine blk_drewN ?_ _ | refine blk_drew ?_ | refine blk_alloc ?_ _)); refine blk_far ?_ NB206_209.out _; (with_reducible repeat (first | refine blk_drewN ?_ _ | refine blk_drew ?_ | refine blk_alloc ?_ _)); refine blk_far ?_ NB206_209.out _; (with_reducible repeat (first | refine blk_drewN ?_ _ | refine blk_drew ?_ | refine blk_alloc ?_ _)); refine blk_far ?_ NB206_209.out _; (with_reducible repeat (first | refine blk_drewN ?_ _ | refine blk_drew ?_ | refine blk_alloc ?_ _)); exact BK206.out⟩, ⟨by (with_reducible repeat (first | refine blk_drewN ?_ _ | refine blk_drew ?_ | refine blk_alloc ?_ _)); refine blk_put (cs := #[.slice none 0 0, .slice none 0 0, .slice none 0 0, .int .i64 0]) ?_ 3 _ rfl; (with_reducible repeat (first | refine blk_drewN ?_ _ | refine blk_drew ?_ | refine blk_alloc ?_ _)); refine blk_put (cs := #[.slice none 0 0, .slice none 0 0, .slice none 0 0, .int .i64 0]) ?_ 2 _ rfl; (with_reducible repeat (first | refine blk_drewN ?_ _ | refine blk_drew ?_ | refine blk_alloc ?_ _)); refine blk_put (cs := #[.slice none 0 0, .slice none 0 0, .slice none 0 0, .int .i64 0]) ?_ 1 _ rfl; (with_reducible repeat (first | refine blk_drewN ?_ _ | refine blk_drew ?_ | refine blk_alloc ?_ _)); refine blk_put (cs := #[.slice none 0 0, .slice none 0 0, .slice none 0 0, .int .i64 0]) ?_ 0 _ rfl; (with_reducible repeat (first | refine blk_drewN ?_ _ | refine blk_drew ?_ | refine blk_alloc ?_ _)); exact BK209.out⟩, ⟨by repeat (first | (with_reducible first | exact HB.out | apply below_alloc | apply pw_below_drewN | apply below_drew1 | refine below_set ?_ GE206.out | refine below_set ?_ GE209.out) | exact HB.out)⟩⟩
      case round =>
        clear H'
        try clear c1
        try clear c2
        try clear p2
        try clear c6
        try clear c6b0
        try clear c6b1
        try clear c8
        try clear c10
        try clear hcz11_0
        try clear hcz11_1
        try clear hcz11_2
        try clear hcz11_3
        try clear hfz11_0
        try clear hfz11_1
        try clear hfz11_2
        try clear hfz11_3
        obtain ⟨x22_1, x210000_1, x210001_1, x210002_1, u210000, u210001, u210002, rfl, HA, HK1, HO_210000, HO_210001, HO_210002, BK206, BK209, HB⟩ := hrel
        cases gk with
        | zero => exact absurd HA.out (by simp [impl_OutboxTick.l0])
        | succ k1 =>
          have H := HA.out
          clear HA
          simp only [impl_OutboxTick.l0] at H
          by_cases c12 : x22_1 < (l0.length : Int)
          · rw [if_pos c12] at H
            have c12b0 : decide (x22_1 < (l0.length : Int)) = true := decide_eq_true c12
            clear c12
            by_cases c13 : 0 ≤ x22_1
            · rw [if_pos c13] at H
              have c13b0 : decide (0 ≤ x22_1) = true := decide_eq_true c13
              clear c13
              by_cases c14 : x22_1 < (l0.length : Int)
              · rw [if_pos c14] at H
                have c14b0 : decide (x22_1 < (l0.length : Int)) = true := decide_eq_true c14
                clear c14
                have HC15 := Aside0.mk H
                clear H
                have p210 : 0 ≤ (x22_1 : Int) := of_decide_eq_true (by first | (with_reducible assumption) | assumption)
                have q210 : x22_1 < (l0.length : Int) := of_decide_eq_true (by first | (with_reducible assumption) | assumption)
                obtain ⟨ad210, e210, hx210_0, hx210_1, hx210_2, hx210_3, hx210_4⟩ := at_T24 HR0.out x22_1 p210 q210
                cases e210
                replace hx210_0 := (HB.out.cell (World.block_lt_of_cell? w _ hx210_0)).trans hx210_0
                replace hx210_1 := (HB.out.cell (World.block_lt_of_cell? w _ hx210_1)).trans hx210_1
                replace hx210_2 := (HB.out.cell (World.block_lt_of_cell? w _ hx210_2)).trans hx210_2
                replace hx210_3 := (HB.out.cell (World.block_lt_of_cell? w _ hx210_3)).trans hx210_3
                replace hx210_4 := (HB.out.cell (World.block_lt_of_cell? w _ hx210_4)).trans hx210_4
                replace p210 := eq_true p210
                replace q210 := eq_true q210
                go_upto_region 10 with (first | ((with_reducible refine gate_dst (N := 8) rfl ?_); refine box_event ?hg (N := 8) ?hd (cs := #[.string (⟨#[]⟩ : ByteArray), .int .i64 0, .string (⟨#[]⟩ : ByteArray), .int .i64 0, .int .i64 0]) (t := 24) ?hr ?_; (case hd => rfl); (case hg => rfl); (case hr => first | (go_simp; done) | (go_simp; rfl)); intro gb211 hg w16 hbox hb; have n0_ := Aside0.mk (Kd.R_below (Kd.R_elderB (by (with_reducible repeat (first | apply Kd.R_alloc | apply Kd.R_drewN | apply Kd.R_drew)); exact HO_210000.out) gb211 (Nat.le_of_eq hg.symm)) hb); have n1_ := Aside0.mk (Kd.R_below (by (with_reducible repeat (first | apply Kd.R_alloc | apply Kd.R_drewN | apply Kd.R_drew)); exact HO_210001.out) hb); have n2_ := Aside0.mk (Kd.R_below (Kd.R_elderB (by (with_reducible repeat (first | apply Kd.R_alloc | apply Kd.R_drewN | apply Kd.R_drew)); exact HO_210002.out) gb211 (Nat.le_of_eq hg.symm)) hb); have n3_ := Aside0.mk (blk_below (g := gb206) (o := .cells #[.slice none 0 0, .slice none 0 0, .slice none 0 0, .int .i64 0] 34 (0, 0)) (by (with_reducible repeat (first | refine blk_drewN ?_ _ | refine blk_drew ?_ | refine blk_alloc ?_ _)); exact BK206.out) hb); have n4_ := Aside0.mk (blk_below (g := gb209) (o := .cells #[u210000, u210001, u210002, .int .i64 0] 34 (0, 0)) (by (with_reducible repeat (first | refine blk_drewN ?_ _ | refine blk_drew ?_ | refine blk_alloc ?_ _)); exact BK209.out) hb); have n5_ := Aside0.mk (below_step (by repeat (first | (with_reducible first | exact HB.out | apply below_alloc | apply pw_below_drewN | apply below_drew1 | refine below_set ?_ GE206.out | refine below_set ?_ GE209.out) | exact HB.out)) hb); have n6_ := Aside0.mk (hbox); have n7_ := Aside0.mk ((by rw [hg]; exact (below_size (by repeat (first | (with_reducible first | exact HB.out | apply below_alloc | apply pw_below_drewN | apply below_drew1 | refine below_set ?_ GE206.out | refine below_set ?_ GE209.out) | exact HB.out))) : w.heap.size ≤ gb211)); have n8_ := Aside0.mk ((by rw [hg]; exact (below_size (by repeat (first | (with_reducible first | exact HB.out | apply below_alloc | apply pw_below_drewN | apply below_drew1 | refine below_set ?_ GE206.out | refine below_set ?_ GE209.out) | exact HB.out))) : w.heap.size ≤ gb211)); have n9_ := Aside0.mk ((by rw [hg]; exact Nat.ne_of_lt (blk_lt (g := gb206) (o := .cells #[.slice none 0 0, .slice none 0 0, .slice none 0 0, .int .i64 0] 34 (0, 0)) (by (with_reducible repeat (first | refine blk_drewN ?_ _ | refine blk_drew ?_ | refine blk_alloc ?_ _)); exact BK206.out)) : gb206 ≠ gb211)); have n10_ := Aside0.mk ((by rw [hg]; exact Nat.ne_of_gt (blk_lt (g := gb206) (o := .cells #[.slice none 0 0, .slice none 0 0, .slice none 0 0, .int .i64 0] 34 (0, 0)) (by (with_reducible repeat (first | refine blk_drewN ?_ _ | refine blk_drew ?_ | refine blk_alloc ?_ _)); exact BK206.out)) : gb211 ≠ gb206)); have n11_ := Aside0.mk ((by rw [hg]; exact Nat.ne_of_lt (blk_lt (g := gb209) (o := .cells #[u210000, u210001, u210002, .int .i64 0] 34 (0, 0)) (by (with_reducible repeat (first | refine blk_drewN ?_ _ | refine blk_drew ?_ | refine blk_alloc ?_ _)); exact BK209.out)) : gb209 ≠ gb211)); have n12_ := Aside0.mk ((by rw [hg]; exact Nat.ne_of_gt (blk_lt (g := gb209) (o := .cells #[u210000, u210001, u210002, .int .i64 0] 34 (0, 0)) (by (with_reducible repeat (first | refine blk_drewN ?_ _ | refine blk_drew ?_ | refine blk_alloc ?_ _)); exact BK209.out)) : gb211 ≠ gb209)); clear HO_210000; clear HO_210001; clear HO_210002; clear BK206; clear BK209; clear HB; have HO_210000 := n0_; have HO_210001 := n1_; have HO_210002 := n2_; have BK206 := n3_; have BK209 := n4_; have HB := n5_; have BK211 := n6_; have GW211 := n7_; have GE211 := n8_; have NB206_211 := n9_; have NB211_206 := n10_; have NB209_211 := n11_; have NB211_209 := n12_; clear n0_ n1_ n2_ n3_ n4_ n5_ n6_ n7_ n8_ n9_ n10_ n11_ n12_; clear hb hbox hg; have hnb17 := NB211_206.out; have hnc17 := NB206_211.out; have hnb18 := NB211_209.out; have hnc18 := NB209_211.out; have hcz19_0 : w16.cell? ⟨gb211, 0, none⟩ = some (.string (⟨#[]⟩ : ByteArray)) := (blk_cell BK211.out 0).trans rfl; have hcz19_1 : w16.cell? ⟨gb211, 1, none⟩ = some (.int .i64 0) := (blk_cell BK211.out 1).trans rfl; have hcz19_2 : w16.cell? ⟨gb211, 2, none⟩ = some (.string (⟨#[]⟩ : ByteArray)) := (blk_cell BK211.out 2).trans rfl; have hcz19_3 : w16.cell? ⟨gb211, 3, none⟩ = some (.int .i64 0) := (blk_cell BK211.out 3).trans rfl; have hcz19_4 : w16.cell? ⟨gb211, 4, none⟩ = some (.int .i64 0) := (blk_cell BK211.out 4).trans rfl; have hfz19_0 := blk_frozen BK211.out 0; have hfz19_1 := blk_frozen BK211.out 1; have hfz19_2 := blk_frozen BK211.out 2; have hfz19_3 := blk_frozen BK211.out 3; have hfz19_4 := blk_frozen BK211.out 4))
                (try simp only [Act.put, List.setIfInBounds_toArray, List.set_cons_zero, List.set_cons_succ])
                go_cut [34] (fun v34 wc => ∃ (kq : Nat) (x34_14 : Bool), v34 = .bool x34_14 ∧ Aside0 (impl_OutboxTick.j1 kq a1 l0 (l0.length : Int) x22_1 x34_14 x210000_1 x210001_1 x210002_1 0 ((rd_T24 l0 x22_1).f0) ((rd_T24 l0 x22_1).f1) ((rd_T24 l0 x22_1).f2) ((rd_T24 l0 x22_1).f3) ((rd_T24 l0 x22_1).f4) = some (r1, r2, r3, r4)) ∧ Aside0 (kq ≤ k1) ∧ Aside0 (Kd.R k24 24 wc w.heap.size (fun k_ => some k_ ≠ (u210002 : Value).ownBlock ∧ k_ ≠ gb211) u210000 x210000_1) ∧ Aside0 (Kd.R k105 105 wc w.heap.size (fun _ => True) u210001 x210001_1) ∧ Aside0 (Kd.R k24 24 wc w.heap.size (fun k_ => some k_ ≠ (u210000 : Value).ownBlock ∧ k_ ≠ gb211) u210002 x210002_1) ∧ Aside0 (wc.heap[gb206]? = some (.cells #[(.slice none 0 0), (.slice none 0 0), (.slice none 0 0), .int .i64 0] 34 (0, 0))) ∧ Aside0 (wc.heap[gb209]? = some (.cells #[u210000, u210001, u210002, .int .i64 0] 34 (0, 0))) ∧ Aside0 (wc.heap[gb211]? = some (.cells #[.string ((rd_T24 l0 x22_1).f0), .int .i64 ((rd_T24 l0 x22_1).f1), .string ((rd_T24 l0 x22_1).f2), .int .i64 ((rd_T24 l0 x22_1).f3), .int .i64 ((rd_T24 l0 x22_1).f4)] 24 (0, 0))) ∧ Aside0 (Below w.heap.size w wc))
                case first =>
                  have H := HC15.out
                  clear HC15
                  by_cases c20 : ((rd_T24 l0 x22_1).f4) ≤ a1
                  · rw [if_pos c20] at H
                    have c20b0 : decide (((rd_T24 l0 x22_1).f4) ≤ a1) = true := decide_eq_true c20
                    clear c20
                    (first | rw [c20b0] | (simp only [i64_w, i32_w]; rw [c20b0]) | skip)
                    have H' := Aside0.mk H
                    clear H
                    have hnb21 := NB211_206.out
                    have hnc21 := NB206_211.out
                    have hnb22 := NB211_209.out
                    have hnc22 := NB209_211.out
                    have hcz23_0 : w16.cell? ⟨gb211, 0, none⟩ = some (.string (⟨#[]⟩ : ByteArray)) := (blk_cell BK211.out 0).trans rfl
                    have hcz23_1 : w16.cell? ⟨gb211, 1, none⟩ = some (.int .i64 0) := (blk_cell BK211.out 1).trans rfl
                    have hcz23_2 : w16.cell? ⟨gb211, 2, none⟩ = some (.string (⟨#[]⟩ : ByteArray)) := (blk_cell BK211.out 2).trans rfl
                    have hcz23_3 : w16.cell? ⟨gb211, 3, none⟩ = some (.int .i64 0) := (blk_cell BK211.out 3).trans rfl
                    have hcz23_4 : w16.cell? ⟨gb211, 4, none⟩ = some (.int .i64 0) := (blk_cell BK211.out 4).trans rfl
                    have hfz23_0 := blk_frozen BK211.out 0
                    have hfz23_1 := blk_frozen BK211.out 1
                    have hfz23_2 := blk_frozen BK211.out 2
                    have hfz23_3 := blk_frozen BK211.out 3
                    have hfz23_4 := blk_frozen BK211.out 4
                    go_wp2
                    go_meet
                    case rel => exact ⟨_, ((((rd_T24 l0 x22_1).f3) == 5)), (by first | rfl | (simp; done) | (simp [*]; done)), H', ⟨by have := HK1.out; first | omega | exact Nat.le_refl _⟩, ⟨by (with_reducible repeat (first | apply Kd.R_alloc | apply Kd.R_drewN | apply Kd.R_drew)); exact Kd.R_mono (Kd.R_far (p := ⟨gb211, 4, none⟩) (Kd.R_far (p := ⟨gb211, 3, none⟩) (Kd.R_far (p := ⟨gb211, 2, none⟩) (Kd.R_far (p := ⟨gb211, 1, none⟩) (Kd.R_far (p := ⟨gb211, 0, none⟩) (Kd.R_mono HO_210000.out (fun k_ hk => (⟨hk, hk.2⟩ : _ ∧ k_ ≠ gb211))) (fun _ hk => hk.2) (.string ((rd_T24 l0 x22_1).f0))) (fun _ hk => hk.2) (.int .i64 ((rd_T24 l0 x22_1).f1))) (fun _ hk => hk.2) (.string ((rd_T24 l0 x22_1).f2))) (fun _ hk => hk.2) (.int .i64 ((rd_T24 l0 x22_1).f3))) (fun _ hk => hk.2) (.int .i64 ((rd_T24 l0 x22_1).f4))) (fun _ hk => ⟨hk.1.1, hk.1.2⟩)⟩, ⟨by (with_reducible repeat (first | apply Kd.R_alloc | apply Kd.R_drewN | apply Kd.R_drew)); exact Kd.R_mono (Kd.R_far (p := ⟨gb211, 4, none⟩) (Kd.R_far (p := ⟨gb211, 3, none⟩) (Kd.R_far (p := ⟨gb211, 2, none⟩) (Kd.R_far (p := ⟨gb211, 1, none⟩) (Kd.R_far (p := ⟨gb211, 0, none⟩) (Kd.R_types HO_210001.out BK211.out (by decide)) (fun _ hk => hk.2) (.string ((rd_T24 l0 x22_1).f0))) (fun _ hk => hk.2) (.int .i64 ((rd_T24 l0 x22_1).f1))) (fun _ hk => hk.2) (.string ((rd_T24 l0 x22_1).f2))) (fun _ hk => hk.2) (.int .i64 ((rd_T24 l0 x22_1).f3))) (fun _ hk => hk.2) (.int .i64 ((rd_T24 l0 x22_1).f4))) (fun _ hk => trivial)⟩, ⟨by (with_reducible repeat (first | apply Kd.R_alloc | apply Kd.R_drewN | apply Kd.R_drew)); exact Kd.R_mono (Kd.R_far (p := ⟨gb211, 4, none⟩) (Kd.R_far (p := ⟨gb211, 3, none⟩) (Kd.R_far (p := ⟨gb211, 2, none⟩) (Kd.R_far (p := ⟨gb211, 1, none⟩) (Kd.R_far (p := ⟨gb211, 0, none⟩) (Kd.R_mono HO_210002.out (fun k_ hk => (⟨hk, hk.2⟩ : _ ∧ k_ ≠ gb211))) (fun _ hk => hk.2) (.string ((rd_T24 l0 x22_1).f0))) (fun _ hk => hk.2) (.int .i64 ((rd_T24 l0 x22_1).f1))) (fun _ hk => hk.2) (.string ((rd_T24 l0 x22_1).f2))) (fun _ hk => hk.2) (.int .i64 ((rd_T24 l0 x22_1).f3))) (fun _ hk => hk.2) (.int .i64 ((rd_T24 l0 x22_1).f4))) (fun _ hk => ⟨hk.1.1, hk.1.2⟩)⟩, ⟨by (with_reducible repeat (first | refine blk_drewN ?_ _ | refine blk_drew ?_ | refine blk_alloc ?_ _)); refine blk_far ?_ NB206_211.out _; (with_reducible repeat (first | refine blk_drewN ?_ _ | refine blk_drew ?_ | refine blk_alloc ?_ _)); refine blk_far ?_ NB206_211.out _; (with_reducible repeat (first | refine blk_drewN ?_ _ | refine blk_drew ?_ | refine blk_alloc ?_ _)); refine blk_far ?_ NB206_211.out _; (with_reducible repeat (first | refine blk_drewN ?_ _ | refine blk_drew ?_ | refine blk_alloc ?_ _)); refine blk_far ?_ NB206_211.out _; (with_reducible repeat (first | refine blk_drewN ?_ _ | refine blk_drew ?_ | refine blk_alloc ?_ _)); refine blk_far ?_ NB206_211.out _; (with_reducible repeat (first | refine blk_drewN ?_ _ | refine blk_drew ?_ | refine blk_alloc ?_ _)); exact BK206.out⟩, ⟨by (with_reducible repeat (first | refine blk_drewN ?_ _ | refine blk_drew ?_ | refine blk_alloc ?_ _)); refine blk_far ?_ NB209_211.out _; (with_reducible repeat (first | refine blk_drewN ?_ _ | refine blk_drew ?_ | refine blk_alloc ?_ _)); refine blk_far ?_ NB209_211.out _; (with_reducible repeat (first | refine blk_drewN ?_ _ | refine blk_drew ?_ | refine blk_alloc ?_ _)); refine blk_far ?_ NB209_211.out _; (with_reducible repeat (first | refine blk_drewN ?_ _ | refine blk_drew ?_ | refine blk_alloc ?_ _)); refine blk_far ?_ NB209_211.out _; (with_reducible repeat (first | refine blk_drewN ?_ _ | refine blk_drew ?_ | refine blk_alloc ?_ _)); refine blk_far ?_ NB209_211.out _; (with_reducible repeat (first | refine blk_drewN ?_ _ | refine blk_drew ?_ | refine blk_alloc ?_ _)); exact BK209.out⟩, ⟨by (with_reducible repeat (first | refine blk_drewN ?_ _ | refine blk_drew ?_ | refine blk_alloc ?_ _)); refine blk_put (cs := #[.string ((rd_T24 l0 x22_1).f0), .int .i64 ((rd_T24 l0 x22_1).f1), .string ((rd_T24 l0 x22_1).f2), .int .i64 ((rd_T24 l0 x22_1).f3), .int .i64 0]) ?_ 4 _ rfl; (with_reducible repeat (first | refine blk_drewN ?_ _ | refine blk_drew ?_ | refine blk_alloc ?_ _)); refine blk_put (cs := #[.string ((rd_T24 l0 x22_1).f0), .int .i64 ((rd_T24 l0 x22_1).f1), .string ((rd_T24 l0 x22_1).f2), .int .i64 0, .int .i64 0]) ?_ 3 _ rfl; (with_reducible repeat (first | refine blk_drewN ?_ _ | refine blk_drew ?_ | refine blk_alloc ?_ _)); refine blk_put (cs := #[.string ((rd_T24 l0 x22_1).f0), .int .i64 ((rd_T24 l0 x22_1).f1), .string (⟨#[]⟩ : ByteArray), .int .i64 0, .int .i64 0]) ?_ 2 _ rfl; (with_reducible repeat (first | refine blk_drewN ?_ _ | refine blk_drew ?_ | refine blk_alloc ?_ _)); refine blk_put (cs := #[.string ((rd_T24 l0 x22_1).f0), .int .i64 0, .string (⟨#[]⟩ : ByteArray), .int .i64 0, .int .i64 0]) ?_ 1 _ rfl; (with_reducible repeat (first | refine blk_drewN ?_ _ | refine blk_drew ?_ | refine blk_alloc ?_ _)); refine blk_put (cs := #[.string (⟨#[]⟩ : ByteArray), .int .i64 0, .string (⟨#[]⟩ : ByteArray), .int .i64 0, .int .i64 0]) ?_ 0 _ rfl; (with_reducible repeat (first | refine blk_drewN ?_ _ | refine blk_drew ?_ | refine blk_alloc ?_ _)); exact BK211.out⟩, ⟨by repeat (first | (with_reducible first | exact HB.out | apply below_alloc | apply pw_below_drewN | apply below_drew1 | refine below_set ?_ GE206.out | refine below_set ?_ GE209.out | refine below_set ?_ GE211.out) | exact HB.out)⟩⟩
                  · rw [if_neg c20] at H
                    have c20b0 : decide (((rd_T24 l0 x22_1).f4) ≤ a1) = false := decide_eq_false c20
                    clear c20
                    (first | rw [c20b0] | (simp only [i64_w, i32_w]; rw [c20b0]) | skip)
                    have H' := Aside0.mk H
                    clear H
                    have hnb24 := NB211_206.out
                    have hnc24 := NB206_211.out
                    have hnb25 := NB211_209.out
                    have hnc25 := NB209_211.out
                    have hcz26_0 : w16.cell? ⟨gb211, 0, none⟩ = some (.string (⟨#[]⟩ : ByteArray)) := (blk_cell BK211.out 0).trans rfl
                    have hcz26_1 : w16.cell? ⟨gb211, 1, none⟩ = some (.int .i64 0) := (blk_cell BK211.out 1).trans rfl
                    have hcz26_2 : w16.cell? ⟨gb211, 2, none⟩ = some (.string (⟨#[]⟩ : ByteArray)) := (blk_cell BK211.out 2).trans rfl
                    have hcz26_3 : w16.cell? ⟨gb211, 3, none⟩ = some (.int .i64 0) := (blk_cell BK211.out 3).trans rfl
                    have hcz26_4 : w16.cell? ⟨gb211, 4, none⟩ = some (.int .i64 0) := (blk_cell BK211.out 4).trans rfl
                    have hfz26_0 := blk_frozen BK211.out 0
                    have hfz26_1 := blk_frozen BK211.out 1
                    have hfz26_2 := blk_frozen BK211.out 2
                    have hfz26_3 := blk_frozen BK211.out 3
                    have hfz26_4 := blk_frozen BK211.out 4
                    go_wp2
                    go_meet
                    case rel => exact ⟨_, (false), (by first | rfl | (simp; done) | (simp [*]; done)), H', ⟨by have := HK1.out; first | omega | exact Nat.le_refl _⟩, ⟨by (with_reducible repeat (first | apply Kd.R_alloc | apply Kd.R_drewN | apply Kd.R_drew)); exact Kd.R_mono (Kd.R_far (p := ⟨gb211, 4, none⟩) (Kd.R_far (p := ⟨gb211, 3, none⟩) (Kd.R_far (p := ⟨gb211, 2, none⟩) (Kd.R_far (p := ⟨gb211, 1, none⟩) (Kd.R_far (p := ⟨gb211, 0, none⟩) (Kd.R_mono HO_210000.out (fun k_ hk => (⟨hk, hk.2⟩ : _ ∧ k_ ≠ gb211))) (fun _ hk => hk.2) (.string ((rd_T24 l0 x22_1).f0))) (fun _ hk => hk.2) (.int .i64 ((rd_T24 l0 x22_1).f1))) (fun _ hk => hk.2) (.string ((rd_T24 l0 x22_1).f2))) (fun _ hk => hk.2) (.int .i64 ((rd_T24 l0 x22_1).f3))) (fun _ hk => hk.2) (.int .i64 ((rd_T24 l0 x22_1).f4))) (fun _ hk => ⟨hk.1.1, hk.1.2⟩)⟩, ⟨by (with_reducible repeat (first | apply Kd.R_alloc | apply Kd.R_drewN | apply Kd.R_drew)); exact Kd.R_mono (Kd.R_far (p := ⟨gb211, 4, none⟩) (Kd.R_far (p := ⟨gb211, 3, none⟩) (Kd.R_far (p := ⟨gb211, 2, none⟩) (Kd.R_far (p := ⟨gb211, 1, none⟩) (Kd.R_far (p := ⟨gb211, 0, none⟩) (Kd.R_types HO_210001.out BK211.out (by decide)) (fun _ hk => hk.2) (.string ((rd_T24 l0 x22_1).f0))) (fun _ hk => hk.2) (.int .i64 ((rd_T24 l0 x22_1).f1))) (fun _ hk => hk.2) (.string ((rd_T24 l0 x22_1).f2))) (fun _ hk => hk.2) (.int .i64 ((rd_T24 l0 x22_1).f3))) (fun _ hk => hk.2) (.int .i64 ((rd_T24 l0 x22_1).f4))) (fun _ hk => trivial)⟩, ⟨by (with_reducible repeat (first | apply Kd.R_alloc | apply Kd.R_drewN | apply Kd.R_drew)); exact Kd.R_mono (Kd.R_far (p := ⟨gb211, 4, none⟩) (Kd.R_far (p := ⟨gb211, 3, none⟩) (Kd.R_far (p := ⟨gb211, 2, none⟩) (Kd.R_far (p := ⟨gb211, 1, none⟩) (Kd.R_far (p := ⟨gb211, 0, none⟩) (Kd.R_mono HO_210002.out (fun k_ hk => (⟨hk, hk.2⟩ : _ ∧ k_ ≠ gb211))) (fun _ hk => hk.2) (.string ((rd_T24 l0 x22_1).f0))) (fun _ hk => hk.2) (.int .i64 ((rd_T24 l0 x22_1).f1))) (fun _ hk => hk.2) (.string ((rd_T24 l0 x22_1).f2))) (fun _ hk => hk.2) (.int .i64 ((rd_T24 l0 x22_1).f3))) (fun _ hk => hk.2) (.int .i64 ((rd_T24 l0 x22_1).f4))) (fun _ hk => ⟨hk.1.1, hk.1.2⟩)⟩, ⟨by (with_reducible repeat (first | refine blk_drewN ?_ _ | refine blk_drew ?_ | refine blk_alloc ?_ _)); refine blk_far ?_ NB206_211.out _; (with_reducible repeat (first | refine blk_drewN ?_ _ | refine blk_drew ?_ | refine blk_alloc ?_ _)); refine blk_far ?_ NB206_211.out _; (with_reducible repeat (first | refine blk_drewN ?_ _ | refine blk_drew ?_ | refine blk_alloc ?_ _)); refine blk_far ?_ NB206_211.out _; (with_reducible repeat (first | refine blk_drewN ?_ _ | refine blk_drew ?_ | refine blk_alloc ?_ _)); refine blk_far ?_ NB206_211.out _; (with_reducible repeat (first | refine blk_drewN ?_ _ | refine blk_drew ?_ | refine blk_alloc ?_ _)); refine blk_far ?_ NB206_211.out _; (with_reducible repeat (first | refine blk_drewN ?_ _ | refine blk_drew ?_ | refine blk_alloc ?_ _)); exact BK206.out⟩, ⟨by (with_reducible repeat (first | refine blk_drewN ?_ _ | refine blk_drew ?_ | refine blk_alloc ?_ _)); refine blk_far ?_ NB209_211.out _; (with_reducible repeat (first | refine blk_drewN ?_ _ | refine blk_drew ?_ | refine blk_alloc ?_ _)); refine blk_far ?_ NB209_211.out _; (with_reducible repeat (first | refine blk_drewN ?_ _ | refine blk_drew ?_ | refine blk_alloc ?_ _)); refine blk_far ?_ NB209_211.out _; (with_reducible repeat (first | refine blk_drewN ?_ _ | refine blk_drew ?_ | refine blk_alloc ?_ _)); refine blk_far ?_ NB209_211.out _; (with_reducible repeat (first | refine blk_drewN ?_ _ | refine blk_drew ?_ | refine blk_alloc ?_ _)); refine blk_far ?_ NB209_211.out _; (with_reducible repeat (first | refine blk_drewN ?_ _ | refine blk_drew ?_ | refine blk_alloc ?_ _)); exact BK209.out⟩, ⟨by (with_reducible repeat (first | refine blk_drewN ?_ _ | refine blk_drew ?_ | refine blk_alloc ?_ _)); refine blk_put (cs := #[.string ((rd_T24 l0 x22_1).f0), .int .i64 ((rd_T24 l0 x22_1).f1), .string ((rd_T24 l0 x22_1).f2), .int .i64 ((rd_T24 l0 x22_1).f3), .int .i64 0]) ?_ 4 _ rfl; (with_reducible repeat (first | refine blk_drewN ?_ _ | refine blk_drew ?_ | refine blk_alloc ?_ _)); refine blk_put (cs := #[.string ((rd_T24 l0 x22_1).f0), .int .i64 ((rd_T24 l0 x22_1).f1), .string ((rd_T24 l0 x22_1).f2), .int .i64 0, .int .i64 0]) ?_ 3 _ rfl; (with_reducible repeat (first | refine blk_drewN ?_ _ | refine blk_drew ?_ | refine blk_alloc ?_ _)); refine blk_put (cs := #[.string ((rd_T24 l0 x22_1).f0), .int .i64 ((rd_T24 l0 x22_1).f1), .string (⟨#[]⟩ : ByteArray), .int .i64 0, .int .i64 0]) ?_ 2 _ rfl; (with_reducible repeat (first | refine blk_drewN ?_ _ | refine blk_drew ?_ | refine blk_alloc ?_ _)); refine blk_put (cs := #[.string ((rd_T24 l0 x22_1).f0), .int .i64 0, .string (⟨#[]⟩ : ByteArray), .int .i64 0, .int .i64 0]) ?_ 1 _ rfl; (with_reducible repeat (first | refine blk_drewN ?_ _ | refine blk_drew ?_ | refine blk_alloc ?_ _)); refine blk_put (cs := #[.string (⟨#[]⟩ : ByteArray), .int .i64 0, .string (⟨#[]⟩ : ByteArray), .int .i64 0, .int .i64 0]) ?_ 0 _ rfl; (with_reducible repeat (first | refine blk_drewN ?_ _ | refine blk_drew ?_ | refine blk_alloc ?_ _)); exact BK211.out⟩, ⟨by repeat (first | (with_reducible first | exact HB.out | apply below_alloc | apply pw_below_drewN | apply below_drew1 | refine below_set ?_ GE206.out | refine below_set ?_ GE209.out | refine below_set ?_ GE211.out) | exact HB.out)⟩⟩
                case rest =>
                  clear HC15
                  try clear c1
                  try clear c2
                  try clear p2
                  try clear q2
                  try clear hx2
                  try clear c6
                  try clear c6b0
                  try clear c6b1
                  try clear c8
                  try clear c10
                  try clear c12
                  try clear c12b0
                  try clear c13
                  try clear c13b0
                  try clear c14
                  try clear c14b0
                  try clear c17
                  try clear c18
                  try clear c20
                  try clear c20b0
                  try clear c21
                  try clear p21
                  try clear q21
                  try clear hx21
                  try clear c22
                  try clear c24
                  try clear c25
                  try clear hcz11_0
                  try clear hcz11_1
                  try clear hcz11_2
                  try clear hcz11_3
                  try clear hcz19_0
                  try clear hcz19_1
                  try clear hcz19_2
                  try clear hcz19_3
                  try clear hcz19_4
                  try clear hcz23_0
                  try clear hcz23_1
                  try clear hcz23_2
                  try clear hcz23_3
                  try clear hcz23_4
                  try clear hcz26_0
                  try clear hcz26_1
                  try clear hcz26_2
                  try clear hcz26_3
                  try clear hcz26_4
                  try clear hfz11_0
                  try clear hfz11_1
                  try clear hfz11_2
                  try clear hfz11_3
                  try clear hfz19_0
                  try clear hfz19_1
                  try clear hfz19_2
                  try clear hfz19_3
                  try clear hfz19_4
                  try clear hfz23_0
                  try clear hfz23_1
                  try clear hfz23_2
                  try clear hfz23_3
                  try clear hfz23_4
                  try clear hfz26_0
                  try clear hfz26_1
                  try clear hfz26_2
                  try clear hfz26_3
                  try clear hfz26_4
                  try clear hx210_0
                  try clear hx210_1
                  try clear hx210_2
                  try clear hx210_3
                  try clear hx210_4
                  try clear p2
                  try clear p210
                  try clear q210
                  obtain ⟨kq, x34_14, rfl, HA, HJ14, HO_210000, HO_210001, HO_210002, BK206, BK209, BK211, HB⟩ := hcut
                  cases kq with
                  | zero => exact absurd HA.out (by simp [impl_OutboxTick.j1])
                  | succ kj14 =>
                    have H := HA.out
                    clear HA
                    simp only [impl_OutboxTick.j1] at H
                    by_cases c27 : x34_14 = true
                    · subst c27
                      have H1 : (if x210002_1.length < 2513169434916 then (impl_OutboxTick.l0 kj14 a1 l0 (l0.length : Int) (wrap64 (x22_1 + 1)) x210000_1 x210001_1 (x210002_1 ++ [(⟨((rd_T24 l0 x22_1).f0), ((rd_T24 l0 x22_1).f1), ((rd_T24 l0 x22_1).f2), ((rd_T24 l0 x22_1).f3), ((rd_T24 l0 x22_1).f4)⟩ : S24)]) 0) else (none)) = some (r1, r2, r3, r4) := by rw [if_pos rfl] at H; exact H
                      clear H
                      have H := H1
                      clear H1
                      by_cases c28 : x210002_1.length < 2513169434916
                      · rw [if_pos c28] at H
                        have LMc28 := Aside0.mk c28
                        clear c28
                        obtain ⟨y212, hy212⟩ : ∃ y_ : List (S24), y_ = (x210002_1 ++ [(⟨((rd_T24 l0 x22_1).f0), ((rd_T24 l0 x22_1).f1), ((rd_T24 l0 x22_1).f2), ((rd_T24 l0 x22_1).f3), ((rd_T24 l0 x22_1).f4)⟩ : S24)]) := ⟨_, rfl⟩
                        replace H : (impl_OutboxTick.l0 kj14 a1 l0 (l0.length : Int) (wrap64 (x22_1 + 1)) x210000_1 x210001_1 y212 0) = some (r1, r2, r3, r4) := by first | (rw [hy212]; with_reducible exact H) | (have H2_ := (Option.bind_some _ _).symm.trans H; rw [hy212]; with_reducible exact H2_) | (have H2_ := (Option.bind_some _ _).symm.trans H; with_reducible exact H2_) | with_reducible exact H | (rw [hy212]; exact H) | exact H
                        have Ny212 := Aside0.mk hy212
                        clear hy212
                        have H' := Aside0.mk H
                        clear H
                        have hnb29 := NB209_206.out
                        have hnc29 := NB206_209.out
                        have hnb30 := NB209_211.out
                        have hnc30 := NB211_209.out
                        have hcz31_0 : wc.cell? ⟨gb209, 0, none⟩ = some (u210000) := (blk_cell BK209.out 0).trans rfl
                        have hcz31_1 : wc.cell? ⟨gb209, 1, none⟩ = some (u210001) := (blk_cell BK209.out 1).trans rfl
                        have hcz31_2 : wc.cell? ⟨gb209, 2, none⟩ = some (u210002) := (blk_cell BK209.out 2).trans rfl
                        have hcz31_3 : wc.cell? ⟨gb209, 3, none⟩ = some (.int .i64 0) := (blk_cell BK209.out 3).trans rfl
                        have hfz31_0 := blk_frozen BK209.out 0
                        have hfz31_1 := blk_frozen BK209.out 1
                        have hfz31_2 := blk_frozen BK209.out 2
                        have hfz31_3 := blk_frozen BK209.out 3
                        have hnb32 := NB211_206.out
                        have hnc32 := NB206_211.out
                        have hcz33_0 : wc.cell? ⟨gb211, 0, none⟩ = some (.string ((rd_T24 l0 x22_1).f0)) := (blk_cell BK211.out 0).trans rfl
                        have hcz33_1 : wc.cell? ⟨gb211, 1, none⟩ = some (.int .i64 ((rd_T24 l0 x22_1).f1)) := (blk_cell BK211.out 1).trans rfl
                        have hcz33_2 : wc.cell? ⟨gb211, 2, none⟩ = some (.string ((rd_T24 l0 x22_1).f2)) := (blk_cell BK211.out 2).trans rfl
                        have hcz33_3 : wc.cell? ⟨gb211, 3, none⟩ = some (.int .i64 ((rd_T24 l0 x22_1).f3)) := (blk_cell BK211.out 3).trans rfl
                        have hcz33_4 : wc.cell? ⟨gb211, 4, none⟩ = some (.int .i64 ((rd_T24 l0 x22_1).f4)) := (blk_cell BK211.out 4).trans rfl
                        have hfz33_0 := blk_frozen BK211.out 0
                        have hfz33_1 := blk_frozen BK211.out 1
                        have hfz33_2 := blk_frozen BK211.out 2
                        have hfz33_3 := blk_frozen BK211.out 3
                        have hfz33_4 := blk_frozen BK211.out 4
                        go_wp2_with (first | ((with_reducible refine gate_builtin (b := .append) (xs := #[.tmp 36, .tmp 38]) rfl ?_); at_builtin; refine Kd.R_append k24 (w0 := w) w.heap.size rfl (.tmp 36) (.tmp 38) 29 24 (.agg #[(.string ⟨#[]⟩), (.int .i64 0), (.string ⟨#[]⟩), (.int .i64 0), (.int .i64 0)]) 56 rfl Try.underlying29 info24 rfl (by decide) (by omega) u210002 x210002_1 (⟨((rd_T24 l0 x22_1).f0), ((rd_T24 l0 x22_1).f1), ((rd_T24 l0 x22_1).f2), ((rd_T24 l0 x22_1).f3), ((rd_T24 l0 x22_1).f4)⟩ : S24) [.string ((rd_T24 l0 x22_1).f0), .int .i64 ((rd_T24 l0 x22_1).f1), .string ((rd_T24 l0 x22_1).f2), .int .i64 ((rd_T24 l0 x22_1).f3), .int .i64 ((rd_T24 l0 x22_1).f4)] (fun k_ => some k_ ≠ (u210000 : Value).ownBlock ∧ k_ ≠ gb211) (fun _ => False) rfl rfl ?aP (fun _ hk => hk.elim) ?aF ?aO ?aB ?aS ?aL ?_; (case aP => exact k24_mkM _ _ _ (⟨((rd_T24 l0 x22_1).f0), ((rd_T24 l0 x22_1).f1), ((rd_T24 l0 x22_1).f2), ((rd_T24 l0 x22_1).f3), ((rd_T24 l0 x22_1).f4)⟩ : S24)); (case aB => exact (by repeat (first | (with_reducible first | exact HB.out | apply below_alloc | apply pw_below_drewN | apply below_drew1 | refine below_set ?_ GE206.out | refine below_set ?_ GE209.out | refine below_set ?_ GE211.out) | exact HB.out))); (case aF => exact (fun k_ hk => ⟨Kd.fresh' (Kd.R_lt (by (with_reducible repeat (first | apply Kd.R_alloc | apply Kd.R_drewN | apply Kd.R_drew)); exact HO_210000.out)) k_ hk, Kd.freshB (g := gb211) (o := .cells #[.string ((rd_T24 l0 x22_1).f0), .int .i64 ((rd_T24 l0 x22_1).f1), .string ((rd_T24 l0 x22_1).f2), .int .i64 ((rd_T24 l0 x22_1).f3), .int .i64 ((rd_T24 l0 x22_1).f4)] 24 (0, 0)) (by (with_reducible repeat (first | refine blk_drewN ?_ _ | refine blk_drew ?_ | refine blk_alloc ?_ _)); exact BK211.out) k_ hk⟩)); (case aO => exact (by (with_reducible repeat (first | apply Kd.R_alloc | apply Kd.R_drewN | apply Kd.R_drew)); exact HO_210002.out)); (case aS => exact (below_size (by repeat (first | (with_reducible first | exact HB.out | apply below_alloc | apply pw_below_drewN | apply below_drew1 | refine below_set ?_ GE206.out | refine below_set ?_ GE209.out | refine below_set ?_ GE211.out) | exact HB.out)))); (case aL => have := LMc28.out; omega); intro v213 w34 ho hb hg hat; rw [← Ny212.out] at ho; have n0_ := Aside0.mk (Kd.R_after (ok := (fun k_ => k_ ≠ gb211)) (by (with_reducible repeat (first | apply Kd.R_alloc | apply Kd.R_drewN | apply Kd.R_drew)); exact Kd.R_mono HO_210000.out (fun _ hk => ⟨hk.2, hk.1⟩)) hg hat); have n1_ := Aside0.mk (Kd.R_over' (by (with_reducible repeat (first | apply Kd.R_alloc | apply Kd.R_drewN | apply Kd.R_drew)); exact HO_210001.out) (Kd.R_typed (by (with_reducible repeat (first | apply Kd.R_alloc | apply Kd.R_drewN | apply Kd.R_drew)); exact HO_210002.out)) (by decide) hg); have n2_ := Aside0.mk (blk_grown (g := gb206) (o := .cells #[.slice none 0 0, .slice none 0 0, .slice none 0 0, .int .i64 0] 34 (0, 0)) (by (with_reducible repeat (first | refine blk_drewN ?_ _ | refine blk_drew ?_ | refine blk_alloc ?_ _)); exact BK206.out) hg (Kd.R_ne HO_210002.out BK206.out (by decide))); have n3_ := Aside0.mk (blk_grown (g := gb209) (o := .cells #[u210000, u210001, u210002, .int .i64 0] 34 (0, 0)) (by (with_reducible repeat (first | refine blk_drewN ?_ _ | refine blk_drew ?_ | refine blk_alloc ?_ _)); exact BK209.out) hg (Kd.R_ne HO_210002.out BK209.out (by decide))); have n4_ := Aside0.mk (blk_grown (g := gb211) (o := .cells #[.string ((rd_T24 l0 x22_1).f0), .int .i64 ((rd_T24 l0 x22_1).f1), .string ((rd_T24 l0 x22_1).f2), .int .i64 ((rd_T24 l0 x22_1).f3), .int .i64 ((rd_T24 l0 x22_1).f4)] 24 (0, 0)) (by (with_reducible repeat (first | refine blk_drewN ?_ _ | refine blk_drew ?_ | refine blk_alloc ?_ _)); exact BK211.out) hg (Kd.R_away HO_210002.out (fun _ hk => hk.2))); have n5_ := Aside0.mk (hb); have n6_ := Aside0.mk (ho); clear HO_210000; clear HO_210001; clear BK206; clear BK209; clear BK211; clear HB; clear HO_210002; have HO_210000 := n0_; have HO_210001 := n1_; have BK206 := n2_; have BK209 := n3_; have BK211 := n4_; have HB := n5_; have HO214 := n6_; clear n0_ n1_ n2_ n3_ n4_ n5_ n6_; clear ho hb hg hat; obtain ⟨Ao35, co35, eo35⟩ := Kd.R_slice HO214.out; subst eo35; have hcz36_0 : w34.cell? ⟨gb209, 0, none⟩ = some (u210000) := (blk_cell BK209.out 0).trans rfl; have hcz36_1 : w34.cell? ⟨gb209, 1, none⟩ = some (u210001) := (blk_cell BK209.out 1).trans rfl; have hcz36_2 : w34.cell? ⟨gb209, 2, none⟩ = some (u210002) := (blk_cell BK209.out 2).trans rfl; have hcz36_3 : w34.cell? ⟨gb209, 3, none⟩ = some (.int .i64 0) := (blk_cell BK209.out 3).trans rfl; have hfz36_0 := blk_frozen BK209.out 0; have hfz36_1 := blk_frozen BK209.out 1; have hfz36_2 := blk_frozen BK209.out 2; have hfz36_3 := blk_frozen BK209.out 3))
                        go_roundg kj14
                        case measure => have := HK1.out; have := HJ14.out; omega
                        case rel => exact ⟨(wrap64 (x22_1 + 1)), (x210000_1), (x210001_1), (y212), (u210000), (u210001), (.slice Ao35 y212.length co35), (by first | rfl | (simp; done) | (simp [*]; done)), H', ⟨by have := HK1.out; have := HJ14.out; omega⟩, ⟨by (with_reducible repeat (first | apply Kd.R_alloc | apply Kd.R_drewN | apply Kd.R_drew)); exact Kd.R_mono (Kd.R_far (p := ⟨gb209, 2, none⟩) (Kd.R_types HO_210000.out BK209.out (by decide)) (fun _ hk => hk.2) (.slice Ao35 y212.length co35)) (fun _ hk => hk.1.2)⟩, ⟨by (with_reducible repeat (first | apply Kd.R_alloc | apply Kd.R_drewN | apply Kd.R_drew)); exact Kd.R_mono (Kd.R_far (p := ⟨gb209, 2, none⟩) (Kd.R_types HO_210001.out BK209.out (by decide)) (fun _ hk => hk.2) (.slice Ao35 y212.length co35)) (fun _ hk => trivial)⟩, ⟨by (with_reducible repeat (first | apply Kd.R_alloc | apply Kd.R_drewN | apply Kd.R_drew)); exact Kd.R_mono (Kd.R_far (p := ⟨gb209, 2, none⟩) (Kd.R_types HO214.out BK209.out (by decide)) (fun _ hk => hk.2) (.slice Ao35 y212.length co35)) (fun _ hk => hk.1.1)⟩, ⟨by (with_reducible repeat (first | refine blk_drewN ?_ _ | refine blk_drew ?_ | refine blk_alloc ?_ _)); refine blk_far ?_ NB206_209.out _; (with_reducible repeat (first | refine blk_drewN ?_ _ | refine blk_drew ?_ | refine blk_alloc ?_ _)); exact BK206.out⟩, ⟨by (with_reducible repeat (first | refine blk_drewN ?_ _ | refine blk_drew ?_ | refine blk_alloc ?_ _)); refine blk_put (cs := #[u210000, u210001, u210002, .int .i64 0]) ?_ 2 _ rfl; (with_reducible repeat (first | refine blk_drewN ?_ _ | refine blk_drew ?_ | refine blk_alloc ?_ _)); exact BK209.out⟩, ⟨by repeat (first | (with_reducible first | exact HB.out | apply below_alloc | apply pw_below_drewN | apply below_drew1 | refine below_set ?_ GE206.out | refine below_set ?_ GE209.out | refine below_set ?_ GE211.out) | exact HB.out)⟩⟩
                      · rw [if_neg c28] at H
                        exact absurd H (by simp)
                    · replace c27 := Bool.eq_false_iff.mpr c27
                      subst c27
                      have H1 : (if ((rd_T24 l0 x22_1).f4) ≤ a1 then (if x210001_1.length < 3518437208883 then (if x210000_1.length < 2513169434916 then (impl_OutboxTick.l0 kj14 a1 l0 (l0.length : Int) (wrap64 (x22_1 + 1)) (x210000_1 ++ [(⟨((rd_T24 l0 x22_1).f0), ((rd_T24 l0 x22_1).f1), ((rd_T24 l0 x22_1).f2), wrap64 (((rd_T24 l0 x22_1).f3) + 1), mn (wrap64 (a1 + (wrap64 (3 * (wrap64 (((rd_T24 l0 x22_1).f3) + 1)))))) 100000⟩ : S24)]) (x210001_1 ++ [(⟨((rd_T24 l0 x22_1).f0), ((rd_T24 l0 x22_1).f1), ((rd_T24 l0 x22_1).f2)⟩ : S105)]) x210002_1 0) else (none)) else (none)) else (if x210000_1.length < 2513169434916 then (impl_OutboxTick.l0 kj14 a1 l0 (l0.length : Int) (wrap64 (x22_1 + 1)) (x210000_1 ++ [(⟨((rd_T24 l0 x22_1).f0), ((rd_T24 l0 x22_1).f1), ((rd_T24 l0 x22_1).f2), ((rd_T24 l0 x22_1).f3), ((rd_T24 l0 x22_1).f4)⟩ : S24)]) x210001_1 x210002_1 0) else (none))) = some (r1, r2, r3, r4) := by rw [if_neg (show ¬ (false = true) by decide)] at H; exact H
                      clear H
                      have H := H1
                      clear H1
                      by_cases c37 : ((rd_T24 l0 x22_1).f4) ≤ a1
                      · rw [if_pos c37] at H
                        have c37b0 : decide (((rd_T24 l0 x22_1).f4) ≤ a1) = true := decide_eq_true c37
                        clear c37
                        by_cases c38 : x210001_1.length < 3518437208883
                        · rw [if_pos c38] at H
                          have LMc38 := Aside0.mk c38
                          clear c38
                          obtain ⟨y215, hy215⟩ : ∃ y_ : List (S105), y_ = (x210001_1 ++ [(⟨((rd_T24 l0 x22_1).f0), ((rd_T24 l0 x22_1).f1), ((rd_T24 l0 x22_1).f2)⟩ : S105)]) := ⟨_, rfl⟩
                          replace H : (if x210000_1.length < 2513169434916 then (impl_OutboxTick.l0 kj14 a1 l0 (l0.length : Int) (wrap64 (x22_1 + 1)) (x210000_1 ++ [(⟨((rd_T24 l0 x22_1).f0), ((rd_T24 l0 x22_1).f1), ((rd_T24 l0 x22_1).f2), wrap64 (((rd_T24 l0 x22_1).f3) + 1), mn (wrap64 (a1 + (wrap64 (3 * (wrap64 (((rd_T24 l0 x22_1).f3) + 1)))))) 100000⟩ : S24)]) y215 x210002_1 0) else (none)) = some (r1, r2, r3, r4) := by first | (rw [hy215]; with_reducible exact H) | (have H2_ := (Option.bind_some _ _).symm.trans H; rw [hy215]; with_reducible exact H2_) | (have H2_ := (Option.bind_some _ _).symm.trans H; with_reducible exact H2_) | with_reducible exact H | (rw [hy215]; exact H) | exact H
                          have Ny215 := Aside0.mk hy215
                          clear hy215
                          obtain ⟨ji39, hji39⟩ : ∃ j_ : Int, (mn (wrap64 (a1 + (wrap64 (3 * (wrap64 (((rd_T24 l0 x22_1).f3) + 1)))))) 100000) = j_ := ⟨_, rfl⟩
                          replace H : (if x210000_1.length < 2513169434916 then (impl_OutboxTick.l0 kj14 a1 l0 (l0.length : Int) (wrap64 (x22_1 + 1)) (x210000_1 ++ [(⟨((rd_T24 l0 x22_1).f0), ((rd_T24 l0 x22_1).f1), ((rd_T24 l0 x22_1).f2), wrap64 (((rd_T24 l0 x22_1).f3) + 1), ji39⟩ : S24)]) y215 x210002_1 0) else (none)) = some (r1, r2, r3, r4) := by first | (rw [hji39] at H; exact H) | (simp only [hji39] at H ⊢; exact H)
                          have hji39_ : (if 100000 < (wrap64 (a1 + (wrap64 (3 * (wrap64 (((rd_T24 l0 x22_1).f3) + 1)))))) then 100000 else (wrap64 (a1 + (wrap64 (3 * (wrap64 (((rd_T24 l0 x22_1).f3) + 1))))))) = ji39 := hji39
                          by_cases c40 : x210000_1.length < 2513169434916
                          · rw [if_pos c40] at H
                            have LMc40 := Aside0.mk c40
                            clear c40
                            obtain ⟨y218, hy218⟩ : ∃ y_ : List (S24), y_ = (x210000_1 ++ [(⟨((rd_T24 l0 x22_1).f0), ((rd_T24 l0 x22_1).f1), ((rd_T24 l0 x22_1).f2), wrap64 (((rd_T24 l0 x22_1).f3) + 1), ji39⟩ : S24)]) := ⟨_, rfl⟩
                            replace H : (impl_OutboxTick.l0 kj14 a1 l0 (l0.length : Int) (wrap64 (x22_1 + 1)) y218 y215 x210002_1 0) = some (r1, r2, r3, r4) := by first | (rw [hy218]; with_reducible exact H) | (have H2_ := (Option.bind_some _ _).symm.trans H; rw [hy218]; with_reducible exact H2_) | (have H2_ := (Option.bind_some _ _).symm.trans H; with_reducible exact H2_) | with_reducible exact H | (rw [hy218]; exact H) | exact H
                            have Ny218 := Aside0.mk hy218
                            clear hy218
                            have H' := Aside0.mk H
                            clear H
                            have hnb41 := NB211_206.out
                            have hnc41 := NB206_211.out
                            have hnb42 := NB211_209.out
                            have hnc42 := NB209_211.out
                            have hcz43_0 : wc.cell? ⟨gb211, 0, none⟩ = some (.string ((rd_T24 l0 x22_1).f0)) := (blk_cell BK211.out 0).trans rfl
                            have hcz43_1 : wc.cell? ⟨gb211, 1, none⟩ = some (.int .i64 ((rd_T24 l0 x22_1).f1)) := (blk_cell BK211.out 1).trans rfl
                            have hcz43_2 : wc.cell? ⟨gb211, 2, none⟩ = some (.string ((rd_T24 l0 x22_1).f2)) := (blk_cell BK211.out 2).trans rfl
                            have hcz43_3 : wc.cell? ⟨gb211, 3, none⟩ = some (.int .i64 ((rd_T24 l0 x22_1).f3)) := (blk_cell BK211.out 3).trans rfl
                            have hcz43_4 : wc.cell? ⟨gb211, 4, none⟩ = some (.int .i64 ((rd_T24 l0 x22_1).f4)) := (blk_cell BK211.out 4).trans rfl
                            have hfz43_0 := blk_frozen BK211.out 0
                            have hfz43_1 := blk_frozen BK211.out 1
                            have hfz43_2 := blk_frozen BK211.out 2
                            have hfz43_3 := blk_frozen BK211.out 3
                            have hfz43_4 := blk_frozen BK211.out 4
                            have hnb44 := NB209_206.out
                            have hnc44 := NB206_209.out
                            have hcz45_0 : wc.cell? ⟨gb209, 0, none⟩ = some (u210000) := (blk_cell BK209.out 0).trans rfl
                            have hcz45_1 : wc.cell? ⟨gb209, 1, none⟩ = some (u210001) := (blk_cell BK209.out 1).trans rfl
                            have hcz45_2 : wc.cell? ⟨gb209, 2, none⟩ = some (u210002) := (blk_cell BK209.out 2).trans rfl
                            have hcz45_3 : wc.cell? ⟨gb209, 3, none⟩ = some (.int .i64 0) := (blk_cell BK209.out 3).trans rfl
                            have hfz45_0 := blk_frozen BK209.out 0
                            have hfz45_1 := blk_frozen BK209.out 1
                            have hfz45_2 := blk_frozen BK209.out 2
                            have hfz45_3 := blk_frozen BK209.out 3
                            go_wp2_with (first | ((with_reducible refine gate_builtin (b := .append) (xs := #[.tmp 46, .tmp 54]) rfl ?_); at_builtin; refine Kd.R_append k105 (w0 := w) w.heap.size rfl (.tmp 46) (.tmp 54) 32 105 (.agg #[(.string ⟨#[]⟩), (.int .i64 0), (.string ⟨#[]⟩)]) 40 rfl Try.underlying32 info105 rfl (by decide) (by omega) u210001 x210001_1 (⟨((rd_T24 l0 x22_1).f0), ((rd_T24 l0 x22_1).f1), ((rd_T24 l0 x22_1).f2)⟩ : S105) [.string ((rd_T24 l0 x22_1).f0), .int .i64 ((rd_T24 l0 x22_1).f1), .string ((rd_T24 l0 x22_1).f2)] (fun _ => True) (fun _ => False) rfl rfl ?aP (fun _ hk => hk.elim) ?aF ?aO ?aB ?aS ?aL ?_; (case aP => exact k105_mkM _ _ _ (⟨((rd_T24 l0 x22_1).f0), ((rd_T24 l0 x22_1).f1), ((rd_T24 l0 x22_1).f2)⟩ : S105)); (case aB => exact (by repeat (first | (with_reducible first | exact HB.out | apply below_alloc | apply pw_below_drewN | apply below_drew1 | refine below_set ?_ GE206.out | refine below_set ?_ GE209.out | refine below_set ?_ GE211.out) | exact HB.out))); (case aF => exact (fun _ _ => trivial)); (case aO => exact (by (with_reducible repeat (first | apply Kd.R_alloc | apply Kd.R_drewN | apply Kd.R_drew)); exact HO_210001.out)); (case aS => exact (below_size (by repeat (first | (with_reducible first | exact HB.out | apply below_alloc | apply pw_below_drewN | apply below_drew1 | refine below_set ?_ GE206.out | refine below_set ?_ GE209.out | refine below_set ?_ GE211.out) | exact HB.out)))); (case aL => have := LMc38.out; omega); intro v216 w46 ho hb hg hat; rw [← Ny215.out] at ho; have n0_ := Aside0.mk (Kd.R_over' (by (with_reducible repeat (first | apply Kd.R_alloc | apply Kd.R_drewN | apply Kd.R_drew)); exact HO_210000.out) (Kd.R_typed (by (with_reducible repeat (first | apply Kd.R_alloc | apply Kd.R_drewN | apply Kd.R_drew)); exact HO_210001.out)) (by decide) hg); have n1_ := Aside0.mk (Kd.R_over' (by (with_reducible repeat (first | apply Kd.R_alloc | apply Kd.R_drewN | apply Kd.R_drew)); exact HO_210002.out) (Kd.R_typed (by (with_reducible repeat (first | apply Kd.R_alloc | apply Kd.R_drewN | apply Kd.R_drew)); exact HO_210001.out)) (by decide) hg); have n2_ := Aside0.mk (blk_grown (g := gb206) (o := .cells #[.slice none 0 0, .slice none 0 0, .slice none 0 0, .int .i64 0] 34 (0, 0)) (by (with_reducible repeat (first | refine blk_drewN ?_ _ | refine blk_drew ?_ | refine blk_alloc ?_ _)); exact BK206.out) hg (Kd.R_ne HO_210001.out BK206.out (by decide))); have n3_ := Aside0.mk (blk_grown (g := gb209) (o := .cells #[u210000, u210001, u210002, .int .i64 0] 34 (0, 0)) (by (with_reducible repeat (first | refine blk_drewN ?_ _ | refine blk_drew ?_ | refine blk_alloc ?_ _)); exact BK209.out) hg (Kd.R_ne HO_210001.out BK209.out (by decide))); have n4_ := Aside0.mk (blk_grown (g := gb211) (o := .cells #[.string ((rd_T24 l0 x22_1).f0), .int .i64 ((rd_T24 l0 x22_1).f1), .string ((rd_T24 l0 x22_1).f2), .int .i64 ((rd_T24 l0 x22_1).f3), .int .i64 ((rd_T24 l0 x22_1).f4)] 24 (0, 0)) (by (with_reducible repeat (first | refine blk_drewN ?_ _ | refine blk_drew ?_ | refine blk_alloc ?_ _)); exact BK211.out) hg (Kd.R_ne HO_210001.out BK211.out (by decide))); have n5_ := Aside0.mk (hb); have n6_ := Aside0.mk (ho); clear HO_210000; clear HO_210002; clear BK206; clear BK209; clear BK211; clear HB; clear HO_210001; have HO_210000 := n0_; have HO_210002 := n1_; have BK206 := n2_; have BK209 := n3_; have BK211 := n4_; have HB := n5_; have HO217 := n6_; clear n0_ n1_ n2_ n3_ n4_ n5_ n6_; clear ho hb hg hat; obtain ⟨Ao47, co47, eo47⟩ := Kd.R_slice HO217.out; subst eo47; have hcz48_0 : w46.cell? ⟨gb209, 0, none⟩ = some (u210000) := (blk_cell BK209.out 0).trans rfl; have hcz48_1 : w46.cell? ⟨gb209, 1, none⟩ = some (u210001) := (blk_cell BK209.out 1).trans rfl; have hcz48_2 : w46.cell? ⟨gb209, 2, none⟩ = some (u210002) := (blk_cell BK209.out 2).trans rfl; have hcz48_3 : w46.cell? ⟨gb209, 3, none⟩ = some (.int .i64 0) := (blk_cell BK209.out 3).trans rfl; have hfz48_0 := blk_frozen BK209.out 0; have hfz48_1 := blk_frozen BK209.out 1; have hfz48_2 := blk_frozen BK209.out 2; have hfz48_3 := blk_frozen BK209.out 3; have hcz49_0 : w46.cell? ⟨gb211, 0, none⟩ = some (.string ((rd_T24 l0 x22_1).f0)) := (blk_cell BK211.out 0).trans rfl; have hcz49_1 : w46.cell? ⟨gb211, 1, none⟩ = some (.int .i64 ((rd_T24 l0 x22_1).f1)) := (blk_cell BK211.out 1).trans rfl; have hcz49_2 : w46.cell? ⟨gb211, 2, none⟩ = some (.string ((rd_T24 l0 x22_1).f2)) := (blk_cell BK211.out 2).trans rfl; have hcz49_3 : w46.cell? ⟨gb211, 3, none⟩ = some (.int .i64 ((rd_T24 l0 x22_1).f3)) := (blk_cell BK211.out 3).trans rfl; have hcz49_4 : w46.cell? ⟨gb211, 4, none⟩ = some (.int .i64 ((rd_T24 l0 x22_1).f4)) := (blk_cell BK211.out 4).trans rfl; have hfz49_0 := blk_frozen BK211.out 0; have hfz49_1 := blk_frozen BK211.out 1; have hfz49_2 := blk_frozen BK211.out 2; have hfz49_3 := blk_frozen BK211.out 3; have hfz49_4 := blk_frozen BK211.out 4) | ((with_reducible refine gate_builtin (b := .append) (xs := #[.tmp 69, .tmp 71]) rfl ?_); at_builtin; refine Kd.R_append k24 (w0 := w) w.heap.size rfl (.tmp 69) (.tmp 71) 29 24 (.agg #[(.string ⟨#[]⟩), (.int .i64 0), (.string ⟨#[]⟩), (.int .i64 0), (.int .i64 0)]) 56 rfl Try.underlying29 info24 rfl (by decide) (by omega) u210000 x210000_1 (⟨((rd_T24 l0 x22_1).f0), ((rd_T24 l0 x22_1).f1), ((rd_T24 l0 x22_1).f2), wrap64 (((rd_T24 l0 x22_1).f3) + 1), ji39⟩ : S24) [.string ((rd_T24 l0 x22_1).f0), .int .i64 ((rd_T24 l0 x22_1).f1), .string ((rd_T24 l0 x22_1).f2), .int .i64 (wrap64 (((rd_T24 l0 x22_1).f3) + 1)), .int .i64 ji39] (fun k_ => some k_ ≠ (u210002 : Value).ownBlock ∧ k_ ≠ gb211) (fun _ => False) rfl (by first | (go_simp; done) | (go_simp; rfl)) ?aP (fun _ hk => hk.elim) ?aF ?aO ?aB ?aS ?aL ?_; (case aP => exact k24_mkM _ _ _ (⟨((rd_T24 l0 x22_1).f0), ((rd_T24 l0 x22_1).f1), ((rd_T24 l0 x22_1).f2), wrap64 (((rd_T24 l0 x22_1).f3) + 1), ji39⟩ : S24)); (case aB => exact (by repeat (first | (with_reducible first | exact HB.out | apply below_alloc | apply pw_below_drewN | apply below_drew1 | refine below_set ?_ GE206.out | refine below_set ?_ GE209.out | refine below_set ?_ GE211.out) | exact HB.out))); (case aF => exact (fun k_ hk => ⟨Kd.fresh' (Kd.R_lt (by (with_reducible repeat (first | apply Kd.R_alloc | apply Kd.R_drewN | apply Kd.R_drew)); exact (Kd.R_mono (Kd.R_mono (Kd.R_far (p := ⟨gb211, 4, none⟩) (Kd.R_far (p := ⟨gb211, 3, none⟩) (Kd.R_far (p := ⟨gb209, 1, none⟩) (Kd.R_mono (Kd.R_types HO_210002.out BK209.out (by decide)) (fun k_ hk => (⟨hk, hk.1.2⟩ : _ ∧ k_ ≠ gb211))) (fun _ hk => hk.1.2) (.slice Ao47 y215.length co47)) (fun _ hk => hk.2) (.int .i64 (wrap64 (((rd_T24 l0 x22_1).f3) + 1)))) (fun _ hk => hk.2) (.int .i64 ji39)) (fun _ h_ => h_.1)) (fun _ h_ => h_.1)))) k_ hk, Kd.freshB (g := gb211) (o := .cells #[.string ((rd_T24 l0 x22_1).f0), .int .i64 ((rd_T24 l0 x22_1).f1), .string ((rd_T24 l0 x22_1).f2), .int .i64 (wrap64 (((rd_T24 l0 x22_1).f3) + 1)), .int .i64 ji39] 24 (0, 0)) (by (with_reducible repeat (first | refine blk_drewN ?_ _ | refine blk_drew ?_ | refine blk_alloc ?_ _)); refine blk_put (cs := #[.string ((rd_T24 l0 x22_1).f0), .int .i64 ((rd_T24 l0 x22_1).f1), .string ((rd_T24 l0 x22_1).f2), .int .i64 (wrap64 (((rd_T24 l0 x22_1).f3) + 1)), .int .i64 ((rd_T24 l0 x22_1).f4)]) ?_ 4 _ rfl; (with_reducible repeat (first | refine blk_drewN ?_ _ | refine blk_drew ?_ | refine blk_alloc ?_ _)); refine blk_put (cs := #[.string ((rd_T24 l0 x22_1).f0), .int .i64 ((rd_T24 l0 x22_1).f1), .string ((rd_T24 l0 x22_1).f2), .int .i64 ((rd_T24 l0 x22_1).f3), .int .i64 ((rd_T24 l0 x22_1).f4)]) ?_ 3 _ rfl; (with_reducible repeat (first | refine blk_drewN ?_ _ | refine blk_drew ?_ | refine blk_alloc ?_ _)); refine blk_far ?_ NB211_209.out _; (with_reducible repeat (first | refine blk_drewN ?_ _ | refine blk_drew ?_ | refine blk_alloc ?_ _)); exact BK211.out) k_ hk⟩)); (case aO => exact (by (with_reducible repeat (first | apply Kd.R_alloc | apply Kd.R_drewN | apply Kd.R_drew)); exact Kd.R_mono (Kd.R_far (p := ⟨gb211, 4, none⟩) (Kd.R_far (p := ⟨gb211, 3, none⟩) (Kd.R_far (p := ⟨gb209, 1, none⟩) (Kd.R_mono (Kd.R_types HO_210000.out BK209.out (by decide)) (fun k_ hk => (⟨hk, hk.1.2⟩ : _ ∧ k_ ≠ gb211))) (fun _ hk => hk.1.2) (.slice Ao47 y215.length co47)) (fun _ hk => hk.2) (.int .i64 (wrap64 (((rd_T24 l0 x22_1).f3) + 1)))) (fun _ hk => hk.2) (.int .i64 ji39)) (fun _ hk => ⟨hk.1.1.1, hk.1.1.2⟩))); (case aS => exact (below_size (by repeat (first | (with_reducible first | exact HB.out | apply below_alloc | apply pw_below_drewN | apply below_drew1 | refine below_set ?_ GE206.out | refine below_set ?_ GE209.out | refine below_set ?_ GE211.out) | exact HB.out)))); (case aL => have := LMc40.out; omega); intro v219 w50 ho hb hg hat; rw [← Ny218.out] at ho; have n0_ := Aside0.mk (Kd.R_after (ok := (fun k_ => k_ ≠ gb211)) (by (with_reducible repeat (first | apply Kd.R_alloc | apply Kd.R_drewN | apply Kd.R_drew)); exact Kd.R_mono (Kd.R_far (p := ⟨gb211, 4, none⟩) (Kd.R_far (p := ⟨gb211, 3, none⟩) (Kd.R_far (p := ⟨gb209, 1, none⟩) (Kd.R_mono (Kd.R_types HO_210002.out BK209.out (by decide)) (fun k_ hk => (⟨hk, hk.1.2⟩ : _ ∧ k_ ≠ gb211))) (fun _ hk => hk.1.2) (.slice Ao47 y215.length co47)) (fun _ hk => hk.2) (.int .i64 (wrap64 (((rd_T24 l0 x22_1).f3) + 1)))) (fun _ hk => hk.2) (.int .i64 ji39)) (fun _ hk => ⟨hk.1.1.2, hk.1.1.1⟩)) hg hat); have n1_ := Aside0.mk (blk_grown (g := gb206) (o := .cells #[.slice none 0 0, .slice none 0 0, .slice none 0 0, .int .i64 0] 34 (0, 0)) (by (with_reducible repeat (first | refine blk_drewN ?_ _ | refine blk_drew ?_ | refine blk_alloc ?_ _)); refine blk_far ?_ NB206_211.out _; (with_reducible repeat (first | refine blk_drewN ?_ _ | refine blk_drew ?_ | refine blk_alloc ?_ _)); refine blk_far ?_ NB206_211.out _; (with_reducible repeat (first | refine blk_drewN ?_ _ | refine blk_drew ?_ | refine blk_alloc ?_ _)); refine blk_far ?_ NB206_209.out _; (with_reducible repeat (first | refine blk_drewN ?_ _ | refine blk_drew ?_ | refine blk_alloc ?_ _)); exact BK206.out) hg (Kd.R_ne HO_210000.out BK206.out (by decide))); have n2_ := Aside0.mk (blk_grown (g := gb209) (o := .cells #[u210000, .slice Ao47 y215.length co47, u210002, .int .i64 0] 34 (0, 0)) (by (with_reducible repeat (first | refine blk_drewN ?_ _ | refine blk_drew ?_ | refine blk_alloc ?_ _)); refine blk_far ?_ NB209_211.out _; (with_reducible repeat (first | refine blk_drewN ?_ _ | refine blk_drew ?_ | refine blk_alloc ?_ _)); refine blk_far ?_ NB209_211.out _; (with_reducible repeat (first | refine blk_drewN ?_ _ | refine blk_drew ?_ | refine blk_alloc ?_ _)); refine blk_put (cs := #[u210000, u210001, u210002, .int .i64 0]) ?_ 1 _ rfl; (with_reducible repeat (first | refine blk_drewN ?_ _ | refine blk_drew ?_ | refine blk_alloc ?_ _)); exact BK209.out) hg (Kd.R_ne HO_210000.out BK209.out (by decide))); have n3_ := Aside0.mk (blk_grown (g := gb211) (o := .cells #[.string ((rd_T24 l0 x22_1).f0), .int .i64 ((rd_T24 l0 x22_1).f1), .string ((rd_T24 l0 x22_1).f2), .int .i64 (wrap64 (((rd_T24 l0 x22_1).f3) + 1)), .int .i64 ji39] 24 (0, 0)) (by (with_reducible repeat (first | refine blk_drewN ?_ _ | refine blk_drew ?_ | refine blk_alloc ?_ _)); refine blk_put (cs := #[.string ((rd_T24 l0 x22_1).f0), .int .i64 ((rd_T24 l0 x22_1).f1), .string ((rd_T24 l0 x22_1).f2), .int .i64 (wrap64 (((rd_T24 l0 x22_1).f3) + 1)), .int .i64 ((rd_T24 l0 x22_1).f4)]) ?_ 4 _ rfl; (with_reducible repeat (first | refine blk_drewN ?_ _ | refine blk_drew ?_ | refine blk_alloc ?_ _)); refine blk_put (cs := #[.string ((rd_T24 l0 x22_1).f0), .int .i64 ((rd_T24 l0 x22_1).f1), .string ((rd_T24 l0 x22_1).f2), .int .i64 ((rd_T24 l0 x22_1).f3), .int .i64 ((rd_T24 l0 x22_1).f4)]) ?_ 3 _ rfl; (with_reducible repeat (first | refine blk_drewN ?_ _ | refine blk_drew ?_ | refine blk_alloc ?_ _)); refine blk_far ?_ NB211_209.out _; (with_reducible repeat (first | refine blk_drewN ?_ _ | refine blk_drew ?_ | refine blk_alloc ?_ _)); exact BK211.out) hg (Kd.R_away HO_210000.out (fun _ hk => hk.2))); have n4_ := Aside0.mk (Kd.R_over' (by (with_reducible repeat (first | apply Kd.R_alloc | apply Kd.R_drewN | apply Kd.R_drew)); exact (Kd.R_mono (Kd.R_mono (Kd.R_far (p := ⟨gb211, 4, none⟩) (Kd.R_far (p := ⟨gb211, 3, none⟩) (Kd.R_far (p := ⟨gb209, 1, none⟩) (Kd.R_types (Kd.R_types HO217.out BK209.out (by decide)) BK211.out (by decide)) (fun _ hk => hk.1.2) (.slice Ao47 y215.length co47)) (fun _ hk => hk.2) (.int .i64 (wrap64 (((rd_T24 l0 x22_1).f3) + 1)))) (fun _ hk => hk.2) (.int .i64 ji39)) (fun _ h_ => h_.1)) (fun _ h_ => h_.1))) (Kd.R_typed (by (with_reducible repeat (first | apply Kd.R_alloc | apply Kd.R_drewN | apply Kd.R_drew)); exact (Kd.R_mono (Kd.R_mono (Kd.R_far (p := ⟨gb211, 4, none⟩) (Kd.R_far (p := ⟨gb211, 3, none⟩) (Kd.R_far (p := ⟨gb209, 1, none⟩) (Kd.R_mono (Kd.R_types HO_210000.out BK209.out (by decide)) (fun k_ hk => (⟨hk, hk.1.2⟩ : _ ∧ k_ ≠ gb211))) (fun _ hk => hk.1.2) (.slice Ao47 y215.length co47)) (fun _ hk => hk.2) (.int .i64 (wrap64 (((rd_T24 l0 x22_1).f3) + 1)))) (fun _ hk => hk.2) (.int .i64 ji39)) (fun _ h_ => h_.1)) (fun _ h_ => h_.1)))) (by decide) hg); have n5_ := Aside0.mk (hb); have n6_ := Aside0.mk (ho); clear HO_210002; clear BK206; clear BK209; clear BK211; clear HO217; clear HB; clear HO_210000; have HO_210002 := n0_; have BK206 := n1_; have BK209 := n2_; have BK211 := n3_; have HO217 := n4_; have HB := n5_; have HO220 := n6_; clear n0_ n1_ n2_ n3_ n4_ n5_ n6_; clear ho hb hg hat; obtain ⟨Ao51, co51, eo51⟩ := Kd.R_slice HO220.out; subst eo51; have hcz52_0 : w50.cell? ⟨gb209, 0, none⟩ = some (u210000) := (blk_cell BK209.out 0).trans rfl; have hcz52_1 : w50.cell? ⟨gb209, 1, none⟩ = some (.slice Ao47 y215.length co47) := (blk_cell BK209.out 1).trans rfl; have hcz52_2 : w50.cell? ⟨gb209, 2, none⟩ = some (u210002) := (blk_cell BK209.out 2).trans rfl; have hcz52_3 : w50.cell? ⟨gb209, 3, none⟩ = some (.int .i64 0) := (blk_cell BK209.out 3).trans rfl; have hfz52_0 := blk_frozen BK209.out 0; have hfz52_1 := blk_frozen BK209.out 1; have hfz52_2 := blk_frozen BK209.out 2; have hfz52_3 := blk_frozen BK209.out 3))
                            go_roundg kj14
                            case measure => have := HK1.out; have := HJ14.out; omega
                            case rel => exact ⟨(wrap64 (x22_1 + 1)), (y218), (y215), (x210002_1), (.slice Ao51 y218.length co51), (.slice Ao47 y215.length co47), (u210002), (by first | rfl | (simp; done) | (simp [*]; done)), H', ⟨by have := HK1.out; have := HJ14.out; omega⟩, ⟨by (with_reducible repeat (first | apply Kd.R_alloc | apply Kd.R_drewN | apply Kd.R_drew)); exact Kd.R_mono (Kd.R_far (p := ⟨gb209, 0, none⟩) (Kd.R_types HO220.out BK209.out (by decide)) (fun _ hk => hk.2) (.slice Ao51 y218.length co51)) (fun _ hk => hk.1.1)⟩, ⟨by (with_reducible repeat (first | apply Kd.R_alloc | apply Kd.R_drewN | apply Kd.R_drew)); exact Kd.R_mono (Kd.R_far (p := ⟨gb209, 0, none⟩) (Kd.R_types HO217.out BK209.out (by decide)) (fun _ hk => hk.2) (.slice Ao51 y218.length co51)) (fun _ hk => trivial)⟩, ⟨by (with_reducible repeat (first | apply Kd.R_alloc | apply Kd.R_drewN | apply Kd.R_drew)); exact Kd.R_mono (Kd.R_far (p := ⟨gb209, 0, none⟩) (Kd.R_types HO_210002.out BK209.out (by decide)) (fun _ hk => hk.2) (.slice Ao51 y218.length co51)) (fun _ hk => hk.1.2)⟩, ⟨by (with_reducible repeat (first | refine blk_drewN ?_ _ | refine blk_drew ?_ | refine blk_alloc ?_ _)); refine blk_far ?_ NB206_209.out _; (with_reducible repeat (first | refine blk_drewN ?_ _ | refine blk_drew ?_ | refine blk_alloc ?_ _)); exact BK206.out⟩, ⟨by (with_reducible repeat (first | refine blk_drewN ?_ _ | refine blk_drew ?_ | refine blk_alloc ?_ _)); refine blk_put (cs := #[u210000, .slice Ao47 y215.length co47, u210002, .int .i64 0]) ?_ 0 _ rfl; (with_reducible repeat (first | refine blk_drewN ?_ _ | refine blk_drew ?_ | refine blk_alloc ?_ _)); exact BK209.out⟩, ⟨by repeat (first | (with_reducible first | exact HB.out | apply below_alloc | apply pw_below_drewN | apply below_drew1 | refine below_set ?_ GE206.out | refine below_set ?_ GE209.out | refine below_set ?_ GE211.out) | exact HB.out)⟩⟩
                          · rw [if_neg c40] at H
                            exact absurd H (by simp)
                        · rw [if_neg c38] at H
                          exact absurd H (by simp)
                      · rw [if_neg c37] at H
                        have c37b0 : decide (((rd_T24 l0 x22_1).f4) ≤ a1) = false := decide_eq_false c37
                        clear c37
                        by_cases c53 : x210000_1.length < 2513169434916
                        · rw [if_pos c53] at H
                          have LMc53 := Aside0.mk c53
                          clear c53
                          obtain ⟨y221, hy221⟩ : ∃ y_ : List (S24), y_ = (x210000_1 ++ [(⟨((rd_T24 l0 x22_1).f0), ((rd_T24 l0 x22_1).f1), ((rd_T24 l0 x22_1).f2), ((rd_T24 l0 x22_1).f3), ((rd_T24 l0 x22_1).f4)⟩ : S24)]) := ⟨_, rfl⟩
                          replace H : (impl_OutboxTick.l0 kj14 a1 l0 (l0.length : Int) (wrap64 (x22_1 + 1)) y221 x210001_1 x210002_1 0) = some (r1, r2, r3, r4) := by first | (rw [hy221]; with_reducible exact H) | (have H2_ := (Option.bind_some _ _).symm.trans H; rw [hy221]; with_reducible exact H2_) | (have H2_ := (Option.bind_some _ _).symm.trans H; with_reducible exact H2_) | with_reducible exact H | (rw [hy221]; exact H) | exact H
                          have Ny221 := Aside0.mk hy221
                          clear hy221
                          have H' := Aside0.mk H
                          clear H
                          have hnb54 := NB211_206.out
                          have hnc54 := NB206_211.out
                          have hnb55 := NB211_209.out
                          have hnc55 := NB209_211.out
                          have hcz56_0 : wc.cell? ⟨gb211, 0, none⟩ = some (.string ((rd_T24 l0 x22_1).f0)) := (blk_cell BK211.out 0).trans rfl
                          have hcz56_1 : wc.cell? ⟨gb211, 1, none⟩ = some (.int .i64 ((rd_T24 l0 x22_1).f1)) := (blk_cell BK211.out 1).trans rfl
                          have hcz56_2 : wc.cell? ⟨gb211, 2, none⟩ = some (.string ((rd_T24 l0 x22_1).f2)) := (blk_cell BK211.out 2).trans rfl
                          have hcz56_3 : wc.cell? ⟨gb211, 3, none⟩ = some (.int .i64 ((rd_T24 l0 x22_1).f3)) := (blk_cell BK211.out 3).trans rfl
                          have hcz56_4 : wc.cell? ⟨gb211, 4, none⟩ = some (.int .i64 ((rd_T24 l0 x22_1).f4)) := (blk_cell BK211.out 4).trans rfl
                          have hfz56_0 := blk_frozen BK211.out 0
                          have hfz56_1 := blk_frozen BK211.out 1
                          have hfz56_2 := blk_frozen BK211.out 2
                          have hfz56_3 := blk_frozen BK211.out 3
                          have hfz56_4 := blk_frozen BK211.out 4
                          have hnb57 := NB209_206.out
                          have hnc57 := NB206_209.out
                          have hcz58_0 : wc.cell? ⟨gb209, 0, none⟩ = some (u210000) := (blk_cell BK209.out 0).trans rfl
                          have hcz58_1 : wc.cell? ⟨gb209, 1, none⟩ = some (u210001) := (blk_cell BK209.out 1).trans rfl
                          have hcz58_2 : wc.cell? ⟨gb209, 2, none⟩ = some (u210002) := (blk_cell BK209.out 2).trans rfl
                          have hcz58_3 : wc.cell? ⟨gb209, 3, none⟩ = some (.int .i64 0) := (blk_cell BK209.out 3).trans rfl
                          have hfz58_0 := blk_frozen BK209.out 0
                          have hfz58_1 := blk_frozen BK209.out 1
                          have hfz58_2 := blk_frozen BK209.out 2
                          have hfz58_3 := blk_frozen BK209.out 3
                          go_wp2_with (first | ((with_reducible refine gate_builtin (b := .append) (xs := #[.tmp 69, .tmp 71]) rfl ?_); at_builtin; refine Kd.R_append k24 (w0 := w) w.heap.size rfl (.tmp 69) (.tmp 71) 29 24 (.agg #[(.string ⟨#[]⟩), (.int .i64 0), (.string ⟨#[]⟩), (.int .i64 0), (.int .i64 0)]) 56 rfl Try.underlying29 info24 rfl (by decide) (by omega) u210000 x210000_1 (⟨((rd_T24 l0 x22_1).f0), ((rd_T24 l0 x22_1).f1), ((rd_T24 l0 x22_1).f2), ((rd_T24 l0 x22_1).f3), ((rd_T24 l0 x22_1).f4)⟩ : S24) [.string ((rd_T24 l0 x22_1).f0), .int .i64 ((rd_T24 l0 x22_1).f1), .string ((rd_T24 l0 x22_1).f2), .int .i64 ((rd_T24 l0 x22_1).f3), .int .i64 ((rd_T24 l0 x22_1).f4)] (fun k_ => some k_ ≠ (u210002 : Value).ownBlock ∧ k_ ≠ gb211) (fun _ => False) rfl rfl ?aP (fun _ hk => hk.elim) ?aF ?aO ?aB ?aS ?aL ?_; (case aP => exact k24_mkM _ _ _ (⟨((rd_T24 l0 x22_1).f0), ((rd_T24 l0 x22_1).f1), ((rd_T24 l0 x22_1).f2), ((rd_T24 l0 x22_1).f3), ((rd_T24 l0 x22_1).f4)⟩ : S24)); (case aB => exact (by repeat (first | (with_reducible first | exact HB.out | apply below_alloc | apply pw_below_drewN | apply below_drew1 | refine below_set ?_ GE206.out | refine below_set ?_ GE209.out | refine below_set ?_ GE211.out) | exact HB.out))); (case aF => exact (fun k_ hk => ⟨Kd.fresh' (Kd.R_lt (by (with_reducible repeat (first | apply Kd.R_alloc | apply Kd.R_drewN | apply Kd.R_drew)); exact HO_210002.out)) k_ hk, Kd.freshB (g := gb211) (o := .cells #[.string ((rd_T24 l0 x22_1).f0), .int .i64 ((rd_T24 l0 x22_1).f1), .string ((rd_T24 l0 x22_1).f2), .int .i64 ((rd_T24 l0 x22_1).f3), .int .i64 ((rd_T24 l0 x22_1).f4)] 24 (0, 0)) (by (with_reducible repeat (first | refine blk_drewN ?_ _ | refine blk_drew ?_ | refine blk_alloc ?_ _)); exact BK211.out) k_ hk⟩)); (case aO => exact (by (with_reducible repeat (first | apply Kd.R_alloc | apply Kd.R_drewN | apply Kd.R_drew)); exact HO_210000.out)); (case aS => exact (below_size (by repeat (first | (with_reducible first | exact HB.out | apply below_alloc | apply pw_below_drewN | apply below_drew1 | refine below_set ?_ GE206.out | refine below_set ?_ GE209.out | refine below_set ?_ GE211.out) | exact HB.out)))); (case aL => have := LMc53.out; omega); intro v222 w59 ho hb hg hat; rw [← Ny221.out] at ho; have n0_ := Aside0.mk (Kd.R_over' (by (with_reducible repeat (first | apply Kd.R_alloc | apply Kd.R_drewN | apply Kd.R_drew)); exact HO_210001.out) (Kd.R_typed (by (with_reducible repeat (first | apply Kd.R_alloc | apply Kd.R_drewN | apply Kd.R_drew)); exact HO_210000.out)) (by decide) hg); have n1_ := Aside0.mk (Kd.R_after (ok := (fun k_ => k_ ≠ gb211)) (by (with_reducible repeat (first | apply Kd.R_alloc | apply Kd.R_drewN | apply Kd.R_drew)); exact Kd.R_mono HO_210002.out (fun _ hk => ⟨hk.2, hk.1⟩)) hg hat); have n2_ := Aside0.mk (blk_grown (g := gb206) (o := .cells #[.slice none 0 0, .slice none 0 0, .slice none 0 0, .int .i64 0] 34 (0, 0)) (by (with_reducible repeat (first | refine blk_drewN ?_ _ | refine blk_drew ?_ | refine blk_alloc ?_ _)); exact BK206.out) hg (Kd.R_ne HO_210000.out BK206.out (by decide))); have n3_ := Aside0.mk (blk_grown (g := gb209) (o := .cells #[u210000, u210001, u210002, .int .i64 0] 34 (0, 0)) (by (with_reducible repeat (first | refine blk_drewN ?_ _ | refine blk_drew ?_ | refine blk_alloc ?_ _)); exact BK209.out) hg (Kd.R_ne HO_210000.out BK209.out (by decide))); have n4_ := Aside0.mk (blk_grown (g := gb211) (o := .cells #[.string ((rd_T24 l0 x22_1).f0), .int .i64 ((rd_T24 l0 x22_1).f1), .string ((rd_T24 l0 x22_1).f2), .int .i64 ((rd_T24 l0 x22_1).f3), .int .i64 ((rd_T24 l0 x22_1).f4)] 24 (0, 0)) (by (with_reducible repeat (first | refine blk_drewN ?_ _ | refine blk_drew ?_ | refine blk_alloc ?_ _)); exact BK211.out) hg (Kd.R_away HO_210000.out (fun _ hk => hk.2))); have n5_ := Aside0.mk (hb); have n6_ := Aside0.mk (ho); clear HO_210001; clear HO_210002; clear BK206; clear BK209; clear BK211; clear HB; clear HO_210000; have HO_210001 := n0_; have HO_210002 := n1_; have BK206 := n2_; have BK209 := n3_; have BK211 := n4_; have HB := n5_; have HO223 := n6_; clear n0_ n1_ n2_ n3_ n4_ n5_ n6_; clear ho hb hg hat; obtain ⟨Ao60, co60, eo60⟩ := Kd.R_slice HO223.out; subst eo60; have hcz61_0 : w59.cell? ⟨gb209, 0, none⟩ = some (u210000) := (blk_cell BK209.out 0).trans rfl; have hcz61_1 : w59.cell? ⟨gb209, 1, none⟩ = some (u210001) := (blk_cell BK209.out 1).trans rfl; have hcz61_2 : w59.cell? ⟨gb209, 2, none⟩ = some (u210002) := (blk_cell BK209.out 2).trans rfl; have hcz61_3 : w59.cell? ⟨gb209, 3, none⟩ = some (.int .i64 0) := (blk_cell BK209.out 3).trans rfl; have hfz61_0 := blk_frozen BK209.out 0; have hfz61_1 := blk_frozen BK209.out 1; have hfz61_2 := blk_frozen BK209.out 2; have hfz61_3 := blk_frozen BK209.out 3))
                          go_roundg kj14
                          case measure => have := HK1.out; have := HJ14.out; omega
                          case rel => exact ⟨(wrap64 (x22_1 + 1)), (y221), (x210001_1), (x210002_1), (.slice Ao60 y221.length co60), (u210001), (u210002), (by first | rfl | (simp; done) | (simp [*]; done)), H', ⟨by have := HK1.out; have := HJ14.out; omega⟩, ⟨by (with_reducible repeat (first | apply Kd.R_alloc | apply Kd.R_drewN | apply Kd.R_drew)); exact Kd.R_mono (Kd.R_far (p := ⟨gb209, 0, none⟩) (Kd.R_types HO223.out BK209.out (by decide)) (fun _ hk => hk.2) (.slice Ao60 y221.length co60)) (fun _ hk => hk.1.1)⟩, ⟨by (with_reducible repeat (first | apply Kd.R_alloc | apply Kd.R_drewN | apply Kd.R_drew)); exact Kd.R_mono (Kd.R_far (p := ⟨gb209, 0, none⟩) (Kd.R_types HO_210001.out BK209.out (by decide)) (fun _ hk => hk.2) (.slice Ao60 y221.length co60)) (fun _ hk => trivial)⟩, ⟨by (with_reducible repeat (first | apply Kd.R_alloc | apply Kd.R_drewN | apply Kd.R_drew)); exact Kd.R_mono (Kd.R_far (p := ⟨gb209, 0, none⟩) (Kd.R_types HO_210002.out BK209.out (by decide)) (fun _ hk => hk.2) (.slice Ao60 y221.length co60)) (fun _ hk => hk.1.2)⟩, ⟨by (with_reducible repeat (first | refine blk_drewN ?_ _ | refine blk_drew ?_ | refine blk_alloc ?_ _)); refine blk_far ?_ NB206_209.out _; (with_reducible repeat (first | refine blk_drewN ?_ _ | refine blk_drew ?_ | refine blk_alloc ?_ _)); exact BK206.out⟩, ⟨by (with_reducible repeat (first | refine blk_drewN ?_ _ | refine blk_drew ?_ | refine blk_alloc ?_ _)); refine blk_put (cs := #[u210000, u210001, u210002, .int .i64 0]) ?_ 0 _ rfl; (with_reducible repeat (first | refine blk_drewN ?_ _ | refine blk_drew ?_ | refine blk_alloc ?_ _)); exact BK209.out⟩, ⟨by repeat (first | (with_reducible first | exact HB.out | apply below_alloc | apply pw_below_drewN | apply below_drew1 | refine below_set ?_ GE206.out | refine below_set ?_ GE209.out | refine below_set ?_ GE211.out) | exact HB.out)⟩⟩
                        · rw [if_neg c53] at H
                          exact absurd H (by simp)
              · rw [if_neg c14] at H
                exact absurd H (by simp)
            · rw [if_neg c13] at H
              exact absurd H (by simp)
          · rw [if_neg c12] at H
            have c12b0 : decide (x22_1 < (l0.length : Int)) = false := decide_eq_false c12
            clear c12
            simp only [Option.some.injEq, Prod.mk.injEq] at H
            obtain ⟨rfl, rfl, rfl, rfl⟩ := H
            have hnb62 := NB209_206.out
            have hnc62 := NB206_209.out
            have hcz63_0 : wr.cell? ⟨gb209, 0, none⟩ = some (u210000) := (blk_cell BK209.out 0).trans rfl
            have hcz63_1 : wr.cell? ⟨gb209, 1, none⟩ = some (u210001) := (blk_cell BK209.out 1).trans rfl
            have hcz63_2 : wr.cell? ⟨gb209, 2, none⟩ = some (u210002) := (blk_cell BK209.out 2).trans rfl
            have hcz63_3 : wr.cell? ⟨gb209, 3, none⟩ = some (.int .i64 0) := (blk_cell BK209.out 3).trans rfl
            have hfz63_0 := blk_frozen BK209.out 0
            have hfz63_1 := blk_frozen BK209.out 1
            have hfz63_2 := blk_frozen BK209.out 2
            have hfz63_3 := blk_frozen BK209.out 3
            obtain ⟨Ao64, co64, eo64⟩ := Kd.R_slice HO_210000.out
            subst eo64
            have hcz65_0 : wr.cell? ⟨gb206, 0, none⟩ = some (.slice none 0 0) := (blk_cell BK206.out 0).trans rfl
            have hcz65_1 : wr.cell? ⟨gb206, 1, none⟩ = some (.slice none 0 0) := (blk_cell BK206.out 1).trans rfl
            have hcz65_2 : wr.cell? ⟨gb206, 2, none⟩ = some (.slice none 0 0) := (blk_cell BK206.out 2).trans rfl
            have hcz65_3 : wr.cell? ⟨gb206, 3, none⟩ = some (.int .i64 0) := (blk_cell BK206.out 3).trans rfl
            have hfz65_0 := blk_frozen BK206.out 0
            have hfz65_1 := blk_frozen BK206.out 1
            have hfz65_2 := blk_frozen BK206.out 2
            have hfz65_3 := blk_frozen BK206.out 3
            obtain ⟨Ao66, co66, eo66⟩ := Kd.R_slice HO_210001.out
            subst eo66
            obtain ⟨Ao67, co67, eo67⟩ := Kd.R_slice HO_210002.out
            subst eo67
            go_wp2
            refine bodyPost_ret (results_cell_row rfl _ _ gb206 34 #[.slice Ao64 x210000_1.length co64, .slice Ao66 x210001_1.length co66, .slice Ao67 x210002_1.length co67, .int .i64 0] (0, 0) _ rfl (by (with_reducible repeat (first | refine blk_drewN ?_ _ | refine blk_drew ?_ | refine blk_alloc ?_ _)); refine blk_put (cs := #[.slice Ao64 x210000_1.length co64, .slice Ao66 x210001_1.length co66, .slice Ao67 x210002_1.length co67, .int .i64 0]) ?_ 3 _ rfl; (with_reducible repeat (first | refine blk_drewN ?_ _ | refine blk_drew ?_ | refine blk_alloc ?_ _)); refine blk_put (cs := #[.slice Ao64 x210000_1.length co64, .slice Ao66 x210001_1.length co66, .slice none 0 0, .int .i64 0]) ?_ 2 _ rfl; (with_reducible repeat (first | refine blk_drewN ?_ _ | refine blk_drew ?_ | refine blk_alloc ?_ _)); refine blk_put (cs := #[.slice Ao64 x210000_1.length co64, .slice none 0 0, .slice none 0 0, .int .i64 0]) ?_ 1 _ rfl; (with_reducible repeat (first | refine blk_drewN ?_ _ | refine blk_drew ?_ | refine blk_alloc ?_ _)); refine blk_put (cs := #[.slice none 0 0, .slice none 0 0, .slice none 0 0, .int .i64 0]) ?_ 0 _ rfl; (with_reducible repeat (first | refine blk_drewN ?_ _ | refine blk_drew ?_ | refine blk_alloc ?_ _)); exact BK206.out) Try.underlying34 rfl (by kernel_rfl)) rfl ?_
            exact ⟨_, _, _, by first | rfl | (simp [errW_none, errW_some] <;> rfl) | (simp [*, errW_none, errW_some] <;> rfl), by (with_reducible repeat (first | apply Kd.R_alloc | apply Kd.R_drewN | apply Kd.R_drew)); exact Kd.R_mono (Kd.R_far (p := ⟨gb206, 3, none⟩) (Kd.R_far (p := ⟨gb206, 2, none⟩) (Kd.R_far (p := ⟨gb206, 1, none⟩) (Kd.R_far (p := ⟨gb206, 0, none⟩) (Kd.R_types HO_210000.out BK206.out (by decide)) (fun _ hk => hk.2) (.slice Ao64 x210000_1.length co64)) (fun _ hk => hk.2) (.slice Ao66 x210001_1.length co66)) (fun _ hk => hk.2) (.slice Ao67 x210002_1.length co67)) (fun _ hk => hk.2) (.int .i64 0)) (fun _ hk => hk.1), by (with_reducible repeat (first | apply Kd.R_alloc | apply Kd.R_drewN | apply Kd.R_drew)); exact Kd.R_mono (Kd.R_far (p := ⟨gb206, 3, none⟩) (Kd.R_far (p := ⟨gb206, 2, none⟩) (Kd.R_far (p := ⟨gb206, 1, none⟩) (Kd.R_far (p := ⟨gb206, 0, none⟩) (Kd.R_types HO_210001.out BK206.out (by decide)) (fun _ hk => hk.2) (.slice Ao64 x210000_1.length co64)) (fun _ hk => hk.2) (.slice Ao66 x210001_1.length co66)) (fun _ hk => hk.2) (.slice Ao67 x210002_1.length co67)) (fun _ hk => hk.2) (.int .i64 0)) (fun _ hk => trivial), by (with_reducible repeat (first | apply Kd.R_alloc | apply Kd.R_drewN | apply Kd.R_drew)); exact Kd.R_mono (Kd.R_far (p := ⟨gb206, 3, none⟩) (Kd.R_far (p := ⟨gb206, 2, none⟩) (Kd.R_far (p := ⟨gb206, 1, none⟩) (Kd.R_far (p := ⟨gb206, 0, none⟩) (Kd.R_types HO_210002.out BK206.out (by decide)) (fun _ hk => hk.2) (.slice Ao64 x210000_1.length co64)) (fun _ hk => hk.2) (.slice Ao66 x210001_1.length co66)) (fun _ hk => hk.2) (.slice Ao67 x210002_1.length co67)) (fun _ hk => hk.2) (.int .i64 0)) (fun _ hk => hk.1), by repeat (first | (with_reducible first | exact HB.out | apply below_alloc | apply pw_below_drewN | apply below_drew1 | refine below_set ?_ GE206.out | refine below_set ?_ GE209.out) | exact HB.out)⟩
    · replace c8 := Bool.eq_false_iff.mpr c8
      subst c8
      have H1 : (some (([] : List (S24)), ([] : List (S105)), ([] : List (S24)), 1)) = some (r1, r2, r3, r4) := by rw [if_neg (show ¬ (false = true) by decide)] at H; exact H
      clear H
      have H := H1
      clear H1
      simp only [Option.some.injEq, Prod.mk.injEq] at H
      obtain ⟨rfl, rfl, rfl, rfl⟩ := H
      have hcz68_0 : w5.cell? ⟨gb206, 0, none⟩ = some (.slice none 0 0) := (blk_cell BK206.out 0).trans rfl
      have hcz68_1 : w5.cell? ⟨gb206, 1, none⟩ = some (.slice none 0 0) := (blk_cell BK206.out 1).trans rfl
      have hcz68_2 : w5.cell? ⟨gb206, 2, none⟩ = some (.slice none 0 0) := (blk_cell BK206.out 2).trans rfl
      have hcz68_3 : w5.cell? ⟨gb206, 3, none⟩ = some (.int .i64 0) := (blk_cell BK206.out 3).trans rfl
      have hfz68_0 := blk_frozen BK206.out 0
      have hfz68_1 := blk_frozen BK206.out 1
      have hfz68_2 := blk_frozen BK206.out 2
      have hfz68_3 := blk_frozen BK206.out 3
      go_wp2
      refine bodyPost_ret (results_cell_row rfl _ _ gb206 34 #[.slice none 0 0, .slice none 0 0, .slice none 0 0, .int .i64 1] (0, 0) _ rfl (by (with_reducible repeat (first | refine blk_drewN ?_ _ | refine blk_drew ?_ | refine blk_alloc ?_ _)); refine blk_put (cs := #[.slice none 0 0, .slice none 0 0, .slice none 0 0, .int .i64 0]) ?_ 3 _ rfl; (with_reducible repeat (first | refine blk_drewN ?_ _ | refine blk_drew ?_ | refine blk_alloc ?_ _)); refine blk_put (cs := #[.slice none 0 0, .slice none 0 0, .slice none 0 0, .int .i64 0]) ?_ 2 _ rfl; (with_reducible repeat (first | refine blk_drewN ?_ _ | refine blk_drew ?_ | refine blk_alloc ?_ _)); refine blk_put (cs := #[.slice none 0 0, .slice none 0 0, .slice none 0 0, .int .i64 0]) ?_ 1 _ rfl; (with_reducible repeat (first | refine blk_drewN ?_ _ | refine blk_drew ?_ | refine blk_alloc ?_ _)); refine blk_put (cs := #[.slice none 0 0, .slice none 0 0, .slice none 0 0, .int .i64 0]) ?_ 0 _ rfl; (with_reducible repeat (first | refine blk_drewN ?_ _ | refine blk_drew ?_ | refine blk_alloc ?_ _)); exact BK206.out) Try.underlying34 rfl (by kernel_rfl)) rfl ?_
      exact ⟨_, _, _, by first | rfl | (simp [errW_none, errW_some] <;> rfl) | (simp [*, errW_none, errW_some] <;> rfl), by first | exact Kd.R_nil _ _ _ _ _ | exact Kd.N_nil _ _ _ _ _ | exact Kd.V_nil _ _ _ _ _ | exact Kd.Q_nil _ _ _ _ _ | exact Kd.S_nil _ _ _ _ _, by first | exact Kd.R_nil _ _ _ _ _ | exact Kd.N_nil _ _ _ _ _ | exact Kd.V_nil _ _ _ _ _ | exact Kd.Q_nil _ _ _ _ _ | exact Kd.S_nil _ _ _ _ _, by first | exact Kd.R_nil _ _ _ _ _ | exact Kd.N_nil _ _ _ _ _ | exact Kd.V_nil _ _ _ _ _ | exact Kd.Q_nil _ _ _ _ _ | exact Kd.S_nil _ _ _ _ _, by repeat (first | (with_reducible first | exact HB.out | apply below_alloc | apply pw_below_drewN | apply below_drew1 | refine below_set ?_ GE206.out) | exact HB.out)⟩
  · rw [if_neg c6] at H
    have c6b0 : (t207 == 0) = false := beq_eq_false_iff_ne.mpr c6
    have c6b1 : (t207 != 0) = true := bne_iff_ne.mpr c6
    simp only [Option.some.injEq, Prod.mk.injEq] at H
    obtain ⟨rfl, rfl, rfl, rfl⟩ := H
    have hcz69_0 : w5.cell? ⟨gb206, 0, none⟩ = some (.slice none 0 0) := (blk_cell BK206.out 0).trans rfl
    have hcz69_1 : w5.cell? ⟨gb206, 1, none⟩ = some (.slice none 0 0) := (blk_cell BK206.out 1).trans rfl
    have hcz69_2 : w5.cell? ⟨gb206, 2, none⟩ = some (.slice none 0 0) := (blk_cell BK206.out 2).trans rfl
    have hcz69_3 : w5.cell? ⟨gb206, 3, none⟩ = some (.int .i64 0) := (blk_cell BK206.out 3).trans rfl
    have hfz69_0 := blk_frozen BK206.out 0
    have hfz69_1 := blk_frozen BK206.out 1
    have hfz69_2 := blk_frozen BK206.out 2
    have hfz69_3 := blk_frozen BK206.out 3
    go_wp2
    refine bodyPost_ret (results_cell_row rfl _ _ gb206 34 #[.slice none 0 0, .slice none 0 0, .slice none 0 0, .int .i64 t207] (0, 0) _ rfl (by (with_reducible repeat (first | refine blk_drewN ?_ _ | refine blk_drew ?_ | refine blk_alloc ?_ _)); refine blk_put (cs := #[.slice none 0 0, .slice none 0 0, .slice none 0 0, .int .i64 0]) ?_ 3 _ rfl; (with_reducible repeat (first | refine blk_drewN ?_ _ | refine blk_drew ?_ | refine blk_alloc ?_ _)); refine blk_put (cs := #[.slice none 0 0, .slice none 0 0, .slice none 0 0, .int .i64 0]) ?_ 2 _ rfl; (with_reducible repeat (first | refine blk_drewN ?_ _ | refine blk_drew ?_ | refine blk_alloc ?_ _)); refine blk_put (cs := #[.slice none 0 0, .slice none 0 0, .slice none 0 0, .int .i64 0]) ?_ 1 _ rfl; (with_reducible repeat (first | refine blk_drewN ?_ _ | refine blk_drew ?_ | refine blk_alloc ?_ _)); refine blk_put (cs := #[.slice none 0 0, .slice none 0 0, .slice none 0 0, .int .i64 0]) ?_ 0 _ rfl; (with_reducible repeat (first | refine blk_drewN ?_ _ | refine blk_drew ?_ | refine blk_alloc ?_ _)); exact BK206.out) Try.underlying34 rfl (by kernel_rfl)) rfl ?_
    exact ⟨_, _, _, by first | rfl | (simp [errW_none, errW_some] <;> rfl) | (simp [*, errW_none, errW_some] <;> rfl), by first | exact Kd.R_nil _ _ _ _ _ | exact Kd.N_nil _ _ _ _ _ | exact Kd.V_nil _ _ _ _ _ | exact Kd.Q_nil _ _ _ _ _ | exact Kd.S_nil _ _ _ _ _, by first | exact Kd.R_nil _ _ _ _ _ | exact Kd.N_nil _ _ _ _ _ | exact Kd.V_nil _ _ _ _ _ | exact Kd.Q_nil _ _ _ _ _ | exact Kd.S_nil _ _ _ _ _, by first | exact Kd.R_nil _ _ _ _ _ | exact Kd.N_nil _ _ _ _ _ | exact Kd.V_nil _ _ _ _ _ | exact Kd.Q_nil _ _ _ _ _ | exact Kd.S_nil _ _ _ _ _, by repeat (first | (with_reducible first | exact HB.out | apply below_alloc | apply pw_below_drewN | apply below_drew1 | refine below_set ?_ GE206.out) | exact HB.out)⟩
end Go.Proofs.Ytefmkmhjbfpelaa.QK

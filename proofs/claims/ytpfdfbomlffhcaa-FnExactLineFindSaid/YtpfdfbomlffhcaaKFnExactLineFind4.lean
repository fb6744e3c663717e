-- Merged by a program of this session (wip/tool/pack.py) out of its own texts for this claim.
import Derived.Test.YtpfdfbomlffhcaaKFnExactLineFind0
import Derived.Test.YtpfdfbomlffhcaaKFnExactLineFind1
import Derived.Test.YtpfdfbomlffhcaaKFnExactLineFind2
import Derived.Test.YtpfdfbomlffhcaaKFnExactLineFind3
namespace Go.Proofs.Ytpfdfbomlffhcaa.QF
open Go.RowKit Go.Proofs.YtpfdfbomlffhcaaW.PrintWords Go.Proofs.YtpfdfbomlffhcaaW.PrintLast Go.Proofs.YtpfdfbomlffhcaaW.PrintMore
attribute [local go_sem] max2_int min2_int max_two min_two max_three min_three max_four min_four   -- for this text's walks alone
set_option linter.unusedVariables false
set_option linter.unusedSimpArgs false
def spec_LinesRight.T6 : Bool × List (List Nat × List Nat) := (true, [([], []), ([], []), ([0, 1], [0, 1]), ([2], [2]), ([3], [3]), ([4], [4]), ([5, 4], [5]), ([6], [6]), ([7, 6], [6, 7]), ([8, 6, 6], [6, 8]), ([9], [9]), ([9], [9]), ([11, 9], [9, 11]), ([10, 12, 9], [9, 10, 12]), ([13, 9], [9, 13]), ([9], [9]), ([9], [9]), ([15, 16, 9], [9, 15, 16]), ([17, 9], [9, 17]), ([14, 18, 9, 9], [9, 14, 18]), ([19, 9], [9, 19]), ([9, 20, 6], [6, 9, 20]), ([6, 21], [6, 21])])
def spec_LinesRight.B6 : List Nat := [0, 0, 3, 7, 15, 31, 63, 127, 255, 511, 1023, 1023, 3071, 8191, 16383, 1023, 1023, 99327, 230399, 524287, 1048575, 2097151, 4194303]
theorem spec_LinesRight.tab6 : rtab .any (opsOf Try.f34 6) = spec_LinesRight.T6 := by kernel_rfl
theorem spec_LinesRight.bits6 : waitsOk spec_LinesRight.T6.2 spec_LinesRight.B6 = true := by kernel_rfl
set_option maxHeartbeats 8000000 in
set_option maxRecDepth 100000 in
theorem spec_LinesRight.calls (k : Nat) (A0 : Option Addr) (c0 : Nat) (l0 : List (S26)) (r : Bool) (w : World) (hr0 : Kd.C k26 w A0 l0.length l0) (hc0 : l0.length ≤ c0) (h : spec_LinesRight.f k l0 = some r) :
    Calls Try.prog 34 #[.slice A0 l0.length c0] w fun e w' => e = .returned (.bool r) ∧ Below w.heap.size w w' := by
  have hu26 := Try.underlying26; have HR0 := Aside0.mk hr0; have HC0 := Aside0.mk hc0; clear hr0 hc0; have HB := Aside0.mk (Below.refl w.heap.size w); have H : (if (l0.length : Int) > 200 then (some false) else (spec_LinesRight.l0 k l0 0)) = some r := h; clear h
  by_cases c2 : (l0.length : Int) > 200
  · rw [if_pos c2] at H; have c2b0 : decide (200 < (l0.length : Int)) = true := decide_eq_true c2; have c2b1 : decide (200 < l0.length) = true := decide_eq_true (by omega); clear c2; obtain rfl := Option.some.inj H
    go_enter Try.func34, Try.ntmps34
    go_wp2
    go_ret
    exact ⟨ff, bs HB⟩
  · rw [if_neg c2] at H; have c2b0 : decide (200 < (l0.length : Int)) = false := decide_eq_false c2; have c2b1 : decide (200 < l0.length) = false := decide_eq_false (by omega); clear c2; have H' := Aside0.mk H; clear H
    go_enter Try.func34, Try.ntmps34
    go_wp2
    go_loopg [3] k (fun kq v3 w' => ∃ (x3_1 : Int), v3 = .int .i64 x3_1 ∧ Aside0 (spec_LinesRight.l0 kq l0 x3_1 = some r) ∧ Aside0 (kq ≤ k) ∧ Aside0 (Below w.heap.size w w'))
    case atStart => exact ⟨(0), fg, H', ⟨Nat.le_refl _⟩, ⟨bs HB⟩⟩
    case round =>
      clear H'
      try clear c2
      try clear c2b0
      try clear c2b1
      try clear p2
      obtain ⟨x3_1, rfl, HA, HK1, HB⟩ := hrel
      cases gk with
      | zero => exact absurd HA.out (by simp [spec_LinesRight.l0])
      | succ k1 =>
        have H := HA.out; clear HA; simp only [spec_LinesRight.l0] at H
        by_cases c3 : x3_1 < (l0.length : Int)
        · rw [if_pos c3] at H; have c3b0 : decide (x3_1 < (l0.length : Int)) = true := decide_eq_true c3; clear c3
          by_cases c4 : 0 ≤ x3_1
          · rw [if_pos c4] at H; have c4b0 : decide (0 ≤ x3_1) = true := decide_eq_true c4; clear c4; replace H := Option.bind_eq_some_iff.mp H; obtain ⟨t128, A50, H⟩ := H; replace H : (if t128 = true then (if x3_1 > 0 then (if 0 ≤ (wrap64 (x3_1 - 1)) then (if (wrap64 (x3_1 - 1)) < (l0.length : Int) then ((spec_l09Before.f ((rd_T26 l0 (wrap64 (x3_1 - 1))).f0) ((rd_T26 l0 (wrap64 (x3_1 - 1))).f1) ((rd_T26 l0 (wrap64 (x3_1 - 1))).f2) ((rd_T26 l0 (wrap64 (x3_1 - 1))).f3) ((rd_T26 l0 (wrap64 (x3_1 - 1))).f4) ((rd_T26 l0 (wrap64 (x3_1 - 1))).f5) ((rd_T26 l0 (wrap64 (x3_1 - 1))).f6) ((rd_T26 l0 (wrap64 (x3_1 - 1))).f7) ((rd_T26 l0 x3_1).f0) ((rd_T26 l0 x3_1).f1) ((rd_T26 l0 x3_1).f2) ((rd_T26 l0 x3_1).f3) ((rd_T26 l0 x3_1).f4) ((rd_T26 l0 x3_1).f5) ((rd_T26 l0 x3_1).f6) ((rd_T26 l0 x3_1).f7)).bind fun t131 => (if t131 = true then (spec_LinesRight.l0 k1 l0 (wrap64 (x3_1 + 1))) else (some false))) else (none)) else (none)) else (spec_LinesRight.l0 k1 l0 (wrap64 (x3_1 + 1)))) else (some false)) = some r := H; have A5 := Aside0.mk A50; clear A50
            by_cases c6 : t128 = true
            · subst c6
              have H1 : (if x3_1 > 0 then (if 0 ≤ (wrap64 (x3_1 - 1)) then (if (wrap64 (x3_1 - 1)) < (l0.length : Int) then ((spec_l09Before.f ((rd_T26 l0 (wrap64 (x3_1 - 1))).f0) ((rd_T26 l0 (wrap64 (x3_1 - 1))).f1) ((rd_T26 l0 (wrap64 (x3_1 - 1))).f2) ((rd_T26 l0 (wrap64 (x3_1 - 1))).f3) ((rd_T26 l0 (wrap64 (x3_1 - 1))).f4) ((rd_T26 l0 (wrap64 (x3_1 - 1))).f5) ((rd_T26 l0 (wrap64 (x3_1 - 1))).f6) ((rd_T26 l0 (wrap64 (x3_1 - 1))).f7) ((rd_T26 l0 x3_1).f0) ((rd_T26 l0 x3_1).f1) ((rd_T26 l0 x3_1).f2) ((rd_T26 l0 x3_1).f3) ((rd_T26 l0 x3_1).f4) ((rd_T26 l0 x3_1).f5) ((rd_T26 l0 x3_1).f6) ((rd_T26 l0 x3_1).f7)).bind fun t131 => (if t131 = true then (spec_LinesRight.l0 k1 l0 (wrap64 (x3_1 + 1))) else (some false))) else (none)) else (none)) else (spec_LinesRight.l0 k1 l0 (wrap64 (x3_1 + 1)))) = some r := by rw [if_pos rfl] at H; exact H
              clear H; have H := H1; clear H1
              by_cases c7 : x3_1 > 0
              · rw [if_pos c7] at H; have c7b0 : decide (0 < x3_1) = true := decide_eq_true c7; clear c7; obtain ⟨ji8, hji8⟩ : ∃ j_ : Int, (wrap64 (x3_1 - 1)) = j_ := ⟨_, rfl⟩
                replace H : (if 0 ≤ (ji8) then (if (ji8) < (l0.length : Int) then ((spec_l09Before.f ((rd_T26 l0 (ji8)).f0) ((rd_T26 l0 (ji8)).f1) ((rd_T26 l0 (ji8)).f2) ((rd_T26 l0 (ji8)).f3) ((rd_T26 l0 (ji8)).f4) ((rd_T26 l0 (ji8)).f5) ((rd_T26 l0 (ji8)).f6) ((rd_T26 l0 (ji8)).f7) ((rd_T26 l0 x3_1).f0) ((rd_T26 l0 x3_1).f1) ((rd_T26 l0 x3_1).f2) ((rd_T26 l0 x3_1).f3) ((rd_T26 l0 x3_1).f4) ((rd_T26 l0 x3_1).f5) ((rd_T26 l0 x3_1).f6) ((rd_T26 l0 x3_1).f7)).bind fun t131 => (if t131 = true then (spec_LinesRight.l0 k1 l0 (wrap64 (x3_1 + 1))) else (some false))) else (none)) else (none)) = some r := by first | (rw [hji8] at H; exact H) | (simp only [hji8] at H ⊢; exact H)
                (try rw [hji8] at A5)
                have hji8w : (IntKind.i64.wrap (x3_1 - 1)) = ji8 := (i64_w _).trans hji8
                by_cases c9 : 0 ≤ (ji8)
                · rw [if_pos c9] at H; have c9b0 : decide (0 ≤ (ji8)) = true := decide_eq_true c9; clear c9
                  by_cases c10 : (ji8) < (l0.length : Int)
                  · rw [if_pos c10] at H; have c10b0 : decide ((ji8) < (l0.length : Int)) = true := decide_eq_true c10; clear c10; replace H := Option.bind_eq_some_iff.mp H; obtain ⟨t131, A110, H⟩ := H; replace H : (if t131 = true then (spec_LinesRight.l0 k1 l0 (wrap64 (x3_1 + 1))) else (some false)) = some r := H; have A11 := Aside0.mk A110; clear A110
                    by_cases c12 : t131 = true
                    · subst c12
                      have H1 : (spec_LinesRight.l0 k1 l0 (wrap64 (x3_1 + 1))) = some r := by rw [if_pos rfl] at H; exact H
                      clear H; have H := H1; clear H1; have H' := Aside0.mk H; clear H
                      try go_wp2
                      replace HB := Aside0.mk (below_drew1 HB.out); have p127 : 0 ≤ (x3_1 : Int) := oa; have q127 : x3_1 < (l0.length : Int) := oa; obtain ⟨ad127, e127, hx127_0, hx127_1, hx127_2, hx127_3, hx127_4, hx127_5, hx127_6, hx127_7⟩ := at_T26 HR0.out x3_1 p127 q127; have hw127_7 := hx127_7; have hw127_6 := hx127_6; have hw127_5 := hx127_5; have hw127_4 := hx127_4; have hw127_3 := hx127_3; have hw127_2 := hx127_2; have hw127_1 := hx127_1; have hw127_0 := hx127_0
                      cases e127
                      replace hx127_0 := cb HB hx127_0; replace hx127_1 := cb HB hx127_1; replace hx127_2 := cb HB hx127_2; replace hx127_3 := cb HB hx127_3; replace hx127_4 := cb HB hx127_4; replace hx127_5 := cb HB hx127_5; replace hx127_6 := cb HB hx127_6; replace hx127_7 := cb HB hx127_7; replace p127 := eq_true p127; replace q127 := eq_true q127; have p129 : 0 ≤ ((ji8) : Int) := oa; have q129 : (ji8) < (l0.length : Int) := oa; obtain ⟨ad129, e129, hx129_0, hx129_1, hx129_2, hx129_3, hx129_4, hx129_5, hx129_6, hx129_7⟩ := at_T26 HR0.out (ji8) p129 q129; have hw129_7 := hx129_7; have hw129_6 := hx129_6; have hw129_5 := hx129_5; have hw129_4 := hx129_4; have hw129_3 := hx129_3; have hw129_2 := hx129_2; have hw129_1 := hx129_1; have hw129_0 := hx129_0; obtain rfl : ad127 = ad129 := (by injection e129); replace hx129_0 := cb HB hx129_0; replace hx129_1 := cb HB hx129_1; replace hx129_2 := cb HB hx129_2; replace hx129_3 := cb HB hx129_3; replace hx129_4 := cb HB hx129_4; replace hx129_5 := cb HB hx129_5; replace hx129_6 := cb HB hx129_6; replace hx129_7 := cb HB hx129_7; replace p129 := eq_true p129; replace q129 := eq_true q129; have p130 : 0 ≤ (x3_1 : Int) := oa; have q130 : x3_1 < (l0.length : Int) := oa; obtain ⟨ad130, e130, hx130_0, hx130_1, hx130_2, hx130_3, hx130_4, hx130_5, hx130_6, hx130_7⟩ := at_T26 HR0.out x3_1 p130 q130; have hw130_7 := hx130_7; have hw130_6 := hx130_6; have hw130_5 := hx130_5; have hw130_4 := hx130_4; have hw130_3 := hx130_3; have hw130_2 := hx130_2; have hw130_1 := hx130_1; have hw130_0 := hx130_0; obtain rfl : ad127 = ad130 := (by injection e130); replace hx130_0 := cb HB hx130_0; replace hx130_1 := cb HB hx130_1; replace hx130_2 := cb HB hx130_2; replace hx130_3 := cb HB hx130_3; replace hx130_4 := cb HB hx130_4; replace hx130_5 := cb HB hx130_5; replace hx130_6 := cb HB hx130_6; replace hx130_7 := cb HB hx130_7; replace p130 := eq_true p130; replace q130 := eq_true q130; refine start_ (n := 23) (S := fun w' => w'.cell? (ad127.add ((x3_1).toNat * 8)) = some (.string ((rd_T26 l0 x3_1).f0)) ∧ w'.cell? ⟨(ad127.add ((x3_1).toNat * 8)).block, (ad127.add ((x3_1).toNat * 8)).off + 1, none⟩ = some (.string ((rd_T26 l0 x3_1).f1)) ∧ w'.cell? ⟨(ad127.add ((x3_1).toNat * 8)).block, (ad127.add ((x3_1).toNat * 8)).off + 2, none⟩ = some (.int .i64 ((rd_T26 l0 x3_1).f2)) ∧ w'.cell? ⟨(ad127.add ((x3_1).toNat * 8)).block, (ad127.add ((x3_1).toNat * 8)).off + 3, none⟩ = some (.string ((rd_T26 l0 x3_1).f3)) ∧ w'.cell? ⟨(ad127.add ((x3_1).toNat * 8)).block, (ad127.add ((x3_1).toNat * 8)).off + 4, none⟩ = some (.int .i64 ((rd_T26 l0 x3_1).f4)) ∧ w'.cell? ⟨(ad127.add ((x3_1).toNat * 8)).block, (ad127.add ((x3_1).toNat * 8)).off + 5, none⟩ = some (.int .i64 ((rd_T26 l0 x3_1).f5)) ∧ w'.cell? ⟨(ad127.add ((x3_1).toNat * 8)).block, (ad127.add ((x3_1).toNat * 8)).off + 6, none⟩ = some (.int .i64 ((rd_T26 l0 x3_1).f6)) ∧ w'.cell? ⟨(ad127.add ((x3_1).toNat * 8)).block, (ad127.add ((x3_1).toNat * 8)).off + 7, none⟩ = some (.int .i64 ((rd_T26 l0 x3_1).f7)) ∧ w'.cell? (ad127.add (((ji8)).toNat * 8)) = some (.string ((rd_T26 l0 (ji8)).f0)) ∧ w'.cell? ⟨(ad127.add (((ji8)).toNat * 8)).block, (ad127.add (((ji8)).toNat * 8)).off + 1, none⟩ = some (.string ((rd_T26 l0 (ji8)).f1)) ∧ w'.cell? ⟨(ad127.add (((ji8)).toNat * 8)).block, (ad127.add (((ji8)).toNat * 8)).off + 2, none⟩ = some (.int .i64 ((rd_T26 l0 (ji8)).f2)) ∧ w'.cell? ⟨(ad127.add (((ji8)).toNat * 8)).block, (ad127.add (((ji8)).toNat * 8)).off + 3, none⟩ = some (.string ((rd_T26 l0 (ji8)).f3)) ∧ w'.cell? ⟨(ad127.add (((ji8)).toNat * 8)).block, (ad127.add (((ji8)).toNat * 8)).off + 4, none⟩ = some (.int .i64 ((rd_T26 l0 (ji8)).f4)) ∧ w'.cell? ⟨(ad127.add (((ji8)).toNat * 8)).block, (ad127.add (((ji8)).toNat * 8)).off + 5, none⟩ = some (.int .i64 ((rd_T26 l0 (ji8)).f5)) ∧ w'.cell? ⟨(ad127.add (((ji8)).toNat * 8)).block, (ad127.add (((ji8)).toNat * 8)).off + 6, none⟩ = some (.int .i64 ((rd_T26 l0 (ji8)).f6)) ∧ w'.cell? ⟨(ad127.add (((ji8)).toNat * 8)).block, (ad127.add (((ji8)).toNat * 8)).off + 7, none⟩ = some (.int .i64 ((rd_T26 l0 (ji8)).f7)) ∧ w'.cell? (ad127.add ((x3_1).toNat * 8)) = some (.string ((rd_T26 l0 x3_1).f0)) ∧ w'.cell? ⟨(ad127.add ((x3_1).toNat * 8)).block, (ad127.add ((x3_1).toNat * 8)).off + 1, none⟩ = some (.string ((rd_T26 l0 x3_1).f1)) ∧ w'.cell? ⟨(ad127.add ((x3_1).toNat * 8)).block, (ad127.add ((x3_1).toNat * 8)).off + 2, none⟩ = some (.int .i64 ((rd_T26 l0 x3_1).f2)) ∧ w'.cell? ⟨(ad127.add ((x3_1).toNat * 8)).block, (ad127.add ((x3_1).toNat * 8)).off + 3, none⟩ = some (.string ((rd_T26 l0 x3_1).f3)) ∧ w'.cell? ⟨(ad127.add ((x3_1).toNat * 8)).block, (ad127.add ((x3_1).toNat * 8)).off + 4, none⟩ = some (.int .i64 ((rd_T26 l0 x3_1).f4)) ∧ w'.cell? ⟨(ad127.add ((x3_1).toNat * 8)).block, (ad127.add ((x3_1).toNat * 8)).off + 5, none⟩ = some (.int .i64 ((rd_T26 l0 x3_1).f5)) ∧ w'.cell? ⟨(ad127.add ((x3_1).toNat * 8)).block, (ad127.add ((x3_1).toNat * 8)).off + 6, none⟩ = some (.int .i64 ((rd_T26 l0 x3_1).f6)) ∧ w'.cell? ⟨(ad127.add ((x3_1).toNat * 8)).block, (ad127.add ((x3_1).toNat * 8)).off + 7, none⟩ = some (.int .i64 ((rd_T26 l0 x3_1).f7))) (ds := []) #[false, false, false, false, false, false, false, false, false, false, false, false, false, false, false, false, false, false, false, false, false, false, false] (by kernel_rfl) rfl rfl ⟨((cb HB hw127_0).trans rfl), ((cb HB hw127_1).trans rfl), ((cb HB hw127_2).trans rfl), ((cb HB hw127_3).trans rfl), ((cb HB hw127_4).trans rfl), ((cb HB hw127_5).trans rfl), ((cb HB hw127_6).trans rfl), ((cb HB hw127_7).trans rfl), ((cb HB hw129_0).trans rfl), ((cb HB hw129_1).trans rfl), ((cb HB hw129_2).trans rfl), ((cb HB hw129_3).trans rfl), ((cb HB hw129_4).trans rfl), ((cb HB hw129_5).trans rfl), ((cb HB hw129_6).trans rfl), ((cb HB hw129_7).trans rfl), ((cb HB hw130_0).trans rfl), ((cb HB hw130_1).trans rfl), ((cb HB hw130_2).trans rfl), ((cb HB hw130_3).trans rfl), ((cb HB hw130_4).trans rfl), ((cb HB hw130_5).trans rfl), ((cb HB hw130_6).trans rfl), ((cb HB hw130_7).trans rfl)⟩ (fun hHeld => ?_); refine with_tabW spec_LinesRight.tab6 spec_LinesRight.bits6 (fun HT_ HW_ => ?_)
                      generalize wr.drew = w13 at HB hx127_0 hx127_1 hx127_2 hx127_3 hx127_4 hx127_5 hx127_6 hx127_7 hx129_0 hx129_1 hx129_2 hx129_3 hx129_4 hx129_5 hx129_6 hx129_7 hx130_0 hx130_1 hx130_2 hx130_3 hx130_4 hx130_5 hx130_6 hx130_7 hHeld ⊢
                      refine pA 0 13 HT_ ?_; refine pA 1 14 HT_ ?_; refine pA 2 15 HT_ ?_; refine tA 3 16 HT_ HW_ hHeld ?_; refine oA 4 17 HT_ (fun K hK => ?_); refine gA Try.func53 #[.agg #[.string ((rd_T26 l0 x3_1).f0), .string ((rd_T26 l0 x3_1).f1), .int .i64 ((rd_T26 l0 x3_1).f2), .string ((rd_T26 l0 x3_1).f3), .int .i64 ((rd_T26 l0 x3_1).f4), .int .i64 ((rd_T26 l0 x3_1).f5), .int .i64 ((rd_T26 l0 x3_1).f6), .int .i64 ((rd_T26 l0 x3_1).f7)]] ?_; (with_reducible refine (spec_LineRight.calls k1 ((rd_T26 l0 x3_1).f0) ((rd_T26 l0 x3_1).f1) ((rd_T26 l0 x3_1).f2) ((rd_T26 l0 x3_1).f3) ((rd_T26 l0 x3_1).f4) ((rd_T26 l0 x3_1).f5) ((rd_T26 l0 x3_1).f6) ((rd_T26 l0 x3_1).f7) true _ A5.out).mono ?_); rintro e w14 ⟨rfl, hb⟩; refine ⟨_, rfl, ?_⟩; replace HB := Aside0.mk (below_step (bs HB) hb); (try clear hb); (try clear hb2); (try clear hk); (try clear hi); refine hK.out _ _ ⟨((cb HB hw127_0).trans rfl), ((cb HB hw127_1).trans rfl), ((cb HB hw127_2).trans rfl), ((cb HB hw127_3).trans rfl), ((cb HB hw127_4).trans rfl), ((cb HB hw127_5).trans rfl), ((cb HB hw127_6).trans rfl), ((cb HB hw127_7).trans rfl), ((cb HB hw129_0).trans rfl), ((cb HB hw129_1).trans rfl), ((cb HB hw129_2).trans rfl), ((cb HB hw129_3).trans rfl), ((cb HB hw129_4).trans rfl), ((cb HB hw129_5).trans rfl), ((cb HB hw129_6).trans rfl), ((cb HB hw129_7).trans rfl), ((cb HB hw130_0).trans rfl), ((cb HB hw130_1).trans rfl), ((cb HB hw130_2).trans rfl), ((cb HB hw130_3).trans rfl), ((cb HB hw130_4).trans rfl), ((cb HB hw130_5).trans rfl), ((cb HB hw130_6).trans rfl), ((cb HB hw130_7).trans rfl)⟩ (fun hHeld => ?_); clear hK K; refine nA 17 ?_; refine pA 5 18 HT_ ?_; refine pA 6 19 HT_ ?_; refine pA 7 20 HT_ ?_; refine pA 8 21 HT_ ?_; refine pA 9 22 HT_ ?_; refine pA 10 23 HT_ ?_; refine pA 11 24 HT_ ?_; refine pA 12 25 HT_ ?_; refine pA 13 26 HT_ ?_; refine pA 15 28 HT_ ?_; refine pA 16 29 HT_ ?_; refine pA 17 30 HT_ ?_; refine tA 14 27 HT_ HW_ hHeld ?_; refine tA 18 31 HT_ HW_ hHeld ?_; refine oA 19 32 HT_ (fun K hK => ?_); refine goes_ Try.func78 (by kernel_rfl) rfl #[.agg #[.string ((rd_T26 l0 (ji8)).f0), .string ((rd_T26 l0 (ji8)).f1), .int .i64 ((rd_T26 l0 (ji8)).f2), .string ((rd_T26 l0 (ji8)).f3), .int .i64 ((rd_T26 l0 (ji8)).f4), .int .i64 ((rd_T26 l0 (ji8)).f5), .int .i64 ((rd_T26 l0 (ji8)).f6), .int .i64 ((rd_T26 l0 (ji8)).f7)], .agg #[.string ((rd_T26 l0 x3_1).f0), .string ((rd_T26 l0 x3_1).f1), .int .i64 ((rd_T26 l0 x3_1).f2), .string ((rd_T26 l0 x3_1).f3), .int .i64 ((rd_T26 l0 x3_1).f4), .int .i64 ((rd_T26 l0 x3_1).f5), .int .i64 ((rd_T26 l0 x3_1).f6), .int .i64 ((rd_T26 l0 x3_1).f7)]] (by rfl) rfl rfl (by (try simp only [List.map_toArray, List.map_cons, List.map_nil]); first | done | (simp only [hji8]; rfl) | rfl | (simp only [List.length_drop, List.length_take]; rfl)) ?_; (with_reducible refine (spec_l09Before.calls ((rd_T26 l0 (ji8)).f0) ((rd_T26 l0 (ji8)).f1) ((rd_T26 l0 (ji8)).f2) ((rd_T26 l0 (ji8)).f3) ((rd_T26 l0 (ji8)).f4) ((rd_T26 l0 (ji8)).f5) ((rd_T26 l0 (ji8)).f6) ((rd_T26 l0 (ji8)).f7) ((rd_T26 l0 x3_1).f0) ((rd_T26 l0 x3_1).f1) ((rd_T26 l0 x3_1).f2) ((rd_T26 l0 x3_1).f3) ((rd_T26 l0 x3_1).f4) ((rd_T26 l0 x3_1).f5) ((rd_T26 l0 x3_1).f6) ((rd_T26 l0 x3_1).f7) true _ A11.out).mono ?_); rintro e w15 ⟨rfl, hb⟩; refine ⟨_, rfl, ?_⟩; replace HB := Aside0.mk (below_step (bs HB) hb); (try clear hb); (try clear hb2); (try clear hk); (try clear hi); refine hK.out _ _ ⟨((cb HB hw127_0).trans rfl), ((cb HB hw127_1).trans rfl), ((cb HB hw127_2).trans rfl), ((cb HB hw127_3).trans rfl), ((cb HB hw127_4).trans rfl), ((cb HB hw127_5).trans rfl), ((cb HB hw127_6).trans rfl), ((cb HB hw127_7).trans rfl), ((cb HB hw129_0).trans rfl), ((cb HB hw129_1).trans rfl), ((cb HB hw129_2).trans rfl), ((cb HB hw129_3).trans rfl), ((cb HB hw129_4).trans rfl), ((cb HB hw129_5).trans rfl), ((cb HB hw129_6).trans rfl), ((cb HB hw129_7).trans rfl), ((cb HB hw130_0).trans rfl), ((cb HB hw130_1).trans rfl), ((cb HB hw130_2).trans rfl), ((cb HB hw130_3).trans rfl), ((cb HB hw130_4).trans rfl), ((cb HB hw130_5).trans rfl), ((cb HB hw130_6).trans rfl), ((cb HB hw130_7).trans rfl)⟩ (fun hHeld => ?_); clear hK K; refine nA 32 ?_; refine pA 20 33 HT_ ?_; refine pA 21 34 HT_ ?_; refine pA 22 35 HT_ ?_; refine done_ (done_of HT_.out (by kernel_rfl)) ?_
                      try go_wp2
                      go_roundg k1
                      case measure => have := HK1.out; omega
                      case rel => exact ⟨(wrap64 (x3_1 + 1)), fg, H', ⟨by have := HK1.out; omega⟩, ⟨bs HB⟩⟩
                    · replace c12 := Bool.eq_false_iff.mpr c12; subst c12
                      have H1 : (some false) = some r := by rw [if_neg (show ¬ (false = true) by decide)] at H; exact H
                      clear H; have H := H1; clear H1; obtain rfl := Option.some.inj H
                      try go_wp2
                      replace HB := Aside0.mk (below_drew1 HB.out); have p127 : 0 ≤ (x3_1 : Int) := oa; have q127 : x3_1 < (l0.length : Int) := oa; obtain ⟨ad127, e127, hx127_0, hx127_1, hx127_2, hx127_3, hx127_4, hx127_5, hx127_6, hx127_7⟩ := at_T26 HR0.out x3_1 p127 q127; have hw127_7 := hx127_7; have hw127_6 := hx127_6; have hw127_5 := hx127_5; have hw127_4 := hx127_4; have hw127_3 := hx127_3; have hw127_2 := hx127_2; have hw127_1 := hx127_1; have hw127_0 := hx127_0
                      cases e127
                      replace hx127_0 := cb HB hx127_0; replace hx127_1 := cb HB hx127_1; replace hx127_2 := cb HB hx127_2; replace hx127_3 := cb HB hx127_3; replace hx127_4 := cb HB hx127_4; replace hx127_5 := cb HB hx127_5; replace hx127_6 := cb HB hx127_6; replace hx127_7 := cb HB hx127_7; replace p127 := eq_true p127; replace q127 := eq_true q127; have p129 : 0 ≤ ((ji8) : Int) := oa; have q129 : (ji8) < (l0.length : Int) := oa; obtain ⟨ad129, e129, hx129_0, hx129_1, hx129_2, hx129_3, hx129_4, hx129_5, hx129_6, hx129_7⟩ := at_T26 HR0.out (ji8) p129 q129; have hw129_7 := hx129_7; have hw129_6 := hx129_6; have hw129_5 := hx129_5; have hw129_4 := hx129_4; have hw129_3 := hx129_3; have hw129_2 := hx129_2; have hw129_1 := hx129_1; have hw129_0 := hx129_0; obtain rfl : ad127 = ad129 := (by injection e129); replace hx129_0 := cb HB hx129_0; replace hx129_1 := cb HB hx129_1; replace hx129_2 := cb HB hx129_2; replace hx129_3 := cb HB hx129_3; replace hx129_4 := cb HB hx129_4; replace hx129_5 := cb HB hx129_5; replace hx129_6 := cb HB hx129_6; replace hx129_7 := cb HB hx129_7; replace p129 := eq_true p129; replace q129 := eq_true q129; have p130 : 0 ≤ (x3_1 : Int) := oa; have q130 : x3_1 < (l0.length : Int) := oa; obtain ⟨ad130, e130, hx130_0, hx130_1, hx130_2, hx130_3, hx130_4, hx130_5, hx130_6, hx130_7⟩ := at_T26 HR0.out x3_1 p130 q130; have hw130_7 := hx130_7; have hw130_6 := hx130_6; have hw130_5 := hx130_5; have hw130_4 := hx130_4; have hw130_3 := hx130_3; have hw130_2 := hx130_2; have hw130_1 := hx130_1; have hw130_0 := hx130_0; obtain rfl : ad127 = ad130 := (by injection e130); replace hx130_0 := cb HB hx130_0; replace hx130_1 := cb HB hx130_1; replace hx130_2 := cb HB hx130_2; replace hx130_3 := cb HB hx130_3; replace hx130_4 := cb HB hx130_4; replace hx130_5 := cb HB hx130_5; replace hx130_6 := cb HB hx130_6; replace hx130_7 := cb HB hx130_7; replace p130 := eq_true p130; replace q130 := eq_true q130; refine start_ (n := 23) (S := fun w' => w'.cell? (ad127.add ((x3_1).toNat * 8)) = some (.string ((rd_T26 l0 x3_1).f0)) ∧ w'.cell? ⟨(ad127.add ((x3_1).toNat * 8)).block, (ad127.add ((x3_1).toNat * 8)).off + 1, none⟩ = some (.string ((rd_T26 l0 x3_1).f1)) ∧ w'.cell? ⟨(ad127.add ((x3_1).toNat * 8)).block, (ad127.add ((x3_1).toNat * 8)).off + 2, none⟩ = some (.int .i64 ((rd_T26 l0 x3_1).f2)) ∧ w'.cell? ⟨(ad127.add ((x3_1).toNat * 8)).block, (ad127.add ((x3_1).toNat * 8)).off + 3, none⟩ = some (.string ((rd_T26 l0 x3_1).f3)) ∧ w'.cell? ⟨(ad127.add ((x3_1).toNat * 8)).block, (ad127.add ((x3_1).toNat * 8)).off + 4, none⟩ = some (.int .i64 ((rd_T26 l0 x3_1).f4)) ∧ w'.cell? ⟨(ad127.add ((x3_1).toNat * 8)).block, (ad127.add ((x3_1).toNat * 8)).off + 5, none⟩ = some (.int .i64 ((rd_T26 l0 x3_1).f5)) ∧ w'.cell? ⟨(ad127.add ((x3_1).toNat * 8)).block, (ad127.add ((x3_1).toNat * 8)).off + 6, none⟩ = some (.int .i64 ((rd_T26 l0 x3_1).f6)) ∧ w'.cell? ⟨(ad127.add ((x3_1).toNat * 8)).block, (ad127.add ((x3_1).toNat * 8)).off + 7, none⟩ = some (.int .i64 ((rd_T26 l0 x3_1).f7)) ∧ w'.cell? (ad127.add (((ji8)).toNat * 8)) = some (.string ((rd_T26 l0 (ji8)).f0)) ∧ w'.cell? ⟨(ad127.add (((ji8)).toNat * 8)).block, (ad127.add (((ji8)).toNat * 8)).off + 1, none⟩ = some (.string ((rd_T26 l0 (ji8)).f1)) ∧ w'.cell? ⟨(ad127.add (((ji8)).toNat * 8)).block, (ad127.add (((ji8)).toNat * 8)).off + 2, none⟩ = some (.int .i64 ((rd_T26 l0 (ji8)).f2)) ∧ w'.cell? ⟨(ad127.add (((ji8)).toNat * 8)).block, (ad127.add (((ji8)).toNat * 8)).off + 3, none⟩ = some (.string ((rd_T26 l0 (ji8)).f3)) ∧ w'.cell? ⟨(ad127.add (((ji8)).toNat * 8)).block, (ad127.add (((ji8)).toNat * 8)).off + 4, none⟩ = some (.int .i64 ((rd_T26 l0 (ji8)).f4)) ∧ w'.cell? ⟨(ad127.add (((ji8)).toNat * 8)).block, (ad127.add (((ji8)).toNat * 8)).off + 5, none⟩ = some (.int .i64 ((rd_T26 l0 (ji8)).f5)) ∧ w'.cell? ⟨(ad127.add (((ji8)).toNat * 8)).block, (ad127.add (((ji8)).toNat * 8)).off + 6, none⟩ = some (.int .i64 ((rd_T26 l0 (ji8)).f6)) ∧ w'.cell? ⟨(ad127.add (((ji8)).toNat * 8)).block, (ad127.add (((ji8)).toNat * 8)).off + 7, none⟩ = some (.int .i64 ((rd_T26 l0 (ji8)).f7)) ∧ w'.cell? (ad127.add ((x3_1).toNat * 8)) = some (.string ((rd_T26 l0 x3_1).f0)) ∧ w'.cell? ⟨(ad127.add ((x3_1).toNat * 8)).block, (ad127.add ((x3_1).toNat * 8)).off + 1, none⟩ = some (.string ((rd_T26 l0 x3_1).f1)) ∧ w'.cell? ⟨(ad127.add ((x3_1).toNat * 8)).block, (ad127.add ((x3_1).toNat * 8)).off + 2, none⟩ = some (.int .i64 ((rd_T26 l0 x3_1).f2)) ∧ w'.cell? ⟨(ad127.add ((x3_1).toNat * 8)).block, (ad127.add ((x3_1).toNat * 8)).off + 3, none⟩ = some (.string ((rd_T26 l0 x3_1).f3)) ∧ w'.cell? ⟨(ad127.add ((x3_1).toNat * 8)).block, (ad127.add ((x3_1).toNat * 8)).off + 4, none⟩ = some (.int .i64 ((rd_T26 l0 x3_1).f4)) ∧ w'.cell? ⟨(ad127.add ((x3_1).toNat * 8)).block, (ad127.add ((x3_1).toNat * 8)).off + 5, none⟩ = some (.int .i64 ((rd_T26 l0 x3_1).f5)) ∧ w'.cell? ⟨(ad127.add ((x3_1).toNat * 8)).block, (ad127.add ((x3_1).toNat * 8)).off + 6, none⟩ = some (.int .i64 ((rd_T26 l0 x3_1).f6)) ∧ w'.cell? ⟨(ad127.add ((x3_1).toNat * 8)).block, (ad127.add ((x3_1).toNat * 8)).off + 7, none⟩ = some (.int .i64 ((rd_T26 l0 x3_1).f7))) (ds := []) #[false, false, false, false, false, false, false, false, false, false, false, false, false, false, false, false, false, false, false, false, false, false, false] (by kernel_rfl) rfl rfl ⟨((cb HB hw127_0).trans rfl), ((cb HB hw127_1).trans rfl), ((cb HB hw127_2).trans rfl), ((cb HB hw127_3).trans rfl), ((cb HB hw127_4).trans rfl), ((cb HB hw127_5).trans rfl), ((cb HB hw127_6).trans rfl), ((cb HB hw127_7).trans rfl), ((cb HB hw129_0).trans rfl), ((cb HB hw129_1).trans rfl), ((cb HB hw129_2).trans rfl), ((cb HB hw129_3).trans rfl), ((cb HB hw129_4).trans rfl), ((cb HB hw129_5).trans rfl), ((cb HB hw129_6).trans rfl), ((cb HB hw129_7).trans rfl), ((cb HB hw130_0).trans rfl), ((cb HB hw130_1).trans rfl), ((cb HB hw130_2).trans rfl), ((cb HB hw130_3).trans rfl), ((cb HB hw130_4).trans rfl), ((cb HB hw130_5).trans rfl), ((cb HB hw130_6).trans rfl), ((cb HB hw130_7).trans rfl)⟩ (fun hHeld => ?_); refine with_tabW spec_LinesRight.tab6 spec_LinesRight.bits6 (fun HT_ HW_ => ?_)
                      generalize wr.drew = w16 at HB hx127_0 hx127_1 hx127_2 hx127_3 hx127_4 hx127_5 hx127_6 hx127_7 hx129_0 hx129_1 hx129_2 hx129_3 hx129_4 hx129_5 hx129_6 hx129_7 hx130_0 hx130_1 hx130_2 hx130_3 hx130_4 hx130_5 hx130_6 hx130_7 hHeld ⊢
                      refine pA 0 13 HT_ ?_; refine pA 1 14 HT_ ?_; refine pA 2 15 HT_ ?_; refine tA 3 16 HT_ HW_ hHeld ?_; refine oA 4 17 HT_ (fun K hK => ?_); refine gA Try.func53 #[.agg #[.string ((rd_T26 l0 x3_1).f0), .string ((rd_T26 l0 x3_1).f1), .int .i64 ((rd_T26 l0 x3_1).f2), .string ((rd_T26 l0 x3_1).f3), .int .i64 ((rd_T26 l0 x3_1).f4), .int .i64 ((rd_T26 l0 x3_1).f5), .int .i64 ((rd_T26 l0 x3_1).f6), .int .i64 ((rd_T26 l0 x3_1).f7)]] ?_; (with_reducible refine (spec_LineRight.calls k1 ((rd_T26 l0 x3_1).f0) ((rd_T26 l0 x3_1).f1) ((rd_T26 l0 x3_1).f2) ((rd_T26 l0 x3_1).f3) ((rd_T26 l0 x3_1).f4) ((rd_T26 l0 x3_1).f5) ((rd_T26 l0 x3_1).f6) ((rd_T26 l0 x3_1).f7) true _ A5.out).mono ?_); rintro e w17 ⟨rfl, hb⟩; refine ⟨_, rfl, ?_⟩; replace HB := Aside0.mk (below_step (bs HB) hb); (try clear hb); (try clear hb2); (try clear hk); (try clear hi); refine hK.out _ _ ⟨((cb HB hw127_0).trans rfl), ((cb HB hw127_1).trans rfl), ((cb HB hw127_2).trans rfl), ((cb HB hw127_3).trans rfl), ((cb HB hw127_4).trans rfl), ((cb HB hw127_5).trans rfl), ((cb HB hw127_6).trans rfl), ((cb HB hw127_7).trans rfl), ((cb HB hw129_0).trans rfl), ((cb HB hw129_1).trans rfl), ((cb HB hw129_2).trans rfl), ((cb HB hw129_3).trans rfl), ((cb HB hw129_4).trans rfl), ((cb HB hw129_5).trans rfl), ((cb HB hw129_6).trans rfl), ((cb HB hw129_7).trans rfl), ((cb HB hw130_0).trans rfl), ((cb HB hw130_1).trans rfl), ((cb HB hw130_2).trans rfl), ((cb HB hw130_3).trans rfl), ((cb HB hw130_4).trans rfl), ((cb HB hw130_5).trans rfl), ((cb HB hw130_6).trans rfl), ((cb HB hw130_7).trans rfl)⟩ (fun hHeld => ?_); clear hK K; refine nA 17 ?_; refine pA 5 18 HT_ ?_; refine pA 6 19 HT_ ?_; refine pA 7 20 HT_ ?_; refine pA 8 21 HT_ ?_; refine pA 9 22 HT_ ?_; refine pA 10 23 HT_ ?_; refine pA 11 24 HT_ ?_; refine pA 12 25 HT_ ?_; refine pA 13 26 HT_ ?_; refine pA 15 28 HT_ ?_; refine pA 16 29 HT_ ?_; refine pA 17 30 HT_ ?_; refine tA 14 27 HT_ HW_ hHeld ?_; refine tA 18 31 HT_ HW_ hHeld ?_; refine oA 19 32 HT_ (fun K hK => ?_); refine goes_ Try.func78 (by kernel_rfl) rfl #[.agg #[.string ((rd_T26 l0 (ji8)).f0), .string ((rd_T26 l0 (ji8)).f1), .int .i64 ((rd_T26 l0 (ji8)).f2), .string ((rd_T26 l0 (ji8)).f3), .int .i64 ((rd_T26 l0 (ji8)).f4), .int .i64 ((rd_T26 l0 (ji8)).f5), .int .i64 ((rd_T26 l0 (ji8)).f6), .int .i64 ((rd_T26 l0 (ji8)).f7)], .agg #[.string ((rd_T26 l0 x3_1).f0), .string ((rd_T26 l0 x3_1).f1), .int .i64 ((rd_T26 l0 x3_1).f2), .string ((rd_T26 l0 x3_1).f3), .int .i64 ((rd_T26 l0 x3_1).f4), .int .i64 ((rd_T26 l0 x3_1).f5), .int .i64 ((rd_T26 l0 x3_1).f6), .int .i64 ((rd_T26 l0 x3_1).f7)]] (by rfl) rfl rfl (by (try simp only [List.map_toArray, List.map_cons, List.map_nil]); first | done | (simp only [hji8]; rfl) | rfl | (simp only [List.length_drop, List.length_take]; rfl)) ?_; (with_reducible refine (spec_l09Before.calls ((rd_T26 l0 (ji8)).f0) ((rd_T26 l0 (ji8)).f1) ((rd_T26 l0 (ji8)).f2) ((rd_T26 l0 (ji8)).f3) ((rd_T26 l0 (ji8)).f4) ((rd_T26 l0 (ji8)).f5) ((rd_T26 l0 (ji8)).f6) ((rd_T26 l0 (ji8)).f7) ((rd_T26 l0 x3_1).f0) ((rd_T26 l0 x3_1).f1) ((rd_T26 l0 x3_1).f2) ((rd_T26 l0 x3_1).f3) ((rd_T26 l0 x3_1).f4) ((rd_T26 l0 x3_1).f5) ((rd_T26 l0 x3_1).f6) ((rd_T26 l0 x3_1).f7) false _ A11.out).mono ?_); rintro e w18 ⟨rfl, hb⟩; refine ⟨_, rfl, ?_⟩; replace HB := Aside0.mk (below_step (bs HB) hb); (try clear hb); (try clear hb2); (try clear hk); (try clear hi); refine hK.out _ _ ⟨((cb HB hw127_0).trans rfl), ((cb HB hw127_1).trans rfl), ((cb HB hw127_2).trans rfl), ((cb HB hw127_3).trans rfl), ((cb HB hw127_4).trans rfl), ((cb HB hw127_5).trans rfl), ((cb HB hw127_6).trans rfl), ((cb HB hw127_7).trans rfl), ((cb HB hw129_0).trans rfl), ((cb HB hw129_1).trans rfl), ((cb HB hw129_2).trans rfl), ((cb HB hw129_3).trans rfl), ((cb HB hw129_4).trans rfl), ((cb HB hw129_5).trans rfl), ((cb HB hw129_6).trans rfl), ((cb HB hw129_7).trans rfl), ((cb HB hw130_0).trans rfl), ((cb HB hw130_1).trans rfl), ((cb HB hw130_2).trans rfl), ((cb HB hw130_3).trans rfl), ((cb HB hw130_4).trans rfl), ((cb HB hw130_5).trans rfl), ((cb HB hw130_6).trans rfl), ((cb HB hw130_7).trans rfl)⟩ (fun hHeld => ?_); clear hK K; refine nA 32 ?_; refine pA 20 33 HT_ ?_; refine pA 21 34 HT_ ?_; refine pA 22 35 HT_ ?_; refine done_ (done_of HT_.out (by kernel_rfl)) ?_
                      try go_wp2
                      go_ret
                      exact ⟨by first | rfl | (simp [errW_none, errW_some] <;> rfl) | (simp only [← hji8]; first | rfl | (simp [errW_none, errW_some] <;> rfl)) | (simp [*, errW_none, errW_some] <;> rfl), bs HB⟩
                  · rw [if_neg c10] at H
                    exact absurd H (by simp)
                · rw [if_neg c9] at H
                  exact absurd H (by simp)
              · rw [if_neg c7] at H; have c7b0 : decide (0 < x3_1) = false := decide_eq_false c7; clear c7; have H' := Aside0.mk H; clear H
                try go_wp2
                replace HB := Aside0.mk (below_drew1 HB.out); have p127 : 0 ≤ (x3_1 : Int) := oa; have q127 : x3_1 < (l0.length : Int) := oa; obtain ⟨ad127, e127, hx127_0, hx127_1, hx127_2, hx127_3, hx127_4, hx127_5, hx127_6, hx127_7⟩ := at_T26 HR0.out x3_1 p127 q127; have hw127_7 := hx127_7; have hw127_6 := hx127_6; have hw127_5 := hx127_5; have hw127_4 := hx127_4; have hw127_3 := hx127_3; have hw127_2 := hx127_2; have hw127_1 := hx127_1; have hw127_0 := hx127_0
                cases e127
                replace hx127_0 := cb HB hx127_0; replace hx127_1 := cb HB hx127_1; replace hx127_2 := cb HB hx127_2; replace hx127_3 := cb HB hx127_3; replace hx127_4 := cb HB hx127_4; replace hx127_5 := cb HB hx127_5; replace hx127_6 := cb HB hx127_6; replace hx127_7 := cb HB hx127_7; replace p127 := eq_true p127; replace q127 := eq_true q127; refine start_ (n := 23) (S := fun w' => w'.cell? (ad127.add ((x3_1).toNat * 8)) = some (.string ((rd_T26 l0 x3_1).f0)) ∧ w'.cell? ⟨(ad127.add ((x3_1).toNat * 8)).block, (ad127.add ((x3_1).toNat * 8)).off + 1, none⟩ = some (.string ((rd_T26 l0 x3_1).f1)) ∧ w'.cell? ⟨(ad127.add ((x3_1).toNat * 8)).block, (ad127.add ((x3_1).toNat * 8)).off + 2, none⟩ = some (.int .i64 ((rd_T26 l0 x3_1).f2)) ∧ w'.cell? ⟨(ad127.add ((x3_1).toNat * 8)).block, (ad127.add ((x3_1).toNat * 8)).off + 3, none⟩ = some (.string ((rd_T26 l0 x3_1).f3)) ∧ w'.cell? ⟨(ad127.add ((x3_1).toNat * 8)).block, (ad127.add ((x3_1).toNat * 8)).off + 4, none⟩ = some (.int .i64 ((rd_T26 l0 x3_1).f4)) ∧ w'.cell? ⟨(ad127.add ((x3_1).toNat * 8)).block, (ad127.add ((x3_1).toNat * 8)).off + 5, none⟩ = some (.int .i64 ((rd_T26 l0 x3_1).f5)) ∧ w'.cell? ⟨(ad127.add ((x3_1).toNat * 8)).block, (ad127.add ((x3_1).toNat * 8)).off + 6, none⟩ = some (.int .i64 ((rd_T26 l0 x3_1).f6)) ∧ w'.cell? ⟨(ad127.add ((x3_1).toNat * 8)).block, (ad127.add ((x3_1).toNat * 8)).off + 7, none⟩ = some (.int .i64 ((rd_T26 l0 x3_1).f7))) (ds := []) #[false, false, false, false, false, false, false, false, false, false, false, false, false, false, false, false, false, false, false, false, false, false, false] (by kernel_rfl) rfl rfl ⟨((cb HB hw127_0).trans rfl), ((cb HB hw127_1).trans rfl), ((cb HB hw127_2).trans rfl), ((cb HB hw127_3).trans rfl), ((cb HB hw127_4).trans rfl), ((cb HB hw127_5).trans rfl), ((cb HB hw127_6).trans rfl), ((cb HB hw127_7).trans rfl)⟩ (fun hHeld => ?_); refine with_tabW spec_LinesRight.tab6 spec_LinesRight.bits6 (fun HT_ HW_ => ?_)
                generalize wr.drew = w19 at HB hx127_0 hx127_1 hx127_2 hx127_3 hx127_4 hx127_5 hx127_6 hx127_7 hHeld ⊢
                refine pA 0 13 HT_ ?_; refine pA 1 14 HT_ ?_; refine pA 2 15 HT_ ?_; refine tA 3 16 HT_ HW_ hHeld ?_; refine oA 4 17 HT_ (fun K hK => ?_); refine gA Try.func53 #[.agg #[.string ((rd_T26 l0 x3_1).f0), .string ((rd_T26 l0 x3_1).f1), .int .i64 ((rd_T26 l0 x3_1).f2), .string ((rd_T26 l0 x3_1).f3), .int .i64 ((rd_T26 l0 x3_1).f4), .int .i64 ((rd_T26 l0 x3_1).f5), .int .i64 ((rd_T26 l0 x3_1).f6), .int .i64 ((rd_T26 l0 x3_1).f7)]] ?_; (with_reducible refine (spec_LineRight.calls k1 ((rd_T26 l0 x3_1).f0) ((rd_T26 l0 x3_1).f1) ((rd_T26 l0 x3_1).f2) ((rd_T26 l0 x3_1).f3) ((rd_T26 l0 x3_1).f4) ((rd_T26 l0 x3_1).f5) ((rd_T26 l0 x3_1).f6) ((rd_T26 l0 x3_1).f7) true _ A5.out).mono ?_); rintro e w20 ⟨rfl, hb⟩; refine ⟨_, rfl, ?_⟩; replace HB := Aside0.mk (below_step (bs HB) hb); (try clear hb); (try clear hb2); (try clear hk); (try clear hi); refine hK.out _ _ ⟨((cb HB hw127_0).trans rfl), ((cb HB hw127_1).trans rfl), ((cb HB hw127_2).trans rfl), ((cb HB hw127_3).trans rfl), ((cb HB hw127_4).trans rfl), ((cb HB hw127_5).trans rfl), ((cb HB hw127_6).trans rfl), ((cb HB hw127_7).trans rfl)⟩ (fun hHeld => ?_); clear hK K; refine nA 17 ?_; refine pA 5 18 HT_ ?_; refine pA 6 19 HT_ ?_; refine pA 7 20 HT_ ?_; refine pA 8 21 HT_ ?_; refine pA 9 22 HT_ ?_; refine pB 10 23 HT_ ?_; refine pB 11 24 HT_ ?_; refine pB 12 25 HT_ ?_; refine pB 13 26 HT_ ?_; refine pB 14 27 HT_ ?_; refine pB 15 28 HT_ ?_; refine pB 16 29 HT_ ?_; refine pB 17 30 HT_ ?_; refine pB 18 31 HT_ ?_; refine pB 19 32 HT_ ?_; refine pB 20 33 HT_ ?_; refine pA 21 34 HT_ ?_; refine pA 22 35 HT_ ?_; refine done_ (done_of HT_.out (by kernel_rfl)) ?_
                try go_wp2
                go_roundg k1
                case measure => have := HK1.out; omega
                case rel => exact ⟨(wrap64 (x3_1 + 1)), fg, H', ⟨by have := HK1.out; omega⟩, ⟨bs HB⟩⟩
            · replace c6 := Bool.eq_false_iff.mpr c6; subst c6
              have H1 : (some false) = some r := by rw [if_neg (show ¬ (false = true) by decide)] at H; exact H
              clear H; have H := H1; clear H1; obtain rfl := Option.some.inj H
              try go_wp2
              replace HB := Aside0.mk (below_drew1 HB.out); have p127 : 0 ≤ (x3_1 : Int) := oa; have q127 : x3_1 < (l0.length : Int) := oa; obtain ⟨ad127, e127, hx127_0, hx127_1, hx127_2, hx127_3, hx127_4, hx127_5, hx127_6, hx127_7⟩ := at_T26 HR0.out x3_1 p127 q127; have hw127_7 := hx127_7; have hw127_6 := hx127_6; have hw127_5 := hx127_5; have hw127_4 := hx127_4; have hw127_3 := hx127_3; have hw127_2 := hx127_2; have hw127_1 := hx127_1; have hw127_0 := hx127_0
              cases e127
              replace hx127_0 := cb HB hx127_0; replace hx127_1 := cb HB hx127_1; replace hx127_2 := cb HB hx127_2; replace hx127_3 := cb HB hx127_3; replace hx127_4 := cb HB hx127_4; replace hx127_5 := cb HB hx127_5; replace hx127_6 := cb HB hx127_6; replace hx127_7 := cb HB hx127_7; replace p127 := eq_true p127; replace q127 := eq_true q127; refine start_ (n := 23) (S := fun w' => w'.cell? (ad127.add ((x3_1).toNat * 8)) = some (.string ((rd_T26 l0 x3_1).f0)) ∧ w'.cell? ⟨(ad127.add ((x3_1).toNat * 8)).block, (ad127.add ((x3_1).toNat * 8)).off + 1, none⟩ = some (.string ((rd_T26 l0 x3_1).f1)) ∧ w'.cell? ⟨(ad127.add ((x3_1).toNat * 8)).block, (ad127.add ((x3_1).toNat * 8)).off + 2, none⟩ = some (.int .i64 ((rd_T26 l0 x3_1).f2)) ∧ w'.cell? ⟨(ad127.add ((x3_1).toNat * 8)).block, (ad127.add ((x3_1).toNat * 8)).off + 3, none⟩ = some (.string ((rd_T26 l0 x3_1).f3)) ∧ w'.cell? ⟨(ad127.add ((x3_1).toNat * 8)).block, (ad127.add ((x3_1).toNat * 8)).off + 4, none⟩ = some (.int .i64 ((rd_T26 l0 x3_1).f4)) ∧ w'.cell? ⟨(ad127.add ((x3_1).toNat * 8)).block, (ad127.add ((x3_1).toNat * 8)).off + 5, none⟩ = some (.int .i64 ((rd_T26 l0 x3_1).f5)) ∧ w'.cell? ⟨(ad127.add ((x3_1).toNat * 8)).block, (ad127.add ((x3_1).toNat * 8)).off + 6, none⟩ = some (.int .i64 ((rd_T26 l0 x3_1).f6)) ∧ w'.cell? ⟨(ad127.add ((x3_1).toNat * 8)).block, (ad127.add ((x3_1).toNat * 8)).off + 7, none⟩ = some (.int .i64 ((rd_T26 l0 x3_1).f7))) (ds := []) #[false, false, false, false, false, false, false, false, false, false, false, false, false, false, false, false, false, false, false, false, false, false, false] (by kernel_rfl) rfl rfl ⟨((cb HB hw127_0).trans rfl), ((cb HB hw127_1).trans rfl), ((cb HB hw127_2).trans rfl), ((cb HB hw127_3).trans rfl), ((cb HB hw127_4).trans rfl), ((cb HB hw127_5).trans rfl), ((cb HB hw127_6).trans rfl), ((cb HB hw127_7).trans rfl)⟩ (fun hHeld => ?_); refine with_tabW spec_LinesRight.tab6 spec_LinesRight.bits6 (fun HT_ HW_ => ?_)
              generalize wr.drew = w21 at HB hx127_0 hx127_1 hx127_2 hx127_3 hx127_4 hx127_5 hx127_6 hx127_7 hHeld ⊢
              refine pA 0 13 HT_ ?_; refine pA 1 14 HT_ ?_; refine pA 2 15 HT_ ?_; refine tA 3 16 HT_ HW_ hHeld ?_; refine oA 4 17 HT_ (fun K hK => ?_); refine gA Try.func53 #[.agg #[.string ((rd_T26 l0 x3_1).f0), .string ((rd_T26 l0 x3_1).f1), .int .i64 ((rd_T26 l0 x3_1).f2), .string ((rd_T26 l0 x3_1).f3), .int .i64 ((rd_T26 l0 x3_1).f4), .int .i64 ((rd_T26 l0 x3_1).f5), .int .i64 ((rd_T26 l0 x3_1).f6), .int .i64 ((rd_T26 l0 x3_1).f7)]] ?_; (with_reducible refine (spec_LineRight.calls k1 ((rd_T26 l0 x3_1).f0) ((rd_T26 l0 x3_1).f1) ((rd_T26 l0 x3_1).f2) ((rd_T26 l0 x3_1).f3) ((rd_T26 l0 x3_1).f4) ((rd_T26 l0 x3_1).f5) ((rd_T26 l0 x3_1).f6) ((rd_T26 l0 x3_1).f7) false _ A5.out).mono ?_); rintro e w22 ⟨rfl, hb⟩; refine ⟨_, rfl, ?_⟩; replace HB := Aside0.mk (below_step (bs HB) hb); (try clear hb); (try clear hb2); (try clear hk); (try clear hi); refine hK.out _ _ ⟨((cb HB hw127_0).trans rfl), ((cb HB hw127_1).trans rfl), ((cb HB hw127_2).trans rfl), ((cb HB hw127_3).trans rfl), ((cb HB hw127_4).trans rfl), ((cb HB hw127_5).trans rfl), ((cb HB hw127_6).trans rfl), ((cb HB hw127_7).trans rfl)⟩ (fun hHeld => ?_); clear hK K; refine nA 17 ?_; refine pA 5 18 HT_ ?_; refine pA 6 19 HT_ ?_; refine pB 7 20 HT_ ?_; refine pB 8 21 HT_ ?_; refine pB 9 22 HT_ ?_; refine pB 10 23 HT_ ?_; refine pB 11 24 HT_ ?_; refine pB 12 25 HT_ ?_; refine pB 13 26 HT_ ?_; refine pB 14 27 HT_ ?_; refine pB 15 28 HT_ ?_; refine pB 16 29 HT_ ?_; refine pB 17 30 HT_ ?_; refine pB 18 31 HT_ ?_; refine pB 19 32 HT_ ?_; refine pB 20 33 HT_ ?_; refine pB 21 34 HT_ ?_; refine pA 22 35 HT_ ?_; refine done_ (done_of HT_.out (by kernel_rfl)) ?_
              try go_wp2
              go_ret
              exact ⟨ff, bs HB⟩
          · rw [if_neg c4] at H
            exact absurd H (by simp)
        · rw [if_neg c3] at H; have c3b0 : decide (x3_1 < (l0.length : Int)) = false := decide_eq_false c3; clear c3; obtain rfl := Option.some.inj H
          go_wp2
          go_ret
          exact ⟨ff, bs HB⟩
end Go.Proofs.Ytpfdfbomlffhcaa.QF
namespace Go.Proofs.Ytpfdfbomlffhcaa.QF
open Go.RowKit Go.Proofs.YtpfdfbomlffhcaaW.PrintWords Go.Proofs.YtpfdfbomlffhcaaW.PrintLast Go.Proofs.YtpfdfbomlffhcaaW.PrintMore
attribute [local go_sem] max2_int min2_int max_two min_two max_three min_three max_four min_four   -- for this text's walks alone
set_option linter.unusedVariables false
set_option linter.unusedSimpArgs false
set_option maxHeartbeats 8000000 in
set_option maxRecDepth 100000 in
theorem spec_LineFind.calls (k : Nat) (A0 : Option Addr) (c0 : Nat) (l0 : List (S26)) (a1 : ByteArray) (a2 : ByteArray) (a3 : Int) (r : Int) (w : World) (hr0 : Kd.C k26 w A0 l0.length l0) (hc0 : l0.length ≤ c0) (h : spec_LineFind.f k l0 a1 a2 a3 = some r) :
    Calls Try.prog 38 #[.slice A0 l0.length c0, .string a1, .string a2, .int .i64 a3] w fun e w' => e = .returned (.int .i64 r) ∧ Below w.heap.size w w' := by
  have HR0 := Aside0.mk hr0; have HC0 := Aside0.mk hc0; clear hr0 hc0; have HB := Aside0.mk (Below.refl w.heap.size w); have H : (if (l0.length : Int) > 400 then (spec_LineFind.j0 k l0 a1 a2 a3 true) else (if (a1.size : Int) > 20000 then (spec_LineFind.j0 k l0 a1 a2 a3 true) else (spec_LineFind.j0 k l0 a1 a2 a3 (decide ((a2.size : Int) > 20000))))) = some r := h; clear h; have HC5 := Aside0.mk H; clear H
  go_enter Try.func38, Try.ntmps38
  go_upto_region 1 with (fail)
  go_cut [22] (fun v22 wc => ∃ (kq : Nat) (x22_4 : Bool), v22 = .bool x22_4 ∧ Aside0 (spec_LineFind.j0 kq l0 a1 a2 a3 x22_4 = some r) ∧ Aside0 (kq ≤ k) ∧ Aside0 (Below w.heap.size w wc))
  case first =>
    have H := HC5.out; clear HC5
    by_cases c6 : (l0.length : Int) > 400
    · rw [if_pos c6] at H; have c6b0 : decide (400 < (l0.length : Int)) = true := decide_eq_true c6; have c6b1 : decide (400 < l0.length) = true := decide_eq_true (by omega); clear c6
      (first | rw [c6b0] | (simp only [i64_w, i32_w]; rw [c6b0]) | skip)
      have H' := Aside0.mk H; clear H
      go_wp2
      go_meet
      case rel => exact ⟨_, (true), fg, H', ⟨fl⟩, ⟨bs HB⟩⟩
    · rw [if_neg c6] at H; have c6b0 : decide (400 < (l0.length : Int)) = false := decide_eq_false c6; have c6b1 : decide (400 < l0.length) = false := decide_eq_false (by omega); clear c6
      (first | rw [c6b0] | (simp only [i64_w, i32_w]; rw [c6b0]) | skip)
      by_cases c7 : (a1.size : Int) > 20000
      · rw [if_pos c7] at H; have c7b0 : decide (20000 < (a1.size : Int)) = true := decide_eq_true c7; have c7b1 : decide (20000 < a1.size) = true := decide_eq_true (by omega); clear c7; have H' := Aside0.mk H; clear H
        go_wp2
        go_meet
        case rel => exact ⟨_, (true), fg, H', ⟨fl⟩, ⟨bs HB⟩⟩
      · rw [if_neg c7] at H; have c7b0 : decide (20000 < (a1.size : Int)) = false := decide_eq_false c7; have c7b1 : decide (20000 < a1.size) = false := decide_eq_false (by omega); clear c7; have H' := Aside0.mk H; clear H
        go_wp2
        go_meet
        case rel => exact ⟨_, (decide ((a2.size : Int) > 20000)), fg, H', ⟨fl⟩, ⟨bs HB⟩⟩
  case rest =>
    clear HC5
    try clear p2
    try clear c3
    try clear c6
    try clear c6b0
    try clear c6b1
    try clear c7
    try clear c7b0
    try clear c7b1
    obtain ⟨kq, x22_4, rfl, HA, HJ4, HB⟩ := hcut
    cases kq with
    | zero => exact absurd HA.out (by simp [spec_LineFind.j0])
    | succ kj4 =>
      have H := HA.out; clear HA; simp only [spec_LineFind.j0] at H
      by_cases c8 : x22_4 = true
      · subst c8
        have H1 : (some 0) = some r := by rw [if_pos rfl] at H; exact H
        clear H; have H := H1; clear H1; obtain rfl := Option.some.inj H
        go_wp2
        go_ret
        exact ⟨ff, bs HB⟩
      · replace c8 := Bool.eq_false_iff.mpr c8; subst c8
        have H1 : ((spec_LinesRight.f kj4 l0).bind fun t132 => (if t132 = true then (spec_LineFind.l0 kj4 l0 a1 a2 a3 0) else (some (-1)))) = some r := by rw [if_neg (show ¬ (false = true) by decide)] at H; exact H
        clear H; have H := H1; clear H1; replace H := Option.bind_eq_some_iff.mp H; obtain ⟨t132, A90, H⟩ := H; replace H : (if t132 = true then (spec_LineFind.l0 kj4 l0 a1 a2 a3 0) else (some (-1))) = some r := H; have A9 := Aside0.mk A90; clear A90
        try go_wp2_with (fail)
        go_at_call 34; (with_reducible refine (spec_LinesRight.calls kj4 _ _ l0 t132 _ (Kd.C_below HR0.out (bs HB)) HC0.out A9.out).mono ?_); rintro e w10 ⟨rfl, hb⟩; replace HB := Aside0.mk (below_step (bs HB) hb); (try clear hb); (try clear hb2); (try clear hk); (try clear hi)
        by_cases c11 : t132 = true
        · subst c11
          have H1 : (spec_LineFind.l0 kj4 l0 a1 a2 a3 0) = some r := by rw [if_pos rfl] at H; exact H
          clear H; have H := H1; clear H1; have H' := Aside0.mk H; clear H
          go_wp2
          go_loopg [9] kj4 (fun kq v9 w' => ∃ (x9_2 : Int), v9 = .int .i64 x9_2 ∧ Aside0 (spec_LineFind.l0 kq l0 a1 a2 a3 x9_2 = some r) ∧ Aside0 (kq ≤ kj4) ∧ Aside0 (Below w.heap.size w w'))
          case atStart => exact ⟨(0), fg, H', ⟨Nat.le_refl _⟩, ⟨bs HB⟩⟩
          case round =>
            clear H'
            try clear c1
            try clear p2
            try clear c3
            try clear c6
            try clear c6b0
            try clear c6b1
            try clear c7
            try clear c7b0
            try clear c7b1
            try clear c8
            try clear c11
            try clear p2
            obtain ⟨x9_2, rfl, HA, HK2, HB⟩ := hrel
            cases gk with
            | zero => exact absurd HA.out (by simp [spec_LineFind.l0])
            | succ k2 =>
              have H := HA.out; clear HA; simp only [spec_LineFind.l0] at H
              by_cases c12 : x9_2 < (l0.length : Int)
              · rw [if_pos c12] at H; have c12b0 : decide (x9_2 < (l0.length : Int)) = true := decide_eq_true c12; clear c12
                by_cases c13 : 0 ≤ x9_2
                · rw [if_pos c13] at H; have c13b0 : decide (0 ≤ x9_2) = true := decide_eq_true c13; clear c13
                  by_cases c14 : ((rd_T26 l0 x9_2).f0).toList = a1.toList
                  · rw [if_pos c14] at H; have c14b0 : (((rd_T26 l0 x9_2).f0).toList == a1.toList) = true := beq_iff_eq.mpr c14; have c14b1 : (((rd_T26 l0 x9_2).f0).toList != a1.toList) = false := bne_eq_false_iff_eq.mpr c14; clear c14
                    by_cases c15 : ((rd_T26 l0 x9_2).f1).toList = a2.toList
                    · rw [if_pos c15] at H; have c15b0 : (((rd_T26 l0 x9_2).f1).toList == a2.toList) = true := beq_iff_eq.mpr c15; have c15b1 : (((rd_T26 l0 x9_2).f1).toList != a2.toList) = false := bne_eq_false_iff_eq.mpr c15; clear c15
                      by_cases c16 : ((rd_T26 l0 x9_2).f2) = a3
                      · rw [if_pos c16] at H; have c16b0 : (((rd_T26 l0 x9_2).f2) == a3) = true := beq_iff_eq.mpr c16; have c16b1 : (((rd_T26 l0 x9_2).f2) != a3) = false := bne_eq_false_iff_eq.mpr c16; clear c16; obtain rfl := Option.some.inj H; have p133 : 0 ≤ (x9_2 : Int) := oa; have q133 : x9_2 < (l0.length : Int) := oa; obtain ⟨ad133, e133, hx133_0, hx133_1, hx133_2, hx133_3, hx133_4, hx133_5, hx133_6, hx133_7⟩ := at_T26 HR0.out x9_2 p133 q133
                        cases e133
                        replace hx133_0 := cb HB hx133_0; replace hx133_1 := cb HB hx133_1; replace hx133_2 := cb HB hx133_2; replace hx133_3 := cb HB hx133_3; replace hx133_4 := cb HB hx133_4; replace hx133_5 := cb HB hx133_5; replace hx133_6 := cb HB hx133_6; replace hx133_7 := cb HB hx133_7; replace p133 := eq_true p133; replace q133 := eq_true q133; have p134 : 0 ≤ (x9_2 : Int) := oa; have q134 : x9_2 < (l0.length : Int) := oa; obtain ⟨ad134, e134, hx134_0, hx134_1, hx134_2, hx134_3, hx134_4, hx134_5, hx134_6, hx134_7⟩ := at_T26 HR0.out x9_2 p134 q134; obtain rfl : ad133 = ad134 := (by injection e134); replace hx134_0 := cb HB hx134_0; replace hx134_1 := cb HB hx134_1; replace hx134_2 := cb HB hx134_2; replace hx134_3 := cb HB hx134_3; replace hx134_4 := cb HB hx134_4; replace hx134_5 := cb HB hx134_5; replace hx134_6 := cb HB hx134_6; replace hx134_7 := cb HB hx134_7; replace p134 := eq_true p134; replace q134 := eq_true q134; have p135 : 0 ≤ (x9_2 : Int) := oa; have q135 : x9_2 < (l0.length : Int) := oa; obtain ⟨ad135, e135, hx135_0, hx135_1, hx135_2, hx135_3, hx135_4, hx135_5, hx135_6, hx135_7⟩ := at_T26 HR0.out x9_2 p135 q135; obtain rfl : ad133 = ad135 := (by injection e135); replace hx135_0 := cb HB hx135_0; replace hx135_1 := cb HB hx135_1; replace hx135_2 := cb HB hx135_2; replace hx135_3 := cb HB hx135_3; replace hx135_4 := cb HB hx135_4; replace hx135_5 := cb HB hx135_5; replace hx135_6 := cb HB hx135_6; replace hx135_7 := cb HB hx135_7; replace p135 := eq_true p135; replace q135 := eq_true q135
                        go_wp2
                        go_ret
                        exact ⟨ff, bs HB⟩
                      · rw [if_neg c16] at H; have c16b0 : (((rd_T26 l0 x9_2).f2) == a3) = false := beq_eq_false_iff_ne.mpr c16; have c16b1 : (((rd_T26 l0 x9_2).f2) != a3) = true := bne_iff_ne.mpr c16; have H' := Aside0.mk H; clear H; have p133 : 0 ≤ (x9_2 : Int) := oa; have q133 : x9_2 < (l0.length : Int) := oa; obtain ⟨ad133, e133, hx133_0, hx133_1, hx133_2, hx133_3, hx133_4, hx133_5, hx133_6, hx133_7⟩ := at_T26 HR0.out x9_2 p133 q133
                        cases e133
                        replace hx133_0 := cb HB hx133_0; replace hx133_1 := cb HB hx133_1; replace hx133_2 := cb HB hx133_2; replace hx133_3 := cb HB hx133_3; replace hx133_4 := cb HB hx133_4; replace hx133_5 := cb HB hx133_5; replace hx133_6 := cb HB hx133_6; replace hx133_7 := cb HB hx133_7; replace p133 := eq_true p133; replace q133 := eq_true q133; have p134 : 0 ≤ (x9_2 : Int) := oa; have q134 : x9_2 < (l0.length : Int) := oa; obtain ⟨ad134, e134, hx134_0, hx134_1, hx134_2, hx134_3, hx134_4, hx134_5, hx134_6, hx134_7⟩ := at_T26 HR0.out x9_2 p134 q134; obtain rfl : ad133 = ad134 := (by injection e134); replace hx134_0 := cb HB hx134_0; replace hx134_1 := cb HB hx134_1; replace hx134_2 := cb HB hx134_2; replace hx134_3 := cb HB hx134_3; replace hx134_4 := cb HB hx134_4; replace hx134_5 := cb HB hx134_5; replace hx134_6 := cb HB hx134_6; replace hx134_7 := cb HB hx134_7; replace p134 := eq_true p134; replace q134 := eq_true q134; have p135 : 0 ≤ (x9_2 : Int) := oa; have q135 : x9_2 < (l0.length : Int) := oa; obtain ⟨ad135, e135, hx135_0, hx135_1, hx135_2, hx135_3, hx135_4, hx135_5, hx135_6, hx135_7⟩ := at_T26 HR0.out x9_2 p135 q135; obtain rfl : ad133 = ad135 := (by injection e135); replace hx135_0 := cb HB hx135_0; replace hx135_1 := cb HB hx135_1; replace hx135_2 := cb HB hx135_2; replace hx135_3 := cb HB hx135_3; replace hx135_4 := cb HB hx135_4; replace hx135_5 := cb HB hx135_5; replace hx135_6 := cb HB hx135_6; replace hx135_7 := cb HB hx135_7; replace p135 := eq_true p135; replace q135 := eq_true q135
                        go_wp2
                        go_roundg k2
                        case measure => have := HJ4.out; have := HK2.out; omega
                        case rel => exact ⟨(wrap64 (x9_2 + 1)), fg, H', ⟨by have := HJ4.out; have := HK2.out; omega⟩, ⟨bs HB⟩⟩
                    · rw [if_neg c15] at H; have c15b0 : (((rd_T26 l0 x9_2).f1).toList == a2.toList) = false := beq_eq_false_iff_ne.mpr c15; have c15b1 : (((rd_T26 l0 x9_2).f1).toList != a2.toList) = true := bne_iff_ne.mpr c15; have H' := Aside0.mk H; clear H; have p133 : 0 ≤ (x9_2 : Int) := oa; have q133 : x9_2 < (l0.length : Int) := oa; obtain ⟨ad133, e133, hx133_0, hx133_1, hx133_2, hx133_3, hx133_4, hx133_5, hx133_6, hx133_7⟩ := at_T26 HR0.out x9_2 p133 q133
                      cases e133
                      replace hx133_0 := cb HB hx133_0; replace hx133_1 := cb HB hx133_1; replace hx133_2 := cb HB hx133_2; replace hx133_3 := cb HB hx133_3; replace hx133_4 := cb HB hx133_4; replace hx133_5 := cb HB hx133_5; replace hx133_6 := cb HB hx133_6; replace hx133_7 := cb HB hx133_7; replace p133 := eq_true p133; replace q133 := eq_true q133; have p134 : 0 ≤ (x9_2 : Int) := oa; have q134 : x9_2 < (l0.length : Int) := oa; obtain ⟨ad134, e134, hx134_0, hx134_1, hx134_2, hx134_3, hx134_4, hx134_5, hx134_6, hx134_7⟩ := at_T26 HR0.out x9_2 p134 q134; obtain rfl : ad133 = ad134 := (by injection e134); replace hx134_0 := cb HB hx134_0; replace hx134_1 := cb HB hx134_1; replace hx134_2 := cb HB hx134_2; replace hx134_3 := cb HB hx134_3; replace hx134_4 := cb HB hx134_4; replace hx134_5 := cb HB hx134_5; replace hx134_6 := cb HB hx134_6; replace hx134_7 := cb HB hx134_7; replace p134 := eq_true p134; replace q134 := eq_true q134
                      go_wp2
                      go_roundg k2
                      case measure => have := HJ4.out; have := HK2.out; omega
                      case rel => exact ⟨(wrap64 (x9_2 + 1)), fg, H', ⟨by have := HJ4.out; have := HK2.out; omega⟩, ⟨bs HB⟩⟩
                  · rw [if_neg c14] at H; have c14b0 : (((rd_T26 l0 x9_2).f0).toList == a1.toList) = false := beq_eq_false_iff_ne.mpr c14; have c14b1 : (((rd_T26 l0 x9_2).f0).toList != a1.toList) = true := bne_iff_ne.mpr c14; have H' := Aside0.mk H; clear H; have p133 : 0 ≤ (x9_2 : Int) := oa; have q133 : x9_2 < (l0.length : Int) := oa; obtain ⟨ad133, e133, hx133_0, hx133_1, hx133_2, hx133_3, hx133_4, hx133_5, hx133_6, hx133_7⟩ := at_T26 HR0.out x9_2 p133 q133
                    cases e133
                    replace hx133_0 := cb HB hx133_0; replace hx133_1 := cb HB hx133_1; replace hx133_2 := cb HB hx133_2; replace hx133_3 := cb HB hx133_3; replace hx133_4 := cb HB hx133_4; replace hx133_5 := cb HB hx133_5; replace hx133_6 := cb HB hx133_6; replace hx133_7 := cb HB hx133_7; replace p133 := eq_true p133; replace q133 := eq_true q133
                    go_wp2
                    go_roundg k2
                    case measure => have := HJ4.out; have := HK2.out; omega
                    case rel => exact ⟨(wrap64 (x9_2 + 1)), fg, H', ⟨by have := HJ4.out; have := HK2.out; omega⟩, ⟨bs HB⟩⟩
                · rw [if_neg c13] at H
                  exact absurd H (by simp)
              · rw [if_neg c12] at H; have c12b0 : decide (x9_2 < (l0.length : Int)) = false := decide_eq_false c12; clear c12; obtain rfl := Option.some.inj H
                go_wp2
                go_ret
                exact ⟨ff, bs HB⟩
        · replace c11 := Bool.eq_false_iff.mpr c11; subst c11
          have H1 : (some (-1)) = some r := by rw [if_neg (show ¬ (false = true) by decide)] at H; exact H
          clear H; have H := H1; clear H1; obtain rfl := Option.some.inj H
          go_wp2
          go_ret
          exact ⟨ff, bs HB⟩
end Go.Proofs.Ytpfdfbomlffhcaa.QF
namespace Go.Proofs.Ytpfdfbomlffhcaa.QF
open Go.RowKit Go.Proofs.YtpfdfbomlffhcaaW.PrintWords Go.Proofs.YtpfdfbomlffhcaaW.PrintLast Go.Proofs.YtpfdfbomlffhcaaW.PrintMore
attribute [local go_sem] max2_int min2_int max_two min_two max_three min_three max_four min_four   -- for this text's walks alone
set_option linter.unusedVariables false
set_option linter.unusedSimpArgs false
set_option maxHeartbeats 8000000 in
set_option maxRecDepth 100000 in
theorem impl_OrderLine.calls (A0 : Option Addr) (c0 : Nat) (l0 : List (S26)) (r : Bool) (w : World) (hr0 : Kd.C k26 w A0 l0.length l0) (hc0 : l0.length ≤ c0) (h : impl_OrderLine.f l0 = some r) :
    Calls Try.prog 80 #[.slice A0 l0.length c0] w fun e w' => e = .returned (.bool r) ∧ Drawn0 w w' := by
  have HR0 := Aside0.mk hr0; have HC0 := Aside0.mk hc0; clear hr0 hc0; have H : (some (decide ((l0.length : Int) > 400))) = some r := h; clear h; obtain rfl := Option.some.inj H
  go_enter Try.func80, Try.ntmps80
  go_wp2
  go_ret
  exact ⟨fg, by repeat (first | exact Drawn0.refl _ | apply Drawn0.step)⟩
set_option maxHeartbeats 8000000 in
set_option maxRecDepth 100000 in
theorem impl_longText_1.calls (a0 : ByteArray) (r : Bool) (w : World) (h : impl_longText_1.f a0 = some r) :
    Calls Try.prog 92 #[.string a0] w fun e w' => e = .returned (.bool r) ∧ Drawn0 w w' := by
  have H : (some (decide ((a0.size : Int) > 20000))) = some r := h; clear h; obtain rfl := Option.some.inj H
  go_enter Try.func92, Try.ntmps92
  go_wp2
  go_ret
  exact ⟨fg, by repeat (first | exact Drawn0.refl _ | apply Drawn0.step)⟩
set_option maxHeartbeats 8000000 in
set_option maxRecDepth 100000 in
theorem slices_IndexFunc_string_string_impl_longText_1.calls (k : Nat) (A0 : Option Addr) (c0 : Nat) (l0 : List ByteArray)  (r : Int) (w : World) (hr0 : Kd.C Kd.string w A0 l0.length l0) (hc0 : l0.length ≤ c0) (h : slices_IndexFunc_string_string_impl_longText_1.f k l0 = some r) :
    Calls Try.prog 108 #[.slice A0 l0.length c0, .func (.func 92) #[] #[]] w fun e w' => e = .returned (.int .i64 r) ∧ Drawn0 w w' := by
  have HR0 := Aside0.mk hr0; have HC0 := Aside0.mk hc0; clear hr0 hc0; have H : (slices_IndexFunc_string_string_impl_longText_1.l0 k l0 (l0.length : Int) 0) = some r := h; clear h; have H' := Aside0.mk H; clear H
  go_enter Try.func108, Try.ntmps108
  go_wp2
  go_loopg [8] k (fun kq v8 w' => ∃ (x8_1 : Int), v8 = .int .i64 x8_1 ∧ Aside0 (slices_IndexFunc_string_string_impl_longText_1.l0 kq l0 (l0.length : Int) x8_1 = some r) ∧ Aside0 (kq ≤ k) ∧ Drawn0 w w')
  case atStart => exact ⟨(0), fg, H', ⟨Nat.le_refl _⟩, by repeat (first | exact Drawn0.refl _ | apply Drawn0.step)⟩
  case round =>
    clear H'
    try clear c1
    try clear p2
    obtain ⟨x8_1, rfl, HA, HK1, ⟨m1, rfl⟩⟩ := hrel
    cases gk with
    | zero => exact absurd HA.out (by simp [slices_IndexFunc_string_string_impl_longText_1.l0])
    | succ k1 =>
      have H := HA.out; clear HA; simp only [slices_IndexFunc_string_string_impl_longText_1.l0] at H
      by_cases c3 : x8_1 < (l0.length : Int)
      · rw [if_pos c3] at H; have c3b0 : decide (x8_1 < (l0.length : Int)) = true := decide_eq_true c3; clear c3
        by_cases c4 : 0 ≤ x8_1
        · rw [if_pos c4] at H; have c4b0 : decide (0 ≤ x8_1) = true := decide_eq_true c4; clear c4
          by_cases c5 : x8_1 < (l0.length : Int)
          · rw [if_pos c5] at H; have c5b0 : decide (x8_1 < (l0.length : Int)) = true := decide_eq_true c5; clear c5; replace H := Option.bind_eq_some_iff.mp H; obtain ⟨t137, A60, H⟩ := H; replace H : (if t137 = true then (some x8_1) else (slices_IndexFunc_string_string_impl_longText_1.l0 k1 l0 (l0.length : Int) (wrap64 (x8_1 + 1)))) = some r := H; have A6 := Aside0.mk A60; clear A60; have p136 : 0 ≤ (x8_1 : Int) := oa; have q136 : x8_1 < (l0.length : Int) := oa; obtain ⟨ad136, e136, hx136_0⟩ := Kd.at_string HR0.out x8_1 p136 q136
            cases e136
            replace p136 := eq_true p136; replace q136 := eq_true q136
            try go_wp2_with (fail)
            go_at_call 92; (with_reducible refine (impl_longText_1.calls (rdOf ByteArray.empty l0 x8_1) t137 _ A6.out).mono ?_); rintro e w' ⟨rfl, ⟨nd, rfl⟩⟩
            by_cases c7 : t137 = true
            · subst c7
              have H1 : (some x8_1) = some r := by rw [if_pos rfl] at H; exact H
              clear H; have H := H1; clear H1; obtain rfl := Option.some.inj H
              go_wp2
              go_ret
              exact ⟨fg, by repeat (first | exact Drawn0.refl _ | apply Drawn0.step)⟩
            · replace c7 := Bool.eq_false_iff.mpr c7; subst c7
              have H1 : (slices_IndexFunc_string_string_impl_longText_1.l0 k1 l0 (l0.length : Int) (wrap64 (x8_1 + 1))) = some r := by rw [if_neg (show ¬ (false = true) by decide)] at H; exact H
              clear H; have H := H1; clear H1; have H' := Aside0.mk H; clear H
              go_wp2
              go_roundg k1
              case measure => have := HK1.out; omega
              case rel => exact ⟨(wrap64 (x8_1 + 1)), fg, H', ⟨by have := HK1.out; omega⟩, by repeat (first | exact Drawn0.refl _ | apply Drawn0.step)⟩
          · rw [if_neg c5] at H
            exact absurd H (by simp)
        · rw [if_neg c4] at H
          exact absurd H (by simp)
      · rw [if_neg c3] at H; have c3b0 : decide (x8_1 < (l0.length : Int)) = false := decide_eq_false c3; clear c3; obtain rfl := Option.some.inj H
        go_wp2
        go_ret
        exact ⟨fg, by repeat (first | exact Drawn0.refl _ | apply Drawn0.step)⟩
set_option maxHeartbeats 8000000 in
set_option maxRecDepth 100000 in
theorem slices_ContainsFunc_string_string_impl_longText_1.calls (k : Nat) (A0 : Option Addr) (c0 : Nat) (l0 : List ByteArray)  (r : Bool) (w : World) (hr0 : Kd.C Kd.string w A0 l0.length l0) (hc0 : l0.length ≤ c0) (h : slices_ContainsFunc_string_string_impl_longText_1.f k l0 = some r) :
    Calls Try.prog 91 #[.slice A0 l0.length c0, .func (.func 92) #[] #[]] w fun e w' => e = .returned (.bool r) ∧ Drawn0 w w' := by
  have HR0 := Aside0.mk hr0; have HC0 := Aside0.mk hc0; clear hr0 hc0; have H : ((slices_IndexFunc_string_string_impl_longText_1.f k l0).bind fun t138 => (some (decide (t138 ≥ 0)))) = some r := h; clear h; replace H := Option.bind_eq_some_iff.mp H; obtain ⟨t138, A30, H⟩ := H; replace H : (some (decide (t138 ≥ 0))) = some r := H; have A3 := Aside0.mk A30; clear A30; obtain rfl := Option.some.inj H
  go_enter Try.func91, Try.ntmps91
  go_wp2_with (first | ((first | ((with_reducible refine gate_callee (f := 108) rfl ?_); refine goesL_ (some 7) rfl rfl Try.func108 (by kernel_rfl) rfl #[.slice A0 l0.length c0, .func (.func 92) #[] #[]] rfl (by (try simp only [List.map_toArray, List.map_cons, List.map_nil]); first | done | rfl | (simp only [List.length_drop, List.length_take]; rfl)) ?_; (with_reducible refine (slices_IndexFunc_string_string_impl_longText_1.calls k _ _ l0  t138 _ ?side1 HC0.out A3.out).mono ?_); (case side1 => repeat (first | exact HR0.out | (with_reducible refine Kd.C_alloc ?_ _) | (with_reducible refine Kd.C_drewN ?_ _) | (with_reducible refine Kd.C_drew ?_))); rintro e w' ⟨rfl, ⟨nd, rfl⟩⟩; refine ⟨_, rfl, ?_⟩) | (go_at_call 108; (with_reducible refine (slices_IndexFunc_string_string_impl_longText_1.calls k _ _ l0  t138 _ ?side1 HC0.out A3.out).mono ?_); (case side1 => repeat (first | exact HR0.out | (with_reducible refine Kd.C_alloc ?_ _) | (with_reducible refine Kd.C_drewN ?_ _) | (with_reducible refine Kd.C_drew ?_))); rintro e w' ⟨rfl, ⟨nd, rfl⟩⟩))))
  go_ret
  exact ⟨fg, by repeat (first | exact Drawn0.refl _ | apply Drawn0.step)⟩
set_option maxHeartbeats 8000000 in
set_option maxRecDepth 100000 in
theorem impl_longText.calls (k : Nat) (A0 : Option Addr) (c0 : Nat) (l0 : List ByteArray) (r : Bool) (w : World) (hr0 : Kd.C Kd.string w A0 l0.length l0) (hc0 : l0.length ≤ c0) (h : impl_longText.f k l0 = some r) :
    Calls Try.prog 58 #[.slice A0 l0.length c0] w fun e w' => e = .returned (.bool r) ∧ Drawn0 w w' := by
  have HR0 := Aside0.mk hr0; have HC0 := Aside0.mk hc0; clear hr0 hc0; have H : ((slices_ContainsFunc_string_string_impl_longText_1.f k l0).bind fun t139 => (some t139)) = some r := h; clear h; replace H := Option.bind_eq_some_iff.mp H; obtain ⟨t139, A20, H⟩ := H; replace H : (some t139) = some r := H; have A2 := Aside0.mk A20; clear A20; obtain rfl := Option.some.inj H
  go_enter Try.func58, Try.ntmps58
  go_wp2_with (first | ((first | ((with_reducible refine gate_callee (f := 91) rfl ?_); refine goesL_ (some 4) rfl rfl Try.func91 (by kernel_rfl) rfl #[.slice A0 l0.length c0, .func (.func 92) #[] #[]] rfl (by (try simp only [List.map_toArray, List.map_cons, List.map_nil]); first | done | rfl | (simp only [List.length_drop, List.length_take]; rfl)) ?_; (with_reducible refine (slices_ContainsFunc_string_string_impl_longText_1.calls k _ _ l0  t139 _ ?side1 HC0.out A2.out).mono ?_); (case side1 => repeat (first | exact HR0.out | (with_reducible refine Kd.C_alloc ?_ _) | (with_reducible refine Kd.C_drewN ?_ _) | (with_reducible refine Kd.C_drew ?_))); rintro e w' ⟨rfl, ⟨nd, rfl⟩⟩; refine ⟨_, rfl, ?_⟩) | (go_at_call 91; (with_reducible refine (slices_ContainsFunc_string_string_impl_longText_1.calls k _ _ l0  t139 _ ?side1 HC0.out A2.out).mono ?_); (case side1 => repeat (first | exact HR0.out | (with_reducible refine Kd.C_alloc ?_ _) | (with_reducible refine Kd.C_drewN ?_ _) | (with_reducible refine Kd.C_drew ?_))); rintro e w' ⟨rfl, ⟨nd, rfl⟩⟩))))
  go_ret
  exact ⟨fg, by repeat (first | exact Drawn0.refl _ | apply Drawn0.step)⟩
set_option maxHeartbeats 8000000 in
set_option maxRecDepth 100000 in
theorem impl_isGreat.calls (a0 : Int) (r : Bool) (w : World) (h : impl_isGreat.f a0 = some r) :
    Calls Try.prog 94 #[.int .u8 a0] w fun e w' => e = .returned (.bool r) ∧ Drawn0 w w' := by
  have H : (if a0 ≥ 65 then (some (decide (a0 ≤ 90))) else (some false)) = some r := h; clear h
  by_cases c2 : a0 ≥ 65
  · rw [if_pos c2] at H; have c2b0 : decide (65 ≤ a0) = true := decide_eq_true c2; clear c2; obtain rfl := Option.some.inj H
    go_enter Try.func94, Try.ntmps94
    go_wp2
    go_ret
    exact ⟨fg, by repeat (first | exact Drawn0.refl _ | apply Drawn0.step)⟩
  · rw [if_neg c2] at H; have c2b0 : decide (65 ≤ a0) = false := decide_eq_false c2; clear c2; obtain rfl := Option.some.inj H
    go_enter Try.func94, Try.ntmps94
    go_wp2
    go_ret
    exact ⟨fg, by repeat (first | exact Drawn0.refl _ | apply Drawn0.step)⟩
set_option maxHeartbeats 8000000 in
set_option maxRecDepth 100000 in
theorem impl_isDigit.calls (a0 : Int) (r : Bool) (w : World) (h : impl_isDigit.f a0 = some r) :
    Calls Try.prog 95 #[.int .u8 a0] w fun e w' => e = .returned (.bool r) ∧ Drawn0 w w' := by
  have H : (if a0 ≥ 48 then (some (decide (a0 ≤ 57))) else (some false)) = some r := h; clear h
  by_cases c2 : a0 ≥ 48
  · rw [if_pos c2] at H; have c2b0 : decide (48 ≤ a0) = true := decide_eq_true c2; clear c2; obtain rfl := Option.some.inj H
    go_enter Try.func95, Try.ntmps95
    go_wp2
    go_ret
    exact ⟨fg, by repeat (first | exact Drawn0.refl _ | apply Drawn0.step)⟩
  · rw [if_neg c2] at H; have c2b0 : decide (48 ≤ a0) = false := decide_eq_false c2; clear c2; obtain rfl := Option.some.inj H
    go_enter Try.func95, Try.ntmps95
    go_wp2
    go_ret
    exact ⟨fg, by repeat (first | exact Drawn0.refl _ | apply Drawn0.step)⟩
set_option maxHeartbeats 8000000 in
set_option maxRecDepth 100000 in
theorem impl_within.calls (a0 : Int) (a1 : Int) (a2 : Int) (r : Bool) (w : World) (h : impl_within.f a0 a1 a2 = some r) :
    Calls Try.prog 63 #[.int .i64 a0, .int .i64 a1, .int .i64 a2] w fun e w' => e = .returned (.bool r) ∧ Drawn0 w w' := by
  have H : (if a1 ≤ a0 then (some (decide (a0 ≤ a2))) else (some false)) = some r := h; clear h
  by_cases c4 : a1 ≤ a0
  · rw [if_pos c4] at H; have c4b0 : decide (a1 ≤ a0) = true := decide_eq_true c4; clear c4; obtain rfl := Option.some.inj H
    go_enter Try.func63, Try.ntmps63
    go_wp2
    go_ret
    exact ⟨fg, by repeat (first | exact Drawn0.refl _ | apply Drawn0.step)⟩
  · rw [if_neg c4] at H; have c4b0 : decide (a1 ≤ a0) = false := decide_eq_false c4; clear c4; obtain rfl := Option.some.inj H
    go_enter Try.func63, Try.ntmps63
    go_wp2
    go_ret
    exact ⟨fg, by repeat (first | exact Drawn0.refl _ | apply Drawn0.step)⟩
end Go.Proofs.Ytpfdfbomlffhcaa.QF

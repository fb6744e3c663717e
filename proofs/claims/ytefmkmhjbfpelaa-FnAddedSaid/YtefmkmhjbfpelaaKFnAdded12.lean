-- Merged by a program of this session (wip/tool/pack.py) out of its own texts for this claim.
import Derived.Test.YtefmkmhjbfpelaaKFnAdded0
import Derived.Test.YtefmkmhjbfpelaaKFnAdded1
import Derived.Test.YtefmkmhjbfpelaaKFnAdded2
import Derived.Test.YtefmkmhjbfpelaaKFnAdded6
import Derived.Test.YtefmkmhjbfpelaaKFnAdded8
import Derived.Test.YtefmkmhjbfpelaaKFnAdded10
namespace Go.Proofs.Ytefmkmhjbfpelaa.QP
open Go.RowKit Go.Proofs.YtefmkmhjbfpelaaW.PrintWords Go.Proofs.YtefmkmhjbfpelaaW.PrintLast Go.Proofs.YtefmkmhjbfpelaaW.PrintMore
attribute [local go_sem] max2_int min2_int max_two min_two max_three min_three max_four min_four   -- for this text's walks alone
set_option linter.unusedVariables false
set_option linter.unusedSimpArgs false
set_option maxHeartbeats 8000000 in
set_option maxRecDepth 100000 in
theorem impl_longText_1.calls (a0 : ByteArray) (r : Bool) (w : World) (h : impl_longText_1.f a0 = some r) :
    Calls Try.prog 136 #[.string a0] w fun e w' => e = .returned (.bool r) ∧ Drawn0 w w' := by
  have H : (some (decide ((a0.size : Int) > 20000))) = some r := h; clear h; obtain rfl := Option.some.inj H
  go_enter Try.func136, Try.ntmps136
  go_wp2
  go_ret
  exact ⟨fg, by repeat (first | exact Drawn0.refl _ | apply Drawn0.step)⟩
set_option maxHeartbeats 8000000 in
set_option maxRecDepth 100000 in
theorem slices_IndexFunc_string_string_impl_longText_1.calls (k : Nat) (A0 : Option Addr) (c0 : Nat) (l0 : List ByteArray)  (r : Int) (w : World) (hr0 : Kd.C Kd.string w A0 l0.length l0) (hc0 : l0.length ≤ c0) (h : slices_IndexFunc_string_string_impl_longText_1.f k l0 = some r) :
    Calls Try.prog 160 #[.slice A0 l0.length c0, .func (.func 136) #[] #[]] w fun e w' => e = .returned (.int .i64 r) ∧ Drawn0 w w' := by
  have HR0 := Aside0.mk hr0; have HC0 := Aside0.mk hc0; clear hr0 hc0; have H : (slices_IndexFunc_string_string_impl_longText_1.l0 k l0 (l0.length : Int) 0) = some r := h; clear h; have H' := Aside0.mk H; clear H
  go_enter Try.func160, Try.ntmps160
  go_wp2
  go_loopg [8] k (fun kq v8 w' => ∃ (x8_1 : Int), v8 = .int .i64 x8_1 ∧ Aside0 (slices_IndexFunc_string_string_impl_longText_1.l0 kq l0 (l0.length : Int) x8_1 = some r) ∧ Aside0 (kq ≤ k) ∧ Drawn0 w w')
  case atStart => exact ⟨(0), fg, H', ⟨Nat.le_refl _⟩, by repeat (first | exact Drawn0.refl _ | apply Drawn0.step)⟩
  case round =>
    clear H'
    try clear c1
    try clear p2
    obtain ⟨x8_1, rfl, HA, HK1, ⟨m1, rfl⟩⟩ := hrel
    cases gk with
    | zero => exact absurd HA.out (by simp [slices_IndexFunc_string_string_impl_longText_1.l0])
    | succ k1 =>
      have H := HA.out; clear HA; simp only [slices_IndexFunc_string_string_impl_longText_1.l0] at H
      by_cases c3 : x8_1 < (l0.length : Int)
      · rw [if_pos c3] at H; have c3b0 : decide (x8_1 < (l0.length : Int)) = true := decide_eq_true c3; clear c3
        by_cases c4 : 0 ≤ x8_1
        · rw [if_pos c4] at H; have c4b0 : decide (0 ≤ x8_1) = true := decide_eq_true c4; clear c4
          by_cases c5 : x8_1 < (l0.length : Int)
          · rw [if_pos c5] at H; have c5b0 : decide (x8_1 < (l0.length : Int)) = true := decide_eq_true c5; clear c5; replace H := Option.bind_eq_some_iff.mp H; obtain ⟨t372, A60, H⟩ := H; replace H : (if t372 = true then (some x8_1) else (slices_IndexFunc_string_string_impl_longText_1.l0 k1 l0 (l0.length : Int) (wrap64 (x8_1 + 1)))) = some r := H; have A6 := Aside0.mk A60; clear A60; have p371 : 0 ≤ (x8_1 : Int) := oa; have q371 : x8_1 < (l0.length : Int) := oa; obtain ⟨ad371, e371, hx371_0⟩ := Kd.at_string HR0.out x8_1 p371 q371
            cases e371
            replace p371 := eq_true p371; replace q371 := eq_true q371
            try go_wp2_with (fail)
            go_at_call 136; (with_reducible refine (impl_longText_1.calls (rdOf ByteArray.empty l0 x8_1) t372 _ A6.out).mono ?_); rintro e w' ⟨rfl, ⟨nd, rfl⟩⟩
            by_cases c7 : t372 = true
            · subst c7
              have H1 : (some x8_1) = some r := by rw [if_pos rfl] at H; exact H
              clear H; have H := H1; clear H1; obtain rfl := Option.some.inj H
              go_wp2
              go_ret
              exact ⟨fg, by repeat (first | exact Drawn0.refl _ | apply Drawn0.step)⟩
            · replace c7 := Bool.eq_false_iff.mpr c7; subst c7
              have H1 : (slices_IndexFunc_string_string_impl_longText_1.l0 k1 l0 (l0.length : Int) (wrap64 (x8_1 + 1))) = some r := by rw [if_neg (show ¬ (false = true) by decide)] at H; exact H
              clear H; have H := H1; clear H1; have H' := Aside0.mk H; clear H
              go_wp2
              go_roundg k1
              case measure => have := HK1.out; omega
              case rel => exact ⟨(wrap64 (x8_1 + 1)), fg, H', ⟨by have := HK1.out; omega⟩, by repeat (first | exact Drawn0.refl _ | apply Drawn0.step)⟩
          · rw [if_neg c5] at H
            exact absurd H (by simp)
        · rw [if_neg c4] at H
          exact absurd H (by simp)
      · rw [if_neg c3] at H; have c3b0 : decide (x8_1 < (l0.length : Int)) = false := decide_eq_false c3; clear c3; obtain rfl := Option.some.inj H
        go_wp2
        go_ret
        exact ⟨fg, by repeat (first | exact Drawn0.refl _ | apply Drawn0.step)⟩
set_option maxHeartbeats 8000000 in
set_option maxRecDepth 100000 in
theorem slices_ContainsFunc_string_string_impl_longText_1.calls (k : Nat) (A0 : Option Addr) (c0 : Nat) (l0 : List ByteArray)  (r : Bool) (w : World) (hr0 : Kd.C Kd.string w A0 l0.length l0) (hc0 : l0.length ≤ c0) (h : slices_ContainsFunc_string_string_impl_longText_1.f k l0 = some r) :
    Calls Try.prog 135 #[.slice A0 l0.length c0, .func (.func 136) #[] #[]] w fun e w' => e = .returned (.bool r) ∧ Drawn0 w w' := by
  have HR0 := Aside0.mk hr0; have HC0 := Aside0.mk hc0; clear hr0 hc0; have H : ((slices_IndexFunc_string_string_impl_longText_1.f k l0).bind fun t373 => (some (decide (t373 ≥ 0)))) = some r := h; clear h; replace H := Option.bind_eq_some_iff.mp H; obtain ⟨t373, A30, H⟩ := H; replace H : (some (decide (t373 ≥ 0))) = some r := H; have A3 := Aside0.mk A30; clear A30; obtain rfl := Option.some.inj H
  go_enter Try.func135, Try.ntmps135
  go_wp2_with (first | ((first | ((with_reducible refine gate_callee (f := 160) rfl ?_); refine goesL_ (some 7) rfl rfl Try.func160 (by kernel_rfl) rfl #[.slice A0 l0.length c0, .func (.func 136) #[] #[]] rfl (by (try simp only [List.map_toArray, List.map_cons, List.map_nil]); first | done | rfl | (simp only [List.length_drop, List.length_take]; rfl)) ?_; (with_reducible refine (slices_IndexFunc_string_string_impl_longText_1.calls k _ _ l0  t373 _ ?side1 HC0.out A3.out).mono ?_); (case side1 => repeat (first | exact HR0.out | (with_reducible refine Kd.C_alloc ?_ _) | (with_reducible refine Kd.C_drewN ?_ _) | (with_reducible refine Kd.C_drew ?_))); rintro e w' ⟨rfl, ⟨nd, rfl⟩⟩; refine ⟨_, rfl, ?_⟩) | (go_at_call 160; (with_reducible refine (slices_IndexFunc_string_string_impl_longText_1.calls k _ _ l0  t373 _ ?side1 HC0.out A3.out).mono ?_); (case side1 => repeat (first | exact HR0.out | (with_reducible refine Kd.C_alloc ?_ _) | (with_reducible refine Kd.C_drewN ?_ _) | (with_reducible refine Kd.C_drew ?_))); rintro e w' ⟨rfl, ⟨nd, rfl⟩⟩))))
  go_ret
  exact ⟨fg, by repeat (first | exact Drawn0.refl _ | apply Drawn0.step)⟩
set_option maxHeartbeats 8000000 in
set_option maxRecDepth 100000 in
theorem impl_longText.calls (k : Nat) (A0 : Option Addr) (c0 : Nat) (l0 : List ByteArray) (r : Bool) (w : World) (hr0 : Kd.C Kd.string w A0 l0.length l0) (hc0 : l0.length ≤ c0) (h : impl_longText.f k l0 = some r) :
    Calls Try.prog 85 #[.slice A0 l0.length c0] w fun e w' => e = .returned (.bool r) ∧ Drawn0 w w' := by
  have HR0 := Aside0.mk hr0; have HC0 := Aside0.mk hc0; clear hr0 hc0; have H : ((slices_ContainsFunc_string_string_impl_longText_1.f k l0).bind fun t374 => (some t374)) = some r := h; clear h; replace H := Option.bind_eq_some_iff.mp H; obtain ⟨t374, A20, H⟩ := H; replace H : (some t374) = some r := H; have A2 := Aside0.mk A20; clear A20; obtain rfl := Option.some.inj H
  go_enter Try.func85, Try.ntmps85
  go_wp2_with (first | ((first | ((with_reducible refine gate_callee (f := 135) rfl ?_); refine goesL_ (some 4) rfl rfl Try.func135 (by kernel_rfl) rfl #[.slice A0 l0.length c0, .func (.func 136) #[] #[]] rfl (by (try simp only [List.map_toArray, List.map_cons, List.map_nil]); first | done | rfl | (simp only [List.length_drop, List.length_take]; rfl)) ?_; (with_reducible refine (slices_ContainsFunc_string_string_impl_longText_1.calls k _ _ l0  t374 _ ?side1 HC0.out A2.out).mono ?_); (case side1 => repeat (first | exact HR0.out | (with_reducible refine Kd.C_alloc ?_ _) | (with_reducible refine Kd.C_drewN ?_ _) | (with_reducible refine Kd.C_drew ?_))); rintro e w' ⟨rfl, ⟨nd, rfl⟩⟩; refine ⟨_, rfl, ?_⟩) | (go_at_call 135; (with_reducible refine (slices_ContainsFunc_string_string_impl_longText_1.calls k _ _ l0  t374 _ ?side1 HC0.out A2.out).mono ?_); (case side1 => repeat (first | exact HR0.out | (with_reducible refine Kd.C_alloc ?_ _) | (with_reducible refine Kd.C_drewN ?_ _) | (with_reducible refine Kd.C_drew ?_))); rintro e w' ⟨rfl, ⟨nd, rfl⟩⟩))))
  go_ret
  exact ⟨fg, by repeat (first | exact Drawn0.refl _ | apply Drawn0.step)⟩
end Go.Proofs.Ytefmkmhjbfpelaa.QP
namespace Go.Proofs.Ytefmkmhjbfpelaa.QP
open Go.RowKit Go.Proofs.YtefmkmhjbfpelaaW.PrintWords Go.Proofs.YtefmkmhjbfpelaaW.PrintLast Go.Proofs.YtefmkmhjbfpelaaW.PrintMore
attribute [local go_sem] max2_int min2_int max_two min_two max_three min_three max_four min_four   -- for this text's walks alone
set_option linter.unusedVariables false
set_option linter.unusedSimpArgs false
set_option maxHeartbeats 8000000 in
set_option maxRecDepth 100000 in
theorem impl_lineAt_lit (x : S54) (g1 g2 g3 : Nat) (a1 a2 : ByteArray) (a3 : Int) (w : World) (h1 : w.cell? ⟨g1, 0, none⟩ = some (.string a1)) (h2 : w.cell? ⟨g2, 0, none⟩ = some (.string a2)) (h3 : w.cell? ⟨g3, 0, none⟩ = some (.int .i64 a3)) :
    Calls Try.prog 148 #[.agg #[.string x.f0, .string x.f1, .int .i64 x.f2, .string x.f3, .int .i64 x.f4, .int .i64 x.f5, .int .i64 x.f6, .int .i64 x.f7], .pointer (some ⟨g1, 0, none⟩), .pointer (some ⟨g2, 0, none⟩), .pointer (some ⟨g3, 0, none⟩)] w fun e w' => e = .returned (.bool (impl_lineAt_p.f a1 a2 a3 x)) ∧ Below w.heap.size w w' := by
  have hu := Try.underlying54; have HB := Aside0.mk (Below.refl w.heap.size w); have b1 : g1 < w.heap.size := World.block_lt_of_cell? w ⟨g1, 0, none⟩ h1; have b2 : g2 < w.heap.size := World.block_lt_of_cell? w ⟨g2, 0, none⟩ h2; have b3 : g3 < w.heap.size := World.block_lt_of_cell? w ⟨g3, 0, none⟩ h3
  by_cases c1 : x.f0.toList = a1.toList
  · have d1 : (x.f0.toList == a1.toList) = true := by simpa using c1
    by_cases c2 : x.f1.toList = a2.toList
    · have d2 : (x.f1.toList == a2.toList) = true := by simpa using c2
      by_cases c3 : x.f2 = a3
      · have d3 : (x.f2 == a3) = true := by simpa using c3
        have e : impl_lineAt_p.f a1 a2 a3 x = true := by unfold impl_lineAt_p.f; rw [d1, d2, d3]; rfl
        rw [e]; clear e c1 c2 c3
        go_enter Try.func148, Try.ntmps148
        go_wp2
        go_ret
        exact ⟨rfl, bs HB⟩
      · have d3 : (x.f2 == a3) = false := by simpa using c3
        have e : impl_lineAt_p.f a1 a2 a3 x = false := by unfold impl_lineAt_p.f; rw [d1, d2, d3]; rfl
        rw [e]; clear e c1 c2 c3
        go_enter Try.func148, Try.ntmps148
        go_wp2
        go_ret
        exact ⟨rfl, bs HB⟩
    · have d2 : (x.f1.toList == a2.toList) = false := by simpa using c2
      have e : impl_lineAt_p.f a1 a2 a3 x = false := by unfold impl_lineAt_p.f; rw [d1, d2]; rfl
      rw [e]; clear e c1 c2
      go_enter Try.func148, Try.ntmps148
      go_wp2
      go_ret
      exact ⟨rfl, bs HB⟩
  · have d1 : (x.f0.toList == a1.toList) = false := by simpa using c1
    have e : impl_lineAt_p.f a1 a2 a3 x = false := by unfold impl_lineAt_p.f; rw [d1]; rfl
    rw [e]; clear e c1
    go_enter Try.func148, Try.ntmps148
    go_wp2
    go_ret
    exact ⟨rfl, bs HB⟩
theorem impl_lineAt_stop {a1 a2 : ByteArray} {a3 : Int} {l0 : List S54} {k : Nat} (hk : k < l0.length) (h : k ≤ l0.findIdx (impl_lineAt_p.f a1 a2 a3)) (hp : impl_lineAt_p.f a1 a2 a3 (rd_T54 l0 (k : Int)) = true) : l0.findIdx (impl_lineAt_p.f a1 a2 a3) = k := by
  have e : rd_T54 l0 (k : Int) = l0[k] := by unfold rd_T54; rw [Int.toNat_natCast, List.getD_eq_getElem?_getD, List.getElem?_eq_getElem hk]; rfl
  rw [e] at hp
  rcases Nat.lt_or_ge k (l0.findIdx (impl_lineAt_p.f a1 a2 a3)) with hlt | hge
  · have := List.not_of_lt_findIdx hlt
    rw [hp] at this
    cases this
  · omega
theorem impl_lineAt_go {a1 a2 : ByteArray} {a3 : Int} {l0 : List S54} {k : Nat} (hk : k < l0.length) (h : k ≤ l0.findIdx (impl_lineAt_p.f a1 a2 a3)) (hp : impl_lineAt_p.f a1 a2 a3 (rd_T54 l0 (k : Int)) = false) : k + 1 ≤ l0.findIdx (impl_lineAt_p.f a1 a2 a3) := by
  have e : rd_T54 l0 (k : Int) = l0[k] := by unfold rd_T54; rw [Int.toNat_natCast, List.getD_eq_getElem?_getD, List.getElem?_eq_getElem hk]; rfl
  rw [e] at hp
  rcases Nat.lt_or_ge k (l0.findIdx (impl_lineAt_p.f a1 a2 a3)) with hlt | hge
  · exact hlt
  · have hek : l0.findIdx (impl_lineAt_p.f a1 a2 a3) = k := by omega
    have := List.findIdx_getElem (p := impl_lineAt_p.f a1 a2 a3) (xs := l0) (w := by omega)
    simp only [hek] at this
    rw [hp] at this
    cases this
set_option maxHeartbeats 8000000 in
set_option maxRecDepth 100000 in
theorem impl_lineAt_index (A0 : Option Addr) (c0 : Nat) (l0 : List S54) (g1 g2 g3 : Nat) (a1 a2 : ByteArray) (a3 : Int) (w : World) (hr0 : Kd.C k54 w A0 l0.length l0) (h1 : w.cell? ⟨g1, 0, none⟩ = some (.string a1)) (h2 : w.cell? ⟨g2, 0, none⟩ = some (.string a2)) (h3 : w.cell? ⟨g3, 0, none⟩ = some (.int .i64 a3)) :
    Calls Try.prog 147 #[.slice A0 l0.length c0, .func (.func 148) #[] #[.pointer (some ⟨g1, 0, none⟩), .pointer (some ⟨g2, 0, none⟩), .pointer (some ⟨g3, 0, none⟩)]] w fun e w' => e = .returned (.int .i64 (impl_lineAt_ix.f l0 a1 a2 a3)) ∧ Below w.heap.size w w' := by
  have HC := Aside0.mk hr0; have H1 := Aside0.mk h1; have H2 := Aside0.mk h2; have H3 := Aside0.mk h3; have hn : l0.length ≤ 9223372036854775807 := hr0.2.1; clear hr0 h1 h2 h3
  go_enter Try.func147, Try.ntmps147
  go_wp2
  go_loopw [5, 8] (fun v5 v8 wr => ∃ k : Nat, k ≤ l0.length ∧ v8 = .int .i64 k ∧ Aside0 (k ≤ l0.findIdx (impl_lineAt_p.f a1 a2 a3)) ∧ Aside0 (Below w.heap.size w wr)) (fun _ i _ => l0.length - (intOf i).toNat)
  case atStart => exact ⟨0, Nat.zero_le _, rfl, ⟨Nat.zero_le _⟩, ⟨Below.refl _ _⟩⟩
  case round =>
    obtain ⟨k, hk, rfl, HP, HB⟩ := hrel
    by_cases hlt : k < l0.length
    · have p0 : (0 : Int) ≤ (k : Int) := by omega
      have q0 : (k : Int) < (l0.length : Int) := by omega
      obtain ⟨ad, eA, hx0, hx1, hx2, hx3, hx4, hx5, hx6, hx7⟩ := at_T54 HC.out (k : Int) p0 q0; replace hx0 := pw_cell_below HB.out hx0; replace hx1 := pw_cell_below HB.out hx1; replace hx2 := pw_cell_below HB.out hx2; replace hx3 := pw_cell_below HB.out hx3; replace hx4 := pw_cell_below HB.out hx4; replace hx5 := pw_cell_below HB.out hx5; replace hx6 := pw_cell_below HB.out hx6; replace hx7 := pw_cell_below HB.out hx7; simp only [Int.toNat_natCast] at hx0 hx1 hx2 hx3 hx4 hx5 hx6 hx7
      have hl := fun W => impl_lineAt_lit (rd_T54 l0 (k : Int)) g1 g2 g3 a1 a2 a3 W
      have HL := Aside0.mk hl; clear hl; subst eA
      cases hp : impl_lineAt_p.f a1 a2 a3 (rd_T54 l0 (k : Int)) with
      | true =>
        have HS := Aside0.mk (show impl_lineAt_ix.f l0 a1 a2 a3 = (k : Int) from by unfold impl_lineAt_ix.f; rw [impl_lineAt_stop hlt HP.out hp, if_pos hlt]); have HC0 := Aside0.mk (fun W h1 h2 h3 => hp ▸ HL.out W h1 h2 h3); clear hp HL
        go_wp2_with (go_at_call 148; refine (HC0.out _ (pw_cell_below HB.out H1.out) (pw_cell_below HB.out H2.out) (pw_cell_below HB.out H3.out)).mono ?_; rintro e w2 ⟨rfl, hb⟩; replace HB := Aside0.mk (below_step HB.out hb); clear hb)
        go_ret
        exact ⟨by rw [HS.out]; rfl, HB.out⟩
      | false =>
        have HS := Aside0.mk (impl_lineAt_go hlt HP.out hp); have HC0 := Aside0.mk (fun W h1 h2 h3 => hp ▸ HL.out W h1 h2 h3); clear hp HL
        have hw1 : IntKind.i64.wrap ((k : Int) + 1) = (k : Int) + 1 := by rw [IntKind.wrap_i64]; omega
        go_wp2_with (go_at_call 148; refine (HC0.out _ (pw_cell_below HB.out H1.out) (pw_cell_below HB.out H2.out) (pw_cell_below HB.out H3.out)).mono ?_; rintro e w2 ⟨rfl, hb⟩; replace HB := Aside0.mk (below_step HB.out hb); clear hb)
        go_roundw
        case rel => exact ⟨k + 1, by omega, by go_num, HS, HB⟩
        case measure => simp [intOf]; omega
    · have hke : k = l0.length := by omega
      have HS := Aside0.mk (show impl_lineAt_ix.f l0 a1 a2 a3 = -1 from by unfold impl_lineAt_ix.f; rw [if_neg (by have := HP.out; omega)]); clear hke HP
      go_wp2
      go_ret
      exact ⟨by rw [HS.out]; rfl, HB.out⟩
set_option maxHeartbeats 8000000 in
set_option maxRecDepth 100000 in
theorem impl_lineAt.calls (A0 : Option Addr) (c0 : Nat) (l0 : List S54) (a1 : ByteArray) (a2 : ByteArray) (a3 : Int) (r : Int) (w : World) (hr0 : Kd.C k54 w A0 l0.length l0) (hc0 : l0.length ≤ c0) (h : impl_lineAt.f l0 a1 a2 a3 = some r) :
    Calls Try.prog 102 #[.slice A0 l0.length c0, .string a1, .string a2, .int .i64 a3] w fun e w' => e = .returned (.int .i64 r) ∧ Below w.heap.size w w' := by
  obtain rfl := Option.some.inj h; have hB1 := below_alloc (below_alloc (below_alloc (Below.refl w.heap.size w) (.cells #[.string a1] 9)) (.cells #[.string a2] 9)) (.cells #[.int .i64 a3] 2)
  have s1 : (w.alloc (.cells #[.string a1] 9)).heap.size = w.heap.size + 1 := by simp
  have s2 : ((w.alloc (.cells #[.string a1] 9)).alloc (.cells #[.string a2] 9)).heap.size = w.heap.size + 1 + 1 := by simp
  have q1 := blk_alloc (blk_alloc (heap_alloc_new w (.cells #[.string a1] 9)) (.cells #[.string a2] 9)) (.cells #[.int .i64 a3] 2); have q2 := blk_alloc (heap_alloc_new (w.alloc (.cells #[.string a1] 9)) (.cells #[.string a2] 9)) (.cells #[.int .i64 a3] 2); have q3 := heap_alloc_new ((w.alloc (.cells #[.string a1] 9)).alloc (.cells #[.string a2] 9)) (.cells #[.int .i64 a3] 2)
  rw [s1] at q2
  rw [s2] at q3
  have hix := impl_lineAt_index A0 c0 l0 w.heap.size (w.heap.size + 1) (w.heap.size + 1 + 1) a1 a2 a3 (((w.alloc (.cells #[.string a1] 9)).alloc (.cells #[.string a2] 9)).alloc (.cells #[.int .i64 a3] 2)) (Kd.C_below hr0 hB1)
    ((blk_cell q1 0).trans rfl) ((blk_cell q2 0).trans rfl) ((blk_cell q3 0).trans rfl)
  have HIX := Aside0.mk hix; have HB := Aside0.mk hB1
  have hmf : ∀ (fn : Fn) (first cap : Array Value) (w : World), (Instr.makeFunc fn first cap).run Try.prog w = .ok (.func fn first cap) w := fun _ _ _ _ => rfl
  clear hix hB1 h hr0 hc0 s1 s2 q1 q2 q3
  go_enter Try.func102, Try.ntmps102
  go_wp2_with (go_at_call 147; refine HIX.out.mono ?_; rintro e w2 ⟨rfl, hb⟩; have HB2 := Aside0.mk (below_step HB.out hb); clear hb)
  go_ret
  exact ⟨rfl, HB2.out⟩
end Go.Proofs.Ytefmkmhjbfpelaa.QP
namespace Go.Proofs.Ytefmkmhjbfpelaa.QP
open Go.RowKit Go.Proofs.YtefmkmhjbfpelaaW.PrintWords Go.Proofs.YtefmkmhjbfpelaaW.PrintLast Go.Proofs.YtefmkmhjbfpelaaW.PrintMore
attribute [local go_sem] max2_int min2_int max_two min_two max_three min_three max_four min_four   -- for this text's walks alone
set_option linter.unusedVariables false
set_option linter.unusedSimpArgs false
set_option maxHeartbeats 8000000 in
set_option maxRecDepth 100000 in
theorem impl_LineFind.calls (k : Nat) (A0 : Option Addr) (c0 : Nat) (l0 : List (S54)) (a1 : ByteArray) (a2 : ByteArray) (a3 : Int) (r : Int) (w : World) (hr0 : Kd.C k54 w A0 l0.length l0) (hc0 : l0.length ≤ c0) (h : impl_LineFind.f k l0 a1 a2 a3 = some r) :
    Calls Try.prog 35 #[.slice A0 l0.length c0, .string a1, .string a2, .int .i64 a3] w fun e w' => e = .returned (.int .i64 r) ∧ Below w.heap.size w w' := by
  have HR0 := Aside0.mk hr0; have HC0 := Aside0.mk hc0; clear hr0 hc0; have HB := Aside0.mk (Below.refl w.heap.size w); have H : ((impl_OrderLine_95.f l0).bind fun t375 => (if t375 = true then (impl_LineFind.j0 k l0 a1 a2 a3 true) else ((impl_longText.f k (([a1, a2] : List ByteArray))).bind fun t379 => (impl_LineFind.j0 k l0 a1 a2 a3 t379)))) = some r := h; clear h; have HC5 := Aside0.mk H; clear H
  go_enter Try.func35, Try.ntmps35
  go_upto_region 1 with (fail)
  go_cut [9] (fun v9 wc => ∃ (kq : Nat) (x9_4 : Bool), v9 = .bool x9_4 ∧ Aside0 (impl_LineFind.j0 kq l0 a1 a2 a3 x9_4 = some r) ∧ Aside0 (kq ≤ k) ∧ Aside0 (Below w.heap.size w wc))
  case first =>
    have H := HC5.out; clear HC5; replace H := Option.bind_eq_some_iff.mp H; obtain ⟨t375, A60, H⟩ := H; replace H : (if t375 = true then (impl_LineFind.j0 k l0 a1 a2 a3 true) else ((impl_longText.f k (([a1, a2] : List ByteArray))).bind fun t379 => (impl_LineFind.j0 k l0 a1 a2 a3 t379))) = some r := H; have A6 := Aside0.mk A60; clear A60
    try go_wp2_with (fail)
    go_at_call 95; (with_reducible refine (impl_OrderLine_95.calls _ _ l0 t375 _ (Kd.C_below HR0.out (bs HB)) HC0.out A6.out).mono ?_); rintro e w' ⟨rfl, ⟨nd, rfl⟩⟩
    by_cases c7 : t375 = true
    · subst c7
      have H1 : (impl_LineFind.j0 k l0 a1 a2 a3 true) = some r := by rw [if_pos rfl] at H; exact H
      clear H; have H := H1; clear H1; have H' := Aside0.mk H; clear H
      go_wp2
      go_meet
      case rel => exact ⟨_, (true), fg, H', ⟨fl⟩, ⟨bs HB⟩⟩
    · replace c7 := Bool.eq_false_iff.mpr c7; subst c7
      have H1 : ((impl_longText.f k (([a1, a2] : List ByteArray))).bind fun t379 => (impl_LineFind.j0 k l0 a1 a2 a3 t379)) = some r := by rw [if_neg (show ¬ (false = true) by decide)] at H; exact H
      clear H; have H := H1; clear H1; obtain ⟨y376, hy376⟩ : ∃ y_ : List ByteArray, y_ = (([a1, a2] : List ByteArray)) := ⟨_, rfl⟩
      replace H : ((impl_longText.f k y376).bind fun t379 => (impl_LineFind.j0 k l0 a1 a2 a3 t379)) = some r := by first | (rw [hy376]; with_reducible exact H) | (have H2_ := (Option.bind_some _ _).symm.trans H; rw [hy376]; with_reducible exact H2_) | (have H2_ := (Option.bind_some _ _).symm.trans H; with_reducible exact H2_) | with_reducible exact H | (rw [hy376]; exact H) | exact H
      have Ny376 := Aside0.mk hy376; clear hy376; replace H := Option.bind_eq_some_iff.mp H; obtain ⟨t379, A80, H⟩ := H; replace H : (impl_LineFind.j0 k l0 a1 a2 a3 t379) = some r := H; have A8 := Aside0.mk A80; clear A80; have H' := Aside0.mk H; clear H
      go_wp2_with (first | ((with_reducible refine gate_dst (N := 15) rfl ?_); (try (refine gate_guard (by rfl) ?_; dsimp only)); refine Kd.R_lit Kd.string _ 9 ?hg (N := 15) ?hd (xs := ([a1, a2] : List ByteArray)) (inner := [.string a1, .string a2]) (ok := fun _ => True) (okp := fun _ => True) ?hr ?hp (fun _ hk => hk) trivial (Below.refl _ _) (Nat.le_refl _) (by simp) ?_; (case hd => rfl); (case hg => rfl); (case hr => first | (go_simp; done) | (go_simp; rfl)); (case hp => exact (Reps.one (show Kd.M Kd.string _ _ _ a1 [.string a1] from rfl) (Reps.one (show Kd.M Kd.string _ _ _ a2 [.string a2] from rfl) (Reps.none _ _)))); intro v377 w9 ho10 hb hg_ hnew_; clear hg_ hnew_; (first | rw [← Ny376.out] at ho10 | (simp only [Int.reduceToNat] at ho10; rw [← Ny376.out] at ho10)); have HO378 := Aside0.mk (Kd.R_lower ho10 (below_size (bs HB))); replace HB := Aside0.mk (below_step (bs HB) hb); clear hb ho10; obtain ⟨Ao11, co11, eo11⟩ := Kd.R_slice HO378.out; subst eo11) | (go_at_call 85; (with_reducible refine (impl_longText.calls k _ _ y376 t379 _ ?side1 ?side2 A8.out).mono ?_); (case side1 => repeat (first | exact (Kd.R_reads' HO378.out).2.2 | (with_reducible refine Kd.C_alloc ?_ _) | (with_reducible refine Kd.C_drewN ?_ _) | (with_reducible refine Kd.C_drew ?_))); (case side2 => exact (Kd.R_reads' HO378.out).2.1); rintro e w' ⟨rfl, ⟨nd, rfl⟩⟩))
      go_meet
      case rel => exact ⟨_, (t379), fg, H', ⟨fl⟩, ⟨bs HB⟩⟩
  case rest =>
    clear HC5
    try clear p2
    try clear c3
    try clear c7
    obtain ⟨kq, x9_4, rfl, HA, HJ4, HB⟩ := hcut
    cases kq with
    | zero => exact absurd HA.out (by simp [impl_LineFind.j0])
    | succ kj4 =>
      have H := HA.out; clear HA; simp only [impl_LineFind.j0] at H
      by_cases c12 : x9_4 = true
      · subst c12
        have H1 : (some 0) = some r := by rw [if_pos rfl] at H; exact H
        clear H; have H := H1; clear H1; obtain rfl := Option.some.inj H
        go_wp2
        go_ret
        exact ⟨ff, bs HB⟩
      · replace c12 := Bool.eq_false_iff.mpr c12; subst c12
        have H1 : ((impl_LinesRight.f kj4 l0).bind fun t380 => (if t380 = true then ((impl_lineAt.f l0 a1 a2 a3).bind fun t381 => (some t381)) else (some (-1)))) = some r := by rw [if_neg (show ¬ (false = true) by decide)] at H; exact H
        clear H; have H := H1; clear H1; replace H := Option.bind_eq_some_iff.mp H; obtain ⟨t380, A130, H⟩ := H; replace H : (if t380 = true then ((impl_lineAt.f l0 a1 a2 a3).bind fun t381 => (some t381)) else (some (-1))) = some r := H; have A13 := Aside0.mk A130; clear A130
        try go_wp2_with (fail)
        go_at_call 36; (with_reducible refine (impl_LinesRight.calls kj4 _ _ l0 t380 _ (Kd.C_below HR0.out (bs HB)) HC0.out A13.out).mono ?_); rintro e w14 ⟨rfl, hb⟩; replace HB := Aside0.mk (below_step (bs HB) hb); (try clear hb); (try clear hb2); (try clear hk); (try clear hi)
        by_cases c15 : t380 = true
        · subst c15
          have H1 : ((impl_lineAt.f l0 a1 a2 a3).bind fun t381 => (some t381)) = some r := by rw [if_pos rfl] at H; exact H
          clear H; have H := H1; clear H1; replace H := Option.bind_eq_some_iff.mp H; obtain ⟨t381, A160, H⟩ := H; replace H : (some t381) = some r := H; have A16 := Aside0.mk A160; clear A160; obtain rfl := Option.some.inj H
          go_wp2_with (first | ((first | ((with_reducible refine gate_callee (f := 102) rfl ?_); refine goesL_ (some 26) rfl rfl Try.func102 (by kernel_rfl) rfl #[.slice A0 l0.length c0, .string a1, .string a2, .int .i64 a3] rfl (by (try simp only [List.map_toArray, List.map_cons, List.map_nil]); first | done | rfl | (simp only [List.length_drop, List.length_take]; rfl)) ?_; (with_reducible refine (impl_lineAt.calls _ _ l0 a1 a2 a3 t381 _ (Kd.C_below HR0.out (bs HB)) HC0.out A16.out).mono ?_); rintro e w17 ⟨rfl, hb⟩; refine ⟨_, rfl, ?_⟩) | (go_at_call 102; (with_reducible refine (impl_lineAt.calls _ _ l0 a1 a2 a3 t381 _ (Kd.C_below HR0.out (bs HB)) HC0.out A16.out).mono ?_); rintro e w17 ⟨rfl, hb⟩)); replace HB := Aside0.mk (below_step (bs HB) hb); (try clear hb); (try clear hb2); (try clear hk); (try clear hi)))
          go_ret
          exact ⟨ff, bs HB⟩
        · replace c15 := Bool.eq_false_iff.mpr c15; subst c15
          have H1 : (some (-1)) = some r := by rw [if_neg (show ¬ (false = true) by decide)] at H; exact H
          clear H; have H := H1; clear H1; obtain rfl := Option.some.inj H
          go_wp2
          go_ret
          exact ⟨ff, bs HB⟩
end Go.Proofs.Ytefmkmhjbfpelaa.QP

/- A name: the program's reading of it and the reference's are one. -/
import Derived.Test.YtpfdfbomlffhcaaQAd0
import Derived.Test.YtpfdfbomlffhcaaEv
namespace Go.Proofs.Ytpfdfbomlffhcaa.QA
open Go.RowKit Go.Proofs.YtpfdfbomlffhcaaW.PrintWords Go.Proofs.Ytpfdfbomlffhcaa.Ev0

theorem within_ev (a b c : Int) : impl_within.f a b c = some (B (b ≤ a ∧ a ≤ c)) := by
  unfold impl_within.f
  by_cases h : b ≤ a
  · rw [if_pos h, decide_B]
    exact congrArg some (B_congr ⟨fun x => ⟨h, x⟩, fun x => x.2⟩)
  · rw [if_neg h, B_false (fun x => h x.1)]
theorem isGreat_ev (c : Int) : impl_isGreat.f c = some (B (65 ≤ c ∧ c ≤ 90)) := by
  unfold impl_isGreat.f
  by_cases h : c ≥ 65
  · rw [if_pos h, decide_B]
    exact congrArg some (B_congr ⟨fun x => ⟨h, x⟩, fun x => x.2⟩)
  · rw [if_neg h, B_false (fun x => h x.1)]
theorem isDigit_ev (c : Int) : impl_isDigit.f c = some (B (48 ≤ c ∧ c ≤ 57)) := by
  unfold impl_isDigit.f
  by_cases h : c ≥ 48
  · rw [if_pos h, decide_B]
    exact congrArg some (B_congr ⟨fun x => ⟨h, x⟩, fun x => x.2⟩)
  · rw [if_neg h, B_false (fun x => h x.1)]
theorem isQty_ev (n : Int) : impl_isQty.f n = some (B (1 ≤ n ∧ n ≤ 1000000)) := by
  unfold impl_isQty.f
  rw [within_ev]
  rfl
theorem l01Qty_ev (n : Int) : spec_l01Qty.f n = some (B (1 ≤ n ∧ n ≤ 1000000)) := by
  unfold spec_l01Qty.f
  by_cases h : n ≥ 1
  · rw [if_pos h, decide_B]
    exact congrArg some (B_congr ⟨fun x => ⟨h, x⟩, fun x => x.2⟩)
  · rw [if_neg h, B_false (fun x => h x.1)]

/-- A byte that may stand in a name behind its first. -/
def okc (c : Int) : Prop := (65 ≤ c ∧ c ≤ 90) ∨ (48 ≤ c ∧ c ≤ 57) ∨ c = 45
def NameP (s : ByteArray) : Prop := 1 ≤ (s.size : Int) ∧ (s.size : Int) ≤ 12 ∧ (65 ≤ bt s 0 ∧ bt s 0 ≤ 90) ∧ ∀ j : Int, 0 ≤ j → j < s.size → okc (bt s j)
noncomputable def nameB (s : ByteArray) : Bool := B (NameP s)

theorem specName_l (s : ByteArray) (hs : (s.size : Int) ≤ 9223372036854775807) (d : Nat) : ∀ i : Int, 0 ≤ i → (s.size : Int) - i ≤ d → Evt (fun k => spec_l01Name.l0 k s i) (B (∀ j : Int, i ≤ j → j < s.size → okc (bt s j))) := by
  induction d with
  | zero =>
    intro i h0 hd
    apply Evt.succ
    simp only [spec_l01Name.l0]
    refine Evt.neg (by omega) ((Evt.pure true).same (B_true ?_).symm)
    intro j h1 h2
    omega
  | succ d ih =>
    intro i h0 hd
    apply Evt.succ
    simp only [spec_l01Name.l0]
    by_cases hlt : i < (s.size : Int)
    · refine Evt.pos hlt (Evt.pos h0 ?_)
      have hw : wrap64 (i + 1) = i + 1 := w64 (by omega) (by omega)
      rw [hw]
      have yes : okc (bt s i) → Evt (fun k => spec_l01Name.l0 k s (i + 1)) (B (∀ j : Int, i ≤ j → j < s.size → okc (bt s j))) := fun hc =>
        (ih (i + 1) (by omega) (by omega)).same (B_congr ⟨fun h j h1 h2 => by
          by_cases e : j = i
          · rw [e]; exact hc
          · exact h j (by omega) h2, fun h j h1 h2 => h j (by omega) h2⟩)
      have no : ¬ okc (bt s i) → Evt (fun _ => some false) (B (∀ j : Int, i ≤ j → j < s.size → okc (bt s j))) := fun hc =>
        (Evt.pure false).same (B_false (fun h => hc (h i (Int.le_refl _) hlt))).symm
      have digit : Evt (fun k => if bt s i ≥ 48 then (if bt s i ≤ 57 then spec_l01Name.l0 k s (i + 1) else (if bt s i = 45 then spec_l01Name.l0 k s (i + 1) else some false)) else (if bt s i = 45 then spec_l01Name.l0 k s (i + 1) else some false)) (B (∀ j : Int, i ≤ j → j < s.size → okc (bt s j))) ∨ (65 ≤ bt s i ∧ bt s i ≤ 90) := by
        by_cases hg : 65 ≤ bt s i ∧ bt s i ≤ 90
        · exact .inr hg
        · refine .inl (Evt.ite (fun h1 => Evt.ite (fun h2 => yes (.inr (.inl ⟨h1, h2⟩))) (fun h2 => Evt.ite (fun h3 => yes (.inr (.inr h3))) (fun h3 => no (fun hk => ?_)))) (fun h1 => Evt.ite (fun h3 => yes (.inr (.inr h3))) (fun h3 => no (fun hk => ?_))))
          · rcases hk with hk | hk | hk
            · exact hg hk
            · omega
            · exact h3 hk
          · rcases hk with hk | hk | hk
            · exact hg hk
            · omega
            · exact h3 hk
      refine Evt.ite (fun h1 => Evt.ite (fun h2 => yes (.inl ⟨h1, h2⟩)) (fun h2 => ?_)) (fun h1 => ?_)
      · exact digit.resolve_right (fun h => h2 h.2)
      · exact digit.resolve_right (fun h => h1 h.1)
    · refine Evt.neg hlt ((Evt.pure true).same (B_true ?_).symm)
      intro j h1 h2
      omega

theorem specName_ev (s : ByteArray) (hs : (s.size : Int) ≤ 9223372036854775807) : Evt (fun k => spec_l01Name.f k s) (nameB s) := by
  unfold spec_l01Name.f
  have bad : ¬ NameP s → Evt (fun k => spec_l01Name.j0 k s true) (nameB s) := fun h => by
    apply Evt.succ
    simp only [spec_l01Name.j0]
    exact (Evt.pure false).same (B_false h).symm
  refine Evt.ite (fun h => bad (fun hn => by have := hn.1; omega)) (fun h1 => Evt.ite (fun h => bad (fun hn => by have := hn.2.1; omega)) (fun h2 => Evt.pos (by omega) (Evt.ite (fun h => bad (fun hn => by have := hn.2.2.1.1; omega)) (fun h3 => ?_))))
  by_cases h4 : bt s 0 > 90
  · rw [decide_eq_true h4]
    exact bad (fun hn => by have := hn.2.2.1.2; omega)
  · rw [decide_eq_false h4]
    apply Evt.succ
    simp only [spec_l01Name.j0]
    refine (specName_l s hs s.size 0 (Int.le_refl _) (by omega)).same (B_congr ⟨fun h => ⟨by omega, by omega, ⟨by omega, by omega⟩, h⟩, fun h => h.2.2.2⟩)

theorem implName_l (s : ByteArray) (hs : (s.size : Int) ≤ 9223372036854775807) (d : Nat) : ∀ i : Int, 0 ≤ i → (s.size : Int) - i ≤ d →
    Evt (fun k => impl_isName.l0 k s (s.size : Int) i) (B ((∀ j : Int, i ≤ j → j < s.size → (65 ≤ bt s j ∧ bt s j ≤ 90) ∨ (j ≠ 0 ∧ okc (bt s j))) ∧ 1 ≤ (s.size : Int) ∧ (s.size : Int) ≤ 12)) := by
  induction d with
  | zero =>
    intro i h0 hd
    apply Evt.succ
    simp only [impl_isName.l0]
    refine Evt.neg (by omega) (Evt.const ?_)
    rw [within_ev]
    exact congrArg some (B_congr ⟨fun h => ⟨fun j h1 h2 => by omega, h⟩, fun h => h.2⟩)
  | succ d ih =>
    intro i h0 hd
    apply Evt.succ
    simp only [impl_isName.l0]
    by_cases hlt : i < (s.size : Int)
    · refine Evt.pos hlt (Evt.pos h0 (Evt.pos hlt ?_))
      have hw : wrap64 (i + 1) = i + 1 := w64 (by omega) (by omega)
      rw [hw, isGreat_ev, isDigit_ev]
      have yes : ((65 ≤ bt s i ∧ bt s i ≤ 90) ∨ (i ≠ 0 ∧ okc (bt s i))) → Evt (fun k => impl_isName.l0 k s (s.size : Int) (i + 1)) (B ((∀ j : Int, i ≤ j → j < s.size → (65 ≤ bt s j ∧ bt s j ≤ 90) ∨ (j ≠ 0 ∧ okc (bt s j))) ∧ 1 ≤ (s.size : Int) ∧ (s.size : Int) ≤ 12)) := fun hc =>
        (ih (i + 1) (by omega) (by omega)).same (B_congr ⟨fun h => ⟨fun j h1 h2 => by
          by_cases e : j = i
          · rw [e]; exact hc
          · exact h.1 j (by omega) h2, h.2⟩, fun h => ⟨fun j h1 h2 => h.1 j (by omega) h2, h.2⟩⟩)
      have no : ¬ ((65 ≤ bt s i ∧ bt s i ≤ 90) ∨ (i ≠ 0 ∧ okc (bt s i))) → Evt (fun _ => some false) (B ((∀ j : Int, i ≤ j → j < s.size → (65 ≤ bt s j ∧ bt s j ≤ 90) ∨ (j ≠ 0 ∧ okc (bt s j))) ∧ 1 ≤ (s.size : Int) ∧ (s.size : Int) ≤ 12)) := fun hc =>
        (Evt.pure false).same (B_false (fun h => hc (h.1 i (Int.le_refl _) hlt))).symm
      simp only [Option.bind_some]
      refine Evt.ite (fun h1 => yes (.inl (B_iff.1 h1))) (fun h1 => ?_)
      have g1 : ¬ (65 ≤ bt s i ∧ bt s i ≤ 90) := fun h => h1 (B_iff.2 h)
      refine Evt.ite (fun h2 => no (fun h => h.elim g1 (fun h => h.1 h2))) (fun h2 => Evt.ite (fun h3 => yes (.inr ⟨h2, .inr (.inl (B_iff.1 h3))⟩)) (fun h3 => Evt.ite (fun h4 => yes (.inr ⟨h2, .inr (.inr h4)⟩)) (fun h4 => no (fun h => ?_))))
      rcases h with h | ⟨_, h | h | h⟩
      · exact g1 h
      · exact g1 h
      · exact h3 (B_iff.2 h)
      · exact h4 h
    · refine Evt.neg hlt (Evt.const ?_)
      rw [within_ev]
      exact congrArg some (B_congr ⟨fun h => ⟨fun j h1 h2 => by omega, h⟩, fun h => h.2⟩)

theorem implName_ev (s : ByteArray) (hs : (s.size : Int) ≤ 9223372036854775807) : Evt (fun k => impl_isName.f k s) (nameB s) := by
  unfold impl_isName.f
  refine (implName_l s hs s.size 0 (Int.le_refl _) (by omega)).same (B_congr ⟨fun h => ⟨h.2.1, h.2.2, ?_, ?_⟩, fun h => ⟨?_, h.1, h.2.1⟩⟩)
  · rcases h.1 0 (Int.le_refl _) (by omega) with h | h
    · exact h
    · exact absurd rfl h.1
  · intro j h1 h2
    rcases h.1 j h1 h2 with h | h
    · exact .inl h
    · exact h.2
  · intro j h1 h2
    by_cases e : j = 0
    · rw [e]; exact .inl h.2.2.1
    · exact .inr ⟨e, h.2.2.2 j h1 h2⟩

end Go.Proofs.Ytpfdfbomlffhcaa.QA

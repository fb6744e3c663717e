-- Merged by a program of this session (wip/tool/pack.py) out of its own texts for this claim.
import Derived.Test.YtjjfjgdhloideaaKFnExactGateNew0
import Derived.Test.YtjjfjgdhloideaaKFnExactGateNew2
import Derived.Test.YtjjfjgdhloideaaKFnExactGateNew11
namespace Go.Proofs.Ytjjfjgdhloideaa.Ev0
open Go.RowKit Go.Proofs.YtjjfjgdhloideaaW.PrintWords
def Evt {α : Type} (f : Nat → Option α) (r : α) : Prop := ∃ K, ∀ k, K ≤ k → f k = some r
namespace Evt
variable {α β : Type}
theorem const {o : Option α} {r : α} (h : o = some r) : Evt (fun _ => o) r := ⟨0, fun _ _ => h⟩
theorem pure (r : α) : Evt (fun _ => some r) r := ⟨0, fun _ _ => rfl⟩
theorem bind {f : Nat → Option α} {g : Nat → α → Option β} {a : α} {r : β} (h : Evt f a) (h2 : Evt (fun k => g k a) r) : Evt (fun k => (f k).bind (g k)) r := by
  obtain ⟨K, hK⟩ := h
  obtain ⟨L, hL⟩ := h2
  refine ⟨K + L, fun k hk => ?_⟩
  show (f k).bind (g k) = some r
  rw [hK k (by omega)]
  exact hL k (by omega)
theorem succ {f : Nat → Option α} {r : α} (h : Evt (fun k => f (k + 1)) r) : Evt f r := by
  obtain ⟨K, hK⟩ := h
  refine ⟨K + 1, fun k hk => ?_⟩
  obtain ⟨m, rfl⟩ : ∃ m, k = m + 1 := ⟨k - 1, by omega⟩
  exact hK m (by omega)
theorem pos {c : Prop} [Decidable c] {f g : Nat → Option α} {r : α} (hc : c) (h : Evt f r) : Evt (fun k => if c then f k else g k) r := by
  simpa only [if_pos hc] using h
theorem neg {c : Prop} [Decidable c] {f g : Nat → Option α} {r : α} (hc : ¬ c) (h : Evt g r) : Evt (fun k => if c then f k else g k) r := by
  simpa only [if_neg hc] using h
theorem ite {c : Prop} [Decidable c] {f g : Nat → Option α} {r : α} (h1 : c → Evt f r) (h2 : ¬ c → Evt g r) : Evt (fun k => if c then f k else g k) r := by
  by_cases hc : c
  · exact pos hc (h1 hc)
  · exact neg hc (h2 hc)
theorem ex {f : Nat → Option α} {r : α} (h : Evt f r) : ∃ k, f k = some r := by
  obtain ⟨K, hK⟩ := h
  exact ⟨K, hK K (Nat.le_refl _)⟩
theorem same {f : Nat → Option α} {r r' : α} (h : Evt f r) (e : r = r') : Evt f r' := e ▸ h
end Evt
theorem w64 {x : Int} (h0 : -9223372036854775808 ≤ x) (h1 : x ≤ 9223372036854775807) : wrap64 x = x := by
  unfold wrap64
  omega
noncomputable def B (p : Prop) : Bool := @decide p (Classical.propDecidable p)
theorem B_true {p : Prop} (h : p) : B p = true := by unfold B; exact @decide_eq_true p (Classical.propDecidable p) h
theorem B_false {p : Prop} (h : ¬ p) : B p = false := by unfold B; exact @decide_eq_false p (Classical.propDecidable p) h
theorem B_iff {p : Prop} : B p = true ↔ p := by unfold B; exact @decide_eq_true_iff p (Classical.propDecidable p)
theorem B_congr {p q : Prop} (h : p ↔ q) : B p = B q := by rw [propext h]
theorem decide_B (p : Prop) [Decidable p] : decide p = B p := by
  by_cases h : p
  · rw [decide_eq_true h, B_true h]
  · rw [decide_eq_false h, B_false h]
end Go.Proofs.Ytjjfjgdhloideaa.Ev0
namespace Go.Proofs.Ytjjfjgdhloideaa.QG
open Go.RowKit Go.Proofs.YtjjfjgdhloideaaW.PrintWords Go.Proofs.Ytjjfjgdhloideaa.Ev0
theorem within_ev (a b c : Int) : impl_within.f a b c = some (B (b ≤ a ∧ a ≤ c)) := by
  unfold impl_within.f
  by_cases h : b ≤ a
  · rw [if_pos h, decide_B]
    exact congrArg some (B_congr ⟨fun x => ⟨h, x⟩, fun x => x.2⟩)
  · rw [if_neg h, B_false (fun x => h x.1)]
theorem isGreat_ev (c : Int) : impl_isGreat.f c = some (B (65 ≤ c ∧ c ≤ 90)) := by
  unfold impl_isGreat.f
  by_cases h : c ≥ 65
  · rw [if_pos h, decide_B]
    exact congrArg some (B_congr ⟨fun x => ⟨h, x⟩, fun x => x.2⟩)
  · rw [if_neg h, B_false (fun x => h x.1)]
theorem isDigit_ev (c : Int) : impl_isDigit.f c = some (B (48 ≤ c ∧ c ≤ 57)) := by
  unfold impl_isDigit.f
  by_cases h : c ≥ 48
  · rw [if_pos h, decide_B]
    exact congrArg some (B_congr ⟨fun x => ⟨h, x⟩, fun x => x.2⟩)
  · rw [if_neg h, B_false (fun x => h x.1)]
def okc (c : Int) : Prop := (65 ≤ c ∧ c ≤ 90) ∨ (48 ≤ c ∧ c ≤ 57) ∨ c = 45
def NameP (s : ByteArray) : Prop := 1 ≤ (s.size : Int) ∧ (s.size : Int) ≤ 12 ∧ (65 ≤ bt s 0 ∧ bt s 0 ≤ 90) ∧ ∀ j : Int, 0 ≤ j → j < s.size → okc (bt s j)
noncomputable def nameB (s : ByteArray) : Bool := B (NameP s)
theorem specName_l (s : ByteArray) (hs : (s.size : Int) ≤ 9223372036854775807) (d : Nat) : ∀ i : Int, 0 ≤ i → (s.size : Int) - i ≤ d → Evt (fun k => spec_l01Name.l0 k s i) (B (∀ j : Int, i ≤ j → j < s.size → okc (bt s j))) := by
  induction d with
  | zero =>
    intro i h0 hd
    apply Evt.succ
    simp only [spec_l01Name.l0]
    refine Evt.neg (by omega) ((Evt.pure true).same (B_true ?_).symm)
    intro j h1 h2
    omega
  | succ d ih =>
    intro i h0 hd
    apply Evt.succ
    simp only [spec_l01Name.l0]
    by_cases hlt : i < (s.size : Int)
    · refine Evt.pos hlt (Evt.pos h0 ?_)
      have hw : wrap64 (i + 1) = i + 1 := w64 (by omega) (by omega)
      rw [hw]
      have yes : okc (bt s i) → Evt (fun k => spec_l01Name.l0 k s (i + 1)) (B (∀ j : Int, i ≤ j → j < s.size → okc (bt s j))) := fun hc =>
        (ih (i + 1) (by omega) (by omega)).same (B_congr ⟨fun h j h1 h2 => by
          by_cases e : j = i
          · rw [e]; exact hc
          · exact h j (by omega) h2, fun h j h1 h2 => h j (by omega) h2⟩)
      have no : ¬ okc (bt s i) → Evt (fun _ => some false) (B (∀ j : Int, i ≤ j → j < s.size → okc (bt s j))) := fun hc =>
        (Evt.pure false).same (B_false (fun h => hc (h i (Int.le_refl _) hlt))).symm
      have digit : Evt (fun k => if bt s i ≥ 48 then (if bt s i ≤ 57 then spec_l01Name.l0 k s (i + 1) else (if bt s i = 45 then spec_l01Name.l0 k s (i + 1) else some false)) else (if bt s i = 45 then spec_l01Name.l0 k s (i + 1) else some false)) (B (∀ j : Int, i ≤ j → j < s.size → okc (bt s j))) ∨ (65 ≤ bt s i ∧ bt s i ≤ 90) := by
        by_cases hg : 65 ≤ bt s i ∧ bt s i ≤ 90
        · exact .inr hg
        · refine .inl (Evt.ite (fun h1 => Evt.ite (fun h2 => yes (.inr (.inl ⟨h1, h2⟩))) (fun h2 => Evt.ite (fun h3 => yes (.inr (.inr h3))) (fun h3 => no (fun hk => ?_)))) (fun h1 => Evt.ite (fun h3 => yes (.inr (.inr h3))) (fun h3 => no (fun hk => ?_))))
          · rcases hk with hk | hk | hk
            · exact hg hk
            · omega
            · exact h3 hk
          · rcases hk with hk | hk | hk
            · exact hg hk
            · omega
            · exact h3 hk
      refine Evt.ite (fun h1 => Evt.ite (fun h2 => yes (.inl ⟨h1, h2⟩)) (fun h2 => ?_)) (fun h1 => ?_)
      · exact digit.resolve_right (fun h => h2 h.2)
      · exact digit.resolve_right (fun h => h1 h.1)
    · refine Evt.neg hlt ((Evt.pure true).same (B_true ?_).symm)
      intro j h1 h2
      omega
theorem specName_ev (s : ByteArray) (hs : (s.size : Int) ≤ 9223372036854775807) : Evt (fun k => spec_l01Name.f k s) (nameB s) := by
  unfold spec_l01Name.f
  have bad : ¬ NameP s → Evt (fun k => spec_l01Name.j0 k s true) (nameB s) := fun h => by
    apply Evt.succ
    simp only [spec_l01Name.j0]
    exact (Evt.pure false).same (B_false h).symm
  refine Evt.ite (fun h => bad (fun hn => by have := hn.1; omega)) (fun h1 => Evt.ite (fun h => bad (fun hn => by have := hn.2.1; omega)) (fun h2 => Evt.pos (by omega) (Evt.ite (fun h => bad (fun hn => by have := hn.2.2.1.1; omega)) (fun h3 => ?_))))
  by_cases h4 : bt s 0 > 90
  · rw [decide_eq_true h4]
    exact bad (fun hn => by have := hn.2.2.1.2; omega)
  · rw [decide_eq_false h4]
    apply Evt.succ
    simp only [spec_l01Name.j0]
    refine (specName_l s hs s.size 0 (Int.le_refl _) (by omega)).same (B_congr ⟨fun h => ⟨by omega, by omega, ⟨by omega, by omega⟩, h⟩, fun h => h.2.2.2⟩)
theorem implName_l (s : ByteArray) (hs : (s.size : Int) ≤ 9223372036854775807) (d : Nat) : ∀ i : Int, 0 ≤ i → (s.size : Int) - i ≤ d →
    Evt (fun k => impl_isName.l0 k s (s.size : Int) i) (B ((∀ j : Int, i ≤ j → j < s.size → (65 ≤ bt s j ∧ bt s j ≤ 90) ∨ (j ≠ 0 ∧ okc (bt s j))) ∧ 1 ≤ (s.size : Int) ∧ (s.size : Int) ≤ 12)) := by
  induction d with
  | zero =>
    intro i h0 hd
    apply Evt.succ
    simp only [impl_isName.l0]
    refine Evt.neg (by omega) (Evt.const ?_)
    rw [within_ev]
    exact congrArg some (B_congr ⟨fun h => ⟨fun j h1 h2 => by omega, h⟩, fun h => h.2⟩)
  | succ d ih =>
    intro i h0 hd
    apply Evt.succ
    simp only [impl_isName.l0]
    by_cases hlt : i < (s.size : Int)
    · refine Evt.pos hlt (Evt.pos h0 (Evt.pos hlt ?_))
      have hw : wrap64 (i + 1) = i + 1 := w64 (by omega) (by omega)
      rw [hw, isGreat_ev, isDigit_ev]
      have yes : ((65 ≤ bt s i ∧ bt s i ≤ 90) ∨ (i ≠ 0 ∧ okc (bt s i))) → Evt (fun k => impl_isName.l0 k s (s.size : Int) (i + 1)) (B ((∀ j : Int, i ≤ j → j < s.size → (65 ≤ bt s j ∧ bt s j ≤ 90) ∨ (j ≠ 0 ∧ okc (bt s j))) ∧ 1 ≤ (s.size : Int) ∧ (s.size : Int) ≤ 12)) := fun hc =>
        (ih (i + 1) (by omega) (by omega)).same (B_congr ⟨fun h => ⟨fun j h1 h2 => by
          by_cases e : j = i
          · rw [e]; exact hc
          · exact h.1 j (by omega) h2, h.2⟩, fun h => ⟨fun j h1 h2 => h.1 j (by omega) h2, h.2⟩⟩)
      have no : ¬ ((65 ≤ bt s i ∧ bt s i ≤ 90) ∨ (i ≠ 0 ∧ okc (bt s i))) → Evt (fun _ => some false) (B ((∀ j : Int, i ≤ j → j < s.size → (65 ≤ bt s j ∧ bt s j ≤ 90) ∨ (j ≠ 0 ∧ okc (bt s j))) ∧ 1 ≤ (s.size : Int) ∧ (s.size : Int) ≤ 12)) := fun hc =>
        (Evt.pure false).same (B_false (fun h => hc (h.1 i (Int.le_refl _) hlt))).symm
      simp only [Option.bind_some]
      refine Evt.ite (fun h1 => yes (.inl (B_iff.1 h1))) (fun h1 => ?_)
      have g1 : ¬ (65 ≤ bt s i ∧ bt s i ≤ 90) := fun h => h1 (B_iff.2 h)
      refine Evt.ite (fun h2 => no (fun h => h.elim g1 (fun h => h.1 h2))) (fun h2 => Evt.ite (fun h3 => yes (.inr ⟨h2, .inr (.inl (B_iff.1 h3))⟩)) (fun h3 => Evt.ite (fun h4 => yes (.inr ⟨h2, .inr (.inr h4)⟩)) (fun h4 => no (fun h => ?_))))
      rcases h with h | ⟨_, h | h | h⟩
      · exact g1 h
      · exact g1 h
      · exact h3 (B_iff.2 h)
      · exact h4 h
    · refine Evt.neg hlt (Evt.const ?_)
      rw [within_ev]
      exact congrArg some (B_congr ⟨fun h => ⟨fun j h1 h2 => by omega, h⟩, fun h => h.2⟩)
theorem implName_ev (s : ByteArray) (hs : (s.size : Int) ≤ 9223372036854775807) : Evt (fun k => impl_isName.f k s) (nameB s) := by
  unfold impl_isName.f
  refine (implName_l s hs s.size 0 (Int.le_refl _) (by omega)).same (B_congr ⟨fun h => ⟨h.2.1, h.2.2, ?_, ?_⟩, fun h => ⟨?_, h.1, h.2.1⟩⟩)
  · rcases h.1 0 (Int.le_refl _) (by omega) with h | h
    · exact h
    · exact absurd rfl h.1
  · intro j h1 h2
    rcases h.1 j h1 h2 with h | h
    · exact .inl h
    · exact h.2
  · intro j h1 h2
    by_cases e : j = 0
    · rw [e]; exact .inl h.2.2.1
    · exact .inr ⟨e, h.2.2.2 j h1 h2⟩
end Go.Proofs.Ytjjfjgdhloideaa.QG
namespace Go.Proofs.Ytjjfjgdhloideaa.Pure
open Go.RowKit Go.Proofs.Ytjjfjgdhloideaa Go.Proofs.Ytjjfjgdhloideaa.QG Go.Proofs.YtjjfjgdhloideaaW.PrintWords Go.Proofs.Ytjjfjgdhloideaa.Ev0
theorem eqPartnerS0 : Evt (fun k => laws_eqPartnerS.f k [] []) true := by
  unfold laws_eqPartnerS.f
  refine Evt.pos rfl (Evt.succ ?_)
  simp only [laws_eqPartnerS.l0]
  exact Evt.neg (by simp) (Evt.pure _)
theorem eqCrossS0 : Evt (fun k => laws_eqCrossS.f k [] []) true := by
  unfold laws_eqCrossS.f
  refine Evt.pos rfl (Evt.succ ?_)
  simp only [laws_eqCrossS.l0]
  exact Evt.neg (by simp) (Evt.pure _)
theorem eqStockS0 : Evt (fun k => laws_eqStockS.f k [] []) true := by
  unfold laws_eqStockS.f
  refine Evt.pos rfl (Evt.succ ?_)
  simp only [laws_eqStockS.l0]
  exact Evt.neg (by simp) (Evt.pure _)
theorem eqOrderLineS0 : Evt (fun k => laws_eqOrderLineS.f k [] []) true := by
  unfold laws_eqOrderLineS.f
  refine Evt.pos rfl (Evt.succ ?_)
  simp only [laws_eqOrderLineS.l0]
  exact Evt.neg (by simp) (Evt.pure _)
theorem eqDiffS0 : Evt (fun k => laws_eqDiffS.f k [] []) true := by
  unfold laws_eqDiffS.f
  refine Evt.pos rfl (Evt.succ ?_)
  simp only [laws_eqDiffS.l0]
  exact Evt.neg (by simp) (Evt.pure _)
theorem eqOutS0 : Evt (fun k => laws_eqOutS.f k [] []) true := by
  unfold laws_eqOutS.f
  refine Evt.pos rfl (Evt.succ ?_)
  simp only [laws_eqOutS.l0]
  exact Evt.neg (by simp) (Evt.pure _)
theorem heldPartnerS0 (a : Int) : Evt (fun k => laws_heldPartnerS.f k [] a) a := by
  unfold laws_heldPartnerS.f
  apply Evt.succ
  simp only [laws_heldPartnerS.l0]
  exact Evt.neg (by simp) (Evt.pure _)
theorem heldCrossS0 (a : Int) : Evt (fun k => laws_heldCrossS.f k [] a) a := by
  unfold laws_heldCrossS.f
  apply Evt.succ
  simp only [laws_heldCrossS.l0]
  exact Evt.neg (by simp) (Evt.pure _)
theorem heldStockS0 (a : Int) : Evt (fun k => laws_heldStockS.f k [] a) a := by
  unfold laws_heldStockS.f
  apply Evt.succ
  simp only [laws_heldStockS.l0]
  exact Evt.neg (by simp) (Evt.pure _)
theorem heldOrderLineS0 (a : Int) : Evt (fun k => laws_heldOrderLineS.f k [] a) a := by
  unfold laws_heldOrderLineS.f
  apply Evt.succ
  simp only [laws_heldOrderLineS.l0]
  exact Evt.neg (by simp) (Evt.pure _)
theorem heldDiffS0 (a : Int) : Evt (fun k => laws_heldDiffS.f k [] a) a := by
  unfold laws_heldDiffS.f
  apply Evt.succ
  simp only [laws_heldDiffS.l0]
  exact Evt.neg (by simp) (Evt.pure _)
theorem heldOutS0 (a : Int) : Evt (fun k => laws_heldOutS.f k [] a) a := by
  unfold laws_heldOutS.f
  apply Evt.succ
  simp only [laws_heldOutS.l0]
  exact Evt.neg (by simp) (Evt.pure _)
theorem eqGate0 (n : ByteArray) (d : Int) : Evt (fun k => laws_eqGate.f k n d [] [] [] [] [] [] n d [] [] [] [] [] []) true := by
  unfold laws_eqGate.f laws_eqBook.f
  exact Evt.pos rfl (Evt.pos rfl (Evt.bind eqPartnerS0 (Evt.pos rfl (Evt.bind eqCrossS0 (Evt.pos rfl (Evt.bind (Evt.bind eqStockS0 (Evt.pos rfl (Evt.bind eqOrderLineS0 (Evt.pos rfl (Evt.pure true))))) (Evt.pos rfl (Evt.bind eqDiffS0 (Evt.pos rfl (Evt.bind eqOutS0 (Evt.pos rfl (Evt.pure true))))))))))))
theorem heldGate0 (n : ByteArray) (d : Int) : Evt (fun k => laws_heldGate.f k n d [] [] [] [] [] [] 1) 1 := by
  unfold laws_heldGate.f laws_heldBook.f
  exact Evt.bind (heldPartnerS0 1) (Evt.neg (by decide) (Evt.bind (heldCrossS0 1) (Evt.neg (by decide) (Evt.bind (Evt.bind (heldStockS0 1) (Evt.neg (by decide) (Evt.bind (heldOrderLineS0 1) (Evt.neg (by decide) (Evt.pure 1))))) (Evt.neg (by decide) (Evt.bind (heldDiffS0 1) (Evt.neg (by decide) (Evt.bind (heldOutS0 1) (Evt.neg (by decide) (Evt.pure 1))))))))))
noncomputable def newG (s : ByteArray) : ByteArray × Int × List S92 × List S102 × List S71 × List S73 × List S105 × List S108 :=
  if nameB s = true then (s, 0, [], [], [], [], [], []) else (⟨#[]⟩, 0, [], [], [], [], [], [])
theorem newG_form (s : ByteArray) : ∃ n, newG s = (n, 0, [], [], [], [], [], []) := by
  unfold newG
  split
  · exact ⟨_, rfl⟩
  · exact ⟨_, rfl⟩
theorem specNew_ev (s : ByteArray) (hs : (s.size : Int) ≤ 9223372036854775807) : Evt (fun k => spec_GateNew.f k s) (newG s) := by
  unfold spec_GateNew.f newG
  refine Evt.bind (specName_ev s hs) ?_
  exact Evt.ite (fun h => (Evt.pure _).same (if_pos h).symm) (fun h => (Evt.pure _).same (if_neg h).symm)
theorem implNew_ev (s : ByteArray) (hs : (s.size : Int) ≤ 9223372036854775807) : Evt (fun k => impl_GateNew.f k s) (newG s) := by
  unfold impl_GateNew.f newG
  refine Evt.bind (implName_ev s hs) ?_
  exact Evt.ite (fun h => (Evt.pure _).same (if_pos h).symm) (fun h => (Evt.pure _).same (if_neg h).symm)
theorem FnExactGateNew : laws_FnExactGateNew.Pure := by
  intro s ws
  apply Evt.ex
  unfold laws_FnExactGateNew.f
  have hs : s.size ≤ 2 ^ 63 - 1 := ws
  obtain ⟨n, hn⟩ := newG_form s
  have h1 := specNew_ev s (by omega)
  have h2 := implNew_ev s (by omega)
  rw [hn] at h1 h2
  have hm : laws_markGate.f n 0 [] [] [] [] [] [] 1 = some 1 := by
    unfold laws_markGate.f
    rw [if_pos ⟨rfl, rfl, rfl, rfl, rfl, rfl⟩]
  refine Evt.ite (fun _ => Evt.pure true) (fun _ => ?_)
  exact Evt.bind h1 (Evt.bind h2 (Evt.bind (eqGate0 n 0) (Evt.pos rfl (Evt.bind (Evt.const hm) (Evt.bind (heldGate0 n 0) (Evt.neg (by decide) (Evt.pos rfl (Evt.bind h2 (Evt.bind (eqGate0 n 0) (Evt.pos rfl (Evt.bind (heldGate0 n 0) (Evt.neg (by decide) (Evt.pos rfl (Evt.pure true))))))))))))))
end Go.Proofs.Ytjjfjgdhloideaa.Pure

/- What a printed function comes to, however many rounds it is given beyond some number; whole numbers without their wrap; yes and no by a statement. -/
import Derived.Test.YtpfdfbomlffhcaaWWords
import Derived.Test.YtpfdfbomlffhcaaBs
namespace Go.Proofs.Ytpfdfbomlffhcaa.Ev0
open Go.RowKit Go.Proofs.YtpfdfbomlffhcaaW.PrintWords

/-- From some number of rounds on, f answers r. -/
def Evt {α : Type} (f : Nat → Option α) (r : α) : Prop := ∃ K, ∀ k, K ≤ k → f k = some r
namespace Evt
variable {α β : Type}
theorem const {o : Option α} {r : α} (h : o = some r) : Evt (fun _ => o) r := ⟨0, fun _ _ => h⟩
theorem pure (r : α) : Evt (fun _ => some r) r := ⟨0, fun _ _ => rfl⟩
theorem bind {f : Nat → Option α} {g : Nat → α → Option β} {a : α} {r : β} (h : Evt f a) (h2 : Evt (fun k => g k a) r) : Evt (fun k => (f k).bind (g k)) r := by
  obtain ⟨K, hK⟩ := h
  obtain ⟨L, hL⟩ := h2
  refine ⟨K + L, fun k hk => ?_⟩
  show (f k).bind (g k) = some r
  rw [hK k (by omega)]
  exact hL k (by omega)
theorem succ {f : Nat → Option α} {r : α} (h : Evt (fun k => f (k + 1)) r) : Evt f r := by
  obtain ⟨K, hK⟩ := h
  refine ⟨K + 1, fun k hk => ?_⟩
  obtain ⟨m, rfl⟩ : ∃ m, k = m + 1 := ⟨k - 1, by omega⟩
  exact hK m (by omega)
theorem pos {c : Prop} [Decidable c] {f g : Nat → Option α} {r : α} (hc : c) (h : Evt f r) : Evt (fun k => if c then f k else g k) r := by
  simpa only [if_pos hc] using h
theorem neg {c : Prop} [Decidable c] {f g : Nat → Option α} {r : α} (hc : ¬ c) (h : Evt g r) : Evt (fun k => if c then f k else g k) r := by
  simpa only [if_neg hc] using h
theorem ite {c : Prop} [Decidable c] {f g : Nat → Option α} {r : α} (h1 : c → Evt f r) (h2 : ¬ c → Evt g r) : Evt (fun k => if c then f k else g k) r := by
  by_cases hc : c
  · exact pos hc (h1 hc)
  · exact neg hc (h2 hc)
theorem ex {f : Nat → Option α} {r : α} (h : Evt f r) : ∃ k, f k = some r := by
  obtain ⟨K, hK⟩ := h
  exact ⟨K, hK K (Nat.le_refl _)⟩
theorem same {f : Nat → Option α} {r r' : α} (h : Evt f r) (e : r = r') : Evt f r' := e ▸ h
end Evt

theorem w64 {x : Int} (h0 : -9223372036854775808 ≤ x) (h1 : x ≤ 9223372036854775807) : wrap64 x = x := by
  unfold wrap64
  omega

/-- Yes or no by a statement. -/
noncomputable def B (p : Prop) : Bool := @decide p (Classical.propDecidable p)
theorem B_true {p : Prop} (h : p) : B p = true := by unfold B; exact @decide_eq_true p (Classical.propDecidable p) h
theorem B_false {p : Prop} (h : ¬ p) : B p = false := by unfold B; exact @decide_eq_false p (Classical.propDecidable p) h
theorem B_iff {p : Prop} : B p = true ↔ p := by unfold B; exact @decide_eq_true_iff p (Classical.propDecidable p)
theorem B_iff_false {p : Prop} : B p = false ↔ ¬ p := by unfold B; exact @decide_eq_false_iff_not p (Classical.propDecidable p)
theorem B_congr {p q : Prop} (h : p ↔ q) : B p = B q := by rw [propext h]
theorem decide_B (p : Prop) [Decidable p] : decide p = B p := by
  by_cases h : p
  · rw [decide_eq_true h, B_true h]
  · rw [decide_eq_false h, B_false h]
theorem bool_B {b : Bool} {p : Prop} (h : b = true ↔ p) : b = B p := by
  cases b with
  | true => exact (B_true (h.1 rfl)).symm
  | false => exact (B_false (fun hp => by simpa using h.2 hp)).symm

/-- A chain of tests, each of which must hold. -/
theorem and_ {c p q : Prop} [Decidable c] {f : Nat → Option Bool} (hc : c ↔ p) (h : p → Evt f (B q)) : Evt (fun k => if c then f k else some false) (B (p ∧ q)) := by
  by_cases e : c
  · exact Evt.pos e ((h (hc.1 e)).same (B_congr ⟨fun x => ⟨hc.1 e, x⟩, fun x => x.2⟩))
  · exact Evt.neg e ((Evt.pure false).same (B_false (fun x => e (hc.2 x.1))).symm)
theorem or_ {c p q : Prop} [Decidable c] {f : Nat → Option Bool} (hc : c ↔ p) (h : ¬ p → Evt f (B q)) : Evt (fun k => if c then some true else f k) (B (p ∨ q)) := by
  by_cases e : c
  · exact Evt.pos e ((Evt.pure true).same (B_true (.inl (hc.1 e))).symm)
  · exact Evt.neg e ((h (fun x => e (hc.2 x))).same (B_congr ⟨fun x => .inr x, fun x => x.resolve_left (fun y => e (hc.2 y))⟩))
/-- Where a failed test ends in no. -/
theorem fail_ {c p q : Prop} [Decidable c] {f : Nat → Option Bool} (hc : c ↔ ¬ p) (h : p → Evt f (B q)) : Evt (fun k => if c then some false else f k) (B (p ∧ q)) := by
  by_cases e : c
  · exact Evt.pos e ((Evt.pure false).same (B_false (fun x => hc.1 e x.1)).symm)
  · have hp : p := Classical.not_not.1 (fun x => e (hc.2 x))
    exact Evt.neg e ((h hp).same (B_congr ⟨fun x => ⟨hp, x⟩, fun x => x.2⟩))
theorem last_ {p q : Prop} [Decidable p] (h : p ↔ q) : Evt (fun _ => some (decide p)) (B q) := (Evt.pure _).same ((decide_B p).trans (B_congr h))
theorem lastB_ {p q : Prop} (h : p ↔ q) : Evt (fun _ => some (B p)) (B q) := (Evt.pure _).same (B_congr h)

end Go.Proofs.Ytpfdfbomlffhcaa.Ev0

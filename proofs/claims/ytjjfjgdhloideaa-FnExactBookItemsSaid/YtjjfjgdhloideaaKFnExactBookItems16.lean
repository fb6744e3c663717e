-- Merged by a program of this session (wip/tool/pack.py) out of its own texts for this claim.
import Derived.Deep.Slices
import Derived.ChangeArms
import Derived.WalkKit
import Derived.ProofKit
import Derived.OpenShut
import Derived.ShutString
import Derived.ChangeOld
import Derived.Below
import Derived.SizedLaws
import Derived.Lib.Strings
import Derived.Test.YtjjfjgdhloideaaKFnExactBookItems0
import Derived.Test.YtjjfjgdhloideaaKFnExactBookItems1
import Derived.Test.YtjjfjgdhloideaaKFnExactBookItems2
namespace Go.Proofs.Ytjjfjgdhloideaa.Rd
open Go.RowKit Go.ChangeShapes Go.WideShapes Go.Proofs.YtjjfjgdhloideaaW.PrintWords
def Rd (P : Program) (t : TypeId) {α : Type} (d : Kd α) (wf : α → Prop) : Prop :=
  ∀ (H : Type) (enc : TypeId × Value → H) (w : World) (base : Nat) (sp : Nat → Bool) (held : Bool) (fuel : Nat) (cs : List Value) (x : DataW H × List MemPlace),
    DataW.trod enc P w base sp held fuel t cs = some x → ∃ a : α, d.K w a cs ∧ wf a
def RdF (P : Program) (fs : List Field) (off : Nat) {α : Type} (d : Kd α) (wf : α → Prop) : Prop :=
  ∀ (H : Type) (enc : TypeId × Value → H) (w : World) (base : Nat) (sp : Nat → Bool) (held : Bool) (n : Nat) (cs : List Value),
    cs.length = off + d.sz → (∀ f ∈ fs, ∃ y, DataW.trod enc P w base sp held n f.type ((cs.drop f.offset).take (P.cellsOf f.type)) = some y) → ∃ a : α, d.K w a (cs.drop off) ∧ wf a
def WfInt (k : IntKind) (n : Int) : Prop := (Lit.int k n).wf = true
def WfStr (s : ByteArray) : Prop := s.size ≤ maxLen
def WfRow {α : Type} (wf : α → Prop) (l : List α) : Prop := l.length ≤ maxLen ∧ ∀ x ∈ l, wf x
theorem rd_int {P : Program} {t : TypeId} {k : IntKind} (hu : P.underlying t = some (.int k)) : Rd P t (Kd.int k) (WfInt k) := by
  intro H enc w base sp held fuel cs x h
  cases fuel with
  | zero => simp [DataW.trod] at h
  | succ n =>
    match cs with
    | [.int k' m] =>
      simp only [DataW.trod, hu] at h
      split at h
      · rename_i hk
        obtain ⟨rfl, hw⟩ := hk
        exact ⟨m, rfl, hw⟩
      · cases h
    | [] => simp [DataW.trod, hu] at h
    | [.bool _] => simp [DataW.trod, hu] at h
    | [.float _ _] => simp [DataW.trod, hu] at h
    | [.complex _ _ _] => simp [DataW.trod, hu] at h
    | [.string _] => simp [DataW.trod, hu] at h
    | [.pointer _] => simp [DataW.trod, hu] at h
    | [.slice _ _ _] => simp [DataW.trod, hu] at h
    | [.map _] => simp [DataW.trod, hu] at h
    | [.chan _] => simp [DataW.trod, hu] at h
    | [.func _ _ _] => simp [DataW.trod, hu] at h
    | [.nilFunc] => simp [DataW.trod, hu] at h
    | [.iface _ _] => simp [DataW.trod, hu] at h
    | [.nilIface] => simp [DataW.trod, hu] at h
    | [.agg _] => simp [DataW.trod, hu] at h
    | [.tuple _] => simp [DataW.trod, hu] at h
    | _ :: _ :: _ => simp [DataW.trod, hu] at h
theorem rd_str {P : Program} {t : TypeId} (hu : P.underlying t = some .string) : Rd P t Kd.string WfStr := by
  intro H enc w base sp held fuel cs x h
  cases fuel with
  | zero => simp [DataW.trod] at h
  | succ n =>
    match cs with
    | [.string s] =>
      simp only [DataW.trod, hu] at h
      split at h
      · rename_i hk
        exact ⟨s, rfl, hk⟩
      · cases h
    | [] => simp [DataW.trod, hu] at h
    | [.int _ _] => simp [DataW.trod, hu] at h
    | [.bool _] => simp [DataW.trod, hu] at h
    | [.float _ _] => simp [DataW.trod, hu] at h
    | [.complex _ _ _] => simp [DataW.trod, hu] at h
    | [.pointer _] => simp [DataW.trod, hu] at h
    | [.slice _ _ _] => simp [DataW.trod, hu] at h
    | [.map _] => simp [DataW.trod, hu] at h
    | [.chan _] => simp [DataW.trod, hu] at h
    | [.func _ _ _] => simp [DataW.trod, hu] at h
    | [.nilFunc] => simp [DataW.trod, hu] at h
    | [.iface _ _] => simp [DataW.trod, hu] at h
    | [.nilIface] => simp [DataW.trod, hu] at h
    | [.agg _] => simp [DataW.trod, hu] at h
    | [.tuple _] => simp [DataW.trod, hu] at h
    | _ :: _ :: _ => simp [DataW.trod, hu] at h
theorem rdF_last {P : Program} {f : Field} {off : Nat} {α : Type} {d : Kd α} {wf : α → Prop} (h : Rd P f.type d wf) (ho : f.offset = off) (hc : P.cellsOf f.type = d.sz) : RdF P [f] off d wf := by
  intro H enc w base sp held n cs hl hy
  obtain ⟨y, hy⟩ := hy f (List.mem_singleton.2 rfl)
  rw [ho, hc, List.take_of_length_le (by rw [List.length_drop]; omega)] at hy
  exact h H enc w base sp held n _ y hy
theorem rdF_cons {P : Program} {f : Field} {fs : List Field} {off off2 : Nat} {α β : Type} {d : Kd α} {e : Kd β} {wf : α → Prop} {wg : β → Prop} (h : Rd P f.type d wf) (ho : f.offset = off) (hc : P.cellsOf f.type = d.sz)
    (h2 : off2 = off + d.sz) (hs : RdF P fs off2 e wg) : RdF P (f :: fs) off (Kd.pair d e) (fun x => wf x.1 ∧ wg x.2) := by
  intro H enc w base sp held n cs hl hy
  obtain ⟨y, hy1⟩ := hy f (List.mem_cons_self ..)
  have hl' : cs.length = off + (d.sz + e.sz) := hl
  obtain ⟨a, ha, hwa⟩ := h H enc w base sp held n _ y hy1
  obtain ⟨b, hb, hwb⟩ := hs H enc w base sp held n cs (by omega) (fun g hg => hy g (List.mem_cons_of_mem _ hg))
  rw [ho, hc] at ha
  refine ⟨(a, b), ⟨_, _, ?_, ha, hb⟩, hwa, hwb⟩
  rw [h2, ← List.drop_drop, List.take_append_drop]
theorem rd_struct {P : Program} {t : TypeId} {fs : Array Field} {α β : Type} {d : Kd α} {wf : α → Prop} {wg : β → Prop} (g : β → α) (gi : α → β) (hg : ∀ a, g (gi a) = a) (hwg : ∀ a, wf a → wg (gi a))
    (hu : P.underlying t = some (.struct fs)) (hc : P.cellsOf t = d.sz) (hF : RdF P fs.toList 0 d wf) : Rd P t (Kd.iso d g) wg := by
  intro H enc w base sp held fuel cs x h
  obtain ⟨xs, n, _, rfl, hl, hlen, hf⟩ := DataW.trod_struct hu h
  obtain ⟨a, ha, hwa⟩ := hF H enc w base sp held n cs (by omega) (fun f hfm => by
    obtain ⟨i, hi, rfl⟩ := List.mem_iff_getElem.1 hfm
    have hi' : i < fs.size := by simpa using hi
    have z := hf i (fs[i]) (by simp [hi'])
    rw [List.getElem?_eq_getElem (by omega)] at z
    exact ⟨_, by simpa using z⟩)
  refine ⟨gi a, ?_, hwg a hwa⟩
  show d.K w (g (gi a)) cs
  rw [hg]
  simpa using ha
theorem rd_slice {P : Program} {t e : TypeId} {α : Type} {d : Kd α} {wf : α → Prop} (hu : P.underlying t = some (.slice e)) (hc : P.cellsOf e = d.sz) (hd : Rd P e d wf) : Rd P t (Kd.slice e d) (WfRow wf) := by
  intro H enc w base sp held fuel cs x h
  rcases Go.Deep.open_slice hu h with ⟨rfl, _⟩ | ⟨a, len, cap, m, n, D, Pl, rfl, hb, hl, hm, hmm, _, hx⟩
  · exact ⟨[], ⟨none, 0, rfl, Nat.le_refl _, rfl, by simp, fun h => absurd h (by simp)⟩, by simp [maxLen], by simp⟩
  · have hlm : len ≤ m := by rw [hmm]; split <;> omega
    have hall : ∀ i, i < len → ∃ cs', w.cells? base (a.add (i * P.cellsOf e)) (P.cellsOf e) = some cs' ∧ DataW.trod enc P w base sp held n e cs' = some (D i, Pl i) := fun i hi => hx i (by omega)
    have key : ∀ (k : Nat), k ≤ len → ∃ l : List α, l.length = k ∧ (∀ x ∈ l, wf x) ∧ ∀ j p, l[j]? = some p → ∃ c, c.length = d.sz ∧ d.K w p c ∧ ∀ i u, c[i]? = some u → w.cell? (a.add (j * d.sz + i)) = some u := by
      intro k
      induction k with
      | zero => intro _; exact ⟨[], rfl, by simp, by simp⟩
      | succ k ih =>
        intro hk
        obtain ⟨l, hl1, hl2, hl3⟩ := ih (by omega)
        obtain ⟨cs', h1, h2⟩ := hall k (by omega)
        obtain ⟨b, hb1, hb2⟩ := hd H enc w base sp held n cs' _ h2
        refine ⟨l ++ [b], by simp [hl1], ?_, ?_⟩
        · intro z hz
          rcases List.mem_append.1 hz with hz | hz
          · exact hl2 z hz
          · rw [List.mem_singleton.1 hz]; exact hb2
        · intro j p hj
          by_cases hjl : j < l.length
          · rw [List.getElem?_append_left hjl] at hj
            exact hl3 j p hj
          · rw [List.getElem?_append_right (by omega)] at hj
            have hj0 : j - l.length = 0 := by
              cases hz : j - l.length with
              | zero => rfl
              | succ q => rw [hz] at hj; simp at hj
            rw [hj0] at hj
            obtain rfl : b = p := by simpa using hj
            have hjk : j = k := by omega
            subst hjk
            refine ⟨cs', d.K_len hb1, hb1, fun i u hu' => ?_⟩
            obtain ⟨_, hlen', hcell⟩ := World.cells?_some h1
            have hi : i < cs'.length := by
              rcases Nat.lt_or_ge i cs'.length with h | h
              · exact h
              · rw [List.getElem?_eq_none h] at hu'; cases hu'
            have z := hcell i (by omega)
            rw [hu', Go.Deep.add_add, hc] at z
            exact z
    obtain ⟨l, hl1, hl2, hl3⟩ := key len (Nat.le_refl _)
    refine ⟨l, ⟨some a, cap, by rw [hl1], by omega, ?_⟩, by rw [hl1]; exact Nat.le_trans hl hm, hl2⟩
    exact ⟨rfl, by rw [hl1]; have : cap ≤ 2 ^ 63 - 1 := hm; omega, fun _ => ⟨a, rfl, hl3⟩⟩
end Go.Proofs.Ytjjfjgdhloideaa.Rd
namespace Go.Proofs.Ytjjfjgdhloideaa.QH
open Go.RowKit Go.Proofs.Ytjjfjgdhloideaa Go.Proofs.YtjjfjgdhloideaaW.PrintWords
def wf111 (x : S111) : Prop := Rd.WfStr x.f0 ∧ (Rd.WfInt .i64) x.f1
def wf113 (x : S113) : Prop := Rd.WfStr x.f0 ∧ Rd.WfStr x.f1 ∧ (Rd.WfInt .i64) x.f2 ∧ Rd.WfStr x.f3 ∧ (Rd.WfInt .i64) x.f4 ∧ (Rd.WfInt .i64) x.f5 ∧ (Rd.WfInt .i64) x.f6 ∧ (Rd.WfInt .i64) x.f7
def wf39 (x : S39) : Prop := (Rd.WfRow wf111) x.f0 ∧ (Rd.WfRow wf113) x.f1
set_option maxRecDepth 100000 in
theorem rd111 : Rd.Rd Try.prog 111 k111 wf111 := Rd.rd_struct _ (fun a => ⟨a.1, a.2⟩) (fun _ => rfl) (fun _ h => h) Try.underlying111 (by kernel_rfl) (Rd.rdF_cons (Rd.rd_str (Try.underlying9)) rfl (by kernel_rfl) (off2 := 1) rfl (Rd.rdF_last (Rd.rd_int (Try.underlying2)) rfl (by kernel_rfl)))
set_option maxRecDepth 100000 in
theorem rd113 : Rd.Rd Try.prog 113 k113 wf113 := Rd.rd_struct _ (fun a => ⟨a.1, a.2.1, a.2.2.1, a.2.2.2.1, a.2.2.2.2.1, a.2.2.2.2.2.1, a.2.2.2.2.2.2.1, a.2.2.2.2.2.2.2⟩) (fun _ => rfl) (fun _ h => h) Try.underlying113 (by kernel_rfl) (Rd.rdF_cons (Rd.rd_str (Try.underlying9)) rfl (by kernel_rfl) (off2 := 1) rfl (Rd.rdF_cons (Rd.rd_str (Try.underlying9)) rfl (by kernel_rfl) (off2 := 2) rfl (Rd.rdF_cons (Rd.rd_int (Try.underlying2)) rfl (by kernel_rfl) (off2 := 3) rfl (Rd.rdF_cons (Rd.rd_str (Try.underlying9)) rfl (by kernel_rfl) (off2 := 4) rfl (Rd.rdF_cons (Rd.rd_int (Try.underlying2)) rfl (by kernel_rfl) (off2 := 5) rfl (Rd.rdF_cons (Rd.rd_int (Try.underlying2)) rfl (by kernel_rfl) (off2 := 6) rfl (Rd.rdF_cons (Rd.rd_int (Try.underlying2)) rfl (by kernel_rfl) (off2 := 7) rfl (Rd.rdF_last (Rd.rd_int (Try.underlying2)) rfl (by kernel_rfl)))))))))
set_option maxRecDepth 100000 in
theorem rd39 : Rd.Rd Try.prog 39 k39 wf39 := Rd.rd_struct _ (fun a => ⟨a.1, a.2⟩) (fun _ => rfl) (fun _ h => h) Try.underlying39 (by kernel_rfl) (Rd.rdF_cons (Rd.rd_slice Try.underlying36 (by kernel_rfl) rd111) rfl (by kernel_rfl) (off2 := 1) rfl (Rd.rdF_last (Rd.rd_slice Try.underlying37 (by kernel_rfl) rd113) rfl (by kernel_rfl)))
end Go.Proofs.Ytjjfjgdhloideaa.QH
namespace Go.Proofs.Ytjjfjgdhloideaa.QH
open Go.Proofs.Ytjjfjgdhloideaa Go.Proofs.YtjjfjgdhloideaaW.PrintWords
def laws_FnExactBookItems.Pure : Prop := ∀ (l0_0 : List (S111)) (l0_1 : List (S113)), (Rd.WfRow wf111) l0_0 → (Rd.WfRow wf113) l0_1 → ∃ k, laws_FnExactBookItems.f k l0_0 l0_1 = some true
end Go.Proofs.Ytjjfjgdhloideaa.QH
namespace Go.Proofs.Ytjjfjgdhloideaa.Ev0
open Go.RowKit Go.Proofs.YtjjfjgdhloideaaW.PrintWords
def Evt {α : Type} (f : Nat → Option α) (r : α) : Prop := ∃ K, ∀ k, K ≤ k → f k = some r
namespace Evt
variable {α β : Type}
theorem const {o : Option α} {r : α} (h : o = some r) : Evt (fun _ => o) r := ⟨0, fun _ _ => h⟩
theorem pure (r : α) : Evt (fun _ => some r) r := ⟨0, fun _ _ => rfl⟩
theorem bind {f : Nat → Option α} {g : Nat → α → Option β} {a : α} {r : β} (h : Evt f a) (h2 : Evt (fun k => g k a) r) : Evt (fun k => (f k).bind (g k)) r := by
  obtain ⟨K, hK⟩ := h
  obtain ⟨L, hL⟩ := h2
  refine ⟨K + L, fun k hk => ?_⟩
  show (f k).bind (g k) = some r
  rw [hK k (by omega)]
  exact hL k (by omega)
theorem succ {f : Nat → Option α} {r : α} (h : Evt (fun k => f (k + 1)) r) : Evt f r := by
  obtain ⟨K, hK⟩ := h
  refine ⟨K + 1, fun k hk => ?_⟩
  obtain ⟨m, rfl⟩ : ∃ m, k = m + 1 := ⟨k - 1, by omega⟩
  exact hK m (by omega)
theorem pos {c : Prop} [Decidable c] {f g : Nat → Option α} {r : α} (hc : c) (h : Evt f r) : Evt (fun k => if c then f k else g k) r := by
  simpa only [if_pos hc] using h
theorem neg {c : Prop} [Decidable c] {f g : Nat → Option α} {r : α} (hc : ¬ c) (h : Evt g r) : Evt (fun k => if c then f k else g k) r := by
  simpa only [if_neg hc] using h
theorem ite {c : Prop} [Decidable c] {f g : Nat → Option α} {r : α} (h1 : c → Evt f r) (h2 : ¬ c → Evt g r) : Evt (fun k => if c then f k else g k) r := by
  by_cases hc : c
  · exact pos hc (h1 hc)
  · exact neg hc (h2 hc)
theorem ex {f : Nat → Option α} {r : α} (h : Evt f r) : ∃ k, f k = some r := by
  obtain ⟨K, hK⟩ := h
  exact ⟨K, hK K (Nat.le_refl _)⟩
theorem same {f : Nat → Option α} {r r' : α} (h : Evt f r) (e : r = r') : Evt f r' := e ▸ h
end Evt
theorem w64 {x : Int} (h0 : -9223372036854775808 ≤ x) (h1 : x ≤ 9223372036854775807) : wrap64 x = x := by
  unfold wrap64
  omega
noncomputable def B (p : Prop) : Bool := @decide p (Classical.propDecidable p)
theorem B_true {p : Prop} (h : p) : B p = true := by unfold B; exact @decide_eq_true p (Classical.propDecidable p) h
theorem B_false {p : Prop} (h : ¬ p) : B p = false := by unfold B; exact @decide_eq_false p (Classical.propDecidable p) h
theorem B_iff {p : Prop} : B p = true ↔ p := by unfold B; exact @decide_eq_true_iff p (Classical.propDecidable p)
theorem B_congr {p q : Prop} (h : p ↔ q) : B p = B q := by rw [propext h]
theorem decide_B (p : Prop) [Decidable p] : decide p = B p := by
  by_cases h : p
  · rw [decide_eq_true h, B_true h]
  · rw [decide_eq_false h, B_false h]
theorem bool_B {b : Bool} {p : Prop} (h : b = true ↔ p) : b = B p := by
  cases b with
  | true => exact (B_true (h.1 rfl)).symm
  | false => exact (B_false (fun hp => by simpa using h.2 hp)).symm
theorem and_ {c p q : Prop} [Decidable c] {f : Nat → Option Bool} (hc : c ↔ p) (h : p → Evt f (B q)) : Evt (fun k => if c then f k else some false) (B (p ∧ q)) := by
  by_cases e : c
  · exact Evt.pos e ((h (hc.1 e)).same (B_congr ⟨fun x => ⟨hc.1 e, x⟩, fun x => x.2⟩))
  · exact Evt.neg e ((Evt.pure false).same (B_false (fun x => e (hc.2 x.1))).symm)
theorem last_ {p q : Prop} [Decidable p] (h : p ↔ q) : Evt (fun _ => some (decide p)) (B q) := (Evt.pure _).same ((decide_B p).trans (B_congr h))
theorem lastB_ {p q : Prop} (h : p ↔ q) : Evt (fun _ => some (B p)) (B q) := (Evt.pure _).same (B_congr h)
end Go.Proofs.Ytjjfjgdhloideaa.Ev0
namespace Go.Proofs.Ytjjfjgdhloideaa.Ev0
open Go.RowKit Go.Proofs.YtjjfjgdhloideaaW.PrintWords
theorem up_loop {σ ρ : Type} (n : Int) (F : Nat → σ → Int → Option ρ) (st : Int → σ) (r : Int → ρ)
    (step : ∀ i, 0 ≤ i → i < n → Evt (fun k => F k (st (i + 1)) (i + 1)) (r (i + 1)) → Evt (fun k => F (k + 1) (st i) i) (r i))
    (stop : Evt (fun k => F (k + 1) (st n) n) (r n)) (i : Int) (h0 : 0 ≤ i) (hn : i ≤ n) : Evt (fun k => F k (st i) i) (r i) := by
  have key : ∀ (d : Nat) (i : Int), 0 ≤ i → i ≤ n → n - i ≤ d → Evt (fun k => F k (st i) i) (r i) := by
    intro d
    induction d with
    | zero =>
      intro i h0 h1 hd
      obtain rfl : i = n := by omega
      exact stop.succ
    | succ d ih =>
      intro i h0 h1 hd
      by_cases hlt : i < n
      · exact (step i h0 hlt (ih (i + 1) (by omega) (by omega) (by omega))).succ
      · obtain rfl : i = n := by omega
        exact stop.succ
  exact key (n - i).toNat i h0 hn (by omega)
def SzR (f : Nat → Option Int) (left : Int) (p : Prop) : Prop := ∃ t, Evt f t ∧ (t < 0 ∨ (0 ≤ t ∧ t ≤ left ∧ p))
theorem sz_loop (n : Nat) (hn : n ≤ 9223372036854775807) (p : Int → Prop) (f : Nat → Option Int) (F : Nat → Int → Int → Option Int) (left : Int) (hl0 : 0 ≤ left) (hl : left ≤ 1048576)
    (hf : ∀ k, f k = if wrap64 (left - (n : Int)) < 0 then some (-1) else F k (wrap64 (left - (n : Int))) 0)
    (step : ∀ s i, 0 ≤ i → i < (n : Int) → 0 ≤ s → s ≤ 1048576 → (∃ r, r < 0 ∧ Evt (fun k => F (k + 1) s i) r) ∨ (∃ s', 0 ≤ s' ∧ s' ≤ s ∧ p i ∧ ∀ r, Evt (fun k => F k s' (i + 1)) r → Evt (fun k => F (k + 1) s i) r))
    (stop : ∀ s i, (n : Int) ≤ i → Evt (fun k => F (k + 1) s i) s) : SzR f left (n ≤ 1048576 ∧ ∀ i, 0 ≤ i → i < (n : Int) → p i) := by
  have hw : wrap64 (left - (n : Int)) = left - (n : Int) := w64 (by omega) (by omega)
  by_cases h : left - (n : Int) < 0
  · refine ⟨-1, ⟨0, fun k _ => ?_⟩, .inl (by decide)⟩
    rw [hf, hw, if_pos h]
  · have key : ∀ (d : Nat) (s i : Int), 0 ≤ i → (n : Int) - i ≤ d → 0 ≤ s → s ≤ 1048576 → ∃ t, Evt (fun k => F k s i) t ∧ (t < 0 ∨ (0 ≤ t ∧ t ≤ s ∧ ∀ j, i ≤ j → j < (n : Int) → p j)) := by
      intro d
      induction d with
      | zero => intro s i h0 hd hs0 hs1; exact ⟨s, (stop s i (by omega)).succ, .inr ⟨hs0, Int.le_refl _, fun j h1 h2 => absurd h2 (by omega)⟩⟩
      | succ d ih =>
        intro s i h0 hd hs0 hs1
        by_cases hlt : i < (n : Int)
        · rcases step s i h0 hlt hs0 hs1 with ⟨r, hr0, hr⟩ | ⟨s', h1, h2, hp, hs⟩
          · exact ⟨r, hr.succ, .inl hr0⟩
          · obtain ⟨t, ht, h3⟩ := ih s' (i + 1) (by omega) (by omega) h1 (by omega)
            refine ⟨t, (hs t ht).succ, h3.imp id (fun ⟨g0, g1, g2⟩ => ⟨g0, by omega, fun j h1 h2 => ?_⟩)⟩
            by_cases e : j = i
            · rw [e]; exact hp
            · exact g2 j (by omega) h2
        · exact ⟨s, (stop s i (by omega)).succ, .inr ⟨hs0, Int.le_refl _, fun j h1 h2 => absurd h2 (by omega)⟩⟩
    obtain ⟨t, ⟨K, hK⟩, h3⟩ := key n (left - (n : Int)) 0 (Int.le_refl _) (by omega) (by omega) (by omega)
    refine ⟨t, ⟨K, fun k hk => ?_⟩, h3.imp id (fun ⟨g0, g1, g2⟩ => ⟨g0, by omega, by omega, g2⟩)⟩
    rw [hf, hw, if_neg h]
    exact hK k hk
theorem sz_step {s a : Int} {f : Option Int} {p : Prop} (hs0 : 0 ≤ s) (hs1 : s ≤ 1048576) (ha0 : 0 ≤ a) (ha : a ≤ 9223372036854775807)
    (h : 0 ≤ s - a → ∃ t, f = some t ∧ (t < 0 ∨ (0 ≤ t ∧ t ≤ s - a ∧ p))) : ∃ t, (if wrap64 (s - a) < 0 then some (-1) else f) = some t ∧ (t < 0 ∨ (0 ≤ t ∧ t ≤ s ∧ p)) := by
  have hw : wrap64 (s - a) = s - a := w64 (by omega) (by omega)
  rw [hw]
  by_cases hn : s - a < 0
  · exact ⟨-1, by rw [if_pos hn], .inl (by decide)⟩
  · obtain ⟨t, ht, h2⟩ := h (by omega)
    exact ⟨t, by rw [if_neg hn]; exact ht, h2.imp id (fun ⟨g0, g1, g2⟩ => ⟨g0, by omega, g2⟩)⟩
theorem wsub {s a : Int} (hs0 : 0 ≤ s) (hs1 : s ≤ 1048576) (ha0 : 0 ≤ a) (ha : a ≤ 9223372036854775807) : wrap64 (s - a) = s - a := w64 (by omega) (by omega)
theorem getD_at {α : Type} (l : List α) (z : α) (i : Nat) (h : i < l.length) : l.getD i z = l[i] := by
  rw [List.getD_eq_getElem?_getD, List.getElem?_eq_getElem h]
  rfl
theorem fill_loop {α β : Type} (l : List α) (zα : α) (z : β) (g : α → β) (F : Nat → List β → Int → Option (List β))
    (step : ∀ acc i, 0 ≤ i → i < (l.length : Int) → acc.length = l.length → ∀ r, Evt (fun k => F k (acc.set i.toNat (g (l.getD i.toNat zα))) (i + 1)) r → Evt (fun k => F (k + 1) acc i) r)
    (stop : ∀ acc i, (l.length : Int) ≤ i → Evt (fun k => F (k + 1) acc i) acc) : Evt (fun k => F k (List.replicate l.length z) 0) (l.map g) := by
  have h := up_loop (l.length : Int) F (fun i => (l.take i.toNat).map g ++ List.replicate (l.length - i.toNat) z) (fun _ => l.map g) ?_ ?_ 0 (Int.le_refl _) (by omega)
  · simpa using h
  · intro i h0 hlt ih
    refine step _ i h0 hlt (by simp; omega) _ ?_
    have hi : i.toNat < l.length := by omega
    have e : ((l.take i.toNat).map g ++ List.replicate (l.length - i.toNat) z).set i.toNat (g (l.getD i.toNat zα)) = (l.take (i + 1).toNat).map g ++ List.replicate (l.length - (i + 1).toNat) z := by
      have e1 : (i + 1).toNat = i.toNat + 1 := by omega
      rw [e1, List.take_succ_eq_append_getElem hi, List.map_append, getD_at l zα _ hi, List.set_append_right _ _ (by simp; omega)]
      have e2 : l.length - i.toNat = (l.length - (i.toNat + 1)) + 1 := by omega
      have e3 : i.toNat - ((l.take i.toNat).map g).length = 0 := by simp; omega
      rw [e2, e3, List.replicate_succ]
      simp
    rw [e]
    exact ih
  · have h := stop ((l.take ((l.length : Int)).toNat).map g ++ List.replicate (l.length - ((l.length : Int)).toNat) z) (l.length : Int) (Int.le_refl _)
    refine h.same ?_
    simp
theorem all_loop (n : Int) (h0 : 0 ≤ n) (F : Nat → Int → Option Bool) (step : ∀ i, 0 ≤ i → i < n → Evt (fun k => F k (i + 1)) true → Evt (fun k => F (k + 1) i) true)
    (stop : Evt (fun k => F (k + 1) n) true) : Evt (fun k => F k 0) true :=
  up_loop n (fun k (_ : Unit) i => F k i) (fun _ => ()) (fun _ => true) step stop 0 (Int.le_refl _) h0
theorem right_loop (n : Int) (hn : 0 ≤ n) (ok : Int → Prop) (q : Prop) (F : Nat → Int → Option Bool)
    (step : ∀ i, 0 ≤ i → i < n → (ok i → ∀ r, Evt (fun k => F k (i + 1)) r → Evt (fun k => F (k + 1) i) r) ∧ (¬ ok i → Evt (fun k => F (k + 1) i) false))
    (stop : Evt (fun k => F (k + 1) n) (B q)) : Evt (fun k => F k 0) (B ((∀ i, 0 ≤ i → i < n → ok i) ∧ q)) := by
  have h := up_loop n (fun k (_ : Unit) i => F k i) (fun _ => ()) (fun i => B ((∀ j, i ≤ j → j < n → ok j) ∧ q)) ?_ ?_ 0 (Int.le_refl _) hn
  · exact h
  · intro i h0 hlt ih
    by_cases hk : ok i
    · refine ((step i h0 hlt).1 hk _ ih).same (B_congr ⟨fun h => ⟨fun j h1 h2 => ?_, h.2⟩, fun h => ⟨fun j h1 h2 => h.1 j (by omega) h2, h.2⟩⟩)
      by_cases e : j = i
      · rw [e]; exact hk
      · exact h.1 j (by omega) h2
    · exact ((step i h0 hlt).2 hk).same (B_false (fun h => hk (h.1 i (Int.le_refl _) hlt))).symm
  · exact stop.same (B_congr ⟨fun h => ⟨fun j h1 h2 => absurd h2 (by omega), h⟩, fun h => h.2⟩)
theorem bytes_nil {a : ByteArray} : a.toList = ([] : List UInt8) ↔ a.size = 0 := by
  rw [Lib.toList_data]
  cases a with | mk x => cases x with | mk x => simp [ByteArray.size]
end Go.Proofs.Ytjjfjgdhloideaa.Ev0
namespace Go.Proofs.Ytjjfjgdhloideaa.QH
open Go.RowKit Go.Proofs.YtjjfjgdhloideaaW.PrintWords Go.Proofs.Ytjjfjgdhloideaa.Ev0
def less (a b : ByteArray) : Prop := Op.bytesLess a.toList b.toList = true
noncomputable def cmpS (a b : ByteArray) : Int := if Op.bytesLess a.toList b.toList = true then -1 else if Op.bytesLess b.toList a.toList = true then 1 else 0
def cmpI (a b : Int) : Int := if a < b then -1 else if a > b then 1 else 0
theorem cmpS_ev (a b : ByteArray) : cmp_Compare_string.f a b = some (cmpS a b) := by
  have e1 : ∀ x : ByteArray, cmp_isNaN_string.f x = some false := fun x => by simp [cmp_isNaN_string.f]
  unfold cmp_Compare_string.f cmpS
  simp only [e1, Option.bind_some, Bool.false_eq_true, if_false]
  split
  · rfl
  · split <;> rfl
theorem cmpI_ev (a b : Int) : cmp_Compare_int64.f a b = some (cmpI a b) := by
  have e1 : ∀ x : Int, cmp_isNaN_int64.f x = some false := fun x => by simp [cmp_isNaN_int64.f]
  unfold cmp_Compare_int64.f cmpI
  simp only [e1, Option.bind_some, Bool.false_eq_true, if_false]
  split
  · rfl
  · split <;> rfl
theorem cmpS_cases (a b : ByteArray) : (less a b ∧ ¬ less b a ∧ ¬ a.toList = b.toList ∧ cmpS a b = -1) ∨ (¬ less a b ∧ less b a ∧ ¬ a.toList = b.toList ∧ cmpS a b = 1) ∨ (¬ less a b ∧ ¬ less b a ∧ a.toList = b.toList ∧ cmpS a b = 0) := by
  have t1 := Bs.less_tri a.toList b.toList
  have t2 := Bs.less_tri b.toList a.toList
  unfold less cmpS
  cases h1 : Op.bytesLess a.toList b.toList <;> cases h2 : Op.bytesLess b.toList a.toList
  · right; right
    rw [h1, h2] at t1
    refine ⟨by simp, by simp, by simpa using t1, by simp⟩
  · right; left
    refine ⟨by simp, by simp, ?_, by simp⟩
    intro e
    rw [e, Bs.less_irrefl] at h2
    cases h2
  · left
    refine ⟨by simp, by simp, ?_, by simp⟩
    intro e
    rw [e, Bs.less_irrefl] at h1
    cases h1
  · rw [h1, h2] at t1
    simp at t1
theorem cmpI_cases (a b : Int) : (a < b ∧ cmpI a b = -1) ∨ (b < a ∧ cmpI a b = 1) ∨ (a = b ∧ cmpI a b = 0) := by
  unfold cmpI
  split
  · left; exact ⟨by assumption, rfl⟩
  · split
    · right; left; exact ⟨by omega, rfl⟩
    · right; right; exact ⟨by omega, rfl⟩
def orL : List Int → Int
  | [] => 0
  | x :: xs => if x = 0 then orL xs else x
theorem or_ev (l : List Int) (hl : l.length ≤ 1000) : Evt (fun k => cmp_Or_int.f k l) (orL l) := by
  unfold cmp_Or_int.f
  have h := up_loop (l.length : Int) (fun k (_ : Unit) i => cmp_Or_int.l0 k 0 l (l.length : Int) i) (fun _ => ()) (fun i => orL (l.drop i.toNat)) ?_ ?_ 0 (Int.le_refl _) (by omega)
  · simpa using h
  · intro i h0 hlt ih
    simp only [cmp_Or_int.l0]
    refine Evt.pos hlt (Evt.pos h0 (Evt.pos hlt ?_))
    rw [w64 (show -9223372036854775808 ≤ i + 1 by omega) (by omega)]
    have hi : i.toNat < l.length := by omega
    have e : l.drop i.toNat = rd l i :: l.drop (i + 1).toNat := by
      rw [show (i + 1).toNat = i.toNat + 1 by omega, List.drop_eq_getElem_cons hi]
      congr 1
      unfold rd
      rw [getD_at l 0 _ hi]
    rw [e]
    unfold orL
    by_cases hz : rd l i = 0
    · rw [if_pos hz]
      exact Evt.pos hz ih
    · rw [if_neg hz]
      exact Evt.neg hz (Evt.pure _)
  · simp only [cmp_Or_int.l0]
    refine Evt.neg (by omega) ((Evt.pure _).same ?_)
    simp [orL]
end Go.Proofs.Ytjjfjgdhloideaa.QH
namespace Go.Proofs.Ytjjfjgdhloideaa.QH
open Go.RowKit Go.Proofs.YtjjfjgdhloideaaW.PrintWords Go.Proofs.Ytjjfjgdhloideaa.Ev0
theorem within_ev (a b c : Int) : impl_within.f a b c = some (B (b ≤ a ∧ a ≤ c)) := by
  unfold impl_within.f
  by_cases h : b ≤ a
  · rw [if_pos h, decide_B]
    exact congrArg some (B_congr ⟨fun x => ⟨h, x⟩, fun x => x.2⟩)
  · rw [if_neg h, B_false (fun x => h x.1)]
theorem isGreat_ev (c : Int) : impl_isGreat.f c = some (B (65 ≤ c ∧ c ≤ 90)) := by
  unfold impl_isGreat.f
  by_cases h : c ≥ 65
  · rw [if_pos h, decide_B]
    exact congrArg some (B_congr ⟨fun x => ⟨h, x⟩, fun x => x.2⟩)
  · rw [if_neg h, B_false (fun x => h x.1)]
theorem isDigit_ev (c : Int) : impl_isDigit.f c = some (B (48 ≤ c ∧ c ≤ 57)) := by
  unfold impl_isDigit.f
  by_cases h : c ≥ 48
  · rw [if_pos h, decide_B]
    exact congrArg some (B_congr ⟨fun x => ⟨h, x⟩, fun x => x.2⟩)
  · rw [if_neg h, B_false (fun x => h x.1)]
theorem isQty_ev (n : Int) : impl_isQty.f n = some (B (1 ≤ n ∧ n ≤ 1000000)) := by
  unfold impl_isQty.f
  rw [within_ev]
  rfl
theorem l01Qty_ev (n : Int) : spec_l01Qty.f n = some (B (1 ≤ n ∧ n ≤ 1000000)) := by
  unfold spec_l01Qty.f
  by_cases h : n ≥ 1
  · rw [if_pos h, decide_B]
    exact congrArg some (B_congr ⟨fun x => ⟨h, x⟩, fun x => x.2⟩)
  · rw [if_neg h, B_false (fun x => h x.1)]
def okc (c : Int) : Prop := (65 ≤ c ∧ c ≤ 90) ∨ (48 ≤ c ∧ c ≤ 57) ∨ c = 45
def NameP (s : ByteArray) : Prop := 1 ≤ (s.size : Int) ∧ (s.size : Int) ≤ 12 ∧ (65 ≤ bt s 0 ∧ bt s 0 ≤ 90) ∧ ∀ j : Int, 0 ≤ j → j < s.size → okc (bt s j)
noncomputable def nameB (s : ByteArray) : Bool := B (NameP s)
theorem specName_l (s : ByteArray) (hs : (s.size : Int) ≤ 9223372036854775807) (d : Nat) : ∀ i : Int, 0 ≤ i → (s.size : Int) - i ≤ d → Evt (fun k => spec_l01Name.l0 k s i) (B (∀ j : Int, i ≤ j → j < s.size → okc (bt s j))) := by
  induction d with
  | zero =>
    intro i h0 hd
    apply Evt.succ
    simp only [spec_l01Name.l0]
    refine Evt.neg (by omega) ((Evt.pure true).same (B_true ?_).symm)
    intro j h1 h2
    omega
  | succ d ih =>
    intro i h0 hd
    apply Evt.succ
    simp only [spec_l01Name.l0]
    by_cases hlt : i < (s.size : Int)
    · refine Evt.pos hlt (Evt.pos h0 ?_)
      have hw : wrap64 (i + 1) = i + 1 := w64 (by omega) (by omega)
      rw [hw]
      have yes : okc (bt s i) → Evt (fun k => spec_l01Name.l0 k s (i + 1)) (B (∀ j : Int, i ≤ j → j < s.size → okc (bt s j))) := fun hc =>
        (ih (i + 1) (by omega) (by omega)).same (B_congr ⟨fun h j h1 h2 => by
          by_cases e : j = i
          · rw [e]; exact hc
          · exact h j (by omega) h2, fun h j h1 h2 => h j (by omega) h2⟩)
      have no : ¬ okc (bt s i) → Evt (fun _ => some false) (B (∀ j : Int, i ≤ j → j < s.size → okc (bt s j))) := fun hc =>
        (Evt.pure false).same (B_false (fun h => hc (h i (Int.le_refl _) hlt))).symm
      have digit : Evt (fun k => if bt s i ≥ 48 then (if bt s i ≤ 57 then spec_l01Name.l0 k s (i + 1) else (if bt s i = 45 then spec_l01Name.l0 k s (i + 1) else some false)) else (if bt s i = 45 then spec_l01Name.l0 k s (i + 1) else some false)) (B (∀ j : Int, i ≤ j → j < s.size → okc (bt s j))) ∨ (65 ≤ bt s i ∧ bt s i ≤ 90) := by
        by_cases hg : 65 ≤ bt s i ∧ bt s i ≤ 90
        · exact .inr hg
        · refine .inl (Evt.ite (fun h1 => Evt.ite (fun h2 => yes (.inr (.inl ⟨h1, h2⟩))) (fun h2 => Evt.ite (fun h3 => yes (.inr (.inr h3))) (fun h3 => no (fun hk => ?_)))) (fun h1 => Evt.ite (fun h3 => yes (.inr (.inr h3))) (fun h3 => no (fun hk => ?_))))
          · rcases hk with hk | hk | hk
            · exact hg hk
            · omega
            · exact h3 hk
          · rcases hk with hk | hk | hk
            · exact hg hk
            · omega
            · exact h3 hk
      refine Evt.ite (fun h1 => Evt.ite (fun h2 => yes (.inl ⟨h1, h2⟩)) (fun h2 => ?_)) (fun h1 => ?_)
      · exact digit.resolve_right (fun h => h2 h.2)
      · exact digit.resolve_right (fun h => h1 h.1)
    · refine Evt.neg hlt ((Evt.pure true).same (B_true ?_).symm)
      intro j h1 h2
      omega
theorem specName_ev (s : ByteArray) (hs : (s.size : Int) ≤ 9223372036854775807) : Evt (fun k => spec_l01Name.f k s) (nameB s) := by
  unfold spec_l01Name.f
  have bad : ¬ NameP s → Evt (fun k => spec_l01Name.j0 k s true) (nameB s) := fun h => by
    apply Evt.succ
    simp only [spec_l01Name.j0]
    exact (Evt.pure false).same (B_false h).symm
  refine Evt.ite (fun h => bad (fun hn => by have := hn.1; omega)) (fun h1 => Evt.ite (fun h => bad (fun hn => by have := hn.2.1; omega)) (fun h2 => Evt.pos (by omega) (Evt.ite (fun h => bad (fun hn => by have := hn.2.2.1.1; omega)) (fun h3 => ?_))))
  by_cases h4 : bt s 0 > 90
  · rw [decide_eq_true h4]
    exact bad (fun hn => by have := hn.2.2.1.2; omega)
  · rw [decide_eq_false h4]
    apply Evt.succ
    simp only [spec_l01Name.j0]
    refine (specName_l s hs s.size 0 (Int.le_refl _) (by omega)).same (B_congr ⟨fun h => ⟨by omega, by omega, ⟨by omega, by omega⟩, h⟩, fun h => h.2.2.2⟩)
theorem implName_l (s : ByteArray) (hs : (s.size : Int) ≤ 9223372036854775807) (d : Nat) : ∀ i : Int, 0 ≤ i → (s.size : Int) - i ≤ d →
    Evt (fun k => impl_isName.l0 k s (s.size : Int) i) (B ((∀ j : Int, i ≤ j → j < s.size → (65 ≤ bt s j ∧ bt s j ≤ 90) ∨ (j ≠ 0 ∧ okc (bt s j))) ∧ 1 ≤ (s.size : Int) ∧ (s.size : Int) ≤ 12)) := by
  induction d with
  | zero =>
    intro i h0 hd
    apply Evt.succ
    simp only [impl_isName.l0]
    refine Evt.neg (by omega) (Evt.const ?_)
    rw [within_ev]
    exact congrArg some (B_congr ⟨fun h => ⟨fun j h1 h2 => by omega, h⟩, fun h => h.2⟩)
  | succ d ih =>
    intro i h0 hd
    apply Evt.succ
    simp only [impl_isName.l0]
    by_cases hlt : i < (s.size : Int)
    · refine Evt.pos hlt (Evt.pos h0 (Evt.pos hlt ?_))
      have hw : wrap64 (i + 1) = i + 1 := w64 (by omega) (by omega)
      rw [hw, isGreat_ev, isDigit_ev]
      have yes : ((65 ≤ bt s i ∧ bt s i ≤ 90) ∨ (i ≠ 0 ∧ okc (bt s i))) → Evt (fun k => impl_isName.l0 k s (s.size : Int) (i + 1)) (B ((∀ j : Int, i ≤ j → j < s.size → (65 ≤ bt s j ∧ bt s j ≤ 90) ∨ (j ≠ 0 ∧ okc (bt s j))) ∧ 1 ≤ (s.size : Int) ∧ (s.size : Int) ≤ 12)) := fun hc =>
        (ih (i + 1) (by omega) (by omega)).same (B_congr ⟨fun h => ⟨fun j h1 h2 => by
          by_cases e : j = i
          · rw [e]; exact hc
          · exact h.1 j (by omega) h2, h.2⟩, fun h => ⟨fun j h1 h2 => h.1 j (by omega) h2, h.2⟩⟩)
      have no : ¬ ((65 ≤ bt s i ∧ bt s i ≤ 90) ∨ (i ≠ 0 ∧ okc (bt s i))) → Evt (fun _ => some false) (B ((∀ j : Int, i ≤ j → j < s.size → (65 ≤ bt s j ∧ bt s j ≤ 90) ∨ (j ≠ 0 ∧ okc (bt s j))) ∧ 1 ≤ (s.size : Int) ∧ (s.size : Int) ≤ 12)) := fun hc =>
        (Evt.pure false).same (B_false (fun h => hc (h.1 i (Int.le_refl _) hlt))).symm
      simp only [Option.bind_some]
      refine Evt.ite (fun h1 => yes (.inl (B_iff.1 h1))) (fun h1 => ?_)
      have g1 : ¬ (65 ≤ bt s i ∧ bt s i ≤ 90) := fun h => h1 (B_iff.2 h)
      refine Evt.ite (fun h2 => no (fun h => h.elim g1 (fun h => h.1 h2))) (fun h2 => Evt.ite (fun h3 => yes (.inr ⟨h2, .inr (.inl (B_iff.1 h3))⟩)) (fun h3 => Evt.ite (fun h4 => yes (.inr ⟨h2, .inr (.inr h4)⟩)) (fun h4 => no (fun h => ?_))))
      rcases h with h | ⟨_, h | h | h⟩
      · exact g1 h
      · exact g1 h
      · exact h3 (B_iff.2 h)
      · exact h4 h
    · refine Evt.neg hlt (Evt.const ?_)
      rw [within_ev]
      exact congrArg some (B_congr ⟨fun h => ⟨fun j h1 h2 => by omega, h⟩, fun h => h.2⟩)
theorem implName_ev (s : ByteArray) (hs : (s.size : Int) ≤ 9223372036854775807) : Evt (fun k => impl_isName.f k s) (nameB s) := by
  unfold impl_isName.f
  refine (implName_l s hs s.size 0 (Int.le_refl _) (by omega)).same (B_congr ⟨fun h => ⟨h.2.1, h.2.2, ?_, ?_⟩, fun h => ⟨?_, h.1, h.2.1⟩⟩)
  · rcases h.1 0 (Int.le_refl _) (by omega) with h | h
    · exact h
    · exact absurd rfl h.1
  · intro j h1 h2
    rcases h.1 j h1 h2 with h | h
    · exact .inl h
    · exact h.2
  · intro j h1 h2
    by_cases e : j = 0
    · rw [e]; exact .inl h.2.2.1
    · exact .inr ⟨e, h.2.2.2 j h1 h2⟩
end Go.Proofs.Ytjjfjgdhloideaa.QH
namespace Go.Proofs.Ytjjfjgdhloideaa.QH
open Go.RowKit Go.Proofs.YtjjfjgdhloideaaW.PrintWords Go.Proofs.Ytjjfjgdhloideaa.Ev0
def LineP (a b : ByteArray) (n : Int) (i : ByteArray) (o s g c : Int) : Prop :=
  NameP a ∧ NameP b ∧ NameP i ∧ (1 ≤ n ∧ n ≤ 999) ∧ (1 ≤ o ∧ o ≤ 1000000) ∧ (0 ≤ s ∧ s ≤ o) ∧ (0 ≤ g ∧ g ≤ s) ∧ (0 ≤ c ∧ c ≤ wrap64 (o - s))
noncomputable def lineB (a b : ByteArray) (n : Int) (i : ByteArray) (o s g c : Int) : Bool := B (LineP a b n i o s g c)
theorem specLine_ev (a b : ByteArray) (n : Int) (i : ByteArray) (o s g c : Int) (ha : (a.size : Int) ≤ 9223372036854775807) (hb : (b.size : Int) ≤ 9223372036854775807) (hi : (i.size : Int) ≤ 9223372036854775807) :
    Evt (fun k => spec_LineRight.f k a b n i o s g c) (lineB a b n i o s g c) := by
  unfold spec_LineRight.f
  have key : Evt (fun k => spec_LineRight.f k a b n i o s g c) (B (NameP a ∧ NameP b ∧ NameP i ∧ 1 ≤ n ∧ n ≤ 999 ∧ (1 ≤ o ∧ o ≤ 1000000) ∧ 0 ≤ s ∧ 0 ≤ g ∧ 0 ≤ c ∧ g ≤ s ∧ s ≤ o ∧ c ≤ wrap64 (o - s))) := by
    unfold spec_LineRight.f
    refine Evt.bind (specName_ev a ha) (and_ B_iff fun _ => Evt.bind (specName_ev b hb) (and_ B_iff fun _ => Evt.bind (specName_ev i hi) (and_ B_iff fun _ => and_ Iff.rfl fun _ => and_ Iff.rfl fun _ => ?_)))
    rw [l01Qty_ev]
    simp only [Option.bind_some]
    exact and_ B_iff fun _ => and_ Iff.rfl fun _ => and_ Iff.rfl fun _ => and_ Iff.rfl fun _ => and_ Iff.rfl fun _ => and_ Iff.rfl fun _ => last_ Iff.rfl
  refine key.same (B_congr ⟨?_, ?_⟩)
  · rintro ⟨h1, h2, h3, h4, h5, h6, h7, h8, h9, h10, h11, h12⟩
    exact ⟨h1, h2, h3, ⟨h4, h5⟩, h6, ⟨h7, h11⟩, ⟨h8, h10⟩, ⟨h9, h12⟩⟩
  · rintro ⟨h1, h2, h3, ⟨h4, h5⟩, h6, ⟨h7, h11⟩, ⟨h8, h10⟩, ⟨h9, h12⟩⟩
    exact ⟨h1, h2, h3, h4, h5, h6, h7, h8, h9, h10, h11, h12⟩
theorem implLine_ev (a b : ByteArray) (n : Int) (i : ByteArray) (o s g c : Int) (ha : (a.size : Int) ≤ 9223372036854775807) (hb : (b.size : Int) ≤ 9223372036854775807) (hi : (i.size : Int) ≤ 9223372036854775807) :
    Evt (fun k => impl_LineRight.f k a b n i o s g c) (lineB a b n i o s g c) := by
  unfold impl_LineRight.f lineB LineP
  simp only [within_ev, isQty_ev, Option.bind_some]
  exact Evt.bind (implName_ev a ha) (and_ B_iff fun _ => Evt.bind (implName_ev b hb) (and_ B_iff fun _ => Evt.bind (implName_ev i hi) (and_ B_iff fun _ => and_ B_iff fun _ => and_ B_iff fun _ => and_ B_iff fun _ => and_ B_iff fun _ => lastB_ Iff.rfl)))
end Go.Proofs.Ytjjfjgdhloideaa.QH
namespace Go.Proofs.Ytjjfjgdhloideaa.QH
open Go.RowKit Go.Proofs.YtjjfjgdhloideaaW.PrintWords Go.Proofs.Ytjjfjgdhloideaa.Ev0
def lbefore (a b : ByteArray) (n : Int) (a' b' : ByteArray) (n' : Int) : Prop := less a a' ∨ (a.toList = a'.toList ∧ (less b b' ∨ (b.toList = b'.toList ∧ n < n')))
theorem l09Before_ev (a b : ByteArray) (n : Int) (i : ByteArray) (o s g c : Int) (a' b' : ByteArray) (n' : Int) (i' : ByteArray) (o' s' g' c' : Int) :
    spec_l09Before.f a b n i o s g c a' b' n' i' o' s' g' c' = some (B (lbefore a b n a' b' n')) := by
  unfold spec_l09Before.f lbefore
  rcases cmpS_cases a a' with ⟨h1, h2, h3, _⟩ | ⟨h1, h2, h3, _⟩ | ⟨h1, h2, h3, _⟩
  · rw [if_neg h3, B_true (.inl h1)]
    exact congrArg some h1
  · rw [if_neg h3, B_false (fun h => h.elim h1 (fun h => h3 h.1))]
    exact congrArg some (Bool.eq_false_iff.2 h1)
  · rw [if_pos h3]
    rcases cmpS_cases b b' with ⟨g1, g2, g3, _⟩ | ⟨g1, g2, g3, _⟩ | ⟨g1, g2, g3, _⟩
    · rw [if_neg g3, B_true (.inr ⟨h3, .inl g1⟩)]
      exact congrArg some g1
    · rw [if_neg g3, B_false (fun h => h.elim h1 (fun h => h.2.elim g1 (fun h => g3 h.1)))]
      exact congrArg some (Bool.eq_false_iff.2 g1)
    · rw [if_pos g3, decide_B]
      exact congrArg some (B_congr ⟨fun h => .inr ⟨h3, .inr ⟨g3, h⟩⟩, fun h => h.elim (fun h => absurd h h1) (fun h => h.2.elim (fun h => absurd h g1) (fun h => h.2))⟩)
noncomputable def lcmp (a b : ByteArray) (n : Int) (a' b' : ByteArray) (n' : Int) : Int := orL [cmpS a a', cmpS b b', cmpI n n']
theorem lineOrder_ev (a b : ByteArray) (n : Int) (i : ByteArray) (o s g c : Int) (a' b' : ByteArray) (n' : Int) (i' : ByteArray) (o' s' g' c' : Int) :
    Evt (fun k => impl_lineOrder.f k a b n i o s g c a' b' n' i' o' s' g' c') (lcmp a b n a' b' n') := by
  unfold impl_lineOrder.f
  simp only [cmpS_ev, cmpI_ev, Option.bind_some]
  exact Evt.bind (or_ev _ (by simp)) (Evt.pure _)
theorem lcmp_iff (a b : ByteArray) (n : Int) (a' b' : ByteArray) (n' : Int) : lcmp a b n a' b' n' ≥ 0 ↔ ¬ lbefore a b n a' b' n' := by
  unfold lcmp lbefore
  rcases cmpS_cases a a' with ⟨h1, h2, h3, h4⟩ | ⟨h1, h2, h3, h4⟩ | ⟨h1, h2, h3, h4⟩
  · simp [orL, h4, h1]
  · simp [orL, h4, h1, h3]
  · rcases cmpS_cases b b' with ⟨g1, g2, g3, g4⟩ | ⟨g1, g2, g3, g4⟩ | ⟨g1, g2, g3, g4⟩
    · simp [orL, h4, h1, h3, g4, g1]
    · simp [orL, h4, h1, h3, g4, g1, g3]
    · rcases cmpI_cases n n' with ⟨e1, e2⟩ | ⟨e1, e2⟩ | ⟨e1, e2⟩
      · simp [orL, h4, h1, h3, g4, g1, g3, e1, e2]
      · simp [orL, h4, h1, h3, g4, g1, g3, e2]; omega
      · subst e1
        simp [orL, h4, h1, h3, g4, g1, g3, e2]
def okS (x : S73) : Prop := (x.f0.size : Int) ≤ 9223372036854775807 ∧ (x.f1.size : Int) ≤ 9223372036854775807 ∧ (x.f3.size : Int) ≤ 9223372036854775807
def lineOk (l : List S73) (i : Int) : Prop :=
  lineB (rd_T73 l i).f0 (rd_T73 l i).f1 (rd_T73 l i).f2 (rd_T73 l i).f3 (rd_T73 l i).f4 (rd_T73 l i).f5 (rd_T73 l i).f6 (rd_T73 l i).f7 = true ∧
    (0 < i → lbefore (rd_T73 l (i - 1)).f0 (rd_T73 l (i - 1)).f1 (rd_T73 l (i - 1)).f2 (rd_T73 l i).f0 (rd_T73 l i).f1 (rd_T73 l i).f2)
def LinesP (l : List S73) : Prop := (l.length : Int) ≤ 200 ∧ ∀ i, 0 ≤ i → i < (l.length : Int) → lineOk l i
noncomputable def linesB (l : List S73) : Bool := B (LinesP l)
theorem okS_at {l : List S73} (h : ∀ x ∈ l, okS x) (i : Int) (h1 : i < (l.length : Int)) (h0 : 0 ≤ i) : okS (rd_T73 l i) := by
  unfold rd_T73
  rw [getD_at l _ _ (by omega)]
  exact h _ (List.getElem_mem _)
theorem specLines_ev (l : List S73) (hs : ∀ x ∈ l, okS x) : Evt (fun k => spec_LinesRight.f k l) (linesB l) := by
  unfold spec_LinesRight.f
  by_cases hn : (l.length : Int) > 200
  · exact Evt.pos hn ((Evt.pure false).same (B_false (fun h => by have := h.1; omega)).symm)
  · refine Evt.neg hn ?_
    refine (right_loop (l.length : Int) (by omega) (lineOk l) True (fun k i => spec_LinesRight.l0 k l i) ?_ ?_).same (B_congr ⟨fun h => ⟨by omega, h.1⟩, fun h => ⟨h.2, trivial⟩⟩)
    · intro i h0 hlt
      have hk := okS_at hs i hlt h0
      have hw : wrap64 (i + 1) = i + 1 := w64 (by omega) (by omega)
      have hw1 : wrap64 (i - 1) = i - 1 := w64 (by omega) (by omega)
      simp only [spec_LinesRight.l0, hw, hw1, l09Before_ev, Option.bind_some]
      refine ⟨fun ok r hr => ?_, fun nok => ?_⟩
      · refine Evt.pos hlt (Evt.pos h0 (Evt.bind (specLine_ev _ _ _ _ _ _ _ _ hk.1 hk.2.1 hk.2.2) (Evt.pos ok.1 (Evt.ite (fun hp => Evt.pos (by omega) (Evt.pos (by omega) (Evt.pos (B_true (ok.2 hp)) hr))) (fun _ => hr)))))
      · refine Evt.pos hlt (Evt.pos h0 (Evt.bind (specLine_ev _ _ _ _ _ _ _ _ hk.1 hk.2.1 hk.2.2) (Evt.ite (fun hl => Evt.ite (fun hp => Evt.pos (by omega) (Evt.pos (by omega) (Evt.neg (fun hb => nok ⟨hl, fun _ => B_iff.1 hb⟩) (Evt.pure _)))) (fun hp => absurd ⟨hl, fun h => absurd h hp⟩ nok)) (fun _ => Evt.pure _))))
    · simp only [spec_LinesRight.l0]
      exact Evt.neg (by omega) ((Evt.pure true).same (B_true trivial).symm)
theorem implLines_ev (l : List S73) (hs : ∀ x ∈ l, okS x) : Evt (fun k => impl_LinesRight.f k l) (linesB l) := by
  unfold impl_LinesRight.f
  by_cases hn : (l.length : Int) > 200
  · exact Evt.pos hn ((Evt.pure false).same (B_false (fun h => by have := h.1; omega)).symm)
  · refine Evt.neg hn ?_
    refine (right_loop (l.length : Int) (by omega) (lineOk l) True (fun k i => impl_LinesRight.l0 k l l (l.length : Int) i) ?_ ?_).same (B_congr ⟨fun h => ⟨by omega, h.1⟩, fun h => ⟨h.2, trivial⟩⟩)
    · intro i h0 hlt
      have hk := okS_at hs i hlt h0
      have hw : wrap64 (i + 1) = i + 1 := w64 (by omega) (by omega)
      have hw1 : wrap64 (i - 1) = i - 1 := w64 (by omega) (by omega)
      simp only [impl_LinesRight.l0, hw, hw1]
      refine ⟨fun ok r hr => ?_, fun nok => ?_⟩
      · refine Evt.pos hlt (Evt.pos h0 (Evt.pos hlt (Evt.bind (implLine_ev _ _ _ _ _ _ _ _ hk.1 hk.2.1 hk.2.2) (Evt.pos ok.1 (Evt.ite (fun hp => Evt.pos (by omega) (Evt.pos (by omega) (Evt.bind (lineOrder_ev _ _ _ _ _ _ _ _ _ _ _ _ _ _ _ _) (Evt.neg (fun h => (lcmp_iff _ _ _ _ _ _).1 h (ok.2 hp)) hr)))) (fun _ => hr))))))
      · refine Evt.pos hlt (Evt.pos h0 (Evt.pos hlt (Evt.bind (implLine_ev _ _ _ _ _ _ _ _ hk.1 hk.2.1 hk.2.2) (Evt.ite (fun hl => Evt.ite (fun hp => Evt.pos (by omega) (Evt.pos (by omega) (Evt.bind (lineOrder_ev _ _ _ _ _ _ _ _ _ _ _ _ _ _ _ _) (Evt.pos ((lcmp_iff _ _ _ _ _ _).2 (fun hb => nok ⟨hl, fun _ => hb⟩)) (Evt.pure _))))) (fun hp => absurd ⟨hl, fun h => absurd h hp⟩ nok)) (fun _ => Evt.pure _)))))
    · simp only [impl_LinesRight.l0]
      exact Evt.neg (by omega) ((Evt.pure true).same (B_true trivial).symm)
end Go.Proofs.Ytjjfjgdhloideaa.QH
namespace Go.Proofs.Ytjjfjgdhloideaa.QH
open Go.RowKit Go.Proofs.Ytjjfjgdhloideaa Go.Proofs.YtjjfjgdhloideaaW.PrintWords Go.Proofs.Ytjjfjgdhloideaa.Ev0
theorem szLine_ev (a b : ByteArray) (n : Int) (i : ByteArray) (o s g c t : Int) (h0 : 0 ≤ t) (h1 : t ≤ 1048576) (ha : (a.size : Int) ≤ 9223372036854775807) (hb : (b.size : Int) ≤ 9223372036854775807) (hi : (i.size : Int) ≤ 9223372036854775807) :
    ∃ r, laws_szOrderLine.f a b n i o s g c t = some r ∧ (r < 0 ∨ (0 ≤ r ∧ r ≤ t ∧ True)) := by
  unfold laws_szOrderLine.f
  refine sz_step h0 h1 (by omega) ha (fun g1 => ?_)
  rw [wsub h0 h1 (by omega) ha]
  refine sz_step g1 (by omega) (by omega) hb (fun g2 => ?_)
  rw [wsub g1 (by omega) (by omega) hb]
  refine sz_step g2 (by omega) (by omega) hi (fun g3 => ?_)
  rw [wsub g2 (by omega) (by omega) hi]
  exact ⟨_, rfl, .inr ⟨g3, Int.le_refl _, trivial⟩⟩
def okL (x : S113) : Prop := (x.f0.size : Int) ≤ 9223372036854775807 ∧ (x.f1.size : Int) ≤ 9223372036854775807 ∧ (x.f3.size : Int) ≤ 9223372036854775807
theorem okL_of {x : S113} (h : wf113 x) : okL x := by
  obtain ⟨h0, h1, _, h3, _⟩ := h
  have g0 : x.f0.size ≤ 2 ^ 63 - 1 := h0
  have g1 : x.f1.size ≤ 2 ^ 63 - 1 := h1
  have g3 : x.f3.size ≤ 2 ^ 63 - 1 := h3
  exact ⟨by omega, by omega, by omega⟩
theorem szLineS_ev (l : List S113) (hl : l.length ≤ 9223372036854775807) (hx : ∀ x ∈ l, okL x) (left : Int) (h0 : 0 ≤ left) (h1 : left ≤ 1048576) : SzR (fun k => laws_szOrderLineS.f k l left) left (l.length ≤ 1048576 ∧ ∀ i : Int, 0 ≤ i → i < (l.length : Int) → True) := by
  refine sz_loop l.length hl (fun _ => True) _ (fun k s i => laws_szOrderLineS.l0 k l s i) left h0 h1 (fun k => rfl) ?_ ?_
  · intro s i h0 hlt hs0 hs1
    have hw : wrap64 (i + 1) = i + 1 := w64 (by omega) (by omega)
    have hk : okL (rd_T113 l i) := by
      unfold rd_T113
      rw [getD_at l _ _ (by omega)]
      exact hx _ (List.getElem_mem _)
    obtain ⟨t, ht, h2⟩ := szLine_ev (rd_T113 l i).f0 (rd_T113 l i).f1 (rd_T113 l i).f2 (rd_T113 l i).f3 (rd_T113 l i).f4 (rd_T113 l i).f5 (rd_T113 l i).f6 (rd_T113 l i).f7 s hs0 hs1 hk.1 hk.2.1 hk.2.2
    simp only [laws_szOrderLineS.l0, ht, Option.bind_some, hw]
    rcases h2 with h2 | ⟨h2, h3, _⟩
    · exact .inl ⟨-1, by decide, Evt.pos hlt (Evt.pos h0 (Evt.pos h2 (Evt.pure _)))⟩
    · exact .inr ⟨t, h2, h3, trivial, fun r hr => Evt.pos hlt (Evt.pos h0 (Evt.neg (by omega) hr))⟩
  · intro s i hi
    simp only [laws_szOrderLineS.l0]
    exact Evt.neg (by omega) (Evt.pure _)
def cvLine (x : S113) : S73 := ⟨x.f0, x.f1, x.f2, x.f3, x.f4, x.f5, x.f6, x.f7⟩
theorem toLineS_ev (l : List S113) (hl : l.length ≤ 1048576) : Evt (fun k => laws_toOrderLineS.f k l) (l.map cvLine) := by
  unfold laws_toOrderLineS.f
  refine Evt.pos (by omega) (Evt.pos (by omega) ?_)
  rw [Int.toNat_natCast]
  refine fill_loop l z113 z73 cvLine (fun k acc i => laws_toOrderLineS.l0 k l acc i) ?_ ?_
  · intro acc i h0 hlt ha r hr
    have hw : wrap64 (i + 1) = i + 1 := w64 (by omega) (by omega)
    simp only [laws_toOrderLineS.l0, laws_toOrderLine.f, Option.bind_some, hw]
    exact Evt.pos hlt (Evt.pos h0 (Evt.pos (by omega) hr))
  · intro acc i hi
    simp only [laws_toOrderLineS.l0]
    exact Evt.neg (by omega) (Evt.pure _)
theorem eqLine_refl (a b : ByteArray) (n : Int) (i : ByteArray) (o s g c : Int) : laws_eqOrderLine.f a b n i o s g c a b n i o s g c = some true := by
  simp only [laws_eqOrderLine.f, if_true]
theorem eqLineS_refl (l : List S73) (hl : l.length ≤ 9000000) : Evt (fun k => laws_eqOrderLineS.f k l l) true := by
  unfold laws_eqOrderLineS.f
  refine Evt.pos rfl (all_loop (l.length : Int) (by omega) (fun k i => laws_eqOrderLineS.l0 k l l i) ?_ ?_)
  · intro i h0 hlt ih
    have hw : wrap64 (i + 1) = i + 1 := w64 (by omega) (by omega)
    simp only [laws_eqOrderLineS.l0, eqLine_refl, Option.bind_some, hw]
    exact Evt.pos hlt (Evt.pos h0 (Evt.pos hlt (Evt.pos (by simp) ih)))
  · simp only [laws_eqOrderLineS.l0]
    exact Evt.neg (by omega) (Evt.pure _)
theorem okS_map (l : List S113) (h : ∀ x ∈ l, okL x) : ∀ x ∈ l.map cvLine, okS x := by
  intro x hx
  obtain ⟨y, hy, rfl⟩ := List.mem_map.1 hx
  exact h y hy
end Go.Proofs.Ytjjfjgdhloideaa.QH
namespace Go.Proofs.Ytjjfjgdhloideaa.QH
open Go.RowKit Go.Proofs.Ytjjfjgdhloideaa Go.Proofs.YtjjfjgdhloideaaW.PrintWords Go.Proofs.Ytjjfjgdhloideaa.Ev0
def okK (x : S71) : Prop := (x.f0.size : Int) ≤ 9223372036854775807
theorem okK_at {l : List S71} (h : ∀ x ∈ l, okK x) (i : Int) (h1 : i < (l.length : Int)) (h0 : 0 ≤ i) : okK (rd_T71 l i) := by
  unfold rd_T71
  rw [getD_at l _ _ (by omega)]
  exact h _ (List.getElem_mem _)
def stockAt (l : List S71) (i : Int) : Prop :=
  nameB (rd_T71 l i).f0 = true ∧ (0 ≤ (rd_T71 l i).f1 ∧ (rd_T71 l i).f1 ≤ 1000000000) ∧ (0 < i → less (rd_T71 l (i - 1)).f0 (rd_T71 l i).f0)
def BookP (l : List S71) (m : List S73) : Prop := (l.length : Int) ≤ 100 ∧ (∀ i, 0 ≤ i → i < (l.length : Int) → stockAt l i) ∧ linesB m = true
noncomputable def bookB (l : List S71) (m : List S73) : Bool := B (BookP l m)
theorem specBook_ev (l : List S71) (m : List S73) (hs : ∀ x ∈ l, okK x) (hm : ∀ x ∈ m, okS x) : Evt (fun k => spec_BookRight.f k l m) (bookB l m) := by
  unfold spec_BookRight.f
  have bad : ¬ BookP l m → Evt (fun k => spec_BookRight.j0 k true l m) (bookB l m) := fun h => by
    apply Evt.succ
    simp only [spec_BookRight.j0, if_true]
    exact (Evt.pure false).same (B_false h).symm
  by_cases hn : (l.length : Int) > 100
  · exact Evt.pos hn (bad (fun h => by have := h.1; omega))
  · refine Evt.neg hn (Evt.bind (specLines_ev m hm) ?_)
    by_cases hl : linesB m = true
    · rw [hl]
      simp only [Bool.not_true]
      apply Evt.succ
      simp only [spec_BookRight.j0, Bool.false_eq_true, if_false]
      refine (right_loop (l.length : Int) (by omega) (stockAt l) True (fun k i => spec_BookRight.l0 k i l m) ?_ ?_).same (B_congr ⟨fun h => ⟨by omega, h.1, hl⟩, fun h => ⟨h.2.1, trivial⟩⟩)
      · intro i h0 hlt
        have hk := okK_at hs i hlt h0
        have hw : wrap64 (i + 1) = i + 1 := w64 (by omega) (by omega)
        have hw1 : wrap64 (i - 1) = i - 1 := w64 (by omega) (by omega)
        simp only [spec_BookRight.l0, hw, hw1]
        refine ⟨fun ok r hr => ?_, fun nok => ?_⟩
        · exact Evt.pos hlt (Evt.pos h0 (Evt.bind (specName_ev _ hk) (Evt.pos ok.1 (Evt.neg (by have := ok.2.1.1; omega) (Evt.neg (by have := ok.2.1.2; omega) (Evt.ite (fun hp => Evt.pos (by omega) (Evt.pos (by omega) (Evt.pos (ok.2.2 hp) hr))) (fun _ => hr)))))))
        · exact Evt.pos hlt (Evt.pos h0 (Evt.bind (specName_ev _ hk) (Evt.ite (fun g1 => Evt.ite (fun _ => Evt.pure _) (fun g2 => Evt.ite (fun _ => Evt.pure _) (fun g3 => Evt.ite (fun hp => Evt.pos (by omega) (Evt.pos (by omega) (Evt.neg (fun hb => nok ⟨g1, ⟨by omega, by omega⟩, fun _ => hb⟩) (Evt.pure _)))) (fun hp => absurd ⟨g1, ⟨by omega, by omega⟩, fun h => absurd h hp⟩ nok)))) (fun _ => Evt.pure _))))
      · simp only [spec_BookRight.l0]
        exact Evt.neg (by omega) ((Evt.pure true).same (B_true trivial).symm)
    · rw [Bool.eq_false_iff.2 hl]
      simp only [Bool.not_false]
      exact bad (fun h => hl h.2.2)
theorem implBook_ev (l : List S71) (m : List S73) (hs : ∀ x ∈ l, okK x) (hm : ∀ x ∈ m, okS x) : Evt (fun k => impl_BookRight.f k l m) (bookB l m) := by
  unfold impl_BookRight.f
  by_cases hn : (l.length : Int) > 100
  · exact Evt.pos hn ((Evt.pure false).same (B_false (fun h => by have := h.1; omega)).symm)
  · refine Evt.neg hn ?_
    refine (right_loop (l.length : Int) (by omega) (stockAt l) (linesB m = true) (fun k i => impl_BookRight.l0 k l (l.length : Int) i l m) ?_ ?_).same (B_congr ⟨fun h => ⟨by omega, h⟩, fun h => h.2⟩)
    · intro i h0 hlt
      have hk := okK_at hs i hlt h0
      have hw : wrap64 (i + 1) = i + 1 := w64 (by omega) (by omega)
      have hw1 : wrap64 (i - 1) = i - 1 := w64 (by omega) (by omega)
      simp only [impl_BookRight.l0, hw, hw1, within_ev, Option.bind_some]
      refine ⟨fun ok r hr => ?_, fun nok => ?_⟩
      · exact Evt.pos hlt (Evt.pos h0 (Evt.pos hlt (Evt.bind (implName_ev _ hk) (Evt.pos ok.1 (Evt.pos (B_true ok.2.1) (Evt.ite (fun hp => Evt.pos (by omega) (Evt.pos (by omega) (Evt.pos (ok.2.2 hp) hr))) (fun _ => hr)))))))
      · exact Evt.pos hlt (Evt.pos h0 (Evt.pos hlt (Evt.bind (implName_ev _ hk) (Evt.ite (fun g1 => Evt.ite (fun g2 => Evt.ite (fun hp => Evt.pos (by omega) (Evt.pos (by omega) (Evt.neg (fun hb => nok ⟨g1, B_iff.1 g2, fun _ => hb⟩) (Evt.pure _)))) (fun hp => absurd ⟨g1, B_iff.1 g2, fun h => absurd h hp⟩ nok)) (fun _ => Evt.pure _)) (fun _ => Evt.pure _)))))
    · simp only [impl_BookRight.l0]
      refine Evt.neg (by omega) (Evt.bind (implLines_ev m hm) ((Evt.pure _).same ?_))
      exact bool_B Iff.rfl
theorem szStock_ev (p : ByteArray) (n x : Int) (h0 : 0 ≤ x) (h1 : x ≤ 1048576) (hp : (p.size : Int) ≤ 9223372036854775807) : ∃ r, laws_szStock.f p n x = some r ∧ (r < 0 ∨ (0 ≤ r ∧ r ≤ x ∧ True)) := by
  unfold laws_szStock.f
  refine sz_step h0 h1 (by omega) hp (fun g1 => ?_)
  rw [wsub h0 h1 (by omega) hp]
  exact ⟨_, rfl, .inr ⟨g1, Int.le_refl _, trivial⟩⟩
def okLK (x : S111) : Prop := (x.f0.size : Int) ≤ 9223372036854775807
theorem okLK_of {x : S111} (h : wf111 x) : okLK x := by
  have g0 : x.f0.size ≤ 2 ^ 63 - 1 := h.1
  show (x.f0.size : Int) ≤ _
  omega
theorem szStockS_ev (l : List S111) (hl : l.length ≤ 9223372036854775807) (hx : ∀ x ∈ l, okLK x) (left : Int) (h0 : 0 ≤ left) (h1 : left ≤ 1048576) : SzR (fun k => laws_szStockS.f k l left) left (l.length ≤ 1048576 ∧ ∀ i : Int, 0 ≤ i → i < (l.length : Int) → True) := by
  refine sz_loop l.length hl (fun _ => True) _ (fun k s i => laws_szStockS.l0 k l s i) left h0 h1 (fun k => rfl) ?_ ?_
  · intro s i h0 hlt hs0 hs1
    have hw : wrap64 (i + 1) = i + 1 := w64 (by omega) (by omega)
    have hk : okLK (rd_T111 l i) := by
      unfold rd_T111
      rw [getD_at l _ _ (by omega)]
      exact hx _ (List.getElem_mem _)
    obtain ⟨t, ht, h2⟩ := szStock_ev (rd_T111 l i).f0 (rd_T111 l i).f1 s hs0 hs1 hk
    simp only [laws_szStockS.l0, ht, Option.bind_some, hw]
    rcases h2 with h2 | ⟨h2, h3, _⟩
    · exact .inl ⟨-1, by decide, Evt.pos hlt (Evt.pos h0 (Evt.pos h2 (Evt.pure _)))⟩
    · exact .inr ⟨t, h2, h3, trivial, fun r hr => Evt.pos hlt (Evt.pos h0 (Evt.neg (by omega) hr))⟩
  · intro s i hi
    simp only [laws_szStockS.l0]
    exact Evt.neg (by omega) (Evt.pure _)
def cvStock (x : S111) : S71 := ⟨x.f0, x.f1⟩
theorem toStockS_ev (l : List S111) (hl : l.length ≤ 1048576) : Evt (fun k => laws_toStockS.f k l) (l.map cvStock) := by
  unfold laws_toStockS.f
  refine Evt.pos (by omega) (Evt.pos (by omega) ?_)
  rw [Int.toNat_natCast]
  refine fill_loop l z111 z71 cvStock (fun k acc i => laws_toStockS.l0 k l acc i) ?_ ?_
  · intro acc i h0 hlt ha r hr
    have hw : wrap64 (i + 1) = i + 1 := w64 (by omega) (by omega)
    simp only [laws_toStockS.l0, laws_toStock.f, Option.bind_some, hw]
    exact Evt.pos hlt (Evt.pos h0 (Evt.pos (by omega) hr))
  · intro acc i hi
    simp only [laws_toStockS.l0]
    exact Evt.neg (by omega) (Evt.pure _)
theorem eqStockS_refl (l : List S71) (hl : l.length ≤ 9000000) : Evt (fun k => laws_eqStockS.f k l l) true := by
  unfold laws_eqStockS.f
  refine Evt.pos rfl (all_loop (l.length : Int) (by omega) (fun k i => laws_eqStockS.l0 k l l i) ?_ ?_)
  · intro i h0 hlt ih
    have hw : wrap64 (i + 1) = i + 1 := w64 (by omega) (by omega)
    simp only [laws_eqStockS.l0, laws_eqStock.f, if_true, Option.bind_some, hw]
    exact Evt.pos hlt (Evt.pos h0 (Evt.pos hlt ih))
  · simp only [laws_eqStockS.l0]
    exact Evt.neg (by omega) (Evt.pure _)
theorem okK_map (l : List S111) (h : ∀ x ∈ l, okLK x) : ∀ x ∈ l.map cvStock, okK x := by
  intro x hx
  obtain ⟨y, hy, rfl⟩ := List.mem_map.1 hx
  exact h y hy
theorem szBook_ev (l : List S111) (m : List S113) (hl : l.length ≤ 9223372036854775807) (hx : ∀ x ∈ l, okLK x) (hm : m.length ≤ 9223372036854775807) (hy : ∀ x ∈ m, okL x) (left : Int) (h0 : 0 ≤ left) (h1 : left ≤ 1048576) :
    SzR (fun k => laws_szBook.f k l m left) left (l.length ≤ 1048576 ∧ m.length ≤ 1048576) := by
  obtain ⟨t, ht, h2⟩ := szStockS_ev l hl hx left h0 h1
  rcases h2 with h2 | ⟨h2, h3, h4, _⟩
  · exact ⟨-1, Evt.bind ht (Evt.pos h2 (Evt.pure _)), .inl (by decide)⟩
  · obtain ⟨u, hu, g2⟩ := szLineS_ev m hm hy t h2 (by omega)
    rcases g2 with g2 | ⟨g2, g3, g4, _⟩
    · exact ⟨-1, Evt.bind ht (Evt.neg (by omega) (Evt.bind hu (Evt.pos g2 (Evt.pure _)))), .inl (by decide)⟩
    · exact ⟨u, Evt.bind ht (Evt.neg (by omega) (Evt.bind hu (Evt.neg (by omega) (Evt.pure _)))), .inr ⟨g2, by omega, h4, g4⟩⟩
theorem toBook_ev (l : List S111) (m : List S113) (hl : l.length ≤ 1048576) (hm : m.length ≤ 1048576) : Evt (fun k => laws_toBook.f k l m) (l.map cvStock, m.map cvLine) :=
  Evt.bind (toStockS_ev l hl) (Evt.bind (toLineS_ev m hm) (Evt.pure _))
theorem eqBook_refl (l : List S71) (m : List S73) (hl : l.length ≤ 9000000) (hm : m.length ≤ 9000000) : Evt (fun k => laws_eqBook.f k l m l m) true :=
  Evt.bind (eqStockS_refl l hl) (Evt.pos rfl (Evt.bind (eqLineS_refl m hm) (Evt.pos rfl (Evt.pure _))))
end Go.Proofs.Ytjjfjgdhloideaa.QH

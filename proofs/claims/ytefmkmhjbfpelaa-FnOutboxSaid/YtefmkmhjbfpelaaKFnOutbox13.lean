-- Merged by a program of this session (wip/tool/pack.py) out of its own texts for this claim.
import Derived.Deep.Slices
import Derived.ChangeArms
import Derived.WalkKit
import Derived.ProofKit
import Derived.OpenShut
import Derived.ShutString
import Derived.ChangeOld
import Derived.Below
import Derived.SizedLaws
import Derived.Lib.Strings
import Derived.Laws.Bits64
import Derived.Lib.Bytealg
import Derived.Test.YtefmkmhjbfpelaaKFnOutbox0
import Derived.Test.YtefmkmhjbfpelaaKFnOutbox1
import Derived.Test.YtefmkmhjbfpelaaKFnOutbox2
import Derived.Test.YtefmkmhjbfpelaaKFnOutbox5
namespace Go.Proofs.Ytefmkmhjbfpelaa.Rd
open Go.RowKit Go.ChangeShapes Go.WideShapes Go.Proofs.YtefmkmhjbfpelaaW.PrintWords
def Rd (P : Program) (t : TypeId) {α : Type} (d : Kd α) (wf : α → Prop) : Prop :=
  ∀ (H : Type) (enc : TypeId × Value → H) (w : World) (base : Nat) (sp : Nat → Bool) (held : Bool) (fuel : Nat) (cs : List Value) (x : DataW H × List MemPlace),
    DataW.trod enc P w base sp held fuel t cs = some x → ∃ a : α, d.K w a cs ∧ wf a
def WfInt (k : IntKind) (n : Int) : Prop := (Lit.int k n).wf = true
def WfRow {α : Type} (wf : α → Prop) (l : List α) : Prop := l.length ≤ maxLen ∧ ∀ x ∈ l, wf x
theorem rd_int {P : Program} {t : TypeId} {k : IntKind} (hu : P.underlying t = some (.int k)) : Rd P t (Kd.int k) (WfInt k) := by
  intro H enc w base sp held fuel cs x h
  cases fuel with
  | zero => simp [DataW.trod] at h
  | succ n =>
    match cs with
    | [.int k' m] =>
      simp only [DataW.trod, hu] at h
      split at h
      · rename_i hk
        obtain ⟨rfl, hw⟩ := hk
        exact ⟨m, rfl, hw⟩
      · cases h
    | [] => simp [DataW.trod, hu] at h
    | [.bool _] => simp [DataW.trod, hu] at h
    | [.float _ _] => simp [DataW.trod, hu] at h
    | [.complex _ _ _] => simp [DataW.trod, hu] at h
    | [.string _] => simp [DataW.trod, hu] at h
    | [.pointer _] => simp [DataW.trod, hu] at h
    | [.slice _ _ _] => simp [DataW.trod, hu] at h
    | [.map _] => simp [DataW.trod, hu] at h
    | [.chan _] => simp [DataW.trod, hu] at h
    | [.func _ _ _] => simp [DataW.trod, hu] at h
    | [.nilFunc] => simp [DataW.trod, hu] at h
    | [.iface _ _] => simp [DataW.trod, hu] at h
    | [.nilIface] => simp [DataW.trod, hu] at h
    | [.agg _] => simp [DataW.trod, hu] at h
    | [.tuple _] => simp [DataW.trod, hu] at h
    | _ :: _ :: _ => simp [DataW.trod, hu] at h
theorem rd_slice {P : Program} {t e : TypeId} {α : Type} {d : Kd α} {wf : α → Prop} (hu : P.underlying t = some (.slice e)) (hc : P.cellsOf e = d.sz) (hd : Rd P e d wf) : Rd P t (Kd.slice e d) (WfRow wf) := by
  intro H enc w base sp held fuel cs x h
  rcases Go.Deep.open_slice hu h with ⟨rfl, _⟩ | ⟨a, len, cap, m, n, D, Pl, rfl, hb, hl, hm, hmm, _, hx⟩
  · exact ⟨[], ⟨none, 0, rfl, Nat.le_refl _, rfl, by simp, fun h => absurd h (by simp)⟩, by simp [maxLen], by simp⟩
  · have hlm : len ≤ m := by rw [hmm]; split <;> omega
    have hall : ∀ i, i < len → ∃ cs', w.cells? base (a.add (i * P.cellsOf e)) (P.cellsOf e) = some cs' ∧ DataW.trod enc P w base sp held n e cs' = some (D i, Pl i) := fun i hi => hx i (by omega)
    have key : ∀ (k : Nat), k ≤ len → ∃ l : List α, l.length = k ∧ (∀ x ∈ l, wf x) ∧ ∀ j p, l[j]? = some p → ∃ c, c.length = d.sz ∧ d.K w p c ∧ ∀ i u, c[i]? = some u → w.cell? (a.add (j * d.sz + i)) = some u := by
      intro k
      induction k with
      | zero => intro _; exact ⟨[], rfl, by simp, by simp⟩
      | succ k ih =>
        intro hk
        obtain ⟨l, hl1, hl2, hl3⟩ := ih (by omega)
        obtain ⟨cs', h1, h2⟩ := hall k (by omega)
        obtain ⟨b, hb1, hb2⟩ := hd H enc w base sp held n cs' _ h2
        refine ⟨l ++ [b], by simp [hl1], ?_, ?_⟩
        · intro z hz
          rcases List.mem_append.1 hz with hz | hz
          · exact hl2 z hz
          · rw [List.mem_singleton.1 hz]; exact hb2
        · intro j p hj
          by_cases hjl : j < l.length
          · rw [List.getElem?_append_left hjl] at hj
            exact hl3 j p hj
          · rw [List.getElem?_append_right (by omega)] at hj
            have hj0 : j - l.length = 0 := by
              cases hz : j - l.length with
              | zero => rfl
              | succ q => rw [hz] at hj; simp at hj
            rw [hj0] at hj
            obtain rfl : b = p := by simpa using hj
            have hjk : j = k := by omega
            subst hjk
            refine ⟨cs', d.K_len hb1, hb1, fun i u hu' => ?_⟩
            obtain ⟨_, hlen', hcell⟩ := World.cells?_some h1
            have hi : i < cs'.length := by
              rcases Nat.lt_or_ge i cs'.length with h | h
              · exact h
              · rw [List.getElem?_eq_none h] at hu'; cases hu'
            have z := hcell i (by omega)
            rw [hu', Go.Deep.add_add, hc] at z
            exact z
    obtain ⟨l, hl1, hl2, hl3⟩ := key len (Nat.le_refl _)
    refine ⟨l, ⟨some a, cap, by rw [hl1], by omega, ?_⟩, by rw [hl1]; exact Nat.le_trans hl hm, hl2⟩
    exact ⟨rfl, by rw [hl1]; have : cap ≤ 2 ^ 63 - 1 := hm; omega, fun _ => ⟨a, rfl, hl3⟩⟩
end Go.Proofs.Ytefmkmhjbfpelaa.Rd
namespace Go.Proofs.Ytefmkmhjbfpelaa.QR
open Go.Proofs.Ytefmkmhjbfpelaa Go.Proofs.YtefmkmhjbfpelaaW.PrintWords
def laws_FnOutbox.Pure : Prop := ∀ (l0 : List Int), (Rd.WfRow (Rd.WfInt .u8)) l0 → ∃ k, laws_FnOutbox.f k l0 = some true
end Go.Proofs.Ytefmkmhjbfpelaa.QR
namespace Go.Proofs.Ytefmkmhjbfpelaa.Ev0
open Go.RowKit Go.Proofs.YtefmkmhjbfpelaaW.PrintWords
def Evt {α : Type} (f : Nat → Option α) (r : α) : Prop := ∃ K, ∀ k, K ≤ k → f k = some r
namespace Evt
variable {α β : Type}
theorem const {o : Option α} {r : α} (h : o = some r) : Evt (fun _ => o) r := ⟨0, fun _ _ => h⟩
theorem pure (r : α) : Evt (fun _ => some r) r := ⟨0, fun _ _ => rfl⟩
theorem bind {f : Nat → Option α} {g : Nat → α → Option β} {a : α} {r : β} (h : Evt f a) (h2 : Evt (fun k => g k a) r) : Evt (fun k => (f k).bind (g k)) r := by
  obtain ⟨K, hK⟩ := h
  obtain ⟨L, hL⟩ := h2
  refine ⟨K + L, fun k hk => ?_⟩
  show (f k).bind (g k) = some r
  rw [hK k (by omega)]
  exact hL k (by omega)
theorem succ {f : Nat → Option α} {r : α} (h : Evt (fun k => f (k + 1)) r) : Evt f r := by
  obtain ⟨K, hK⟩ := h
  refine ⟨K + 1, fun k hk => ?_⟩
  obtain ⟨m, rfl⟩ : ∃ m, k = m + 1 := ⟨k - 1, by omega⟩
  exact hK m (by omega)
theorem pos {c : Prop} [Decidable c] {f g : Nat → Option α} {r : α} (hc : c) (h : Evt f r) : Evt (fun k => if c then f k else g k) r := by
  simpa only [if_pos hc] using h
theorem neg {c : Prop} [Decidable c] {f g : Nat → Option α} {r : α} (hc : ¬ c) (h : Evt g r) : Evt (fun k => if c then f k else g k) r := by
  simpa only [if_neg hc] using h
theorem ite {c : Prop} [Decidable c] {f g : Nat → Option α} {r : α} (h1 : c → Evt f r) (h2 : ¬ c → Evt g r) : Evt (fun k => if c then f k else g k) r := by
  by_cases hc : c
  · exact pos hc (h1 hc)
  · exact neg hc (h2 hc)
theorem ex {f : Nat → Option α} {r : α} (h : Evt f r) : ∃ k, f k = some r := by
  obtain ⟨K, hK⟩ := h
  exact ⟨K, hK K (Nat.le_refl _)⟩
theorem same {f : Nat → Option α} {r r' : α} (h : Evt f r) (e : r = r') : Evt f r' := e ▸ h
end Evt
theorem w64 {x : Int} (h0 : -9223372036854775808 ≤ x) (h1 : x ≤ 9223372036854775807) : wrap64 x = x := by
  unfold wrap64
  omega
noncomputable def B (p : Prop) : Bool := @decide p (Classical.propDecidable p)
theorem B_true {p : Prop} (h : p) : B p = true := by unfold B; exact @decide_eq_true p (Classical.propDecidable p) h
theorem B_false {p : Prop} (h : ¬ p) : B p = false := by unfold B; exact @decide_eq_false p (Classical.propDecidable p) h
theorem B_iff {p : Prop} : B p = true ↔ p := by unfold B; exact @decide_eq_true_iff p (Classical.propDecidable p)
theorem B_iff_false {p : Prop} : B p = false ↔ ¬ p := by unfold B; exact @decide_eq_false_iff_not p (Classical.propDecidable p)
theorem B_congr {p q : Prop} (h : p ↔ q) : B p = B q := by rw [propext h]
theorem decide_B (p : Prop) [Decidable p] : decide p = B p := by
  by_cases h : p
  · rw [decide_eq_true h, B_true h]
  · rw [decide_eq_false h, B_false h]
theorem bool_B {b : Bool} {p : Prop} (h : b = true ↔ p) : b = B p := by
  cases b with
  | true => exact (B_true (h.1 rfl)).symm
  | false => exact (B_false (fun hp => by simpa using h.2 hp)).symm
theorem and_ {c p q : Prop} [Decidable c] {f : Nat → Option Bool} (hc : c ↔ p) (h : p → Evt f (B q)) : Evt (fun k => if c then f k else some false) (B (p ∧ q)) := by
  by_cases e : c
  · exact Evt.pos e ((h (hc.1 e)).same (B_congr ⟨fun x => ⟨hc.1 e, x⟩, fun x => x.2⟩))
  · exact Evt.neg e ((Evt.pure false).same (B_false (fun x => e (hc.2 x.1))).symm)
theorem fail_ {c p q : Prop} [Decidable c] {f : Nat → Option Bool} (hc : c ↔ ¬ p) (h : p → Evt f (B q)) : Evt (fun k => if c then some false else f k) (B (p ∧ q)) := by
  by_cases e : c
  · exact Evt.pos e ((Evt.pure false).same (B_false (fun x => hc.1 e x.1)).symm)
  · have hp : p := Classical.not_not.1 (fun x => e (hc.2 x))
    exact Evt.neg e ((h hp).same (B_congr ⟨fun x => ⟨hp, x⟩, fun x => x.2⟩))
theorem last_ {p q : Prop} [Decidable p] (h : p ↔ q) : Evt (fun _ => some (decide p)) (B q) := (Evt.pure _).same ((decide_B p).trans (B_congr h))
theorem lastB_ {p q : Prop} (h : p ↔ q) : Evt (fun _ => some (B p)) (B q) := (Evt.pure _).same (B_congr h)
end Go.Proofs.Ytefmkmhjbfpelaa.Ev0
namespace Go.Proofs.Ytefmkmhjbfpelaa.Ev0
open Go.RowKit Go.Proofs.YtefmkmhjbfpelaaW.PrintWords
theorem up_loop {σ ρ : Type} (n : Int) (F : Nat → σ → Int → Option ρ) (st : Int → σ) (r : Int → ρ)
    (step : ∀ i, 0 ≤ i → i < n → Evt (fun k => F k (st (i + 1)) (i + 1)) (r (i + 1)) → Evt (fun k => F (k + 1) (st i) i) (r i))
    (stop : Evt (fun k => F (k + 1) (st n) n) (r n)) (i : Int) (h0 : 0 ≤ i) (hn : i ≤ n) : Evt (fun k => F k (st i) i) (r i) := by
  have key : ∀ (d : Nat) (i : Int), 0 ≤ i → i ≤ n → n - i ≤ d → Evt (fun k => F k (st i) i) (r i) := by
    intro d
    induction d with
    | zero =>
      intro i h0 h1 hd
      obtain rfl : i = n := by omega
      exact stop.succ
    | succ d ih =>
      intro i h0 h1 hd
      by_cases hlt : i < n
      · exact (step i h0 hlt (ih (i + 1) (by omega) (by omega) (by omega))).succ
      · obtain rfl : i = n := by omega
        exact stop.succ
  exact key (n - i).toNat i h0 hn (by omega)
theorem getD_at {α : Type} (l : List α) (z : α) (i : Nat) (h : i < l.length) : l.getD i z = l[i] := by
  rw [List.getD_eq_getElem?_getD, List.getElem?_eq_getElem h]
  rfl
theorem all_loop (n : Int) (h0 : 0 ≤ n) (F : Nat → Int → Option Bool) (step : ∀ i, 0 ≤ i → i < n → Evt (fun k => F k (i + 1)) true → Evt (fun k => F (k + 1) i) true)
    (stop : Evt (fun k => F (k + 1) n) true) : Evt (fun k => F k 0) true :=
  up_loop n (fun k (_ : Unit) i => F k i) (fun _ => ()) (fun _ => true) step stop 0 (Int.le_refl _) h0
theorem right_loop (n : Int) (hn : 0 ≤ n) (ok : Int → Prop) (q : Prop) (F : Nat → Int → Option Bool)
    (step : ∀ i, 0 ≤ i → i < n → (ok i → ∀ r, Evt (fun k => F k (i + 1)) r → Evt (fun k => F (k + 1) i) r) ∧ (¬ ok i → Evt (fun k => F (k + 1) i) false))
    (stop : Evt (fun k => F (k + 1) n) (B q)) : Evt (fun k => F k 0) (B ((∀ i, 0 ≤ i → i < n → ok i) ∧ q)) := by
  have h := up_loop n (fun k (_ : Unit) i => F k i) (fun _ => ()) (fun i => B ((∀ j, i ≤ j → j < n → ok j) ∧ q)) ?_ ?_ 0 (Int.le_refl _) hn
  · exact h
  · intro i h0 hlt ih
    by_cases hk : ok i
    · refine ((step i h0 hlt).1 hk _ ih).same (B_congr ⟨fun h => ⟨fun j h1 h2 => ?_, h.2⟩, fun h => ⟨fun j h1 h2 => h.1 j (by omega) h2, h.2⟩⟩)
      by_cases e : j = i
      · rw [e]; exact hk
      · exact h.1 j (by omega) h2
    · exact ((step i h0 hlt).2 hk).same (B_false (fun h => hk (h.1 i (Int.le_refl _) hlt))).symm
  · exact stop.same (B_congr ⟨fun h => ⟨fun j h1 h2 => absurd h2 (by omega), h⟩, fun h => h.2⟩)
theorem find_loop (n : Int) (hn : 0 ≤ n) (p : Int → Prop) (F : Nat → Int → Option Int)
    (step : ∀ i, 0 ≤ i → i < n → (p i → Evt (fun k => F (k + 1) i) i) ∧ (¬ p i → ∀ r, Evt (fun k => F k (i + 1)) r → Evt (fun k => F (k + 1) i) r))
    (stop : Evt (fun k => F (k + 1) n) (-1)) :
    ∃ r, Evt (fun k => F k 0) r ∧ ((r = -1 ∧ ∀ j, 0 ≤ j → j < n → ¬ p j) ∨ (0 ≤ r ∧ r < n ∧ p r ∧ ∀ j, 0 ≤ j → j < r → ¬ p j)) := by
  have key : ∀ (d : Nat) (i : Int), 0 ≤ i → i ≤ n → n - i ≤ d → ∃ r, Evt (fun k => F k i) r ∧ ((r = -1 ∧ ∀ j, i ≤ j → j < n → ¬ p j) ∨ (i ≤ r ∧ r < n ∧ p r ∧ ∀ j, i ≤ j → j < r → ¬ p j)) := by
    intro d
    induction d with
    | zero =>
      intro i h0 h1 hd
      obtain rfl : i = n := by omega
      exact ⟨-1, stop.succ, .inl ⟨rfl, fun j h1 h2 => absurd h2 (by omega)⟩⟩
    | succ d ih =>
      intro i h0 h1 hd
      by_cases hlt : i < n
      · by_cases hp : p i
        · exact ⟨i, ((step i h0 hlt).1 hp).succ, .inr ⟨Int.le_refl _, hlt, hp, fun j h1 h2 => absurd h2 (by omega)⟩⟩
        · obtain ⟨r, hr, h⟩ := ih (i + 1) (by omega) (by omega) (by omega)
          refine ⟨r, ((step i h0 hlt).2 hp r hr).succ, ?_⟩
          rcases h with ⟨h1, h2⟩ | ⟨h1, h2, h3, h4⟩
          · refine .inl ⟨h1, fun j g1 g2 => ?_⟩
            by_cases e : j = i
            · rw [e]; exact hp
            · exact h2 j (by omega) g2
          · refine .inr ⟨by omega, h2, h3, fun j g1 g2 => ?_⟩
            by_cases e : j = i
            · rw [e]; exact hp
            · exact h4 j (by omega) g2
      · obtain rfl : i = n := by omega
        exact ⟨-1, stop.succ, .inl ⟨rfl, fun j h1 h2 => absurd h2 (by omega)⟩⟩
  exact key n.toNat 0 (Int.le_refl _) hn (by omega)
theorem bytes_nil {a : ByteArray} : a.toList = ([] : List UInt8) ↔ a.size = 0 := by
  rw [Lib.toList_data]
  cases a with | mk x => cases x with | mk x => simp [ByteArray.size]
end Go.Proofs.Ytefmkmhjbfpelaa.Ev0
namespace Go.Proofs.Ytefmkmhjbfpelaa.QR
open Go.RowKit Go.Proofs.YtefmkmhjbfpelaaW.PrintWords Go.Proofs.Ytefmkmhjbfpelaa.Ev0
theorem u64_nonneg' {n : Int} (h0 : 0 ≤ n) (h1 : n ≤ 18446744073709551615) : IntKind.u64.wrap n = n := by rw [IntKind.wrap_u64]; omega
def Pl (b : List Int) (t : Int) : Prop := 0 ≤ t ∧ t ≤ (b.length : Int)
theorem tm_lt (x a : Int) (h1 : 1 < a) (h2 : a ≤ 9223372036854775807) : 0 ≤ wrap64 (Int.tmod (IntKind.u64.wrap x) (IntKind.u64.wrap a)) ∧ wrap64 (Int.tmod (IntKind.u64.wrap x) (IntKind.u64.wrap a)) < a := by
  rw [u64_nonneg' (n := a) (by omega) (by omega)]
  have hx : 0 ≤ IntKind.u64.wrap x := by rw [IntKind.wrap_u64]; omega
  have e : Int.tmod (IntKind.u64.wrap x) a = IntKind.u64.wrap x % a := Int.tmod_eq_emod_of_nonneg hx
  have h3 := Int.emod_nonneg (IntKind.u64.wrap x) (show a ≠ 0 by omega)
  have h4 := Int.emod_lt_of_pos (IntKind.u64.wrap x) (show 0 < a by omega)
  rw [e, w64 (by omega) (by omega)]
  exact ⟨h3, h4⟩
theorem n_ev (b : List Int) (hb : (b.length : Int) ≤ 1048576) (t m s a : Int) (ht : Pl b t) (ha : a ≤ 9223372036854775807) :
    ∃ r t' m', spec_l01Src_n.f b t m s a = some (r, t', m', s) ∧ Pl b t' ∧ 0 ≤ r ∧ (r = 0 ∨ r < a) := by
  obtain ⟨h0, h1⟩ := ht
  unfold spec_l01Src_n.f spec_l01Src_n_res.f spec_l01Src_n_resZ.f
  by_cases g1 : a ≤ 1
  · rw [if_pos g1]
    exact ⟨_, _, _, rfl, ⟨h0, h1⟩, Int.le_refl _, .inl rfl⟩
  · rw [if_neg g1]
    have hz : ¬ IntKind.u64.wrap a = 0 := by rw [u64_nonneg' (n := a) (by omega) (by omega)]; omega
    rw [if_neg hz]
    by_cases g2 : t < (b.length : Int)
    · rw [if_pos g2, if_pos h0, w64 (x := t + 1) (by omega) (by omega)]
      have := tm_lt (IntKind.u64.wrap (rd b t) + spec_l01Src_n_mix.f m / 1048576) a (by omega) ha
      exact ⟨_, _, _, rfl, ⟨by omega, by omega⟩, this.1, .inr this.2⟩
    · rw [if_neg g2]
      have := tm_lt (spec_l01Src_n_mix.f m / 1048576) a (by omega) ha
      exact ⟨_, _, _, rfl, ⟨h0, h1⟩, this.1, .inr this.2⟩
theorem pick_ev (b : List Int) (hb : (b.length : Int) ≤ 1048576) (t m s : Int) (ht : Pl b t) (l : List ByteArray) (hl0 : 0 < l.length) (hl : l.length ≤ 1000) :
    ∃ x t' m', spec_l01Src_pick.f b t m s l = some (x, t', m', s) ∧ Pl b t' ∧ x ∈ l := by
  obtain ⟨r, t', m', h, hp, h0, h1⟩ := n_ev b hb t m s (l.length : Int) ht (by omega)
  unfold spec_l01Src_pick.f
  rw [h]
  simp only [Option.bind_some]
  have hr : r.toNat < l.length := by omega
  rw [if_pos h0, if_pos (show r < (l.length : Int) by omega)]
  refine ⟨_, _, _, rfl, hp, ?_⟩
  unfold rdOf
  rw [getD_at l _ _ hr]
  exact List.getElem_mem hr
theorem draw_one_ev (b : List Int) (hb : (b.length : Int) ≤ 1048576) (t m s a : Int) (ht : Pl b t) (ha : a ≤ 9223372036854775807) :
    ∃ (r : Bool) (t' m' : Int), spec_l01Src_one.f b t m s a = some (r, t', m', s) ∧ Pl b t' := by
  obtain ⟨r, t', m', h, hp, _, _⟩ := n_ev b hb t m s a ht ha
  unfold spec_l01Src_one.f
  rw [h]
  exact ⟨_, _, _, rfl, hp⟩
theorem src_l (l : List Int) (hl : (l.length : Int) ≤ 1048576) (d : Nat) : ∀ (i m : Int), 0 ≤ i → 64 - i ≤ d → ∃ m' sz, Evt (fun k => spec_l01Source.l0 k l i l 0 m 0) (l, 0, m', sz) ∧ 0 ≤ sz ∧ sz ≤ 12 := by
  have fin : ∀ m : Int, ∃ m' sz, Evt (fun _ => if wrap64 ((l.length : Int) / 20) > 12 then some (l, (0 : Int), m, (12 : Int)) else some (l, 0, m, wrap64 ((l.length : Int) / 20))) (l, 0, m', sz) ∧ 0 ≤ sz ∧ sz ≤ 12 := by
    intro m
    have hw : wrap64 ((l.length : Int) / 20) = (l.length : Int) / 20 := w64 (by omega) (by omega)
    rw [hw]
    by_cases h : (l.length : Int) / 20 > 12
    · rw [if_pos h]
      exact ⟨m, 12, Evt.pure _, by decide, by decide⟩
    · rw [if_neg h]
      exact ⟨m, _, Evt.pure _, by omega, by omega⟩
  induction d with
  | zero =>
    intro i m h0 hd
    obtain ⟨m', sz, h, h2⟩ := fin m
    refine ⟨m', sz, Evt.succ ?_, h2⟩
    simp only [spec_l01Source.l0]
    exact Evt.ite (fun _ => Evt.neg (by omega) h) (fun _ => h)
  | succ d ih =>
    intro i m h0 hd
    by_cases g1 : i < (l.length : Int)
    · by_cases g2 : i < 64
      · have hw : wrap64 (i + 1) = i + 1 := w64 (by omega) (by omega)
        obtain ⟨m', sz, h, h2⟩ := ih (i + 1) (IntKind.u64.wrap ((Go.bits .xor .u64 m (IntKind.u64.wrap (rd l i))) * 1099511628211)) (by omega) (by omega)
        refine ⟨m', sz, Evt.succ ?_, h2⟩
        simp only [spec_l01Source.l0, hw]
        exact Evt.pos g1 (Evt.pos g2 (Evt.pos h0 h))
      · obtain ⟨m', sz, h, h2⟩ := fin m
        refine ⟨m', sz, Evt.succ ?_, h2⟩
        simp only [spec_l01Source.l0]
        exact Evt.pos g1 (Evt.neg g2 h)
    · obtain ⟨m', sz, h, h2⟩ := fin m
      refine ⟨m', sz, Evt.succ ?_, h2⟩
      simp only [spec_l01Source.l0]
      exact Evt.neg g1 h
theorem src_ev (l : List Int) (hl : (l.length : Int) ≤ 1048576) : ∃ m sz, Evt (fun k => spec_l01Source.f k l) (l, 0, m, sz) ∧ 0 ≤ sz ∧ sz ≤ 12 := src_l l hl 64 0 _ (Int.le_refl _) (by omega)
end Go.Proofs.Ytefmkmhjbfpelaa.QR
namespace Go.Proofs.Ytefmkmhjbfpelaa.QR
open Go.RowKit Go.Proofs.YtefmkmhjbfpelaaW.PrintWords Go.Proofs.Ytefmkmhjbfpelaa.Ev0
def less (a b : ByteArray) : Prop := Op.bytesLess a.toList b.toList = true
noncomputable def cmpS (a b : ByteArray) : Int := if Op.bytesLess a.toList b.toList = true then -1 else if Op.bytesLess b.toList a.toList = true then 1 else 0
def cmpI (a b : Int) : Int := if a < b then -1 else if a > b then 1 else 0
theorem cmpS_ev (a b : ByteArray) : cmp_Compare_string.f a b = some (cmpS a b) := by
  have e1 : ∀ x : ByteArray, cmp_isNaN_string.f x = some false := fun x => by simp [cmp_isNaN_string.f]
  unfold cmp_Compare_string.f cmpS
  simp only [e1, Option.bind_some, Bool.false_eq_true, if_false]
  split
  · rfl
  · split <;> rfl
theorem cmpI_ev (a b : Int) : cmp_Compare_int64.f a b = some (cmpI a b) := by
  have e1 : ∀ x : Int, cmp_isNaN_int64.f x = some false := fun x => by simp [cmp_isNaN_int64.f]
  unfold cmp_Compare_int64.f cmpI
  simp only [e1, Option.bind_some, Bool.false_eq_true, if_false]
  split
  · rfl
  · split <;> rfl
theorem cmpS_cases (a b : ByteArray) : (less a b ∧ ¬ less b a ∧ ¬ a.toList = b.toList ∧ cmpS a b = -1) ∨ (¬ less a b ∧ less b a ∧ ¬ a.toList = b.toList ∧ cmpS a b = 1) ∨ (¬ less a b ∧ ¬ less b a ∧ a.toList = b.toList ∧ cmpS a b = 0) := by
  have t1 := Bs.less_tri a.toList b.toList
  have t2 := Bs.less_tri b.toList a.toList
  unfold less cmpS
  cases h1 : Op.bytesLess a.toList b.toList <;> cases h2 : Op.bytesLess b.toList a.toList
  · right; right
    rw [h1, h2] at t1
    refine ⟨by simp, by simp, by simpa using t1, by simp⟩
  · right; left
    refine ⟨by simp, by simp, ?_, by simp⟩
    intro e
    rw [e, Bs.less_irrefl] at h2
    cases h2
  · left
    refine ⟨by simp, by simp, ?_, by simp⟩
    intro e
    rw [e, Bs.less_irrefl] at h1
    cases h1
  · rw [h1, h2] at t1
    simp at t1
theorem cmpI_cases (a b : Int) : (a < b ∧ cmpI a b = -1) ∨ (b < a ∧ cmpI a b = 1) ∨ (a = b ∧ cmpI a b = 0) := by
  unfold cmpI
  split
  · left; exact ⟨by assumption, rfl⟩
  · split
    · right; left; exact ⟨by omega, rfl⟩
    · right; right; exact ⟨by omega, rfl⟩
def orL : List Int → Int
  | [] => 0
  | x :: xs => if x = 0 then orL xs else x
theorem or_ev (l : List Int) (hl : l.length ≤ 1000) : Evt (fun k => cmp_Or_int.f k l) (orL l) := by
  unfold cmp_Or_int.f
  have h := up_loop (l.length : Int) (fun k (_ : Unit) i => cmp_Or_int.l0 k 0 l (l.length : Int) i) (fun _ => ()) (fun i => orL (l.drop i.toNat)) ?_ ?_ 0 (Int.le_refl _) (by omega)
  · simpa using h
  · intro i h0 hlt ih
    simp only [cmp_Or_int.l0]
    refine Evt.pos hlt (Evt.pos h0 (Evt.pos hlt ?_))
    rw [w64 (show -9223372036854775808 ≤ i + 1 by omega) (by omega)]
    have hi : i.toNat < l.length := by omega
    have e : l.drop i.toNat = rd l i :: l.drop (i + 1).toNat := by
      rw [show (i + 1).toNat = i.toNat + 1 by omega, List.drop_eq_getElem_cons hi]
      congr 1
      unfold rd
      rw [getD_at l 0 _ hi]
    rw [e]
    unfold orL
    by_cases hz : rd l i = 0
    · rw [if_pos hz]
      exact Evt.pos hz ih
    · rw [if_neg hz]
      exact Evt.neg hz (Evt.pure _)
  · simp only [cmp_Or_int.l0]
    refine Evt.neg (by omega) ((Evt.pure _).same ?_)
    simp [orL]
end Go.Proofs.Ytefmkmhjbfpelaa.QR
namespace Go.Proofs.Ytefmkmhjbfpelaa.QR
open Go.RowKit Go.Proofs.YtefmkmhjbfpelaaW.PrintWords Go.Proofs.Ytefmkmhjbfpelaa.Ev0
theorem within_ev (a b c : Int) : impl_within.f a b c = some (B (b ≤ a ∧ a ≤ c)) := by
  unfold impl_within.f
  by_cases h : b ≤ a
  · rw [if_pos h, decide_B]
    exact congrArg some (B_congr ⟨fun x => ⟨h, x⟩, fun x => x.2⟩)
  · rw [if_neg h, B_false (fun x => h x.1)]
theorem isGreat_ev (c : Int) : impl_isGreat.f c = some (B (65 ≤ c ∧ c ≤ 90)) := by
  unfold impl_isGreat.f
  by_cases h : c ≥ 65
  · rw [if_pos h, decide_B]
    exact congrArg some (B_congr ⟨fun x => ⟨h, x⟩, fun x => x.2⟩)
  · rw [if_neg h, B_false (fun x => h x.1)]
theorem isDigit_ev (c : Int) : impl_isDigit.f c = some (B (48 ≤ c ∧ c ≤ 57)) := by
  unfold impl_isDigit.f
  by_cases h : c ≥ 48
  · rw [if_pos h, decide_B]
    exact congrArg some (B_congr ⟨fun x => ⟨h, x⟩, fun x => x.2⟩)
  · rw [if_neg h, B_false (fun x => h x.1)]
def okc (c : Int) : Prop := (65 ≤ c ∧ c ≤ 90) ∨ (48 ≤ c ∧ c ≤ 57) ∨ c = 45
def NameP (s : ByteArray) : Prop := 1 ≤ (s.size : Int) ∧ (s.size : Int) ≤ 12 ∧ (65 ≤ bt s 0 ∧ bt s 0 ≤ 90) ∧ ∀ j : Int, 0 ≤ j → j < s.size → okc (bt s j)
noncomputable def nameB (s : ByteArray) : Bool := B (NameP s)
theorem specName_l (s : ByteArray) (hs : (s.size : Int) ≤ 9223372036854775807) (d : Nat) : ∀ i : Int, 0 ≤ i → (s.size : Int) - i ≤ d → Evt (fun k => spec_l01Name.l0 k s i) (B (∀ j : Int, i ≤ j → j < s.size → okc (bt s j))) := by
  induction d with
  | zero =>
    intro i h0 hd
    apply Evt.succ
    simp only [spec_l01Name.l0]
    refine Evt.neg (by omega) ((Evt.pure true).same (B_true ?_).symm)
    intro j h1 h2
    omega
  | succ d ih =>
    intro i h0 hd
    apply Evt.succ
    simp only [spec_l01Name.l0]
    by_cases hlt : i < (s.size : Int)
    · refine Evt.pos hlt (Evt.pos h0 ?_)
      have hw : wrap64 (i + 1) = i + 1 := w64 (by omega) (by omega)
      rw [hw]
      have yes : okc (bt s i) → Evt (fun k => spec_l01Name.l0 k s (i + 1)) (B (∀ j : Int, i ≤ j → j < s.size → okc (bt s j))) := fun hc =>
        (ih (i + 1) (by omega) (by omega)).same (B_congr ⟨fun h j h1 h2 => by
          by_cases e : j = i
          · rw [e]; exact hc
          · exact h j (by omega) h2, fun h j h1 h2 => h j (by omega) h2⟩)
      have no : ¬ okc (bt s i) → Evt (fun _ => some false) (B (∀ j : Int, i ≤ j → j < s.size → okc (bt s j))) := fun hc =>
        (Evt.pure false).same (B_false (fun h => hc (h i (Int.le_refl _) hlt))).symm
      have digit : Evt (fun k => if bt s i ≥ 48 then (if bt s i ≤ 57 then spec_l01Name.l0 k s (i + 1) else (if bt s i = 45 then spec_l01Name.l0 k s (i + 1) else some false)) else (if bt s i = 45 then spec_l01Name.l0 k s (i + 1) else some false)) (B (∀ j : Int, i ≤ j → j < s.size → okc (bt s j))) ∨ (65 ≤ bt s i ∧ bt s i ≤ 90) := by
        by_cases hg : 65 ≤ bt s i ∧ bt s i ≤ 90
        · exact .inr hg
        · refine .inl (Evt.ite (fun h1 => Evt.ite (fun h2 => yes (.inr (.inl ⟨h1, h2⟩))) (fun h2 => Evt.ite (fun h3 => yes (.inr (.inr h3))) (fun h3 => no (fun hk => ?_)))) (fun h1 => Evt.ite (fun h3 => yes (.inr (.inr h3))) (fun h3 => no (fun hk => ?_))))
          · rcases hk with hk | hk | hk
            · exact hg hk
            · omega
            · exact h3 hk
          · rcases hk with hk | hk | hk
            · exact hg hk
            · omega
            · exact h3 hk
      refine Evt.ite (fun h1 => Evt.ite (fun h2 => yes (.inl ⟨h1, h2⟩)) (fun h2 => ?_)) (fun h1 => ?_)
      · exact digit.resolve_right (fun h => h2 h.2)
      · exact digit.resolve_right (fun h => h1 h.1)
    · refine Evt.neg hlt ((Evt.pure true).same (B_true ?_).symm)
      intro j h1 h2
      omega
theorem specName_ev (s : ByteArray) (hs : (s.size : Int) ≤ 9223372036854775807) : Evt (fun k => spec_l01Name.f k s) (nameB s) := by
  unfold spec_l01Name.f
  have bad : ¬ NameP s → Evt (fun k => spec_l01Name.j0 k s true) (nameB s) := fun h => by
    apply Evt.succ
    simp only [spec_l01Name.j0]
    exact (Evt.pure false).same (B_false h).symm
  refine Evt.ite (fun h => bad (fun hn => by have := hn.1; omega)) (fun h1 => Evt.ite (fun h => bad (fun hn => by have := hn.2.1; omega)) (fun h2 => Evt.pos (by omega) (Evt.ite (fun h => bad (fun hn => by have := hn.2.2.1.1; omega)) (fun h3 => ?_))))
  by_cases h4 : bt s 0 > 90
  · rw [decide_eq_true h4]
    exact bad (fun hn => by have := hn.2.2.1.2; omega)
  · rw [decide_eq_false h4]
    apply Evt.succ
    simp only [spec_l01Name.j0]
    refine (specName_l s hs s.size 0 (Int.le_refl _) (by omega)).same (B_congr ⟨fun h => ⟨by omega, by omega, ⟨by omega, by omega⟩, h⟩, fun h => h.2.2.2⟩)
theorem implName_l (s : ByteArray) (hs : (s.size : Int) ≤ 9223372036854775807) (d : Nat) : ∀ i : Int, 0 ≤ i → (s.size : Int) - i ≤ d →
    Evt (fun k => impl_isName.l0 k s (s.size : Int) i) (B ((∀ j : Int, i ≤ j → j < s.size → (65 ≤ bt s j ∧ bt s j ≤ 90) ∨ (j ≠ 0 ∧ okc (bt s j))) ∧ 1 ≤ (s.size : Int) ∧ (s.size : Int) ≤ 12)) := by
  induction d with
  | zero =>
    intro i h0 hd
    apply Evt.succ
    simp only [impl_isName.l0]
    refine Evt.neg (by omega) (Evt.const ?_)
    rw [within_ev]
    exact congrArg some (B_congr ⟨fun h => ⟨fun j h1 h2 => by omega, h⟩, fun h => h.2⟩)
  | succ d ih =>
    intro i h0 hd
    apply Evt.succ
    simp only [impl_isName.l0]
    by_cases hlt : i < (s.size : Int)
    · refine Evt.pos hlt (Evt.pos h0 (Evt.pos hlt ?_))
      have hw : wrap64 (i + 1) = i + 1 := w64 (by omega) (by omega)
      rw [hw, isGreat_ev, isDigit_ev]
      have yes : ((65 ≤ bt s i ∧ bt s i ≤ 90) ∨ (i ≠ 0 ∧ okc (bt s i))) → Evt (fun k => impl_isName.l0 k s (s.size : Int) (i + 1)) (B ((∀ j : Int, i ≤ j → j < s.size → (65 ≤ bt s j ∧ bt s j ≤ 90) ∨ (j ≠ 0 ∧ okc (bt s j))) ∧ 1 ≤ (s.size : Int) ∧ (s.size : Int) ≤ 12)) := fun hc =>
        (ih (i + 1) (by omega) (by omega)).same (B_congr ⟨fun h => ⟨fun j h1 h2 => by
          by_cases e : j = i
          · rw [e]; exact hc
          · exact h.1 j (by omega) h2, h.2⟩, fun h => ⟨fun j h1 h2 => h.1 j (by omega) h2, h.2⟩⟩)
      have no : ¬ ((65 ≤ bt s i ∧ bt s i ≤ 90) ∨ (i ≠ 0 ∧ okc (bt s i))) → Evt (fun _ => some false) (B ((∀ j : Int, i ≤ j → j < s.size → (65 ≤ bt s j ∧ bt s j ≤ 90) ∨ (j ≠ 0 ∧ okc (bt s j))) ∧ 1 ≤ (s.size : Int) ∧ (s.size : Int) ≤ 12)) := fun hc =>
        (Evt.pure false).same (B_false (fun h => hc (h.1 i (Int.le_refl _) hlt))).symm
      simp only [Option.bind_some]
      refine Evt.ite (fun h1 => yes (.inl (B_iff.1 h1))) (fun h1 => ?_)
      have g1 : ¬ (65 ≤ bt s i ∧ bt s i ≤ 90) := fun h => h1 (B_iff.2 h)
      refine Evt.ite (fun h2 => no (fun h => h.elim g1 (fun h => h.1 h2))) (fun h2 => Evt.ite (fun h3 => yes (.inr ⟨h2, .inr (.inl (B_iff.1 h3))⟩)) (fun h3 => Evt.ite (fun h4 => yes (.inr ⟨h2, .inr (.inr h4)⟩)) (fun h4 => no (fun h => ?_))))
      rcases h with h | ⟨_, h | h | h⟩
      · exact g1 h
      · exact g1 h
      · exact h3 (B_iff.2 h)
      · exact h4 h
    · refine Evt.neg hlt (Evt.const ?_)
      rw [within_ev]
      exact congrArg some (B_congr ⟨fun h => ⟨fun j h1 h2 => by omega, h⟩, fun h => h.2⟩)
theorem implName_ev (s : ByteArray) (hs : (s.size : Int) ≤ 9223372036854775807) : Evt (fun k => impl_isName.f k s) (nameB s) := by
  unfold impl_isName.f
  refine (implName_l s hs s.size 0 (Int.le_refl _) (by omega)).same (B_congr ⟨fun h => ⟨h.2.1, h.2.2, ?_, ?_⟩, fun h => ⟨?_, h.1, h.2.1⟩⟩)
  · rcases h.1 0 (Int.le_refl _) (by omega) with h | h
    · exact h
    · exact absurd rfl h.1
  · intro j h1 h2
    rcases h.1 j h1 h2 with h | h
    · exact .inl h
    · exact h.2
  · intro j h1 h2
    by_cases e : j = 0
    · rw [e]; exact .inl h.2.2.1
    · exact .inr ⟨e, h.2.2.2 j h1 h2⟩
end Go.Proofs.Ytefmkmhjbfpelaa.QR
namespace Go.Proofs.Ytefmkmhjbfpelaa.QR
open Go.RowKit Go.Proofs.YtefmkmhjbfpelaaW.PrintWords Go.Proofs.Ytefmkmhjbfpelaa.Ev0
theorem longText_ev (l : List ByteArray) (hl : l.length ≤ 1000) : Evt (fun k => impl_longText.f k l) (B (∃ x ∈ l, (x.size : Int) > 20000)) := by
  unfold impl_longText.f slices_ContainsFunc_string_string_impl_longText_1.f slices_IndexFunc_string_string_impl_longText_1.f
  obtain ⟨r, hr, h⟩ := find_loop (l.length : Int) (by omega) (fun i => ((rdOf ByteArray.empty l i).size : Int) > 20000) (fun k i => slices_IndexFunc_string_string_impl_longText_1.l0 k l (l.length : Int) i) (by
      intro i h0 hlt
      have hw : wrap64 (i + 1) = i + 1 := w64 (by omega) (by omega)
      simp only [slices_IndexFunc_string_string_impl_longText_1.l0, impl_longText_1.f, Option.bind_some, hw]
      exact ⟨fun hp => Evt.pos hlt (Evt.pos h0 (Evt.pos hlt (Evt.pos (decide_eq_true hp) (Evt.pure _)))), fun hp r hr => Evt.pos hlt (Evt.pos h0 (Evt.pos hlt (Evt.neg (by simpa using hp) hr)))⟩) (by
      simp only [slices_IndexFunc_string_string_impl_longText_1.l0]
      exact Evt.neg (by omega) (Evt.pure _))
  have at_ : ∀ i : Int, 0 ≤ i → i < (l.length : Int) → rdOf ByteArray.empty l i ∈ l := fun i h0 h1 => by
    unfold rdOf
    rw [getD_at l _ _ (by omega)]
    exact List.getElem_mem _
  refine Evt.bind (Evt.bind hr (Evt.pure _)) ((Evt.pure _).same ?_)
  rw [decide_B]
  refine B_congr ⟨fun hg => ?_, fun ⟨x, hx, hg⟩ => ?_⟩
  · rcases h with ⟨h1, _⟩ | ⟨h1, h2, h3, _⟩
    · omega
    · exact ⟨_, at_ r h1 h2, h3⟩
  · rcases h with ⟨h1, h2⟩ | ⟨h1, _⟩
    · obtain ⟨i, hi, rfl⟩ := List.mem_iff_getElem.1 hx
      refine absurd ?_ (h2 i (by omega) (by omega))
      show ((rdOf ByteArray.empty l (i : Int)).size : Int) > 20000
      unfold rdOf
      rw [Int.toNat_natCast, getD_at l _ _ hi]
      exact hg
    · exact h1
theorem longText1_ev (s : ByteArray) : Evt (fun k => impl_longText.f k [s]) (B ((s.size : Int) > 20000)) :=
  (longText_ev [s] (by simp)).same (B_congr ⟨fun ⟨x, hx, h⟩ => by rw [List.mem_singleton.1 hx] at h; exact h, fun h => ⟨s, by simp, h⟩⟩)
end Go.Proofs.Ytefmkmhjbfpelaa.QR
namespace Go.Proofs.Ytefmkmhjbfpelaa.QR
open Go.RowKit Go.Proofs.Ytefmkmhjbfpelaa Go.Proofs.YtefmkmhjbfpelaaW.PrintWords Go.Proofs.Ytefmkmhjbfpelaa.Ev0
def OutP (p : ByteArray) (n : Int) (t : ByteArray) (tr due : Int) : Prop := NameP p ∧ (1 ≤ n ∧ n ≤ 999999) ∧ 1 ≤ (t.size : Int) ∧ (t.size : Int) ≤ 20000 ∧ (0 ≤ tr ∧ tr ≤ 5) ∧ (0 ≤ due ∧ due ≤ 100000)
noncomputable def outB (p : ByteArray) (n : Int) (t : ByteArray) (tr due : Int) : Bool := B (OutP p n t tr due)
theorem l01Control_ev (n : Int) : spec_l01Control.f n = some (B (1 ≤ n ∧ n ≤ 999999)) := by
  unfold spec_l01Control.f
  by_cases h : n ≥ 1
  · rw [if_pos h, decide_B]
    exact congrArg some (B_congr ⟨fun x => ⟨h, x⟩, fun x => x.2⟩)
  · rw [if_neg h, B_false (fun x => h x.1)]
theorem l01Day_ev (n : Int) : spec_l01Day.f n = some (B (0 ≤ n ∧ n ≤ 100000)) := by
  unfold spec_l01Day.f
  by_cases h : n ≥ 0
  · rw [if_pos h, decide_B]
    exact congrArg some (B_congr ⟨fun x => ⟨h, x⟩, fun x => x.2⟩)
  · rw [if_neg h, B_false (fun x => h x.1)]
theorem isControl_ev (n : Int) : impl_isControl.f n = some (B (1 ≤ n ∧ n ≤ 999999)) := by
  unfold impl_isControl.f
  rw [within_ev]
  rfl
theorem isDay_ev (n : Int) : impl_isDay.f n = some (B (0 ≤ n ∧ n ≤ 100000)) := by
  unfold impl_isDay.f
  rw [within_ev]
  rfl
theorem specOut_ev (p : ByteArray) (n : Int) (t : ByteArray) (tr due : Int) (hp : (p.size : Int) ≤ 9223372036854775807) : Evt (fun k => spec_l12Out.f k p n t tr due) (outB p n t tr due) := by
  have key : Evt (fun k => spec_l12Out.f k p n t tr due) (B (NameP p ∧ (1 ≤ n ∧ n ≤ 999999) ∧ 1 ≤ (t.size : Int) ∧ (t.size : Int) ≤ 20000 ∧ 0 ≤ tr ∧ tr ≤ 5 ∧ (0 ≤ due ∧ due ≤ 100000))) := by
    unfold spec_l12Out.f
    simp only [l01Control_ev, l01Day_ev, Option.bind_some]
    exact Evt.bind (specName_ev p hp) (and_ B_iff fun _ => and_ B_iff fun _ => and_ Iff.rfl fun _ => and_ Iff.rfl fun _ => and_ Iff.rfl fun _ => and_ Iff.rfl fun _ => lastB_ Iff.rfl)
  refine key.same (B_congr ⟨?_, ?_⟩)
  · rintro ⟨h1, h2, h3, h4, h5, h6, h7⟩
    exact ⟨h1, h2, h3, h4, ⟨h5, h6⟩, h7⟩
  · rintro ⟨h1, h2, h3, h4, ⟨h5, h6⟩, h7⟩
    exact ⟨h1, h2, h3, h4, h5, h6, h7⟩
theorem isOut_ev (p : ByteArray) (n : Int) (t : ByteArray) (tr due : Int) (hp : (p.size : Int) ≤ 9223372036854775807) : Evt (fun k => impl_isOut.f k p n t tr due) (outB p n t tr due) := by
  unfold impl_isOut.f outB OutP
  simp only [isControl_ev, isDay_ev, within_ev, Option.bind_some]
  refine Evt.bind (implName_ev p hp) (and_ B_iff fun _ => and_ B_iff fun _ => fail_ (p := 1 ≤ (t.size : Int)) (by rw [bytes_nil]; omega) fun _ => Evt.bind (longText1_ev t) (fail_ (p := (t.size : Int) ≤ 20000) ?_ fun _ => and_ B_iff fun _ => lastB_ Iff.rfl))
  rw [B_iff]
  omega
def obefore (p : ByteArray) (n : Int) (p' : ByteArray) (n' : Int) : Prop := less p p' ∨ (p.toList = p'.toList ∧ n < n')
theorem l12Before_ev (p : ByteArray) (n : Int) (t : ByteArray) (tr due : Int) (p' : ByteArray) (n' : Int) (t' : ByteArray) (tr' due' : Int) : spec_l12Before.f p n t tr due p' n' t' tr' due' = some (B (obefore p n p' n')) := by
  unfold spec_l12Before.f obefore
  rcases cmpS_cases p p' with ⟨h1, h2, h3, _⟩ | ⟨h1, h2, h3, _⟩ | ⟨h1, h2, h3, _⟩
  · rw [if_pos (show Op.bytesLess p.toList p'.toList = true from h1), B_true (.inl h1)]
  · rw [if_neg (show ¬ Op.bytesLess p.toList p'.toList = true from h1), if_neg h3, B_false (fun h => h.elim h1 (fun h => h3 h.1))]
  · rw [if_neg (show ¬ Op.bytesLess p.toList p'.toList = true from h1), if_pos h3, decide_B]
    exact congrArg some (B_congr ⟨fun h => .inr ⟨h3, h⟩, fun h => h.elim (fun h => absurd h h1) (fun h => h.2)⟩)
noncomputable def ocmp (p : ByteArray) (n : Int) (p' : ByteArray) (n' : Int) : Int := orL [cmpS p p', cmpI n n']
theorem outOrder_ev (p : ByteArray) (n : Int) (t : ByteArray) (tr due : Int) (p' : ByteArray) (n' : Int) (t' : ByteArray) (tr' due' : Int) : Evt (fun k => impl_outOrder.f k p n t tr due p' n' t' tr' due') (ocmp p n p' n') := by
  unfold impl_outOrder.f
  simp only [cmpS_ev, cmpI_ev, Option.bind_some]
  exact Evt.bind (or_ev _ (by simp)) (Evt.pure _)
theorem ocmp_iff (p : ByteArray) (n : Int) (p' : ByteArray) (n' : Int) : ocmp p n p' n' ≥ 0 ↔ ¬ obefore p n p' n' := by
  unfold ocmp obefore
  rcases cmpS_cases p p' with ⟨h1, h2, h3, h4⟩ | ⟨h1, h2, h3, h4⟩ | ⟨h1, h2, h3, h4⟩
  · simp [orL, h4, h1]
  · simp [orL, h4, h1, h3]
  · rcases cmpI_cases n n' with ⟨e1, e2⟩ | ⟨e1, e2⟩ | ⟨e1, e2⟩
    · simp [orL, h4, h1, h3, e1, e2]
    · simp [orL, h4, h1, h3, e2]; omega
    · subst e1
      simp [orL, h4, h1, h3, e2]
def okO (x : S24) : Prop := (x.f0.size : Int) ≤ 9223372036854775807
def outAt (l : List S24) (i : Int) : Prop :=
  outB (rd_T24 l i).f0 (rd_T24 l i).f1 (rd_T24 l i).f2 (rd_T24 l i).f3 (rd_T24 l i).f4 = true ∧
    (0 < i → obefore (rd_T24 l (i - 1)).f0 (rd_T24 l (i - 1)).f1 (rd_T24 l i).f0 (rd_T24 l i).f1)
def OutboxP (l : List S24) : Prop := (l.length : Int) ≤ 60 ∧ ∀ i, 0 ≤ i → i < (l.length : Int) → outAt l i
noncomputable def outboxB (l : List S24) : Bool := B (OutboxP l)
theorem okO_at {l : List S24} (h : ∀ x ∈ l, okO x) (i : Int) (h1 : i < (l.length : Int)) (h0 : 0 ≤ i) : okO (rd_T24 l i) := by
  unfold rd_T24
  rw [getD_at l _ _ (by omega)]
  exact h _ (List.getElem_mem _)
theorem specOutbox_ev (l : List S24) (hs : ∀ x ∈ l, okO x) : Evt (fun k => spec_OutboxRight.f k l) (outboxB l) := by
  unfold spec_OutboxRight.f
  by_cases hn : (l.length : Int) > 60
  · exact Evt.pos hn ((Evt.pure false).same (B_false (fun h => by have := h.1; omega)).symm)
  · refine Evt.neg hn ?_
    refine (right_loop (l.length : Int) (by omega) (outAt l) True (fun k i => spec_OutboxRight.l0 k l i) ?_ ?_).same (B_congr ⟨fun h => ⟨by omega, h.1⟩, fun h => ⟨h.2, trivial⟩⟩)
    · intro i h0 hlt
      have hk := okO_at hs i hlt h0
      have hw : wrap64 (i + 1) = i + 1 := w64 (by omega) (by omega)
      have hw1 : wrap64 (i - 1) = i - 1 := w64 (by omega) (by omega)
      simp only [spec_OutboxRight.l0, hw, hw1, l12Before_ev, Option.bind_some]
      refine ⟨fun ok r hr => ?_, fun nok => ?_⟩
      · refine Evt.pos hlt (Evt.pos h0 (Evt.bind (specOut_ev _ _ _ _ _ hk) (Evt.pos ok.1 (Evt.ite (fun hp => Evt.pos (by omega) (Evt.pos (by omega) (Evt.pos (B_true (ok.2 hp)) hr))) (fun _ => hr)))))
      · refine Evt.pos hlt (Evt.pos h0 (Evt.bind (specOut_ev _ _ _ _ _ hk) (Evt.ite (fun hl => Evt.ite (fun hp => Evt.pos (by omega) (Evt.pos (by omega) (Evt.neg (fun hb => nok ⟨hl, fun _ => B_iff.1 hb⟩) (Evt.pure _)))) (fun hp => absurd ⟨hl, fun h => absurd h hp⟩ nok)) (fun _ => Evt.pure _))))
    · simp only [spec_OutboxRight.l0]
      exact Evt.neg (by omega) ((Evt.pure true).same (B_true trivial).symm)
theorem implOutbox_ev (l : List S24) (hs : ∀ x ∈ l, okO x) : Evt (fun k => impl_OutboxRight.f k l) (outboxB l) := by
  unfold impl_OutboxRight.f
  by_cases hn : (l.length : Int) > 60
  · exact Evt.pos hn ((Evt.pure false).same (B_false (fun h => by have := h.1; omega)).symm)
  · refine Evt.neg hn ?_
    refine (right_loop (l.length : Int) (by omega) (outAt l) True (fun k i => impl_OutboxRight.l0 k l l (l.length : Int) i) ?_ ?_).same (B_congr ⟨fun h => ⟨by omega, h.1⟩, fun h => ⟨h.2, trivial⟩⟩)
    · intro i h0 hlt
      have hk := okO_at hs i hlt h0
      have hw : wrap64 (i + 1) = i + 1 := w64 (by omega) (by omega)
      have hw1 : wrap64 (i - 1) = i - 1 := w64 (by omega) (by omega)
      simp only [impl_OutboxRight.l0, hw, hw1]
      refine ⟨fun ok r hr => ?_, fun nok => ?_⟩
      · refine Evt.pos hlt (Evt.pos h0 (Evt.pos hlt (Evt.bind (isOut_ev _ _ _ _ _ hk) (Evt.pos ok.1 (Evt.ite (fun hp => Evt.pos (by omega) (Evt.pos (by omega) (Evt.bind (outOrder_ev _ _ _ _ _ _ _ _ _ _) (Evt.neg (fun h => (ocmp_iff _ _ _ _).1 h (ok.2 hp)) hr)))) (fun _ => hr))))))
      · refine Evt.pos hlt (Evt.pos h0 (Evt.pos hlt (Evt.bind (isOut_ev _ _ _ _ _ hk) (Evt.ite (fun hl => Evt.ite (fun hp => Evt.pos (by omega) (Evt.pos (by omega) (Evt.bind (outOrder_ev _ _ _ _ _ _ _ _ _ _) (Evt.pos ((ocmp_iff _ _ _ _).2 (fun hb => nok ⟨hl, fun _ => hb⟩)) (Evt.pure _))))) (fun hp => absurd ⟨hl, fun h => absurd h hp⟩ nok)) (fun _ => Evt.pure _)))))
    · simp only [impl_OutboxRight.l0]
      exact Evt.neg (by omega) ((Evt.pure true).same (B_true trivial).symm)
end Go.Proofs.Ytefmkmhjbfpelaa.QR
namespace Go.Proofs.Ytefmkmhjbfpelaa.QR
open Go.RowKit Go.Proofs.YtefmkmhjbfpelaaW.PrintWords Go.Proofs.Ytefmkmhjbfpelaa.Ev0
theorem mid_eq (lo hi : Int) (h0 : 0 ≤ lo) (h1 : lo < hi) (h2 : hi ≤ 1000000000) : wrap64 ((IntKind.u64.wrap (wrap64 (lo + hi))) / 2) = (lo + hi) / 2 := by
  rw [w64 (x := lo + hi) (by omega) (by omega), IntKind.wrap_u64, w64 (by omega) (by omega)]
  omega
theorem bin_loop {ρ : Type} (n : Int) (hn : 0 ≤ n) (neg : Int → Prop) (F : Nat → Int → Int → Option ρ) (R : Int → ρ)
    (step : ∀ lo hi, 0 ≤ lo → lo < hi → hi ≤ n → (neg ((lo + hi) / 2) → ∀ r, Evt (fun k => F k ((lo + hi) / 2 + 1) hi) r → Evt (fun k => F (k + 1) lo hi) r) ∧ (¬ neg ((lo + hi) / 2) → ∀ r, Evt (fun k => F k lo ((lo + hi) / 2)) r → Evt (fun k => F (k + 1) lo hi) r))
    (stop : ∀ lo, 0 ≤ lo → lo ≤ n → Evt (fun k => F (k + 1) lo lo) (R lo)) (mono : ∀ i j, 0 ≤ i → i ≤ j → j < n → neg j → neg i) :
    ∃ p, 0 ≤ p ∧ p ≤ n ∧ Evt (fun k => F k 0 n) (R p) ∧ (∀ i, 0 ≤ i → i < p → neg i) ∧ (∀ i, p ≤ i → i < n → ¬ neg i) := by
  have key : ∀ (d : Nat) (lo hi : Int), 0 ≤ lo → lo ≤ hi → hi ≤ n → hi - lo ≤ d → (∀ i, 0 ≤ i → i < lo → neg i) → (∀ i, hi ≤ i → i < n → ¬ neg i) →
      ∃ p, 0 ≤ p ∧ p ≤ n ∧ Evt (fun k => F k lo hi) (R p) ∧ (∀ i, 0 ≤ i → i < p → neg i) ∧ (∀ i, p ≤ i → i < n → ¬ neg i) := by
    intro d
    induction d with
    | zero =>
      intro lo hi h0 h1 h2 hd hl hh
      obtain rfl : lo = hi := by omega
      exact ⟨lo, h0, h2, (stop lo h0 h2).succ, hl, hh⟩
    | succ d ih =>
      intro lo hi h0 h1 h2 hd hl hh
      by_cases hlt : lo < hi
      · obtain ⟨s1, s2⟩ := step lo hi h0 hlt h2
        by_cases hg : neg ((lo + hi) / 2)
        · obtain ⟨p, p0, p1, hp, q1, q2⟩ := ih ((lo + hi) / 2 + 1) hi (by omega) (by omega) h2 (by omega) (fun i i0 i1 => mono i ((lo + hi) / 2) i0 (by omega) (by omega) hg) hh
          exact ⟨p, p0, p1, (s1 hg _ hp).succ, q1, q2⟩
        · obtain ⟨p, p0, p1, hp, q1, q2⟩ := ih lo ((lo + hi) / 2) h0 (by omega) (by omega) (by omega) hl (fun i i0 i1 hi' => hg (mono ((lo + hi) / 2) i (by omega) i0 i1 hi'))
          exact ⟨p, p0, p1, (s2 hg _ hp).succ, q1, q2⟩
      · obtain rfl : lo = hi := by omega
        exact ⟨lo, h0, h2, (stop lo h0 h2).succ, hl, hh⟩
  exact key n.toNat 0 n (Int.le_refl _) hn (Int.le_refl _) (by omega) (fun i h0 h1 => absurd h1 (by omega)) (fun i h0 h1 => absurd h1 (by omega))
theorem less_trans : ∀ a b c : List UInt8, Op.bytesLess a b = true → Op.bytesLess b c = true → Op.bytesLess a c = true
  | [], [], _, h, _ => by simp [Op.bytesLess] at h
  | [], _ :: _, [], _, h => by simp [Op.bytesLess] at h
  | [], _ :: _, _ :: _, _, _ => by simp [Op.bytesLess]
  | _ :: _, [], _, h, _ => by simp [Op.bytesLess] at h
  | _ :: _, _ :: _, [], _, h => by simp [Op.bytesLess] at h
  | x :: a, y :: b, z :: c, h1, h2 => by
    have ih := less_trans a b c
    have key : ∀ (x y : UInt8) (a b : List UInt8), Op.bytesLess (x :: a) (y :: b) = true ↔ (x.toNat < y.toNat ∨ (x.toNat = y.toNat ∧ Op.bytesLess a b = true)) := by
      intro x y a b
      by_cases g1 : x < y
      · have := UInt8.lt_iff_toNat_lt.1 g1
        simp [Op.bytesLess, g1, this]
      · by_cases g2 : y < x
        · have g3 : ¬ x = y := fun h => by subst h; have := UInt8.lt_iff_toNat_lt.1 g2; omega
          have := UInt8.lt_iff_toNat_lt.1 g2
          simp [Op.bytesLess, g1, g3]
          omega
        · have g3 : x = y := UInt8.toNat_inj.1 (by
            have e1 := mt UInt8.lt_iff_toNat_lt.2 g1
            have e2 := mt UInt8.lt_iff_toNat_lt.2 g2
            omega)
          subst g3
          simp [Op.bytesLess]
    rw [key] at h1 h2 ⊢
    rcases h1 with h1 | ⟨h1, h1'⟩ <;> rcases h2 with h2 | ⟨h2, h2'⟩
    · exact .inl (by omega)
    · exact .inl (by omega)
    · exact .inl (by omega)
    · exact .inr ⟨by omega, ih h1' h2'⟩
theorem less_tr {a b c : ByteArray} (h1 : less a b) (h2 : less b c) : less a c := less_trans _ _ _ h1 h2
theorem less_eq {a b c : ByteArray} (h1 : less a b) (h2 : b.toList = c.toList) : less a c := by unfold less at h1 ⊢; rw [← h2]; exact h1
end Go.Proofs.Ytefmkmhjbfpelaa.QR
namespace Go.Proofs.Ytefmkmhjbfpelaa.Ev0
section
variable {α : Type} {lt : α → α → Prop}
noncomputable def idxP (p : α → Prop) (l : List α) : Nat := l.findIdx (fun y => B (p y))
theorem idxP_le (p : α → Prop) (l : List α) : idxP p l ≤ l.length := List.findIdx_le_length
theorem idxP_no {p : α → Prop} {l : List α} {i : Nat} (h : i < idxP p l) : ¬ p (l[i]'(Nat.lt_of_lt_of_le h (idxP_le p l))) := by
  have := List.not_of_lt_findIdx (p := fun y => B (p y)) (xs := l) (i := i) h
  exact B_iff_false.1 this
theorem idxP_yes {p : α → Prop} {l : List α} (h : idxP p l < l.length) : p (l[idxP p l]) := by
  have := List.findIdx_getElem (p := fun y => B (p y)) (xs := l) (w := h)
  exact B_iff.1 this
theorem idxP_eq {p : α → Prop} {l : List α} {k : Nat} (h1 : k ≤ l.length) (h2 : ∀ i (h : i < l.length), i < k → ¬ p l[i]) (h3 : ∀ h : k < l.length, p l[k]) : idxP p l = k := by
  rcases Nat.lt_trichotomy (idxP p l) k with h | h | h
  · exact absurd (idxP_yes (by omega)) (h2 _ (by omega) h)
  · exact h
  · have hk : k < l.length := Nat.lt_of_lt_of_le h (idxP_le p l)
    exact absurd (h3 hk) (idxP_no h)
theorem idxP_congr {p q : α → Prop} {l : List α} (h : ∀ y ∈ l, (p y ↔ q y)) : idxP p l = idxP q l :=
  idxP_eq (idxP_le q l) (fun _ hi hk hp => idxP_no hk ((h _ (List.getElem_mem hi)).1 hp)) (fun hk => (h _ (List.getElem_mem hk)).2 (idxP_yes hk))
structure Ord (lt : α → α → Prop) : Prop where
  tr : ∀ {a b c}, lt a b → lt b c → lt a c
  asy : ∀ {a b}, lt a b → ¬ lt b a
noncomputable def insAt (lt : α → α → Prop) (l : List α) (x : α) : Nat := idxP (lt x) l
theorem ins_right (o : Ord lt) {l : List α} {x : α} (hl : l.Pairwise lt) : (l.take (insAt lt l x) ++ x :: l.drop (insAt lt l x)).Pairwise lt ↔ ∀ y ∈ l, lt x y ∨ lt y x := by
  have hk := idxP_le (lt x) l
  have hk0 : insAt lt l x = idxP (lt x) l := rfl
  constructor
  · intro h y hy
    rw [List.pairwise_append] at h
    obtain ⟨_, h2, h3⟩ := h
    rw [← List.take_append_drop (insAt lt l x) l] at hy
    rcases List.mem_append.1 hy with hy | hy
    · exact .inr (h3 y hy x List.mem_cons_self)
    · exact .inl ((List.pairwise_cons.1 h2).1 y hy)
  · intro h
    have hs : (l.take (insAt lt l x) ++ l.drop (insAt lt l x)).Pairwise lt := by rw [List.take_append_drop]; exact hl
    rw [List.pairwise_append] at hs ⊢
    obtain ⟨h1, h2, h3⟩ := hs
    have hgt : ∀ b ∈ l.drop (insAt lt l x), lt x b := by
      intro b hb
      obtain ⟨i, hi, rfl⟩ := List.mem_drop_iff_getElem.1 hb
      have hlt : idxP (lt x) l < l.length := by omega
      have h0 := idxP_yes hlt
      rcases Nat.eq_zero_or_pos i with e | e
      · subst e
        exact h0
      · exact o.tr h0 (List.pairwise_iff_getElem.1 hl _ _ hlt (by omega) (by omega))
    have hle : ∀ a ∈ l.take (insAt lt l x), lt a x := by
      intro a ha
      obtain ⟨i, hi, rfl⟩ := List.mem_take_iff_getElem.1 ha
      have hil : i < idxP (lt x) l := by omega
      exact (h _ (List.getElem_mem _)).resolve_left (idxP_no hil)
    refine ⟨h1, List.pairwise_cons.2 ⟨hgt, h2⟩, fun a ha b hb => ?_⟩
    rcases List.mem_cons.1 hb with rfl | hb
    · exact hle a ha
    · exact h3 a ha b hb
theorem ins_same (o : Ord lt) {l : List α} {x : α} (h : ∀ y ∈ l, lt x y ∨ lt y x) : idxP (fun y => ¬ lt y x) l = insAt lt l x :=
  idxP_congr fun y hy => ⟨fun hn => (h y hy).resolve_right hn, fun hx => o.asy hx⟩
theorem ins_is (o : Ord lt) {l : List α} {x : α} (hl : l.Pairwise lt) :
    (∃ h : idxP (fun y => ¬ lt y x) l < l.length, ¬ lt x (l[idxP (fun y => ¬ lt y x) l])) ↔ ¬ ∀ y ∈ l, lt x y ∨ lt y x := by
  constructor
  · rintro ⟨h, hn⟩ ha
    exact ((ha _ (List.getElem_mem h)).elim hn (idxP_yes h))
  · intro hn
    have hx : ∃ y, y ∈ l ∧ ¬ lt x y ∧ ¬ lt y x := Classical.byContradiction fun hc => hn fun y hy => Classical.byContradiction fun h2 => hc ⟨y, hy, fun h => h2 (.inl h), fun h => h2 (.inr h)⟩
    obtain ⟨y, hy, h1, h2⟩ := hx
    obtain ⟨i, hi, rfl⟩ := List.mem_iff_getElem.1 hy
    have hle : idxP (fun y => ¬ lt y x) l ≤ i := by
      rcases Nat.lt_or_ge i (idxP (fun y => ¬ lt y x) l) with h | h
      · exact absurd h2 (idxP_no h)
      · exact h
    refine ⟨by omega, fun hlt => ?_⟩
    rcases Nat.lt_or_ge (idxP (fun y => ¬ lt y x) l) i with h | h
    · have h3 := List.pairwise_iff_getElem.1 hl _ _ (by omega) hi h
      exact h1 (o.tr hlt h3)
    · have e : idxP (fun y => ¬ lt y x) l = i := by omega
      simp only [e] at hlt
      exact h1 hlt
theorem pair_of_next (o : Ord lt) {l : List α} (h : ∀ i (h : i + 1 < l.length), lt l[i] l[i + 1]) : l.Pairwise lt := by
  rw [List.pairwise_iff_getElem]
  intro i j hi hj hij
  obtain ⟨d, rfl⟩ : ∃ d, j = i + 1 + d := ⟨j - (i + 1), by omega⟩
  clear hij
  induction d with
  | zero => exact h i hj
  | succ d ih => exact o.tr (ih (by omega)) (h (i + 1 + d) hj)
end
end Go.Proofs.Ytefmkmhjbfpelaa.Ev0
namespace Go.Proofs.Ytefmkmhjbfpelaa.QR
open Go.RowKit Go.Proofs.Ytefmkmhjbfpelaa Go.Proofs.YtefmkmhjbfpelaaW.PrintWords Go.Proofs.Ytefmkmhjbfpelaa.Ev0
abbrev UX := S24
def olt (x y : UX) : Prop := obefore x.f0 x.f1 y.f0 y.f1
def sameO (x y : UX) : Prop := x.f0.toList = y.f0.toList ∧ x.f1 = y.f1
theorem less_asO {a b : ByteArray} (h : less a b) : ¬ less b a := by
  rcases cmpS_cases a b with ⟨_, h2, _⟩ | ⟨h1, _⟩ | ⟨h1, _⟩
  · exact h2
  · exact absurd h h1
  · exact absurd h h1
theorem less_neO {a b : ByteArray} (h : less a b) : ¬ a.toList = b.toList := by
  rcases cmpS_cases a b with ⟨_, _, h3, _⟩ | ⟨h1, _⟩ | ⟨h1, _⟩
  · exact h3
  · exact absurd h h1
  · exact absurd h h1
theorem eq_lessO {a b c : ByteArray} (h1 : a.toList = b.toList) (h2 : less b c) : less a c := by unfold less at h2 ⊢; rw [h1]; exact h2
theorem olt_ord : Ord olt where
  tr := by
    rintro a b c (h1 | ⟨h1, h2⟩) (g1 | ⟨g1, g2⟩)
    · exact .inl (less_tr h1 g1)
    · exact .inl (less_eq h1 g1)
    · exact .inl (eq_lessO h1 g1)
    · exact .inr ⟨h1.trans g1, by omega⟩
  asy := by
    rintro a b (h1 | ⟨h1, h2⟩) (g1 | ⟨g1, g2⟩)
    · exact less_asO h1 g1
    · exact less_neO h1 g1.symm
    · exact less_neO g1 h1.symm
    · omega
theorem sameO_iff (x y : UX) : sameO x y ↔ ¬ (olt y x ∨ olt x y) := by
  unfold sameO olt obefore
  rcases cmpS_cases x.f0 y.f0 with ⟨h1, h2, h3, h4⟩ | ⟨h1, h2, h3, h4⟩ | ⟨h1, h2, h3, h4⟩
  · simp [h1, h3]
  · simp [h2, h3]
  · have h5 : y.f0.toList = x.f0.toList := h3.symm
    simp only [h1, h2, h3, false_or, true_and]
    omega
theorem ocmp_neg (a : ByteArray) (n : Int) (a' : ByteArray) (n' : Int) : ocmp a n a' n' < 0 ↔ obefore a n a' n' := by
  have := ocmp_iff a n a' n'
  constructor
  · intro h
    exact Classical.byContradiction fun hn => absurd (this.2 hn) (by omega)
  · intro h
    by_cases g : ocmp a n a' n' ≥ 0
    · exact absurd h (this.1 g)
    · omega
theorem ocmp_zero (a : ByteArray) (n : Int) (a' : ByteArray) (n' : Int) : ocmp a n a' n' = 0 ↔ ¬ obefore a n a' n' ∧ ¬ obefore a' n' a n := by
  unfold ocmp obefore
  rcases cmpS_cases a a' with ⟨h1, h2, h3, h4⟩ | ⟨h1, h2, h3, h4⟩ | ⟨h1, h2, h3, h4⟩
  · simp [orL, h4, h1]
  · simp [orL, h4, h1, h2, h3]
  · rcases cmpI_cases n n' with ⟨e1, e2⟩ | ⟨e1, e2⟩ | ⟨e1, e2⟩
    · simp [orL, h4, h1, h2, h3, e1, e2]
    · simp [orL, h4, h1, h2, h3, e2]; omega
    · subst e1
      simp [orL, h4, h1, h2, h3, e2]
theorem rdU_nat {l : List UX} {i : Nat} (h : i < l.length) : rd_T24 l (i : Int) = l[i] := by
  unfold rd_T24
  rw [Int.toNat_natCast, getD_at l _ _ h]
def outX (x : UX) : Prop := outB x.f0 x.f1 x.f2 x.f3 x.f4 = true
theorem OutboxP_iff (l : List UX) : OutboxP l ↔ (l.length : Int) ≤ 60 ∧ (∀ x ∈ l, outX x) ∧ l.Pairwise olt := by
  constructor
  · rintro ⟨h1, h2⟩
    refine ⟨h1, fun x hx => ?_, pair_of_next olt_ord fun i hi => ?_⟩
    · obtain ⟨i, hi, rfl⟩ := List.mem_iff_getElem.1 hx
      have := (h2 i (by omega) (by omega)).1
      rw [rdU_nat hi] at this
      exact this
    · have := (h2 ((i + 1 : Nat) : Int) (by omega) (by omega)).2 (by omega)
      rw [show (((i + 1 : Nat) : Int) - 1) = ((i : Nat) : Int) by omega, rdU_nat hi, rdU_nat (show i < l.length by omega)] at this
      exact this
  · rintro ⟨h1, h2, h3⟩
    refine ⟨h1, fun i h0 hi => ?_⟩
    obtain ⟨j, rfl⟩ : ∃ j : Nat, i = j := ⟨i.toNat, by omega⟩
    have hj : j < l.length := by omega
    refine ⟨?_, fun hp => ?_⟩
    · rw [rdU_nat hj]
      exact h2 _ (List.getElem_mem hj)
    · obtain ⟨m, rfl⟩ : ∃ m, j = m + 1 := ⟨j - 1, by omega⟩
      rw [show (((m + 1 : Nat) : Int) - 1) = ((m : Nat) : Int) by omega, rdU_nat hj, rdU_nat (show m < l.length by omega)]
      exact List.pairwise_iff_getElem.1 h3 _ _ _ _ (by omega)
theorem outCode_ev (l : List UX) (hs : ∀ x ∈ l, okO x) : Evt (fun k => impl_outboxCode.f k l) (if (l.length : Int) > 400 then 2 else if outboxB l = true then 0 else 1) := by
  unfold impl_outboxCode.f impl_Out_129.f
  simp only [Option.bind_some]
  by_cases hn : (l.length : Int) > 400
  · rw [if_pos hn]
    exact Evt.pos (decide_eq_true hn) (Evt.pure _)
  · rw [if_neg hn]
    refine Evt.neg (by simpa using hn) (Evt.bind (implOutbox_ev l hs) ?_)
    by_cases h1 : outboxB l = true
    · simp only [if_pos h1]; exact Evt.pure _
    · simp only [if_neg h1]; exact Evt.pure _
theorem findOut_ev (l : List UX) (x : UX) (hn : (l.length : Int) ≤ 400) (hs : l.Pairwise olt) : ∃ r : Int × Bool, Evt (fun k => impl_Out_impl_outOrder.f k l x.f0 x.f1 x.f2 x.f3 x.f4) r ∧
    r.1 = ((idxP (fun y => ¬ olt y x) l : Nat) : Int) ∧ (r.2 = true ↔ ∃ h : idxP (fun y => ¬ olt y x) l < l.length, ¬ olt x (l[idxP (fun y => ¬ olt y x) l])) := by
  have hlo : ∀ (y : UX), Evt (fun k => impl_outOrder.f k y.f0 y.f1 y.f2 y.f3 y.f4 x.f0 x.f1 x.f2 x.f3 x.f4) (ocmp y.f0 y.f1 x.f0 x.f1) := fun y => outOrder_ev _ _ _ _ _ _ _ _ _ _
  have step : ∀ lo hi, 0 ≤ lo → lo < hi → hi ≤ (l.length : Int) → (olt (rd_T24 l ((lo + hi) / 2)) x → ∀ r, Evt (fun k => impl_Out_impl_outOrder.l0 k l (l.length : Int) ((lo + hi) / 2 + 1) hi x.f0 x.f1 x.f2 x.f3 x.f4) r → Evt (fun k => impl_Out_impl_outOrder.l0 (k + 1) l (l.length : Int) lo hi x.f0 x.f1 x.f2 x.f3 x.f4) r) ∧
      (¬ olt (rd_T24 l ((lo + hi) / 2)) x → ∀ r, Evt (fun k => impl_Out_impl_outOrder.l0 k l (l.length : Int) lo ((lo + hi) / 2) x.f0 x.f1 x.f2 x.f3 x.f4) r → Evt (fun k => impl_Out_impl_outOrder.l0 (k + 1) l (l.length : Int) lo hi x.f0 x.f1 x.f2 x.f3 x.f4) r) := by
    intro lo hi h0 hlt h2
    have hm := mid_eq lo hi h0 hlt (by omega)
    have hw : wrap64 ((lo + hi) / 2 + 1) = (lo + hi) / 2 + 1 := w64 (by omega) (by omega)
    simp only [impl_Out_impl_outOrder.l0, hm, hw]
    exact ⟨fun g r hr => Evt.pos hlt (Evt.pos (by omega) (Evt.pos (by omega) (Evt.bind (hlo _) (Evt.pos ((ocmp_neg _ _ _ _).2 g) hr)))), fun g r hr => Evt.pos hlt (Evt.pos (by omega) (Evt.pos (by omega) (Evt.bind (hlo _) (Evt.neg (fun hh => g ((ocmp_neg _ _ _ _).1 hh)) hr))))⟩
  have stop : ∀ lo, 0 ≤ lo → lo ≤ (l.length : Int) → Evt (fun k => impl_Out_impl_outOrder.l0 (k + 1) l (l.length : Int) lo lo x.f0 x.f1 x.f2 x.f3 x.f4)
      (lo, (@ite _ (lo < (l.length : Int)) (Classical.propDecidable _) (ocmp (rd_T24 l lo).f0 (rd_T24 l lo).f1 x.f0 x.f1 == 0) false)) := by
    intro lo h0 h1
    simp only [impl_Out_impl_outOrder.l0]
    refine Evt.neg (by omega) ?_
    by_cases g : lo < (l.length : Int)
    · rw [if_pos g]
      exact Evt.pos g (Evt.pos h0 (Evt.pos g (Evt.bind (hlo _) (Evt.pure _))))
    · rw [if_neg g]
      exact Evt.neg g (Evt.pure _)
  unfold impl_Out_impl_outOrder.f
  obtain ⟨p, p0, p1, hp, q1, q2⟩ := bin_loop (l.length : Int) (by omega) (fun i => olt (rd_T24 l i) x) (fun k lo hi => impl_Out_impl_outOrder.l0 k l (l.length : Int) lo hi x.f0 x.f1 x.f2 x.f3 x.f4) _ step stop (by
    intro i j h0 hij hj hn'
    by_cases g : i < j
    · obtain ⟨a, rfl⟩ : ∃ a : Nat, i = a := ⟨i.toNat, by omega⟩
      obtain ⟨b, rfl⟩ : ∃ b : Nat, j = b := ⟨j.toNat, by omega⟩
      have h3 := List.pairwise_iff_getElem.1 hs a b (by omega) (by omega) (by omega)
      rw [rdU_nat (show b < l.length by omega)] at hn'
      rw [rdU_nat (show a < l.length by omega)]
      exact olt_ord.tr h3 hn'
    · have e : i = j := by omega
      rw [e]; exact hn')
  refine ⟨_, hp, ?_⟩
  obtain ⟨a, rfl⟩ : ∃ a : Nat, p = a := ⟨p.toNat, by omega⟩
  have ei : idxP (fun y => ¬ olt y x) l = a := idxP_eq (by omega) (fun i hi hia hnn => hnn (by
    have := q1 (i : Int) (by omega) (by omega)
    rw [rdU_nat hi] at this
    exact this)) (fun hi => by
    have := q2 (a : Int) (Int.le_refl _) (by omega)
    rw [rdU_nat hi] at this
    exact this)
  refine ⟨by rw [ei], ?_⟩
  by_cases g : (a : Int) < (l.length : Int)
  · have ga : a < l.length := by omega
    rw [if_pos g, rdU_nat ga]
    have hq := q2 (a : Int) (Int.le_refl _) g
    rw [rdU_nat ga] at hq
    constructor
    · intro hb
      have hz : ocmp l[a].f0 l[a].f1 x.f0 x.f1 = 0 := by simpa using hb
      exact ⟨by omega, by simp only [ei]; exact ((ocmp_zero _ _ _ _).1 hz).2⟩
    · rintro ⟨h1, h2⟩
      simp only [ei] at h2
      have hz : ocmp l[a].f0 l[a].f1 x.f0 x.f1 = 0 := (ocmp_zero _ _ _ _).2 ⟨hq, h2⟩
      simpa using hz
  · rw [if_neg g]
    constructor
    · intro hb; cases hb
    · rintro ⟨h1, _⟩
      omega
end Go.Proofs.Ytefmkmhjbfpelaa.QR

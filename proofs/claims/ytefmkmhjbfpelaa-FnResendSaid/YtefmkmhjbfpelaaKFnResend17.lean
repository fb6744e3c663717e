-- Merged by a program of this session (wip/tool/pack.py) out of its own texts for this claim.
import Derived.Deep.Slices
import Derived.ChangeArms
import Derived.WalkKit
import Derived.ProofKit
import Derived.OpenShut
import Derived.ShutString
import Derived.ChangeOld
import Derived.Below
import Derived.SizedLaws
import Derived.Lib.Strings
import Derived.Laws.Bits64
import Derived.Lib.Bytealg
import Derived.Test.YtefmkmhjbfpelaaKFnResend0
import Derived.Test.YtefmkmhjbfpelaaKFnResend1
import Derived.Test.YtefmkmhjbfpelaaKFnResend3
import Derived.Test.YtefmkmhjbfpelaaKFnResend5
namespace Go.Proofs.Ytefmkmhjbfpelaa.Rd
open Go.RowKit Go.ChangeShapes Go.WideShapes Go.Proofs.YtefmkmhjbfpelaaW.PrintWords
def Rd (P : Program) (t : TypeId) {α : Type} (d : Kd α) (wf : α → Prop) : Prop :=
  ∀ (H : Type) (enc : TypeId × Value → H) (w : World) (base : Nat) (sp : Nat → Bool) (held : Bool) (fuel : Nat) (cs : List Value) (x : DataW H × List MemPlace),
    DataW.trod enc P w base sp held fuel t cs = some x → ∃ a : α, d.K w a cs ∧ wf a
def WfInt (k : IntKind) (n : Int) : Prop := (Lit.int k n).wf = true
def WfRow {α : Type} (wf : α → Prop) (l : List α) : Prop := l.length ≤ maxLen ∧ ∀ x ∈ l, wf x
theorem rd_int {P : Program} {t : TypeId} {k : IntKind} (hu : P.underlying t = some (.int k)) : Rd P t (Kd.int k) (WfInt k) := by
  intro H enc w base sp held fuel cs x h
  cases fuel with
  | zero => simp [DataW.trod] at h
  | succ n =>
    match cs with
    | [.int k' m] =>
      simp only [DataW.trod, hu] at h
      split at h
      · rename_i hk
        obtain ⟨rfl, hw⟩ := hk
        exact ⟨m, rfl, hw⟩
      · cases h
    | [] => simp [DataW.trod, hu] at h
    | [.bool _] => simp [DataW.trod, hu] at h
    | [.float _ _] => simp [DataW.trod, hu] at h
    | [.complex _ _ _] => simp [DataW.trod, hu] at h
    | [.string _] => simp [DataW.trod, hu] at h
    | [.pointer _] => simp [DataW.trod, hu] at h
    | [.slice _ _ _] => simp [DataW.trod, hu] at h
    | [.map _] => simp [DataW.trod, hu] at h
    | [.chan _] => simp [DataW.trod, hu] at h
    | [.func _ _ _] => simp [DataW.trod, hu] at h
    | [.nilFunc] => simp [DataW.trod, hu] at h
    | [.iface _ _] => simp [DataW.trod, hu] at h
    | [.nilIface] => simp [DataW.trod, hu] at h
    | [.agg _] => simp [DataW.trod, hu] at h
    | [.tuple _] => simp [DataW.trod, hu] at h
    | _ :: _ :: _ => simp [DataW.trod, hu] at h
theorem rd_slice {P : Program} {t e : TypeId} {α : Type} {d : Kd α} {wf : α → Prop} (hu : P.underlying t = some (.slice e)) (hc : P.cellsOf e = d.sz) (hd : Rd P e d wf) : Rd P t (Kd.slice e d) (WfRow wf) := by
  intro H enc w base sp held fuel cs x h
  rcases Go.Deep.open_slice hu h with ⟨rfl, _⟩ | ⟨a, len, cap, m, n, D, Pl, rfl, hb, hl, hm, hmm, _, hx⟩
  · exact ⟨[], ⟨none, 0, rfl, Nat.le_refl _, rfl, by simp, fun h => absurd h (by simp)⟩, by simp [maxLen], by simp⟩
  · have hlm : len ≤ m := by rw [hmm]; split <;> omega
    have hall : ∀ i, i < len → ∃ cs', w.cells? base (a.add (i * P.cellsOf e)) (P.cellsOf e) = some cs' ∧ DataW.trod enc P w base sp held n e cs' = some (D i, Pl i) := fun i hi => hx i (by omega)
    have key : ∀ (k : Nat), k ≤ len → ∃ l : List α, l.length = k ∧ (∀ x ∈ l, wf x) ∧ ∀ j p, l[j]? = some p → ∃ c, c.length = d.sz ∧ d.K w p c ∧ ∀ i u, c[i]? = some u → w.cell? (a.add (j * d.sz + i)) = some u := by
      intro k
      induction k with
      | zero => intro _; exact ⟨[], rfl, by simp, by simp⟩
      | succ k ih =>
        intro hk
        obtain ⟨l, hl1, hl2, hl3⟩ := ih (by omega)
        obtain ⟨cs', h1, h2⟩ := hall k (by omega)
        obtain ⟨b, hb1, hb2⟩ := hd H enc w base sp held n cs' _ h2
        refine ⟨l ++ [b], by simp [hl1], ?_, ?_⟩
        · intro z hz
          rcases List.mem_append.1 hz with hz | hz
          · exact hl2 z hz
          · rw [List.mem_singleton.1 hz]; exact hb2
        · intro j p hj
          by_cases hjl : j < l.length
          · rw [List.getElem?_append_left hjl] at hj
            exact hl3 j p hj
          · rw [List.getElem?_append_right (by omega)] at hj
            have hj0 : j - l.length = 0 := by
              cases hz : j - l.length with
              | zero => rfl
              | succ q => rw [hz] at hj; simp at hj
            rw [hj0] at hj
            obtain rfl : b = p := by simpa using hj
            have hjk : j = k := by omega
            subst hjk
            refine ⟨cs', d.K_len hb1, hb1, fun i u hu' => ?_⟩
            obtain ⟨_, hlen', hcell⟩ := World.cells?_some h1
            have hi : i < cs'.length := by
              rcases Nat.lt_or_ge i cs'.length with h | h
              · exact h
              · rw [List.getElem?_eq_none h] at hu'; cases hu'
            have z := hcell i (by omega)
            rw [hu', Go.Deep.add_add, hc] at z
            exact z
    obtain ⟨l, hl1, hl2, hl3⟩ := key len (Nat.le_refl _)
    refine ⟨l, ⟨some a, cap, by rw [hl1], by omega, ?_⟩, by rw [hl1]; exact Nat.le_trans hl hm, hl2⟩
    exact ⟨rfl, by rw [hl1]; have : cap ≤ 2 ^ 63 - 1 := hm; omega, fun _ => ⟨a, rfl, hl3⟩⟩
end Go.Proofs.Ytefmkmhjbfpelaa.Rd
namespace Go.Proofs.Ytefmkmhjbfpelaa.QO
open Go.Proofs.Ytefmkmhjbfpelaa Go.Proofs.YtefmkmhjbfpelaaW.PrintWords
def laws_FnResend.Pure : Prop := ∀ (l0 : List Int) (l1 : List Int), (Rd.WfRow (Rd.WfInt .u8)) l0 → (Rd.WfRow (Rd.WfInt .u8)) l1 → ∃ k, laws_FnResend.f k l0 l1 = some true
end Go.Proofs.Ytefmkmhjbfpelaa.QO
namespace Go.Proofs.Ytefmkmhjbfpelaa.Ev0
open Go.RowKit Go.Proofs.YtefmkmhjbfpelaaW.PrintWords
def Evt {α : Type} (f : Nat → Option α) (r : α) : Prop := ∃ K, ∀ k, K ≤ k → f k = some r
namespace Evt
variable {α β : Type}
theorem const {o : Option α} {r : α} (h : o = some r) : Evt (fun _ => o) r := ⟨0, fun _ _ => h⟩
theorem pure (r : α) : Evt (fun _ => some r) r := ⟨0, fun _ _ => rfl⟩
theorem bind {f : Nat → Option α} {g : Nat → α → Option β} {a : α} {r : β} (h : Evt f a) (h2 : Evt (fun k => g k a) r) : Evt (fun k => (f k).bind (g k)) r := by
  obtain ⟨K, hK⟩ := h
  obtain ⟨L, hL⟩ := h2
  refine ⟨K + L, fun k hk => ?_⟩
  show (f k).bind (g k) = some r
  rw [hK k (by omega)]
  exact hL k (by omega)
theorem succ {f : Nat → Option α} {r : α} (h : Evt (fun k => f (k + 1)) r) : Evt f r := by
  obtain ⟨K, hK⟩ := h
  refine ⟨K + 1, fun k hk => ?_⟩
  obtain ⟨m, rfl⟩ : ∃ m, k = m + 1 := ⟨k - 1, by omega⟩
  exact hK m (by omega)
theorem pos {c : Prop} [Decidable c] {f g : Nat → Option α} {r : α} (hc : c) (h : Evt f r) : Evt (fun k => if c then f k else g k) r := by
  simpa only [if_pos hc] using h
theorem neg {c : Prop} [Decidable c] {f g : Nat → Option α} {r : α} (hc : ¬ c) (h : Evt g r) : Evt (fun k => if c then f k else g k) r := by
  simpa only [if_neg hc] using h
theorem ite {c : Prop} [Decidable c] {f g : Nat → Option α} {r : α} (h1 : c → Evt f r) (h2 : ¬ c → Evt g r) : Evt (fun k => if c then f k else g k) r := by
  by_cases hc : c
  · exact pos hc (h1 hc)
  · exact neg hc (h2 hc)
theorem ex {f : Nat → Option α} {r : α} (h : Evt f r) : ∃ k, f k = some r := by
  obtain ⟨K, hK⟩ := h
  exact ⟨K, hK K (Nat.le_refl _)⟩
theorem same {f : Nat → Option α} {r r' : α} (h : Evt f r) (e : r = r') : Evt f r' := e ▸ h
end Evt
theorem w64 {x : Int} (h0 : -9223372036854775808 ≤ x) (h1 : x ≤ 9223372036854775807) : wrap64 x = x := by
  unfold wrap64
  omega
noncomputable def B (p : Prop) : Bool := @decide p (Classical.propDecidable p)
theorem B_true {p : Prop} (h : p) : B p = true := by unfold B; exact @decide_eq_true p (Classical.propDecidable p) h
theorem B_false {p : Prop} (h : ¬ p) : B p = false := by unfold B; exact @decide_eq_false p (Classical.propDecidable p) h
theorem B_iff {p : Prop} : B p = true ↔ p := by unfold B; exact @decide_eq_true_iff p (Classical.propDecidable p)
theorem B_iff_false {p : Prop} : B p = false ↔ ¬ p := by unfold B; exact @decide_eq_false_iff_not p (Classical.propDecidable p)
theorem B_congr {p q : Prop} (h : p ↔ q) : B p = B q := by rw [propext h]
theorem decide_B (p : Prop) [Decidable p] : decide p = B p := by
  by_cases h : p
  · rw [decide_eq_true h, B_true h]
  · rw [decide_eq_false h, B_false h]
theorem bool_B {b : Bool} {p : Prop} (h : b = true ↔ p) : b = B p := by
  cases b with
  | true => exact (B_true (h.1 rfl)).symm
  | false => exact (B_false (fun hp => by simpa using h.2 hp)).symm
theorem and_ {c p q : Prop} [Decidable c] {f : Nat → Option Bool} (hc : c ↔ p) (h : p → Evt f (B q)) : Evt (fun k => if c then f k else some false) (B (p ∧ q)) := by
  by_cases e : c
  · exact Evt.pos e ((h (hc.1 e)).same (B_congr ⟨fun x => ⟨hc.1 e, x⟩, fun x => x.2⟩))
  · exact Evt.neg e ((Evt.pure false).same (B_false (fun x => e (hc.2 x.1))).symm)
theorem fail_ {c p q : Prop} [Decidable c] {f : Nat → Option Bool} (hc : c ↔ ¬ p) (h : p → Evt f (B q)) : Evt (fun k => if c then some false else f k) (B (p ∧ q)) := by
  by_cases e : c
  · exact Evt.pos e ((Evt.pure false).same (B_false (fun x => hc.1 e x.1)).symm)
  · have hp : p := Classical.not_not.1 (fun x => e (hc.2 x))
    exact Evt.neg e ((h hp).same (B_congr ⟨fun x => ⟨hp, x⟩, fun x => x.2⟩))
theorem last_ {p q : Prop} [Decidable p] (h : p ↔ q) : Evt (fun _ => some (decide p)) (B q) := (Evt.pure _).same ((decide_B p).trans (B_congr h))
theorem lastB_ {p q : Prop} (h : p ↔ q) : Evt (fun _ => some (B p)) (B q) := (Evt.pure _).same (B_congr h)
end Go.Proofs.Ytefmkmhjbfpelaa.Ev0
namespace Go.Proofs.Ytefmkmhjbfpelaa.Ev0
open Go.RowKit Go.Proofs.YtefmkmhjbfpelaaW.PrintWords
theorem up_loop {σ ρ : Type} (n : Int) (F : Nat → σ → Int → Option ρ) (st : Int → σ) (r : Int → ρ)
    (step : ∀ i, 0 ≤ i → i < n → Evt (fun k => F k (st (i + 1)) (i + 1)) (r (i + 1)) → Evt (fun k => F (k + 1) (st i) i) (r i))
    (stop : Evt (fun k => F (k + 1) (st n) n) (r n)) (i : Int) (h0 : 0 ≤ i) (hn : i ≤ n) : Evt (fun k => F k (st i) i) (r i) := by
  have key : ∀ (d : Nat) (i : Int), 0 ≤ i → i ≤ n → n - i ≤ d → Evt (fun k => F k (st i) i) (r i) := by
    intro d
    induction d with
    | zero =>
      intro i h0 h1 hd
      obtain rfl : i = n := by omega
      exact stop.succ
    | succ d ih =>
      intro i h0 h1 hd
      by_cases hlt : i < n
      · exact (step i h0 hlt (ih (i + 1) (by omega) (by omega) (by omega))).succ
      · obtain rfl : i = n := by omega
        exact stop.succ
  exact key (n - i).toNat i h0 hn (by omega)
theorem getD_at {α : Type} (l : List α) (z : α) (i : Nat) (h : i < l.length) : l.getD i z = l[i] := by
  rw [List.getD_eq_getElem?_getD, List.getElem?_eq_getElem h]
  rfl
theorem right_loop (n : Int) (hn : 0 ≤ n) (ok : Int → Prop) (q : Prop) (F : Nat → Int → Option Bool)
    (step : ∀ i, 0 ≤ i → i < n → (ok i → ∀ r, Evt (fun k => F k (i + 1)) r → Evt (fun k => F (k + 1) i) r) ∧ (¬ ok i → Evt (fun k => F (k + 1) i) false))
    (stop : Evt (fun k => F (k + 1) n) (B q)) : Evt (fun k => F k 0) (B ((∀ i, 0 ≤ i → i < n → ok i) ∧ q)) := by
  have h := up_loop n (fun k (_ : Unit) i => F k i) (fun _ => ()) (fun i => B ((∀ j, i ≤ j → j < n → ok j) ∧ q)) ?_ ?_ 0 (Int.le_refl _) hn
  · exact h
  · intro i h0 hlt ih
    by_cases hk : ok i
    · refine ((step i h0 hlt).1 hk _ ih).same (B_congr ⟨fun h => ⟨fun j h1 h2 => ?_, h.2⟩, fun h => ⟨fun j h1 h2 => h.1 j (by omega) h2, h.2⟩⟩)
      by_cases e : j = i
      · rw [e]; exact hk
      · exact h.1 j (by omega) h2
    · exact ((step i h0 hlt).2 hk).same (B_false (fun h => hk (h.1 i (Int.le_refl _) hlt))).symm
  · exact stop.same (B_congr ⟨fun h => ⟨fun j h1 h2 => absurd h2 (by omega), h⟩, fun h => h.2⟩)
theorem find_loop (n : Int) (hn : 0 ≤ n) (p : Int → Prop) (F : Nat → Int → Option Int)
    (step : ∀ i, 0 ≤ i → i < n → (p i → Evt (fun k => F (k + 1) i) i) ∧ (¬ p i → ∀ r, Evt (fun k => F k (i + 1)) r → Evt (fun k => F (k + 1) i) r))
    (stop : Evt (fun k => F (k + 1) n) (-1)) :
    ∃ r, Evt (fun k => F k 0) r ∧ ((r = -1 ∧ ∀ j, 0 ≤ j → j < n → ¬ p j) ∨ (0 ≤ r ∧ r < n ∧ p r ∧ ∀ j, 0 ≤ j → j < r → ¬ p j)) := by
  have key : ∀ (d : Nat) (i : Int), 0 ≤ i → i ≤ n → n - i ≤ d → ∃ r, Evt (fun k => F k i) r ∧ ((r = -1 ∧ ∀ j, i ≤ j → j < n → ¬ p j) ∨ (i ≤ r ∧ r < n ∧ p r ∧ ∀ j, i ≤ j → j < r → ¬ p j)) := by
    intro d
    induction d with
    | zero =>
      intro i h0 h1 hd
      obtain rfl : i = n := by omega
      exact ⟨-1, stop.succ, .inl ⟨rfl, fun j h1 h2 => absurd h2 (by omega)⟩⟩
    | succ d ih =>
      intro i h0 h1 hd
      by_cases hlt : i < n
      · by_cases hp : p i
        · exact ⟨i, ((step i h0 hlt).1 hp).succ, .inr ⟨Int.le_refl _, hlt, hp, fun j h1 h2 => absurd h2 (by omega)⟩⟩
        · obtain ⟨r, hr, h⟩ := ih (i + 1) (by omega) (by omega) (by omega)
          refine ⟨r, ((step i h0 hlt).2 hp r hr).succ, ?_⟩
          rcases h with ⟨h1, h2⟩ | ⟨h1, h2, h3, h4⟩
          · refine .inl ⟨h1, fun j g1 g2 => ?_⟩
            by_cases e : j = i
            · rw [e]; exact hp
            · exact h2 j (by omega) g2
          · refine .inr ⟨by omega, h2, h3, fun j g1 g2 => ?_⟩
            by_cases e : j = i
            · rw [e]; exact hp
            · exact h4 j (by omega) g2
      · obtain rfl : i = n := by omega
        exact ⟨-1, stop.succ, .inl ⟨rfl, fun j h1 h2 => absurd h2 (by omega)⟩⟩
  exact key n.toNat 0 (Int.le_refl _) hn (by omega)
theorem bytes_nil {a : ByteArray} : a.toList = ([] : List UInt8) ↔ a.size = 0 := by
  rw [Lib.toList_data]
  cases a with | mk x => cases x with | mk x => simp [ByteArray.size]
end Go.Proofs.Ytefmkmhjbfpelaa.Ev0
namespace Go.Proofs.Ytefmkmhjbfpelaa.QO
open Go.RowKit Go.Proofs.YtefmkmhjbfpelaaW.PrintWords Go.Proofs.Ytefmkmhjbfpelaa.Ev0
theorem u64_nonneg' {n : Int} (h0 : 0 ≤ n) (h1 : n ≤ 18446744073709551615) : IntKind.u64.wrap n = n := by rw [IntKind.wrap_u64]; omega
def Pl (b : List Int) (t : Int) : Prop := 0 ≤ t ∧ t ≤ (b.length : Int)
theorem tm_lt (x a : Int) (h1 : 1 < a) (h2 : a ≤ 9223372036854775807) : 0 ≤ wrap64 (Int.tmod (IntKind.u64.wrap x) (IntKind.u64.wrap a)) ∧ wrap64 (Int.tmod (IntKind.u64.wrap x) (IntKind.u64.wrap a)) < a := by
  rw [u64_nonneg' (n := a) (by omega) (by omega)]
  have hx : 0 ≤ IntKind.u64.wrap x := by rw [IntKind.wrap_u64]; omega
  have e : Int.tmod (IntKind.u64.wrap x) a = IntKind.u64.wrap x % a := Int.tmod_eq_emod_of_nonneg hx
  have h3 := Int.emod_nonneg (IntKind.u64.wrap x) (show a ≠ 0 by omega)
  have h4 := Int.emod_lt_of_pos (IntKind.u64.wrap x) (show 0 < a by omega)
  rw [e, w64 (by omega) (by omega)]
  exact ⟨h3, h4⟩
theorem n_ev (b : List Int) (hb : (b.length : Int) ≤ 1048576) (t m s a : Int) (ht : Pl b t) (ha : a ≤ 9223372036854775807) :
    ∃ r t' m', spec_l01Src_n.f b t m s a = some (r, t', m', s) ∧ Pl b t' ∧ 0 ≤ r ∧ (r = 0 ∨ r < a) := by
  obtain ⟨h0, h1⟩ := ht
  unfold spec_l01Src_n.f spec_l01Src_n_res.f spec_l01Src_n_resZ.f
  by_cases g1 : a ≤ 1
  · rw [if_pos g1]
    exact ⟨_, _, _, rfl, ⟨h0, h1⟩, Int.le_refl _, .inl rfl⟩
  · rw [if_neg g1]
    have hz : ¬ IntKind.u64.wrap a = 0 := by rw [u64_nonneg' (n := a) (by omega) (by omega)]; omega
    rw [if_neg hz]
    by_cases g2 : t < (b.length : Int)
    · rw [if_pos g2, if_pos h0, w64 (x := t + 1) (by omega) (by omega)]
      have := tm_lt (IntKind.u64.wrap (rd b t) + spec_l01Src_n_mix.f m / 1048576) a (by omega) ha
      exact ⟨_, _, _, rfl, ⟨by omega, by omega⟩, this.1, .inr this.2⟩
    · rw [if_neg g2]
      have := tm_lt (spec_l01Src_n_mix.f m / 1048576) a (by omega) ha
      exact ⟨_, _, _, rfl, ⟨h0, h1⟩, this.1, .inr this.2⟩
theorem pick_ev (b : List Int) (hb : (b.length : Int) ≤ 1048576) (t m s : Int) (ht : Pl b t) (l : List ByteArray) (hl0 : 0 < l.length) (hl : l.length ≤ 1000) :
    ∃ x t' m', spec_l01Src_pick.f b t m s l = some (x, t', m', s) ∧ Pl b t' ∧ x ∈ l := by
  obtain ⟨r, t', m', h, hp, h0, h1⟩ := n_ev b hb t m s (l.length : Int) ht (by omega)
  unfold spec_l01Src_pick.f
  rw [h]
  simp only [Option.bind_some]
  have hr : r.toNat < l.length := by omega
  rw [if_pos h0, if_pos (show r < (l.length : Int) by omega)]
  refine ⟨_, _, _, rfl, hp, ?_⟩
  unfold rdOf
  rw [getD_at l _ _ hr]
  exact List.getElem_mem hr
theorem draw_one_ev (b : List Int) (hb : (b.length : Int) ≤ 1048576) (t m s a : Int) (ht : Pl b t) (ha : a ≤ 9223372036854775807) :
    ∃ (r : Bool) (t' m' : Int), spec_l01Src_one.f b t m s a = some (r, t', m', s) ∧ Pl b t' := by
  obtain ⟨r, t', m', h, hp, _, _⟩ := n_ev b hb t m s a ht ha
  unfold spec_l01Src_one.f
  rw [h]
  exact ⟨_, _, _, rfl, hp⟩
theorem src_l (l : List Int) (hl : (l.length : Int) ≤ 1048576) (d : Nat) : ∀ (i m : Int), 0 ≤ i → 64 - i ≤ d → ∃ m' sz, Evt (fun k => spec_l01Source.l0 k l i l 0 m 0) (l, 0, m', sz) ∧ 0 ≤ sz ∧ sz ≤ 12 := by
  have fin : ∀ m : Int, ∃ m' sz, Evt (fun _ => if wrap64 ((l.length : Int) / 20) > 12 then some (l, (0 : Int), m, (12 : Int)) else some (l, 0, m, wrap64 ((l.length : Int) / 20))) (l, 0, m', sz) ∧ 0 ≤ sz ∧ sz ≤ 12 := by
    intro m
    have hw : wrap64 ((l.length : Int) / 20) = (l.length : Int) / 20 := w64 (by omega) (by omega)
    rw [hw]
    by_cases h : (l.length : Int) / 20 > 12
    · rw [if_pos h]
      exact ⟨m, 12, Evt.pure _, by decide, by decide⟩
    · rw [if_neg h]
      exact ⟨m, _, Evt.pure _, by omega, by omega⟩
  induction d with
  | zero =>
    intro i m h0 hd
    obtain ⟨m', sz, h, h2⟩ := fin m
    refine ⟨m', sz, Evt.succ ?_, h2⟩
    simp only [spec_l01Source.l0]
    exact Evt.ite (fun _ => Evt.neg (by omega) h) (fun _ => h)
  | succ d ih =>
    intro i m h0 hd
    by_cases g1 : i < (l.length : Int)
    · by_cases g2 : i < 64
      · have hw : wrap64 (i + 1) = i + 1 := w64 (by omega) (by omega)
        obtain ⟨m', sz, h, h2⟩ := ih (i + 1) (IntKind.u64.wrap ((Go.bits .xor .u64 m (IntKind.u64.wrap (rd l i))) * 1099511628211)) (by omega) (by omega)
        refine ⟨m', sz, Evt.succ ?_, h2⟩
        simp only [spec_l01Source.l0, hw]
        exact Evt.pos g1 (Evt.pos g2 (Evt.pos h0 h))
      · obtain ⟨m', sz, h, h2⟩ := fin m
        refine ⟨m', sz, Evt.succ ?_, h2⟩
        simp only [spec_l01Source.l0]
        exact Evt.pos g1 (Evt.neg g2 h)
    · obtain ⟨m', sz, h, h2⟩ := fin m
      refine ⟨m', sz, Evt.succ ?_, h2⟩
      simp only [spec_l01Source.l0]
      exact Evt.neg g1 h
theorem src_ev (l : List Int) (hl : (l.length : Int) ≤ 1048576) : ∃ m sz, Evt (fun k => spec_l01Source.f k l) (l, 0, m, sz) ∧ 0 ≤ sz ∧ sz ≤ 12 := src_l l hl 64 0 _ (Int.le_refl _) (by omega)
end Go.Proofs.Ytefmkmhjbfpelaa.QO
namespace Go.Proofs.Ytefmkmhjbfpelaa.QO
open Go.RowKit Go.Proofs.YtefmkmhjbfpelaaW.PrintWords Go.Proofs.Ytefmkmhjbfpelaa.Ev0
def less (a b : ByteArray) : Prop := Op.bytesLess a.toList b.toList = true
noncomputable def cmpS (a b : ByteArray) : Int := if Op.bytesLess a.toList b.toList = true then -1 else if Op.bytesLess b.toList a.toList = true then 1 else 0
def cmpI (a b : Int) : Int := if a < b then -1 else if a > b then 1 else 0
theorem cmpS_ev (a b : ByteArray) : cmp_Compare_string.f a b = some (cmpS a b) := by
  have e1 : ∀ x : ByteArray, cmp_isNaN_string.f x = some false := fun x => by simp [cmp_isNaN_string.f]
  unfold cmp_Compare_string.f cmpS
  simp only [e1, Option.bind_some, Bool.false_eq_true, if_false]
  split
  · rfl
  · split <;> rfl
theorem cmpI_ev (a b : Int) : cmp_Compare_int64.f a b = some (cmpI a b) := by
  have e1 : ∀ x : Int, cmp_isNaN_int64.f x = some false := fun x => by simp [cmp_isNaN_int64.f]
  unfold cmp_Compare_int64.f cmpI
  simp only [e1, Option.bind_some, Bool.false_eq_true, if_false]
  split
  · rfl
  · split <;> rfl
theorem cmpS_cases (a b : ByteArray) : (less a b ∧ ¬ less b a ∧ ¬ a.toList = b.toList ∧ cmpS a b = -1) ∨ (¬ less a b ∧ less b a ∧ ¬ a.toList = b.toList ∧ cmpS a b = 1) ∨ (¬ less a b ∧ ¬ less b a ∧ a.toList = b.toList ∧ cmpS a b = 0) := by
  have t1 := Bs.less_tri a.toList b.toList
  have t2 := Bs.less_tri b.toList a.toList
  unfold less cmpS
  cases h1 : Op.bytesLess a.toList b.toList <;> cases h2 : Op.bytesLess b.toList a.toList
  · right; right
    rw [h1, h2] at t1
    refine ⟨by simp, by simp, by simpa using t1, by simp⟩
  · right; left
    refine ⟨by simp, by simp, ?_, by simp⟩
    intro e
    rw [e, Bs.less_irrefl] at h2
    cases h2
  · left
    refine ⟨by simp, by simp, ?_, by simp⟩
    intro e
    rw [e, Bs.less_irrefl] at h1
    cases h1
  · rw [h1, h2] at t1
    simp at t1
theorem cmpI_cases (a b : Int) : (a < b ∧ cmpI a b = -1) ∨ (b < a ∧ cmpI a b = 1) ∨ (a = b ∧ cmpI a b = 0) := by
  unfold cmpI
  split
  · left; exact ⟨by assumption, rfl⟩
  · split
    · right; left; exact ⟨by omega, rfl⟩
    · right; right; exact ⟨by omega, rfl⟩
def orL : List Int → Int
  | [] => 0
  | x :: xs => if x = 0 then orL xs else x
theorem or_ev (l : List Int) (hl : l.length ≤ 1000) : Evt (fun k => cmp_Or_int.f k l) (orL l) := by
  unfold cmp_Or_int.f
  have h := up_loop (l.length : Int) (fun k (_ : Unit) i => cmp_Or_int.l0 k 0 l (l.length : Int) i) (fun _ => ()) (fun i => orL (l.drop i.toNat)) ?_ ?_ 0 (Int.le_refl _) (by omega)
  · simpa using h
  · intro i h0 hlt ih
    simp only [cmp_Or_int.l0]
    refine Evt.pos hlt (Evt.pos h0 (Evt.pos hlt ?_))
    rw [w64 (show -9223372036854775808 ≤ i + 1 by omega) (by omega)]
    have hi : i.toNat < l.length := by omega
    have e : l.drop i.toNat = rd l i :: l.drop (i + 1).toNat := by
      rw [show (i + 1).toNat = i.toNat + 1 by omega, List.drop_eq_getElem_cons hi]
      congr 1
      unfold rd
      rw [getD_at l 0 _ hi]
    rw [e]
    unfold orL
    by_cases hz : rd l i = 0
    · rw [if_pos hz]
      exact Evt.pos hz ih
    · rw [if_neg hz]
      exact Evt.neg hz (Evt.pure _)
  · simp only [cmp_Or_int.l0]
    refine Evt.neg (by omega) ((Evt.pure _).same ?_)
    simp [orL]
end Go.Proofs.Ytefmkmhjbfpelaa.QO
namespace Go.Proofs.Ytefmkmhjbfpelaa.QO
open Go.RowKit Go.Proofs.YtefmkmhjbfpelaaW.PrintWords Go.Proofs.Ytefmkmhjbfpelaa.Ev0
theorem within_ev (a b c : Int) : impl_within.f a b c = some (B (b ≤ a ∧ a ≤ c)) := by
  unfold impl_within.f
  by_cases h : b ≤ a
  · rw [if_pos h, decide_B]
    exact congrArg some (B_congr ⟨fun x => ⟨h, x⟩, fun x => x.2⟩)
  · rw [if_neg h, B_false (fun x => h x.1)]
theorem isGreat_ev (c : Int) : impl_isGreat.f c = some (B (65 ≤ c ∧ c ≤ 90)) := by
  unfold impl_isGreat.f
  by_cases h : c ≥ 65
  · rw [if_pos h, decide_B]
    exact congrArg some (B_congr ⟨fun x => ⟨h, x⟩, fun x => x.2⟩)
  · rw [if_neg h, B_false (fun x => h x.1)]
theorem isDigit_ev (c : Int) : impl_isDigit.f c = some (B (48 ≤ c ∧ c ≤ 57)) := by
  unfold impl_isDigit.f
  by_cases h : c ≥ 48
  · rw [if_pos h, decide_B]
    exact congrArg some (B_congr ⟨fun x => ⟨h, x⟩, fun x => x.2⟩)
  · rw [if_neg h, B_false (fun x => h x.1)]
def okc (c : Int) : Prop := (65 ≤ c ∧ c ≤ 90) ∨ (48 ≤ c ∧ c ≤ 57) ∨ c = 45
def NameP (s : ByteArray) : Prop := 1 ≤ (s.size : Int) ∧ (s.size : Int) ≤ 12 ∧ (65 ≤ bt s 0 ∧ bt s 0 ≤ 90) ∧ ∀ j : Int, 0 ≤ j → j < s.size → okc (bt s j)
noncomputable def nameB (s : ByteArray) : Bool := B (NameP s)
theorem specName_l (s : ByteArray) (hs : (s.size : Int) ≤ 9223372036854775807) (d : Nat) : ∀ i : Int, 0 ≤ i → (s.size : Int) - i ≤ d → Evt (fun k => spec_l01Name.l0 k s i) (B (∀ j : Int, i ≤ j → j < s.size → okc (bt s j))) := by
  induction d with
  | zero =>
    intro i h0 hd
    apply Evt.succ
    simp only [spec_l01Name.l0]
    refine Evt.neg (by omega) ((Evt.pure true).same (B_true ?_).symm)
    intro j h1 h2
    omega
  | succ d ih =>
    intro i h0 hd
    apply Evt.succ
    simp only [spec_l01Name.l0]
    by_cases hlt : i < (s.size : Int)
    · refine Evt.pos hlt (Evt.pos h0 ?_)
      have hw : wrap64 (i + 1) = i + 1 := w64 (by omega) (by omega)
      rw [hw]
      have yes : okc (bt s i) → Evt (fun k => spec_l01Name.l0 k s (i + 1)) (B (∀ j : Int, i ≤ j → j < s.size → okc (bt s j))) := fun hc =>
        (ih (i + 1) (by omega) (by omega)).same (B_congr ⟨fun h j h1 h2 => by
          by_cases e : j = i
          · rw [e]; exact hc
          · exact h j (by omega) h2, fun h j h1 h2 => h j (by omega) h2⟩)
      have no : ¬ okc (bt s i) → Evt (fun _ => some false) (B (∀ j : Int, i ≤ j → j < s.size → okc (bt s j))) := fun hc =>
        (Evt.pure false).same (B_false (fun h => hc (h i (Int.le_refl _) hlt))).symm
      have digit : Evt (fun k => if bt s i ≥ 48 then (if bt s i ≤ 57 then spec_l01Name.l0 k s (i + 1) else (if bt s i = 45 then spec_l01Name.l0 k s (i + 1) else some false)) else (if bt s i = 45 then spec_l01Name.l0 k s (i + 1) else some false)) (B (∀ j : Int, i ≤ j → j < s.size → okc (bt s j))) ∨ (65 ≤ bt s i ∧ bt s i ≤ 90) := by
        by_cases hg : 65 ≤ bt s i ∧ bt s i ≤ 90
        · exact .inr hg
        · refine .inl (Evt.ite (fun h1 => Evt.ite (fun h2 => yes (.inr (.inl ⟨h1, h2⟩))) (fun h2 => Evt.ite (fun h3 => yes (.inr (.inr h3))) (fun h3 => no (fun hk => ?_)))) (fun h1 => Evt.ite (fun h3 => yes (.inr (.inr h3))) (fun h3 => no (fun hk => ?_))))
          · rcases hk with hk | hk | hk
            · exact hg hk
            · omega
            · exact h3 hk
          · rcases hk with hk | hk | hk
            · exact hg hk
            · omega
            · exact h3 hk
      refine Evt.ite (fun h1 => Evt.ite (fun h2 => yes (.inl ⟨h1, h2⟩)) (fun h2 => ?_)) (fun h1 => ?_)
      · exact digit.resolve_right (fun h => h2 h.2)
      · exact digit.resolve_right (fun h => h1 h.1)
    · refine Evt.neg hlt ((Evt.pure true).same (B_true ?_).symm)
      intro j h1 h2
      omega
theorem specName_ev (s : ByteArray) (hs : (s.size : Int) ≤ 9223372036854775807) : Evt (fun k => spec_l01Name.f k s) (nameB s) := by
  unfold spec_l01Name.f
  have bad : ¬ NameP s → Evt (fun k => spec_l01Name.j0 k s true) (nameB s) := fun h => by
    apply Evt.succ
    simp only [spec_l01Name.j0]
    exact (Evt.pure false).same (B_false h).symm
  refine Evt.ite (fun h => bad (fun hn => by have := hn.1; omega)) (fun h1 => Evt.ite (fun h => bad (fun hn => by have := hn.2.1; omega)) (fun h2 => Evt.pos (by omega) (Evt.ite (fun h => bad (fun hn => by have := hn.2.2.1.1; omega)) (fun h3 => ?_))))
  by_cases h4 : bt s 0 > 90
  · rw [decide_eq_true h4]
    exact bad (fun hn => by have := hn.2.2.1.2; omega)
  · rw [decide_eq_false h4]
    apply Evt.succ
    simp only [spec_l01Name.j0]
    refine (specName_l s hs s.size 0 (Int.le_refl _) (by omega)).same (B_congr ⟨fun h => ⟨by omega, by omega, ⟨by omega, by omega⟩, h⟩, fun h => h.2.2.2⟩)
theorem implName_l (s : ByteArray) (hs : (s.size : Int) ≤ 9223372036854775807) (d : Nat) : ∀ i : Int, 0 ≤ i → (s.size : Int) - i ≤ d →
    Evt (fun k => impl_isName.l0 k s (s.size : Int) i) (B ((∀ j : Int, i ≤ j → j < s.size → (65 ≤ bt s j ∧ bt s j ≤ 90) ∨ (j ≠ 0 ∧ okc (bt s j))) ∧ 1 ≤ (s.size : Int) ∧ (s.size : Int) ≤ 12)) := by
  induction d with
  | zero =>
    intro i h0 hd
    apply Evt.succ
    simp only [impl_isName.l0]
    refine Evt.neg (by omega) (Evt.const ?_)
    rw [within_ev]
    exact congrArg some (B_congr ⟨fun h => ⟨fun j h1 h2 => by omega, h⟩, fun h => h.2⟩)
  | succ d ih =>
    intro i h0 hd
    apply Evt.succ
    simp only [impl_isName.l0]
    by_cases hlt : i < (s.size : Int)
    · refine Evt.pos hlt (Evt.pos h0 (Evt.pos hlt ?_))
      have hw : wrap64 (i + 1) = i + 1 := w64 (by omega) (by omega)
      rw [hw, isGreat_ev, isDigit_ev]
      have yes : ((65 ≤ bt s i ∧ bt s i ≤ 90) ∨ (i ≠ 0 ∧ okc (bt s i))) → Evt (fun k => impl_isName.l0 k s (s.size : Int) (i + 1)) (B ((∀ j : Int, i ≤ j → j < s.size → (65 ≤ bt s j ∧ bt s j ≤ 90) ∨ (j ≠ 0 ∧ okc (bt s j))) ∧ 1 ≤ (s.size : Int) ∧ (s.size : Int) ≤ 12)) := fun hc =>
        (ih (i + 1) (by omega) (by omega)).same (B_congr ⟨fun h => ⟨fun j h1 h2 => by
          by_cases e : j = i
          · rw [e]; exact hc
          · exact h.1 j (by omega) h2, h.2⟩, fun h => ⟨fun j h1 h2 => h.1 j (by omega) h2, h.2⟩⟩)
      have no : ¬ ((65 ≤ bt s i ∧ bt s i ≤ 90) ∨ (i ≠ 0 ∧ okc (bt s i))) → Evt (fun _ => some false) (B ((∀ j : Int, i ≤ j → j < s.size → (65 ≤ bt s j ∧ bt s j ≤ 90) ∨ (j ≠ 0 ∧ okc (bt s j))) ∧ 1 ≤ (s.size : Int) ∧ (s.size : Int) ≤ 12)) := fun hc =>
        (Evt.pure false).same (B_false (fun h => hc (h.1 i (Int.le_refl _) hlt))).symm
      simp only [Option.bind_some]
      refine Evt.ite (fun h1 => yes (.inl (B_iff.1 h1))) (fun h1 => ?_)
      have g1 : ¬ (65 ≤ bt s i ∧ bt s i ≤ 90) := fun h => h1 (B_iff.2 h)
      refine Evt.ite (fun h2 => no (fun h => h.elim g1 (fun h => h.1 h2))) (fun h2 => Evt.ite (fun h3 => yes (.inr ⟨h2, .inr (.inl (B_iff.1 h3))⟩)) (fun h3 => Evt.ite (fun h4 => yes (.inr ⟨h2, .inr (.inr h4)⟩)) (fun h4 => no (fun h => ?_))))
      rcases h with h | ⟨_, h | h | h⟩
      · exact g1 h
      · exact g1 h
      · exact h3 (B_iff.2 h)
      · exact h4 h
    · refine Evt.neg hlt (Evt.const ?_)
      rw [within_ev]
      exact congrArg some (B_congr ⟨fun h => ⟨fun j h1 h2 => by omega, h⟩, fun h => h.2⟩)
theorem implName_ev (s : ByteArray) (hs : (s.size : Int) ≤ 9223372036854775807) : Evt (fun k => impl_isName.f k s) (nameB s) := by
  unfold impl_isName.f
  refine (implName_l s hs s.size 0 (Int.le_refl _) (by omega)).same (B_congr ⟨fun h => ⟨h.2.1, h.2.2, ?_, ?_⟩, fun h => ⟨?_, h.1, h.2.1⟩⟩)
  · rcases h.1 0 (Int.le_refl _) (by omega) with h | h
    · exact h
    · exact absurd rfl h.1
  · intro j h1 h2
    rcases h.1 j h1 h2 with h | h
    · exact .inl h
    · exact h.2
  · intro j h1 h2
    by_cases e : j = 0
    · rw [e]; exact .inl h.2.2.1
    · exact .inr ⟨e, h.2.2.2 j h1 h2⟩
end Go.Proofs.Ytefmkmhjbfpelaa.QO
namespace Go.Proofs.Ytefmkmhjbfpelaa.QO
open Go.RowKit Go.Proofs.YtefmkmhjbfpelaaW.PrintWords Go.Proofs.Ytefmkmhjbfpelaa.Ev0
theorem longText_ev (l : List ByteArray) (hl : l.length ≤ 1000) : Evt (fun k => impl_longText.f k l) (B (∃ x ∈ l, (x.size : Int) > 20000)) := by
  unfold impl_longText.f slices_ContainsFunc_string_string_impl_longText_1.f slices_IndexFunc_string_string_impl_longText_1.f
  obtain ⟨r, hr, h⟩ := find_loop (l.length : Int) (by omega) (fun i => ((rdOf ByteArray.empty l i).size : Int) > 20000) (fun k i => slices_IndexFunc_string_string_impl_longText_1.l0 k l (l.length : Int) i) (by
      intro i h0 hlt
      have hw : wrap64 (i + 1) = i + 1 := w64 (by omega) (by omega)
      simp only [slices_IndexFunc_string_string_impl_longText_1.l0, impl_longText_1.f, Option.bind_some, hw]
      exact ⟨fun hp => Evt.pos hlt (Evt.pos h0 (Evt.pos hlt (Evt.pos (decide_eq_true hp) (Evt.pure _)))), fun hp r hr => Evt.pos hlt (Evt.pos h0 (Evt.pos hlt (Evt.neg (by simpa using hp) hr)))⟩) (by
      simp only [slices_IndexFunc_string_string_impl_longText_1.l0]
      exact Evt.neg (by omega) (Evt.pure _))
  have at_ : ∀ i : Int, 0 ≤ i → i < (l.length : Int) → rdOf ByteArray.empty l i ∈ l := fun i h0 h1 => by
    unfold rdOf
    rw [getD_at l _ _ (by omega)]
    exact List.getElem_mem _
  refine Evt.bind (Evt.bind hr (Evt.pure _)) ((Evt.pure _).same ?_)
  rw [decide_B]
  refine B_congr ⟨fun hg => ?_, fun ⟨x, hx, hg⟩ => ?_⟩
  · rcases h with ⟨h1, _⟩ | ⟨h1, h2, h3, _⟩
    · omega
    · exact ⟨_, at_ r h1 h2, h3⟩
  · rcases h with ⟨h1, h2⟩ | ⟨h1, _⟩
    · obtain ⟨i, hi, rfl⟩ := List.mem_iff_getElem.1 hx
      refine absurd ?_ (h2 i (by omega) (by omega))
      show ((rdOf ByteArray.empty l (i : Int)).size : Int) > 20000
      unfold rdOf
      rw [Int.toNat_natCast, getD_at l _ _ hi]
      exact hg
    · exact h1
theorem longText1_ev (s : ByteArray) : Evt (fun k => impl_longText.f k [s]) (B ((s.size : Int) > 20000)) :=
  (longText_ev [s] (by simp)).same (B_congr ⟨fun ⟨x, hx, h⟩ => by rw [List.mem_singleton.1 hx] at h; exact h, fun h => ⟨s, by simp, h⟩⟩)
end Go.Proofs.Ytefmkmhjbfpelaa.QO
namespace Go.Proofs.Ytefmkmhjbfpelaa.QO
open Go.RowKit Go.Proofs.Ytefmkmhjbfpelaa Go.Proofs.YtefmkmhjbfpelaaW.PrintWords Go.Proofs.Ytefmkmhjbfpelaa.Ev0
def OutP (p : ByteArray) (n : Int) (t : ByteArray) (tr due : Int) : Prop := NameP p ∧ (1 ≤ n ∧ n ≤ 999999) ∧ 1 ≤ (t.size : Int) ∧ (t.size : Int) ≤ 20000 ∧ (0 ≤ tr ∧ tr ≤ 5) ∧ (0 ≤ due ∧ due ≤ 100000)
noncomputable def outB (p : ByteArray) (n : Int) (t : ByteArray) (tr due : Int) : Bool := B (OutP p n t tr due)
theorem l01Control_ev (n : Int) : spec_l01Control.f n = some (B (1 ≤ n ∧ n ≤ 999999)) := by
  unfold spec_l01Control.f
  by_cases h : n ≥ 1
  · rw [if_pos h, decide_B]
    exact congrArg some (B_congr ⟨fun x => ⟨h, x⟩, fun x => x.2⟩)
  · rw [if_neg h, B_false (fun x => h x.1)]
theorem l01Day_ev (n : Int) : spec_l01Day.f n = some (B (0 ≤ n ∧ n ≤ 100000)) := by
  unfold spec_l01Day.f
  by_cases h : n ≥ 0
  · rw [if_pos h, decide_B]
    exact congrArg some (B_congr ⟨fun x => ⟨h, x⟩, fun x => x.2⟩)
  · rw [if_neg h, B_false (fun x => h x.1)]
theorem isControl_ev (n : Int) : impl_isControl.f n = some (B (1 ≤ n ∧ n ≤ 999999)) := by
  unfold impl_isControl.f
  rw [within_ev]
  rfl
theorem isDay_ev (n : Int) : impl_isDay.f n = some (B (0 ≤ n ∧ n ≤ 100000)) := by
  unfold impl_isDay.f
  rw [within_ev]
  rfl
theorem specOut_ev (p : ByteArray) (n : Int) (t : ByteArray) (tr due : Int) (hp : (p.size : Int) ≤ 9223372036854775807) : Evt (fun k => spec_l12Out.f k p n t tr due) (outB p n t tr due) := by
  have key : Evt (fun k => spec_l12Out.f k p n t tr due) (B (NameP p ∧ (1 ≤ n ∧ n ≤ 999999) ∧ 1 ≤ (t.size : Int) ∧ (t.size : Int) ≤ 20000 ∧ 0 ≤ tr ∧ tr ≤ 5 ∧ (0 ≤ due ∧ due ≤ 100000))) := by
    unfold spec_l12Out.f
    simp only [l01Control_ev, l01Day_ev, Option.bind_some]
    exact Evt.bind (specName_ev p hp) (and_ B_iff fun _ => and_ B_iff fun _ => and_ Iff.rfl fun _ => and_ Iff.rfl fun _ => and_ Iff.rfl fun _ => and_ Iff.rfl fun _ => lastB_ Iff.rfl)
  refine key.same (B_congr ⟨?_, ?_⟩)
  · rintro ⟨h1, h2, h3, h4, h5, h6, h7⟩
    exact ⟨h1, h2, h3, h4, ⟨h5, h6⟩, h7⟩
  · rintro ⟨h1, h2, h3, h4, ⟨h5, h6⟩, h7⟩
    exact ⟨h1, h2, h3, h4, h5, h6, h7⟩
theorem isOut_ev (p : ByteArray) (n : Int) (t : ByteArray) (tr due : Int) (hp : (p.size : Int) ≤ 9223372036854775807) : Evt (fun k => impl_isOut.f k p n t tr due) (outB p n t tr due) := by
  unfold impl_isOut.f outB OutP
  simp only [isControl_ev, isDay_ev, within_ev, Option.bind_some]
  refine Evt.bind (implName_ev p hp) (and_ B_iff fun _ => and_ B_iff fun _ => fail_ (p := 1 ≤ (t.size : Int)) (by rw [bytes_nil]; omega) fun _ => Evt.bind (longText1_ev t) (fail_ (p := (t.size : Int) ≤ 20000) ?_ fun _ => and_ B_iff fun _ => lastB_ Iff.rfl))
  rw [B_iff]
  omega
def obefore (p : ByteArray) (n : Int) (p' : ByteArray) (n' : Int) : Prop := less p p' ∨ (p.toList = p'.toList ∧ n < n')
theorem l12Before_ev (p : ByteArray) (n : Int) (t : ByteArray) (tr due : Int) (p' : ByteArray) (n' : Int) (t' : ByteArray) (tr' due' : Int) : spec_l12Before.f p n t tr due p' n' t' tr' due' = some (B (obefore p n p' n')) := by
  unfold spec_l12Before.f obefore
  rcases cmpS_cases p p' with ⟨h1, h2, h3, _⟩ | ⟨h1, h2, h3, _⟩ | ⟨h1, h2, h3, _⟩
  · rw [if_pos (show Op.bytesLess p.toList p'.toList = true from h1), B_true (.inl h1)]
  · rw [if_neg (show ¬ Op.bytesLess p.toList p'.toList = true from h1), if_neg h3, B_false (fun h => h.elim h1 (fun h => h3 h.1))]
  · rw [if_neg (show ¬ Op.bytesLess p.toList p'.toList = true from h1), if_pos h3, decide_B]
    exact congrArg some (B_congr ⟨fun h => .inr ⟨h3, h⟩, fun h => h.elim (fun h => absurd h h1) (fun h => h.2)⟩)
noncomputable def ocmp (p : ByteArray) (n : Int) (p' : ByteArray) (n' : Int) : Int := orL [cmpS p p', cmpI n n']
theorem outOrder_ev (p : ByteArray) (n : Int) (t : ByteArray) (tr due : Int) (p' : ByteArray) (n' : Int) (t' : ByteArray) (tr' due' : Int) : Evt (fun k => impl_outOrder.f k p n t tr due p' n' t' tr' due') (ocmp p n p' n') := by
  unfold impl_outOrder.f
  simp only [cmpS_ev, cmpI_ev, Option.bind_some]
  exact Evt.bind (or_ev _ (by simp)) (Evt.pure _)
theorem ocmp_iff (p : ByteArray) (n : Int) (p' : ByteArray) (n' : Int) : ocmp p n p' n' ≥ 0 ↔ ¬ obefore p n p' n' := by
  unfold ocmp obefore
  rcases cmpS_cases p p' with ⟨h1, h2, h3, h4⟩ | ⟨h1, h2, h3, h4⟩ | ⟨h1, h2, h3, h4⟩
  · simp [orL, h4, h1]
  · simp [orL, h4, h1, h3]
  · rcases cmpI_cases n n' with ⟨e1, e2⟩ | ⟨e1, e2⟩ | ⟨e1, e2⟩
    · simp [orL, h4, h1, h3, e1, e2]
    · simp [orL, h4, h1, h3, e2]; omega
    · subst e1
      simp [orL, h4, h1, h3, e2]
def okO (x : S24) : Prop := (x.f0.size : Int) ≤ 9223372036854775807
def outAt (l : List S24) (i : Int) : Prop :=
  outB (rd_T24 l i).f0 (rd_T24 l i).f1 (rd_T24 l i).f2 (rd_T24 l i).f3 (rd_T24 l i).f4 = true ∧
    (0 < i → obefore (rd_T24 l (i - 1)).f0 (rd_T24 l (i - 1)).f1 (rd_T24 l i).f0 (rd_T24 l i).f1)
def OutboxP (l : List S24) : Prop := (l.length : Int) ≤ 60 ∧ ∀ i, 0 ≤ i → i < (l.length : Int) → outAt l i
noncomputable def outboxB (l : List S24) : Bool := B (OutboxP l)
theorem okO_at {l : List S24} (h : ∀ x ∈ l, okO x) (i : Int) (h1 : i < (l.length : Int)) (h0 : 0 ≤ i) : okO (rd_T24 l i) := by
  unfold rd_T24
  rw [getD_at l _ _ (by omega)]
  exact h _ (List.getElem_mem _)
theorem specOutbox_ev (l : List S24) (hs : ∀ x ∈ l, okO x) : Evt (fun k => spec_OutboxRight.f k l) (outboxB l) := by
  unfold spec_OutboxRight.f
  by_cases hn : (l.length : Int) > 60
  · exact Evt.pos hn ((Evt.pure false).same (B_false (fun h => by have := h.1; omega)).symm)
  · refine Evt.neg hn ?_
    refine (right_loop (l.length : Int) (by omega) (outAt l) True (fun k i => spec_OutboxRight.l0 k l i) ?_ ?_).same (B_congr ⟨fun h => ⟨by omega, h.1⟩, fun h => ⟨h.2, trivial⟩⟩)
    · intro i h0 hlt
      have hk := okO_at hs i hlt h0
      have hw : wrap64 (i + 1) = i + 1 := w64 (by omega) (by omega)
      have hw1 : wrap64 (i - 1) = i - 1 := w64 (by omega) (by omega)
      simp only [spec_OutboxRight.l0, hw, hw1, l12Before_ev, Option.bind_some]
      refine ⟨fun ok r hr => ?_, fun nok => ?_⟩
      · refine Evt.pos hlt (Evt.pos h0 (Evt.bind (specOut_ev _ _ _ _ _ hk) (Evt.pos ok.1 (Evt.ite (fun hp => Evt.pos (by omega) (Evt.pos (by omega) (Evt.pos (B_true (ok.2 hp)) hr))) (fun _ => hr)))))
      · refine Evt.pos hlt (Evt.pos h0 (Evt.bind (specOut_ev _ _ _ _ _ hk) (Evt.ite (fun hl => Evt.ite (fun hp => Evt.pos (by omega) (Evt.pos (by omega) (Evt.neg (fun hb => nok ⟨hl, fun _ => B_iff.1 hb⟩) (Evt.pure _)))) (fun hp => absurd ⟨hl, fun h => absurd h hp⟩ nok)) (fun _ => Evt.pure _))))
    · simp only [spec_OutboxRight.l0]
      exact Evt.neg (by omega) ((Evt.pure true).same (B_true trivial).symm)
theorem implOutbox_ev (l : List S24) (hs : ∀ x ∈ l, okO x) : Evt (fun k => impl_OutboxRight.f k l) (outboxB l) := by
  unfold impl_OutboxRight.f
  by_cases hn : (l.length : Int) > 60
  · exact Evt.pos hn ((Evt.pure false).same (B_false (fun h => by have := h.1; omega)).symm)
  · refine Evt.neg hn ?_
    refine (right_loop (l.length : Int) (by omega) (outAt l) True (fun k i => impl_OutboxRight.l0 k l l (l.length : Int) i) ?_ ?_).same (B_congr ⟨fun h => ⟨by omega, h.1⟩, fun h => ⟨h.2, trivial⟩⟩)
    · intro i h0 hlt
      have hk := okO_at hs i hlt h0
      have hw : wrap64 (i + 1) = i + 1 := w64 (by omega) (by omega)
      have hw1 : wrap64 (i - 1) = i - 1 := w64 (by omega) (by omega)
      simp only [impl_OutboxRight.l0, hw, hw1]
      refine ⟨fun ok r hr => ?_, fun nok => ?_⟩
      · refine Evt.pos hlt (Evt.pos h0 (Evt.pos hlt (Evt.bind (isOut_ev _ _ _ _ _ hk) (Evt.pos ok.1 (Evt.ite (fun hp => Evt.pos (by omega) (Evt.pos (by omega) (Evt.bind (outOrder_ev _ _ _ _ _ _ _ _ _ _) (Evt.neg (fun h => (ocmp_iff _ _ _ _).1 h (ok.2 hp)) hr)))) (fun _ => hr))))))
      · refine Evt.pos hlt (Evt.pos h0 (Evt.pos hlt (Evt.bind (isOut_ev _ _ _ _ _ hk) (Evt.ite (fun hl => Evt.ite (fun hp => Evt.pos (by omega) (Evt.pos (by omega) (Evt.bind (outOrder_ev _ _ _ _ _ _ _ _ _ _) (Evt.pos ((ocmp_iff _ _ _ _).2 (fun hb => nok ⟨hl, fun _ => hb⟩)) (Evt.pure _))))) (fun hp => absurd ⟨hl, fun h => absurd h hp⟩ nok)) (fun _ => Evt.pure _)))))
    · simp only [impl_OutboxRight.l0]
      exact Evt.neg (by omega) ((Evt.pure true).same (B_true trivial).symm)
end Go.Proofs.Ytefmkmhjbfpelaa.QO
namespace Go.Proofs.Ytefmkmhjbfpelaa.QO
open Go.RowKit Go.Proofs.YtefmkmhjbfpelaaW.PrintWords Go.Proofs.Ytefmkmhjbfpelaa.Ev0
theorem less_trans : ∀ a b c : List UInt8, Op.bytesLess a b = true → Op.bytesLess b c = true → Op.bytesLess a c = true
  | [], [], _, h, _ => by simp [Op.bytesLess] at h
  | [], _ :: _, [], _, h => by simp [Op.bytesLess] at h
  | [], _ :: _, _ :: _, _, _ => by simp [Op.bytesLess]
  | _ :: _, [], _, h, _ => by simp [Op.bytesLess] at h
  | _ :: _, _ :: _, [], _, h => by simp [Op.bytesLess] at h
  | x :: a, y :: b, z :: c, h1, h2 => by
    have ih := less_trans a b c
    have key : ∀ (x y : UInt8) (a b : List UInt8), Op.bytesLess (x :: a) (y :: b) = true ↔ (x.toNat < y.toNat ∨ (x.toNat = y.toNat ∧ Op.bytesLess a b = true)) := by
      intro x y a b
      by_cases g1 : x < y
      · have := UInt8.lt_iff_toNat_lt.1 g1
        simp [Op.bytesLess, g1, this]
      · by_cases g2 : y < x
        · have g3 : ¬ x = y := fun h => by subst h; have := UInt8.lt_iff_toNat_lt.1 g2; omega
          have := UInt8.lt_iff_toNat_lt.1 g2
          simp [Op.bytesLess, g1, g3]
          omega
        · have g3 : x = y := UInt8.toNat_inj.1 (by
            have e1 := mt UInt8.lt_iff_toNat_lt.2 g1
            have e2 := mt UInt8.lt_iff_toNat_lt.2 g2
            omega)
          subst g3
          simp [Op.bytesLess]
    rw [key] at h1 h2 ⊢
    rcases h1 with h1 | ⟨h1, h1'⟩ <;> rcases h2 with h2 | ⟨h2, h2'⟩
    · exact .inl (by omega)
    · exact .inl (by omega)
    · exact .inl (by omega)
    · exact .inr ⟨by omega, ih h1' h2'⟩
theorem less_tr {a b c : ByteArray} (h1 : less a b) (h2 : less b c) : less a c := less_trans _ _ _ h1 h2
theorem less_eq {a b c : ByteArray} (h1 : less a b) (h2 : b.toList = c.toList) : less a c := by unfold less at h1 ⊢; rw [← h2]; exact h1
end Go.Proofs.Ytefmkmhjbfpelaa.QO
namespace Go.Proofs.Ytefmkmhjbfpelaa.Ev0
section
variable {α : Type} {lt : α → α → Prop}
noncomputable def idxP (p : α → Prop) (l : List α) : Nat := l.findIdx (fun y => B (p y))
theorem idxP_le (p : α → Prop) (l : List α) : idxP p l ≤ l.length := List.findIdx_le_length
theorem idxP_no {p : α → Prop} {l : List α} {i : Nat} (h : i < idxP p l) : ¬ p (l[i]'(Nat.lt_of_lt_of_le h (idxP_le p l))) := by
  have := List.not_of_lt_findIdx (p := fun y => B (p y)) (xs := l) (i := i) h
  exact B_iff_false.1 this
theorem idxP_yes {p : α → Prop} {l : List α} (h : idxP p l < l.length) : p (l[idxP p l]) := by
  have := List.findIdx_getElem (p := fun y => B (p y)) (xs := l) (w := h)
  exact B_iff.1 this
structure Ord (lt : α → α → Prop) : Prop where
  tr : ∀ {a b c}, lt a b → lt b c → lt a c
  asy : ∀ {a b}, lt a b → ¬ lt b a
noncomputable def insAt (lt : α → α → Prop) (l : List α) (x : α) : Nat := idxP (lt x) l
theorem pair_of_next (o : Ord lt) {l : List α} (h : ∀ i (h : i + 1 < l.length), lt l[i] l[i + 1]) : l.Pairwise lt := by
  rw [List.pairwise_iff_getElem]
  intro i j hi hj hij
  obtain ⟨d, rfl⟩ : ∃ d, j = i + 1 + d := ⟨j - (i + 1), by omega⟩
  clear hij
  induction d with
  | zero => exact h i hj
  | succ d ih => exact o.tr (ih (by omega)) (h (i + 1 + d) hj)
end
end Go.Proofs.Ytefmkmhjbfpelaa.Ev0
namespace Go.Proofs.Ytefmkmhjbfpelaa.QO
open Go.RowKit Go.Proofs.Ytefmkmhjbfpelaa Go.Proofs.YtefmkmhjbfpelaaW.PrintWords Go.Proofs.Ytefmkmhjbfpelaa.Ev0
abbrev UX := S24
def olt (x y : UX) : Prop := obefore x.f0 x.f1 y.f0 y.f1
def sameO (x y : UX) : Prop := x.f0.toList = y.f0.toList ∧ x.f1 = y.f1
theorem less_asO {a b : ByteArray} (h : less a b) : ¬ less b a := by
  rcases cmpS_cases a b with ⟨_, h2, _⟩ | ⟨h1, _⟩ | ⟨h1, _⟩
  · exact h2
  · exact absurd h h1
  · exact absurd h h1
theorem less_neO {a b : ByteArray} (h : less a b) : ¬ a.toList = b.toList := by
  rcases cmpS_cases a b with ⟨_, _, h3, _⟩ | ⟨h1, _⟩ | ⟨h1, _⟩
  · exact h3
  · exact absurd h h1
  · exact absurd h h1
theorem eq_lessO {a b c : ByteArray} (h1 : a.toList = b.toList) (h2 : less b c) : less a c := by unfold less at h2 ⊢; rw [h1]; exact h2
theorem olt_ord : Ord olt where
  tr := by
    rintro a b c (h1 | ⟨h1, h2⟩) (g1 | ⟨g1, g2⟩)
    · exact .inl (less_tr h1 g1)
    · exact .inl (less_eq h1 g1)
    · exact .inl (eq_lessO h1 g1)
    · exact .inr ⟨h1.trans g1, by omega⟩
  asy := by
    rintro a b (h1 | ⟨h1, h2⟩) (g1 | ⟨g1, g2⟩)
    · exact less_asO h1 g1
    · exact less_neO h1 g1.symm
    · exact less_neO g1 h1.symm
    · omega
theorem rdU_nat {l : List UX} {i : Nat} (h : i < l.length) : rd_T24 l (i : Int) = l[i] := by
  unfold rd_T24
  rw [Int.toNat_natCast, getD_at l _ _ h]
def outX (x : UX) : Prop := outB x.f0 x.f1 x.f2 x.f3 x.f4 = true
theorem OutboxP_iff (l : List UX) : OutboxP l ↔ (l.length : Int) ≤ 60 ∧ (∀ x ∈ l, outX x) ∧ l.Pairwise olt := by
  constructor
  · rintro ⟨h1, h2⟩
    refine ⟨h1, fun x hx => ?_, pair_of_next olt_ord fun i hi => ?_⟩
    · obtain ⟨i, hi, rfl⟩ := List.mem_iff_getElem.1 hx
      have := (h2 i (by omega) (by omega)).1
      rw [rdU_nat hi] at this
      exact this
    · have := (h2 ((i + 1 : Nat) : Int) (by omega) (by omega)).2 (by omega)
      rw [show (((i + 1 : Nat) : Int) - 1) = ((i : Nat) : Int) by omega, rdU_nat hi, rdU_nat (show i < l.length by omega)] at this
      exact this
  · rintro ⟨h1, h2, h3⟩
    refine ⟨h1, fun i h0 hi => ?_⟩
    obtain ⟨j, rfl⟩ : ∃ j : Nat, i = j := ⟨i.toNat, by omega⟩
    have hj : j < l.length := by omega
    refine ⟨?_, fun hp => ?_⟩
    · rw [rdU_nat hj]
      exact h2 _ (List.getElem_mem hj)
    · obtain ⟨m, rfl⟩ : ∃ m, j = m + 1 := ⟨j - 1, by omega⟩
      rw [show (((m + 1 : Nat) : Int) - 1) = ((m : Nat) : Int) by omega, rdU_nat hj, rdU_nat (show m < l.length by omega)]
      exact List.pairwise_iff_getElem.1 h3 _ _ _ _ (by omega)
end Go.Proofs.Ytefmkmhjbfpelaa.QO
namespace Go.Proofs.Ytefmkmhjbfpelaa.QO
open Go.RowKit Go.Proofs.Ytefmkmhjbfpelaa Go.Proofs.YtefmkmhjbfpelaaW.PrintWords Go.Proofs.Ytefmkmhjbfpelaa.Ev0
abbrev OR := List UX × List S105 × List UX × Int
noncomputable def insO (l : List UX) (x : UX) : List UX := l.take (insAt olt l x) ++ [x] ++ l.drop (insAt olt l x)
theorem insO_len (l : List UX) (x : UX) : (insO l x).length = l.length + 1 := by
  have := idxP_le (olt x) l
  have e : insAt olt l x = idxP (olt x) l := rfl
  unfold insO
  simp
  omega
theorem insO_mem (l : List UX) (x y : UX) : y ∈ insO l x ↔ y = x ∨ y ∈ l := by
  unfold insO
  rw [List.append_assoc, List.mem_append, List.mem_append, List.mem_singleton]
  constructor
  · rintro (h | h | h)
    · exact .inr (List.mem_of_mem_take h)
    · exact .inl h
    · exact .inr (List.mem_of_mem_drop h)
  · rintro (h | h)
    · exact .inr (.inl h)
    · rw [← List.take_append_drop (insAt olt l x) l, List.mem_append] at h
      exact h.imp id .inr
noncomputable def endO (l : List UX) (x : UX) (i : Int) : OR := @ite _ (∃ j : Nat, i ≤ j ∧ ∃ h : j < l.length, sameO l[j] x) (Classical.propDecidable _) ([], [], [], 11) (if (l.length : Int) ≥ 60 then ([], [], [], 12) else (insO l x, [], [], 0))
noncomputable def putR (l : List UX) (x : UX) : OR := if (l.length : Int) > 400 then ([], [], [], 2) else @ite _ (OutboxP l ∧ outX x) (Classical.propDecidable _) (endO l x 0) ([], [], [], 1)
noncomputable def stO (l : List UX) (x : UX) (i : Int) : List UX × Bool := @ite _ (i.toNat ≤ insAt olt l x) (Classical.propDecidable _) (l.take i.toNat, false) (l.take (insAt olt l x) ++ [x] ++ (l.drop (insAt olt l x)).take (i.toNat - insAt olt l x), true)
theorem specPut_l (l : List UX) (x : UX) (hn : (l.length : Int) ≤ 400) : Evt (fun k => spec_OutboxPut.l0 k l [] false 0 x.f0 x.f1 x.f2 x.f3 x.f4) (endO l x 0) := by
  have hk : insAt olt l x ≤ l.length := idxP_le _ _
  have h := up_loop (l.length : Int) (fun k (s : List UX × Bool) i => spec_OutboxPut.l0 k l s.1 s.2 i x.f0 x.f1 x.f2 x.f3 x.f4) (stO l x) (endO l x) ?_ ?_ 0 (Int.le_refl _) (by omega)
  · have e : stO l x 0 = ([], false) := by unfold stO; simp
    rw [e] at h
    exact h
  · intro i h0 hlt ih
    have hw : wrap64 (i + 1) = i + 1 := w64 (by omega) (by omega)
    obtain ⟨j, rfl⟩ : ∃ j : Nat, i = j := ⟨i.toNat, by omega⟩
    have hj : j < l.length := by omega
    have ej : ((j : Int) + 1).toNat = j + 1 := by omega
    have tk : l.take j ++ [l[j]] = l.take (j + 1) := by rw [List.take_succ_eq_append_getElem hj]
    have hjoin : Evt (fun k => spec_OutboxPut.j2 k l (stO l x j).1 (stO l x j).2 (j : Int) (B (sameO l[j] x)) x.f0 x.f1 x.f2 x.f3 x.f4) (endO l x j) := by
      apply Evt.succ
      simp only [spec_OutboxPut.j2, hw, rdU_nat hj, l12Before_ev, Option.bind_some, spec_l12Wrong.f]
      by_cases hsm : sameO l[j] x
      · refine Evt.pos (B_true hsm) ((Evt.pure _).same ?_)
        unfold endO
        rw [if_pos ⟨j, by omega, hj, hsm⟩]
      · have ee : endO l x (j : Int) = endO l x ((j : Int) + 1) := by
          unfold endO
          have : (∃ m : Nat, (j : Int) ≤ m ∧ ∃ h : m < l.length, sameO l[m] x) ↔ (∃ m : Nat, (j : Int) + 1 ≤ m ∧ ∃ h : m < l.length, sameO l[m] x) := by
            constructor
            · rintro ⟨m, h1, h2, h3⟩
              by_cases e : m = j
              · subst e
                exact absurd h3 hsm
              · exact ⟨m, by omega, h2, h3⟩
            · rintro ⟨m, h1, h2, h3⟩
              exact ⟨m, by omega, h2, h3⟩
          rw [propext this]
        rw [ee]
        refine Evt.neg (fun hh => hsm (B_iff.1 hh)) ?_
        by_cases h1 : j ≤ insAt olt l x
        · have e : stO l x (j : Int) = (l.take j, false) := by unfold stO; rw [Int.toNat_natCast, if_pos h1]
          rw [e]
          refine Evt.neg (by simp) (Evt.pos h0 (Evt.pos hlt ?_))
          by_cases h2 : j = insAt olt l x
          · have hb : olt x l[j] := by
              have := idxP_yes (p := olt x) (l := l) (by have e2 : insAt olt l x = idxP (olt x) l := rfl; omega)
              have e2 : idxP (olt x) l = j := h2.symm
              simp only [e2] at this
              exact this
            have e3 : stO l x ((j : Int) + 1) = (l.take j ++ [x] ++ [l[j]], true) := by
              unfold stO
              rw [ej, if_neg (by omega), ← h2, show j + 1 - j = 1 by omega, List.drop_eq_getElem_cons hj, List.take_succ_cons, List.take_zero]
            rw [e3] at ih
            exact Evt.pos (B_true hb) (Evt.pos (by simp; omega) (Evt.pos (by simp; omega) ih))
          · have hb : ¬ olt x l[j] := idxP_no (p := olt x) (l := l) (by have e2 : insAt olt l x = idxP (olt x) l := rfl; omega)
            have e3 : stO l x ((j : Int) + 1) = (l.take (j + 1), false) := by unfold stO; rw [ej, if_pos (by omega)]
            rw [e3] at ih
            refine Evt.neg (fun hh => hb (B_iff.1 hh)) (Evt.pos (by simp; omega) ?_)
            dsimp only
            rw [show l.take j ++ [(⟨l[j].f0, l[j].f1, l[j].f2, l[j].f3, l[j].f4⟩ : UX)] = l.take (j + 1) from tk]
            exact ih
        · have e : stO l x (j : Int) = (l.take (insAt olt l x) ++ [x] ++ (l.drop (insAt olt l x)).take (j - insAt olt l x), true) := by unfold stO; rw [Int.toNat_natCast, if_neg h1]
          have e3 : stO l x ((j : Int) + 1) = (l.take (insAt olt l x) ++ [x] ++ (l.drop (insAt olt l x)).take (j - insAt olt l x) ++ [l[j]], true) := by
            unfold stO
            rw [ej, if_neg (by omega), show j + 1 - insAt olt l x = (j - insAt olt l x) + 1 by omega, List.take_succ_eq_append_getElem (by rw [List.length_drop]; omega), List.getElem_drop]
            simp only [show insAt olt l x + (j - insAt olt l x) = j by omega, List.append_assoc]
          rw [e]
          rw [e3] at ih
          refine Evt.pos rfl (Evt.pos h0 (Evt.pos hlt (Evt.pos ?_ ih)))
          simp
          omega
    simp only [spec_OutboxPut.l0, rdU_nat hj]
    refine Evt.pos hlt (Evt.pos h0 (Evt.ite (fun g => ?_) (fun g => ?_)))
    · have e : (l[j].f1 == x.f1) = B (sameO l[j] x) := bool_B ⟨fun h => ⟨g, by simpa using h⟩, fun h => by simpa using h.2⟩
      rw [e]
      exact hjoin
    · have e : false = B (sameO l[j] x) := (B_false (fun h => g h.1)).symm
      rw [e]
      exact hjoin
  · simp only [spec_OutboxPut.l0, spec_l12Wrong.f, Option.bind_some]
    refine Evt.neg (by omega) ?_
    have e0 : endO l x (l.length : Int) = if (l.length : Int) ≥ 60 then ([], [], [], 12) else (insO l x, [], [], 0) := by
      unfold endO
      rw [if_neg]
      rintro ⟨j, h1, h2, _⟩
      omega
    rw [e0]
    have fin : Evt (fun (_ : Nat) => if ((insO l x).length : Int) > 60 then (some (([], [], [], 12) : OR)) else some ((insO l x, [], [], 0) : OR)) (if (l.length : Int) ≥ 60 then ([], [], [], 12) else (insO l x, [], [], 0)) := by
      rw [insO_len]
      by_cases hr : (l.length : Int) ≥ 60
      · rw [if_pos hr]
        exact Evt.pos (by omega) (Evt.pure _)
      · rw [if_neg hr]
        exact Evt.neg (by omega) (Evt.pure _)
    by_cases h1 : l.length ≤ insAt olt l x
    · have e : stO l x (l.length : Int) = (l, false) := by unfold stO; rw [Int.toNat_natCast, if_pos h1, List.take_length]
      have e2 : insO l x = l ++ [x] := by unfold insO; rw [List.take_of_length_le h1, List.drop_of_length_le h1, List.append_nil]
      rw [e]
      rw [e2] at fin ⊢
      exact Evt.neg (by simp) (Evt.pos (by dsimp only; omega) fin)
    · have e : stO l x (l.length : Int) = (insO l x, true) := by
        have e5 : (l.drop (insAt olt l x)).take (l.length - insAt olt l x) = l.drop (insAt olt l x) := List.take_of_length_le (by rw [List.length_drop]; omega)
        unfold stO insO
        rw [Int.toNat_natCast, if_neg h1, e5]
      rw [e]
      exact Evt.pos rfl fin
theorem specPut_ev (l : List UX) (x : UX) (hs : ∀ y ∈ l, okO y) (hx : okO x) : Evt (fun k => spec_OutboxPut.f k l x.f0 x.f1 x.f2 x.f3 x.f4) (putR l x) := by
  unfold spec_OutboxPut.f putR
  simp only [spec_l12Wrong.f, Option.bind_some]
  by_cases hn : (l.length : Int) > 400
  · rw [if_pos hn]
    exact Evt.pos hn (Evt.pure _)
  · rw [if_neg hn]
    refine Evt.neg hn (Evt.bind (specOutbox_ev l hs) ?_)
    have bad : ¬ (OutboxP l ∧ outX x) → Evt (fun k => spec_OutboxPut.j0 k l true x.f0 x.f1 x.f2 x.f3 x.f4) (@ite _ (OutboxP l ∧ outX x) (Classical.propDecidable _) (endO l x 0) ([], [], [], 1)) := fun h => by
      rw [if_neg h]
      apply Evt.succ
      simp only [spec_OutboxPut.j0, if_true, spec_l12Wrong.f, Option.bind_some]
      exact Evt.pure _
    by_cases h1 : OutboxP l
    · refine Evt.pos (B_true h1) (Evt.bind (specOut_ev _ _ _ _ _ hx) ?_)
      by_cases h2 : outX x
      · rw [if_pos ⟨h1, h2⟩, show outB x.f0 x.f1 x.f2 x.f3 x.f4 = true from h2]
        apply Evt.succ
        simp only [spec_OutboxPut.j0, Bool.not_true, Bool.false_eq_true, if_false]
        exact specPut_l l x (by omega)
      · rw [show outB x.f0 x.f1 x.f2 x.f3 x.f4 = false by simpa [outX] using h2]
        exact bad (fun h => h2 h.2)
    · exact Evt.neg (fun hh => h1 (B_iff.1 hh)) (bad (fun h => h1 h.1))
theorem putR_len (l : List UX) (x : UX) : (putR l x).1.length ≤ 400 ∧ (putR l x).2.1.length ≤ 400 ∧ (putR l x).2.2.1.length ≤ 400 := by
  unfold putR endO
  split
  · simp
  · split
    · split
      · simp
      · split
        · simp
        · dsimp only
          rw [insO_len]
          simp
          omega
    · simp
theorem putR_ok (l : List UX) (x : UX) (h : ∀ y ∈ l, okO y) (hx : okO x) : ∀ y ∈ (putR l x).1, okO y := by
  unfold putR endO
  split
  · simp
  · split
    · split
      · simp
      · split
        · simp
        · intro y hy
          exact ((insO_mem l x y).1 hy).elim (fun e => e ▸ hx) (h y)
    · simp
end Go.Proofs.Ytefmkmhjbfpelaa.QO
namespace Go.Proofs.Ytefmkmhjbfpelaa.QO
open Go.RowKit Go.Proofs.Ytefmkmhjbfpelaa Go.Proofs.YtefmkmhjbfpelaaW.PrintWords Go.Proofs.Ytefmkmhjbfpelaa.Ev0
theorem dout_ev (b : List Int) (hb : (b.length : Int) ≤ 1048576) (t m s : Int) (ht : Pl b t) :
    ∃ (x : UX) (t' m' : Int), spec_l01Src_l12Out.f b t m s = some (x.f0, x.f1, x.f2, x.f3, x.f4, t', m', s) ∧ Pl b t' ∧ okO x := by
  obtain ⟨x1, t1, m1, e1, h1, g1⟩ := pick_ev b hb t m s ht [(⟨#[65, 67, 77, 69]⟩ : ByteArray), (⟨#[66, 79, 76, 84]⟩ : ByteArray), (⟨#[67, 45, 49]⟩ : ByteArray)] (by decide) (by decide)
  obtain ⟨x2, t2, m2, e2, h2, _, _⟩ := n_ev b hb t1 m1 s 9 h1 (by decide)
  obtain ⟨x3, t3, m3, e3, h3, g3⟩ := pick_ev b hb t2 m2 s h2 [(⟨#[120]⟩ : ByteArray), (⟨#[83, 89, 78]⟩ : ByteArray), (⟨#[121, 122]⟩ : ByteArray)] (by decide) (by decide)
  obtain ⟨x4, t4, m4, e4, h4, _, _⟩ := n_ev b hb t3 m3 s 6 h3 (by decide)
  obtain ⟨x5, t5, m5, e5, h5, _, _⟩ := n_ev b hb t4 m4 s 20 h4 (by decide)
  obtain ⟨r, t6, m6, e6, h6⟩ := draw_one_ev b hb t5 m5 s 25 h5 (by decide)
  have s1 : (x1.size : Int) ≤ 9223372036854775807 := by
    simp only [List.mem_cons, List.not_mem_nil, or_false] at g1
    rcases g1 with rfl | rfl | rfl <;> decide
  unfold spec_l01Src_l12Out.f
  simp only [e1, e2, e3, e4, e5, e6, Option.bind_some]
  by_cases hr : r = true
  · simp only [if_pos hr]
    obtain ⟨z, t7, m7, e7, h7, _, _⟩ := n_ev b hb t6 m6 s 5 h6 (by decide)
    simp only [e7, Option.bind_some]
    by_cases z0 : z = 0
    · simp only [if_pos z0]
      exact ⟨⟨x1, wrap64 (1 + x2), ⟨#[]⟩, x4, x5⟩, t7, m7, rfl, h7, s1⟩
    · simp only [if_neg z0]
      by_cases z1 : z = 1
      · simp only [if_pos z1]
        exact ⟨⟨x1, wrap64 (1 + x2), x3, 6, x5⟩, t7, m7, rfl, h7, s1⟩
      · simp only [if_neg z1]
        by_cases z2 : z = 2
        · simp only [if_pos z2]
          obtain ⟨y, t8, m8, e8, h8, _, _⟩ := n_ev b hb t7 m7 s 2 h7 (by decide)
          simp only [e8, Option.bind_some]
          exact ⟨⟨x1, wrap64 (1 + x2), x3, x4, wrap64 (100000 + y)⟩, t8, m8, rfl, h8, s1⟩
        · simp only [if_neg z2]
          by_cases z3 : z = 3
          · simp only [if_pos z3]
            exact ⟨⟨x1, 0, x3, x4, x5⟩, t7, m7, rfl, h7, s1⟩
          · simp only [if_neg z3]
            exact ⟨⟨⟨#[97]⟩, wrap64 (1 + x2), x3, x4, x5⟩, t7, m7, rfl, h7, by show (((⟨#[97]⟩ : ByteArray).size : Int)) ≤ 9223372036854775807; decide⟩
  · simp only [if_neg hr]
    exact ⟨⟨x1, wrap64 (1 + x2), x3, x4, x5⟩, t6, m6, rfl, h6, s1⟩
def okQ (q : List UX) : Prop := q.length ≤ 1000 ∧ ∀ x ∈ q, okO x
theorem dbox_l1 (b : List Int) (hb : (b.length : Int) ≤ 1048576) (s : Int) (d : Nat) : ∀ (q : List UX) (i t m : Int), Pl b t → okQ q → 62 - (q.length : Int) ≤ d → ∃ q' t' m', Evt (fun k => spec_l01Src_l12Outbox.l1 k q i b t m s) (q', t', m', s) ∧ Pl b t' ∧ okQ q' := by
  induction d with
  | zero =>
    intro q i t m ht hq hd
    obtain ⟨x, t1, m1, e1, h1, z0, z1⟩ := n_ev b hb t m s 3 ht (by decide)
    refine ⟨q, t1, m1, Evt.succ ?_, h1, hq⟩
    have hw : wrap64 (59 + x) = 59 + x := w64 (by omega) (by omega)
    simp only [spec_l01Src_l12Outbox.l1, e1, Option.bind_some, hw]
    exact Evt.neg (by omega) (Evt.pure _)
  | succ d ih =>
    intro q i t m ht hq hd
    obtain ⟨x, t1, m1, e1, h1, z0, z1⟩ := n_ev b hb t m s 3 ht (by decide)
    have hw : wrap64 (59 + x) = 59 + x := w64 (by omega) (by omega)
    by_cases g : (q.length : Int) < 59 + x
    · obtain ⟨q', t', m', h, hp, hq'⟩ := ih (q ++ [(⟨⟨#[65]⟩, wrap64 (i + 1), ⟨#[120]⟩, 0, i⟩ : UX)]) (wrap64 (i + 1)) t1 m1 h1 ⟨by rw [List.length_append]; simp; omega, fun y hy => by
        rcases List.mem_append.1 hy with hy | hy
        · exact hq.2 y hy
        · rw [List.mem_singleton.1 hy]
          show (((⟨#[65]⟩ : ByteArray).size : Int)) ≤ 9223372036854775807
          decide⟩ (by rw [List.length_append]; simp; omega)
      refine ⟨q', t', m', Evt.succ ?_, hp, hq'⟩
      simp only [spec_l01Src_l12Outbox.l1, e1, Option.bind_some, hw]
      exact Evt.pos g (Evt.pos (by have := hq.1; omega) h)
    · refine ⟨q, t1, m1, Evt.succ ?_, h1, hq⟩
      simp only [spec_l01Src_l12Outbox.l1, e1, Option.bind_some, hw]
      exact Evt.neg g (Evt.pure _)
theorem dbox_j1 (b : List Int) (hb : (b.length : Int) ≤ 1048576) (t m s : Int) (ht : Pl b t) (q : List UX) (hq : okQ q) : ∃ q' t' m', Evt (fun k => spec_l01Src_l12Outbox.j1 k q b t m s) (q', t', m', s) ∧ Pl b t' ∧ okQ q' := by
  obtain ⟨r, t1, m1, e1, h1⟩ := draw_one_ev b hb t m s 50 ht (by decide)
  by_cases hr : r = true
  · obtain ⟨q', t', m', h, hp, hq'⟩ := dbox_l1 b hb s 62 [] 0 t1 m1 h1 ⟨by simp, by simp⟩ (by simp)
    refine ⟨q', t', m', Evt.succ ?_, hp, hq'⟩
    simp only [spec_l01Src_l12Outbox.j1, e1, Option.bind_some]
    exact Evt.pos hr h
  · refine ⟨q, t1, m1, Evt.succ ?_, h1, hq⟩
    simp only [spec_l01Src_l12Outbox.j1, e1, Option.bind_some]
    exact Evt.neg hr (Evt.pure _)
theorem dbox_end (b : List Int) (hb : (b.length : Int) ≤ 1048576) (t m s : Int) (ht : Pl b t) (q : List UX) (hq : q.length ≤ 400) (hqo : ∀ x ∈ q, okO x) (i : Int) (hi : ¬ i > 0) : ∃ q' t' m', Evt (fun k => spec_l01Src_l12Outbox.l0 (k + 1) q i b t m s) (q', t', m', s) ∧ Pl b t' ∧ okQ q' := by
  obtain ⟨r, t1, m1, e1, h1⟩ := draw_one_ev b hb t m s 15 ht (by decide)
  by_cases hr : r = true
  · obtain ⟨x, t2, m2, e2, h2, hx⟩ := dout_ev b hb t1 m1 s h1
    obtain ⟨q', t', m', h, hp, hq'⟩ := dbox_j1 b hb t2 m2 s h2 (q ++ [x]) ⟨by simp; omega, fun y hy => (List.mem_append.1 hy).elim (hqo y) (fun hy => by rw [List.mem_singleton.1 hy]; exact hx)⟩
    refine ⟨q', t', m', ?_, hp, hq'⟩
    simp only [spec_l01Src_l12Outbox.l0, e1, e2, Option.bind_some, List.nil_append]
    exact Evt.neg hi (Evt.pos hr (Evt.pos (by simp; omega) (Evt.pos (by omega) h)))
  · obtain ⟨q', t', m', h, hp, hq'⟩ := dbox_j1 b hb t1 m1 s h1 q ⟨by omega, hqo⟩
    refine ⟨q', t', m', ?_, hp, hq'⟩
    simp only [spec_l01Src_l12Outbox.l0, e1, Option.bind_some]
    exact Evt.neg hi (Evt.neg hr h)
theorem dbox_l0 (b : List Int) (hb : (b.length : Int) ≤ 1048576) (s : Int) (d : Nat) : ∀ (q : List UX) (i t m : Int), Pl b t → q.length ≤ 400 → (∀ x ∈ q, okO x) → i ≤ d → i ≤ 1000 → ∃ q' t' m', Evt (fun k => spec_l01Src_l12Outbox.l0 k q i b t m s) (q', t', m', s) ∧ Pl b t' ∧ okQ q' := by
  induction d with
  | zero =>
    intro q i t m ht hq hqo hd _
    obtain ⟨q', t', m', h, h2⟩ := dbox_end b hb t m s ht q hq hqo i (by omega)
    exact ⟨q', t', m', h.succ, h2⟩
  | succ d ih =>
    intro q i t m ht hq hqo hd h1000
    by_cases g : i > 0
    · obtain ⟨x, t2, m2, e2, h2, hx⟩ := dout_ev b hb t m s ht
      have hput := specPut_ev q x hqo hx
      have hlen := (putR_len q x).1
      have hok := putR_ok q x hqo hx
      have hw : wrap64 (i - 1) = i - 1 := w64 (by omega) (by omega)
      by_cases hc : (putR q x).2.2.2 = 0
      · obtain ⟨q', t', m', h, h3⟩ := ih (putR q x).1 (i - 1) t2 m2 h2 hlen hok (by omega) (by omega)
        refine ⟨q', t', m', Evt.succ ?_, h3⟩
        simp only [spec_l01Src_l12Outbox.l0, e2, Option.bind_some, hw]
        exact Evt.pos g (Evt.bind hput (Evt.pos hc h))
      · obtain ⟨q', t', m', h, h3⟩ := ih q (i - 1) t2 m2 h2 hq hqo (by omega) (by omega)
        refine ⟨q', t', m', Evt.succ ?_, h3⟩
        simp only [spec_l01Src_l12Outbox.l0, e2, Option.bind_some, hw]
        exact Evt.pos g (Evt.bind hput (Evt.neg hc h))
    · obtain ⟨q', t', m', h, h2⟩ := dbox_end b hb t m s ht q hq hqo i g
      exact ⟨q', t', m', h.succ, h2⟩
theorem dbox_ev (b : List Int) (hb : (b.length : Int) ≤ 1048576) (t m s : Int) (ht : Pl b t) (s0 : 0 ≤ s) (s1 : s ≤ 12) : ∃ q' t' m', Evt (fun k => spec_l01Src_l12Outbox.f k b t m s) (q', t', m', s) ∧ Pl b t' ∧ okQ q' := by
  have hw : wrap64 (4 + s) = 4 + s := w64 (by omega) (by omega)
  obtain ⟨x, t1, m1, e1, h1, z0, z1⟩ := n_ev b hb t m s (4 + s) ht (by omega)
  obtain ⟨q', t', m', h, h2⟩ := dbox_l0 b hb s 20 [] x t1 m1 h1 (by simp) (by simp) (by omega) (by omega)
  refine ⟨q', t', m', ?_, h2⟩
  unfold spec_l01Src_l12Outbox.f
  simp only [hw, e1, Option.bind_some]
  exact h
theorem drawTick_ev (b : List Int) (hb : (b.length : Int) ≤ 1048576) : ∃ q d, Evt (fun k => spec_DrawOutboxTick.f k b) (q, d) ∧ okQ q := by
  obtain ⟨m, s, e0, s0, s1⟩ := src_ev b hb
  obtain ⟨q, t1, m1, e1, h1, hq⟩ := dbox_ev b hb 0 m s ⟨Int.le_refl _, by omega⟩ s0 s1
  obtain ⟨r, t2, m2, e2, h2⟩ := draw_one_ev b hb t1 m1 s 12 h1 (by decide)
  by_cases hr : r = true
  · obtain ⟨x, t3, m3, e3, h3, z0, z1⟩ := n_ev b hb t2 m2 s 3 h2 (by decide)
    refine ⟨q, rd [(-1), 100000, 100001] x, ?_, hq⟩
    unfold spec_DrawOutboxTick.f
    refine Evt.bind e0 (Evt.bind e1 ?_)
    simp only [e2, e3, Option.bind_some]
    exact Evt.pos hr (Evt.pos z0 (Evt.pos (by simp; omega) (Evt.pure _)))
  · obtain ⟨x, t3, m3, e3, h3, z0, z1⟩ := n_ev b hb t2 m2 s 25 h2 (by decide)
    refine ⟨q, x, ?_, hq⟩
    unfold spec_DrawOutboxTick.f
    refine Evt.bind e0 (Evt.bind e1 ?_)
    simp only [e2, e3, Option.bind_some]
    exact Evt.neg hr (Evt.pure _)
def okD (l : List Int) : Prop := l.length ≤ 1000 ∧ ∀ d ∈ l, 0 ≤ d ∧ d ≤ 1000
theorem drun_l0 (b : List Int) (hb : (b.length : Int) ≤ 1048576) (s : Int) (x : UX) (c : Nat) : ∀ (l : List Int) (d i t m : Int), Pl b t → (l.length : Int) + c ≤ 900 → (∀ y ∈ l, 0 ≤ y ∧ y ≤ 1000) → 0 ≤ d → d + 4 * c ≤ 1000 → i ≤ c →
    ∃ l', Evt (fun k => spec_DrawOutboxRun.l0 k l d i b t m s x.f0 x.f1 x.f2 x.f3 x.f4) (x.f0, x.f1, x.f2, x.f3, x.f4, l') ∧ okD l' := by
  have fin : ∀ (l : List Int) (d i t m : Int), Pl b t → (l.length : Int) ≤ 900 → (∀ y ∈ l, 0 ≤ y ∧ y ≤ 1000) → ¬ i > 0 →
      ∃ l', Evt (fun k => spec_DrawOutboxRun.l0 (k + 1) l d i b t m s x.f0 x.f1 x.f2 x.f3 x.f4) (x.f0, x.f1, x.f2, x.f3, x.f4, l') ∧ okD l' := by
    intro l d i t m ht hl ho hi
    obtain ⟨r, t1, m1, e1, h1⟩ := draw_one_ev b hb t m s 12 ht (by decide)
    by_cases hr : r = true
    · obtain ⟨z, t2, m2, e2, h2, z0, z1⟩ := n_ev b hb t1 m1 s 9 h1 (by decide)
      refine ⟨l ++ [z], ?_, by simp; omega, fun y hy => (List.mem_append.1 hy).elim (ho y) (fun hy => by rw [List.mem_singleton.1 hy]; omega)⟩
      simp only [spec_DrawOutboxRun.l0, e1, e2, Option.bind_some]
      exact Evt.neg hi (Evt.pos hr (Evt.pos (by omega) (Evt.pure _)))
    · refine ⟨l, ?_, by omega, ho⟩
      simp only [spec_DrawOutboxRun.l0, e1, Option.bind_some]
      exact Evt.neg hi (Evt.neg hr (Evt.pure _))
  induction c with
  | zero =>
    intro l d i t m ht hl ho hd hd2 hi
    obtain ⟨l', h, h2⟩ := fin l d i t m ht (by omega) ho (by omega)
    exact ⟨l', h.succ, h2⟩
  | succ c ih =>
    intro l d i t m ht hl ho hd hd2 hi
    by_cases g : i > 0
    · obtain ⟨z, t2, m2, e2, h2, z0, z1⟩ := n_ev b hb t m s 4 ht (by decide)
      have w1 : wrap64 (d + 1) = d + 1 := w64 (by omega) (by omega)
      have w2 : wrap64 (d + 1 + z) = d + 1 + z := w64 (by omega) (by omega)
      have w3 : wrap64 (i - 1) = i - 1 := w64 (by omega) (by omega)
      obtain ⟨l', h, h3⟩ := ih (l ++ [d]) (d + 1 + z) (i - 1) t2 m2 h2 (by simp; omega) (fun y hy => (List.mem_append.1 hy).elim (ho y) (fun hy => by rw [List.mem_singleton.1 hy]; omega)) (by omega) (by omega) (by omega)
      refine ⟨l', Evt.succ ?_, h3⟩
      simp only [spec_DrawOutboxRun.l0, e2, Option.bind_some, w1, w2, w3]
      exact Evt.pos g (Evt.pos (by omega) h)
    · obtain ⟨l', h, h2⟩ := fin l d i t m ht (by omega) ho g
      exact ⟨l', h.succ, h2⟩
theorem drawRun_ev (b : List Int) (hb : (b.length : Int) ≤ 1048576) : ∃ (x : UX) (l : List Int), Evt (fun k => spec_DrawOutboxRun.f k b) (x.f0, x.f1, x.f2, x.f3, x.f4, l) ∧ okO x ∧ okD l := by
  obtain ⟨m, s, e0, s0, s1⟩ := src_ev b hb
  obtain ⟨x, t1, m1, e1, h1, hx⟩ := dout_ev b hb 0 m s ⟨Int.le_refl _, by omega⟩
  obtain ⟨y, t2, m2, e2, h2, y0, y1⟩ := n_ev b hb t1 m1 s 20 h1 (by decide)
  have w1 : wrap64 (3 * s) = 3 * s := w64 (by omega) (by omega)
  have w2 : wrap64 (8 + 3 * s) = 8 + 3 * s := w64 (by omega) (by omega)
  obtain ⟨z, t3, m3, e3, h3, z0, z1⟩ := n_ev b hb t2 m2 s (8 + 3 * s) h2 (by omega)
  obtain ⟨l, h, hl⟩ := drun_l0 b hb s x 44 [] y z t3 m3 h3 (by simp) (by simp) (by omega) (by omega) (by omega)
  refine ⟨x, l, ?_, hx, hl⟩
  unfold spec_DrawOutboxRun.f
  refine Evt.bind e0 ?_
  simp only [e1, e2, w1, w2, e3, Option.bind_some]
  exact h
end Go.Proofs.Ytefmkmhjbfpelaa.QO

-- Merged by a program of this session (wip/tool/pack.py) out of its own texts for this claim.
import Derived.Deep.Slices
import Derived.ChangeArms
import Derived.WalkKit
import Derived.ProofKit
import Derived.OpenShut
import Derived.ShutString
import Derived.ChangeOld
import Derived.Below
import Derived.SizedLaws
import Derived.Lib.Strings
import Derived.Laws.Bits64
import Derived.Test.YtpfdfbomlffhcaaKFnLineSums0
import Derived.Test.YtpfdfbomlffhcaaKFnLineSums1
import Derived.Test.YtpfdfbomlffhcaaKFnLineSums2
namespace Go.Proofs.Ytpfdfbomlffhcaa.Rd
open Go.RowKit Go.ChangeShapes Go.WideShapes Go.Proofs.YtpfdfbomlffhcaaW.PrintWords
def Rd (P : Program) (t : TypeId) {α : Type} (d : Kd α) (wf : α → Prop) : Prop :=
  ∀ (H : Type) (enc : TypeId × Value → H) (w : World) (base : Nat) (sp : Nat → Bool) (held : Bool) (fuel : Nat) (cs : List Value) (x : DataW H × List MemPlace),
    DataW.trod enc P w base sp held fuel t cs = some x → ∃ a : α, d.K w a cs ∧ wf a
def WfInt (k : IntKind) (n : Int) : Prop := (Lit.int k n).wf = true
def WfRow {α : Type} (wf : α → Prop) (l : List α) : Prop := l.length ≤ maxLen ∧ ∀ x ∈ l, wf x
theorem rd_int {P : Program} {t : TypeId} {k : IntKind} (hu : P.underlying t = some (.int k)) : Rd P t (Kd.int k) (WfInt k) := by
  intro H enc w base sp held fuel cs x h
  cases fuel with
  | zero => simp [DataW.trod] at h
  | succ n =>
    match cs with
    | [.int k' m] =>
      simp only [DataW.trod, hu] at h
      split at h
      · rename_i hk
        obtain ⟨rfl, hw⟩ := hk
        exact ⟨m, rfl, hw⟩
      · cases h
    | [] => simp [DataW.trod, hu] at h
    | [.bool _] => simp [DataW.trod, hu] at h
    | [.float _ _] => simp [DataW.trod, hu] at h
    | [.complex _ _ _] => simp [DataW.trod, hu] at h
    | [.string _] => simp [DataW.trod, hu] at h
    | [.pointer _] => simp [DataW.trod, hu] at h
    | [.slice _ _ _] => simp [DataW.trod, hu] at h
    | [.map _] => simp [DataW.trod, hu] at h
    | [.chan _] => simp [DataW.trod, hu] at h
    | [.func _ _ _] => simp [DataW.trod, hu] at h
    | [.nilFunc] => simp [DataW.trod, hu] at h
    | [.iface _ _] => simp [DataW.trod, hu] at h
    | [.nilIface] => simp [DataW.trod, hu] at h
    | [.agg _] => simp [DataW.trod, hu] at h
    | [.tuple _] => simp [DataW.trod, hu] at h
    | _ :: _ :: _ => simp [DataW.trod, hu] at h
theorem rd_slice {P : Program} {t e : TypeId} {α : Type} {d : Kd α} {wf : α → Prop} (hu : P.underlying t = some (.slice e)) (hc : P.cellsOf e = d.sz) (hd : Rd P e d wf) : Rd P t (Kd.slice e d) (WfRow wf) := by
  intro H enc w base sp held fuel cs x h
  rcases Go.Deep.open_slice hu h with ⟨rfl, _⟩ | ⟨a, len, cap, m, n, D, Pl, rfl, hb, hl, hm, hmm, _, hx⟩
  · exact ⟨[], ⟨none, 0, rfl, Nat.le_refl _, rfl, by simp, fun h => absurd h (by simp)⟩, by simp [maxLen], by simp⟩
  · have hlm : len ≤ m := by rw [hmm]; split <;> omega
    have hall : ∀ i, i < len → ∃ cs', w.cells? base (a.add (i * P.cellsOf e)) (P.cellsOf e) = some cs' ∧ DataW.trod enc P w base sp held n e cs' = some (D i, Pl i) := fun i hi => hx i (by omega)
    have key : ∀ (k : Nat), k ≤ len → ∃ l : List α, l.length = k ∧ (∀ x ∈ l, wf x) ∧ ∀ j p, l[j]? = some p → ∃ c, c.length = d.sz ∧ d.K w p c ∧ ∀ i u, c[i]? = some u → w.cell? (a.add (j * d.sz + i)) = some u := by
      intro k
      induction k with
      | zero => intro _; exact ⟨[], rfl, by simp, by simp⟩
      | succ k ih =>
        intro hk
        obtain ⟨l, hl1, hl2, hl3⟩ := ih (by omega)
        obtain ⟨cs', h1, h2⟩ := hall k (by omega)
        obtain ⟨b, hb1, hb2⟩ := hd H enc w base sp held n cs' _ h2
        refine ⟨l ++ [b], by simp [hl1], ?_, ?_⟩
        · intro z hz
          rcases List.mem_append.1 hz with hz | hz
          · exact hl2 z hz
          · rw [List.mem_singleton.1 hz]; exact hb2
        · intro j p hj
          by_cases hjl : j < l.length
          · rw [List.getElem?_append_left hjl] at hj
            exact hl3 j p hj
          · rw [List.getElem?_append_right (by omega)] at hj
            have hj0 : j - l.length = 0 := by
              cases hz : j - l.length with
              | zero => rfl
              | succ q => rw [hz] at hj; simp at hj
            rw [hj0] at hj
            obtain rfl : b = p := by simpa using hj
            have hjk : j = k := by omega
            subst hjk
            refine ⟨cs', d.K_len hb1, hb1, fun i u hu' => ?_⟩
            obtain ⟨_, hlen', hcell⟩ := World.cells?_some h1
            have hi : i < cs'.length := by
              rcases Nat.lt_or_ge i cs'.length with h | h
              · exact h
              · rw [List.getElem?_eq_none h] at hu'; cases hu'
            have z := hcell i (by omega)
            rw [hu', Go.Deep.add_add, hc] at z
            exact z
    obtain ⟨l, hl1, hl2, hl3⟩ := key len (Nat.le_refl _)
    refine ⟨l, ⟨some a, cap, by rw [hl1], by omega, ?_⟩, by rw [hl1]; exact Nat.le_trans hl hm, hl2⟩
    exact ⟨rfl, by rw [hl1]; have : cap ≤ 2 ^ 63 - 1 := hm; omega, fun _ => ⟨a, rfl, hl3⟩⟩
end Go.Proofs.Ytpfdfbomlffhcaa.Rd
namespace Go.Proofs.Ytpfdfbomlffhcaa.QZ
open Go.Proofs.Ytpfdfbomlffhcaa Go.Proofs.YtpfdfbomlffhcaaW.PrintWords
def laws_FnLineSums.Pure : Prop := ∀ (l0 : List Int), (Rd.WfRow (Rd.WfInt .u8)) l0 → ∃ k, laws_FnLineSums.f k l0 = some true
end Go.Proofs.Ytpfdfbomlffhcaa.QZ
namespace Go.Proofs.Ytpfdfbomlffhcaa.Ev0
open Go.RowKit Go.Proofs.YtpfdfbomlffhcaaW.PrintWords
def Evt {α : Type} (f : Nat → Option α) (r : α) : Prop := ∃ K, ∀ k, K ≤ k → f k = some r
namespace Evt
variable {α β : Type}
theorem const {o : Option α} {r : α} (h : o = some r) : Evt (fun _ => o) r := ⟨0, fun _ _ => h⟩
theorem pure (r : α) : Evt (fun _ => some r) r := ⟨0, fun _ _ => rfl⟩
theorem bind {f : Nat → Option α} {g : Nat → α → Option β} {a : α} {r : β} (h : Evt f a) (h2 : Evt (fun k => g k a) r) : Evt (fun k => (f k).bind (g k)) r := by
  obtain ⟨K, hK⟩ := h
  obtain ⟨L, hL⟩ := h2
  refine ⟨K + L, fun k hk => ?_⟩
  show (f k).bind (g k) = some r
  rw [hK k (by omega)]
  exact hL k (by omega)
theorem succ {f : Nat → Option α} {r : α} (h : Evt (fun k => f (k + 1)) r) : Evt f r := by
  obtain ⟨K, hK⟩ := h
  refine ⟨K + 1, fun k hk => ?_⟩
  obtain ⟨m, rfl⟩ : ∃ m, k = m + 1 := ⟨k - 1, by omega⟩
  exact hK m (by omega)
theorem pos {c : Prop} [Decidable c] {f g : Nat → Option α} {r : α} (hc : c) (h : Evt f r) : Evt (fun k => if c then f k else g k) r := by
  simpa only [if_pos hc] using h
theorem neg {c : Prop} [Decidable c] {f g : Nat → Option α} {r : α} (hc : ¬ c) (h : Evt g r) : Evt (fun k => if c then f k else g k) r := by
  simpa only [if_neg hc] using h
theorem ite {c : Prop} [Decidable c] {f g : Nat → Option α} {r : α} (h1 : c → Evt f r) (h2 : ¬ c → Evt g r) : Evt (fun k => if c then f k else g k) r := by
  by_cases hc : c
  · exact pos hc (h1 hc)
  · exact neg hc (h2 hc)
theorem ex {f : Nat → Option α} {r : α} (h : Evt f r) : ∃ k, f k = some r := by
  obtain ⟨K, hK⟩ := h
  exact ⟨K, hK K (Nat.le_refl _)⟩
theorem same {f : Nat → Option α} {r r' : α} (h : Evt f r) (e : r = r') : Evt f r' := e ▸ h
end Evt
theorem w64 {x : Int} (h0 : -9223372036854775808 ≤ x) (h1 : x ≤ 9223372036854775807) : wrap64 x = x := by
  unfold wrap64
  omega
noncomputable def B (p : Prop) : Bool := @decide p (Classical.propDecidable p)
theorem B_true {p : Prop} (h : p) : B p = true := by unfold B; exact @decide_eq_true p (Classical.propDecidable p) h
theorem B_false {p : Prop} (h : ¬ p) : B p = false := by unfold B; exact @decide_eq_false p (Classical.propDecidable p) h
theorem B_iff {p : Prop} : B p = true ↔ p := by unfold B; exact @decide_eq_true_iff p (Classical.propDecidable p)
theorem B_congr {p q : Prop} (h : p ↔ q) : B p = B q := by rw [propext h]
theorem decide_B (p : Prop) [Decidable p] : decide p = B p := by
  by_cases h : p
  · rw [decide_eq_true h, B_true h]
  · rw [decide_eq_false h, B_false h]
theorem and_ {c p q : Prop} [Decidable c] {f : Nat → Option Bool} (hc : c ↔ p) (h : p → Evt f (B q)) : Evt (fun k => if c then f k else some false) (B (p ∧ q)) := by
  by_cases e : c
  · exact Evt.pos e ((h (hc.1 e)).same (B_congr ⟨fun x => ⟨hc.1 e, x⟩, fun x => x.2⟩))
  · exact Evt.neg e ((Evt.pure false).same (B_false (fun x => e (hc.2 x.1))).symm)
theorem last_ {p q : Prop} [Decidable p] (h : p ↔ q) : Evt (fun _ => some (decide p)) (B q) := (Evt.pure _).same ((decide_B p).trans (B_congr h))
theorem lastB_ {p q : Prop} (h : p ↔ q) : Evt (fun _ => some (B p)) (B q) := (Evt.pure _).same (B_congr h)
end Go.Proofs.Ytpfdfbomlffhcaa.Ev0
namespace Go.Proofs.Ytpfdfbomlffhcaa.Ev0
open Go.RowKit Go.Proofs.YtpfdfbomlffhcaaW.PrintWords
theorem getD_at {α : Type} (l : List α) (z : α) (i : Nat) (h : i < l.length) : l.getD i z = l[i] := by
  rw [List.getD_eq_getElem?_getD, List.getElem?_eq_getElem h]
  rfl
end Go.Proofs.Ytpfdfbomlffhcaa.Ev0
namespace Go.Proofs.Ytpfdfbomlffhcaa.QZ
open Go.RowKit Go.Proofs.YtpfdfbomlffhcaaW.PrintWords Go.Proofs.Ytpfdfbomlffhcaa.Ev0
theorem u64_nonneg' {n : Int} (h0 : 0 ≤ n) (h1 : n ≤ 18446744073709551615) : IntKind.u64.wrap n = n := by rw [IntKind.wrap_u64]; omega
def Pl (b : List Int) (t : Int) : Prop := 0 ≤ t ∧ t ≤ (b.length : Int)
theorem tm_lt (x a : Int) (h1 : 1 < a) (h2 : a ≤ 9223372036854775807) : 0 ≤ wrap64 (Int.tmod (IntKind.u64.wrap x) (IntKind.u64.wrap a)) ∧ wrap64 (Int.tmod (IntKind.u64.wrap x) (IntKind.u64.wrap a)) < a := by
  rw [u64_nonneg' (n := a) (by omega) (by omega)]
  have hx : 0 ≤ IntKind.u64.wrap x := by rw [IntKind.wrap_u64]; omega
  have e : Int.tmod (IntKind.u64.wrap x) a = IntKind.u64.wrap x % a := Int.tmod_eq_emod_of_nonneg hx
  have h3 := Int.emod_nonneg (IntKind.u64.wrap x) (show a ≠ 0 by omega)
  have h4 := Int.emod_lt_of_pos (IntKind.u64.wrap x) (show 0 < a by omega)
  rw [e, w64 (by omega) (by omega)]
  exact ⟨h3, h4⟩
theorem n_ev (b : List Int) (hb : (b.length : Int) ≤ 1048576) (t m s a : Int) (ht : Pl b t) (ha : a ≤ 9223372036854775807) :
    ∃ r t' m', spec_l01Src_n.f b t m s a = some (r, t', m', s) ∧ Pl b t' ∧ 0 ≤ r ∧ (r = 0 ∨ r < a) := by
  obtain ⟨h0, h1⟩ := ht
  unfold spec_l01Src_n.f spec_l01Src_n_res.f spec_l01Src_n_resZ.f
  by_cases g1 : a ≤ 1
  · rw [if_pos g1]
    exact ⟨_, _, _, rfl, ⟨h0, h1⟩, Int.le_refl _, .inl rfl⟩
  · rw [if_neg g1]
    have hz : ¬ IntKind.u64.wrap a = 0 := by rw [u64_nonneg' (n := a) (by omega) (by omega)]; omega
    rw [if_neg hz]
    by_cases g2 : t < (b.length : Int)
    · rw [if_pos g2, if_pos h0, w64 (x := t + 1) (by omega) (by omega)]
      have := tm_lt (IntKind.u64.wrap (rd b t) + spec_l01Src_n_mix.f m / 1048576) a (by omega) ha
      exact ⟨_, _, _, rfl, ⟨by omega, by omega⟩, this.1, .inr this.2⟩
    · rw [if_neg g2]
      have := tm_lt (spec_l01Src_n_mix.f m / 1048576) a (by omega) ha
      exact ⟨_, _, _, rfl, ⟨h0, h1⟩, this.1, .inr this.2⟩
theorem pick_ev (b : List Int) (hb : (b.length : Int) ≤ 1048576) (t m s : Int) (ht : Pl b t) (l : List ByteArray) (hl0 : 0 < l.length) (hl : l.length ≤ 1000) :
    ∃ x t' m', spec_l01Src_pick.f b t m s l = some (x, t', m', s) ∧ Pl b t' ∧ x ∈ l := by
  obtain ⟨r, t', m', h, hp, h0, h1⟩ := n_ev b hb t m s (l.length : Int) ht (by omega)
  unfold spec_l01Src_pick.f
  rw [h]
  simp only [Option.bind_some]
  have hr : r.toNat < l.length := by omega
  rw [if_pos h0, if_pos (show r < (l.length : Int) by omega)]
  refine ⟨_, _, _, rfl, hp, ?_⟩
  unfold rdOf
  rw [getD_at l _ _ hr]
  exact List.getElem_mem hr
theorem draw_one_ev (b : List Int) (hb : (b.length : Int) ≤ 1048576) (t m s a : Int) (ht : Pl b t) (ha : a ≤ 9223372036854775807) :
    ∃ (r : Bool) (t' m' : Int), spec_l01Src_one.f b t m s a = some (r, t', m', s) ∧ Pl b t' := by
  obtain ⟨r, t', m', h, hp, _, _⟩ := n_ev b hb t m s a ht ha
  unfold spec_l01Src_one.f
  rw [h]
  exact ⟨_, _, _, rfl, hp⟩
theorem src_l (l : List Int) (hl : (l.length : Int) ≤ 1048576) (d : Nat) : ∀ (i m : Int), 0 ≤ i → 64 - i ≤ d → ∃ m' sz, Evt (fun k => spec_l01Source.l0 k l i l 0 m 0) (l, 0, m', sz) ∧ 0 ≤ sz ∧ sz ≤ 12 := by
  have fin : ∀ m : Int, ∃ m' sz, Evt (fun _ => if wrap64 ((l.length : Int) / 20) > 12 then some (l, (0 : Int), m, (12 : Int)) else some (l, 0, m, wrap64 ((l.length : Int) / 20))) (l, 0, m', sz) ∧ 0 ≤ sz ∧ sz ≤ 12 := by
    intro m
    have hw : wrap64 ((l.length : Int) / 20) = (l.length : Int) / 20 := w64 (by omega) (by omega)
    rw [hw]
    by_cases h : (l.length : Int) / 20 > 12
    · rw [if_pos h]
      exact ⟨m, 12, Evt.pure _, by decide, by decide⟩
    · rw [if_neg h]
      exact ⟨m, _, Evt.pure _, by omega, by omega⟩
  induction d with
  | zero =>
    intro i m h0 hd
    obtain ⟨m', sz, h, h2⟩ := fin m
    refine ⟨m', sz, Evt.succ ?_, h2⟩
    simp only [spec_l01Source.l0]
    exact Evt.ite (fun _ => Evt.neg (by omega) h) (fun _ => h)
  | succ d ih =>
    intro i m h0 hd
    by_cases g1 : i < (l.length : Int)
    · by_cases g2 : i < 64
      · have hw : wrap64 (i + 1) = i + 1 := w64 (by omega) (by omega)
        obtain ⟨m', sz, h, h2⟩ := ih (i + 1) (IntKind.u64.wrap ((Go.bits .xor .u64 m (IntKind.u64.wrap (rd l i))) * 1099511628211)) (by omega) (by omega)
        refine ⟨m', sz, Evt.succ ?_, h2⟩
        simp only [spec_l01Source.l0, hw]
        exact Evt.pos g1 (Evt.pos g2 (Evt.pos h0 h))
      · obtain ⟨m', sz, h, h2⟩ := fin m
        refine ⟨m', sz, Evt.succ ?_, h2⟩
        simp only [spec_l01Source.l0]
        exact Evt.pos g1 (Evt.neg g2 h)
    · obtain ⟨m', sz, h, h2⟩ := fin m
      refine ⟨m', sz, Evt.succ ?_, h2⟩
      simp only [spec_l01Source.l0]
      exact Evt.neg g1 h
theorem src_ev (l : List Int) (hl : (l.length : Int) ≤ 1048576) : ∃ m sz, Evt (fun k => spec_l01Source.f k l) (l, 0, m, sz) ∧ 0 ≤ sz ∧ sz ≤ 12 := src_l l hl 64 0 _ (Int.le_refl _) (by omega)
end Go.Proofs.Ytpfdfbomlffhcaa.QZ
namespace Go.Proofs.Ytpfdfbomlffhcaa.QZ
open Go.RowKit Go.Proofs.YtpfdfbomlffhcaaW.PrintWords Go.Proofs.Ytpfdfbomlffhcaa.Ev0
abbrev OL := ByteArray × ByteArray × Int × ByteArray × Int × Int × Int × Int
def smallL (x : OL) : Prop := (x.1.size : Int) ≤ 1000 ∧ (x.2.1.size : Int) ≤ 1000 ∧ (x.2.2.2.1.size : Int) ≤ 1000
theorem line_j (b : List Int) (hb : (b.length : Int) ≤ 1048576) (t m s : Int) (ht : Pl b t) (p q : ByteArray) (n : Int) (i : ByteArray) (o u g c : Int) (h : smallL (p, q, n, i, o, u, g, c)) :
    ∃ (p' q' : ByteArray) (n' : Int) (i' : ByteArray) (o' u' g' c' t' m' : Int), Evt (fun k => spec_l01Src_l09Line.j0 k b t m s p q n i o u g c) (p', q', n', i', o', u', g', c', t', m', s) ∧ Pl b t' ∧ smallL (p', q', n', i', o', u', g', c') := by
  obtain ⟨h1, h2, h3⟩ := h
  obtain ⟨r, t1, m1, e1, ht1⟩ := draw_one_ev b hb t m s 25 ht (by decide)
  by_cases hr : r = true
  · obtain ⟨d, t2, m2, e2, ht2, hd0, hd1⟩ := n_ev b hb t1 m1 s 5 ht1 (by decide)
    by_cases d0 : d = 0
    · refine ⟨p, q, n, i, o, u, g, wrap64 (c + o), t2, m2, Evt.succ ?_, ht2, ?_⟩
      · simp only [spec_l01Src_l09Line.j0, e1, Option.bind_some, if_pos hr, e2, if_pos d0]
        exact Evt.pure _
      · exact ⟨h1, h2, h3⟩
    · by_cases d1 : d = 1
      · refine ⟨p, q, n, i, o, u, wrap64 (u + 1), c, t2, m2, Evt.succ ?_, ht2, ?_⟩
        · simp only [spec_l01Src_l09Line.j0, e1, Option.bind_some, if_pos hr, e2, if_neg d0, if_pos d1]
          exact Evt.pure _
        · exact ⟨h1, h2, h3⟩
      · by_cases d2 : d = 2
        · obtain ⟨z, t3, m3, e3, ht3, _, _⟩ := n_ev b hb t2 m2 s 2 ht2 (by decide)
          refine ⟨p, q, wrap64 (1000 * z), i, o, u, g, c, t3, m3, Evt.succ ?_, ht3, ?_⟩
          · simp only [spec_l01Src_l09Line.j0, e1, Option.bind_some, if_pos hr, e2, if_neg d0, if_neg d1, if_pos d2, e3]
            exact Evt.pure _
          · exact ⟨h1, h2, h3⟩
        · by_cases d3 : d = 3
          · obtain ⟨z, t3, m3, e3, ht3, z0, z1⟩ := n_ev b hb t2 m2 s 3 ht2 (by decide)
            refine ⟨p, q, n, i, rd [0, 1000000, 1000001] z, u, g, c, t3, m3, Evt.succ ?_, ht3, ?_⟩
            · simp only [spec_l01Src_l09Line.j0, e1, Option.bind_some, if_pos hr, e2, if_neg d0, if_neg d1, if_neg d2, if_pos d3, e3]
              exact Evt.pos z0 (Evt.pos (by simp; omega) (Evt.pure _))
            · exact ⟨h1, h2, h3⟩
          · obtain ⟨x, t3, m3, e3, ht3, hx⟩ := pick_ev b hb t2 m2 s ht2 [(⟨#[]⟩ : ByteArray), (⟨#[97]⟩ : ByteArray)] (by decide) (by decide)
            refine ⟨p, q, n, x, o, u, g, c, t3, m3, Evt.succ ?_, ht3, ?_⟩
            · simp only [spec_l01Src_l09Line.j0, e1, Option.bind_some, if_pos hr, e2, if_neg d0, if_neg d1, if_neg d2, if_neg d3, e3]
              exact Evt.pure _
            · refine ⟨h1, h2, ?_⟩
              simp only [List.mem_cons, List.not_mem_nil, or_false] at hx
              rcases hx with rfl | rfl
              · show (((⟨#[]⟩ : ByteArray).size : Int)) ≤ 1000; decide
              · show (((⟨#[97]⟩ : ByteArray).size : Int)) ≤ 1000; decide
  · refine ⟨p, q, n, i, o, u, g, c, t1, m1, Evt.succ ?_, ht1, ?_⟩
    · simp only [spec_l01Src_l09Line.j0, e1, Option.bind_some, if_neg hr]
      exact Evt.pure _
    · exact ⟨h1, h2, h3⟩
theorem w64_hi (x : Int) : wrap64 x ≤ 9223372036854775807 := by
  unfold wrap64
  omega
theorem line_ev (b : List Int) (hb : (b.length : Int) ≤ 1048576) (t m s : Int) (ht : Pl b t) :
    ∃ (p' q' : ByteArray) (n' : Int) (i' : ByteArray) (o' u' g' c' t' m' : Int), Evt (fun k => spec_l01Src_l09Line.f k b t m s) (p', q', n', i', o', u', g', c', t', m', s) ∧ Pl b t' ∧ smallL (p', q', n', i', o', u', g', c') := by
  obtain ⟨x1, t1, m1, e1, h1, g1⟩ := pick_ev b hb t m s ht [(⟨#[65, 67, 77, 69]⟩ : ByteArray), (⟨#[66, 79, 76, 84]⟩ : ByteArray), (⟨#[67, 45, 49]⟩ : ByteArray)] (by decide) (by decide)
  obtain ⟨x2, t2, m2, e2, h2, g2⟩ := pick_ev b hb t1 m1 s h1 [(⟨#[80, 79, 45, 49]⟩ : ByteArray), (⟨#[80, 79, 45, 50]⟩ : ByteArray), (⟨#[80, 79, 45, 51]⟩ : ByteArray)] (by decide) (by decide)
  obtain ⟨x3, t3, m3, e3, h3, _, _⟩ := n_ev b hb t2 m2 s 4 h2 (by decide)
  obtain ⟨x4, t4, m4, e4, h4, g4⟩ := pick_ev b hb t3 m3 s h3 [(⟨#[66, 79, 76, 84]⟩ : ByteArray), (⟨#[78, 85, 84]⟩ : ByteArray), (⟨#[71, 69, 65, 82]⟩ : ByteArray), (⟨#[67, 65, 77]⟩ : ByteArray)] (by decide) (by decide)
  obtain ⟨x5, t5, m5, e5, h5, _, _⟩ := n_ev b hb t4 m4 s 40 h4 (by decide)
  obtain ⟨x6, t6, m6, e6, h6, _, _⟩ := n_ev b hb t5 m5 s (wrap64 ((wrap64 (1 + x5)) + 1)) h5 (w64_hi _)
  obtain ⟨x7, t7, m7, e7, h7, _, _⟩ := n_ev b hb t6 m6 s (wrap64 (x6 + 1)) h6 (w64_hi _)
  obtain ⟨x8, t8, m8, e8, h8, _, _⟩ := n_ev b hb t7 m7 s (wrap64 ((wrap64 ((wrap64 (1 + x5)) - x6)) + 1)) h7 (w64_hi _)
  obtain ⟨r, t9, m9, e9, h9⟩ := draw_one_ev b hb t8 m8 s 3 h8 (by decide)
  have s1 : (x1.size : Int) ≤ 1000 := by
    simp only [List.mem_cons, List.not_mem_nil, or_false] at g1
    rcases g1 with rfl | rfl | rfl <;> decide
  have s2 : (x2.size : Int) ≤ 1000 := by
    simp only [List.mem_cons, List.not_mem_nil, or_false] at g2
    rcases g2 with rfl | rfl | rfl <;> decide
  have s4 : (x4.size : Int) ≤ 1000 := by
    simp only [List.mem_cons, List.not_mem_nil, or_false] at g4
    rcases g4 with rfl | rfl | rfl | rfl <;> decide
  unfold spec_l01Src_l09Line.f
  simp only [e1, e2, e3, e4, e5, e6, e7, e8, e9, Option.bind_some]
  by_cases hr : r = true
  · simp only [if_pos hr]
    exact line_j b hb t9 m9 s h9 _ _ _ _ _ _ _ _ ⟨s1, s2, s4⟩
  · simp only [if_neg hr]
    exact line_j b hb t9 m9 s h9 _ _ _ _ _ _ _ _ ⟨s1, s2, s4⟩
theorem drawPost_ev (b : List Int) (hb : (b.length : Int) ≤ 1048576) :
    ∃ (p q : ByteArray) (n : Int) (i : ByteArray) (o u g c kind qty : Int), Evt (fun k => spec_DrawLinePost.f k b) (p, q, n, i, o, u, g, c, kind, qty) ∧ smallL (p, q, n, i, o, u, g, c) := by
  obtain ⟨m, s, e0, _, _⟩ := src_ev b hb
  obtain ⟨p, q, n, i, o, u, g, c, t1, m1, e1, h1, hs⟩ := line_ev b hb 0 m s ⟨Int.le_refl _, by omega⟩
  obtain ⟨x2, t2, m2, e2, h2, _, _⟩ := n_ev b hb t1 m1 s 40 h1 (by decide)
  obtain ⟨r, t3, m3, e3, h3⟩ := draw_one_ev b hb t2 m2 s 10 h2 (by decide)
  have mx : ∀ x y : Int, ∃ z, spec_l01Max.f x y = some z := by
    intro x y
    unfold spec_l01Max.f
    split <;> exact ⟨_, rfl⟩
  by_cases hr : r = true
  · obtain ⟨x4, t4, m4, e4, h4, z0, z1⟩ := n_ev b hb t3 m3 s 3 h3 (by decide)
    obtain ⟨x5, t5, m5, e5, h5, _, _⟩ := n_ev b hb t4 m4 s 5 h4 (by decide)
    obtain ⟨x6, t6, m6, e6, h6, _, _⟩ := n_ev b hb t5 m5 s 6 h5 (by decide)
    obtain ⟨x7, e7⟩ := mx 0 (wrap64 (x6 - 4))
    refine ⟨p, q, n, i, o, u, g, c, wrap64 (x5 - x7), rd [0, 1000000, 1000001] x4, ?_, hs⟩
    · unfold spec_DrawLinePost.f
      refine Evt.bind e0 (Evt.bind e1 ?_)
      simp only [e2, e3, Option.bind_some, if_pos hr, e4, e5, e6, e7]
      exact Evt.pos z0 (Evt.pos (by simp; omega) (Evt.pure _))
  · obtain ⟨x5, t5, m5, e5, h5, _, _⟩ := n_ev b hb t3 m3 s 5 h3 (by decide)
    obtain ⟨x6, t6, m6, e6, h6, _, _⟩ := n_ev b hb t5 m5 s 6 h5 (by decide)
    obtain ⟨x7, e7⟩ := mx 0 (wrap64 (x6 - 4))
    refine ⟨p, q, n, i, o, u, g, c, wrap64 (x5 - x7), wrap64 (1 + x2), ?_, hs⟩
    · unfold spec_DrawLinePost.f
      refine Evt.bind e0 (Evt.bind e1 ?_)
      simp only [e2, e3, Option.bind_some, if_neg hr, e5, e6, e7]
      exact Evt.pure _
end Go.Proofs.Ytpfdfbomlffhcaa.QZ
namespace Go.Proofs.Ytpfdfbomlffhcaa.QZ
open Go.RowKit Go.Proofs.YtpfdfbomlffhcaaW.PrintWords Go.Proofs.Ytpfdfbomlffhcaa.Ev0
theorem within_ev (a b c : Int) : impl_within.f a b c = some (B (b ≤ a ∧ a ≤ c)) := by
  unfold impl_within.f
  by_cases h : b ≤ a
  · rw [if_pos h, decide_B]
    exact congrArg some (B_congr ⟨fun x => ⟨h, x⟩, fun x => x.2⟩)
  · rw [if_neg h, B_false (fun x => h x.1)]
theorem isGreat_ev (c : Int) : impl_isGreat.f c = some (B (65 ≤ c ∧ c ≤ 90)) := by
  unfold impl_isGreat.f
  by_cases h : c ≥ 65
  · rw [if_pos h, decide_B]
    exact congrArg some (B_congr ⟨fun x => ⟨h, x⟩, fun x => x.2⟩)
  · rw [if_neg h, B_false (fun x => h x.1)]
theorem isDigit_ev (c : Int) : impl_isDigit.f c = some (B (48 ≤ c ∧ c ≤ 57)) := by
  unfold impl_isDigit.f
  by_cases h : c ≥ 48
  · rw [if_pos h, decide_B]
    exact congrArg some (B_congr ⟨fun x => ⟨h, x⟩, fun x => x.2⟩)
  · rw [if_neg h, B_false (fun x => h x.1)]
theorem isQty_ev (n : Int) : impl_isQty.f n = some (B (1 ≤ n ∧ n ≤ 1000000)) := by
  unfold impl_isQty.f
  rw [within_ev]
  rfl
theorem l01Qty_ev (n : Int) : spec_l01Qty.f n = some (B (1 ≤ n ∧ n ≤ 1000000)) := by
  unfold spec_l01Qty.f
  by_cases h : n ≥ 1
  · rw [if_pos h, decide_B]
    exact congrArg some (B_congr ⟨fun x => ⟨h, x⟩, fun x => x.2⟩)
  · rw [if_neg h, B_false (fun x => h x.1)]
def okc (c : Int) : Prop := (65 ≤ c ∧ c ≤ 90) ∨ (48 ≤ c ∧ c ≤ 57) ∨ c = 45
def NameP (s : ByteArray) : Prop := 1 ≤ (s.size : Int) ∧ (s.size : Int) ≤ 12 ∧ (65 ≤ bt s 0 ∧ bt s 0 ≤ 90) ∧ ∀ j : Int, 0 ≤ j → j < s.size → okc (bt s j)
noncomputable def nameB (s : ByteArray) : Bool := B (NameP s)
theorem specName_l (s : ByteArray) (hs : (s.size : Int) ≤ 9223372036854775807) (d : Nat) : ∀ i : Int, 0 ≤ i → (s.size : Int) - i ≤ d → Evt (fun k => spec_l01Name.l0 k s i) (B (∀ j : Int, i ≤ j → j < s.size → okc (bt s j))) := by
  induction d with
  | zero =>
    intro i h0 hd
    apply Evt.succ
    simp only [spec_l01Name.l0]
    refine Evt.neg (by omega) ((Evt.pure true).same (B_true ?_).symm)
    intro j h1 h2
    omega
  | succ d ih =>
    intro i h0 hd
    apply Evt.succ
    simp only [spec_l01Name.l0]
    by_cases hlt : i < (s.size : Int)
    · refine Evt.pos hlt (Evt.pos h0 ?_)
      have hw : wrap64 (i + 1) = i + 1 := w64 (by omega) (by omega)
      rw [hw]
      have yes : okc (bt s i) → Evt (fun k => spec_l01Name.l0 k s (i + 1)) (B (∀ j : Int, i ≤ j → j < s.size → okc (bt s j))) := fun hc =>
        (ih (i + 1) (by omega) (by omega)).same (B_congr ⟨fun h j h1 h2 => by
          by_cases e : j = i
          · rw [e]; exact hc
          · exact h j (by omega) h2, fun h j h1 h2 => h j (by omega) h2⟩)
      have no : ¬ okc (bt s i) → Evt (fun _ => some false) (B (∀ j : Int, i ≤ j → j < s.size → okc (bt s j))) := fun hc =>
        (Evt.pure false).same (B_false (fun h => hc (h i (Int.le_refl _) hlt))).symm
      have digit : Evt (fun k => if bt s i ≥ 48 then (if bt s i ≤ 57 then spec_l01Name.l0 k s (i + 1) else (if bt s i = 45 then spec_l01Name.l0 k s (i + 1) else some false)) else (if bt s i = 45 then spec_l01Name.l0 k s (i + 1) else some false)) (B (∀ j : Int, i ≤ j → j < s.size → okc (bt s j))) ∨ (65 ≤ bt s i ∧ bt s i ≤ 90) := by
        by_cases hg : 65 ≤ bt s i ∧ bt s i ≤ 90
        · exact .inr hg
        · refine .inl (Evt.ite (fun h1 => Evt.ite (fun h2 => yes (.inr (.inl ⟨h1, h2⟩))) (fun h2 => Evt.ite (fun h3 => yes (.inr (.inr h3))) (fun h3 => no (fun hk => ?_)))) (fun h1 => Evt.ite (fun h3 => yes (.inr (.inr h3))) (fun h3 => no (fun hk => ?_))))
          · rcases hk with hk | hk | hk
            · exact hg hk
            · omega
            · exact h3 hk
          · rcases hk with hk | hk | hk
            · exact hg hk
            · omega
            · exact h3 hk
      refine Evt.ite (fun h1 => Evt.ite (fun h2 => yes (.inl ⟨h1, h2⟩)) (fun h2 => ?_)) (fun h1 => ?_)
      · exact digit.resolve_right (fun h => h2 h.2)
      · exact digit.resolve_right (fun h => h1 h.1)
    · refine Evt.neg hlt ((Evt.pure true).same (B_true ?_).symm)
      intro j h1 h2
      omega
theorem specName_ev (s : ByteArray) (hs : (s.size : Int) ≤ 9223372036854775807) : Evt (fun k => spec_l01Name.f k s) (nameB s) := by
  unfold spec_l01Name.f
  have bad : ¬ NameP s → Evt (fun k => spec_l01Name.j0 k s true) (nameB s) := fun h => by
    apply Evt.succ
    simp only [spec_l01Name.j0]
    exact (Evt.pure false).same (B_false h).symm
  refine Evt.ite (fun h => bad (fun hn => by have := hn.1; omega)) (fun h1 => Evt.ite (fun h => bad (fun hn => by have := hn.2.1; omega)) (fun h2 => Evt.pos (by omega) (Evt.ite (fun h => bad (fun hn => by have := hn.2.2.1.1; omega)) (fun h3 => ?_))))
  by_cases h4 : bt s 0 > 90
  · rw [decide_eq_true h4]
    exact bad (fun hn => by have := hn.2.2.1.2; omega)
  · rw [decide_eq_false h4]
    apply Evt.succ
    simp only [spec_l01Name.j0]
    refine (specName_l s hs s.size 0 (Int.le_refl _) (by omega)).same (B_congr ⟨fun h => ⟨by omega, by omega, ⟨by omega, by omega⟩, h⟩, fun h => h.2.2.2⟩)
theorem implName_l (s : ByteArray) (hs : (s.size : Int) ≤ 9223372036854775807) (d : Nat) : ∀ i : Int, 0 ≤ i → (s.size : Int) - i ≤ d →
    Evt (fun k => impl_isName.l0 k s (s.size : Int) i) (B ((∀ j : Int, i ≤ j → j < s.size → (65 ≤ bt s j ∧ bt s j ≤ 90) ∨ (j ≠ 0 ∧ okc (bt s j))) ∧ 1 ≤ (s.size : Int) ∧ (s.size : Int) ≤ 12)) := by
  induction d with
  | zero =>
    intro i h0 hd
    apply Evt.succ
    simp only [impl_isName.l0]
    refine Evt.neg (by omega) (Evt.const ?_)
    rw [within_ev]
    exact congrArg some (B_congr ⟨fun h => ⟨fun j h1 h2 => by omega, h⟩, fun h => h.2⟩)
  | succ d ih =>
    intro i h0 hd
    apply Evt.succ
    simp only [impl_isName.l0]
    by_cases hlt : i < (s.size : Int)
    · refine Evt.pos hlt (Evt.pos h0 (Evt.pos hlt ?_))
      have hw : wrap64 (i + 1) = i + 1 := w64 (by omega) (by omega)
      rw [hw, isGreat_ev, isDigit_ev]
      have yes : ((65 ≤ bt s i ∧ bt s i ≤ 90) ∨ (i ≠ 0 ∧ okc (bt s i))) → Evt (fun k => impl_isName.l0 k s (s.size : Int) (i + 1)) (B ((∀ j : Int, i ≤ j → j < s.size → (65 ≤ bt s j ∧ bt s j ≤ 90) ∨ (j ≠ 0 ∧ okc (bt s j))) ∧ 1 ≤ (s.size : Int) ∧ (s.size : Int) ≤ 12)) := fun hc =>
        (ih (i + 1) (by omega) (by omega)).same (B_congr ⟨fun h => ⟨fun j h1 h2 => by
          by_cases e : j = i
          · rw [e]; exact hc
          · exact h.1 j (by omega) h2, h.2⟩, fun h => ⟨fun j h1 h2 => h.1 j (by omega) h2, h.2⟩⟩)
      have no : ¬ ((65 ≤ bt s i ∧ bt s i ≤ 90) ∨ (i ≠ 0 ∧ okc (bt s i))) → Evt (fun _ => some false) (B ((∀ j : Int, i ≤ j → j < s.size → (65 ≤ bt s j ∧ bt s j ≤ 90) ∨ (j ≠ 0 ∧ okc (bt s j))) ∧ 1 ≤ (s.size : Int) ∧ (s.size : Int) ≤ 12)) := fun hc =>
        (Evt.pure false).same (B_false (fun h => hc (h.1 i (Int.le_refl _) hlt))).symm
      simp only [Option.bind_some]
      refine Evt.ite (fun h1 => yes (.inl (B_iff.1 h1))) (fun h1 => ?_)
      have g1 : ¬ (65 ≤ bt s i ∧ bt s i ≤ 90) := fun h => h1 (B_iff.2 h)
      refine Evt.ite (fun h2 => no (fun h => h.elim g1 (fun h => h.1 h2))) (fun h2 => Evt.ite (fun h3 => yes (.inr ⟨h2, .inr (.inl (B_iff.1 h3))⟩)) (fun h3 => Evt.ite (fun h4 => yes (.inr ⟨h2, .inr (.inr h4)⟩)) (fun h4 => no (fun h => ?_))))
      rcases h with h | ⟨_, h | h | h⟩
      · exact g1 h
      · exact g1 h
      · exact h3 (B_iff.2 h)
      · exact h4 h
    · refine Evt.neg hlt (Evt.const ?_)
      rw [within_ev]
      exact congrArg some (B_congr ⟨fun h => ⟨fun j h1 h2 => by omega, h⟩, fun h => h.2⟩)
theorem implName_ev (s : ByteArray) (hs : (s.size : Int) ≤ 9223372036854775807) : Evt (fun k => impl_isName.f k s) (nameB s) := by
  unfold impl_isName.f
  refine (implName_l s hs s.size 0 (Int.le_refl _) (by omega)).same (B_congr ⟨fun h => ⟨h.2.1, h.2.2, ?_, ?_⟩, fun h => ⟨?_, h.1, h.2.1⟩⟩)
  · rcases h.1 0 (Int.le_refl _) (by omega) with h | h
    · exact h
    · exact absurd rfl h.1
  · intro j h1 h2
    rcases h.1 j h1 h2 with h | h
    · exact .inl h
    · exact h.2
  · intro j h1 h2
    by_cases e : j = 0
    · rw [e]; exact .inl h.2.2.1
    · exact .inr ⟨e, h.2.2.2 j h1 h2⟩
end Go.Proofs.Ytpfdfbomlffhcaa.QZ
namespace Go.Proofs.Ytpfdfbomlffhcaa.QZ
open Go.RowKit Go.Proofs.YtpfdfbomlffhcaaW.PrintWords Go.Proofs.Ytpfdfbomlffhcaa.Ev0
def LineP (a b : ByteArray) (n : Int) (i : ByteArray) (o s g c : Int) : Prop :=
  NameP a ∧ NameP b ∧ NameP i ∧ (1 ≤ n ∧ n ≤ 999) ∧ (1 ≤ o ∧ o ≤ 1000000) ∧ (0 ≤ s ∧ s ≤ o) ∧ (0 ≤ g ∧ g ≤ s) ∧ (0 ≤ c ∧ c ≤ wrap64 (o - s))
noncomputable def lineB (a b : ByteArray) (n : Int) (i : ByteArray) (o s g c : Int) : Bool := B (LineP a b n i o s g c)
theorem specLine_ev (a b : ByteArray) (n : Int) (i : ByteArray) (o s g c : Int) (ha : (a.size : Int) ≤ 9223372036854775807) (hb : (b.size : Int) ≤ 9223372036854775807) (hi : (i.size : Int) ≤ 9223372036854775807) :
    Evt (fun k => spec_LineRight.f k a b n i o s g c) (lineB a b n i o s g c) := by
  unfold spec_LineRight.f
  have key : Evt (fun k => spec_LineRight.f k a b n i o s g c) (B (NameP a ∧ NameP b ∧ NameP i ∧ 1 ≤ n ∧ n ≤ 999 ∧ (1 ≤ o ∧ o ≤ 1000000) ∧ 0 ≤ s ∧ 0 ≤ g ∧ 0 ≤ c ∧ g ≤ s ∧ s ≤ o ∧ c ≤ wrap64 (o - s))) := by
    unfold spec_LineRight.f
    refine Evt.bind (specName_ev a ha) (and_ B_iff fun _ => Evt.bind (specName_ev b hb) (and_ B_iff fun _ => Evt.bind (specName_ev i hi) (and_ B_iff fun _ => and_ Iff.rfl fun _ => and_ Iff.rfl fun _ => ?_)))
    rw [l01Qty_ev]
    simp only [Option.bind_some]
    exact and_ B_iff fun _ => and_ Iff.rfl fun _ => and_ Iff.rfl fun _ => and_ Iff.rfl fun _ => and_ Iff.rfl fun _ => and_ Iff.rfl fun _ => last_ Iff.rfl
  refine key.same (B_congr ⟨?_, ?_⟩)
  · rintro ⟨h1, h2, h3, h4, h5, h6, h7, h8, h9, h10, h11, h12⟩
    exact ⟨h1, h2, h3, ⟨h4, h5⟩, h6, ⟨h7, h11⟩, ⟨h8, h10⟩, ⟨h9, h12⟩⟩
  · rintro ⟨h1, h2, h3, ⟨h4, h5⟩, h6, ⟨h7, h11⟩, ⟨h8, h10⟩, ⟨h9, h12⟩⟩
    exact ⟨h1, h2, h3, h4, h5, h6, h7, h8, h9, h10, h11, h12⟩
theorem implLine_ev (a b : ByteArray) (n : Int) (i : ByteArray) (o s g c : Int) (ha : (a.size : Int) ≤ 9223372036854775807) (hb : (b.size : Int) ≤ 9223372036854775807) (hi : (i.size : Int) ≤ 9223372036854775807) :
    Evt (fun k => impl_LineRight.f k a b n i o s g c) (lineB a b n i o s g c) := by
  unfold impl_LineRight.f lineB LineP
  simp only [within_ev, isQty_ev, Option.bind_some]
  exact Evt.bind (implName_ev a ha) (and_ B_iff fun _ => Evt.bind (implName_ev b hb) (and_ B_iff fun _ => Evt.bind (implName_ev i hi) (and_ B_iff fun _ => and_ B_iff fun _ => and_ B_iff fun _ => and_ B_iff fun _ => and_ B_iff fun _ => lastB_ Iff.rfl)))
end Go.Proofs.Ytpfdfbomlffhcaa.QZ
namespace Go.Proofs.Ytpfdfbomlffhcaa.QZ
open Go.RowKit Go.Proofs.YtpfdfbomlffhcaaW.PrintWords Go.Proofs.Ytpfdfbomlffhcaa.Ev0
theorem min_ev (x y : Int) : spec_l01Min.f x y = some (mn x y) := by
  unfold spec_l01Min.f mn
  by_cases h : x < y
  · rw [if_pos h]
    congr 1
    try split
    all_goals omega
  · rw [if_neg h]
    congr 1
    try split
    all_goals omega
abbrev PO := ByteArray × ByteArray × Int × ByteArray × Int × Int × Int × Int × Int × Int × Int
noncomputable def fitR (o s g c kind qty : Int) : Int := mn qty (if kind = 3 then wrap64 (s - g) else wrap64 (wrap64 (o - s) - c))
noncomputable def postR (a b : ByteArray) (n : Int) (i : ByteArray) (o s g c kind qty : Int) : PO :=
  if lineB a b n i o s g c = true ∧ (1 ≤ kind ∧ kind ≤ 3) ∧ (1 ≤ qty ∧ qty ≤ 1000000) then
    (a, b, n, i, o, (if kind = 2 then wrap64 (s + fitR o s g c kind qty) else s), (if kind = 3 then wrap64 (g + fitR o s g c kind qty) else g), (if kind = 1 then wrap64 (c + fitR o s g c kind qty) else c), fitR o s g c kind qty, wrap64 (qty - fitR o s g c kind qty), 0)
  else ((⟨#[]⟩ : ByteArray), (⟨#[]⟩ : ByteArray), 0, (⟨#[]⟩ : ByteArray), 0, 0, 0, 0, 0, 0, 1)
theorem post_ev (a b : ByteArray) (n : Int) (i : ByteArray) (o s g c kind qty : Int) (ha : (a.size : Int) ≤ 9223372036854775807) (hb : (b.size : Int) ≤ 9223372036854775807) (hi : (i.size : Int) ≤ 9223372036854775807) :
    Evt (fun k => spec_LinePost.f k a b n i o s g c kind qty) (postR a b n i o s g c kind qty) ∧ Evt (fun k => impl_LinePost.f k a b n i o s g c kind qty) (postR a b n i o s g c kind qty) := by
  unfold spec_LinePost.f impl_LinePost.f
  have bad1 : Evt (fun k => spec_LinePost.j0 k kind qty true a b n i o s g c) ((⟨#[]⟩ : ByteArray), (⟨#[]⟩ : ByteArray), 0, (⟨#[]⟩ : ByteArray), 0, 0, 0, 0, 0, 0, 1) := by
    apply Evt.succ
    simp only [spec_LinePost.j0, if_true]
    exact Evt.pure _
  have bad2 : Evt (fun k => impl_LinePost.j0 k kind qty true a b n i o s g c) ((⟨#[]⟩ : ByteArray), (⟨#[]⟩ : ByteArray), 0, (⟨#[]⟩ : ByteArray), 0, 0, 0, 0, 0, 0, 1) := by
    apply Evt.succ
    simp only [impl_LinePost.j0, if_true]
    exact Evt.pure _
  by_cases hl : lineB a b n i o s g c = true
  · by_cases hk : 1 ≤ kind ∧ kind ≤ 3
    · by_cases hq : 1 ≤ qty ∧ qty ≤ 1000000
      · have e : postR a b n i o s g c kind qty = (a, b, n, i, o, (if kind = 2 then wrap64 (s + fitR o s g c kind qty) else s), (if kind = 3 then wrap64 (g + fitR o s g c kind qty) else g), (if kind = 1 then wrap64 (c + fitR o s g c kind qty) else c), fitR o s g c kind qty, wrap64 (qty - fitR o s g c kind qty), 0) := if_pos ⟨hl, hk, hq⟩
        rw [e]
        have good : Evt (fun k => spec_LinePost.j0 k kind qty false a b n i o s g c) (postR a b n i o s g c kind qty) ∧ Evt (fun k => impl_LinePost.j0 k kind qty false a b n i o s g c) (postR a b n i o s g c kind qty) := by
          rw [e]
          have h1 : Evt (fun k => spec_LineOpen.f k a b n i o s g c) (wrap64 (wrap64 (o - s) - c)) := by
            unfold spec_LineOpen.f
            refine Evt.bind (specLine_ev a b n i o s g c ha hb hi) ?_
            simp only [if_pos hl]; exact Evt.pure _
          have h2 : Evt (fun k => spec_LineTransit.f k a b n i o s g c) (wrap64 (s - g)) := by
            unfold spec_LineTransit.f
            refine Evt.bind (specLine_ev a b n i o s g c ha hb hi) ?_
            simp only [if_pos hl]; exact Evt.pure _
          have hd : kind = 1 ∨ kind = 2 ∨ kind = 3 := by omega
          rcases hd with rfl | rfl | rfl
          · refine ⟨?_, ?_⟩
            · apply Evt.succ
              simp only [spec_LinePost.j0, Bool.false_eq_true, if_false, if_true]
              refine Evt.bind h1 ?_
              simp only [min_ev, Option.bind_some]
              exact (Evt.pure _).same (by simp [fitR])
            · apply Evt.succ
              simp only [impl_LinePost.j0, Bool.false_eq_true, if_false, if_true, impl_OrderLine_open.f, Option.bind_some]
              exact (Evt.pure _).same (by simp [fitR])
          · refine ⟨?_, ?_⟩
            · apply Evt.succ
              simp only [spec_LinePost.j0, Bool.false_eq_true, if_false, if_neg (show ¬ (2 : Int) = 1 by decide), if_true]
              refine Evt.bind h1 ?_
              simp only [min_ev, Option.bind_some]
              exact (Evt.pure _).same (by simp [fitR])
            · apply Evt.succ
              simp only [impl_LinePost.j0, Bool.false_eq_true, if_false, if_neg (show ¬ (2 : Int) = 1 by decide), if_true, impl_OrderLine_open.f, Option.bind_some]
              exact (Evt.pure _).same (by simp [fitR])
          · refine ⟨?_, ?_⟩
            · apply Evt.succ
              simp only [spec_LinePost.j0, Bool.false_eq_true, if_false, if_neg (show ¬ (3 : Int) = 1 by decide), if_neg (show ¬ (3 : Int) = 2 by decide)]
              refine Evt.bind h2 ?_
              simp only [min_ev, Option.bind_some]
              exact (Evt.pure _).same (by simp [fitR])
            · apply Evt.succ
              simp only [impl_LinePost.j0, Bool.false_eq_true, if_false, if_neg (show ¬ (3 : Int) = 1 by decide), if_neg (show ¬ (3 : Int) = 2 by decide), if_true, impl_OrderLine_open.f, impl_OrderLine_transit.f, Option.bind_some]
              exact (Evt.pure _).same (by simp [fitR])
        rw [e] at good
        refine ⟨Evt.bind (specLine_ev a b n i o s g c ha hb hi) ?_, Evt.bind (implLine_ev a b n i o s g c ha hb hi) ?_⟩
        · simp only [if_pos hl, if_neg (show ¬ kind < 1 by omega), if_neg (show ¬ kind > 3 by omega), l01Qty_ev, Option.bind_some, B_true hq, Bool.not_true]
          exact good.1
        · simp only [if_pos hl, within_ev, isQty_ev, Option.bind_some, B_true hk, B_true hq, Bool.not_true, if_true]
          exact good.2
      · rw [show postR a b n i o s g c kind qty = ((⟨#[]⟩ : ByteArray), (⟨#[]⟩ : ByteArray), 0, (⟨#[]⟩ : ByteArray), 0, 0, 0, 0, 0, 0, 1) from if_neg (fun h => hq h.2.2)]
        refine ⟨?_, ?_⟩
        · refine Evt.bind (specLine_ev a b n i o s g c ha hb hi) ?_
          simp only [if_pos hl, if_neg (show ¬ kind < 1 by omega), if_neg (show ¬ kind > 3 by omega), l01Qty_ev, Option.bind_some, B_false hq, Bool.not_false]
          exact bad1
        · refine Evt.bind (implLine_ev a b n i o s g c ha hb hi) ?_
          simp only [if_pos hl, within_ev, isQty_ev, Option.bind_some, B_true hk, B_false hq, Bool.not_false, if_true]
          exact bad2
    · rw [show postR a b n i o s g c kind qty = ((⟨#[]⟩ : ByteArray), (⟨#[]⟩ : ByteArray), 0, (⟨#[]⟩ : ByteArray), 0, 0, 0, 0, 0, 0, 1) from if_neg (fun h => hk h.2.1)]
      refine ⟨?_, ?_⟩
      · refine Evt.bind (specLine_ev a b n i o s g c ha hb hi) ?_
        simp only [if_pos hl]
        exact Evt.ite (fun _ => bad1) (fun h1 => Evt.ite (fun _ => bad1) (fun h2 => absurd ⟨by omega, by omega⟩ hk))
      · refine Evt.bind (implLine_ev a b n i o s g c ha hb hi) ?_
        simp only [if_pos hl, within_ev, Option.bind_some, B_false hk, Bool.false_eq_true, if_false]
        exact bad2
  · rw [show postR a b n i o s g c kind qty = ((⟨#[]⟩ : ByteArray), (⟨#[]⟩ : ByteArray), 0, (⟨#[]⟩ : ByteArray), 0, 0, 0, 0, 0, 0, 1) from if_neg (fun h => hl h.1)]
    refine ⟨?_, ?_⟩
    · refine Evt.bind (specLine_ev a b n i o s g c ha hb hi) ?_
      simp only [if_neg hl]; exact bad1
    · refine Evt.bind (implLine_ev a b n i o s g c ha hb hi) ?_
      simp only [if_neg hl]; exact bad2
end Go.Proofs.Ytpfdfbomlffhcaa.QZ
namespace Go.Proofs.Ytpfdfbomlffhcaa.Pure
open Go.RowKit Go.Proofs.Ytpfdfbomlffhcaa Go.Proofs.Ytpfdfbomlffhcaa.QZ Go.Proofs.YtpfdfbomlffhcaaW.PrintWords Go.Proofs.Ytpfdfbomlffhcaa.Ev0
theorem mn_le (x y : Int) : (mn x y = x ∧ x ≤ y) ∨ (mn x y = y ∧ y ≤ x) := by
  unfold mn
  split <;> omega
theorem sums_j (p q : ByteArray) (n : Int) (i : ByteArray) (o s g c kind : Int) (hp : (p.size : Int) ≤ 9223372036854775807) (hq : (q.size : Int) ≤ 9223372036854775807) (hi : (i.size : Int) ≤ 9223372036854775807)
    (s' g' c' fit : Int) (hl : lineB p q n i o s' g' c' = true) (h0 : 0 ≤ c') (h1 : 0 ≤ g') (h2 : g' ≤ s') (h3 : s' ≤ o) (h4 : o ≤ 1000000) (h5 : c' ≤ o - s') (hs : 0 ≤ s ∧ s ≤ 1000000) (hg : 0 ≤ g ∧ g ≤ 1000000) (hc : 0 ≤ c ∧ c ≤ 1000000) (hm : g' - g + (s' - s) + (c' - c) = fit) (over : Int)
    (ho : over = 0 ∨ (fit = if kind = 3 then s - g else o - s - c)) :
    Evt (fun k => laws_FnLineSums.j0 k kind false p q n i o s g c p q n i o s' g' c' fit over 0) true := by
  have t1 : Evt (fun k => impl_LineTransit.f k p q n i o s' g' c') (s' - g') := by
    unfold impl_LineTransit.f
    refine Evt.bind (implLine_ev p q n i o s' g' c' hp hq hi) ?_
    simp only [if_pos hl, impl_OrderLine_transit.f, Option.bind_some]
    exact (Evt.pure _).same (w64 (by omega) (by omega))
  have t2 : Evt (fun k => impl_LineOpen.f k p q n i o s' g' c') (o - s' - c') := by
    unfold impl_LineOpen.f
    refine Evt.bind (implLine_ev p q n i o s' g' c' hp hq hi) ?_
    simp only [if_pos hl, impl_OrderLine_open.f, Option.bind_some]
    exact (Evt.pure _).same (by rw [w64 (x := o - s') (by omega) (by omega), w64 (by omega) (by omega)])
  apply Evt.succ
  simp only [laws_FnLineSums.j0, Bool.false_eq_true, if_false]
  refine Evt.bind t1 (Evt.bind t2 (Evt.pos ?_ (Evt.pos (by simp) (Evt.pos ?_ (Evt.ite (fun _ => Evt.pure true) (fun hne => ?_))))))
  · rw [w64 (x := g' + (s' - g')) (by omega) (by omega), w64 (x := g' + (s' - g') + (o - s' - c')) (by omega) (by omega), w64 (by omega) (by omega)]
    omega
  · rw [w64 (x := g' - g) (by omega) (by omega), w64 (x := g' - g + s') (by omega) (by omega), w64 (x := g' - g + s' - s) (by omega) (by omega), w64 (x := g' - g + s' - s + c') (by omega) (by omega), w64 (by omega) (by omega)]
    omega
  · have hf := ho.resolve_left hne
    unfold laws_lwMost.f
    by_cases hk : kind = 3
    · rw [if_pos hk] at hf
      simp only [if_pos hk, Option.bind_some]
      refine (Evt.pure _).same ?_
      rw [w64 (x := s - g) (by omega) (by omega), hf]
      simp
    · rw [if_neg hk] at hf
      simp only [if_neg hk, Option.bind_some]
      refine (Evt.pure _).same ?_
      rw [w64 (x := o - s) (by omega) (by omega), w64 (x := o - s - c) (by omega) (by omega), hf]
      simp
theorem FnLineSums : laws_FnLineSums.Pure := by
  intro l wl
  apply Evt.ex
  unfold laws_FnLineSums.f
  refine Evt.ite (fun _ => Evt.pure true) (fun hn => ?_)
  obtain ⟨p, q, n, i, o, s, g, c, kind, qty, hd, hp, hq, hi⟩ := drawPost_ev l (by omega)
  simp only at hp hq hi
  obtain ⟨h1, h2⟩ := post_ev p q n i o s g c kind qty (by omega) (by omega) (by omega)
  refine Evt.bind hd (Evt.bind h1 (Evt.bind h2 (Evt.pos rfl ?_)))
  by_cases good : lineB p q n i o s g c = true ∧ (1 ≤ kind ∧ kind ≤ 3) ∧ (1 ≤ qty ∧ qty ≤ 1000000)
  · have e : postR p q n i o s g c kind qty = (p, q, n, i, o, (if kind = 2 then wrap64 (s + fitR o s g c kind qty) else s), (if kind = 3 then wrap64 (g + fitR o s g c kind qty) else g), (if kind = 1 then wrap64 (c + fitR o s g c kind qty) else c), fitR o s g c kind qty, wrap64 (qty - fitR o s g c kind qty), 0) := if_pos good
    rw [e]
    obtain ⟨hl, hk, hqt⟩ := good
    obtain ⟨n1, n2, n3, hnn, hoo, hss, hgg, hcc⟩ := B_iff.1 hl
    have wos : wrap64 (o - s) = o - s := w64 (by omega) (by omega)
    have wosc : wrap64 (o - s - c) = o - s - c := w64 (by omega) (by omega)
    have wsg : wrap64 (s - g) = s - g := w64 (by omega) (by omega)
    rw [wos] at hcc
    have hfit : ∃ mx, mx = (if kind = 3 then s - g else o - s - c) ∧ 0 ≤ mx ∧ mx ≤ 1000000 ∧ fitR o s g c kind qty = mn qty mx := by
      unfold fitR
      rw [wos, wosc, wsg]
      by_cases h3 : kind = 3
      · simp only [if_pos h3]; exact ⟨_, rfl, by omega, by omega, rfl⟩
      · simp only [if_neg h3]; exact ⟨_, rfl, by omega, by omega, rfl⟩
    obtain ⟨mx, hmx, m0, m1, hf⟩ := hfit
    rw [hf]
    have hmn := mn_le qty mx
    generalize hF : mn qty mx = F at hmn ⊢
    have wq : wrap64 (qty - F) = qty - F := w64 (by omega) (by omega)
    have ws : wrap64 (s + F) = s + F := w64 (by omega) (by omega)
    have wg : wrap64 (g + F) = g + F := w64 (by omega) (by omega)
    have wc : wrap64 (c + F) = c + F := w64 (by omega) (by omega)
    simp only [wq, ws, wg, wc]
    have hF3 : kind = 3 → F ≤ s - g := fun h => by rw [if_pos h] at hmx; omega
    have hF1 : kind ≠ 3 → F ≤ o - s - c := fun h => by rw [if_neg h] at hmx; omega
    generalize hs' : (if kind = 2 then s + F else s) = s'
    generalize hg' : (if kind = 3 then g + F else g) = g'
    generalize hc' : (if kind = 1 then c + F else c) = c'
    have hd : kind = 1 ∨ kind = 2 ∨ kind = 3 := by omega
    have facts : 0 ≤ c' ∧ 0 ≤ g' ∧ g' ≤ s' ∧ s' ≤ o ∧ c' ≤ o - s' ∧ 0 ≤ s' ∧ g' - g + (s' - s) + (c' - c) = F := by
      rcases hd with rfl | rfl | rfl
      · simp at hs' hg' hc' hF1
        omega
      · simp at hs' hg' hc' hF1
        omega
      · simp at hs' hg' hc' hF3
        omega
    obtain ⟨f0, f1, f2, f3, f4, f5, f6⟩ := facts
    have hl' : lineB p q n i o s' g' c' = true := B_true ⟨n1, n2, n3, hnn, hoo, ⟨f5, f3⟩, ⟨f1, f2⟩, ⟨f0, by rw [w64 (by omega) (by omega)]; exact f4⟩⟩
    refine Evt.pos (by simp) (Evt.pos ?_ (Evt.neg (by omega) (Evt.neg (by omega) (Evt.bind (implLine_ev p q n i o s' g' c' (by omega) (by omega) (by omega)) ?_))))
    · rw [w64 (by omega) (by omega)]; omega
    · rw [hl', Bool.not_true]
      refine sums_j p q n i o s g c kind (by omega) (by omega) (by omega) s' g' c' F hl' f0 f1 f2 f3 (by omega) f4 ⟨by omega, by omega⟩ ⟨by omega, by omega⟩ ⟨by omega, by omega⟩ f6 (qty - F) ?_
      rcases hmn with ⟨h, _⟩ | ⟨h, _⟩
      · exact .inl (by omega)
      · exact .inr (h.trans hmx)
  · rw [show postR p q n i o s g c kind qty = ((⟨#[]⟩ : ByteArray), (⟨#[]⟩ : ByteArray), 0, (⟨#[]⟩ : ByteArray), 0, 0, 0, 0, 0, 0, 1) from if_neg good]
    exact Evt.neg (by decide) (Evt.pure true)
end Go.Proofs.Ytpfdfbomlffhcaa.Pure

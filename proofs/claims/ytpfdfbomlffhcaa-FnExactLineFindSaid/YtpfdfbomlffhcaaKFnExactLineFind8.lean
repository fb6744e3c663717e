-- Merged by a program of this session (wip/tool/pack.py) out of its own texts for this claim.
import Derived.Lib.Strings
import Derived.Test.YtpfdfbomlffhcaaKFnExactLineFind0
import Derived.Test.YtpfdfbomlffhcaaKFnExactLineFind1
import Derived.Test.YtpfdfbomlffhcaaKFnExactLineFind2
import Derived.Test.YtpfdfbomlffhcaaKFnExactLineFind7
namespace Go.Proofs.Ytpfdfbomlffhcaa.Ev0
open Go.RowKit Go.Proofs.YtpfdfbomlffhcaaW.PrintWords
theorem up_loop {σ ρ : Type} (n : Int) (F : Nat → σ → Int → Option ρ) (st : Int → σ) (r : Int → ρ)
    (step : ∀ i, 0 ≤ i → i < n → Evt (fun k => F k (st (i + 1)) (i + 1)) (r (i + 1)) → Evt (fun k => F (k + 1) (st i) i) (r i))
    (stop : Evt (fun k => F (k + 1) (st n) n) (r n)) (i : Int) (h0 : 0 ≤ i) (hn : i ≤ n) : Evt (fun k => F k (st i) i) (r i) := by
  have key : ∀ (d : Nat) (i : Int), 0 ≤ i → i ≤ n → n - i ≤ d → Evt (fun k => F k (st i) i) (r i) := by
    intro d
    induction d with
    | zero =>
      intro i h0 h1 hd
      obtain rfl : i = n := by omega
      exact stop.succ
    | succ d ih =>
      intro i h0 h1 hd
      by_cases hlt : i < n
      · exact (step i h0 hlt (ih (i + 1) (by omega) (by omega) (by omega))).succ
      · obtain rfl : i = n := by omega
        exact stop.succ
  exact key (n - i).toNat i h0 hn (by omega)
def SzR (f : Nat → Option Int) (left : Int) (p : Prop) : Prop := ∃ t, Evt f t ∧ (t < 0 ∨ (0 ≤ t ∧ t ≤ left ∧ p))
theorem sz_loop (n : Nat) (hn : n ≤ 9223372036854775807) (p : Int → Prop) (f : Nat → Option Int) (F : Nat → Int → Int → Option Int) (left : Int) (hl0 : 0 ≤ left) (hl : left ≤ 1048576)
    (hf : ∀ k, f k = if wrap64 (left - (n : Int)) < 0 then some (-1) else F k (wrap64 (left - (n : Int))) 0)
    (step : ∀ s i, 0 ≤ i → i < (n : Int) → 0 ≤ s → s ≤ 1048576 → (∃ r, r < 0 ∧ Evt (fun k => F (k + 1) s i) r) ∨ (∃ s', 0 ≤ s' ∧ s' ≤ s ∧ p i ∧ ∀ r, Evt (fun k => F k s' (i + 1)) r → Evt (fun k => F (k + 1) s i) r))
    (stop : ∀ s i, (n : Int) ≤ i → Evt (fun k => F (k + 1) s i) s) : SzR f left (n ≤ 1048576 ∧ ∀ i, 0 ≤ i → i < (n : Int) → p i) := by
  have hw : wrap64 (left - (n : Int)) = left - (n : Int) := w64 (by omega) (by omega)
  by_cases h : left - (n : Int) < 0
  · refine ⟨-1, ⟨0, fun k _ => ?_⟩, .inl (by decide)⟩
    rw [hf, hw, if_pos h]
  · have key : ∀ (d : Nat) (s i : Int), 0 ≤ i → (n : Int) - i ≤ d → 0 ≤ s → s ≤ 1048576 → ∃ t, Evt (fun k => F k s i) t ∧ (t < 0 ∨ (0 ≤ t ∧ t ≤ s ∧ ∀ j, i ≤ j → j < (n : Int) → p j)) := by
      intro d
      induction d with
      | zero => intro s i h0 hd hs0 hs1; exact ⟨s, (stop s i (by omega)).succ, .inr ⟨hs0, Int.le_refl _, fun j h1 h2 => absurd h2 (by omega)⟩⟩
      | succ d ih =>
        intro s i h0 hd hs0 hs1
        by_cases hlt : i < (n : Int)
        · rcases step s i h0 hlt hs0 hs1 with ⟨r, hr0, hr⟩ | ⟨s', h1, h2, hp, hs⟩
          · exact ⟨r, hr.succ, .inl hr0⟩
          · obtain ⟨t, ht, h3⟩ := ih s' (i + 1) (by omega) (by omega) h1 (by omega)
            refine ⟨t, (hs t ht).succ, h3.imp id (fun ⟨g0, g1, g2⟩ => ⟨g0, by omega, fun j h1 h2 => ?_⟩)⟩
            by_cases e : j = i
            · rw [e]; exact hp
            · exact g2 j (by omega) h2
        · exact ⟨s, (stop s i (by omega)).succ, .inr ⟨hs0, Int.le_refl _, fun j h1 h2 => absurd h2 (by omega)⟩⟩
    obtain ⟨t, ⟨K, hK⟩, h3⟩ := key n (left - (n : Int)) 0 (Int.le_refl _) (by omega) (by omega) (by omega)
    refine ⟨t, ⟨K, fun k hk => ?_⟩, h3.imp id (fun ⟨g0, g1, g2⟩ => ⟨g0, by omega, by omega, g2⟩)⟩
    rw [hf, hw, if_neg h]
    exact hK k hk
theorem sz_step {s a : Int} {f : Option Int} {p : Prop} (hs0 : 0 ≤ s) (hs1 : s ≤ 1048576) (ha0 : 0 ≤ a) (ha : a ≤ 9223372036854775807)
    (h : 0 ≤ s - a → ∃ t, f = some t ∧ (t < 0 ∨ (0 ≤ t ∧ t ≤ s - a ∧ p))) : ∃ t, (if wrap64 (s - a) < 0 then some (-1) else f) = some t ∧ (t < 0 ∨ (0 ≤ t ∧ t ≤ s ∧ p)) := by
  have hw : wrap64 (s - a) = s - a := w64 (by omega) (by omega)
  rw [hw]
  by_cases hn : s - a < 0
  · exact ⟨-1, by rw [if_pos hn], .inl (by decide)⟩
  · obtain ⟨t, ht, h2⟩ := h (by omega)
    exact ⟨t, by rw [if_neg hn]; exact ht, h2.imp id (fun ⟨g0, g1, g2⟩ => ⟨g0, by omega, g2⟩)⟩
theorem wsub {s a : Int} (hs0 : 0 ≤ s) (hs1 : s ≤ 1048576) (ha0 : 0 ≤ a) (ha : a ≤ 9223372036854775807) : wrap64 (s - a) = s - a := w64 (by omega) (by omega)
theorem getD_at {α : Type} (l : List α) (z : α) (i : Nat) (h : i < l.length) : l.getD i z = l[i] := by
  rw [List.getD_eq_getElem?_getD, List.getElem?_eq_getElem h]
  rfl
theorem fill_loop {α β : Type} (l : List α) (zα : α) (z : β) (g : α → β) (F : Nat → List β → Int → Option (List β))
    (step : ∀ acc i, 0 ≤ i → i < (l.length : Int) → acc.length = l.length → ∀ r, Evt (fun k => F k (acc.set i.toNat (g (l.getD i.toNat zα))) (i + 1)) r → Evt (fun k => F (k + 1) acc i) r)
    (stop : ∀ acc i, (l.length : Int) ≤ i → Evt (fun k => F (k + 1) acc i) acc) : Evt (fun k => F k (List.replicate l.length z) 0) (l.map g) := by
  have h := up_loop (l.length : Int) F (fun i => (l.take i.toNat).map g ++ List.replicate (l.length - i.toNat) z) (fun _ => l.map g) ?_ ?_ 0 (Int.le_refl _) (by omega)
  · simpa using h
  · intro i h0 hlt ih
    refine step _ i h0 hlt (by simp; omega) _ ?_
    have hi : i.toNat < l.length := by omega
    have e : ((l.take i.toNat).map g ++ List.replicate (l.length - i.toNat) z).set i.toNat (g (l.getD i.toNat zα)) = (l.take (i + 1).toNat).map g ++ List.replicate (l.length - (i + 1).toNat) z := by
      have e1 : (i + 1).toNat = i.toNat + 1 := by omega
      rw [e1, List.take_succ_eq_append_getElem hi, List.map_append, getD_at l zα _ hi, List.set_append_right _ _ (by simp; omega)]
      have e2 : l.length - i.toNat = (l.length - (i.toNat + 1)) + 1 := by omega
      have e3 : i.toNat - ((l.take i.toNat).map g).length = 0 := by simp; omega
      rw [e2, e3, List.replicate_succ]
      simp
    rw [e]
    exact ih
  · have h := stop ((l.take ((l.length : Int)).toNat).map g ++ List.replicate (l.length - ((l.length : Int)).toNat) z) (l.length : Int) (Int.le_refl _)
    refine h.same ?_
    simp
theorem all_loop (n : Int) (h0 : 0 ≤ n) (F : Nat → Int → Option Bool) (step : ∀ i, 0 ≤ i → i < n → Evt (fun k => F k (i + 1)) true → Evt (fun k => F (k + 1) i) true)
    (stop : Evt (fun k => F (k + 1) n) true) : Evt (fun k => F k 0) true :=
  up_loop n (fun k (_ : Unit) i => F k i) (fun _ => ()) (fun _ => true) step stop 0 (Int.le_refl _) h0
theorem right_loop (n : Int) (hn : 0 ≤ n) (ok : Int → Prop) (q : Prop) (F : Nat → Int → Option Bool)
    (step : ∀ i, 0 ≤ i → i < n → (ok i → ∀ r, Evt (fun k => F k (i + 1)) r → Evt (fun k => F (k + 1) i) r) ∧ (¬ ok i → Evt (fun k => F (k + 1) i) false))
    (stop : Evt (fun k => F (k + 1) n) (B q)) : Evt (fun k => F k 0) (B ((∀ i, 0 ≤ i → i < n → ok i) ∧ q)) := by
  have h := up_loop n (fun k (_ : Unit) i => F k i) (fun _ => ()) (fun i => B ((∀ j, i ≤ j → j < n → ok j) ∧ q)) ?_ ?_ 0 (Int.le_refl _) hn
  · exact h
  · intro i h0 hlt ih
    by_cases hk : ok i
    · refine ((step i h0 hlt).1 hk _ ih).same (B_congr ⟨fun h => ⟨fun j h1 h2 => ?_, h.2⟩, fun h => ⟨fun j h1 h2 => h.1 j (by omega) h2, h.2⟩⟩)
      by_cases e : j = i
      · rw [e]; exact hk
      · exact h.1 j (by omega) h2
    · exact ((step i h0 hlt).2 hk).same (B_false (fun h => hk (h.1 i (Int.le_refl _) hlt))).symm
  · exact stop.same (B_congr ⟨fun h => ⟨fun j h1 h2 => absurd h2 (by omega), h⟩, fun h => h.2⟩)
theorem find_loop (n : Int) (hn : 0 ≤ n) (p : Int → Prop) (F : Nat → Int → Option Int)
    (step : ∀ i, 0 ≤ i → i < n → (p i → Evt (fun k => F (k + 1) i) i) ∧ (¬ p i → ∀ r, Evt (fun k => F k (i + 1)) r → Evt (fun k => F (k + 1) i) r))
    (stop : Evt (fun k => F (k + 1) n) (-1)) :
    ∃ r, Evt (fun k => F k 0) r ∧ ((r = -1 ∧ ∀ j, 0 ≤ j → j < n → ¬ p j) ∨ (0 ≤ r ∧ r < n ∧ p r ∧ ∀ j, 0 ≤ j → j < r → ¬ p j)) := by
  have key : ∀ (d : Nat) (i : Int), 0 ≤ i → i ≤ n → n - i ≤ d → ∃ r, Evt (fun k => F k i) r ∧ ((r = -1 ∧ ∀ j, i ≤ j → j < n → ¬ p j) ∨ (i ≤ r ∧ r < n ∧ p r ∧ ∀ j, i ≤ j → j < r → ¬ p j)) := by
    intro d
    induction d with
    | zero =>
      intro i h0 h1 hd
      obtain rfl : i = n := by omega
      exact ⟨-1, stop.succ, .inl ⟨rfl, fun j h1 h2 => absurd h2 (by omega)⟩⟩
    | succ d ih =>
      intro i h0 h1 hd
      by_cases hlt : i < n
      · by_cases hp : p i
        · exact ⟨i, ((step i h0 hlt).1 hp).succ, .inr ⟨Int.le_refl _, hlt, hp, fun j h1 h2 => absurd h2 (by omega)⟩⟩
        · obtain ⟨r, hr, h⟩ := ih (i + 1) (by omega) (by omega) (by omega)
          refine ⟨r, ((step i h0 hlt).2 hp r hr).succ, ?_⟩
          rcases h with ⟨h1, h2⟩ | ⟨h1, h2, h3, h4⟩
          · refine .inl ⟨h1, fun j g1 g2 => ?_⟩
            by_cases e : j = i
            · rw [e]; exact hp
            · exact h2 j (by omega) g2
          · refine .inr ⟨by omega, h2, h3, fun j g1 g2 => ?_⟩
            by_cases e : j = i
            · rw [e]; exact hp
            · exact h4 j (by omega) g2
      · obtain rfl : i = n := by omega
        exact ⟨-1, stop.succ, .inl ⟨rfl, fun j h1 h2 => absurd h2 (by omega)⟩⟩
  exact key n.toNat 0 (Int.le_refl _) hn (by omega)
end Go.Proofs.Ytpfdfbomlffhcaa.Ev0
namespace Go.Proofs.Ytpfdfbomlffhcaa.QF
open Go.RowKit Go.Proofs.YtpfdfbomlffhcaaW.PrintWords Go.Proofs.Ytpfdfbomlffhcaa.Ev0
def less (a b : ByteArray) : Prop := Op.bytesLess a.toList b.toList = true
noncomputable def cmpS (a b : ByteArray) : Int := if Op.bytesLess a.toList b.toList = true then -1 else if Op.bytesLess b.toList a.toList = true then 1 else 0
def cmpI (a b : Int) : Int := if a < b then -1 else if a > b then 1 else 0
theorem cmpS_ev (a b : ByteArray) : cmp_Compare_string.f a b = some (cmpS a b) := by
  have e1 : ∀ x : ByteArray, cmp_isNaN_string.f x = some false := fun x => by simp [cmp_isNaN_string.f]
  unfold cmp_Compare_string.f cmpS
  simp only [e1, Option.bind_some, Bool.false_eq_true, if_false]
  split
  · rfl
  · split <;> rfl
theorem cmpI_ev (a b : Int) : cmp_Compare_int64.f a b = some (cmpI a b) := by
  have e1 : ∀ x : Int, cmp_isNaN_int64.f x = some false := fun x => by simp [cmp_isNaN_int64.f]
  unfold cmp_Compare_int64.f cmpI
  simp only [e1, Option.bind_some, Bool.false_eq_true, if_false]
  split
  · rfl
  · split <;> rfl
theorem cmpS_cases (a b : ByteArray) : (less a b ∧ ¬ less b a ∧ ¬ a.toList = b.toList ∧ cmpS a b = -1) ∨ (¬ less a b ∧ less b a ∧ ¬ a.toList = b.toList ∧ cmpS a b = 1) ∨ (¬ less a b ∧ ¬ less b a ∧ a.toList = b.toList ∧ cmpS a b = 0) := by
  have t1 := Bs.less_tri a.toList b.toList
  have t2 := Bs.less_tri b.toList a.toList
  unfold less cmpS
  cases h1 : Op.bytesLess a.toList b.toList <;> cases h2 : Op.bytesLess b.toList a.toList
  · right; right
    rw [h1, h2] at t1
    refine ⟨by simp, by simp, by simpa using t1, by simp⟩
  · right; left
    refine ⟨by simp, by simp, ?_, by simp⟩
    intro e
    rw [e, Bs.less_irrefl] at h2
    cases h2
  · left
    refine ⟨by simp, by simp, ?_, by simp⟩
    intro e
    rw [e, Bs.less_irrefl] at h1
    cases h1
  · rw [h1, h2] at t1
    simp at t1
theorem cmpI_cases (a b : Int) : (a < b ∧ cmpI a b = -1) ∨ (b < a ∧ cmpI a b = 1) ∨ (a = b ∧ cmpI a b = 0) := by
  unfold cmpI
  split
  · left; exact ⟨by assumption, rfl⟩
  · split
    · right; left; exact ⟨by omega, rfl⟩
    · right; right; exact ⟨by omega, rfl⟩
def orL : List Int → Int
  | [] => 0
  | x :: xs => if x = 0 then orL xs else x
theorem or_ev (l : List Int) (hl : l.length ≤ 1000) : Evt (fun k => cmp_Or_int.f k l) (orL l) := by
  unfold cmp_Or_int.f
  have h := up_loop (l.length : Int) (fun k (_ : Unit) i => cmp_Or_int.l0 k 0 l (l.length : Int) i) (fun _ => ()) (fun i => orL (l.drop i.toNat)) ?_ ?_ 0 (Int.le_refl _) (by omega)
  · simpa using h
  · intro i h0 hlt ih
    simp only [cmp_Or_int.l0]
    refine Evt.pos hlt (Evt.pos h0 (Evt.pos hlt ?_))
    rw [w64 (show -9223372036854775808 ≤ i + 1 by omega) (by omega)]
    have hi : i.toNat < l.length := by omega
    have e : l.drop i.toNat = rd l i :: l.drop (i + 1).toNat := by
      rw [show (i + 1).toNat = i.toNat + 1 by omega, List.drop_eq_getElem_cons hi]
      congr 1
      unfold rd
      rw [getD_at l 0 _ hi]
    rw [e]
    unfold orL
    by_cases hz : rd l i = 0
    · rw [if_pos hz]
      exact Evt.pos hz ih
    · rw [if_neg hz]
      exact Evt.neg hz (Evt.pure _)
  · simp only [cmp_Or_int.l0]
    refine Evt.neg (by omega) ((Evt.pure _).same ?_)
    simp [orL]
end Go.Proofs.Ytpfdfbomlffhcaa.QF
namespace Go.Proofs.Ytpfdfbomlffhcaa.QF
open Go.RowKit Go.Proofs.YtpfdfbomlffhcaaW.PrintWords Go.Proofs.Ytpfdfbomlffhcaa.Ev0
theorem within_ev (a b c : Int) : impl_within.f a b c = some (B (b ≤ a ∧ a ≤ c)) := by
  unfold impl_within.f
  by_cases h : b ≤ a
  · rw [if_pos h, decide_B]
    exact congrArg some (B_congr ⟨fun x => ⟨h, x⟩, fun x => x.2⟩)
  · rw [if_neg h, B_false (fun x => h x.1)]
theorem isGreat_ev (c : Int) : impl_isGreat.f c = some (B (65 ≤ c ∧ c ≤ 90)) := by
  unfold impl_isGreat.f
  by_cases h : c ≥ 65
  · rw [if_pos h, decide_B]
    exact congrArg some (B_congr ⟨fun x => ⟨h, x⟩, fun x => x.2⟩)
  · rw [if_neg h, B_false (fun x => h x.1)]
theorem isDigit_ev (c : Int) : impl_isDigit.f c = some (B (48 ≤ c ∧ c ≤ 57)) := by
  unfold impl_isDigit.f
  by_cases h : c ≥ 48
  · rw [if_pos h, decide_B]
    exact congrArg some (B_congr ⟨fun x => ⟨h, x⟩, fun x => x.2⟩)
  · rw [if_neg h, B_false (fun x => h x.1)]
theorem isQty_ev (n : Int) : impl_isQty.f n = some (B (1 ≤ n ∧ n ≤ 1000000)) := by
  unfold impl_isQty.f
  rw [within_ev]
  rfl
theorem l01Qty_ev (n : Int) : spec_l01Qty.f n = some (B (1 ≤ n ∧ n ≤ 1000000)) := by
  unfold spec_l01Qty.f
  by_cases h : n ≥ 1
  · rw [if_pos h, decide_B]
    exact congrArg some (B_congr ⟨fun x => ⟨h, x⟩, fun x => x.2⟩)
  · rw [if_neg h, B_false (fun x => h x.1)]
def okc (c : Int) : Prop := (65 ≤ c ∧ c ≤ 90) ∨ (48 ≤ c ∧ c ≤ 57) ∨ c = 45
def NameP (s : ByteArray) : Prop := 1 ≤ (s.size : Int) ∧ (s.size : Int) ≤ 12 ∧ (65 ≤ bt s 0 ∧ bt s 0 ≤ 90) ∧ ∀ j : Int, 0 ≤ j → j < s.size → okc (bt s j)
noncomputable def nameB (s : ByteArray) : Bool := B (NameP s)
theorem specName_l (s : ByteArray) (hs : (s.size : Int) ≤ 9223372036854775807) (d : Nat) : ∀ i : Int, 0 ≤ i → (s.size : Int) - i ≤ d → Evt (fun k => spec_l01Name.l0 k s i) (B (∀ j : Int, i ≤ j → j < s.size → okc (bt s j))) := by
  induction d with
  | zero =>
    intro i h0 hd
    apply Evt.succ
    simp only [spec_l01Name.l0]
    refine Evt.neg (by omega) ((Evt.pure true).same (B_true ?_).symm)
    intro j h1 h2
    omega
  | succ d ih =>
    intro i h0 hd
    apply Evt.succ
    simp only [spec_l01Name.l0]
    by_cases hlt : i < (s.size : Int)
    · refine Evt.pos hlt (Evt.pos h0 ?_)
      have hw : wrap64 (i + 1) = i + 1 := w64 (by omega) (by omega)
      rw [hw]
      have yes : okc (bt s i) → Evt (fun k => spec_l01Name.l0 k s (i + 1)) (B (∀ j : Int, i ≤ j → j < s.size → okc (bt s j))) := fun hc =>
        (ih (i + 1) (by omega) (by omega)).same (B_congr ⟨fun h j h1 h2 => by
          by_cases e : j = i
          · rw [e]; exact hc
          · exact h j (by omega) h2, fun h j h1 h2 => h j (by omega) h2⟩)
      have no : ¬ okc (bt s i) → Evt (fun _ => some false) (B (∀ j : Int, i ≤ j → j < s.size → okc (bt s j))) := fun hc =>
        (Evt.pure false).same (B_false (fun h => hc (h i (Int.le_refl _) hlt))).symm
      have digit : Evt (fun k => if bt s i ≥ 48 then (if bt s i ≤ 57 then spec_l01Name.l0 k s (i + 1) else (if bt s i = 45 then spec_l01Name.l0 k s (i + 1) else some false)) else (if bt s i = 45 then spec_l01Name.l0 k s (i + 1) else some false)) (B (∀ j : Int, i ≤ j → j < s.size → okc (bt s j))) ∨ (65 ≤ bt s i ∧ bt s i ≤ 90) := by
        by_cases hg : 65 ≤ bt s i ∧ bt s i ≤ 90
        · exact .inr hg
        · refine .inl (Evt.ite (fun h1 => Evt.ite (fun h2 => yes (.inr (.inl ⟨h1, h2⟩))) (fun h2 => Evt.ite (fun h3 => yes (.inr (.inr h3))) (fun h3 => no (fun hk => ?_)))) (fun h1 => Evt.ite (fun h3 => yes (.inr (.inr h3))) (fun h3 => no (fun hk => ?_))))
          · rcases hk with hk | hk | hk
            · exact hg hk
            · omega
            · exact h3 hk
          · rcases hk with hk | hk | hk
            · exact hg hk
            · omega
            · exact h3 hk
      refine Evt.ite (fun h1 => Evt.ite (fun h2 => yes (.inl ⟨h1, h2⟩)) (fun h2 => ?_)) (fun h1 => ?_)
      · exact digit.resolve_right (fun h => h2 h.2)
      · exact digit.resolve_right (fun h => h1 h.1)
    · refine Evt.neg hlt ((Evt.pure true).same (B_true ?_).symm)
      intro j h1 h2
      omega
theorem specName_ev (s : ByteArray) (hs : (s.size : Int) ≤ 9223372036854775807) : Evt (fun k => spec_l01Name.f k s) (nameB s) := by
  unfold spec_l01Name.f
  have bad : ¬ NameP s → Evt (fun k => spec_l01Name.j0 k s true) (nameB s) := fun h => by
    apply Evt.succ
    simp only [spec_l01Name.j0]
    exact (Evt.pure false).same (B_false h).symm
  refine Evt.ite (fun h => bad (fun hn => by have := hn.1; omega)) (fun h1 => Evt.ite (fun h => bad (fun hn => by have := hn.2.1; omega)) (fun h2 => Evt.pos (by omega) (Evt.ite (fun h => bad (fun hn => by have := hn.2.2.1.1; omega)) (fun h3 => ?_))))
  by_cases h4 : bt s 0 > 90
  · rw [decide_eq_true h4]
    exact bad (fun hn => by have := hn.2.2.1.2; omega)
  · rw [decide_eq_false h4]
    apply Evt.succ
    simp only [spec_l01Name.j0]
    refine (specName_l s hs s.size 0 (Int.le_refl _) (by omega)).same (B_congr ⟨fun h => ⟨by omega, by omega, ⟨by omega, by omega⟩, h⟩, fun h => h.2.2.2⟩)
theorem implName_l (s : ByteArray) (hs : (s.size : Int) ≤ 9223372036854775807) (d : Nat) : ∀ i : Int, 0 ≤ i → (s.size : Int) - i ≤ d →
    Evt (fun k => impl_isName.l0 k s (s.size : Int) i) (B ((∀ j : Int, i ≤ j → j < s.size → (65 ≤ bt s j ∧ bt s j ≤ 90) ∨ (j ≠ 0 ∧ okc (bt s j))) ∧ 1 ≤ (s.size : Int) ∧ (s.size : Int) ≤ 12)) := by
  induction d with
  | zero =>
    intro i h0 hd
    apply Evt.succ
    simp only [impl_isName.l0]
    refine Evt.neg (by omega) (Evt.const ?_)
    rw [within_ev]
    exact congrArg some (B_congr ⟨fun h => ⟨fun j h1 h2 => by omega, h⟩, fun h => h.2⟩)
  | succ d ih =>
    intro i h0 hd
    apply Evt.succ
    simp only [impl_isName.l0]
    by_cases hlt : i < (s.size : Int)
    · refine Evt.pos hlt (Evt.pos h0 (Evt.pos hlt ?_))
      have hw : wrap64 (i + 1) = i + 1 := w64 (by omega) (by omega)
      rw [hw, isGreat_ev, isDigit_ev]
      have yes : ((65 ≤ bt s i ∧ bt s i ≤ 90) ∨ (i ≠ 0 ∧ okc (bt s i))) → Evt (fun k => impl_isName.l0 k s (s.size : Int) (i + 1)) (B ((∀ j : Int, i ≤ j → j < s.size → (65 ≤ bt s j ∧ bt s j ≤ 90) ∨ (j ≠ 0 ∧ okc (bt s j))) ∧ 1 ≤ (s.size : Int) ∧ (s.size : Int) ≤ 12)) := fun hc =>
        (ih (i + 1) (by omega) (by omega)).same (B_congr ⟨fun h => ⟨fun j h1 h2 => by
          by_cases e : j = i
          · rw [e]; exact hc
          · exact h.1 j (by omega) h2, h.2⟩, fun h => ⟨fun j h1 h2 => h.1 j (by omega) h2, h.2⟩⟩)
      have no : ¬ ((65 ≤ bt s i ∧ bt s i ≤ 90) ∨ (i ≠ 0 ∧ okc (bt s i))) → Evt (fun _ => some false) (B ((∀ j : Int, i ≤ j → j < s.size → (65 ≤ bt s j ∧ bt s j ≤ 90) ∨ (j ≠ 0 ∧ okc (bt s j))) ∧ 1 ≤ (s.size : Int) ∧ (s.size : Int) ≤ 12)) := fun hc =>
        (Evt.pure false).same (B_false (fun h => hc (h.1 i (Int.le_refl _) hlt))).symm
      simp only [Option.bind_some]
      refine Evt.ite (fun h1 => yes (.inl (B_iff.1 h1))) (fun h1 => ?_)
      have g1 : ¬ (65 ≤ bt s i ∧ bt s i ≤ 90) := fun h => h1 (B_iff.2 h)
      refine Evt.ite (fun h2 => no (fun h => h.elim g1 (fun h => h.1 h2))) (fun h2 => Evt.ite (fun h3 => yes (.inr ⟨h2, .inr (.inl (B_iff.1 h3))⟩)) (fun h3 => Evt.ite (fun h4 => yes (.inr ⟨h2, .inr (.inr h4)⟩)) (fun h4 => no (fun h => ?_))))
      rcases h with h | ⟨_, h | h | h⟩
      · exact g1 h
      · exact g1 h
      · exact h3 (B_iff.2 h)
      · exact h4 h
    · refine Evt.neg hlt (Evt.const ?_)
      rw [within_ev]
      exact congrArg some (B_congr ⟨fun h => ⟨fun j h1 h2 => by omega, h⟩, fun h => h.2⟩)
theorem implName_ev (s : ByteArray) (hs : (s.size : Int) ≤ 9223372036854775807) : Evt (fun k => impl_isName.f k s) (nameB s) := by
  unfold impl_isName.f
  refine (implName_l s hs s.size 0 (Int.le_refl _) (by omega)).same (B_congr ⟨fun h => ⟨h.2.1, h.2.2, ?_, ?_⟩, fun h => ⟨?_, h.1, h.2.1⟩⟩)
  · rcases h.1 0 (Int.le_refl _) (by omega) with h | h
    · exact h
    · exact absurd rfl h.1
  · intro j h1 h2
    rcases h.1 j h1 h2 with h | h
    · exact .inl h
    · exact h.2
  · intro j h1 h2
    by_cases e : j = 0
    · rw [e]; exact .inl h.2.2.1
    · exact .inr ⟨e, h.2.2.2 j h1 h2⟩
end Go.Proofs.Ytpfdfbomlffhcaa.QF
namespace Go.Proofs.Ytpfdfbomlffhcaa.QF
open Go.RowKit Go.Proofs.YtpfdfbomlffhcaaW.PrintWords Go.Proofs.Ytpfdfbomlffhcaa.Ev0
def LineP (a b : ByteArray) (n : Int) (i : ByteArray) (o s g c : Int) : Prop :=
  NameP a ∧ NameP b ∧ NameP i ∧ (1 ≤ n ∧ n ≤ 999) ∧ (1 ≤ o ∧ o ≤ 1000000) ∧ (0 ≤ s ∧ s ≤ o) ∧ (0 ≤ g ∧ g ≤ s) ∧ (0 ≤ c ∧ c ≤ wrap64 (o - s))
noncomputable def lineB (a b : ByteArray) (n : Int) (i : ByteArray) (o s g c : Int) : Bool := B (LineP a b n i o s g c)
theorem specLine_ev (a b : ByteArray) (n : Int) (i : ByteArray) (o s g c : Int) (ha : (a.size : Int) ≤ 9223372036854775807) (hb : (b.size : Int) ≤ 9223372036854775807) (hi : (i.size : Int) ≤ 9223372036854775807) :
    Evt (fun k => spec_LineRight.f k a b n i o s g c) (lineB a b n i o s g c) := by
  unfold spec_LineRight.f
  have key : Evt (fun k => spec_LineRight.f k a b n i o s g c) (B (NameP a ∧ NameP b ∧ NameP i ∧ 1 ≤ n ∧ n ≤ 999 ∧ (1 ≤ o ∧ o ≤ 1000000) ∧ 0 ≤ s ∧ 0 ≤ g ∧ 0 ≤ c ∧ g ≤ s ∧ s ≤ o ∧ c ≤ wrap64 (o - s))) := by
    unfold spec_LineRight.f
    refine Evt.bind (specName_ev a ha) (and_ B_iff fun _ => Evt.bind (specName_ev b hb) (and_ B_iff fun _ => Evt.bind (specName_ev i hi) (and_ B_iff fun _ => and_ Iff.rfl fun _ => and_ Iff.rfl fun _ => ?_)))
    rw [l01Qty_ev]
    simp only [Option.bind_some]
    exact and_ B_iff fun _ => and_ Iff.rfl fun _ => and_ Iff.rfl fun _ => and_ Iff.rfl fun _ => and_ Iff.rfl fun _ => and_ Iff.rfl fun _ => last_ Iff.rfl
  refine key.same (B_congr ⟨?_, ?_⟩)
  · rintro ⟨h1, h2, h3, h4, h5, h6, h7, h8, h9, h10, h11, h12⟩
    exact ⟨h1, h2, h3, ⟨h4, h5⟩, h6, ⟨h7, h11⟩, ⟨h8, h10⟩, ⟨h9, h12⟩⟩
  · rintro ⟨h1, h2, h3, ⟨h4, h5⟩, h6, ⟨h7, h11⟩, ⟨h8, h10⟩, ⟨h9, h12⟩⟩
    exact ⟨h1, h2, h3, h4, h5, h6, h7, h8, h9, h10, h11, h12⟩
theorem implLine_ev (a b : ByteArray) (n : Int) (i : ByteArray) (o s g c : Int) (ha : (a.size : Int) ≤ 9223372036854775807) (hb : (b.size : Int) ≤ 9223372036854775807) (hi : (i.size : Int) ≤ 9223372036854775807) :
    Evt (fun k => impl_LineRight.f k a b n i o s g c) (lineB a b n i o s g c) := by
  unfold impl_LineRight.f lineB LineP
  simp only [within_ev, isQty_ev, Option.bind_some]
  exact Evt.bind (implName_ev a ha) (and_ B_iff fun _ => Evt.bind (implName_ev b hb) (and_ B_iff fun _ => Evt.bind (implName_ev i hi) (and_ B_iff fun _ => and_ B_iff fun _ => and_ B_iff fun _ => and_ B_iff fun _ => and_ B_iff fun _ => lastB_ Iff.rfl)))
end Go.Proofs.Ytpfdfbomlffhcaa.QF
namespace Go.Proofs.Ytpfdfbomlffhcaa.QF
open Go.RowKit Go.Proofs.YtpfdfbomlffhcaaW.PrintWords Go.Proofs.Ytpfdfbomlffhcaa.Ev0
def lbefore (a b : ByteArray) (n : Int) (a' b' : ByteArray) (n' : Int) : Prop := less a a' ∨ (a.toList = a'.toList ∧ (less b b' ∨ (b.toList = b'.toList ∧ n < n')))
theorem l09Before_ev (a b : ByteArray) (n : Int) (i : ByteArray) (o s g c : Int) (a' b' : ByteArray) (n' : Int) (i' : ByteArray) (o' s' g' c' : Int) :
    spec_l09Before.f a b n i o s g c a' b' n' i' o' s' g' c' = some (B (lbefore a b n a' b' n')) := by
  unfold spec_l09Before.f lbefore
  rcases cmpS_cases a a' with ⟨h1, h2, h3, _⟩ | ⟨h1, h2, h3, _⟩ | ⟨h1, h2, h3, _⟩
  · rw [if_neg h3, B_true (.inl h1)]
    exact congrArg some h1
  · rw [if_neg h3, B_false (fun h => h.elim h1 (fun h => h3 h.1))]
    exact congrArg some (Bool.eq_false_iff.2 h1)
  · rw [if_pos h3]
    rcases cmpS_cases b b' with ⟨g1, g2, g3, _⟩ | ⟨g1, g2, g3, _⟩ | ⟨g1, g2, g3, _⟩
    · rw [if_neg g3, B_true (.inr ⟨h3, .inl g1⟩)]
      exact congrArg some g1
    · rw [if_neg g3, B_false (fun h => h.elim h1 (fun h => h.2.elim g1 (fun h => g3 h.1)))]
      exact congrArg some (Bool.eq_false_iff.2 g1)
    · rw [if_pos g3, decide_B]
      exact congrArg some (B_congr ⟨fun h => .inr ⟨h3, .inr ⟨g3, h⟩⟩, fun h => h.elim (fun h => absurd h h1) (fun h => h.2.elim (fun h => absurd h g1) (fun h => h.2))⟩)
noncomputable def lcmp (a b : ByteArray) (n : Int) (a' b' : ByteArray) (n' : Int) : Int := orL [cmpS a a', cmpS b b', cmpI n n']
theorem lineOrder_ev (a b : ByteArray) (n : Int) (i : ByteArray) (o s g c : Int) (a' b' : ByteArray) (n' : Int) (i' : ByteArray) (o' s' g' c' : Int) :
    Evt (fun k => impl_lineOrder.f k a b n i o s g c a' b' n' i' o' s' g' c') (lcmp a b n a' b' n') := by
  unfold impl_lineOrder.f
  simp only [cmpS_ev, cmpI_ev, Option.bind_some]
  exact Evt.bind (or_ev _ (by simp)) (Evt.pure _)
theorem lcmp_iff (a b : ByteArray) (n : Int) (a' b' : ByteArray) (n' : Int) : lcmp a b n a' b' n' ≥ 0 ↔ ¬ lbefore a b n a' b' n' := by
  unfold lcmp lbefore
  rcases cmpS_cases a a' with ⟨h1, h2, h3, h4⟩ | ⟨h1, h2, h3, h4⟩ | ⟨h1, h2, h3, h4⟩
  · simp [orL, h4, h1]
  · simp [orL, h4, h1, h3]
  · rcases cmpS_cases b b' with ⟨g1, g2, g3, g4⟩ | ⟨g1, g2, g3, g4⟩ | ⟨g1, g2, g3, g4⟩
    · simp [orL, h4, h1, h3, g4, g1]
    · simp [orL, h4, h1, h3, g4, g1, g3]
    · rcases cmpI_cases n n' with ⟨e1, e2⟩ | ⟨e1, e2⟩ | ⟨e1, e2⟩
      · simp [orL, h4, h1, h3, g4, g1, g3, e1, e2]
      · simp [orL, h4, h1, h3, g4, g1, g3, e2]; omega
      · subst e1
        simp [orL, h4, h1, h3, g4, g1, g3, e2]
def okS (x : S26) : Prop := (x.f0.size : Int) ≤ 9223372036854775807 ∧ (x.f1.size : Int) ≤ 9223372036854775807 ∧ (x.f3.size : Int) ≤ 9223372036854775807
def lineOk (l : List S26) (i : Int) : Prop :=
  lineB (rd_T26 l i).f0 (rd_T26 l i).f1 (rd_T26 l i).f2 (rd_T26 l i).f3 (rd_T26 l i).f4 (rd_T26 l i).f5 (rd_T26 l i).f6 (rd_T26 l i).f7 = true ∧
    (0 < i → lbefore (rd_T26 l (i - 1)).f0 (rd_T26 l (i - 1)).f1 (rd_T26 l (i - 1)).f2 (rd_T26 l i).f0 (rd_T26 l i).f1 (rd_T26 l i).f2)
def LinesP (l : List S26) : Prop := (l.length : Int) ≤ 200 ∧ ∀ i, 0 ≤ i → i < (l.length : Int) → lineOk l i
noncomputable def linesB (l : List S26) : Bool := B (LinesP l)
theorem okS_at {l : List S26} (h : ∀ x ∈ l, okS x) (i : Int) (h1 : i < (l.length : Int)) (h0 : 0 ≤ i) : okS (rd_T26 l i) := by
  unfold rd_T26
  rw [getD_at l _ _ (by omega)]
  exact h _ (List.getElem_mem _)
theorem specLines_ev (l : List S26) (hs : ∀ x ∈ l, okS x) : Evt (fun k => spec_LinesRight.f k l) (linesB l) := by
  unfold spec_LinesRight.f
  by_cases hn : (l.length : Int) > 200
  · exact Evt.pos hn ((Evt.pure false).same (B_false (fun h => by have := h.1; omega)).symm)
  · refine Evt.neg hn ?_
    refine (right_loop (l.length : Int) (by omega) (lineOk l) True (fun k i => spec_LinesRight.l0 k l i) ?_ ?_).same (B_congr ⟨fun h => ⟨by omega, h.1⟩, fun h => ⟨h.2, trivial⟩⟩)
    · intro i h0 hlt
      have hk := okS_at hs i hlt h0
      have hw : wrap64 (i + 1) = i + 1 := w64 (by omega) (by omega)
      have hw1 : wrap64 (i - 1) = i - 1 := w64 (by omega) (by omega)
      simp only [spec_LinesRight.l0, hw, hw1, l09Before_ev, Option.bind_some]
      refine ⟨fun ok r hr => ?_, fun nok => ?_⟩
      · refine Evt.pos hlt (Evt.pos h0 (Evt.bind (specLine_ev _ _ _ _ _ _ _ _ hk.1 hk.2.1 hk.2.2) (Evt.pos ok.1 (Evt.ite (fun hp => Evt.pos (by omega) (Evt.pos (by omega) (Evt.pos (B_true (ok.2 hp)) hr))) (fun _ => hr)))))
      · refine Evt.pos hlt (Evt.pos h0 (Evt.bind (specLine_ev _ _ _ _ _ _ _ _ hk.1 hk.2.1 hk.2.2) (Evt.ite (fun hl => Evt.ite (fun hp => Evt.pos (by omega) (Evt.pos (by omega) (Evt.neg (fun hb => nok ⟨hl, fun _ => B_iff.1 hb⟩) (Evt.pure _)))) (fun hp => absurd ⟨hl, fun h => absurd h hp⟩ nok)) (fun _ => Evt.pure _))))
    · simp only [spec_LinesRight.l0]
      exact Evt.neg (by omega) ((Evt.pure true).same (B_true trivial).symm)
theorem implLines_ev (l : List S26) (hs : ∀ x ∈ l, okS x) : Evt (fun k => impl_LinesRight.f k l) (linesB l) := by
  unfold impl_LinesRight.f
  by_cases hn : (l.length : Int) > 200
  · exact Evt.pos hn ((Evt.pure false).same (B_false (fun h => by have := h.1; omega)).symm)
  · refine Evt.neg hn ?_
    refine (right_loop (l.length : Int) (by omega) (lineOk l) True (fun k i => impl_LinesRight.l0 k l l (l.length : Int) i) ?_ ?_).same (B_congr ⟨fun h => ⟨by omega, h.1⟩, fun h => ⟨h.2, trivial⟩⟩)
    · intro i h0 hlt
      have hk := okS_at hs i hlt h0
      have hw : wrap64 (i + 1) = i + 1 := w64 (by omega) (by omega)
      have hw1 : wrap64 (i - 1) = i - 1 := w64 (by omega) (by omega)
      simp only [impl_LinesRight.l0, hw, hw1]
      refine ⟨fun ok r hr => ?_, fun nok => ?_⟩
      · refine Evt.pos hlt (Evt.pos h0 (Evt.pos hlt (Evt.bind (implLine_ev _ _ _ _ _ _ _ _ hk.1 hk.2.1 hk.2.2) (Evt.pos ok.1 (Evt.ite (fun hp => Evt.pos (by omega) (Evt.pos (by omega) (Evt.bind (lineOrder_ev _ _ _ _ _ _ _ _ _ _ _ _ _ _ _ _) (Evt.neg (fun h => (lcmp_iff _ _ _ _ _ _).1 h (ok.2 hp)) hr)))) (fun _ => hr))))))
      · refine Evt.pos hlt (Evt.pos h0 (Evt.pos hlt (Evt.bind (implLine_ev _ _ _ _ _ _ _ _ hk.1 hk.2.1 hk.2.2) (Evt.ite (fun hl => Evt.ite (fun hp => Evt.pos (by omega) (Evt.pos (by omega) (Evt.bind (lineOrder_ev _ _ _ _ _ _ _ _ _ _ _ _ _ _ _ _) (Evt.pos ((lcmp_iff _ _ _ _ _ _).2 (fun hb => nok ⟨hl, fun _ => hb⟩)) (Evt.pure _))))) (fun hp => absurd ⟨hl, fun h => absurd h hp⟩ nok)) (fun _ => Evt.pure _)))))
    · simp only [impl_LinesRight.l0]
      exact Evt.neg (by omega) ((Evt.pure true).same (B_true trivial).symm)
end Go.Proofs.Ytpfdfbomlffhcaa.QF
namespace Go.Proofs.Ytpfdfbomlffhcaa.QF
open Go.RowKit Go.Proofs.Ytpfdfbomlffhcaa Go.Proofs.YtpfdfbomlffhcaaW.PrintWords Go.Proofs.Ytpfdfbomlffhcaa.Ev0
theorem szLine_ev (a b : ByteArray) (n : Int) (i : ByteArray) (o s g c t : Int) (h0 : 0 ≤ t) (h1 : t ≤ 1048576) (ha : (a.size : Int) ≤ 9223372036854775807) (hb : (b.size : Int) ≤ 9223372036854775807) (hi : (i.size : Int) ≤ 9223372036854775807) :
    ∃ r, laws_szOrderLine.f a b n i o s g c t = some r ∧ (r < 0 ∨ (0 ≤ r ∧ r ≤ t ∧ True)) := by
  unfold laws_szOrderLine.f
  refine sz_step h0 h1 (by omega) ha (fun g1 => ?_)
  rw [wsub h0 h1 (by omega) ha]
  refine sz_step g1 (by omega) (by omega) hb (fun g2 => ?_)
  rw [wsub g1 (by omega) (by omega) hb]
  refine sz_step g2 (by omega) (by omega) hi (fun g3 => ?_)
  rw [wsub g2 (by omega) (by omega) hi]
  exact ⟨_, rfl, .inr ⟨g3, Int.le_refl _, trivial⟩⟩
def okL (x : S23) : Prop := (x.f0.size : Int) ≤ 9223372036854775807 ∧ (x.f1.size : Int) ≤ 9223372036854775807 ∧ (x.f3.size : Int) ≤ 9223372036854775807
theorem okL_of {x : S23} (h : wf23 x) : okL x := by
  obtain ⟨h0, h1, _, h3, _⟩ := h
  have g0 : x.f0.size ≤ 2 ^ 63 - 1 := h0
  have g1 : x.f1.size ≤ 2 ^ 63 - 1 := h1
  have g3 : x.f3.size ≤ 2 ^ 63 - 1 := h3
  exact ⟨by omega, by omega, by omega⟩
theorem szLineS_ev (l : List S23) (hl : l.length ≤ 9223372036854775807) (hx : ∀ x ∈ l, okL x) (left : Int) (h0 : 0 ≤ left) (h1 : left ≤ 1048576) : SzR (fun k => laws_szOrderLineS.f k l left) left (l.length ≤ 1048576 ∧ ∀ i : Int, 0 ≤ i → i < (l.length : Int) → True) := by
  refine sz_loop l.length hl (fun _ => True) _ (fun k s i => laws_szOrderLineS.l0 k l s i) left h0 h1 (fun k => rfl) ?_ ?_
  · intro s i h0 hlt hs0 hs1
    have hw : wrap64 (i + 1) = i + 1 := w64 (by omega) (by omega)
    have hk : okL (rd_T23 l i) := by
      unfold rd_T23
      rw [getD_at l _ _ (by omega)]
      exact hx _ (List.getElem_mem _)
    obtain ⟨t, ht, h2⟩ := szLine_ev (rd_T23 l i).f0 (rd_T23 l i).f1 (rd_T23 l i).f2 (rd_T23 l i).f3 (rd_T23 l i).f4 (rd_T23 l i).f5 (rd_T23 l i).f6 (rd_T23 l i).f7 s hs0 hs1 hk.1 hk.2.1 hk.2.2
    simp only [laws_szOrderLineS.l0, ht, Option.bind_some, hw]
    rcases h2 with h2 | ⟨h2, h3, _⟩
    · exact .inl ⟨-1, by decide, Evt.pos hlt (Evt.pos h0 (Evt.pos h2 (Evt.pure _)))⟩
    · exact .inr ⟨t, h2, h3, trivial, fun r hr => Evt.pos hlt (Evt.pos h0 (Evt.neg (by omega) hr))⟩
  · intro s i hi
    simp only [laws_szOrderLineS.l0]
    exact Evt.neg (by omega) (Evt.pure _)
def cvLine (x : S23) : S26 := ⟨x.f0, x.f1, x.f2, x.f3, x.f4, x.f5, x.f6, x.f7⟩
theorem toLineS_ev (l : List S23) (hl : l.length ≤ 1048576) : Evt (fun k => laws_toOrderLineS.f k l) (l.map cvLine) := by
  unfold laws_toOrderLineS.f
  refine Evt.pos (by omega) (Evt.pos (by omega) ?_)
  rw [Int.toNat_natCast]
  refine fill_loop l z23 z26 cvLine (fun k acc i => laws_toOrderLineS.l0 k l acc i) ?_ ?_
  · intro acc i h0 hlt ha r hr
    have hw : wrap64 (i + 1) = i + 1 := w64 (by omega) (by omega)
    simp only [laws_toOrderLineS.l0, laws_toOrderLine.f, Option.bind_some, hw]
    exact Evt.pos hlt (Evt.pos h0 (Evt.pos (by omega) hr))
  · intro acc i hi
    simp only [laws_toOrderLineS.l0]
    exact Evt.neg (by omega) (Evt.pure _)
theorem eqLine_refl (a b : ByteArray) (n : Int) (i : ByteArray) (o s g c : Int) : laws_eqOrderLine.f a b n i o s g c a b n i o s g c = some true := by
  simp only [laws_eqOrderLine.f, if_true]
theorem eqLineS_refl (l : List S26) (hl : l.length ≤ 9000000) : Evt (fun k => laws_eqOrderLineS.f k l l) true := by
  unfold laws_eqOrderLineS.f
  refine Evt.pos rfl (all_loop (l.length : Int) (by omega) (fun k i => laws_eqOrderLineS.l0 k l l i) ?_ ?_)
  · intro i h0 hlt ih
    have hw : wrap64 (i + 1) = i + 1 := w64 (by omega) (by omega)
    simp only [laws_eqOrderLineS.l0, eqLine_refl, Option.bind_some, hw]
    exact Evt.pos hlt (Evt.pos h0 (Evt.pos hlt (Evt.pos (by simp) ih)))
  · simp only [laws_eqOrderLineS.l0]
    exact Evt.neg (by omega) (Evt.pure _)
theorem okS_map (l : List S23) (h : ∀ x ∈ l, okL x) : ∀ x ∈ l.map cvLine, okS x := by
  intro x hx
  obtain ⟨y, hy, rfl⟩ := List.mem_map.1 hx
  exact h y hy
end Go.Proofs.Ytpfdfbomlffhcaa.QF
namespace Go.Proofs.Ytpfdfbomlffhcaa.QF
open Go.RowKit Go.Proofs.YtpfdfbomlffhcaaW.PrintWords Go.Proofs.Ytpfdfbomlffhcaa.Ev0
theorem longText_ev (l : List ByteArray) (hl : l.length ≤ 1000) : Evt (fun k => impl_longText.f k l) (B (∃ x ∈ l, (x.size : Int) > 20000)) := by
  unfold impl_longText.f slices_ContainsFunc_string_string_impl_longText_1.f slices_IndexFunc_string_string_impl_longText_1.f
  obtain ⟨r, hr, h⟩ := find_loop (l.length : Int) (by omega) (fun i => ((rdOf ByteArray.empty l i).size : Int) > 20000) (fun k i => slices_IndexFunc_string_string_impl_longText_1.l0 k l (l.length : Int) i) (by
      intro i h0 hlt
      have hw : wrap64 (i + 1) = i + 1 := w64 (by omega) (by omega)
      simp only [slices_IndexFunc_string_string_impl_longText_1.l0, impl_longText_1.f, Option.bind_some, hw]
      exact ⟨fun hp => Evt.pos hlt (Evt.pos h0 (Evt.pos hlt (Evt.pos (decide_eq_true hp) (Evt.pure _)))), fun hp r hr => Evt.pos hlt (Evt.pos h0 (Evt.pos hlt (Evt.neg (by simpa using hp) hr)))⟩) (by
      simp only [slices_IndexFunc_string_string_impl_longText_1.l0]
      exact Evt.neg (by omega) (Evt.pure _))
  have at_ : ∀ i : Int, 0 ≤ i → i < (l.length : Int) → rdOf ByteArray.empty l i ∈ l := fun i h0 h1 => by
    unfold rdOf
    rw [getD_at l _ _ (by omega)]
    exact List.getElem_mem _
  refine Evt.bind (Evt.bind hr (Evt.pure _)) ((Evt.pure _).same ?_)
  rw [decide_B]
  refine B_congr ⟨fun hg => ?_, fun ⟨x, hx, hg⟩ => ?_⟩
  · rcases h with ⟨h1, _⟩ | ⟨h1, h2, h3, _⟩
    · omega
    · exact ⟨_, at_ r h1 h2, h3⟩
  · rcases h with ⟨h1, h2⟩ | ⟨h1, _⟩
    · obtain ⟨i, hi, rfl⟩ := List.mem_iff_getElem.1 hx
      refine absurd ?_ (h2 i (by omega) (by omega))
      show ((rdOf ByteArray.empty l (i : Int)).size : Int) > 20000
      unfold rdOf
      rw [Int.toNat_natCast, getD_at l _ _ hi]
      exact hg
    · exact h1
end Go.Proofs.Ytpfdfbomlffhcaa.QF
namespace Go.Proofs.Ytpfdfbomlffhcaa.QF
open Go.RowKit Go.Proofs.Ytpfdfbomlffhcaa Go.Proofs.YtpfdfbomlffhcaaW.PrintWords Go.Proofs.Ytpfdfbomlffhcaa.Ev0
def FirstP (n : Int) (p : Int → Prop) (r : Int) : Prop := (r = -1 ∧ ∀ j, 0 ≤ j → j < n → ¬ p j) ∨ (0 ≤ r ∧ r < n ∧ p r ∧ ∀ j, 0 ≤ j → j < r → ¬ p j)
theorem FirstP.uniq {n : Int} {p : Int → Prop} {r r' : Int} (h : FirstP n p r) (h' : FirstP n p r') : r = r' := by
  rcases h with ⟨h1, h2⟩ | ⟨h1, h2, h3, h4⟩ <;> rcases h' with ⟨g1, g2⟩ | ⟨g1, g2, g3, g4⟩
  · omega
  · exact absurd g3 (h2 _ g1 g2)
  · exact absurd h3 (g2 _ h1 h2)
  · rcases Int.lt_trichotomy r r' with h | h | h
    · exact absurd h3 (g4 _ h1 h)
    · exact h
    · exact absurd g3 (h4 _ g1 h)
def isLineP (l : List S26) (p q : ByteArray) (n : Int) (i : Int) : Prop :=
  (rd_T26 l i).f0.toList = p.toList ∧ (rd_T26 l i).f1.toList = q.toList ∧ (rd_T26 l i).f2 = n
theorem lineAt_p (l : List S26) (p q : ByteArray) (n : Int) (i : Nat) (h : i < l.length) : impl_lineAt_p.f p q n l[i] = true ↔ isLineP l p q n i := by
  have e : rd_T26 l (i : Int) = l[i] := by unfold rd_T26; rw [Int.toNat_natCast, getD_at l _ _ h]
  unfold isLineP impl_lineAt_p.f
  rw [e]
  simp
theorem lineAt_first (l : List S26) (p q : ByteArray) (n : Int) : FirstP l.length (isLineP l p q n) (impl_lineAt_ix.f l p q n) := by
  unfold impl_lineAt_ix.f
  have hno : ∀ j : Int, 0 ≤ j → j < (l.length : Int) → j < (l.findIdx (impl_lineAt_p.f p q n) : Int) → ¬ isLineP l p q n j := by
    intro j h0 h1 h2 h3
    obtain ⟨i, rfl⟩ : ∃ i : Nat, j = i := ⟨j.toNat, by omega⟩
    have hi : i < l.length := by omega
    have := List.not_of_lt_findIdx (p := impl_lineAt_p.f p q n) (xs := l) (i := i) (by omega)
    rw [(lineAt_p l p q n i hi).2 h3] at this
    cases this
  by_cases h : l.findIdx (impl_lineAt_p.f p q n) < l.length
  · rw [if_pos h]
    exact .inr ⟨by omega, by omega, (lineAt_p l p q n _ h).1 (List.findIdx_getElem (w := h)), fun j h0 h1 => hno j h0 (by omega) h1⟩
  · rw [if_neg h]
    exact .inl ⟨rfl, fun j h0 h1 => hno j h0 h1 (by omega)⟩
theorem lineAt_ev (l : List S26) (p q : ByteArray) (n : Int) : impl_lineAt.f l p q n = some (impl_lineAt_ix.f l p q n) := rfl
theorem find_ev (l : List S26) (p q : ByteArray) (n : Int) (hl : (l.length : Int) ≤ 1048576) (hs : ∀ x ∈ l, okS x) : ∃ r, Evt (fun k => spec_LineFind.f k l p q n) r ∧ Evt (fun k => impl_LineFind.f k l p q n) r := by
  have hj1 : Evt (fun k => spec_LineFind.j0 k l p q n true) 0 := by
    apply Evt.succ
    simp only [spec_LineFind.j0]
    exact Evt.pos trivial (Evt.pure _)
  have hj2 : Evt (fun k => impl_LineFind.j0 k l p q n true) 0 := by
    apply Evt.succ
    simp only [impl_LineFind.j0]
    exact Evt.pos trivial (Evt.pure _)
  have hlt := longText_ev [p, q] (by simp)
  unfold spec_LineFind.f impl_LineFind.f impl_OrderLine.f
  by_cases g1 : (l.length : Int) > 400
  · exact ⟨0, Evt.pos g1 hj1, Evt.bind (Evt.pure _) (Evt.pos (decide_eq_true g1) hj2)⟩
  · by_cases g2 : (p.size : Int) > 20000
    · rw [B_true ⟨p, by simp, g2⟩] at hlt
      exact ⟨0, Evt.neg g1 (Evt.pos g2 hj1), Evt.bind (Evt.pure _) (Evt.neg (by simpa using g1) (Evt.bind hlt hj2))⟩
    · by_cases g3 : (q.size : Int) > 20000
      · rw [B_true ⟨q, by simp, g3⟩] at hlt
        exact ⟨0, Evt.neg g1 (Evt.neg g2 (by rw [decide_eq_true g3]; exact hj1)), Evt.bind (Evt.pure _) (Evt.neg (by simpa using g1) (Evt.bind hlt hj2))⟩
      · have hf : ¬ ∃ x ∈ [p, q], (x.size : Int) > 20000 := by
          rintro ⟨x, hx, h⟩
          simp only [List.mem_cons, List.not_mem_nil, or_false] at hx
          rcases hx with rfl | rfl
          · exact g2 h
          · exact g3 h
        rw [B_false hf] at hlt
        rw [decide_eq_false g3]
        have key : ∃ r, Evt (fun k => spec_LineFind.j0 k l p q n false) r ∧ Evt (fun k => impl_LineFind.j0 k l p q n false) r := by
          by_cases hb : linesB l = true
          · obtain ⟨r, hr, h⟩ := find_loop (l.length : Int) (by omega) (isLineP l p q n) (fun k i => spec_LineFind.l0 k l p q n i) (by
                intro i h0 hlt
                have hw : wrap64 (i + 1) = i + 1 := w64 (by omega) (by omega)
                simp only [spec_LineFind.l0, hw]
                refine ⟨fun ⟨e1, e2, e3⟩ => Evt.pos hlt (Evt.pos h0 (Evt.pos e1 (Evt.pos e2 (Evt.pos e3 (Evt.pure _))))), fun hn r hr => Evt.pos hlt (Evt.pos h0 (Evt.ite (fun e1 => Evt.ite (fun e2 => Evt.ite (fun e3 => absurd ⟨e1, e2, e3⟩ hn) (fun _ => hr)) (fun _ => hr)) (fun _ => hr)))⟩) (by
                simp only [spec_LineFind.l0]
                exact Evt.neg (by omega) (Evt.pure _))
            have e := FirstP.uniq h (lineAt_first l p q n)
            refine ⟨r, ?_, ?_⟩
            · apply Evt.succ
              simp only [spec_LineFind.j0]
              exact Evt.neg (by decide) (Evt.bind (specLines_ev l hs) (Evt.pos hb hr))
            · apply Evt.succ
              simp only [impl_LineFind.j0, lineAt_ev, Option.bind_some]
              exact Evt.neg (by decide) (Evt.bind (implLines_ev l hs) (Evt.pos hb ((Evt.pure _).same e.symm)))
          · refine ⟨-1, ?_, ?_⟩
            · apply Evt.succ
              simp only [spec_LineFind.j0]
              exact Evt.neg (by decide) (Evt.bind (specLines_ev l hs) (Evt.neg hb (Evt.pure _)))
            · apply Evt.succ
              simp only [impl_LineFind.j0]
              exact Evt.neg (by decide) (Evt.bind (implLines_ev l hs) (Evt.neg hb (Evt.pure _)))
        obtain ⟨r, h1, h2⟩ := key
        exact ⟨r, Evt.neg g1 (Evt.neg g2 h1), Evt.bind (Evt.pure _) (Evt.neg (by simpa using g1) (Evt.bind hlt h2))⟩
end Go.Proofs.Ytpfdfbomlffhcaa.QF
namespace Go.Proofs.Ytpfdfbomlffhcaa.Pure
open Go.RowKit Go.Proofs.Ytpfdfbomlffhcaa Go.Proofs.Ytpfdfbomlffhcaa.QF Go.Proofs.YtpfdfbomlffhcaaW.PrintWords Go.Proofs.Ytpfdfbomlffhcaa.Ev0
theorem FnExactLineFind : laws_FnExactLineFind.Pure := by
  intro l p q n wl wp wq wn
  obtain ⟨hl, hw⟩ := wl
  apply Evt.ex
  unfold laws_FnExactLineFind.f
  have hx : ∀ x ∈ l, okL x := fun x h => okL_of (hw x h)
  obtain ⟨t, ht, hlen⟩ := szLineS_ev l hl hx 1048576 (by decide) (by decide)
  refine Evt.ite (fun _ => Evt.pure true) (fun _ => Evt.ite (fun _ => Evt.pure true) (fun _ => Evt.bind ht (Evt.ite (fun _ => Evt.pure true) (fun hn => ?_))))
  obtain ⟨_, _, hlen, _⟩ := hlen.resolve_left hn
  have hto := toLineS_ev l hlen
  have hs := okS_map l hx
  have hle : (l.map cvLine).length ≤ 9000000 := by simp; omega
  obtain ⟨r, h1, h2⟩ := find_ev (l.map cvLine) p q n (by simp; omega) hs
  exact Evt.bind hto (Evt.bind h1 (Evt.bind hto (Evt.bind h2 (Evt.pos rfl (Evt.bind hto (Evt.bind (eqLineS_refl _ hle) (Evt.pos rfl (Evt.pure true))))))))
end Go.Proofs.Ytpfdfbomlffhcaa.Pure

-- Merged by a program of this session (wip/tool/pack.py) out of its own texts for this claim.
import Derived.Lib.Strings
import Derived.Laws.Bits64
import Derived.Lib.Bytealg
import Derived.Test.YtefmkmhjbfpelaaKFnExactLinesAdd0
import Derived.Test.YtefmkmhjbfpelaaKFnExactLinesAdd1
import Derived.Test.YtefmkmhjbfpelaaKFnExactLinesAdd2
import Derived.Test.YtefmkmhjbfpelaaKFnExactLinesAdd12
namespace Go.Proofs.Ytefmkmhjbfpelaa.Ev0
open Go.RowKit Go.Proofs.YtefmkmhjbfpelaaW.PrintWords
theorem up_loop {σ ρ : Type} (n : Int) (F : Nat → σ → Int → Option ρ) (st : Int → σ) (r : Int → ρ)
    (step : ∀ i, 0 ≤ i → i < n → Evt (fun k => F k (st (i + 1)) (i + 1)) (r (i + 1)) → Evt (fun k => F (k + 1) (st i) i) (r i))
    (stop : Evt (fun k => F (k + 1) (st n) n) (r n)) (i : Int) (h0 : 0 ≤ i) (hn : i ≤ n) : Evt (fun k => F k (st i) i) (r i) := by
  have key : ∀ (d : Nat) (i : Int), 0 ≤ i → i ≤ n → n - i ≤ d → Evt (fun k => F k (st i) i) (r i) := by
    intro d
    induction d with
    | zero =>
      intro i h0 h1 hd
      obtain rfl : i = n := by omega
      exact stop.succ
    | succ d ih =>
      intro i h0 h1 hd
      by_cases hlt : i < n
      · exact (step i h0 hlt (ih (i + 1) (by omega) (by omega) (by omega))).succ
      · obtain rfl : i = n := by omega
        exact stop.succ
  exact key (n - i).toNat i h0 hn (by omega)
def SzR (f : Nat → Option Int) (left : Int) (p : Prop) : Prop := ∃ t, Evt f t ∧ (t < 0 ∨ (0 ≤ t ∧ t ≤ left ∧ p))
theorem sz_loop (n : Nat) (hn : n ≤ 9223372036854775807) (p : Int → Prop) (f : Nat → Option Int) (F : Nat → Int → Int → Option Int) (left : Int) (hl0 : 0 ≤ left) (hl : left ≤ 1048576)
    (hf : ∀ k, f k = if wrap64 (left - (n : Int)) < 0 then some (-1) else F k (wrap64 (left - (n : Int))) 0)
    (step : ∀ s i, 0 ≤ i → i < (n : Int) → 0 ≤ s → s ≤ 1048576 → (∃ r, r < 0 ∧ Evt (fun k => F (k + 1) s i) r) ∨ (∃ s', 0 ≤ s' ∧ s' ≤ s ∧ p i ∧ ∀ r, Evt (fun k => F k s' (i + 1)) r → Evt (fun k => F (k + 1) s i) r))
    (stop : ∀ s i, (n : Int) ≤ i → Evt (fun k => F (k + 1) s i) s) : SzR f left (n ≤ 1048576 ∧ ∀ i, 0 ≤ i → i < (n : Int) → p i) := by
  have hw : wrap64 (left - (n : Int)) = left - (n : Int) := w64 (by omega) (by omega)
  by_cases h : left - (n : Int) < 0
  · refine ⟨-1, ⟨0, fun k _ => ?_⟩, .inl (by decide)⟩
    rw [hf, hw, if_pos h]
  · have key : ∀ (d : Nat) (s i : Int), 0 ≤ i → (n : Int) - i ≤ d → 0 ≤ s → s ≤ 1048576 → ∃ t, Evt (fun k => F k s i) t ∧ (t < 0 ∨ (0 ≤ t ∧ t ≤ s ∧ ∀ j, i ≤ j → j < (n : Int) → p j)) := by
      intro d
      induction d with
      | zero => intro s i h0 hd hs0 hs1; exact ⟨s, (stop s i (by omega)).succ, .inr ⟨hs0, Int.le_refl _, fun j h1 h2 => absurd h2 (by omega)⟩⟩
      | succ d ih =>
        intro s i h0 hd hs0 hs1
        by_cases hlt : i < (n : Int)
        · rcases step s i h0 hlt hs0 hs1 with ⟨r, hr0, hr⟩ | ⟨s', h1, h2, hp, hs⟩
          · exact ⟨r, hr.succ, .inl hr0⟩
          · obtain ⟨t, ht, h3⟩ := ih s' (i + 1) (by omega) (by omega) h1 (by omega)
            refine ⟨t, (hs t ht).succ, h3.imp id (fun ⟨g0, g1, g2⟩ => ⟨g0, by omega, fun j h1 h2 => ?_⟩)⟩
            by_cases e : j = i
            · rw [e]; exact hp
            · exact g2 j (by omega) h2
        · exact ⟨s, (stop s i (by omega)).succ, .inr ⟨hs0, Int.le_refl _, fun j h1 h2 => absurd h2 (by omega)⟩⟩
    obtain ⟨t, ⟨K, hK⟩, h3⟩ := key n (left - (n : Int)) 0 (Int.le_refl _) (by omega) (by omega) (by omega)
    refine ⟨t, ⟨K, fun k hk => ?_⟩, h3.imp id (fun ⟨g0, g1, g2⟩ => ⟨g0, by omega, by omega, g2⟩)⟩
    rw [hf, hw, if_neg h]
    exact hK k hk
theorem sz_step {s a : Int} {f : Option Int} {p : Prop} (hs0 : 0 ≤ s) (hs1 : s ≤ 1048576) (ha0 : 0 ≤ a) (ha : a ≤ 9223372036854775807)
    (h : 0 ≤ s - a → ∃ t, f = some t ∧ (t < 0 ∨ (0 ≤ t ∧ t ≤ s - a ∧ p))) : ∃ t, (if wrap64 (s - a) < 0 then some (-1) else f) = some t ∧ (t < 0 ∨ (0 ≤ t ∧ t ≤ s ∧ p)) := by
  have hw : wrap64 (s - a) = s - a := w64 (by omega) (by omega)
  rw [hw]
  by_cases hn : s - a < 0
  · exact ⟨-1, by rw [if_pos hn], .inl (by decide)⟩
  · obtain ⟨t, ht, h2⟩ := h (by omega)
    exact ⟨t, by rw [if_neg hn]; exact ht, h2.imp id (fun ⟨g0, g1, g2⟩ => ⟨g0, by omega, g2⟩)⟩
theorem wsub {s a : Int} (hs0 : 0 ≤ s) (hs1 : s ≤ 1048576) (ha0 : 0 ≤ a) (ha : a ≤ 9223372036854775807) : wrap64 (s - a) = s - a := w64 (by omega) (by omega)
theorem getD_at {α : Type} (l : List α) (z : α) (i : Nat) (h : i < l.length) : l.getD i z = l[i] := by
  rw [List.getD_eq_getElem?_getD, List.getElem?_eq_getElem h]
  rfl
theorem fill_loop {α β : Type} (l : List α) (zα : α) (z : β) (g : α → β) (F : Nat → List β → Int → Option (List β))
    (step : ∀ acc i, 0 ≤ i → i < (l.length : Int) → acc.length = l.length → ∀ r, Evt (fun k => F k (acc.set i.toNat (g (l.getD i.toNat zα))) (i + 1)) r → Evt (fun k => F (k + 1) acc i) r)
    (stop : ∀ acc i, (l.length : Int) ≤ i → Evt (fun k => F (k + 1) acc i) acc) : Evt (fun k => F k (List.replicate l.length z) 0) (l.map g) := by
  have h := up_loop (l.length : Int) F (fun i => (l.take i.toNat).map g ++ List.replicate (l.length - i.toNat) z) (fun _ => l.map g) ?_ ?_ 0 (Int.le_refl _) (by omega)
  · simpa using h
  · intro i h0 hlt ih
    refine step _ i h0 hlt (by simp; omega) _ ?_
    have hi : i.toNat < l.length := by omega
    have e : ((l.take i.toNat).map g ++ List.replicate (l.length - i.toNat) z).set i.toNat (g (l.getD i.toNat zα)) = (l.take (i + 1).toNat).map g ++ List.replicate (l.length - (i + 1).toNat) z := by
      have e1 : (i + 1).toNat = i.toNat + 1 := by omega
      rw [e1, List.take_succ_eq_append_getElem hi, List.map_append, getD_at l zα _ hi, List.set_append_right _ _ (by simp; omega)]
      have e2 : l.length - i.toNat = (l.length - (i.toNat + 1)) + 1 := by omega
      have e3 : i.toNat - ((l.take i.toNat).map g).length = 0 := by simp; omega
      rw [e2, e3, List.replicate_succ]
      simp
    rw [e]
    exact ih
  · have h := stop ((l.take ((l.length : Int)).toNat).map g ++ List.replicate (l.length - ((l.length : Int)).toNat) z) (l.length : Int) (Int.le_refl _)
    refine h.same ?_
    simp
theorem all_loop (n : Int) (h0 : 0 ≤ n) (F : Nat → Int → Option Bool) (step : ∀ i, 0 ≤ i → i < n → Evt (fun k => F k (i + 1)) true → Evt (fun k => F (k + 1) i) true)
    (stop : Evt (fun k => F (k + 1) n) true) : Evt (fun k => F k 0) true :=
  up_loop n (fun k (_ : Unit) i => F k i) (fun _ => ()) (fun _ => true) step stop 0 (Int.le_refl _) h0
theorem right_loop (n : Int) (hn : 0 ≤ n) (ok : Int → Prop) (q : Prop) (F : Nat → Int → Option Bool)
    (step : ∀ i, 0 ≤ i → i < n → (ok i → ∀ r, Evt (fun k => F k (i + 1)) r → Evt (fun k => F (k + 1) i) r) ∧ (¬ ok i → Evt (fun k => F (k + 1) i) false))
    (stop : Evt (fun k => F (k + 1) n) (B q)) : Evt (fun k => F k 0) (B ((∀ i, 0 ≤ i → i < n → ok i) ∧ q)) := by
  have h := up_loop n (fun k (_ : Unit) i => F k i) (fun _ => ()) (fun i => B ((∀ j, i ≤ j → j < n → ok j) ∧ q)) ?_ ?_ 0 (Int.le_refl _) hn
  · exact h
  · intro i h0 hlt ih
    by_cases hk : ok i
    · refine ((step i h0 hlt).1 hk _ ih).same (B_congr ⟨fun h => ⟨fun j h1 h2 => ?_, h.2⟩, fun h => ⟨fun j h1 h2 => h.1 j (by omega) h2, h.2⟩⟩)
      by_cases e : j = i
      · rw [e]; exact hk
      · exact h.1 j (by omega) h2
    · exact ((step i h0 hlt).2 hk).same (B_false (fun h => hk (h.1 i (Int.le_refl _) hlt))).symm
  · exact stop.same (B_congr ⟨fun h => ⟨fun j h1 h2 => absurd h2 (by omega), h⟩, fun h => h.2⟩)
end Go.Proofs.Ytefmkmhjbfpelaa.Ev0
namespace Go.Proofs.Ytefmkmhjbfpelaa.QL
open Go.RowKit Go.Proofs.YtefmkmhjbfpelaaW.PrintWords Go.Proofs.Ytefmkmhjbfpelaa.Ev0
def less (a b : ByteArray) : Prop := Op.bytesLess a.toList b.toList = true
noncomputable def cmpS (a b : ByteArray) : Int := if Op.bytesLess a.toList b.toList = true then -1 else if Op.bytesLess b.toList a.toList = true then 1 else 0
def cmpI (a b : Int) : Int := if a < b then -1 else if a > b then 1 else 0
theorem cmpS_ev (a b : ByteArray) : cmp_Compare_string.f a b = some (cmpS a b) := by
  have e1 : ∀ x : ByteArray, cmp_isNaN_string.f x = some false := fun x => by simp [cmp_isNaN_string.f]
  unfold cmp_Compare_string.f cmpS
  simp only [e1, Option.bind_some, Bool.false_eq_true, if_false]
  split
  · rfl
  · split <;> rfl
theorem cmpI_ev (a b : Int) : cmp_Compare_int64.f a b = some (cmpI a b) := by
  have e1 : ∀ x : Int, cmp_isNaN_int64.f x = some false := fun x => by simp [cmp_isNaN_int64.f]
  unfold cmp_Compare_int64.f cmpI
  simp only [e1, Option.bind_some, Bool.false_eq_true, if_false]
  split
  · rfl
  · split <;> rfl
theorem cmpS_cases (a b : ByteArray) : (less a b ∧ ¬ less b a ∧ ¬ a.toList = b.toList ∧ cmpS a b = -1) ∨ (¬ less a b ∧ less b a ∧ ¬ a.toList = b.toList ∧ cmpS a b = 1) ∨ (¬ less a b ∧ ¬ less b a ∧ a.toList = b.toList ∧ cmpS a b = 0) := by
  have t1 := Bs.less_tri a.toList b.toList
  have t2 := Bs.less_tri b.toList a.toList
  unfold less cmpS
  cases h1 : Op.bytesLess a.toList b.toList <;> cases h2 : Op.bytesLess b.toList a.toList
  · right; right
    rw [h1, h2] at t1
    refine ⟨by simp, by simp, by simpa using t1, by simp⟩
  · right; left
    refine ⟨by simp, by simp, ?_, by simp⟩
    intro e
    rw [e, Bs.less_irrefl] at h2
    cases h2
  · left
    refine ⟨by simp, by simp, ?_, by simp⟩
    intro e
    rw [e, Bs.less_irrefl] at h1
    cases h1
  · rw [h1, h2] at t1
    simp at t1
theorem cmpI_cases (a b : Int) : (a < b ∧ cmpI a b = -1) ∨ (b < a ∧ cmpI a b = 1) ∨ (a = b ∧ cmpI a b = 0) := by
  unfold cmpI
  split
  · left; exact ⟨by assumption, rfl⟩
  · split
    · right; left; exact ⟨by omega, rfl⟩
    · right; right; exact ⟨by omega, rfl⟩
def orL : List Int → Int
  | [] => 0
  | x :: xs => if x = 0 then orL xs else x
theorem or_ev (l : List Int) (hl : l.length ≤ 1000) : Evt (fun k => cmp_Or_int.f k l) (orL l) := by
  unfold cmp_Or_int.f
  have h := up_loop (l.length : Int) (fun k (_ : Unit) i => cmp_Or_int.l0 k 0 l (l.length : Int) i) (fun _ => ()) (fun i => orL (l.drop i.toNat)) ?_ ?_ 0 (Int.le_refl _) (by omega)
  · simpa using h
  · intro i h0 hlt ih
    simp only [cmp_Or_int.l0]
    refine Evt.pos hlt (Evt.pos h0 (Evt.pos hlt ?_))
    rw [w64 (show -9223372036854775808 ≤ i + 1 by omega) (by omega)]
    have hi : i.toNat < l.length := by omega
    have e : l.drop i.toNat = rd l i :: l.drop (i + 1).toNat := by
      rw [show (i + 1).toNat = i.toNat + 1 by omega, List.drop_eq_getElem_cons hi]
      congr 1
      unfold rd
      rw [getD_at l 0 _ hi]
    rw [e]
    unfold orL
    by_cases hz : rd l i = 0
    · rw [if_pos hz]
      exact Evt.pos hz ih
    · rw [if_neg hz]
      exact Evt.neg hz (Evt.pure _)
  · simp only [cmp_Or_int.l0]
    refine Evt.neg (by omega) ((Evt.pure _).same ?_)
    simp [orL]
end Go.Proofs.Ytefmkmhjbfpelaa.QL
namespace Go.Proofs.Ytefmkmhjbfpelaa.QL
open Go.RowKit Go.Proofs.YtefmkmhjbfpelaaW.PrintWords Go.Proofs.Ytefmkmhjbfpelaa.Ev0
theorem within_ev (a b c : Int) : impl_within.f a b c = some (B (b ≤ a ∧ a ≤ c)) := by
  unfold impl_within.f
  by_cases h : b ≤ a
  · rw [if_pos h, decide_B]
    exact congrArg some (B_congr ⟨fun x => ⟨h, x⟩, fun x => x.2⟩)
  · rw [if_neg h, B_false (fun x => h x.1)]
theorem isGreat_ev (c : Int) : impl_isGreat.f c = some (B (65 ≤ c ∧ c ≤ 90)) := by
  unfold impl_isGreat.f
  by_cases h : c ≥ 65
  · rw [if_pos h, decide_B]
    exact congrArg some (B_congr ⟨fun x => ⟨h, x⟩, fun x => x.2⟩)
  · rw [if_neg h, B_false (fun x => h x.1)]
theorem isDigit_ev (c : Int) : impl_isDigit.f c = some (B (48 ≤ c ∧ c ≤ 57)) := by
  unfold impl_isDigit.f
  by_cases h : c ≥ 48
  · rw [if_pos h, decide_B]
    exact congrArg some (B_congr ⟨fun x => ⟨h, x⟩, fun x => x.2⟩)
  · rw [if_neg h, B_false (fun x => h x.1)]
theorem isQty_ev (n : Int) : impl_isQty.f n = some (B (1 ≤ n ∧ n ≤ 1000000)) := by
  unfold impl_isQty.f
  rw [within_ev]
  rfl
theorem l01Qty_ev (n : Int) : spec_l01Qty.f n = some (B (1 ≤ n ∧ n ≤ 1000000)) := by
  unfold spec_l01Qty.f
  by_cases h : n ≥ 1
  · rw [if_pos h, decide_B]
    exact congrArg some (B_congr ⟨fun x => ⟨h, x⟩, fun x => x.2⟩)
  · rw [if_neg h, B_false (fun x => h x.1)]
def okc (c : Int) : Prop := (65 ≤ c ∧ c ≤ 90) ∨ (48 ≤ c ∧ c ≤ 57) ∨ c = 45
def NameP (s : ByteArray) : Prop := 1 ≤ (s.size : Int) ∧ (s.size : Int) ≤ 12 ∧ (65 ≤ bt s 0 ∧ bt s 0 ≤ 90) ∧ ∀ j : Int, 0 ≤ j → j < s.size → okc (bt s j)
noncomputable def nameB (s : ByteArray) : Bool := B (NameP s)
theorem specName_l (s : ByteArray) (hs : (s.size : Int) ≤ 9223372036854775807) (d : Nat) : ∀ i : Int, 0 ≤ i → (s.size : Int) - i ≤ d → Evt (fun k => spec_l01Name.l0 k s i) (B (∀ j : Int, i ≤ j → j < s.size → okc (bt s j))) := by
  induction d with
  | zero =>
    intro i h0 hd
    apply Evt.succ
    simp only [spec_l01Name.l0]
    refine Evt.neg (by omega) ((Evt.pure true).same (B_true ?_).symm)
    intro j h1 h2
    omega
  | succ d ih =>
    intro i h0 hd
    apply Evt.succ
    simp only [spec_l01Name.l0]
    by_cases hlt : i < (s.size : Int)
    · refine Evt.pos hlt (Evt.pos h0 ?_)
      have hw : wrap64 (i + 1) = i + 1 := w64 (by omega) (by omega)
      rw [hw]
      have yes : okc (bt s i) → Evt (fun k => spec_l01Name.l0 k s (i + 1)) (B (∀ j : Int, i ≤ j → j < s.size → okc (bt s j))) := fun hc =>
        (ih (i + 1) (by omega) (by omega)).same (B_congr ⟨fun h j h1 h2 => by
          by_cases e : j = i
          · rw [e]; exact hc
          · exact h j (by omega) h2, fun h j h1 h2 => h j (by omega) h2⟩)
      have no : ¬ okc (bt s i) → Evt (fun _ => some false) (B (∀ j : Int, i ≤ j → j < s.size → okc (bt s j))) := fun hc =>
        (Evt.pure false).same (B_false (fun h => hc (h i (Int.le_refl _) hlt))).symm
      have digit : Evt (fun k => if bt s i ≥ 48 then (if bt s i ≤ 57 then spec_l01Name.l0 k s (i + 1) else (if bt s i = 45 then spec_l01Name.l0 k s (i + 1) else some false)) else (if bt s i = 45 then spec_l01Name.l0 k s (i + 1) else some false)) (B (∀ j : Int, i ≤ j → j < s.size → okc (bt s j))) ∨ (65 ≤ bt s i ∧ bt s i ≤ 90) := by
        by_cases hg : 65 ≤ bt s i ∧ bt s i ≤ 90
        · exact .inr hg
        · refine .inl (Evt.ite (fun h1 => Evt.ite (fun h2 => yes (.inr (.inl ⟨h1, h2⟩))) (fun h2 => Evt.ite (fun h3 => yes (.inr (.inr h3))) (fun h3 => no (fun hk => ?_)))) (fun h1 => Evt.ite (fun h3 => yes (.inr (.inr h3))) (fun h3 => no (fun hk => ?_))))
          · rcases hk with hk | hk | hk
            · exact hg hk
            · omega
            · exact h3 hk
          · rcases hk with hk | hk | hk
            · exact hg hk
            · omega
            · exact h3 hk
      refine Evt.ite (fun h1 => Evt.ite (fun h2 => yes (.inl ⟨h1, h2⟩)) (fun h2 => ?_)) (fun h1 => ?_)
      · exact digit.resolve_right (fun h => h2 h.2)
      · exact digit.resolve_right (fun h => h1 h.1)
    · refine Evt.neg hlt ((Evt.pure true).same (B_true ?_).symm)
      intro j h1 h2
      omega
theorem specName_ev (s : ByteArray) (hs : (s.size : Int) ≤ 9223372036854775807) : Evt (fun k => spec_l01Name.f k s) (nameB s) := by
  unfold spec_l01Name.f
  have bad : ¬ NameP s → Evt (fun k => spec_l01Name.j0 k s true) (nameB s) := fun h => by
    apply Evt.succ
    simp only [spec_l01Name.j0]
    exact (Evt.pure false).same (B_false h).symm
  refine Evt.ite (fun h => bad (fun hn => by have := hn.1; omega)) (fun h1 => Evt.ite (fun h => bad (fun hn => by have := hn.2.1; omega)) (fun h2 => Evt.pos (by omega) (Evt.ite (fun h => bad (fun hn => by have := hn.2.2.1.1; omega)) (fun h3 => ?_))))
  by_cases h4 : bt s 0 > 90
  · rw [decide_eq_true h4]
    exact bad (fun hn => by have := hn.2.2.1.2; omega)
  · rw [decide_eq_false h4]
    apply Evt.succ
    simp only [spec_l01Name.j0]
    refine (specName_l s hs s.size 0 (Int.le_refl _) (by omega)).same (B_congr ⟨fun h => ⟨by omega, by omega, ⟨by omega, by omega⟩, h⟩, fun h => h.2.2.2⟩)
theorem implName_l (s : ByteArray) (hs : (s.size : Int) ≤ 9223372036854775807) (d : Nat) : ∀ i : Int, 0 ≤ i → (s.size : Int) - i ≤ d →
    Evt (fun k => impl_isName.l0 k s (s.size : Int) i) (B ((∀ j : Int, i ≤ j → j < s.size → (65 ≤ bt s j ∧ bt s j ≤ 90) ∨ (j ≠ 0 ∧ okc (bt s j))) ∧ 1 ≤ (s.size : Int) ∧ (s.size : Int) ≤ 12)) := by
  induction d with
  | zero =>
    intro i h0 hd
    apply Evt.succ
    simp only [impl_isName.l0]
    refine Evt.neg (by omega) (Evt.const ?_)
    rw [within_ev]
    exact congrArg some (B_congr ⟨fun h => ⟨fun j h1 h2 => by omega, h⟩, fun h => h.2⟩)
  | succ d ih =>
    intro i h0 hd
    apply Evt.succ
    simp only [impl_isName.l0]
    by_cases hlt : i < (s.size : Int)
    · refine Evt.pos hlt (Evt.pos h0 (Evt.pos hlt ?_))
      have hw : wrap64 (i + 1) = i + 1 := w64 (by omega) (by omega)
      rw [hw, isGreat_ev, isDigit_ev]
      have yes : ((65 ≤ bt s i ∧ bt s i ≤ 90) ∨ (i ≠ 0 ∧ okc (bt s i))) → Evt (fun k => impl_isName.l0 k s (s.size : Int) (i + 1)) (B ((∀ j : Int, i ≤ j → j < s.size → (65 ≤ bt s j ∧ bt s j ≤ 90) ∨ (j ≠ 0 ∧ okc (bt s j))) ∧ 1 ≤ (s.size : Int) ∧ (s.size : Int) ≤ 12)) := fun hc =>
        (ih (i + 1) (by omega) (by omega)).same (B_congr ⟨fun h => ⟨fun j h1 h2 => by
          by_cases e : j = i
          · rw [e]; exact hc
          · exact h.1 j (by omega) h2, h.2⟩, fun h => ⟨fun j h1 h2 => h.1 j (by omega) h2, h.2⟩⟩)
      have no : ¬ ((65 ≤ bt s i ∧ bt s i ≤ 90) ∨ (i ≠ 0 ∧ okc (bt s i))) → Evt (fun _ => some false) (B ((∀ j : Int, i ≤ j → j < s.size → (65 ≤ bt s j ∧ bt s j ≤ 90) ∨ (j ≠ 0 ∧ okc (bt s j))) ∧ 1 ≤ (s.size : Int) ∧ (s.size : Int) ≤ 12)) := fun hc =>
        (Evt.pure false).same (B_false (fun h => hc (h.1 i (Int.le_refl _) hlt))).symm
      simp only [Option.bind_some]
      refine Evt.ite (fun h1 => yes (.inl (B_iff.1 h1))) (fun h1 => ?_)
      have g1 : ¬ (65 ≤ bt s i ∧ bt s i ≤ 90) := fun h => h1 (B_iff.2 h)
      refine Evt.ite (fun h2 => no (fun h => h.elim g1 (fun h => h.1 h2))) (fun h2 => Evt.ite (fun h3 => yes (.inr ⟨h2, .inr (.inl (B_iff.1 h3))⟩)) (fun h3 => Evt.ite (fun h4 => yes (.inr ⟨h2, .inr (.inr h4)⟩)) (fun h4 => no (fun h => ?_))))
      rcases h with h | ⟨_, h | h | h⟩
      · exact g1 h
      · exact g1 h
      · exact h3 (B_iff.2 h)
      · exact h4 h
    · refine Evt.neg hlt (Evt.const ?_)
      rw [within_ev]
      exact congrArg some (B_congr ⟨fun h => ⟨fun j h1 h2 => by omega, h⟩, fun h => h.2⟩)
theorem implName_ev (s : ByteArray) (hs : (s.size : Int) ≤ 9223372036854775807) : Evt (fun k => impl_isName.f k s) (nameB s) := by
  unfold impl_isName.f
  refine (implName_l s hs s.size 0 (Int.le_refl _) (by omega)).same (B_congr ⟨fun h => ⟨h.2.1, h.2.2, ?_, ?_⟩, fun h => ⟨?_, h.1, h.2.1⟩⟩)
  · rcases h.1 0 (Int.le_refl _) (by omega) with h | h
    · exact h
    · exact absurd rfl h.1
  · intro j h1 h2
    rcases h.1 j h1 h2 with h | h
    · exact .inl h
    · exact h.2
  · intro j h1 h2
    by_cases e : j = 0
    · rw [e]; exact .inl h.2.2.1
    · exact .inr ⟨e, h.2.2.2 j h1 h2⟩
end Go.Proofs.Ytefmkmhjbfpelaa.QL
namespace Go.Proofs.Ytefmkmhjbfpelaa.QL
open Go.RowKit Go.Proofs.YtefmkmhjbfpelaaW.PrintWords Go.Proofs.Ytefmkmhjbfpelaa.Ev0
def LineP (a b : ByteArray) (n : Int) (i : ByteArray) (o s g c : Int) : Prop :=
  NameP a ∧ NameP b ∧ NameP i ∧ (1 ≤ n ∧ n ≤ 999) ∧ (1 ≤ o ∧ o ≤ 1000000) ∧ (0 ≤ s ∧ s ≤ o) ∧ (0 ≤ g ∧ g ≤ s) ∧ (0 ≤ c ∧ c ≤ wrap64 (o - s))
noncomputable def lineB (a b : ByteArray) (n : Int) (i : ByteArray) (o s g c : Int) : Bool := B (LineP a b n i o s g c)
theorem specLine_ev (a b : ByteArray) (n : Int) (i : ByteArray) (o s g c : Int) (ha : (a.size : Int) ≤ 9223372036854775807) (hb : (b.size : Int) ≤ 9223372036854775807) (hi : (i.size : Int) ≤ 9223372036854775807) :
    Evt (fun k => spec_LineRight.f k a b n i o s g c) (lineB a b n i o s g c) := by
  unfold spec_LineRight.f
  have key : Evt (fun k => spec_LineRight.f k a b n i o s g c) (B (NameP a ∧ NameP b ∧ NameP i ∧ 1 ≤ n ∧ n ≤ 999 ∧ (1 ≤ o ∧ o ≤ 1000000) ∧ 0 ≤ s ∧ 0 ≤ g ∧ 0 ≤ c ∧ g ≤ s ∧ s ≤ o ∧ c ≤ wrap64 (o - s))) := by
    unfold spec_LineRight.f
    refine Evt.bind (specName_ev a ha) (and_ B_iff fun _ => Evt.bind (specName_ev b hb) (and_ B_iff fun _ => Evt.bind (specName_ev i hi) (and_ B_iff fun _ => and_ Iff.rfl fun _ => and_ Iff.rfl fun _ => ?_)))
    rw [l01Qty_ev]
    simp only [Option.bind_some]
    exact and_ B_iff fun _ => and_ Iff.rfl fun _ => and_ Iff.rfl fun _ => and_ Iff.rfl fun _ => and_ Iff.rfl fun _ => and_ Iff.rfl fun _ => last_ Iff.rfl
  refine key.same (B_congr ⟨?_, ?_⟩)
  · rintro ⟨h1, h2, h3, h4, h5, h6, h7, h8, h9, h10, h11, h12⟩
    exact ⟨h1, h2, h3, ⟨h4, h5⟩, h6, ⟨h7, h11⟩, ⟨h8, h10⟩, ⟨h9, h12⟩⟩
  · rintro ⟨h1, h2, h3, ⟨h4, h5⟩, h6, ⟨h7, h11⟩, ⟨h8, h10⟩, ⟨h9, h12⟩⟩
    exact ⟨h1, h2, h3, h4, h5, h6, h7, h8, h9, h10, h11, h12⟩
theorem implLine_ev (a b : ByteArray) (n : Int) (i : ByteArray) (o s g c : Int) (ha : (a.size : Int) ≤ 9223372036854775807) (hb : (b.size : Int) ≤ 9223372036854775807) (hi : (i.size : Int) ≤ 9223372036854775807) :
    Evt (fun k => impl_LineRight.f k a b n i o s g c) (lineB a b n i o s g c) := by
  unfold impl_LineRight.f lineB LineP
  simp only [within_ev, isQty_ev, Option.bind_some]
  exact Evt.bind (implName_ev a ha) (and_ B_iff fun _ => Evt.bind (implName_ev b hb) (and_ B_iff fun _ => Evt.bind (implName_ev i hi) (and_ B_iff fun _ => and_ B_iff fun _ => and_ B_iff fun _ => and_ B_iff fun _ => and_ B_iff fun _ => lastB_ Iff.rfl)))
end Go.Proofs.Ytefmkmhjbfpelaa.QL
namespace Go.Proofs.Ytefmkmhjbfpelaa.QL
open Go.RowKit Go.Proofs.YtefmkmhjbfpelaaW.PrintWords Go.Proofs.Ytefmkmhjbfpelaa.Ev0
def lbefore (a b : ByteArray) (n : Int) (a' b' : ByteArray) (n' : Int) : Prop := less a a' ∨ (a.toList = a'.toList ∧ (less b b' ∨ (b.toList = b'.toList ∧ n < n')))
theorem l09Before_ev (a b : ByteArray) (n : Int) (i : ByteArray) (o s g c : Int) (a' b' : ByteArray) (n' : Int) (i' : ByteArray) (o' s' g' c' : Int) :
    spec_l09Before.f a b n i o s g c a' b' n' i' o' s' g' c' = some (B (lbefore a b n a' b' n')) := by
  unfold spec_l09Before.f lbefore
  rcases cmpS_cases a a' with ⟨h1, h2, h3, _⟩ | ⟨h1, h2, h3, _⟩ | ⟨h1, h2, h3, _⟩
  · rw [if_neg h3, B_true (.inl h1)]
    exact congrArg some h1
  · rw [if_neg h3, B_false (fun h => h.elim h1 (fun h => h3 h.1))]
    exact congrArg some (Bool.eq_false_iff.2 h1)
  · rw [if_pos h3]
    rcases cmpS_cases b b' with ⟨g1, g2, g3, _⟩ | ⟨g1, g2, g3, _⟩ | ⟨g1, g2, g3, _⟩
    · rw [if_neg g3, B_true (.inr ⟨h3, .inl g1⟩)]
      exact congrArg some g1
    · rw [if_neg g3, B_false (fun h => h.elim h1 (fun h => h.2.elim g1 (fun h => g3 h.1)))]
      exact congrArg some (Bool.eq_false_iff.2 g1)
    · rw [if_pos g3, decide_B]
      exact congrArg some (B_congr ⟨fun h => .inr ⟨h3, .inr ⟨g3, h⟩⟩, fun h => h.elim (fun h => absurd h h1) (fun h => h.2.elim (fun h => absurd h g1) (fun h => h.2))⟩)
noncomputable def lcmp (a b : ByteArray) (n : Int) (a' b' : ByteArray) (n' : Int) : Int := orL [cmpS a a', cmpS b b', cmpI n n']
theorem lineOrder_ev (a b : ByteArray) (n : Int) (i : ByteArray) (o s g c : Int) (a' b' : ByteArray) (n' : Int) (i' : ByteArray) (o' s' g' c' : Int) :
    Evt (fun k => impl_lineOrder.f k a b n i o s g c a' b' n' i' o' s' g' c') (lcmp a b n a' b' n') := by
  unfold impl_lineOrder.f
  simp only [cmpS_ev, cmpI_ev, Option.bind_some]
  exact Evt.bind (or_ev _ (by simp)) (Evt.pure _)
theorem lcmp_iff (a b : ByteArray) (n : Int) (a' b' : ByteArray) (n' : Int) : lcmp a b n a' b' n' ≥ 0 ↔ ¬ lbefore a b n a' b' n' := by
  unfold lcmp lbefore
  rcases cmpS_cases a a' with ⟨h1, h2, h3, h4⟩ | ⟨h1, h2, h3, h4⟩ | ⟨h1, h2, h3, h4⟩
  · simp [orL, h4, h1]
  · simp [orL, h4, h1, h3]
  · rcases cmpS_cases b b' with ⟨g1, g2, g3, g4⟩ | ⟨g1, g2, g3, g4⟩ | ⟨g1, g2, g3, g4⟩
    · simp [orL, h4, h1, h3, g4, g1]
    · simp [orL, h4, h1, h3, g4, g1, g3]
    · rcases cmpI_cases n n' with ⟨e1, e2⟩ | ⟨e1, e2⟩ | ⟨e1, e2⟩
      · simp [orL, h4, h1, h3, g4, g1, g3, e1, e2]
      · simp [orL, h4, h1, h3, g4, g1, g3, e2]; omega
      · subst e1
        simp [orL, h4, h1, h3, g4, g1, g3, e2]
def okS (x : S54) : Prop := (x.f0.size : Int) ≤ 9223372036854775807 ∧ (x.f1.size : Int) ≤ 9223372036854775807 ∧ (x.f3.size : Int) ≤ 9223372036854775807
def lineOk (l : List S54) (i : Int) : Prop :=
  lineB (rd_T54 l i).f0 (rd_T54 l i).f1 (rd_T54 l i).f2 (rd_T54 l i).f3 (rd_T54 l i).f4 (rd_T54 l i).f5 (rd_T54 l i).f6 (rd_T54 l i).f7 = true ∧
    (0 < i → lbefore (rd_T54 l (i - 1)).f0 (rd_T54 l (i - 1)).f1 (rd_T54 l (i - 1)).f2 (rd_T54 l i).f0 (rd_T54 l i).f1 (rd_T54 l i).f2)
def LinesP (l : List S54) : Prop := (l.length : Int) ≤ 200 ∧ ∀ i, 0 ≤ i → i < (l.length : Int) → lineOk l i
noncomputable def linesB (l : List S54) : Bool := B (LinesP l)
theorem okS_at {l : List S54} (h : ∀ x ∈ l, okS x) (i : Int) (h1 : i < (l.length : Int)) (h0 : 0 ≤ i) : okS (rd_T54 l i) := by
  unfold rd_T54
  rw [getD_at l _ _ (by omega)]
  exact h _ (List.getElem_mem _)
theorem specLines_ev (l : List S54) (hs : ∀ x ∈ l, okS x) : Evt (fun k => spec_LinesRight.f k l) (linesB l) := by
  unfold spec_LinesRight.f
  by_cases hn : (l.length : Int) > 200
  · exact Evt.pos hn ((Evt.pure false).same (B_false (fun h => by have := h.1; omega)).symm)
  · refine Evt.neg hn ?_
    refine (right_loop (l.length : Int) (by omega) (lineOk l) True (fun k i => spec_LinesRight.l0 k l i) ?_ ?_).same (B_congr ⟨fun h => ⟨by omega, h.1⟩, fun h => ⟨h.2, trivial⟩⟩)
    · intro i h0 hlt
      have hk := okS_at hs i hlt h0
      have hw : wrap64 (i + 1) = i + 1 := w64 (by omega) (by omega)
      have hw1 : wrap64 (i - 1) = i - 1 := w64 (by omega) (by omega)
      simp only [spec_LinesRight.l0, hw, hw1, l09Before_ev, Option.bind_some]
      refine ⟨fun ok r hr => ?_, fun nok => ?_⟩
      · refine Evt.pos hlt (Evt.pos h0 (Evt.bind (specLine_ev _ _ _ _ _ _ _ _ hk.1 hk.2.1 hk.2.2) (Evt.pos ok.1 (Evt.ite (fun hp => Evt.pos (by omega) (Evt.pos (by omega) (Evt.pos (B_true (ok.2 hp)) hr))) (fun _ => hr)))))
      · refine Evt.pos hlt (Evt.pos h0 (Evt.bind (specLine_ev _ _ _ _ _ _ _ _ hk.1 hk.2.1 hk.2.2) (Evt.ite (fun hl => Evt.ite (fun hp => Evt.pos (by omega) (Evt.pos (by omega) (Evt.neg (fun hb => nok ⟨hl, fun _ => B_iff.1 hb⟩) (Evt.pure _)))) (fun hp => absurd ⟨hl, fun h => absurd h hp⟩ nok)) (fun _ => Evt.pure _))))
    · simp only [spec_LinesRight.l0]
      exact Evt.neg (by omega) ((Evt.pure true).same (B_true trivial).symm)
theorem implLines_ev (l : List S54) (hs : ∀ x ∈ l, okS x) : Evt (fun k => impl_LinesRight.f k l) (linesB l) := by
  unfold impl_LinesRight.f
  by_cases hn : (l.length : Int) > 200
  · exact Evt.pos hn ((Evt.pure false).same (B_false (fun h => by have := h.1; omega)).symm)
  · refine Evt.neg hn ?_
    refine (right_loop (l.length : Int) (by omega) (lineOk l) True (fun k i => impl_LinesRight.l0 k l l (l.length : Int) i) ?_ ?_).same (B_congr ⟨fun h => ⟨by omega, h.1⟩, fun h => ⟨h.2, trivial⟩⟩)
    · intro i h0 hlt
      have hk := okS_at hs i hlt h0
      have hw : wrap64 (i + 1) = i + 1 := w64 (by omega) (by omega)
      have hw1 : wrap64 (i - 1) = i - 1 := w64 (by omega) (by omega)
      simp only [impl_LinesRight.l0, hw, hw1]
      refine ⟨fun ok r hr => ?_, fun nok => ?_⟩
      · refine Evt.pos hlt (Evt.pos h0 (Evt.pos hlt (Evt.bind (implLine_ev _ _ _ _ _ _ _ _ hk.1 hk.2.1 hk.2.2) (Evt.pos ok.1 (Evt.ite (fun hp => Evt.pos (by omega) (Evt.pos (by omega) (Evt.bind (lineOrder_ev _ _ _ _ _ _ _ _ _ _ _ _ _ _ _ _) (Evt.neg (fun h => (lcmp_iff _ _ _ _ _ _).1 h (ok.2 hp)) hr)))) (fun _ => hr))))))
      · refine Evt.pos hlt (Evt.pos h0 (Evt.pos hlt (Evt.bind (implLine_ev _ _ _ _ _ _ _ _ hk.1 hk.2.1 hk.2.2) (Evt.ite (fun hl => Evt.ite (fun hp => Evt.pos (by omega) (Evt.pos (by omega) (Evt.bind (lineOrder_ev _ _ _ _ _ _ _ _ _ _ _ _ _ _ _ _) (Evt.pos ((lcmp_iff _ _ _ _ _ _).2 (fun hb => nok ⟨hl, fun _ => hb⟩)) (Evt.pure _))))) (fun hp => absurd ⟨hl, fun h => absurd h hp⟩ nok)) (fun _ => Evt.pure _)))))
    · simp only [impl_LinesRight.l0]
      exact Evt.neg (by omega) ((Evt.pure true).same (B_true trivial).symm)
end Go.Proofs.Ytefmkmhjbfpelaa.QL
namespace Go.Proofs.Ytefmkmhjbfpelaa.QL
open Go.RowKit Go.Proofs.Ytefmkmhjbfpelaa Go.Proofs.YtefmkmhjbfpelaaW.PrintWords Go.Proofs.Ytefmkmhjbfpelaa.Ev0
theorem szLine_ev (a b : ByteArray) (n : Int) (i : ByteArray) (o s g c t : Int) (h0 : 0 ≤ t) (h1 : t ≤ 1048576) (ha : (a.size : Int) ≤ 9223372036854775807) (hb : (b.size : Int) ≤ 9223372036854775807) (hi : (i.size : Int) ≤ 9223372036854775807) :
    ∃ r, laws_szOrderLine.f a b n i o s g c t = some r ∧ (r < 0 ∨ (0 ≤ r ∧ r ≤ t ∧ True)) := by
  unfold laws_szOrderLine.f
  refine sz_step h0 h1 (by omega) ha (fun g1 => ?_)
  rw [wsub h0 h1 (by omega) ha]
  refine sz_step g1 (by omega) (by omega) hb (fun g2 => ?_)
  rw [wsub g1 (by omega) (by omega) hb]
  refine sz_step g2 (by omega) (by omega) hi (fun g3 => ?_)
  rw [wsub g2 (by omega) (by omega) hi]
  exact ⟨_, rfl, .inr ⟨g3, Int.le_refl _, trivial⟩⟩
def okL (x : S74) : Prop := (x.f0.size : Int) ≤ 9223372036854775807 ∧ (x.f1.size : Int) ≤ 9223372036854775807 ∧ (x.f3.size : Int) ≤ 9223372036854775807
theorem okL_of {x : S74} (h : wf74 x) : okL x := by
  obtain ⟨h0, h1, _, h3, _⟩ := h
  have g0 : x.f0.size ≤ 2 ^ 63 - 1 := h0
  have g1 : x.f1.size ≤ 2 ^ 63 - 1 := h1
  have g3 : x.f3.size ≤ 2 ^ 63 - 1 := h3
  exact ⟨by omega, by omega, by omega⟩
theorem szLineS_ev (l : List S74) (hl : l.length ≤ 9223372036854775807) (hx : ∀ x ∈ l, okL x) (left : Int) (h0 : 0 ≤ left) (h1 : left ≤ 1048576) : SzR (fun k => laws_szOrderLineS.f k l left) left (l.length ≤ 1048576 ∧ ∀ i : Int, 0 ≤ i → i < (l.length : Int) → True) := by
  refine sz_loop l.length hl (fun _ => True) _ (fun k s i => laws_szOrderLineS.l0 k l s i) left h0 h1 (fun k => rfl) ?_ ?_
  · intro s i h0 hlt hs0 hs1
    have hw : wrap64 (i + 1) = i + 1 := w64 (by omega) (by omega)
    have hk : okL (rd_T74 l i) := by
      unfold rd_T74
      rw [getD_at l _ _ (by omega)]
      exact hx _ (List.getElem_mem _)
    obtain ⟨t, ht, h2⟩ := szLine_ev (rd_T74 l i).f0 (rd_T74 l i).f1 (rd_T74 l i).f2 (rd_T74 l i).f3 (rd_T74 l i).f4 (rd_T74 l i).f5 (rd_T74 l i).f6 (rd_T74 l i).f7 s hs0 hs1 hk.1 hk.2.1 hk.2.2
    simp only [laws_szOrderLineS.l0, ht, Option.bind_some, hw]
    rcases h2 with h2 | ⟨h2, h3, _⟩
    · exact .inl ⟨-1, by decide, Evt.pos hlt (Evt.pos h0 (Evt.pos h2 (Evt.pure _)))⟩
    · exact .inr ⟨t, h2, h3, trivial, fun r hr => Evt.pos hlt (Evt.pos h0 (Evt.neg (by omega) hr))⟩
  · intro s i hi
    simp only [laws_szOrderLineS.l0]
    exact Evt.neg (by omega) (Evt.pure _)
def cvLine (x : S74) : S54 := ⟨x.f0, x.f1, x.f2, x.f3, x.f4, x.f5, x.f6, x.f7⟩
theorem toLineS_ev (l : List S74) (hl : l.length ≤ 1048576) : Evt (fun k => laws_toOrderLineS.f k l) (l.map cvLine) := by
  unfold laws_toOrderLineS.f
  refine Evt.pos (by omega) (Evt.pos (by omega) ?_)
  rw [Int.toNat_natCast]
  refine fill_loop l z74 z54 cvLine (fun k acc i => laws_toOrderLineS.l0 k l acc i) ?_ ?_
  · intro acc i h0 hlt ha r hr
    have hw : wrap64 (i + 1) = i + 1 := w64 (by omega) (by omega)
    simp only [laws_toOrderLineS.l0, laws_toOrderLine.f, Option.bind_some, hw]
    exact Evt.pos hlt (Evt.pos h0 (Evt.pos (by omega) hr))
  · intro acc i hi
    simp only [laws_toOrderLineS.l0]
    exact Evt.neg (by omega) (Evt.pure _)
theorem okS_map (l : List S74) (h : ∀ x ∈ l, okL x) : ∀ x ∈ l.map cvLine, okS x := by
  intro x hx
  obtain ⟨y, hy, rfl⟩ := List.mem_map.1 hx
  exact h y hy
end Go.Proofs.Ytefmkmhjbfpelaa.QL
namespace Go.Proofs.Ytefmkmhjbfpelaa.QL
open Go.RowKit Go.Proofs.YtefmkmhjbfpelaaW.PrintWords Go.Proofs.Ytefmkmhjbfpelaa.Ev0
theorem mid_eq (lo hi : Int) (h0 : 0 ≤ lo) (h1 : lo < hi) (h2 : hi ≤ 1000000000) : wrap64 ((IntKind.u64.wrap (wrap64 (lo + hi))) / 2) = (lo + hi) / 2 := by
  rw [w64 (x := lo + hi) (by omega) (by omega), IntKind.wrap_u64, w64 (by omega) (by omega)]
  omega
theorem bin_loop {ρ : Type} (n : Int) (hn : 0 ≤ n) (neg : Int → Prop) (F : Nat → Int → Int → Option ρ) (R : Int → ρ)
    (step : ∀ lo hi, 0 ≤ lo → lo < hi → hi ≤ n → (neg ((lo + hi) / 2) → ∀ r, Evt (fun k => F k ((lo + hi) / 2 + 1) hi) r → Evt (fun k => F (k + 1) lo hi) r) ∧ (¬ neg ((lo + hi) / 2) → ∀ r, Evt (fun k => F k lo ((lo + hi) / 2)) r → Evt (fun k => F (k + 1) lo hi) r))
    (stop : ∀ lo, 0 ≤ lo → lo ≤ n → Evt (fun k => F (k + 1) lo lo) (R lo)) (mono : ∀ i j, 0 ≤ i → i ≤ j → j < n → neg j → neg i) :
    ∃ p, 0 ≤ p ∧ p ≤ n ∧ Evt (fun k => F k 0 n) (R p) ∧ (∀ i, 0 ≤ i → i < p → neg i) ∧ (∀ i, p ≤ i → i < n → ¬ neg i) := by
  have key : ∀ (d : Nat) (lo hi : Int), 0 ≤ lo → lo ≤ hi → hi ≤ n → hi - lo ≤ d → (∀ i, 0 ≤ i → i < lo → neg i) → (∀ i, hi ≤ i → i < n → ¬ neg i) →
      ∃ p, 0 ≤ p ∧ p ≤ n ∧ Evt (fun k => F k lo hi) (R p) ∧ (∀ i, 0 ≤ i → i < p → neg i) ∧ (∀ i, p ≤ i → i < n → ¬ neg i) := by
    intro d
    induction d with
    | zero =>
      intro lo hi h0 h1 h2 hd hl hh
      obtain rfl : lo = hi := by omega
      exact ⟨lo, h0, h2, (stop lo h0 h2).succ, hl, hh⟩
    | succ d ih =>
      intro lo hi h0 h1 h2 hd hl hh
      by_cases hlt : lo < hi
      · obtain ⟨s1, s2⟩ := step lo hi h0 hlt h2
        by_cases hg : neg ((lo + hi) / 2)
        · obtain ⟨p, p0, p1, hp, q1, q2⟩ := ih ((lo + hi) / 2 + 1) hi (by omega) (by omega) h2 (by omega) (fun i i0 i1 => mono i ((lo + hi) / 2) i0 (by omega) (by omega) hg) hh
          exact ⟨p, p0, p1, (s1 hg _ hp).succ, q1, q2⟩
        · obtain ⟨p, p0, p1, hp, q1, q2⟩ := ih lo ((lo + hi) / 2) h0 (by omega) (by omega) (by omega) hl (fun i i0 i1 hi' => hg (mono ((lo + hi) / 2) i (by omega) i0 i1 hi'))
          exact ⟨p, p0, p1, (s2 hg _ hp).succ, q1, q2⟩
      · obtain rfl : lo = hi := by omega
        exact ⟨lo, h0, h2, (stop lo h0 h2).succ, hl, hh⟩
  exact key n.toNat 0 n (Int.le_refl _) hn (Int.le_refl _) (by omega) (fun i h0 h1 => absurd h1 (by omega)) (fun i h0 h1 => absurd h1 (by omega))
theorem bin_some {ρ : Type} (n : Int) (hn : 0 ≤ n) (neg : Int → Prop) (F : Nat → Int → Int → Option ρ) (R : Int → ρ)
    (step : ∀ lo hi, 0 ≤ lo → lo < hi → hi ≤ n → (neg ((lo + hi) / 2) → ∀ r, Evt (fun k => F k ((lo + hi) / 2 + 1) hi) r → Evt (fun k => F (k + 1) lo hi) r) ∧ (¬ neg ((lo + hi) / 2) → ∀ r, Evt (fun k => F k lo ((lo + hi) / 2)) r → Evt (fun k => F (k + 1) lo hi) r))
    (stop : ∀ lo, 0 ≤ lo → lo ≤ n → Evt (fun k => F (k + 1) lo lo) (R lo)) : ∃ p, 0 ≤ p ∧ p ≤ n ∧ Evt (fun k => F k 0 n) (R p) := by
  have key : ∀ (d : Nat) (lo hi : Int), 0 ≤ lo → lo ≤ hi → hi ≤ n → hi - lo ≤ d → ∃ p, 0 ≤ p ∧ p ≤ n ∧ Evt (fun k => F k lo hi) (R p) := by
    intro d
    induction d with
    | zero =>
      intro lo hi h0 h1 h2 hd
      obtain rfl : lo = hi := by omega
      exact ⟨lo, h0, h2, (stop lo h0 h2).succ⟩
    | succ d ih =>
      intro lo hi h0 h1 h2 hd
      by_cases hlt : lo < hi
      · obtain ⟨s1, s2⟩ := step lo hi h0 hlt h2
        by_cases hg : neg ((lo + hi) / 2)
        · obtain ⟨p, p0, p1, hp⟩ := ih ((lo + hi) / 2 + 1) hi (by omega) (by omega) h2 (by omega)
          exact ⟨p, p0, p1, (s1 hg _ hp).succ⟩
        · obtain ⟨p, p0, p1, hp⟩ := ih lo ((lo + hi) / 2) h0 (by omega) (by omega) (by omega)
          exact ⟨p, p0, p1, (s2 hg _ hp).succ⟩
      · obtain rfl : lo = hi := by omega
        exact ⟨lo, h0, h2, (stop lo h0 h2).succ⟩
  exact key n.toNat 0 n (Int.le_refl _) hn (Int.le_refl _) (by omega)
theorem less_trans : ∀ a b c : List UInt8, Op.bytesLess a b = true → Op.bytesLess b c = true → Op.bytesLess a c = true
  | [], [], _, h, _ => by simp [Op.bytesLess] at h
  | [], _ :: _, [], _, h => by simp [Op.bytesLess] at h
  | [], _ :: _, _ :: _, _, _ => by simp [Op.bytesLess]
  | _ :: _, [], _, h, _ => by simp [Op.bytesLess] at h
  | _ :: _, _ :: _, [], _, h => by simp [Op.bytesLess] at h
  | x :: a, y :: b, z :: c, h1, h2 => by
    have ih := less_trans a b c
    have key : ∀ (x y : UInt8) (a b : List UInt8), Op.bytesLess (x :: a) (y :: b) = true ↔ (x.toNat < y.toNat ∨ (x.toNat = y.toNat ∧ Op.bytesLess a b = true)) := by
      intro x y a b
      by_cases g1 : x < y
      · have := UInt8.lt_iff_toNat_lt.1 g1
        simp [Op.bytesLess, g1, this]
      · by_cases g2 : y < x
        · have g3 : ¬ x = y := fun h => by subst h; have := UInt8.lt_iff_toNat_lt.1 g2; omega
          have := UInt8.lt_iff_toNat_lt.1 g2
          simp [Op.bytesLess, g1, g3]
          omega
        · have g3 : x = y := UInt8.toNat_inj.1 (by
            have e1 := mt UInt8.lt_iff_toNat_lt.2 g1
            have e2 := mt UInt8.lt_iff_toNat_lt.2 g2
            omega)
          subst g3
          simp [Op.bytesLess]
    rw [key] at h1 h2 ⊢
    rcases h1 with h1 | ⟨h1, h1'⟩ <;> rcases h2 with h2 | ⟨h2, h2'⟩
    · exact .inl (by omega)
    · exact .inl (by omega)
    · exact .inl (by omega)
    · exact .inr ⟨by omega, ih h1' h2'⟩
theorem less_tr {a b c : ByteArray} (h1 : less a b) (h2 : less b c) : less a c := less_trans _ _ _ h1 h2
theorem less_eq {a b c : ByteArray} (h1 : less a b) (h2 : b.toList = c.toList) : less a c := by unfold less at h1 ⊢; rw [← h2]; exact h1
end Go.Proofs.Ytefmkmhjbfpelaa.QL
namespace Go.Proofs.Ytefmkmhjbfpelaa.Ev0
section
variable {α : Type} {lt : α → α → Prop}
noncomputable def idxP (p : α → Prop) (l : List α) : Nat := l.findIdx (fun y => B (p y))
theorem idxP_le (p : α → Prop) (l : List α) : idxP p l ≤ l.length := List.findIdx_le_length
theorem idxP_no {p : α → Prop} {l : List α} {i : Nat} (h : i < idxP p l) : ¬ p (l[i]'(Nat.lt_of_lt_of_le h (idxP_le p l))) := by
  have := List.not_of_lt_findIdx (p := fun y => B (p y)) (xs := l) (i := i) h
  exact B_iff_false.1 this
theorem idxP_yes {p : α → Prop} {l : List α} (h : idxP p l < l.length) : p (l[idxP p l]) := by
  have := List.findIdx_getElem (p := fun y => B (p y)) (xs := l) (w := h)
  exact B_iff.1 this
theorem idxP_eq {p : α → Prop} {l : List α} {k : Nat} (h1 : k ≤ l.length) (h2 : ∀ i (h : i < l.length), i < k → ¬ p l[i]) (h3 : ∀ h : k < l.length, p l[k]) : idxP p l = k := by
  rcases Nat.lt_trichotomy (idxP p l) k with h | h | h
  · exact absurd (idxP_yes (by omega)) (h2 _ (by omega) h)
  · exact h
  · have hk : k < l.length := Nat.lt_of_lt_of_le h (idxP_le p l)
    exact absurd (h3 hk) (idxP_no h)
theorem idxP_congr {p q : α → Prop} {l : List α} (h : ∀ y ∈ l, (p y ↔ q y)) : idxP p l = idxP q l :=
  idxP_eq (idxP_le q l) (fun _ hi hk hp => idxP_no hk ((h _ (List.getElem_mem hi)).1 hp)) (fun hk => (h _ (List.getElem_mem hk)).2 (idxP_yes hk))
structure Ord (lt : α → α → Prop) : Prop where
  tr : ∀ {a b c}, lt a b → lt b c → lt a c
  asy : ∀ {a b}, lt a b → ¬ lt b a
noncomputable def insAt (lt : α → α → Prop) (l : List α) (x : α) : Nat := idxP (lt x) l
theorem ins_right (o : Ord lt) {l : List α} {x : α} (hl : l.Pairwise lt) : (l.take (insAt lt l x) ++ x :: l.drop (insAt lt l x)).Pairwise lt ↔ ∀ y ∈ l, lt x y ∨ lt y x := by
  have hk := idxP_le (lt x) l
  have hk0 : insAt lt l x = idxP (lt x) l := rfl
  constructor
  · intro h y hy
    rw [List.pairwise_append] at h
    obtain ⟨_, h2, h3⟩ := h
    rw [← List.take_append_drop (insAt lt l x) l] at hy
    rcases List.mem_append.1 hy with hy | hy
    · exact .inr (h3 y hy x List.mem_cons_self)
    · exact .inl ((List.pairwise_cons.1 h2).1 y hy)
  · intro h
    have hs : (l.take (insAt lt l x) ++ l.drop (insAt lt l x)).Pairwise lt := by rw [List.take_append_drop]; exact hl
    rw [List.pairwise_append] at hs ⊢
    obtain ⟨h1, h2, h3⟩ := hs
    have hgt : ∀ b ∈ l.drop (insAt lt l x), lt x b := by
      intro b hb
      obtain ⟨i, hi, rfl⟩ := List.mem_drop_iff_getElem.1 hb
      have hlt : idxP (lt x) l < l.length := by omega
      have h0 := idxP_yes hlt
      rcases Nat.eq_zero_or_pos i with e | e
      · subst e
        exact h0
      · exact o.tr h0 (List.pairwise_iff_getElem.1 hl _ _ hlt (by omega) (by omega))
    have hle : ∀ a ∈ l.take (insAt lt l x), lt a x := by
      intro a ha
      obtain ⟨i, hi, rfl⟩ := List.mem_take_iff_getElem.1 ha
      have hil : i < idxP (lt x) l := by omega
      exact (h _ (List.getElem_mem _)).resolve_left (idxP_no hil)
    refine ⟨h1, List.pairwise_cons.2 ⟨hgt, h2⟩, fun a ha b hb => ?_⟩
    rcases List.mem_cons.1 hb with rfl | hb
    · exact hle a ha
    · exact h3 a ha b hb
theorem ins_same (o : Ord lt) {l : List α} {x : α} (h : ∀ y ∈ l, lt x y ∨ lt y x) : idxP (fun y => ¬ lt y x) l = insAt lt l x :=
  idxP_congr fun y hy => ⟨fun hn => (h y hy).resolve_right hn, fun hx => o.asy hx⟩
theorem ins_is (o : Ord lt) {l : List α} {x : α} (hl : l.Pairwise lt) :
    (∃ h : idxP (fun y => ¬ lt y x) l < l.length, ¬ lt x (l[idxP (fun y => ¬ lt y x) l])) ↔ ¬ ∀ y ∈ l, lt x y ∨ lt y x := by
  constructor
  · rintro ⟨h, hn⟩ ha
    exact ((ha _ (List.getElem_mem h)).elim hn (idxP_yes h))
  · intro hn
    have hx : ∃ y, y ∈ l ∧ ¬ lt x y ∧ ¬ lt y x := Classical.byContradiction fun hc => hn fun y hy => Classical.byContradiction fun h2 => hc ⟨y, hy, fun h => h2 (.inl h), fun h => h2 (.inr h)⟩
    obtain ⟨y, hy, h1, h2⟩ := hx
    obtain ⟨i, hi, rfl⟩ := List.mem_iff_getElem.1 hy
    have hle : idxP (fun y => ¬ lt y x) l ≤ i := by
      rcases Nat.lt_or_ge i (idxP (fun y => ¬ lt y x) l) with h | h
      · exact absurd h2 (idxP_no h)
      · exact h
    refine ⟨by omega, fun hlt => ?_⟩
    rcases Nat.lt_or_ge (idxP (fun y => ¬ lt y x) l) i with h | h
    · have h3 := List.pairwise_iff_getElem.1 hl _ _ (by omega) hi h
      exact h1 (o.tr hlt h3)
    · have e : idxP (fun y => ¬ lt y x) l = i := by omega
      simp only [e] at hlt
      exact h1 hlt
theorem pair_of_next (o : Ord lt) {l : List α} (h : ∀ i (h : i + 1 < l.length), lt l[i] l[i + 1]) : l.Pairwise lt := by
  rw [List.pairwise_iff_getElem]
  intro i j hi hj hij
  obtain ⟨d, rfl⟩ : ∃ d, j = i + 1 + d := ⟨j - (i + 1), by omega⟩
  clear hij
  induction d with
  | zero => exact h i hj
  | succ d ih => exact o.tr (ih (by omega)) (h (i + 1 + d) hj)
end
end Go.Proofs.Ytefmkmhjbfpelaa.Ev0
namespace Go.Proofs.Ytefmkmhjbfpelaa.QL
open Go.RowKit Go.Proofs.Ytefmkmhjbfpelaa Go.Proofs.YtefmkmhjbfpelaaW.PrintWords Go.Proofs.Ytefmkmhjbfpelaa.Ev0
abbrev LX := S54
def llt (x y : LX) : Prop := lbefore x.f0 x.f1 x.f2 y.f0 y.f1 y.f2
theorem less_as {a b : ByteArray} (h : less a b) : ¬ less b a := by
  rcases cmpS_cases a b with ⟨_, h2, _⟩ | ⟨h1, _⟩ | ⟨h1, _⟩
  · exact h2
  · exact absurd h h1
  · exact absurd h h1
theorem less_ne {a b : ByteArray} (h : less a b) : ¬ a.toList = b.toList := by
  rcases cmpS_cases a b with ⟨_, _, h3, _⟩ | ⟨h1, _⟩ | ⟨h1, _⟩
  · exact h3
  · exact absurd h h1
  · exact absurd h h1
theorem eq_less {a b c : ByteArray} (h1 : a.toList = b.toList) (h2 : less b c) : less a c := by unfold less at h2 ⊢; rw [h1]; exact h2
theorem llt_ord : Ord llt where
  tr := by
    rintro a b c (h1 | ⟨h1, h2⟩) (g1 | ⟨g1, g2⟩)
    · exact .inl (less_tr h1 g1)
    · exact .inl (less_eq h1 g1)
    · exact .inl (eq_less h1 g1)
    · refine .inr ⟨h1.trans g1, ?_⟩
      rcases h2 with h2 | ⟨h2, h3⟩ <;> rcases g2 with g2 | ⟨g2, g3⟩
      · exact .inl (less_tr h2 g2)
      · exact .inl (less_eq h2 g2)
      · exact .inl (eq_less h2 g2)
      · exact .inr ⟨h2.trans g2, by omega⟩
  asy := by
    rintro a b (h1 | ⟨h1, h2⟩) (g1 | ⟨g1, g2⟩)
    · exact less_as h1 g1
    · exact less_ne h1 g1.symm
    · exact less_ne g1 h1.symm
    · rcases h2 with h2 | ⟨h2, h3⟩ <;> rcases g2 with g2 | ⟨g2, g3⟩
      · exact less_as h2 g2
      · exact less_ne h2 g2.symm
      · exact less_ne g2 h2.symm
      · omega
theorem lcmp_neg (a b : ByteArray) (n : Int) (a' b' : ByteArray) (n' : Int) : lcmp a b n a' b' n' < 0 ↔ lbefore a b n a' b' n' := by
  have := lcmp_iff a b n a' b' n'
  constructor
  · intro h
    exact Classical.byContradiction fun hn => absurd (this.2 hn) (by omega)
  · intro h
    by_cases g : lcmp a b n a' b' n' ≥ 0
    · exact absurd h (this.1 g)
    · omega
theorem lcmp_zero (a b : ByteArray) (n : Int) (a' b' : ByteArray) (n' : Int) : lcmp a b n a' b' n' = 0 ↔ ¬ lbefore a b n a' b' n' ∧ ¬ lbefore a' b' n' a b n := by
  unfold lcmp lbefore
  rcases cmpS_cases a a' with ⟨h1, h2, h3, h4⟩ | ⟨h1, h2, h3, h4⟩ | ⟨h1, h2, h3, h4⟩
  · simp [orL, h4, h1]
  · simp [orL, h4, h1, h2, h3]
  · rcases cmpS_cases b b' with ⟨g1, g2, g3, g4⟩ | ⟨g1, g2, g3, g4⟩ | ⟨g1, g2, g3, g4⟩
    · simp [orL, h4, h1, h2, h3, g4, g1]
    · simp [orL, h4, h1, h2, h3, g4, g1, g2, g3]
    · rcases cmpI_cases n n' with ⟨e1, e2⟩ | ⟨e1, e2⟩ | ⟨e1, e2⟩
      · simp [orL, h4, h1, h2, h3, g4, g1, g2, g3, e1, e2]
      · simp [orL, h4, h1, h2, h3, g4, g1, g2, g3, e2]; omega
      · subst e1
        simp [orL, h4, h1, h2, h3, g4, g1, g2, g3, e2]
theorem rdL_nat {l : List LX} {i : Nat} (h : i < l.length) : rd_T54 l (i : Int) = l[i] := by
  unfold rd_T54
  rw [Int.toNat_natCast, getD_at l _ _ h]
def lineX (x : LX) : Prop := lineB x.f0 x.f1 x.f2 x.f3 x.f4 x.f5 x.f6 x.f7 = true
theorem LinesP_iff (l : List LX) : LinesP l ↔ (l.length : Int) ≤ 200 ∧ (∀ x ∈ l, lineX x) ∧ l.Pairwise llt := by
  constructor
  · rintro ⟨h1, h2⟩
    refine ⟨h1, fun x hx => ?_, pair_of_next llt_ord fun i hi => ?_⟩
    · obtain ⟨i, hi, rfl⟩ := List.mem_iff_getElem.1 hx
      have := (h2 i (by omega) (by omega)).1
      rw [rdL_nat hi] at this
      exact this
    · have := (h2 ((i + 1 : Nat) : Int) (by omega) (by omega)).2 (by omega)
      rw [show (((i + 1 : Nat) : Int) - 1) = ((i : Nat) : Int) by omega, rdL_nat hi, rdL_nat (show i < l.length by omega)] at this
      exact this
  · rintro ⟨h1, h2, h3⟩
    refine ⟨h1, fun i h0 hi => ?_⟩
    obtain ⟨j, rfl⟩ : ∃ j : Nat, i = j := ⟨i.toNat, by omega⟩
    have hj : j < l.length := by omega
    refine ⟨?_, fun hp => ?_⟩
    · rw [rdL_nat hj]
      exact h2 _ (List.getElem_mem hj)
    · obtain ⟨m, rfl⟩ : ∃ m, j = m + 1 := ⟨j - 1, by omega⟩
      rw [show (((m + 1 : Nat) : Int) - 1) = ((m : Nat) : Int) by omega, rdL_nat hj, rdL_nat (show m < l.length by omega)]
      exact List.pairwise_iff_getElem.1 h3 _ _ _ _ (by omega)
noncomputable def insL (l : List LX) (x : LX) : List LX := l.take (insAt llt l x) ++ [x] ++ l.drop (insAt llt l x)
theorem insL_len (l : List LX) (x : LX) : (insL l x).length = l.length + 1 := by
  have := idxP_le (llt x) l
  have e : insAt llt l x = idxP (llt x) l := rfl
  unfold insL
  simp
  omega
theorem insL_mem (l : List LX) (x y : LX) : y ∈ insL l x ↔ y = x ∨ y ∈ l := by
  unfold insL
  rw [List.append_assoc, List.mem_append, List.mem_append, List.mem_singleton]
  constructor
  · rintro (h | h | h)
    · exact .inr (List.mem_of_mem_take h)
    · exact .inl h
    · exact .inr (List.mem_of_mem_drop h)
  · rintro (h | h)
    · exact .inr (.inl h)
    · rw [← List.take_append_drop (insAt llt l x) l, List.mem_append] at h
      exact h.imp id .inr
theorem insL_right {l : List LX} {x : LX} (hl : LinesP l) : LinesP (insL l x) ↔ lineX x ∧ (∀ y ∈ l, llt x y ∨ llt y x) ∧ (l.length : Int) < 200 := by
  obtain ⟨h1, h2, h3⟩ := (LinesP_iff l).1 hl
  have hp := ins_right llt_ord (x := x) h3
  have e : insL l x = l.take (insAt llt l x) ++ x :: l.drop (insAt llt l x) := by unfold insL; simp
  rw [LinesP_iff, insL_len]
  constructor
  · rintro ⟨g1, g2, g3⟩
    rw [e] at g3
    exact ⟨g2 x ((insL_mem l x x).2 (.inl rfl)), hp.1 g3, by omega⟩
  · rintro ⟨g1, g2, g3⟩
    refine ⟨by omega, fun y hy => ?_, ?_⟩
    · rcases (insL_mem l x y).1 hy with rfl | hy
      · exact g1
      · exact h2 y hy
    · rw [e]
      exact hp.2 g2
noncomputable def addL (l : List LX) (x : LX) : List LX := @ite _ (LinesP l ∧ LinesP (insL l x)) (Classical.propDecidable _) (insL l x) l
noncomputable def stL (l : List LX) (x : LX) (i : Int) : List LX × Bool := @ite _ (i.toNat ≤ insAt llt l x) (Classical.propDecidable _) (l.take i.toNat, false) (l.take (insAt llt l x) ++ [x] ++ (l.drop (insAt llt l x)).take (i.toNat - insAt llt l x), true)
theorem specAdd_l (l : List LX) (x : LX) (hn : (l.length : Int) ≤ 400) (hs : ∀ y ∈ l, okS y) (hx : okS x) : Evt (fun k => spec_LinesAdd.l0 k l l [] false 0 x.f0 x.f1 x.f2 x.f3 x.f4 x.f5 x.f6 x.f7) (@ite _ (LinesP (insL l x)) (Classical.propDecidable _) (insL l x) l) := by
  have hk : insAt llt l x ≤ l.length := idxP_le _ _
  have hso : ∀ y ∈ insL l x, okS y := fun y hy => ((insL_mem l x y).1 hy).elim (fun e => e ▸ hx) (hs y)
  have h := up_loop (l.length : Int) (fun k (s : List LX × Bool) i => spec_LinesAdd.l0 k l l s.1 s.2 i x.f0 x.f1 x.f2 x.f3 x.f4 x.f5 x.f6 x.f7) (stL l x) (fun _ => @ite _ (LinesP (insL l x)) (Classical.propDecidable _) (insL l x) l) ?_ ?_ 0 (Int.le_refl _) (by omega)
  · have e : stL l x 0 = ([], false) := by unfold stL; simp
    rw [e] at h
    exact h
  · intro i h0 hlt ih
    have hw : wrap64 (i + 1) = i + 1 := w64 (by omega) (by omega)
    obtain ⟨j, rfl⟩ : ∃ j : Nat, i = j := ⟨i.toNat, by omega⟩
    have hj : j < l.length := by omega
    have ej : ((j : Int) + 1).toNat = j + 1 := by omega
    simp only [spec_LinesAdd.l0, hw, rdL_nat hj, l09Before_ev, Option.bind_some]
    have tk : l.take j ++ [l[j]] = l.take (j + 1) := by rw [List.take_succ_eq_append_getElem hj]
    refine Evt.pos hlt ?_
    by_cases h1 : j ≤ insAt llt l x
    · have e : stL l x (j : Int) = (l.take j, false) := by unfold stL; rw [Int.toNat_natCast, if_pos h1]
      rw [e]
      refine Evt.neg (by simp) (Evt.pos h0 ?_)
      by_cases h2 : j = insAt llt l x
      · have hb : llt x l[j] := by
          have := idxP_yes (p := llt x) (l := l) (by have e2 : insAt llt l x = idxP (llt x) l := rfl; omega)
          have e2 : idxP (llt x) l = j := h2.symm
          simp only [e2] at this
          exact this
        have e3 : stL l x ((j : Int) + 1) = (l.take j ++ [x] ++ [l[j]], true) := by
          unfold stL
          rw [ej, if_neg (by omega), ← h2, show j + 1 - j = 1 by omega, List.drop_eq_getElem_cons hj, List.take_succ_cons, List.take_zero]
        rw [e3] at ih
        exact Evt.pos (B_true hb) (Evt.pos (by simp; omega) (Evt.pos (by simp; omega) ih))
      · have hb : ¬ llt x l[j] := idxP_no (p := llt x) (l := l) (by have e2 : insAt llt l x = idxP (llt x) l := rfl; omega)
        have e3 : stL l x ((j : Int) + 1) = (l.take (j + 1), false) := by unfold stL; rw [ej, if_pos (by omega)]
        rw [e3] at ih
        refine Evt.neg (fun hh => hb (B_iff.1 hh)) (Evt.pos (by simp; omega) ?_)
        dsimp only
        rw [show l.take j ++ [(⟨l[j].f0, l[j].f1, l[j].f2, l[j].f3, l[j].f4, l[j].f5, l[j].f6, l[j].f7⟩ : LX)] = l.take (j + 1) from tk]
        exact ih
    · have e : stL l x (j : Int) = (l.take (insAt llt l x) ++ [x] ++ (l.drop (insAt llt l x)).take (j - insAt llt l x), true) := by unfold stL; rw [Int.toNat_natCast, if_neg h1]
      have e3 : stL l x ((j : Int) + 1) = (l.take (insAt llt l x) ++ [x] ++ (l.drop (insAt llt l x)).take (j - insAt llt l x) ++ [l[j]], true) := by
        unfold stL
        rw [ej, if_neg (by omega), show j + 1 - insAt llt l x = (j - insAt llt l x) + 1 by omega, List.take_succ_eq_append_getElem (by rw [List.length_drop]; omega), List.getElem_drop]
        simp only [show insAt llt l x + (j - insAt llt l x) = j by omega, List.append_assoc]
      rw [e]
      rw [e3] at ih
      refine Evt.pos rfl (Evt.pos h0 (Evt.pos ?_ ih))
      simp
      omega
  · simp only [spec_LinesAdd.l0]
    refine Evt.neg (by omega) ?_
    have fin : Evt (fun k => (spec_LinesRight.f k (insL l x)).bind fun t => if t = true then some (insL l x) else some l) (@ite _ (LinesP (insL l x)) (Classical.propDecidable _) (insL l x) l) := by
      refine Evt.bind (specLines_ev _ hso) ?_
      by_cases hr : LinesP (insL l x)
      · rw [if_pos hr]
        exact Evt.pos (B_true hr) (Evt.pure _)
      · rw [if_neg hr]
        exact Evt.neg (fun hh => hr (B_iff.1 hh)) (Evt.pure _)
    by_cases h1 : l.length ≤ insAt llt l x
    · have e : stL l x (l.length : Int) = (l, false) := by unfold stL; rw [Int.toNat_natCast, if_pos h1, List.take_length]
      have e2 : insL l x = l ++ [x] := by unfold insL; rw [List.take_of_length_le h1, List.drop_of_length_le h1, List.append_nil]
      rw [e]
      rw [e2] at fin ⊢
      exact Evt.neg (by simp) (Evt.pos (by dsimp only; omega) fin)
    · have e : stL l x (l.length : Int) = (insL l x, true) := by
        have e5 : (l.drop (insAt llt l x)).take (l.length - insAt llt l x) = l.drop (insAt llt l x) := List.take_of_length_le (by rw [List.length_drop]; omega)
        unfold stL insL
        rw [Int.toNat_natCast, if_neg h1, e5]
      rw [e]
      exact Evt.pos rfl fin
theorem specAdd_ev (l : List LX) (x : LX) (hn : (l.length : Int) ≤ 400) (hs : ∀ y ∈ l, okS y) (hx : okS x) : Evt (fun k => spec_LinesAdd.f k l x.f0 x.f1 x.f2 x.f3 x.f4 x.f5 x.f6 x.f7) (addL l x) := by
  unfold spec_LinesAdd.f addL
  simp only [Option.bind_some, List.nil_append]
  refine Evt.neg (by omega) (Evt.pos (by simp; omega) (Evt.bind (specLines_ev l hs) ?_))
  by_cases h1 : LinesP l
  · refine Evt.pos (B_true h1) ((specAdd_l l x hn hs hx).same ?_)
    by_cases h2 : LinesP (insL l x)
    · rw [if_pos h2, if_pos ⟨h1, h2⟩]
    · rw [if_neg h2, if_neg (fun h => h2 h.2)]
  · rw [if_neg (fun h => h1 h.1)]
    exact Evt.neg (fun hh => h1 (B_iff.1 hh)) (Evt.pure _)
theorem findLine_ev (l : List LX) (x : LX) (hn : (l.length : Int) ≤ 400) : ∃ r : Int × Bool, Evt (fun k => impl_OrderLine_impl_lineOrder.f k l x.f0 x.f1 x.f2 x.f3 x.f4 x.f5 x.f6 x.f7) r ∧
    (l.Pairwise llt → r.1 = ((idxP (fun y => ¬ llt y x) l : Nat) : Int) ∧ (r.2 = true ↔ ∃ h : idxP (fun y => ¬ llt y x) l < l.length, ¬ llt x (l[idxP (fun y => ¬ llt y x) l]))) := by
  have hlo : ∀ (y : LX), Evt (fun k => impl_lineOrder.f k y.f0 y.f1 y.f2 y.f3 y.f4 y.f5 y.f6 y.f7 x.f0 x.f1 x.f2 x.f3 x.f4 x.f5 x.f6 x.f7) (lcmp y.f0 y.f1 y.f2 x.f0 x.f1 x.f2) := fun y => lineOrder_ev _ _ _ _ _ _ _ _ _ _ _ _ _ _ _ _
  have step : ∀ lo hi, 0 ≤ lo → lo < hi → hi ≤ (l.length : Int) → (llt (rd_T54 l ((lo + hi) / 2)) x → ∀ r, Evt (fun k => impl_OrderLine_impl_lineOrder.l0 k l (l.length : Int) ((lo + hi) / 2 + 1) hi x.f0 x.f1 x.f2 x.f3 x.f4 x.f5 x.f6 x.f7) r → Evt (fun k => impl_OrderLine_impl_lineOrder.l0 (k + 1) l (l.length : Int) lo hi x.f0 x.f1 x.f2 x.f3 x.f4 x.f5 x.f6 x.f7) r) ∧
      (¬ llt (rd_T54 l ((lo + hi) / 2)) x → ∀ r, Evt (fun k => impl_OrderLine_impl_lineOrder.l0 k l (l.length : Int) lo ((lo + hi) / 2) x.f0 x.f1 x.f2 x.f3 x.f4 x.f5 x.f6 x.f7) r → Evt (fun k => impl_OrderLine_impl_lineOrder.l0 (k + 1) l (l.length : Int) lo hi x.f0 x.f1 x.f2 x.f3 x.f4 x.f5 x.f6 x.f7) r) := by
    intro lo hi h0 hlt h2
    have hm := mid_eq lo hi h0 hlt (by omega)
    have hw : wrap64 ((lo + hi) / 2 + 1) = (lo + hi) / 2 + 1 := w64 (by omega) (by omega)
    simp only [impl_OrderLine_impl_lineOrder.l0, hm, hw]
    exact ⟨fun g r hr => Evt.pos hlt (Evt.pos (by omega) (Evt.pos (by omega) (Evt.bind (hlo _) (Evt.pos ((lcmp_neg _ _ _ _ _ _).2 g) hr)))), fun g r hr => Evt.pos hlt (Evt.pos (by omega) (Evt.pos (by omega) (Evt.bind (hlo _) (Evt.neg (fun hh => g ((lcmp_neg _ _ _ _ _ _).1 hh)) hr))))⟩
  have stop : ∀ lo, 0 ≤ lo → lo ≤ (l.length : Int) → Evt (fun k => impl_OrderLine_impl_lineOrder.l0 (k + 1) l (l.length : Int) lo lo x.f0 x.f1 x.f2 x.f3 x.f4 x.f5 x.f6 x.f7)
      (lo, (@ite _ (lo < (l.length : Int)) (Classical.propDecidable _) (lcmp (rd_T54 l lo).f0 (rd_T54 l lo).f1 (rd_T54 l lo).f2 x.f0 x.f1 x.f2 == 0) false)) := by
    intro lo h0 h1
    simp only [impl_OrderLine_impl_lineOrder.l0]
    refine Evt.neg (by omega) ?_
    by_cases g : lo < (l.length : Int)
    · rw [if_pos g]
      exact Evt.pos g (Evt.pos h0 (Evt.pos g (Evt.bind (hlo _) (Evt.pure _))))
    · rw [if_neg g]
      exact Evt.neg g (Evt.pure _)
  unfold impl_OrderLine_impl_lineOrder.f
  by_cases hs : l.Pairwise llt
  · obtain ⟨p, p0, p1, hp, q1, q2⟩ := bin_loop (l.length : Int) (by omega) (fun i => llt (rd_T54 l i) x) (fun k lo hi => impl_OrderLine_impl_lineOrder.l0 k l (l.length : Int) lo hi x.f0 x.f1 x.f2 x.f3 x.f4 x.f5 x.f6 x.f7) _ step stop (by
      intro i j h0 hij hj hn'
      by_cases g : i < j
      · obtain ⟨a, rfl⟩ : ∃ a : Nat, i = a := ⟨i.toNat, by omega⟩
        obtain ⟨b, rfl⟩ : ∃ b : Nat, j = b := ⟨j.toNat, by omega⟩
        have h3 := List.pairwise_iff_getElem.1 hs a b (by omega) (by omega) (by omega)
        rw [rdL_nat (show b < l.length by omega)] at hn'
        rw [rdL_nat (show a < l.length by omega)]
        exact llt_ord.tr h3 hn'
      · have e : i = j := by omega
        rw [e]; exact hn')
    refine ⟨_, hp, fun _ => ?_⟩
    obtain ⟨a, rfl⟩ : ∃ a : Nat, p = a := ⟨p.toNat, by omega⟩
    have ei : idxP (fun y => ¬ llt y x) l = a := idxP_eq (by omega) (fun i hi hia hnn => hnn (by
      have := q1 (i : Int) (by omega) (by omega)
      rw [rdL_nat hi] at this
      exact this)) (fun hi => by
      have := q2 (a : Int) (Int.le_refl _) (by omega)
      rw [rdL_nat hi] at this
      exact this)
    refine ⟨by rw [ei], ?_⟩
    by_cases g : (a : Int) < (l.length : Int)
    · have ga : a < l.length := by omega
      rw [if_pos g, rdL_nat ga]
      have hq := q2 (a : Int) (Int.le_refl _) g
      rw [rdL_nat ga] at hq
      constructor
      · intro hb
        have hz : lcmp l[a].f0 l[a].f1 l[a].f2 x.f0 x.f1 x.f2 = 0 := by simpa using hb
        exact ⟨by omega, by simp only [ei]; exact ((lcmp_zero _ _ _ _ _ _).1 hz).2⟩
      · rintro ⟨h1, h2⟩
        simp only [ei] at h2
        have hz : lcmp l[a].f0 l[a].f1 l[a].f2 x.f0 x.f1 x.f2 = 0 := (lcmp_zero _ _ _ _ _ _).2 ⟨hq, h2⟩
        simpa using hz
    · rw [if_neg g]
      constructor
      · intro hb; cases hb
      · rintro ⟨h1, _⟩
        omega
  · obtain ⟨p, p0, p1, hp⟩ := bin_some (l.length : Int) (by omega) (fun i => llt (rd_T54 l i) x) (fun k lo hi => impl_OrderLine_impl_lineOrder.l0 k l (l.length : Int) lo hi x.f0 x.f1 x.f2 x.f3 x.f4 x.f5 x.f6 x.f7) _ step stop
    exact ⟨_, hp, fun h => absurd h hs⟩
theorem implAdd_ev (l : List LX) (x : LX) (hn : (l.length : Int) ≤ 400) (hs : ∀ y ∈ l, okS y) (hx : okS x) : Evt (fun k => impl_LinesAdd.f k l x.f0 x.f1 x.f2 x.f3 x.f4 x.f5 x.f6 x.f7) (addL l x) := by
  obtain ⟨r, hr, hri⟩ := findLine_ev l x hn
  have hj : ∀ at_, Evt (fun k => impl_LinesAdd.j0 k l at_ true x.f0 x.f1 x.f2 x.f3 x.f4 x.f5 x.f6 x.f7) l := fun at_ => by
    apply Evt.succ
    simp only [impl_LinesAdd.j0, slices_Clone_implOrderLine.f]
    refine Evt.pos trivial (Evt.bind (Evt.const (if_pos (by omega))) (Evt.pure _))
  unfold impl_LinesAdd.f impl_OrderLine_95.f addL
  simp only [Option.bind_some]
  refine Evt.neg (by simp; omega) (Evt.bind hr (Evt.bind (implLines_ev l hs) ?_))
  by_cases h1 : LinesP l
  · refine Evt.pos (B_true h1) (Evt.bind (implLine_ev _ _ _ _ _ _ _ _ hx.1 hx.2.1 hx.2.2) ?_)
    obtain ⟨g1, g2, g3⟩ := (LinesP_iff l).1 h1
    obtain ⟨e1, e2⟩ := hri g3
    by_cases h2 : lineX x
    · refine Evt.pos h2 ?_
      by_cases h3 : ∀ y ∈ l, llt x y ∨ llt y x
      · have e3 : r.2 = false := by
          rw [← Bool.not_eq_true]
          exact fun hb => (ins_is llt_ord g3).1 (e2.1 hb) h3
        refine Evt.neg (by rw [e3]; decide) ?_
        by_cases h4 : (l.length : Int) = 200
        · rw [if_neg (fun h => by have := ((insL_right h1).1 h.2).2.2; omega), show ((l.length : Int) == 200) = true by simp [h4]]
          exact hj _
        · rw [if_pos ⟨h1, (insL_right h1).2 ⟨h2, h3, by omega⟩⟩, show ((l.length : Int) == 200) = false by simp [h4]]
          have e4 : r.1 = ((insAt llt l x : Nat) : Int) := by rw [e1, ins_same llt_ord h3]
          have hk : insAt llt l x ≤ l.length := idxP_le _ _
          apply Evt.succ
          simp only [impl_LinesAdd.j0, slices_Clone_implOrderLine.f, slices_Insert_implOrderLine.f, e4]
          refine Evt.neg (by simp) (Evt.bind (Evt.const (if_pos (by omega))) (Evt.bind (Evt.pos (by omega) (Evt.pos (by omega) (Evt.pos rfl (Evt.pos (by omega) (Evt.pure _))))) ?_))
          rw [Int.toNat_natCast]
          exact Evt.pure _
      · have e3 : r.2 = true := e2.2 ((ins_is llt_ord g3).2 h3)
        rw [if_neg (fun h => h3 ((insL_right h1).1 h.2).2.1)]
        exact Evt.pos e3 (hj _)
    · rw [if_neg (fun h => h2 ((insL_right h1).1 h.2).1)]
      exact Evt.neg h2 (hj _)
  · rw [if_neg (fun h => h1 h.1)]
    exact Evt.neg (fun hh => h1 (B_iff.1 hh)) (hj _)
end Go.Proofs.Ytefmkmhjbfpelaa.QL
namespace Go.Proofs.Ytefmkmhjbfpelaa.QL
open Go.RowKit Go.Proofs.YtefmkmhjbfpelaaW.PrintWords Go.Proofs.Ytefmkmhjbfpelaa.Ev0
theorem one_size (v : Int) : (strOfNums [v]).size = 1 := rfl
theorem markText_l (d : Nat) : ∀ (a : Int) (x : ByteArray), 0 ≤ a → a < 10 ^ d → a ≤ 9223372036854775807 → (x.size : Int) + d ≤ 1000000000000000000 → ∃ r, Evt (fun k => laws_markText.l0 k a x) r := by
  induction d with
  | zero =>
    intro a x h0 h1 ha hx
    obtain rfl : a = 0 := by have : (10 : Int) ^ 0 = 1 := rfl; omega
    refine ⟨(⟨#[109]⟩ : ByteArray) ++ x, Evt.succ ?_⟩
    simp only [laws_markText.l0]
    exact Evt.neg (by omega) (Evt.pos (by omega) (Evt.pure _))
  | succ d ih =>
    intro a x h0 h1 ha hx
    by_cases h : a > 0
    · have e : a.tdiv 10 = a / 10 := Int.tdiv_eq_ediv_of_nonneg h0
      have hp : (10 : Int) ^ (d + 1) = 10 ^ d * 10 := Int.pow_succ ..
      have hw : wrap64 (a.tdiv 10) = a / 10 := by rw [e]; exact w64 (by omega) (by omega)
      obtain ⟨r, hr⟩ := ih (a / 10) (strOfNums [(wrap64 (48 + (Int.tmod a 10))) % 256] ++ x) (by omega) (by omega) (by omega) (by rw [ByteArray.size_append, one_size]; omega)
      refine ⟨r, Evt.succ ?_⟩
      simp only [laws_markText.l0, Option.bind_some, hw, one_size]
      exact Evt.pos h (Evt.pos (by omega) hr)
    · obtain rfl : a = 0 := by omega
      refine ⟨(⟨#[109]⟩ : ByteArray) ++ x, Evt.succ ?_⟩
      simp only [laws_markText.l0]
      exact Evt.neg (by omega) (Evt.pos (by omega) (Evt.pure _))
theorem markText_ex (a : Int) (ha : a ≤ 9223372036854775807) : ∃ r, Evt (fun k => laws_markText.f k a) r := by
  unfold laws_markText.f
  by_cases h : a ≤ 0
  · exact ⟨_, Evt.pos h (Evt.pure _)⟩
  · obtain ⟨r, hr⟩ := markText_l 19 a ⟨#[]⟩ (by omega) (by omega) ha (by decide)
    exact ⟨r, Evt.neg h hr⟩
noncomputable def mt (a : Int) : ByteArray := @dite _ (∃ r, Evt (fun k => laws_markText.f k a) r) (Classical.propDecidable _) (fun h => Classical.choose h) (fun _ => ⟨#[]⟩)
theorem mt_ev (a : Int) (ha : a ≤ 9223372036854775807) : Evt (fun k => laws_markText.f k a) (mt a) := by
  unfold mt
  rw [dif_pos (markText_ex a ha)]
  exact Classical.choose_spec (markText_ex a ha)
theorem lin (c m i : Int) : c + m * i + m = c + m * (i + 1) := by rw [Int.mul_add, Int.mul_one, Int.add_assoc]
theorem mark_loop {α : Type} (n : Nat) (l : List α) (hl : l.length = n) (m c : Int) (g : Int → α) (F : Nat → List α → Int → Int → Option (Int × List α))
    (step : ∀ acc i, 0 ≤ i → i < (n : Int) → acc.length = n → ∀ r, Evt (fun k => F k (acc.set i.toNat (g (c + m * i))) (c + m * i + m) (i + 1)) r → Evt (fun k => F (k + 1) acc (c + m * i) i) r)
    (stop : ∀ acc s, acc.length = n → Evt (fun k => F (k + 1) acc s (n : Int)) (s, acc)) :
    Evt (fun k => F k l c 0) (c + m * n, (List.range n).map fun (j : Nat) => g (c + m * (j : Int))) := by
  have h := up_loop (n : Int) (fun k (s : List α × Int) i => F k s.1 s.2 i) (fun i => ((List.range i.toNat).map (fun (j : Nat) => g (c + m * (j : Int))) ++ l.drop i.toNat, c + m * i)) (fun _ => (c + m * (n : Int), (List.range n).map fun (j : Nat) => g (c + m * (j : Int)))) ?_ ?_ 0 (Int.le_refl _) (by omega)
  · simpa using h
  · intro i h0 hlt ih
    have hi : i.toNat < l.length := by omega
    refine step _ i h0 hlt (by simp; omega) _ ?_
    have e : ((List.range i.toNat).map (fun (j : Nat) => g (c + m * (j : Int))) ++ l.drop i.toNat).set i.toNat (g (c + m * i)) = (List.range (i + 1).toNat).map (fun (j : Nat) => g (c + m * (j : Int))) ++ l.drop (i + 1).toNat := by
      rw [List.set_append_right _ _ (by simp), List.length_map, List.length_range, Nat.sub_self, List.drop_eq_getElem_cons hi, List.set_cons_zero, show (i + 1).toNat = i.toNat + 1 by omega]
      rw [List.range_succ, List.map_append, List.append_assoc]
      congr 1
      rw [List.map_singleton, List.singleton_append, show ((i.toNat : Nat) : Int) = i by omega]
    rw [e, lin]
    exact ih
  · refine (stop _ _ (by simp; omega)).same ?_
    have : l.drop n = [] := by rw [← hl]; exact List.drop_length
    simp [this]
theorem at_map {α : Type} (n : Nat) (g : Nat → α) (z : α) (i : Int) (h0 : 0 ≤ i) (h : i < (n : Int)) : ((List.range n).map g).getD i.toNat z = g i.toNat := by
  rw [getD_at _ _ _ (by simp; omega)]
  simp
theorem held_loop (n : Nat) (m c : Int) (F : Nat → Int → Int → Option Int)
    (step : ∀ i, 0 ≤ i → i < (n : Int) → ∀ r, Evt (fun k => F k (c + m * i + m) (i + 1)) r → Evt (fun k => F (k + 1) (c + m * i) i) r)
    (stop : ∀ s, Evt (fun k => F (k + 1) s (n : Int)) s) : Evt (fun k => F k c 0) (c + m * n) := by
  have h := up_loop (n : Int) (fun k (s : Int) i => F k s i) (fun i => c + m * i) (fun _ => c + m * (n : Int)) ?_ ?_ 0 (Int.le_refl _) (by omega)
  · simpa using h
  · intro i h0 hlt ih
    refine step i h0 hlt _ ?_
    rw [lin]
    exact ih
  · exact stop _
end Go.Proofs.Ytefmkmhjbfpelaa.QL

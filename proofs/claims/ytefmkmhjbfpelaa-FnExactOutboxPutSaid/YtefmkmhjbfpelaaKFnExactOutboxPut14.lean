-- Merged by a program of this session (wip/tool/pack.py) out of its own texts for this claim.
import Derived.Test.YtefmkmhjbfpelaaKFnExactOutboxPut0
import Derived.Test.YtefmkmhjbfpelaaKFnExactOutboxPut1
import Derived.Test.YtefmkmhjbfpelaaKFnExactOutboxPut2
import Derived.Test.YtefmkmhjbfpelaaKFnExactOutboxPut13
namespace Go.Proofs.Ytefmkmhjbfpelaa.QO
open Go.RowKit Go.Proofs.Ytefmkmhjbfpelaa Go.Proofs.YtefmkmhjbfpelaaW.PrintWords Go.Proofs.Ytefmkmhjbfpelaa.Ev0
abbrev OR := List UX × List S105 × List UX × Int
noncomputable def insO (l : List UX) (x : UX) : List UX := l.take (insAt olt l x) ++ [x] ++ l.drop (insAt olt l x)
theorem insO_len (l : List UX) (x : UX) : (insO l x).length = l.length + 1 := by
  have := idxP_le (olt x) l
  have e : insAt olt l x = idxP (olt x) l := rfl
  unfold insO
  simp
  omega
noncomputable def endO (l : List UX) (x : UX) (i : Int) : OR := @ite _ (∃ j : Nat, i ≤ j ∧ ∃ h : j < l.length, sameO l[j] x) (Classical.propDecidable _) ([], [], [], 11) (if (l.length : Int) ≥ 60 then ([], [], [], 12) else (insO l x, [], [], 0))
noncomputable def putR (l : List UX) (x : UX) : OR := if (l.length : Int) > 400 then ([], [], [], 2) else @ite _ (OutboxP l ∧ outX x) (Classical.propDecidable _) (endO l x 0) ([], [], [], 1)
noncomputable def stO (l : List UX) (x : UX) (i : Int) : List UX × Bool := @ite _ (i.toNat ≤ insAt olt l x) (Classical.propDecidable _) (l.take i.toNat, false) (l.take (insAt olt l x) ++ [x] ++ (l.drop (insAt olt l x)).take (i.toNat - insAt olt l x), true)
theorem specPut_l (l : List UX) (x : UX) (hn : (l.length : Int) ≤ 400) : Evt (fun k => spec_OutboxPut.l0 k l [] false 0 x.f0 x.f1 x.f2 x.f3 x.f4) (endO l x 0) := by
  have hk : insAt olt l x ≤ l.length := idxP_le _ _
  have h := up_loop (l.length : Int) (fun k (s : List UX × Bool) i => spec_OutboxPut.l0 k l s.1 s.2 i x.f0 x.f1 x.f2 x.f3 x.f4) (stO l x) (endO l x) ?_ ?_ 0 (Int.le_refl _) (by omega)
  · have e : stO l x 0 = ([], false) := by unfold stO; simp
    rw [e] at h
    exact h
  · intro i h0 hlt ih
    have hw : wrap64 (i + 1) = i + 1 := w64 (by omega) (by omega)
    obtain ⟨j, rfl⟩ : ∃ j : Nat, i = j := ⟨i.toNat, by omega⟩
    have hj : j < l.length := by omega
    have ej : ((j : Int) + 1).toNat = j + 1 := by omega
    have tk : l.take j ++ [l[j]] = l.take (j + 1) := by rw [List.take_succ_eq_append_getElem hj]
    have hjoin : Evt (fun k => spec_OutboxPut.j2 k l (stO l x j).1 (stO l x j).2 (j : Int) (B (sameO l[j] x)) x.f0 x.f1 x.f2 x.f3 x.f4) (endO l x j) := by
      apply Evt.succ
      simp only [spec_OutboxPut.j2, hw, rdU_nat hj, l12Before_ev, Option.bind_some, spec_l12Wrong.f]
      by_cases hsm : sameO l[j] x
      · refine Evt.pos (B_true hsm) ((Evt.pure _).same ?_)
        unfold endO
        rw [if_pos ⟨j, by omega, hj, hsm⟩]
      · have ee : endO l x (j : Int) = endO l x ((j : Int) + 1) := by
          unfold endO
          have : (∃ m : Nat, (j : Int) ≤ m ∧ ∃ h : m < l.length, sameO l[m] x) ↔ (∃ m : Nat, (j : Int) + 1 ≤ m ∧ ∃ h : m < l.length, sameO l[m] x) := by
            constructor
            · rintro ⟨m, h1, h2, h3⟩
              by_cases e : m = j
              · subst e
                exact absurd h3 hsm
              · exact ⟨m, by omega, h2, h3⟩
            · rintro ⟨m, h1, h2, h3⟩
              exact ⟨m, by omega, h2, h3⟩
          rw [propext this]
        rw [ee]
        refine Evt.neg (fun hh => hsm (B_iff.1 hh)) ?_
        by_cases h1 : j ≤ insAt olt l x
        · have e : stO l x (j : Int) = (l.take j, false) := by unfold stO; rw [Int.toNat_natCast, if_pos h1]
          rw [e]
          refine Evt.neg (by simp) (Evt.pos h0 (Evt.pos hlt ?_))
          by_cases h2 : j = insAt olt l x
          · have hb : olt x l[j] := by
              have := idxP_yes (p := olt x) (l := l) (by have e2 : insAt olt l x = idxP (olt x) l := rfl; omega)
              have e2 : idxP (olt x) l = j := h2.symm
              simp only [e2] at this
              exact this
            have e3 : stO l x ((j : Int) + 1) = (l.take j ++ [x] ++ [l[j]], true) := by
              unfold stO
              rw [ej, if_neg (by omega), ← h2, show j + 1 - j = 1 by omega, List.drop_eq_getElem_cons hj, List.take_succ_cons, List.take_zero]
            rw [e3] at ih
            exact Evt.pos (B_true hb) (Evt.pos (by simp; omega) (Evt.pos (by simp; omega) ih))
          · have hb : ¬ olt x l[j] := idxP_no (p := olt x) (l := l) (by have e2 : insAt olt l x = idxP (olt x) l := rfl; omega)
            have e3 : stO l x ((j : Int) + 1) = (l.take (j + 1), false) := by unfold stO; rw [ej, if_pos (by omega)]
            rw [e3] at ih
            refine Evt.neg (fun hh => hb (B_iff.1 hh)) (Evt.pos (by simp; omega) ?_)
            dsimp only
            rw [show l.take j ++ [(⟨l[j].f0, l[j].f1, l[j].f2, l[j].f3, l[j].f4⟩ : UX)] = l.take (j + 1) from tk]
            exact ih
        · have e : stO l x (j : Int) = (l.take (insAt olt l x) ++ [x] ++ (l.drop (insAt olt l x)).take (j - insAt olt l x), true) := by unfold stO; rw [Int.toNat_natCast, if_neg h1]
          have e3 : stO l x ((j : Int) + 1) = (l.take (insAt olt l x) ++ [x] ++ (l.drop (insAt olt l x)).take (j - insAt olt l x) ++ [l[j]], true) := by
            unfold stO
            rw [ej, if_neg (by omega), show j + 1 - insAt olt l x = (j - insAt olt l x) + 1 by omega, List.take_succ_eq_append_getElem (by rw [List.length_drop]; omega), List.getElem_drop]
            simp only [show insAt olt l x + (j - insAt olt l x) = j by omega, List.append_assoc]
          rw [e]
          rw [e3] at ih
          refine Evt.pos rfl (Evt.pos h0 (Evt.pos hlt (Evt.pos ?_ ih)))
          simp
          omega
    simp only [spec_OutboxPut.l0, rdU_nat hj]
    refine Evt.pos hlt (Evt.pos h0 (Evt.ite (fun g => ?_) (fun g => ?_)))
    · have e : (l[j].f1 == x.f1) = B (sameO l[j] x) := bool_B ⟨fun h => ⟨g, by simpa using h⟩, fun h => by simpa using h.2⟩
      rw [e]
      exact hjoin
    · have e : false = B (sameO l[j] x) := (B_false (fun h => g h.1)).symm
      rw [e]
      exact hjoin
  · simp only [spec_OutboxPut.l0, spec_l12Wrong.f, Option.bind_some]
    refine Evt.neg (by omega) ?_
    have e0 : endO l x (l.length : Int) = if (l.length : Int) ≥ 60 then ([], [], [], 12) else (insO l x, [], [], 0) := by
      unfold endO
      rw [if_neg]
      rintro ⟨j, h1, h2, _⟩
      omega
    rw [e0]
    have fin : Evt (fun (_ : Nat) => if ((insO l x).length : Int) > 60 then (some (([], [], [], 12) : OR)) else some ((insO l x, [], [], 0) : OR)) (if (l.length : Int) ≥ 60 then ([], [], [], 12) else (insO l x, [], [], 0)) := by
      rw [insO_len]
      by_cases hr : (l.length : Int) ≥ 60
      · rw [if_pos hr]
        exact Evt.pos (by omega) (Evt.pure _)
      · rw [if_neg hr]
        exact Evt.neg (by omega) (Evt.pure _)
    by_cases h1 : l.length ≤ insAt olt l x
    · have e : stO l x (l.length : Int) = (l, false) := by unfold stO; rw [Int.toNat_natCast, if_pos h1, List.take_length]
      have e2 : insO l x = l ++ [x] := by unfold insO; rw [List.take_of_length_le h1, List.drop_of_length_le h1, List.append_nil]
      rw [e]
      rw [e2] at fin ⊢
      exact Evt.neg (by simp) (Evt.pos (by dsimp only; omega) fin)
    · have e : stO l x (l.length : Int) = (insO l x, true) := by
        have e5 : (l.drop (insAt olt l x)).take (l.length - insAt olt l x) = l.drop (insAt olt l x) := List.take_of_length_le (by rw [List.length_drop]; omega)
        unfold stO insO
        rw [Int.toNat_natCast, if_neg h1, e5]
      rw [e]
      exact Evt.pos rfl fin
theorem specPut_ev (l : List UX) (x : UX) (hs : ∀ y ∈ l, okO y) (hx : okO x) : Evt (fun k => spec_OutboxPut.f k l x.f0 x.f1 x.f2 x.f3 x.f4) (putR l x) := by
  unfold spec_OutboxPut.f putR
  simp only [spec_l12Wrong.f, Option.bind_some]
  by_cases hn : (l.length : Int) > 400
  · rw [if_pos hn]
    exact Evt.pos hn (Evt.pure _)
  · rw [if_neg hn]
    refine Evt.neg hn (Evt.bind (specOutbox_ev l hs) ?_)
    have bad : ¬ (OutboxP l ∧ outX x) → Evt (fun k => spec_OutboxPut.j0 k l true x.f0 x.f1 x.f2 x.f3 x.f4) (@ite _ (OutboxP l ∧ outX x) (Classical.propDecidable _) (endO l x 0) ([], [], [], 1)) := fun h => by
      rw [if_neg h]
      apply Evt.succ
      simp only [spec_OutboxPut.j0, if_true, spec_l12Wrong.f, Option.bind_some]
      exact Evt.pure _
    by_cases h1 : OutboxP l
    · refine Evt.pos (B_true h1) (Evt.bind (specOut_ev _ _ _ _ _ hx) ?_)
      by_cases h2 : outX x
      · rw [if_pos ⟨h1, h2⟩, show outB x.f0 x.f1 x.f2 x.f3 x.f4 = true from h2]
        apply Evt.succ
        simp only [spec_OutboxPut.j0, Bool.not_true, Bool.false_eq_true, if_false]
        exact specPut_l l x (by omega)
      · rw [show outB x.f0 x.f1 x.f2 x.f3 x.f4 = false by simpa [outX] using h2]
        exact bad (fun h => h2 h.2)
    · exact Evt.neg (fun hh => h1 (B_iff.1 hh)) (bad (fun h => h1 h.1))
theorem implPut_ev (l : List UX) (x : UX) (hs : ∀ y ∈ l, okO y) (hx : okO x) : Evt (fun k => impl_OutboxPut.f k l x.f0 x.f1 x.f2 x.f3 x.f4) (putR l x) := by
  unfold impl_OutboxPut.f putR
  refine Evt.bind (outCode_ev l hs) ?_
  by_cases hn : (l.length : Int) > 400
  · rw [if_pos hn, if_pos hn]
    exact Evt.neg (by decide) (Evt.pure _)
  · rw [if_neg hn, if_neg hn]
    by_cases h1 : OutboxP l
    · rw [if_pos (show outboxB l = true from B_true h1)]
      obtain ⟨g1, g2, g3⟩ := (OutboxP_iff l).1 h1
      obtain ⟨r, hr, e1, e2⟩ := findOut_ev l x (by omega) g3
      refine Evt.pos rfl (Evt.bind hr (Evt.bind (isOut_ev _ _ _ _ _ hx) ?_))
      by_cases h2 : outX x
      · rw [if_pos (show OutboxP l ∧ outX x from ⟨h1, h2⟩)]
        refine Evt.pos h2 ?_
        unfold endO
        have hd : (∃ j : Nat, (0 : Int) ≤ j ∧ ∃ h : j < l.length, sameO l[j] x) ↔ ¬ ∀ y ∈ l, olt x y ∨ olt y x := by
          constructor
          · rintro ⟨j, _, h3, h4⟩ ha
            exact (sameO_iff _ _).1 h4 (ha _ (List.getElem_mem h3))
          · intro hn'
            refine Classical.byContradiction fun hc => hn' fun y hy => Classical.byContradiction fun h5 => ?_
            obtain ⟨i, hi, rfl⟩ := List.mem_iff_getElem.1 hy
            exact hc ⟨i, by omega, hi, (sameO_iff _ _).2 h5⟩
        by_cases h3 : ∀ y ∈ l, olt x y ∨ olt y x
        · have e3 : r.2 = false := by
            rw [← Bool.not_eq_true]
            exact fun hb => (ins_is olt_ord g3).1 (e2.1 hb) h3
          rw [if_neg (fun h => hd.1 h h3)]
          refine Evt.neg (by rw [e3]; decide) ?_
          by_cases h4 : (l.length : Int) = 60
          · rw [if_pos (show (l.length : Int) ≥ 60 by omega)]
            exact Evt.pos h4 (Evt.pure _)
          · rw [if_neg (show ¬ (l.length : Int) ≥ 60 by omega)]
            have e4 : r.1 = ((insAt olt l x : Nat) : Int) := by rw [e1, ins_same olt_ord h3]
            have hk : insAt olt l x ≤ l.length := idxP_le _ _
            simp only [slices_Clone_implOut.f, slices_Insert_implOut.f, e4]
            refine Evt.neg h4 (Evt.bind (Evt.const (if_pos (by omega))) (Evt.bind (Evt.pos (by omega) (Evt.pos (by omega) (Evt.pos rfl (Evt.pos (by omega) (Evt.pure _))))) ?_))
            rw [Int.toNat_natCast]
            exact Evt.pure _
        · have e3 : r.2 = true := e2.2 ((ins_is olt_ord g3).2 h3)
          rw [if_pos (hd.2 h3)]
          exact Evt.pos e3 (Evt.pure _)
      · rw [if_neg (show ¬ (OutboxP l ∧ outX x) from fun h => h2 h.2)]
        exact Evt.neg h2 (Evt.pure _)
    · rw [if_neg (show ¬ outboxB l = true from fun hh => h1 (B_iff.1 hh)), if_neg (fun h => h1 h.1)]
      exact Evt.neg (by decide) (Evt.pure _)
end Go.Proofs.Ytefmkmhjbfpelaa.QO
namespace Go.Proofs.Ytefmkmhjbfpelaa.QO
open Go.RowKit Go.Proofs.YtefmkmhjbfpelaaW.PrintWords Go.Proofs.Ytefmkmhjbfpelaa.Ev0
theorem one_size (v : Int) : (strOfNums [v]).size = 1 := rfl
theorem markText_l (d : Nat) : ∀ (a : Int) (x : ByteArray), 0 ≤ a → a < 10 ^ d → a ≤ 9223372036854775807 → (x.size : Int) + d ≤ 1000000000000000000 → ∃ r, Evt (fun k => laws_markText.l0 k a x) r := by
  induction d with
  | zero =>
    intro a x h0 h1 ha hx
    obtain rfl : a = 0 := by have : (10 : Int) ^ 0 = 1 := rfl; omega
    refine ⟨(⟨#[109]⟩ : ByteArray) ++ x, Evt.succ ?_⟩
    simp only [laws_markText.l0]
    exact Evt.neg (by omega) (Evt.pos (by omega) (Evt.pure _))
  | succ d ih =>
    intro a x h0 h1 ha hx
    by_cases h : a > 0
    · have e : a.tdiv 10 = a / 10 := Int.tdiv_eq_ediv_of_nonneg h0
      have hp : (10 : Int) ^ (d + 1) = 10 ^ d * 10 := Int.pow_succ ..
      have hw : wrap64 (a.tdiv 10) = a / 10 := by rw [e]; exact w64 (by omega) (by omega)
      obtain ⟨r, hr⟩ := ih (a / 10) (strOfNums [(wrap64 (48 + (Int.tmod a 10))) % 256] ++ x) (by omega) (by omega) (by omega) (by rw [ByteArray.size_append, one_size]; omega)
      refine ⟨r, Evt.succ ?_⟩
      simp only [laws_markText.l0, Option.bind_some, hw, one_size]
      exact Evt.pos h (Evt.pos (by omega) hr)
    · obtain rfl : a = 0 := by omega
      refine ⟨(⟨#[109]⟩ : ByteArray) ++ x, Evt.succ ?_⟩
      simp only [laws_markText.l0]
      exact Evt.neg (by omega) (Evt.pos (by omega) (Evt.pure _))
theorem markText_ex (a : Int) (ha : a ≤ 9223372036854775807) : ∃ r, Evt (fun k => laws_markText.f k a) r := by
  unfold laws_markText.f
  by_cases h : a ≤ 0
  · exact ⟨_, Evt.pos h (Evt.pure _)⟩
  · obtain ⟨r, hr⟩ := markText_l 19 a ⟨#[]⟩ (by omega) (by omega) ha (by decide)
    exact ⟨r, Evt.neg h hr⟩
noncomputable def mt (a : Int) : ByteArray := @dite _ (∃ r, Evt (fun k => laws_markText.f k a) r) (Classical.propDecidable _) (fun h => Classical.choose h) (fun _ => ⟨#[]⟩)
theorem mt_ev (a : Int) (ha : a ≤ 9223372036854775807) : Evt (fun k => laws_markText.f k a) (mt a) := by
  unfold mt
  rw [dif_pos (markText_ex a ha)]
  exact Classical.choose_spec (markText_ex a ha)
theorem lin (c m i : Int) : c + m * i + m = c + m * (i + 1) := by rw [Int.mul_add, Int.mul_one, Int.add_assoc]
theorem mark_loop {α : Type} (n : Nat) (l : List α) (hl : l.length = n) (m c : Int) (g : Int → α) (F : Nat → List α → Int → Int → Option (Int × List α))
    (step : ∀ acc i, 0 ≤ i → i < (n : Int) → acc.length = n → ∀ r, Evt (fun k => F k (acc.set i.toNat (g (c + m * i))) (c + m * i + m) (i + 1)) r → Evt (fun k => F (k + 1) acc (c + m * i) i) r)
    (stop : ∀ acc s, acc.length = n → Evt (fun k => F (k + 1) acc s (n : Int)) (s, acc)) :
    Evt (fun k => F k l c 0) (c + m * n, (List.range n).map fun (j : Nat) => g (c + m * (j : Int))) := by
  have h := up_loop (n : Int) (fun k (s : List α × Int) i => F k s.1 s.2 i) (fun i => ((List.range i.toNat).map (fun (j : Nat) => g (c + m * (j : Int))) ++ l.drop i.toNat, c + m * i)) (fun _ => (c + m * (n : Int), (List.range n).map fun (j : Nat) => g (c + m * (j : Int)))) ?_ ?_ 0 (Int.le_refl _) (by omega)
  · simpa using h
  · intro i h0 hlt ih
    have hi : i.toNat < l.length := by omega
    refine step _ i h0 hlt (by simp; omega) _ ?_
    have e : ((List.range i.toNat).map (fun (j : Nat) => g (c + m * (j : Int))) ++ l.drop i.toNat).set i.toNat (g (c + m * i)) = (List.range (i + 1).toNat).map (fun (j : Nat) => g (c + m * (j : Int))) ++ l.drop (i + 1).toNat := by
      rw [List.set_append_right _ _ (by simp), List.length_map, List.length_range, Nat.sub_self, List.drop_eq_getElem_cons hi, List.set_cons_zero, show (i + 1).toNat = i.toNat + 1 by omega]
      rw [List.range_succ, List.map_append, List.append_assoc]
      congr 1
      rw [List.map_singleton, List.singleton_append, show ((i.toNat : Nat) : Int) = i by omega]
    rw [e, lin]
    exact ih
  · refine (stop _ _ (by simp; omega)).same ?_
    have : l.drop n = [] := by rw [← hl]; exact List.drop_length
    simp [this]
theorem at_map {α : Type} (n : Nat) (g : Nat → α) (z : α) (i : Int) (h0 : 0 ≤ i) (h : i < (n : Int)) : ((List.range n).map g).getD i.toNat z = g i.toNat := by
  rw [getD_at _ _ _ (by simp; omega)]
  simp
theorem held_loop (n : Nat) (m c : Int) (F : Nat → Int → Int → Option Int)
    (step : ∀ i, 0 ≤ i → i < (n : Int) → ∀ r, Evt (fun k => F k (c + m * i + m) (i + 1)) r → Evt (fun k => F (k + 1) (c + m * i) i) r)
    (stop : ∀ s, Evt (fun k => F (k + 1) s (n : Int)) s) : Evt (fun k => F k c 0) (c + m * n) := by
  have h := up_loop (n : Int) (fun k (s : Int) i => F k s i) (fun i => c + m * i) (fun _ => c + m * (n : Int)) ?_ ?_ 0 (Int.le_refl _) (by omega)
  · simpa using h
  · intro i h0 hlt ih
    refine step i h0 hlt _ ?_
    rw [lin]
    exact ih
  · exact stop _
end Go.Proofs.Ytefmkmhjbfpelaa.QO
namespace Go.Proofs.Ytefmkmhjbfpelaa.QO
open Go.RowKit Go.Proofs.YtefmkmhjbfpelaaW.PrintWords Go.Proofs.Ytefmkmhjbfpelaa.Ev0
noncomputable def gO (s : Int) : S24 := ⟨mt s, s + 1, mt (s + 2), s + 3, s + 4⟩
noncomputable def gS (s : Int) : S105 := ⟨mt s, s + 1, mt (s + 2)⟩
noncomputable def marksO (n : Nat) (c : Int) : List S24 := (List.range n).map fun (j : Nat) => gO (c + 5 * (j : Int))
noncomputable def marksS (n : Nat) (c : Int) : List S105 := (List.range n).map fun (j : Nat) => gS (c + 3 * (j : Int))
theorem rdO_set (l : List S24) (i : Int) (x : S24) (h0 : 0 ≤ i) (h : i < (l.length : Int)) : rd_T24 (l.set i.toNat x) i = x := by
  unfold rd_T24
  rw [getD_at _ _ _ (by simp; omega)]
  simp
theorem rdS_set (l : List S105) (i : Int) (x : S105) (h0 : 0 ≤ i) (h : i < (l.length : Int)) : rd_T105 (l.set i.toNat x) i = x := by
  unfold rd_T105
  rw [getD_at _ _ _ (by simp; omega)]
  simp
theorem markO_ev (l : List S24) (c : Int) (h0 : 0 ≤ c) (hc : c + 5 * (l.length : Int) ≤ 1000000000000000000) : Evt (fun k => laws_markOutS.f k l c) (c + 5 * l.length, marksO l.length c) := by
  unfold laws_markOutS.f
  refine mark_loop l.length l rfl 5 c gO (fun k acc s i => laws_markOutS.l0 k acc s i) ?_ ?_
  · intro acc i h1 hlt hl r hr
    have hw : wrap64 (i + 1) = i + 1 := w64 (by omega) (by omega)
    have w1 : wrap64 (c + 5 * i + 1) = c + 5 * i + 1 := w64 (by omega) (by omega)
    have w2 : wrap64 (c + 5 * i + 1 + 1) = c + 5 * i + 2 := by rw [w64 (by omega) (by omega)]; omega
    have w3 : wrap64 (c + 5 * i + 2 + 1) = c + 5 * i + 3 := by rw [w64 (by omega) (by omega)]; omega
    have w4 : wrap64 (c + 5 * i + 3 + 1) = c + 5 * i + 4 := by rw [w64 (by omega) (by omega)]; omega
    have w5 : wrap64 (c + 5 * i + 4 + 1) = c + 5 * i + 5 := by rw [w64 (by omega) (by omega)]; omega
    simp only [laws_markOutS.l0, hw, w1, w2, w3, w4, w5, Option.bind_some]
    refine Evt.pos (by omega) (Evt.bind (mt_ev _ (by omega)) (Evt.pos h1 (Evt.bind (mt_ev _ (by omega)) ?_)))
    simp only [rdO_set _ i _ h1 (show i < (acc.length : Int) by omega), List.set_set]
    exact hr
  · intro acc s hl
    simp only [laws_markOutS.l0]
    exact Evt.neg (by omega) (Evt.pure _)
theorem heldO_ev (n : Nat) (c : Int) (h0 : 0 ≤ c) (hc : c + 5 * (n : Int) ≤ 1000000000000000000) : Evt (fun k => laws_heldOutS.f k (marksO n c) c) (c + 5 * n) := by
  unfold laws_heldOutS.f
  have hlen : (marksO n c).length = n := by simp [marksO]
  refine held_loop n 5 c (fun k s i => laws_heldOutS.l0 k (marksO n c) s i) ?_ ?_
  · intro i h1 hlt r hr
    have hw : wrap64 (i + 1) = i + 1 := w64 (by omega) (by omega)
    have w1 : wrap64 (c + 5 * i + 1) = c + 5 * i + 1 := w64 (by omega) (by omega)
    have w2 : wrap64 (c + 5 * i + 1 + 1) = c + 5 * i + 2 := by rw [w64 (by omega) (by omega)]; omega
    have w3 : wrap64 (c + 5 * i + 2 + 1) = c + 5 * i + 3 := by rw [w64 (by omega) (by omega)]; omega
    have w4 : wrap64 (c + 5 * i + 3 + 1) = c + 5 * i + 4 := by rw [w64 (by omega) (by omega)]; omega
    have w5 : wrap64 (c + 5 * i + 4 + 1) = c + 5 * i + 5 := by rw [w64 (by omega) (by omega)]; omega
    have e : rd_T24 (marksO n c) i = gO (c + 5 * i) := by
      unfold rd_T24 marksO
      rw [at_map _ _ _ _ h1 hlt, show ((i.toNat : Nat) : Int) = i by omega]
    simp only [laws_heldOutS.l0, hw, w1, w2, w3, w4, w5, e, gO, hlen]
    exact Evt.pos hlt (Evt.pos h1 (Evt.bind (mt_ev _ (by omega)) (Evt.pos (by simp) (Evt.pos (by simp) (Evt.bind (mt_ev _ (by omega)) (Evt.pos (by simp) (Evt.pos (by simp) (Evt.pos (by simp) hr))))))))
  · intro s
    simp only [laws_heldOutS.l0, hlen]
    exact Evt.neg (by omega) (Evt.pure _)
theorem markS_ev (l : List S105) (c : Int) (h0 : 0 ≤ c) (hc : c + 3 * (l.length : Int) ≤ 1000000000000000000) : Evt (fun k => laws_markSentS.f k l c) (c + 3 * l.length, marksS l.length c) := by
  unfold laws_markSentS.f
  refine mark_loop l.length l rfl 3 c gS (fun k acc s i => laws_markSentS.l0 k acc s i) ?_ ?_
  · intro acc i h1 hlt hl r hr
    have hw : wrap64 (i + 1) = i + 1 := w64 (by omega) (by omega)
    have w1 : wrap64 (c + 3 * i + 1) = c + 3 * i + 1 := w64 (by omega) (by omega)
    have w2 : wrap64 (c + 3 * i + 1 + 1) = c + 3 * i + 2 := by rw [w64 (by omega) (by omega)]; omega
    have w3 : wrap64 (c + 3 * i + 2 + 1) = c + 3 * i + 3 := by rw [w64 (by omega) (by omega)]; omega
    simp only [laws_markSentS.l0, hw, w1, w2, w3, Option.bind_some]
    refine Evt.pos (by omega) (Evt.bind (mt_ev _ (by omega)) (Evt.pos h1 (Evt.bind (mt_ev _ (by omega)) ?_)))
    simp only [rdS_set _ i _ h1 (show i < (acc.length : Int) by omega), List.set_set]
    exact hr
  · intro acc s hl
    simp only [laws_markSentS.l0]
    exact Evt.neg (by omega) (Evt.pure _)
theorem heldS_ev (n : Nat) (c : Int) (h0 : 0 ≤ c) (hc : c + 3 * (n : Int) ≤ 1000000000000000000) : Evt (fun k => laws_heldSentS.f k (marksS n c) c) (c + 3 * n) := by
  unfold laws_heldSentS.f
  have hlen : (marksS n c).length = n := by simp [marksS]
  refine held_loop n 3 c (fun k s i => laws_heldSentS.l0 k (marksS n c) s i) ?_ ?_
  · intro i h1 hlt r hr
    have hw : wrap64 (i + 1) = i + 1 := w64 (by omega) (by omega)
    have w1 : wrap64 (c + 3 * i + 1) = c + 3 * i + 1 := w64 (by omega) (by omega)
    have w2 : wrap64 (c + 3 * i + 1 + 1) = c + 3 * i + 2 := by rw [w64 (by omega) (by omega)]; omega
    have w3 : wrap64 (c + 3 * i + 2 + 1) = c + 3 * i + 3 := by rw [w64 (by omega) (by omega)]; omega
    have e : rd_T105 (marksS n c) i = gS (c + 3 * i) := by
      unfold rd_T105 marksS
      rw [at_map _ _ _ _ h1 hlt, show ((i.toNat : Nat) : Int) = i by omega]
    simp only [laws_heldSentS.l0, hw, w1, w2, w3, e, gS, hlen]
    exact Evt.pos hlt (Evt.pos h1 (Evt.bind (mt_ev _ (by omega)) (Evt.pos (by simp) (Evt.pos (by simp) (Evt.bind (mt_ev _ (by omega)) (Evt.pos (by simp) hr))))))
  · intro s
    simp only [laws_heldSentS.l0, hlen]
    exact Evt.neg (by omega) (Evt.pure _)
theorem eqSents_refl (l : List S105) (hl : l.length ≤ 9000000) : Evt (fun k => laws_eqSentS.f k l l) true := by
  unfold laws_eqSentS.f
  refine Evt.pos rfl (all_loop (l.length : Int) (by omega) (fun k i => laws_eqSentS.l0 k l l i) ?_ ?_)
  · intro i h0 hlt ih
    have hw : wrap64 (i + 1) = i + 1 := w64 (by omega) (by omega)
    simp only [laws_eqSentS.l0, laws_eqSent.f, if_true, hw, Option.bind_some]
    exact Evt.pos hlt (Evt.pos h0 (Evt.pos hlt ih))
  · simp only [laws_eqSentS.l0]
    exact Evt.neg (by omega) (Evt.pure _)
theorem eqOuts_refl (l : List S24) (hl : l.length ≤ 9000000) : Evt (fun k => laws_eqOutS.f k l l) true := by
  unfold laws_eqOutS.f
  refine Evt.pos rfl (all_loop (l.length : Int) (by omega) (fun k i => laws_eqOutS.l0 k l l i) ?_ ?_)
  · intro i h0 hlt ih
    have hw : wrap64 (i + 1) = i + 1 := w64 (by omega) (by omega)
    simp only [laws_eqOutS.l0, laws_eqOut.f, if_true, hw, Option.bind_some]
    exact Evt.pos hlt (Evt.pos h0 (Evt.pos hlt ih))
  · simp only [laws_eqOutS.l0]
    exact Evt.neg (by omega) (Evt.pure _)
end Go.Proofs.Ytefmkmhjbfpelaa.QO
namespace Go.Proofs.Ytefmkmhjbfpelaa.Pure
open Go.RowKit Go.Proofs.Ytefmkmhjbfpelaa Go.Proofs.Ytefmkmhjbfpelaa.QO Go.Proofs.YtefmkmhjbfpelaaW.PrintWords Go.Proofs.Ytefmkmhjbfpelaa.Ev0
theorem putR_len (l : List UX) (x : UX) : (putR l x).1.length ≤ 400 ∧ (putR l x).2.1.length ≤ 400 ∧ (putR l x).2.2.1.length ≤ 400 := by
  unfold putR endO
  split
  · simp
  · split
    · split
      · simp
      · split
        · simp
        · dsimp only
          rw [insO_len]
          simp
          omega
    · simp
theorem eqOO' (a : List UX) (b : List S105) (c : List UX) (e : Int) (ha : a.length ≤ 400) (hb : b.length ≤ 400) (hc : c.length ≤ 400) : Evt (fun k => laws_eqOutboxOut.f k a b c e a b c e) true := by
  unfold laws_eqOutboxOut.f
  exact Evt.bind (eqOuts_refl a (by omega)) (Evt.pos rfl (Evt.bind (eqSents_refl b (by omega)) (Evt.pos rfl (Evt.bind (eqOuts_refl c (by omega)) (Evt.pos rfl (Evt.pos rfl (Evt.pure true)))))))
theorem markOO' (a : List UX) (b : List S105) (c : List UX) (e : Int) (ha : a.length ≤ 400) (hb : b.length ≤ 400) (hc : c.length ≤ 400) : ∃ (n : Int) (a' : List UX) (b' : List S105) (c' : List UX), 0 ≤ n ∧ Evt (fun k => laws_markOutboxOut.f k a b c e 1) (n, a', b', c') ∧ Evt (fun k => laws_heldOutboxOut.f k a' b' c' e 1) n := by
  refine ⟨1 + 5 * (a.length : Int) + 3 * (b.length : Int) + 5 * (c.length : Int), marksO a.length 1, marksS b.length (1 + 5 * (a.length : Int)), marksO c.length (1 + 5 * (a.length : Int) + 3 * (b.length : Int)), by omega, ?_, ?_⟩
  · unfold laws_markOutboxOut.f
    exact Evt.bind (markO_ev a 1 (by omega) (by omega)) (Evt.bind (markS_ev b _ (by dsimp only; omega) (by dsimp only; omega)) (Evt.bind (markO_ev c _ (by dsimp only; omega) (by dsimp only; omega)) (Evt.pure _)))
  · unfold laws_heldOutboxOut.f
    exact Evt.bind (heldO_ev a.length 1 (by omega) (by omega)) (Evt.neg (by omega) (Evt.bind (heldS_ev b.length _ (by omega) (by omega)) (Evt.neg (by omega) (Evt.bind (heldO_ev c.length _ (by omega) (by omega)) (Evt.neg (by omega) (Evt.pure _))))))
theorem FnExactOutboxPut : laws_FnExactOutboxPut.Pure := by
  intro l p n s tr due wl wp wn ws wtr wdue
  obtain ⟨hl, hw⟩ := wl
  apply Evt.ex
  unfold laws_FnExactOutboxPut.f
  have hx : ∀ x ∈ l, okLO x := fun x h => okLO_of (hw x h)
  have hp : (p.size : Int) ≤ 9223372036854775807 := by have : p.size ≤ 2 ^ 63 - 1 := wp; omega
  have hq : (s.size : Int) ≤ 9223372036854775807 := by have : s.size ≤ 2 ^ 63 - 1 := ws; omega
  obtain ⟨t, ht, hlen⟩ := szOutS_ev l hl hx 1048576 (by decide) (by decide)
  refine Evt.bind ht (Evt.ite (fun _ => Evt.pure true) (fun hn => ?_))
  obtain ⟨t0, t1, hlen, _⟩ := hlen.resolve_left hn
  obtain ⟨u, hu, _⟩ := szOut_ev p n s tr due t t0 t1 hp hq
  simp only [hu, Option.bind_some]
  refine Evt.ite (fun _ => Evt.pure true) (fun _ => ?_)
  have hto := toOutS_ev l hlen
  have hs := okO_map l hx
  have hle : (l.map cvOut).length ≤ 9000000 := by simp; omega
  have hR := putR_len (l.map cvOut) ⟨p, n, s, tr, due⟩
  have h1 := specPut_ev (l.map cvOut) ⟨p, n, s, tr, due⟩ hs hp
  have h2 := implPut_ev (l.map cvOut) ⟨p, n, s, tr, due⟩ hs hp
  generalize putR (l.map cvOut) ⟨p, n, s, tr, due⟩ = R at hR h1 h2
  obtain ⟨a, b, c, e⟩ := R
  obtain ⟨ra, rb, rc⟩ := hR
  dsimp only at h1 h2 ra rb rc
  have hq := eqOO' a b c e ra rb rc
  obtain ⟨m, a', b', c', n0, hm, hh⟩ := markOO' a b c e ra rb rc
  simp only [laws_toOut.f, Option.bind_some]
  refine Evt.bind hto (Evt.bind h1 (Evt.bind hto (Evt.bind h2 (Evt.bind hq (Evt.pos rfl (Evt.bind hto (Evt.bind (eqOuts_refl _ hle) (Evt.pos rfl (Evt.bind (markO_ev (l.map cvOut) 1 (by omega) (by omega)) (Evt.neg (by dsimp only; omega) (Evt.bind hq ?_)))))))))))
  apply Evt.succ
  simp only [laws_FnExactOutboxPut.j0, Bool.not_true, Bool.false_eq_true, if_false, laws_toOut.f, Option.bind_some]
  refine Evt.bind hm (Evt.bind hh (Evt.neg (by omega) (Evt.pos rfl (Evt.bind hto (Evt.bind h2 (Evt.bind hq (Evt.pos rfl (Evt.bind hh (Evt.neg (by omega) (Evt.pos rfl (Evt.pure true)))))))))))
end Go.Proofs.Ytefmkmhjbfpelaa.Pure

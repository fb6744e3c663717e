-- Merged by a program of this session (wip/tool/pack.py) out of its own texts for this claim.
import Derived.Test.YtefmkmhjbfpelaaKFnExactOutboxHeard0
import Derived.Test.YtefmkmhjbfpelaaKFnExactOutboxHeard1
import Derived.Test.YtefmkmhjbfpelaaKFnExactOutboxHeard2
import Derived.Test.YtefmkmhjbfpelaaKFnExactOutboxHeard13
namespace Go.Proofs.Ytefmkmhjbfpelaa.QO
open Go.RowKit Go.Proofs.Ytefmkmhjbfpelaa Go.Proofs.YtefmkmhjbfpelaaW.PrintWords Go.Proofs.Ytefmkmhjbfpelaa.Ev0
abbrev HR := List UX × List S105 × List UX × Int
abbrev keyO (p : ByteArray) (n : Int) : UX := ⟨p, n, ⟨#[]⟩, 0, 0⟩
noncomputable def restO (l : List UX) (x : UX) : List UX := l.filter (fun y => B (¬ sameO y x))
theorem restO_le (l : List UX) (x : UX) : (restO l x).length ≤ l.length := List.length_filter_le _ _
noncomputable def heardE (l : List UX) (x : UX) : HR := if (restO l x).length = l.length then ([], [], [], 6) else (restO l x, [], [], 0)
noncomputable def heardR (l : List UX) (p : ByteArray) (n : Int) : HR := @ite _ ((l.length : Int) > 400 ∨ (p.size : Int) > 20000) (Classical.propDecidable _) ([], [], [], 2) (@ite _ (OutboxP l) (Classical.propDecidable _) (heardE l (keyO p n)) ([], [], [], 1))
theorem specHeard_l (l : List UX) (p : ByteArray) (n : Int) (hn : (l.length : Int) ≤ 400) : Evt (fun k => spec_OutboxHeard.l0 k l p n [] 0) (heardE l (keyO p n)) := by
  have h := up_loop (l.length : Int) (fun k (s : List UX) i => spec_OutboxHeard.l0 k l p n s i) (fun i => restO (l.take i.toNat) (keyO p n)) (fun _ => heardE l (keyO p n)) ?_ ?_ 0 (Int.le_refl _) (by omega)
  · simpa [restO] using h
  · intro i h0 hlt ih
    have hw : wrap64 (i + 1) = i + 1 := w64 (by omega) (by omega)
    obtain ⟨j, rfl⟩ : ∃ j : Nat, i = j := ⟨i.toNat, by omega⟩
    have hj : j < l.length := by omega
    have ej : ((j : Int) + 1).toNat = j + 1 := by omega
    have hlen : (restO (l.take j) (keyO p n)).length ≤ 400 := by
      have := restO_le (l.take j) (keyO p n)
      rw [List.length_take] at this
      omega
    simp only [ej, Int.toNat_natCast] at ih ⊢
    simp only [spec_OutboxHeard.l0, hw, rdU_nat hj]
    have es : l.take (j + 1) = l.take j ++ [l[j]] := by rw [List.take_succ_eq_append_getElem hj]
    have keep : ¬ sameO l[j] (keyO p n) → Evt (fun k => if (restO (l.take j) (keyO p n)).length < 2513169434916 then spec_OutboxHeard.l0 k l p n (restO (l.take j) (keyO p n) ++ [(⟨l[j].f0, l[j].f1, l[j].f2, l[j].f3, l[j].f4⟩ : UX)]) ((j : Int) + 1) else none) (heardE l (keyO p n)) := fun hs => by
      have e : restO (l.take (j + 1)) (keyO p n) = restO (l.take j) (keyO p n) ++ [l[j]] := by
        rw [es]
        unfold restO
        have e1 : List.filter (fun y => B (¬ sameO y (keyO p n))) [l[j]] = [l[j]] := List.filter_cons_of_pos (p := fun y => B (¬ sameO y (keyO p n))) (B_true hs)
        rw [List.filter_append, e1]
      rw [e] at ih
      exact Evt.pos (by omega) ih
    refine Evt.pos hlt (Evt.pos h0 (Evt.ite (fun g1 => Evt.ite (fun g2 => ?_) (fun g2 => keep (fun h => g2 h.2))) (fun g1 => keep (fun h => g1 h.1))))
    have e : restO (l.take (j + 1)) (keyO p n) = restO (l.take j) (keyO p n) := by
      rw [es]
      unfold restO
      rw [List.filter_append, List.filter_cons_of_neg (by rw [B_iff]; exact fun h => h ⟨g1, g2⟩), List.filter_nil, List.append_nil]
    rw [e] at ih
    exact ih
  · simp only [spec_OutboxHeard.l0, spec_l12Wrong.f, Option.bind_some]
    refine Evt.neg (by omega) ?_
    unfold heardE
    rw [Int.toNat_natCast, List.take_length]
    refine Evt.ite (fun g => ?_) (fun g => ?_)
    · rw [if_pos (by omega)]
      exact Evt.pure _
    · rw [if_neg (by omega)]
      exact Evt.pure _
theorem specHeard_ev (l : List UX) (p : ByteArray) (n : Int) (hs : ∀ y ∈ l, okO y) : Evt (fun k => spec_OutboxHeard.f k l p n) (heardR l p n) := by
  unfold spec_OutboxHeard.f heardR
  by_cases h1 : (l.length : Int) > 400
  · rw [if_pos (.inl h1)]
    refine Evt.pos h1 ?_
    apply Evt.succ
    simp only [spec_OutboxHeard.j0, if_true, spec_l12Wrong.f, Option.bind_some]
    exact Evt.pure _
  · refine Evt.neg h1 ?_
    apply Evt.succ
    simp only [spec_OutboxHeard.j0, spec_l12Wrong.f, Option.bind_some]
    by_cases h2 : (p.size : Int) > 20000
    · rw [if_pos (.inr h2)]
      exact Evt.pos (decide_eq_true h2) (Evt.pure _)
    · rw [if_neg (fun h => h.elim h1 h2)]
      refine Evt.neg (by simpa using h2) (Evt.bind (specOutbox_ev l hs) ?_)
      by_cases h3 : OutboxP l
      · rw [if_pos h3]
        exact Evt.pos (B_true h3) (specHeard_l l p n (by omega))
      · rw [if_neg h3]
        exact Evt.neg (fun hh => h3 (B_iff.1 hh)) (Evt.pure _)
theorem restO_all {l : List UX} {x : UX} (h : ∀ y ∈ l, olt x y ∨ olt y x) : restO l x = l := by
  unfold restO
  rw [List.filter_eq_self]
  exact fun y hy => B_true (fun hs => (sameO_iff _ _).1 hs (h y hy))
theorem restO_at {l : List UX} {x : UX} (hs : l.Pairwise olt) (a : Nat) (ha : a < l.length) (h : sameO l[a] x) : restO l x = l.take a ++ l.drop (a + 1) := by
  have e : l = l.take a ++ (l[a] :: l.drop (a + 1)) := by rw [← List.drop_eq_getElem_cons ha, List.take_append_drop]
  have ne : ∀ j (hj : j < l.length), j ≠ a → ¬ sameO l[j] x := by
    intro j hj hne h2
    rcases Nat.lt_or_gt_of_ne hne with g | g
    · have h3 := List.pairwise_iff_getElem.1 hs j a hj ha g
      rcases h3 with h3 | ⟨_, h3⟩
      · exact less_neO h3 (h2.1.trans h.1.symm)
      · have := h2.2; have := h.2; omega
    · have h3 := List.pairwise_iff_getElem.1 hs a j ha hj g
      rcases h3 with h3 | ⟨_, h3⟩
      · exact less_neO h3 (h.1.trans h2.1.symm)
      · have := h2.2; have := h.2; omega
  have t1 : restO (l.take a) x = l.take a := by
    unfold restO
    rw [List.filter_eq_self]
    intro y hy
    obtain ⟨i, hi, rfl⟩ := List.mem_take_iff_getElem.1 hy
    exact B_true (ne i (by omega) (by omega))
  have t2 : restO (l.drop (a + 1)) x = l.drop (a + 1) := by
    unfold restO
    rw [List.filter_eq_self]
    intro y hy
    obtain ⟨i, hi, rfl⟩ := List.mem_drop_iff_getElem.1 hy
    exact B_true (ne _ (by omega) (by omega))
  have e2 : restO l x = restO (l.take a ++ (l[a] :: l.drop (a + 1))) x := by rw [← e]
  rw [e2]
  unfold restO at t1 t2 ⊢
  rw [List.filter_append, List.filter_cons_of_neg (by rw [B_iff]; exact fun hh => hh h), t1, t2]
theorem implHeard_ev (l : List UX) (p : ByteArray) (n : Int) (hs : ∀ y ∈ l, okO y) : Evt (fun k => impl_OutboxHeard.f k l p n) (heardR l p n) := by
  unfold impl_OutboxHeard.f heardR
  refine Evt.bind (longText1_ev p) ?_
  by_cases h2 : (p.size : Int) > 20000
  · rw [if_pos (show (l.length : Int) > 400 ∨ (p.size : Int) > 20000 from .inr h2)]
    exact Evt.pos (B_true h2) (Evt.pure _)
  · refine Evt.neg (fun hh => h2 (B_iff.1 hh)) (Evt.bind (outCode_ev l hs) ?_)
    by_cases hn : (l.length : Int) > 400
    · rw [if_pos hn, if_pos (show (l.length : Int) > 400 ∨ (p.size : Int) > 20000 from .inl hn)]
      exact Evt.neg (by decide) (Evt.pure _)
    · rw [if_neg hn, if_neg (show ¬ ((l.length : Int) > 400 ∨ (p.size : Int) > 20000) from fun h => h.elim hn h2)]
      by_cases h1 : OutboxP l
      · rw [if_pos (show outboxB l = true from B_true h1), if_pos h1]
        obtain ⟨g1, g2, g3⟩ := (OutboxP_iff l).1 h1
        obtain ⟨r, hr, e1, e2⟩ := findOut_ev l (keyO p n) (by omega) g3
        refine Evt.pos rfl (Evt.bind hr ?_)
        unfold heardE
        by_cases h3 : ∀ y ∈ l, olt (keyO p n) y ∨ olt y (keyO p n)
        · have e3 : r.2 = false := by
            rw [← Bool.not_eq_true]
            exact fun hb => (ins_is olt_ord g3).1 (e2.1 hb) h3
          rw [if_pos (show (restO l (keyO p n)).length = l.length by rw [restO_all h3])]
          exact Evt.neg (by rw [e3]; decide) (Evt.pure _)
        · have e3 : r.2 = true := e2.2 ((ins_is olt_ord g3).2 h3)
          obtain ⟨ha, hb⟩ := e2.1 e3
          have hc := idxP_yes ha
          generalize idxP (fun y => ¬ olt y (keyO p n)) l = a at e1 ha hb hc
          have hsm : sameO l[a] (keyO p n) := (sameO_iff _ _).2 (fun h => h.elim hb hc)
          have er := restO_at g3 a ha hsm
          have el : (restO l (keyO p n)).length = l.length - 1 := by rw [er]; simp; omega
          have hw : wrap64 ((a : Int) + 1) = ((a + 1 : Nat) : Int) := by rw [w64 (by omega) (by omega)]; rfl
          rw [if_neg (show ¬ (restO l (keyO p n)).length = l.length by omega), er]
          refine Evt.pos e3 ?_
          simp only [slices_Clone_implOut.f, slices_Delete_implOut.f, e1, hw]
          refine Evt.bind (Evt.const (if_pos (by omega))) (Evt.bind (Evt.pos (by omega) (Evt.pos (by omega) (Evt.pos (by omega) (Evt.pure _)))) ?_)
          rw [Int.toNat_natCast, Int.toNat_natCast]
          exact Evt.pure _
      · rw [if_neg (show ¬ outboxB l = true from fun hh => h1 (B_iff.1 hh)), if_neg h1]
        exact Evt.neg (by decide) (Evt.pure _)
theorem heardR_len (l : List UX) (p : ByteArray) (n : Int) : (heardR l p n).1.length ≤ 400 ∧ (heardR l p n).2.1.length ≤ 400 ∧ (heardR l p n).2.2.1.length ≤ 400 := by
  have := restO_le l (keyO p n)
  unfold heardR heardE
  split
  · simp
  · split
    · split
      · simp
      · dsimp only
        simp
        omega
    · simp
end Go.Proofs.Ytefmkmhjbfpelaa.QO
namespace Go.Proofs.Ytefmkmhjbfpelaa.QO
open Go.RowKit Go.Proofs.YtefmkmhjbfpelaaW.PrintWords Go.Proofs.Ytefmkmhjbfpelaa.Ev0
theorem one_size (v : Int) : (strOfNums [v]).size = 1 := rfl
theorem markText_l (d : Nat) : ∀ (a : Int) (x : ByteArray), 0 ≤ a → a < 10 ^ d → a ≤ 9223372036854775807 → (x.size : Int) + d ≤ 1000000000000000000 → ∃ r, Evt (fun k => laws_markText.l0 k a x) r := by
  induction d with
  | zero =>
    intro a x h0 h1 ha hx
    obtain rfl : a = 0 := by have : (10 : Int) ^ 0 = 1 := rfl; omega
    refine ⟨(⟨#[109]⟩ : ByteArray) ++ x, Evt.succ ?_⟩
    simp only [laws_markText.l0]
    exact Evt.neg (by omega) (Evt.pos (by omega) (Evt.pure _))
  | succ d ih =>
    intro a x h0 h1 ha hx
    by_cases h : a > 0
    · have e : a.tdiv 10 = a / 10 := Int.tdiv_eq_ediv_of_nonneg h0
      have hp : (10 : Int) ^ (d + 1) = 10 ^ d * 10 := Int.pow_succ ..
      have hw : wrap64 (a.tdiv 10) = a / 10 := by rw [e]; exact w64 (by omega) (by omega)
      obtain ⟨r, hr⟩ := ih (a / 10) (strOfNums [(wrap64 (48 + (Int.tmod a 10))) % 256] ++ x) (by omega) (by omega) (by omega) (by rw [ByteArray.size_append, one_size]; omega)
      refine ⟨r, Evt.succ ?_⟩
      simp only [laws_markText.l0, Option.bind_some, hw, one_size]
      exact Evt.pos h (Evt.pos (by omega) hr)
    · obtain rfl : a = 0 := by omega
      refine ⟨(⟨#[109]⟩ : ByteArray) ++ x, Evt.succ ?_⟩
      simp only [laws_markText.l0]
      exact Evt.neg (by omega) (Evt.pos (by omega) (Evt.pure _))
theorem markText_ex (a : Int) (ha : a ≤ 9223372036854775807) : ∃ r, Evt (fun k => laws_markText.f k a) r := by
  unfold laws_markText.f
  by_cases h : a ≤ 0
  · exact ⟨_, Evt.pos h (Evt.pure _)⟩
  · obtain ⟨r, hr⟩ := markText_l 19 a ⟨#[]⟩ (by omega) (by omega) ha (by decide)
    exact ⟨r, Evt.neg h hr⟩
noncomputable def mt (a : Int) : ByteArray := @dite _ (∃ r, Evt (fun k => laws_markText.f k a) r) (Classical.propDecidable _) (fun h => Classical.choose h) (fun _ => ⟨#[]⟩)
theorem mt_ev (a : Int) (ha : a ≤ 9223372036854775807) : Evt (fun k => laws_markText.f k a) (mt a) := by
  unfold mt
  rw [dif_pos (markText_ex a ha)]
  exact Classical.choose_spec (markText_ex a ha)
theorem lin (c m i : Int) : c + m * i + m = c + m * (i + 1) := by rw [Int.mul_add, Int.mul_one, Int.add_assoc]
theorem mark_loop {α : Type} (n : Nat) (l : List α) (hl : l.length = n) (m c : Int) (g : Int → α) (F : Nat → List α → Int → Int → Option (Int × List α))
    (step : ∀ acc i, 0 ≤ i → i < (n : Int) → acc.length = n → ∀ r, Evt (fun k => F k (acc.set i.toNat (g (c + m * i))) (c + m * i + m) (i + 1)) r → Evt (fun k => F (k + 1) acc (c + m * i) i) r)
    (stop : ∀ acc s, acc.length = n → Evt (fun k => F (k + 1) acc s (n : Int)) (s, acc)) :
    Evt (fun k => F k l c 0) (c + m * n, (List.range n).map fun (j : Nat) => g (c + m * (j : Int))) := by
  have h := up_loop (n : Int) (fun k (s : List α × Int) i => F k s.1 s.2 i) (fun i => ((List.range i.toNat).map (fun (j : Nat) => g (c + m * (j : Int))) ++ l.drop i.toNat, c + m * i)) (fun _ => (c + m * (n : Int), (List.range n).map fun (j : Nat) => g (c + m * (j : Int)))) ?_ ?_ 0 (Int.le_refl _) (by omega)
  · simpa using h
  · intro i h0 hlt ih
    have hi : i.toNat < l.length := by omega
    refine step _ i h0 hlt (by simp; omega) _ ?_
    have e : ((List.range i.toNat).map (fun (j : Nat) => g (c + m * (j : Int))) ++ l.drop i.toNat).set i.toNat (g (c + m * i)) = (List.range (i + 1).toNat).map (fun (j : Nat) => g (c + m * (j : Int))) ++ l.drop (i + 1).toNat := by
      rw [List.set_append_right _ _ (by simp), List.length_map, List.length_range, Nat.sub_self, List.drop_eq_getElem_cons hi, List.set_cons_zero, show (i + 1).toNat = i.toNat + 1 by omega]
      rw [List.range_succ, List.map_append, List.append_assoc]
      congr 1
      rw [List.map_singleton, List.singleton_append, show ((i.toNat : Nat) : Int) = i by omega]
    rw [e, lin]
    exact ih
  · refine (stop _ _ (by simp; omega)).same ?_
    have : l.drop n = [] := by rw [← hl]; exact List.drop_length
    simp [this]
theorem at_map {α : Type} (n : Nat) (g : Nat → α) (z : α) (i : Int) (h0 : 0 ≤ i) (h : i < (n : Int)) : ((List.range n).map g).getD i.toNat z = g i.toNat := by
  rw [getD_at _ _ _ (by simp; omega)]
  simp
theorem held_loop (n : Nat) (m c : Int) (F : Nat → Int → Int → Option Int)
    (step : ∀ i, 0 ≤ i → i < (n : Int) → ∀ r, Evt (fun k => F k (c + m * i + m) (i + 1)) r → Evt (fun k => F (k + 1) (c + m * i) i) r)
    (stop : ∀ s, Evt (fun k => F (k + 1) s (n : Int)) s) : Evt (fun k => F k c 0) (c + m * n) := by
  have h := up_loop (n : Int) (fun k (s : Int) i => F k s i) (fun i => c + m * i) (fun _ => c + m * (n : Int)) ?_ ?_ 0 (Int.le_refl _) (by omega)
  · simpa using h
  · intro i h0 hlt ih
    refine step i h0 hlt _ ?_
    rw [lin]
    exact ih
  · exact stop _
end Go.Proofs.Ytefmkmhjbfpelaa.QO
namespace Go.Proofs.Ytefmkmhjbfpelaa.QO
open Go.RowKit Go.Proofs.YtefmkmhjbfpelaaW.PrintWords Go.Proofs.Ytefmkmhjbfpelaa.Ev0
noncomputable def gO (s : Int) : S24 := ⟨mt s, s + 1, mt (s + 2), s + 3, s + 4⟩
noncomputable def gS (s : Int) : S105 := ⟨mt s, s + 1, mt (s + 2)⟩
noncomputable def marksO (n : Nat) (c : Int) : List S24 := (List.range n).map fun (j : Nat) => gO (c + 5 * (j : Int))
noncomputable def marksS (n : Nat) (c : Int) : List S105 := (List.range n).map fun (j : Nat) => gS (c + 3 * (j : Int))
theorem rdO_set (l : List S24) (i : Int) (x : S24) (h0 : 0 ≤ i) (h : i < (l.length : Int)) : rd_T24 (l.set i.toNat x) i = x := by
  unfold rd_T24
  rw [getD_at _ _ _ (by simp; omega)]
  simp
theorem rdS_set (l : List S105) (i : Int) (x : S105) (h0 : 0 ≤ i) (h : i < (l.length : Int)) : rd_T105 (l.set i.toNat x) i = x := by
  unfold rd_T105
  rw [getD_at _ _ _ (by simp; omega)]
  simp
theorem markO_ev (l : List S24) (c : Int) (h0 : 0 ≤ c) (hc : c + 5 * (l.length : Int) ≤ 1000000000000000000) : Evt (fun k => laws_markOutS.f k l c) (c + 5 * l.length, marksO l.length c) := by
  unfold laws_markOutS.f
  refine mark_loop l.length l rfl 5 c gO (fun k acc s i => laws_markOutS.l0 k acc s i) ?_ ?_
  · intro acc i h1 hlt hl r hr
    have hw : wrap64 (i + 1) = i + 1 := w64 (by omega) (by omega)
    have w1 : wrap64 (c + 5 * i + 1) = c + 5 * i + 1 := w64 (by omega) (by omega)
    have w2 : wrap64 (c + 5 * i + 1 + 1) = c + 5 * i + 2 := by rw [w64 (by omega) (by omega)]; omega
    have w3 : wrap64 (c + 5 * i + 2 + 1) = c + 5 * i + 3 := by rw [w64 (by omega) (by omega)]; omega
    have w4 : wrap64 (c + 5 * i + 3 + 1) = c + 5 * i + 4 := by rw [w64 (by omega) (by omega)]; omega
    have w5 : wrap64 (c + 5 * i + 4 + 1) = c + 5 * i + 5 := by rw [w64 (by omega) (by omega)]; omega
    simp only [laws_markOutS.l0, hw, w1, w2, w3, w4, w5, Option.bind_some]
    refine Evt.pos (by omega) (Evt.bind (mt_ev _ (by omega)) (Evt.pos h1 (Evt.bind (mt_ev _ (by omega)) ?_)))
    simp only [rdO_set _ i _ h1 (show i < (acc.length : Int) by omega), List.set_set]
    exact hr
  · intro acc s hl
    simp only [laws_markOutS.l0]
    exact Evt.neg (by omega) (Evt.pure _)
theorem heldO_ev (n : Nat) (c : Int) (h0 : 0 ≤ c) (hc : c + 5 * (n : Int) ≤ 1000000000000000000) : Evt (fun k => laws_heldOutS.f k (marksO n c) c) (c + 5 * n) := by
  unfold laws_heldOutS.f
  have hlen : (marksO n c).length = n := by simp [marksO]
  refine held_loop n 5 c (fun k s i => laws_heldOutS.l0 k (marksO n c) s i) ?_ ?_
  · intro i h1 hlt r hr
    have hw : wrap64 (i + 1) = i + 1 := w64 (by omega) (by omega)
    have w1 : wrap64 (c + 5 * i + 1) = c + 5 * i + 1 := w64 (by omega) (by omega)
    have w2 : wrap64 (c + 5 * i + 1 + 1) = c + 5 * i + 2 := by rw [w64 (by omega) (by omega)]; omega
    have w3 : wrap64 (c + 5 * i + 2 + 1) = c + 5 * i + 3 := by rw [w64 (by omega) (by omega)]; omega
    have w4 : wrap64 (c + 5 * i + 3 + 1) = c + 5 * i + 4 := by rw [w64 (by omega) (by omega)]; omega
    have w5 : wrap64 (c + 5 * i + 4 + 1) = c + 5 * i + 5 := by rw [w64 (by omega) (by omega)]; omega
    have e : rd_T24 (marksO n c) i = gO (c + 5 * i) := by
      unfold rd_T24 marksO
      rw [at_map _ _ _ _ h1 hlt, show ((i.toNat : Nat) : Int) = i by omega]
    simp only [laws_heldOutS.l0, hw, w1, w2, w3, w4, w5, e, gO, hlen]
    exact Evt.pos hlt (Evt.pos h1 (Evt.bind (mt_ev _ (by omega)) (Evt.pos (by simp) (Evt.pos (by simp) (Evt.bind (mt_ev _ (by omega)) (Evt.pos (by simp) (Evt.pos (by simp) (Evt.pos (by simp) hr))))))))
  · intro s
    simp only [laws_heldOutS.l0, hlen]
    exact Evt.neg (by omega) (Evt.pure _)
theorem markS_ev (l : List S105) (c : Int) (h0 : 0 ≤ c) (hc : c + 3 * (l.length : Int) ≤ 1000000000000000000) : Evt (fun k => laws_markSentS.f k l c) (c + 3 * l.length, marksS l.length c) := by
  unfold laws_markSentS.f
  refine mark_loop l.length l rfl 3 c gS (fun k acc s i => laws_markSentS.l0 k acc s i) ?_ ?_
  · intro acc i h1 hlt hl r hr
    have hw : wrap64 (i + 1) = i + 1 := w64 (by omega) (by omega)
    have w1 : wrap64 (c + 3 * i + 1) = c + 3 * i + 1 := w64 (by omega) (by omega)
    have w2 : wrap64 (c + 3 * i + 1 + 1) = c + 3 * i + 2 := by rw [w64 (by omega) (by omega)]; omega
    have w3 : wrap64 (c + 3 * i + 2 + 1) = c + 3 * i + 3 := by rw [w64 (by omega) (by omega)]; omega
    simp only [laws_markSentS.l0, hw, w1, w2, w3, Option.bind_some]
    refine Evt.pos (by omega) (Evt.bind (mt_ev _ (by omega)) (Evt.pos h1 (Evt.bind (mt_ev _ (by omega)) ?_)))
    simp only [rdS_set _ i _ h1 (show i < (acc.length : Int) by omega), List.set_set]
    exact hr
  · intro acc s hl
    simp only [laws_markSentS.l0]
    exact Evt.neg (by omega) (Evt.pure _)
theorem heldS_ev (n : Nat) (c : Int) (h0 : 0 ≤ c) (hc : c + 3 * (n : Int) ≤ 1000000000000000000) : Evt (fun k => laws_heldSentS.f k (marksS n c) c) (c + 3 * n) := by
  unfold laws_heldSentS.f
  have hlen : (marksS n c).length = n := by simp [marksS]
  refine held_loop n 3 c (fun k s i => laws_heldSentS.l0 k (marksS n c) s i) ?_ ?_
  · intro i h1 hlt r hr
    have hw : wrap64 (i + 1) = i + 1 := w64 (by omega) (by omega)
    have w1 : wrap64 (c + 3 * i + 1) = c + 3 * i + 1 := w64 (by omega) (by omega)
    have w2 : wrap64 (c + 3 * i + 1 + 1) = c + 3 * i + 2 := by rw [w64 (by omega) (by omega)]; omega
    have w3 : wrap64 (c + 3 * i + 2 + 1) = c + 3 * i + 3 := by rw [w64 (by omega) (by omega)]; omega
    have e : rd_T105 (marksS n c) i = gS (c + 3 * i) := by
      unfold rd_T105 marksS
      rw [at_map _ _ _ _ h1 hlt, show ((i.toNat : Nat) : Int) = i by omega]
    simp only [laws_heldSentS.l0, hw, w1, w2, w3, e, gS, hlen]
    exact Evt.pos hlt (Evt.pos h1 (Evt.bind (mt_ev _ (by omega)) (Evt.pos (by simp) (Evt.pos (by simp) (Evt.bind (mt_ev _ (by omega)) (Evt.pos (by simp) hr))))))
  · intro s
    simp only [laws_heldSentS.l0, hlen]
    exact Evt.neg (by omega) (Evt.pure _)
theorem eqSents_refl (l : List S105) (hl : l.length ≤ 9000000) : Evt (fun k => laws_eqSentS.f k l l) true := by
  unfold laws_eqSentS.f
  refine Evt.pos rfl (all_loop (l.length : Int) (by omega) (fun k i => laws_eqSentS.l0 k l l i) ?_ ?_)
  · intro i h0 hlt ih
    have hw : wrap64 (i + 1) = i + 1 := w64 (by omega) (by omega)
    simp only [laws_eqSentS.l0, laws_eqSent.f, if_true, hw, Option.bind_some]
    exact Evt.pos hlt (Evt.pos h0 (Evt.pos hlt ih))
  · simp only [laws_eqSentS.l0]
    exact Evt.neg (by omega) (Evt.pure _)
theorem eqOuts_refl (l : List S24) (hl : l.length ≤ 9000000) : Evt (fun k => laws_eqOutS.f k l l) true := by
  unfold laws_eqOutS.f
  refine Evt.pos rfl (all_loop (l.length : Int) (by omega) (fun k i => laws_eqOutS.l0 k l l i) ?_ ?_)
  · intro i h0 hlt ih
    have hw : wrap64 (i + 1) = i + 1 := w64 (by omega) (by omega)
    simp only [laws_eqOutS.l0, laws_eqOut.f, if_true, hw, Option.bind_some]
    exact Evt.pos hlt (Evt.pos h0 (Evt.pos hlt ih))
  · simp only [laws_eqOutS.l0]
    exact Evt.neg (by omega) (Evt.pure _)
end Go.Proofs.Ytefmkmhjbfpelaa.QO
namespace Go.Proofs.Ytefmkmhjbfpelaa.QO
open Go.RowKit Go.Proofs.YtefmkmhjbfpelaaW.PrintWords Go.Proofs.Ytefmkmhjbfpelaa.Ev0
theorem eqOO' (a : List S24) (b : List S105) (c : List S24) (e : Int) (ha : a.length ≤ 400) (hb : b.length ≤ 400) (hc : c.length ≤ 400) : Evt (fun k => laws_eqOutboxOut.f k a b c e a b c e) true := by
  unfold laws_eqOutboxOut.f
  exact Evt.bind (eqOuts_refl a (by omega)) (Evt.pos rfl (Evt.bind (eqSents_refl b (by omega)) (Evt.pos rfl (Evt.bind (eqOuts_refl c (by omega)) (Evt.pos rfl (Evt.pos rfl (Evt.pure true)))))))
theorem markOO' (a : List S24) (b : List S105) (c : List S24) (e : Int) (ha : a.length ≤ 400) (hb : b.length ≤ 400) (hc : c.length ≤ 400) : ∃ (n : Int) (a' : List S24) (b' : List S105) (c' : List S24), 0 ≤ n ∧ Evt (fun k => laws_markOutboxOut.f k a b c e 1) (n, a', b', c') ∧ Evt (fun k => laws_heldOutboxOut.f k a' b' c' e 1) n := by
  refine ⟨1 + 5 * (a.length : Int) + 3 * (b.length : Int) + 5 * (c.length : Int), marksO a.length 1, marksS b.length (1 + 5 * (a.length : Int)), marksO c.length (1 + 5 * (a.length : Int) + 3 * (b.length : Int)), by omega, ?_, ?_⟩
  · unfold laws_markOutboxOut.f
    exact Evt.bind (markO_ev a 1 (by omega) (by omega)) (Evt.bind (markS_ev b _ (by dsimp only; omega) (by dsimp only; omega)) (Evt.bind (markO_ev c _ (by dsimp only; omega) (by dsimp only; omega)) (Evt.pure _)))
  · unfold laws_heldOutboxOut.f
    exact Evt.bind (heldO_ev a.length 1 (by omega) (by omega)) (Evt.neg (by omega) (Evt.bind (heldS_ev b.length _ (by omega) (by omega)) (Evt.neg (by omega) (Evt.bind (heldO_ev c.length _ (by omega) (by omega)) (Evt.neg (by omega) (Evt.pure _))))))
end Go.Proofs.Ytefmkmhjbfpelaa.QO
namespace Go.Proofs.Ytefmkmhjbfpelaa.Pure
open Go.RowKit Go.Proofs.Ytefmkmhjbfpelaa Go.Proofs.Ytefmkmhjbfpelaa.QO Go.Proofs.YtefmkmhjbfpelaaW.PrintWords Go.Proofs.Ytefmkmhjbfpelaa.Ev0
theorem FnExactOutboxHeard : laws_FnExactOutboxHeard.Pure := by
  intro l p n wl wp wn
  obtain ⟨hl, hw⟩ := wl
  apply Evt.ex
  unfold laws_FnExactOutboxHeard.f
  have hx : ∀ x ∈ l, okLO x := fun x h => okLO_of (hw x h)
  refine Evt.ite (fun _ => Evt.pure true) (fun _ => ?_)
  obtain ⟨t, ht, hlen⟩ := szOutS_ev l hl hx 1048576 (by decide) (by decide)
  refine Evt.bind ht (Evt.ite (fun _ => Evt.pure true) (fun hn => ?_))
  obtain ⟨_, _, hlen, _⟩ := hlen.resolve_left hn
  have hto := toOutS_ev l hlen
  have hs := okO_map l hx
  have hle : (l.map cvOut).length ≤ 9000000 := by simp; omega
  have hR := heardR_len (l.map cvOut) p n
  have h1 := specHeard_ev (l.map cvOut) p n hs
  have h2 := implHeard_ev (l.map cvOut) p n hs
  generalize heardR (l.map cvOut) p n = R at hR h1 h2
  obtain ⟨a, b, c, e⟩ := R
  obtain ⟨ra, rb, rc⟩ := hR
  dsimp only at h1 h2 ra rb rc
  have hq := eqOO' a b c e ra rb rc
  obtain ⟨m, a', b', c', n0, hm, hh⟩ := markOO' a b c e ra rb rc
  refine Evt.bind hto (Evt.bind h1 (Evt.bind hto (Evt.bind h2 (Evt.bind hq (Evt.pos rfl (Evt.bind hto (Evt.bind (eqOuts_refl _ hle) (Evt.pos rfl (Evt.bind (markO_ev (l.map cvOut) 1 (by omega) (by omega)) (Evt.neg (by dsimp only; omega) (Evt.bind hq ?_)))))))))))
  apply Evt.succ
  simp only [laws_FnExactOutboxHeard.j0, Bool.not_true, Bool.false_eq_true, if_false]
  refine Evt.bind hm (Evt.bind hh (Evt.neg (by omega) (Evt.pos rfl (Evt.bind hto (Evt.bind h2 (Evt.bind hq (Evt.pos rfl (Evt.bind hh (Evt.neg (by omega) (Evt.pos rfl (Evt.pure true)))))))))))
end Go.Proofs.Ytefmkmhjbfpelaa.Pure

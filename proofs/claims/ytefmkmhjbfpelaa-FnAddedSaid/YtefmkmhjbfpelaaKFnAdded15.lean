-- Merged by a program of this session (wip/tool/pack.py) out of its own texts for this claim.
import Derived.Test.YtefmkmhjbfpelaaKFnAdded0
import Derived.Test.YtefmkmhjbfpelaaKFnAdded1
import Derived.Test.YtefmkmhjbfpelaaKFnAdded2
import Derived.Test.YtefmkmhjbfpelaaKFnAdded6
import Derived.Test.YtefmkmhjbfpelaaKFnAdded14
namespace Go.Proofs.Ytefmkmhjbfpelaa.QP
open Go.RowKit Go.Proofs.Ytefmkmhjbfpelaa Go.Proofs.YtefmkmhjbfpelaaW.PrintWords Go.Proofs.Ytefmkmhjbfpelaa.Ev0
abbrev LX := S54
def llt (x y : LX) : Prop := lbefore x.f0 x.f1 x.f2 y.f0 y.f1 y.f2
theorem less_as {a b : ByteArray} (h : less a b) : ¬ less b a := by
  rcases cmpS_cases a b with ⟨_, h2, _⟩ | ⟨h1, _⟩ | ⟨h1, _⟩
  · exact h2
  · exact absurd h h1
  · exact absurd h h1
theorem less_ne {a b : ByteArray} (h : less a b) : ¬ a.toList = b.toList := by
  rcases cmpS_cases a b with ⟨_, _, h3, _⟩ | ⟨h1, _⟩ | ⟨h1, _⟩
  · exact h3
  · exact absurd h h1
  · exact absurd h h1
theorem eq_less {a b c : ByteArray} (h1 : a.toList = b.toList) (h2 : less b c) : less a c := by unfold less at h2 ⊢; rw [h1]; exact h2
theorem llt_ord : Ord llt where
  tr := by
    rintro a b c (h1 | ⟨h1, h2⟩) (g1 | ⟨g1, g2⟩)
    · exact .inl (less_tr h1 g1)
    · exact .inl (less_eq h1 g1)
    · exact .inl (eq_less h1 g1)
    · refine .inr ⟨h1.trans g1, ?_⟩
      rcases h2 with h2 | ⟨h2, h3⟩ <;> rcases g2 with g2 | ⟨g2, g3⟩
      · exact .inl (less_tr h2 g2)
      · exact .inl (less_eq h2 g2)
      · exact .inl (eq_less h2 g2)
      · exact .inr ⟨h2.trans g2, by omega⟩
  asy := by
    rintro a b (h1 | ⟨h1, h2⟩) (g1 | ⟨g1, g2⟩)
    · exact less_as h1 g1
    · exact less_ne h1 g1.symm
    · exact less_ne g1 h1.symm
    · rcases h2 with h2 | ⟨h2, h3⟩ <;> rcases g2 with g2 | ⟨g2, g3⟩
      · exact less_as h2 g2
      · exact less_ne h2 g2.symm
      · exact less_ne g2 h2.symm
      · omega
theorem lcmp_neg (a b : ByteArray) (n : Int) (a' b' : ByteArray) (n' : Int) : lcmp a b n a' b' n' < 0 ↔ lbefore a b n a' b' n' := by
  have := lcmp_iff a b n a' b' n'
  constructor
  · intro h
    exact Classical.byContradiction fun hn => absurd (this.2 hn) (by omega)
  · intro h
    by_cases g : lcmp a b n a' b' n' ≥ 0
    · exact absurd h (this.1 g)
    · omega
theorem lcmp_zero (a b : ByteArray) (n : Int) (a' b' : ByteArray) (n' : Int) : lcmp a b n a' b' n' = 0 ↔ ¬ lbefore a b n a' b' n' ∧ ¬ lbefore a' b' n' a b n := by
  unfold lcmp lbefore
  rcases cmpS_cases a a' with ⟨h1, h2, h3, h4⟩ | ⟨h1, h2, h3, h4⟩ | ⟨h1, h2, h3, h4⟩
  · simp [orL, h4, h1]
  · simp [orL, h4, h1, h2, h3]
  · rcases cmpS_cases b b' with ⟨g1, g2, g3, g4⟩ | ⟨g1, g2, g3, g4⟩ | ⟨g1, g2, g3, g4⟩
    · simp [orL, h4, h1, h2, h3, g4, g1]
    · simp [orL, h4, h1, h2, h3, g4, g1, g2, g3]
    · rcases cmpI_cases n n' with ⟨e1, e2⟩ | ⟨e1, e2⟩ | ⟨e1, e2⟩
      · simp [orL, h4, h1, h2, h3, g4, g1, g2, g3, e1, e2]
      · simp [orL, h4, h1, h2, h3, g4, g1, g2, g3, e2]; omega
      · subst e1
        simp [orL, h4, h1, h2, h3, g4, g1, g2, g3, e2]
theorem rdL_nat {l : List LX} {i : Nat} (h : i < l.length) : rd_T54 l (i : Int) = l[i] := by
  unfold rd_T54
  rw [Int.toNat_natCast, getD_at l _ _ h]
def lineX (x : LX) : Prop := lineB x.f0 x.f1 x.f2 x.f3 x.f4 x.f5 x.f6 x.f7 = true
theorem LinesP_iff (l : List LX) : LinesP l ↔ (l.length : Int) ≤ 200 ∧ (∀ x ∈ l, lineX x) ∧ l.Pairwise llt := by
  constructor
  · rintro ⟨h1, h2⟩
    refine ⟨h1, fun x hx => ?_, pair_of_next llt_ord fun i hi => ?_⟩
    · obtain ⟨i, hi, rfl⟩ := List.mem_iff_getElem.1 hx
      have := (h2 i (by omega) (by omega)).1
      rw [rdL_nat hi] at this
      exact this
    · have := (h2 ((i + 1 : Nat) : Int) (by omega) (by omega)).2 (by omega)
      rw [show (((i + 1 : Nat) : Int) - 1) = ((i : Nat) : Int) by omega, rdL_nat hi, rdL_nat (show i < l.length by omega)] at this
      exact this
  · rintro ⟨h1, h2, h3⟩
    refine ⟨h1, fun i h0 hi => ?_⟩
    obtain ⟨j, rfl⟩ : ∃ j : Nat, i = j := ⟨i.toNat, by omega⟩
    have hj : j < l.length := by omega
    refine ⟨?_, fun hp => ?_⟩
    · rw [rdL_nat hj]
      exact h2 _ (List.getElem_mem hj)
    · obtain ⟨m, rfl⟩ : ∃ m, j = m + 1 := ⟨j - 1, by omega⟩
      rw [show (((m + 1 : Nat) : Int) - 1) = ((m : Nat) : Int) by omega, rdL_nat hj, rdL_nat (show m < l.length by omega)]
      exact List.pairwise_iff_getElem.1 h3 _ _ _ _ (by omega)
noncomputable def insL (l : List LX) (x : LX) : List LX := l.take (insAt llt l x) ++ [x] ++ l.drop (insAt llt l x)
theorem insL_len (l : List LX) (x : LX) : (insL l x).length = l.length + 1 := by
  have := idxP_le (llt x) l
  have e : insAt llt l x = idxP (llt x) l := rfl
  unfold insL
  simp
  omega
theorem insL_mem (l : List LX) (x y : LX) : y ∈ insL l x ↔ y = x ∨ y ∈ l := by
  unfold insL
  rw [List.append_assoc, List.mem_append, List.mem_append, List.mem_singleton]
  constructor
  · rintro (h | h | h)
    · exact .inr (List.mem_of_mem_take h)
    · exact .inl h
    · exact .inr (List.mem_of_mem_drop h)
  · rintro (h | h)
    · exact .inr (.inl h)
    · rw [← List.take_append_drop (insAt llt l x) l, List.mem_append] at h
      exact h.imp id .inr
theorem insL_right {l : List LX} {x : LX} (hl : LinesP l) : LinesP (insL l x) ↔ lineX x ∧ (∀ y ∈ l, llt x y ∨ llt y x) ∧ (l.length : Int) < 200 := by
  obtain ⟨h1, h2, h3⟩ := (LinesP_iff l).1 hl
  have hp := ins_right llt_ord (x := x) h3
  have e : insL l x = l.take (insAt llt l x) ++ x :: l.drop (insAt llt l x) := by unfold insL; simp
  rw [LinesP_iff, insL_len]
  constructor
  · rintro ⟨g1, g2, g3⟩
    rw [e] at g3
    exact ⟨g2 x ((insL_mem l x x).2 (.inl rfl)), hp.1 g3, by omega⟩
  · rintro ⟨g1, g2, g3⟩
    refine ⟨by omega, fun y hy => ?_, ?_⟩
    · rcases (insL_mem l x y).1 hy with rfl | hy
      · exact g1
      · exact h2 y hy
    · rw [e]
      exact hp.2 g2
noncomputable def addL (l : List LX) (x : LX) : List LX := @ite _ (LinesP l ∧ LinesP (insL l x)) (Classical.propDecidable _) (insL l x) l
noncomputable def stL (l : List LX) (x : LX) (i : Int) : List LX × Bool := @ite _ (i.toNat ≤ insAt llt l x) (Classical.propDecidable _) (l.take i.toNat, false) (l.take (insAt llt l x) ++ [x] ++ (l.drop (insAt llt l x)).take (i.toNat - insAt llt l x), true)
theorem specAdd_l (l : List LX) (x : LX) (hn : (l.length : Int) ≤ 400) (hs : ∀ y ∈ l, okS y) (hx : okS x) : Evt (fun k => spec_LinesAdd.l0 k l l [] false 0 x.f0 x.f1 x.f2 x.f3 x.f4 x.f5 x.f6 x.f7) (@ite _ (LinesP (insL l x)) (Classical.propDecidable _) (insL l x) l) := by
  have hk : insAt llt l x ≤ l.length := idxP_le _ _
  have hso : ∀ y ∈ insL l x, okS y := fun y hy => ((insL_mem l x y).1 hy).elim (fun e => e ▸ hx) (hs y)
  have h := up_loop (l.length : Int) (fun k (s : List LX × Bool) i => spec_LinesAdd.l0 k l l s.1 s.2 i x.f0 x.f1 x.f2 x.f3 x.f4 x.f5 x.f6 x.f7) (stL l x) (fun _ => @ite _ (LinesP (insL l x)) (Classical.propDecidable _) (insL l x) l) ?_ ?_ 0 (Int.le_refl _) (by omega)
  · have e : stL l x 0 = ([], false) := by unfold stL; simp
    rw [e] at h
    exact h
  · intro i h0 hlt ih
    have hw : wrap64 (i + 1) = i + 1 := w64 (by omega) (by omega)
    obtain ⟨j, rfl⟩ : ∃ j : Nat, i = j := ⟨i.toNat, by omega⟩
    have hj : j < l.length := by omega
    have ej : ((j : Int) + 1).toNat = j + 1 := by omega
    simp only [spec_LinesAdd.l0, hw, rdL_nat hj, l09Before_ev, Option.bind_some]
    have tk : l.take j ++ [l[j]] = l.take (j + 1) := by rw [List.take_succ_eq_append_getElem hj]
    refine Evt.pos hlt ?_
    by_cases h1 : j ≤ insAt llt l x
    · have e : stL l x (j : Int) = (l.take j, false) := by unfold stL; rw [Int.toNat_natCast, if_pos h1]
      rw [e]
      refine Evt.neg (by simp) (Evt.pos h0 ?_)
      by_cases h2 : j = insAt llt l x
      · have hb : llt x l[j] := by
          have := idxP_yes (p := llt x) (l := l) (by have e2 : insAt llt l x = idxP (llt x) l := rfl; omega)
          have e2 : idxP (llt x) l = j := h2.symm
          simp only [e2] at this
          exact this
        have e3 : stL l x ((j : Int) + 1) = (l.take j ++ [x] ++ [l[j]], true) := by
          unfold stL
          rw [ej, if_neg (by omega), ← h2, show j + 1 - j = 1 by omega, List.drop_eq_getElem_cons hj, List.take_succ_cons, List.take_zero]
        rw [e3] at ih
        exact Evt.pos (B_true hb) (Evt.pos (by simp; omega) (Evt.pos (by simp; omega) ih))
      · have hb : ¬ llt x l[j] := idxP_no (p := llt x) (l := l) (by have e2 : insAt llt l x = idxP (llt x) l := rfl; omega)
        have e3 : stL l x ((j : Int) + 1) = (l.take (j + 1), false) := by unfold stL; rw [ej, if_pos (by omega)]
        rw [e3] at ih
        refine Evt.neg (fun hh => hb (B_iff.1 hh)) (Evt.pos (by simp; omega) ?_)
        dsimp only
        rw [show l.take j ++ [(⟨l[j].f0, l[j].f1, l[j].f2, l[j].f3, l[j].f4, l[j].f5, l[j].f6, l[j].f7⟩ : LX)] = l.take (j + 1) from tk]
        exact ih
    · have e : stL l x (j : Int) = (l.take (insAt llt l x) ++ [x] ++ (l.drop (insAt llt l x)).take (j - insAt llt l x), true) := by unfold stL; rw [Int.toNat_natCast, if_neg h1]
      have e3 : stL l x ((j : Int) + 1) = (l.take (insAt llt l x) ++ [x] ++ (l.drop (insAt llt l x)).take (j - insAt llt l x) ++ [l[j]], true) := by
        unfold stL
        rw [ej, if_neg (by omega), show j + 1 - insAt llt l x = (j - insAt llt l x) + 1 by omega, List.take_succ_eq_append_getElem (by rw [List.length_drop]; omega), List.getElem_drop]
        simp only [show insAt llt l x + (j - insAt llt l x) = j by omega, List.append_assoc]
      rw [e]
      rw [e3] at ih
      refine Evt.pos rfl (Evt.pos h0 (Evt.pos ?_ ih))
      simp
      omega
  · simp only [spec_LinesAdd.l0]
    refine Evt.neg (by omega) ?_
    have fin : Evt (fun k => (spec_LinesRight.f k (insL l x)).bind fun t => if t = true then some (insL l x) else some l) (@ite _ (LinesP (insL l x)) (Classical.propDecidable _) (insL l x) l) := by
      refine Evt.bind (specLines_ev _ hso) ?_
      by_cases hr : LinesP (insL l x)
      · rw [if_pos hr]
        exact Evt.pos (B_true hr) (Evt.pure _)
      · rw [if_neg hr]
        exact Evt.neg (fun hh => hr (B_iff.1 hh)) (Evt.pure _)
    by_cases h1 : l.length ≤ insAt llt l x
    · have e : stL l x (l.length : Int) = (l, false) := by unfold stL; rw [Int.toNat_natCast, if_pos h1, List.take_length]
      have e2 : insL l x = l ++ [x] := by unfold insL; rw [List.take_of_length_le h1, List.drop_of_length_le h1, List.append_nil]
      rw [e]
      rw [e2] at fin ⊢
      exact Evt.neg (by simp) (Evt.pos (by dsimp only; omega) fin)
    · have e : stL l x (l.length : Int) = (insL l x, true) := by
        have e5 : (l.drop (insAt llt l x)).take (l.length - insAt llt l x) = l.drop (insAt llt l x) := List.take_of_length_le (by rw [List.length_drop]; omega)
        unfold stL insL
        rw [Int.toNat_natCast, if_neg h1, e5]
      rw [e]
      exact Evt.pos rfl fin
theorem specAdd_ev (l : List LX) (x : LX) (hn : (l.length : Int) ≤ 400) (hs : ∀ y ∈ l, okS y) (hx : okS x) : Evt (fun k => spec_LinesAdd.f k l x.f0 x.f1 x.f2 x.f3 x.f4 x.f5 x.f6 x.f7) (addL l x) := by
  unfold spec_LinesAdd.f addL
  simp only [Option.bind_some, List.nil_append]
  refine Evt.neg (by omega) (Evt.pos (by simp; omega) (Evt.bind (specLines_ev l hs) ?_))
  by_cases h1 : LinesP l
  · refine Evt.pos (B_true h1) ((specAdd_l l x hn hs hx).same ?_)
    by_cases h2 : LinesP (insL l x)
    · rw [if_pos h2, if_pos ⟨h1, h2⟩]
    · rw [if_neg h2, if_neg (fun h => h2 h.2)]
  · rw [if_neg (fun h => h1 h.1)]
    exact Evt.neg (fun hh => h1 (B_iff.1 hh)) (Evt.pure _)
theorem findLine_ev (l : List LX) (x : LX) (hn : (l.length : Int) ≤ 400) : ∃ r : Int × Bool, Evt (fun k => impl_OrderLine_impl_lineOrder.f k l x.f0 x.f1 x.f2 x.f3 x.f4 x.f5 x.f6 x.f7) r ∧
    (l.Pairwise llt → r.1 = ((idxP (fun y => ¬ llt y x) l : Nat) : Int) ∧ (r.2 = true ↔ ∃ h : idxP (fun y => ¬ llt y x) l < l.length, ¬ llt x (l[idxP (fun y => ¬ llt y x) l]))) := by
  have hlo : ∀ (y : LX), Evt (fun k => impl_lineOrder.f k y.f0 y.f1 y.f2 y.f3 y.f4 y.f5 y.f6 y.f7 x.f0 x.f1 x.f2 x.f3 x.f4 x.f5 x.f6 x.f7) (lcmp y.f0 y.f1 y.f2 x.f0 x.f1 x.f2) := fun y => lineOrder_ev _ _ _ _ _ _ _ _ _ _ _ _ _ _ _ _
  have step : ∀ lo hi, 0 ≤ lo → lo < hi → hi ≤ (l.length : Int) → (llt (rd_T54 l ((lo + hi) / 2)) x → ∀ r, Evt (fun k => impl_OrderLine_impl_lineOrder.l0 k l (l.length : Int) ((lo + hi) / 2 + 1) hi x.f0 x.f1 x.f2 x.f3 x.f4 x.f5 x.f6 x.f7) r → Evt (fun k => impl_OrderLine_impl_lineOrder.l0 (k + 1) l (l.length : Int) lo hi x.f0 x.f1 x.f2 x.f3 x.f4 x.f5 x.f6 x.f7) r) ∧
      (¬ llt (rd_T54 l ((lo + hi) / 2)) x → ∀ r, Evt (fun k => impl_OrderLine_impl_lineOrder.l0 k l (l.length : Int) lo ((lo + hi) / 2) x.f0 x.f1 x.f2 x.f3 x.f4 x.f5 x.f6 x.f7) r → Evt (fun k => impl_OrderLine_impl_lineOrder.l0 (k + 1) l (l.length : Int) lo hi x.f0 x.f1 x.f2 x.f3 x.f4 x.f5 x.f6 x.f7) r) := by
    intro lo hi h0 hlt h2
    have hm := mid_eq lo hi h0 hlt (by omega)
    have hw : wrap64 ((lo + hi) / 2 + 1) = (lo + hi) / 2 + 1 := w64 (by omega) (by omega)
    simp only [impl_OrderLine_impl_lineOrder.l0, hm, hw]
    exact ⟨fun g r hr => Evt.pos hlt (Evt.pos (by omega) (Evt.pos (by omega) (Evt.bind (hlo _) (Evt.pos ((lcmp_neg _ _ _ _ _ _).2 g) hr)))), fun g r hr => Evt.pos hlt (Evt.pos (by omega) (Evt.pos (by omega) (Evt.bind (hlo _) (Evt.neg (fun hh => g ((lcmp_neg _ _ _ _ _ _).1 hh)) hr))))⟩
  have stop : ∀ lo, 0 ≤ lo → lo ≤ (l.length : Int) → Evt (fun k => impl_OrderLine_impl_lineOrder.l0 (k + 1) l (l.length : Int) lo lo x.f0 x.f1 x.f2 x.f3 x.f4 x.f5 x.f6 x.f7)
      (lo, (@ite _ (lo < (l.length : Int)) (Classical.propDecidable _) (lcmp (rd_T54 l lo).f0 (rd_T54 l lo).f1 (rd_T54 l lo).f2 x.f0 x.f1 x.f2 == 0) false)) := by
    intro lo h0 h1
    simp only [impl_OrderLine_impl_lineOrder.l0]
    refine Evt.neg (by omega) ?_
    by_cases g : lo < (l.length : Int)
    · rw [if_pos g]
      exact Evt.pos g (Evt.pos h0 (Evt.pos g (Evt.bind (hlo _) (Evt.pure _))))
    · rw [if_neg g]
      exact Evt.neg g (Evt.pure _)
  unfold impl_OrderLine_impl_lineOrder.f
  by_cases hs : l.Pairwise llt
  · obtain ⟨p, p0, p1, hp, q1, q2⟩ := bin_loop (l.length : Int) (by omega) (fun i => llt (rd_T54 l i) x) (fun k lo hi => impl_OrderLine_impl_lineOrder.l0 k l (l.length : Int) lo hi x.f0 x.f1 x.f2 x.f3 x.f4 x.f5 x.f6 x.f7) _ step stop (by
      intro i j h0 hij hj hn'
      by_cases g : i < j
      · obtain ⟨a, rfl⟩ : ∃ a : Nat, i = a := ⟨i.toNat, by omega⟩
        obtain ⟨b, rfl⟩ : ∃ b : Nat, j = b := ⟨j.toNat, by omega⟩
        have h3 := List.pairwise_iff_getElem.1 hs a b (by omega) (by omega) (by omega)
        rw [rdL_nat (show b < l.length by omega)] at hn'
        rw [rdL_nat (show a < l.length by omega)]
        exact llt_ord.tr h3 hn'
      · have e : i = j := by omega
        rw [e]; exact hn')
    refine ⟨_, hp, fun _ => ?_⟩
    obtain ⟨a, rfl⟩ : ∃ a : Nat, p = a := ⟨p.toNat, by omega⟩
    have ei : idxP (fun y => ¬ llt y x) l = a := idxP_eq (by omega) (fun i hi hia hnn => hnn (by
      have := q1 (i : Int) (by omega) (by omega)
      rw [rdL_nat hi] at this
      exact this)) (fun hi => by
      have := q2 (a : Int) (Int.le_refl _) (by omega)
      rw [rdL_nat hi] at this
      exact this)
    refine ⟨by rw [ei], ?_⟩
    by_cases g : (a : Int) < (l.length : Int)
    · have ga : a < l.length := by omega
      rw [if_pos g, rdL_nat ga]
      have hq := q2 (a : Int) (Int.le_refl _) g
      rw [rdL_nat ga] at hq
      constructor
      · intro hb
        have hz : lcmp l[a].f0 l[a].f1 l[a].f2 x.f0 x.f1 x.f2 = 0 := by simpa using hb
        exact ⟨by omega, by simp only [ei]; exact ((lcmp_zero _ _ _ _ _ _).1 hz).2⟩
      · rintro ⟨h1, h2⟩
        simp only [ei] at h2
        have hz : lcmp l[a].f0 l[a].f1 l[a].f2 x.f0 x.f1 x.f2 = 0 := (lcmp_zero _ _ _ _ _ _).2 ⟨hq, h2⟩
        simpa using hz
    · rw [if_neg g]
      constructor
      · intro hb; cases hb
      · rintro ⟨h1, _⟩
        omega
  · obtain ⟨p, p0, p1, hp⟩ := bin_some (l.length : Int) (by omega) (fun i => llt (rd_T54 l i) x) (fun k lo hi => impl_OrderLine_impl_lineOrder.l0 k l (l.length : Int) lo hi x.f0 x.f1 x.f2 x.f3 x.f4 x.f5 x.f6 x.f7) _ step stop
    exact ⟨_, hp, fun h => absurd h hs⟩
theorem implAdd_ev (l : List LX) (x : LX) (hn : (l.length : Int) ≤ 400) (hs : ∀ y ∈ l, okS y) (hx : okS x) : Evt (fun k => impl_LinesAdd.f k l x.f0 x.f1 x.f2 x.f3 x.f4 x.f5 x.f6 x.f7) (addL l x) := by
  obtain ⟨r, hr, hri⟩ := findLine_ev l x hn
  have hj : ∀ at_, Evt (fun k => impl_LinesAdd.j0 k l at_ true x.f0 x.f1 x.f2 x.f3 x.f4 x.f5 x.f6 x.f7) l := fun at_ => by
    apply Evt.succ
    simp only [impl_LinesAdd.j0, slices_Clone_implOrderLine.f]
    refine Evt.pos trivial (Evt.bind (Evt.const (if_pos (by omega))) (Evt.pure _))
  unfold impl_LinesAdd.f impl_OrderLine_95.f addL
  simp only [Option.bind_some]
  refine Evt.neg (by simp; omega) (Evt.bind hr (Evt.bind (implLines_ev l hs) ?_))
  by_cases h1 : LinesP l
  · refine Evt.pos (B_true h1) (Evt.bind (implLine_ev _ _ _ _ _ _ _ _ hx.1 hx.2.1 hx.2.2) ?_)
    obtain ⟨g1, g2, g3⟩ := (LinesP_iff l).1 h1
    obtain ⟨e1, e2⟩ := hri g3
    by_cases h2 : lineX x
    · refine Evt.pos h2 ?_
      by_cases h3 : ∀ y ∈ l, llt x y ∨ llt y x
      · have e3 : r.2 = false := by
          rw [← Bool.not_eq_true]
          exact fun hb => (ins_is llt_ord g3).1 (e2.1 hb) h3
        refine Evt.neg (by rw [e3]; decide) ?_
        by_cases h4 : (l.length : Int) = 200
        · rw [if_neg (fun h => by have := ((insL_right h1).1 h.2).2.2; omega), show ((l.length : Int) == 200) = true by simp [h4]]
          exact hj _
        · rw [if_pos ⟨h1, (insL_right h1).2 ⟨h2, h3, by omega⟩⟩, show ((l.length : Int) == 200) = false by simp [h4]]
          have e4 : r.1 = ((insAt llt l x : Nat) : Int) := by rw [e1, ins_same llt_ord h3]
          have hk : insAt llt l x ≤ l.length := idxP_le _ _
          apply Evt.succ
          simp only [impl_LinesAdd.j0, slices_Clone_implOrderLine.f, slices_Insert_implOrderLine.f, e4]
          refine Evt.neg (by simp) (Evt.bind (Evt.const (if_pos (by omega))) (Evt.bind (Evt.pos (by omega) (Evt.pos (by omega) (Evt.pos rfl (Evt.pos (by omega) (Evt.pure _))))) ?_))
          rw [Int.toNat_natCast]
          exact Evt.pure _
      · have e3 : r.2 = true := e2.2 ((ins_is llt_ord g3).2 h3)
        rw [if_neg (fun h => h3 ((insL_right h1).1 h.2).2.1)]
        exact Evt.pos e3 (hj _)
    · rw [if_neg (fun h => h2 ((insL_right h1).1 h.2).1)]
      exact Evt.neg h2 (hj _)
  · rw [if_neg (fun h => h1 h.1)]
    exact Evt.neg (fun hh => h1 (B_iff.1 hh)) (hj _)
end Go.Proofs.Ytefmkmhjbfpelaa.QP
namespace Go.Proofs.Ytefmkmhjbfpelaa.QP
open Go.RowKit Go.Proofs.Ytefmkmhjbfpelaa Go.Proofs.YtefmkmhjbfpelaaW.PrintWords Go.Proofs.Ytefmkmhjbfpelaa.Ev0
theorem addL_len (l : List LX) (x : LX) (h : l.length ≤ 200) : (addL l x).length ≤ 200 := by
  unfold addL
  split
  · rename_i hp
    have := hp.2.1
    omega
  · exact h
theorem addL_ok (l : List LX) (x : LX) (h : ∀ y ∈ l, okS y) (hx : okS x) : ∀ y ∈ addL l x, okS y := by
  unfold addL
  split
  · intro y hy
    exact ((insL_mem l x y).1 hy).elim (fun e => e ▸ hx) (h y)
  · exact h
theorem dline_ev (b : List Int) (hb : (b.length : Int) ≤ 1048576) (t m s : Int) (ht : Pl b t) :
    ∃ (x : LX) (t' m' : Int), Evt (fun k => spec_l01Src_l09Line.f k b t m s) (x.f0, x.f1, x.f2, x.f3, x.f4, x.f5, x.f6, x.f7, t', m', s) ∧ Pl b t' ∧ okS x := by
  obtain ⟨p, q, n, i, o, u, g, c, t', m', h, hp, h1, h2, h3⟩ := line_ev b hb t m s ht
  exact ⟨⟨p, q, n, i, o, u, g, c⟩, t', m', h, hp, by dsimp only at h1; exact Int.le_trans h1 (by decide), by dsimp only at h2; exact Int.le_trans h2 (by decide), by dsimp only at h3; exact Int.le_trans h3 (by decide)⟩
def okQL (q : List LX) : Prop := q.length ≤ 300 ∧ ∀ x ∈ q, okS x
theorem dlines_j2 (b : List Int) (hb : (b.length : Int) ≤ 1048576) (t m s : Int) (ht : Pl b t) (q : List LX) (hq : q.length ≤ 250) (hqo : ∀ x ∈ q, okS x) : ∃ q' t' m', Evt (fun k => spec_l01Src_l09Lines.j2 k q b t m s) (q', t', m', s) ∧ Pl b t' ∧ okQL q' := by
  obtain ⟨r, t1, m1, e1, h1⟩ := draw_one_ev b hb t m s 15 ht (by decide)
  by_cases hr : r = true
  · obtain ⟨x, t2, m2, e2, h2, hx⟩ := dline_ev b hb t1 m1 s h1
    refine ⟨q ++ [x], t2, m2, Evt.succ ?_, h2, by simp; omega, fun y hy => (List.mem_append.1 hy).elim (hqo y) (fun hy => by rw [List.mem_singleton.1 hy]; exact hx)⟩
    simp only [spec_l01Src_l09Lines.j2, e1, Option.bind_some, List.nil_append]
    exact Evt.pos hr (Evt.pos (by simp; omega) (Evt.bind e2 (Evt.pos (by omega) (Evt.pure _))))
  · refine ⟨q, t1, m1, Evt.succ ?_, h1, by omega, hqo⟩
    simp only [spec_l01Src_l09Lines.j2, e1, Option.bind_some]
    exact Evt.neg hr (Evt.pure _)
theorem dlines_l1 (b : List Int) (hb : (b.length : Int) ≤ 1048576) (s : Int) (d : Nat) : ∀ (q : List LX) (i t m : Int), Pl b t → q.length ≤ 250 → (∀ x ∈ q, okS x) → 202 - (q.length : Int) ≤ d → ∃ q' t' m', Evt (fun k => spec_l01Src_l09Lines.l1 k q i b t m s) (q', t', m', s) ∧ Pl b t' ∧ okQL q' := by
  induction d with
  | zero =>
    intro q i t m ht hq hqo hd
    obtain ⟨x, t1, m1, e1, h1, z0, z1⟩ := n_ev b hb t m s 3 ht (by decide)
    obtain ⟨q', t', m', h, h2⟩ := dlines_j2 b hb t1 m1 s h1 q hq hqo
    refine ⟨q', t', m', Evt.succ ?_, h2⟩
    have hw : wrap64 (199 + x) = 199 + x := w64 (by omega) (by omega)
    simp only [spec_l01Src_l09Lines.l1, e1, Option.bind_some, hw]
    exact Evt.neg (by omega) h
  | succ d ih =>
    intro q i t m ht hq hqo hd
    obtain ⟨x, t1, m1, e1, h1, z0, z1⟩ := n_ev b hb t m s 3 ht (by decide)
    have hw : wrap64 (199 + x) = 199 + x := w64 (by omega) (by omega)
    by_cases g : (q.length : Int) < 199 + x
    · obtain ⟨q', t', m', h, h2⟩ := ih (q ++ [(⟨⟨#[65, 67, 77, 69]⟩, ⟨#[80, 79, 45, 49]⟩, wrap64 (i + 1), ⟨#[78, 85, 84]⟩, 5, 0, 0, 0⟩ : LX)]) (wrap64 (i + 1)) t1 m1 h1 (by simp; omega) (fun y hy => by
        rcases List.mem_append.1 hy with hy | hy
        · exact hqo y hy
        · rw [List.mem_singleton.1 hy]
          exact ⟨by show (((⟨#[65, 67, 77, 69]⟩ : ByteArray).size : Int)) ≤ 9223372036854775807; decide, by show (((⟨#[80, 79, 45, 49]⟩ : ByteArray).size : Int)) ≤ 9223372036854775807; decide, by show (((⟨#[78, 85, 84]⟩ : ByteArray).size : Int)) ≤ 9223372036854775807; decide⟩) (by simp; omega)
      refine ⟨q', t', m', Evt.succ ?_, h2⟩
      simp only [spec_l01Src_l09Lines.l1, e1, Option.bind_some, hw]
      exact Evt.pos g (Evt.pos (by omega) h)
    · obtain ⟨q', t', m', h, h2⟩ := dlines_j2 b hb t1 m1 s h1 q hq hqo
      refine ⟨q', t', m', Evt.succ ?_, h2⟩
      simp only [spec_l01Src_l09Lines.l1, e1, Option.bind_some, hw]
      exact Evt.neg g h
theorem dlines_end (b : List Int) (hb : (b.length : Int) ≤ 1048576) (t m s : Int) (ht : Pl b t) (q : List LX) (hq : q.length ≤ 200) (hqo : ∀ x ∈ q, okS x) (i : Int) (hi : ¬ i > 0) : ∃ q' t' m', Evt (fun k => spec_l01Src_l09Lines.l0 (k + 1) q i b t m s) (q', t', m', s) ∧ Pl b t' ∧ okQL q' := by
  obtain ⟨r, t1, m1, e1, h1⟩ := draw_one_ev b hb t m s 50 ht (by decide)
  by_cases hr : r = true
  · obtain ⟨q', t', m', h, h2⟩ := dlines_l1 b hb s 202 [] 0 t1 m1 h1 (by simp) (by simp) (by simp)
    refine ⟨q', t', m', ?_, h2⟩
    simp only [spec_l01Src_l09Lines.l0, e1, Option.bind_some]
    exact Evt.neg hi (Evt.pos hr h)
  · obtain ⟨q', t', m', h, h2⟩ := dlines_j2 b hb t1 m1 s h1 q (by omega) hqo
    refine ⟨q', t', m', ?_, h2⟩
    simp only [spec_l01Src_l09Lines.l0, e1, Option.bind_some]
    exact Evt.neg hi (Evt.neg hr h)
theorem dlines_l0 (b : List Int) (hb : (b.length : Int) ≤ 1048576) (s : Int) (d : Nat) : ∀ (q : List LX) (i t m : Int), Pl b t → q.length ≤ 200 → (∀ x ∈ q, okS x) → i ≤ d → i ≤ 1000 → ∃ q' t' m', Evt (fun k => spec_l01Src_l09Lines.l0 k q i b t m s) (q', t', m', s) ∧ Pl b t' ∧ okQL q' := by
  induction d with
  | zero =>
    intro q i t m ht hq hqo hd _
    obtain ⟨q', t', m', h, h2⟩ := dlines_end b hb t m s ht q hq hqo i (by omega)
    exact ⟨q', t', m', h.succ, h2⟩
  | succ d ih =>
    intro q i t m ht hq hqo hd h1000
    by_cases g : i > 0
    · obtain ⟨x, t2, m2, e2, h2, hx⟩ := dline_ev b hb t m s ht
      have hput := specAdd_ev q x (by omega) hqo hx
      have hw : wrap64 (i - 1) = i - 1 := w64 (by omega) (by omega)
      obtain ⟨q', t', m', h, h3⟩ := ih (addL q x) (i - 1) t2 m2 h2 (addL_len q x hq) (addL_ok q x hqo hx) (by omega) (by omega)
      refine ⟨q', t', m', Evt.succ ?_, h3⟩
      simp only [spec_l01Src_l09Lines.l0, hw]
      exact Evt.pos g (Evt.bind e2 (Evt.bind hput h))
    · obtain ⟨q', t', m', h, h2⟩ := dlines_end b hb t m s ht q hq hqo i g
      exact ⟨q', t', m', h.succ, h2⟩
theorem dlines_ev (b : List Int) (hb : (b.length : Int) ≤ 1048576) (t m s : Int) (ht : Pl b t) (s0 : 0 ≤ s) (s1 : s ≤ 12) : ∃ q' t' m', Evt (fun k => spec_l01Src_l09Lines.f k b t m s) (q', t', m', s) ∧ Pl b t' ∧ okQL q' := by
  have hw : wrap64 (4 + s) = 4 + s := w64 (by omega) (by omega)
  obtain ⟨x, t1, m1, e1, h1, z0, z1⟩ := n_ev b hb t m s (4 + s) ht (by omega)
  obtain ⟨q', t', m', h, h2⟩ := dlines_l0 b hb s 20 [] x t1 m1 h1 (by simp) (by simp) (by omega) (by omega)
  refine ⟨q', t', m', ?_, h2⟩
  unfold spec_l01Src_l09Lines.f
  simp only [hw, e1, Option.bind_some]
  exact h
theorem drawAdd_ev (b : List Int) (hb : (b.length : Int) ≤ 1048576) : ∃ (q : List LX) (x : LX), Evt (fun k => spec_DrawLinesAdd.f k b) (q, x.f0, x.f1, x.f2, x.f3, x.f4, x.f5, x.f6, x.f7) ∧ okQL q ∧ okS x := by
  obtain ⟨m, s, e0, s0, s1⟩ := src_ev b hb
  obtain ⟨q, t1, m1, e1, h1, hq⟩ := dlines_ev b hb 0 m s ⟨Int.le_refl _, by omega⟩ s0 s1
  obtain ⟨x, t2, m2, e2, h2, hx⟩ := dline_ev b hb t1 m1 s h1
  refine ⟨q, x, ?_, hq, hx⟩
  unfold spec_DrawLinesAdd.f
  exact Evt.bind e0 (Evt.bind e1 (Evt.bind e2 (Evt.pure _)))
end Go.Proofs.Ytefmkmhjbfpelaa.QP
namespace Go.Proofs.Ytefmkmhjbfpelaa.QP
open Go.RowKit Go.Proofs.YtefmkmhjbfpelaaW.PrintWords Go.Proofs.Ytefmkmhjbfpelaa.Ev0
theorem longText_ev (l : List ByteArray) (hl : l.length ≤ 1000) : Evt (fun k => impl_longText.f k l) (B (∃ x ∈ l, (x.size : Int) > 20000)) := by
  unfold impl_longText.f slices_ContainsFunc_string_string_impl_longText_1.f slices_IndexFunc_string_string_impl_longText_1.f
  obtain ⟨r, hr, h⟩ := find_loop (l.length : Int) (by omega) (fun i => ((rdOf ByteArray.empty l i).size : Int) > 20000) (fun k i => slices_IndexFunc_string_string_impl_longText_1.l0 k l (l.length : Int) i) (by
      intro i h0 hlt
      have hw : wrap64 (i + 1) = i + 1 := w64 (by omega) (by omega)
      simp only [slices_IndexFunc_string_string_impl_longText_1.l0, impl_longText_1.f, Option.bind_some, hw]
      exact ⟨fun hp => Evt.pos hlt (Evt.pos h0 (Evt.pos hlt (Evt.pos (decide_eq_true hp) (Evt.pure _)))), fun hp r hr => Evt.pos hlt (Evt.pos h0 (Evt.pos hlt (Evt.neg (by simpa using hp) hr)))⟩) (by
      simp only [slices_IndexFunc_string_string_impl_longText_1.l0]
      exact Evt.neg (by omega) (Evt.pure _))
  have at_ : ∀ i : Int, 0 ≤ i → i < (l.length : Int) → rdOf ByteArray.empty l i ∈ l := fun i h0 h1 => by
    unfold rdOf
    rw [getD_at l _ _ (by omega)]
    exact List.getElem_mem _
  refine Evt.bind (Evt.bind hr (Evt.pure _)) ((Evt.pure _).same ?_)
  rw [decide_B]
  refine B_congr ⟨fun hg => ?_, fun ⟨x, hx, hg⟩ => ?_⟩
  · rcases h with ⟨h1, _⟩ | ⟨h1, h2, h3, _⟩
    · omega
    · exact ⟨_, at_ r h1 h2, h3⟩
  · rcases h with ⟨h1, h2⟩ | ⟨h1, _⟩
    · obtain ⟨i, hi, rfl⟩ := List.mem_iff_getElem.1 hx
      refine absurd ?_ (h2 i (by omega) (by omega))
      show ((rdOf ByteArray.empty l (i : Int)).size : Int) > 20000
      unfold rdOf
      rw [Int.toNat_natCast, getD_at l _ _ hi]
      exact hg
    · exact h1
end Go.Proofs.Ytefmkmhjbfpelaa.QP
namespace Go.Proofs.Ytefmkmhjbfpelaa.QP
open Go.RowKit Go.Proofs.Ytefmkmhjbfpelaa Go.Proofs.YtefmkmhjbfpelaaW.PrintWords Go.Proofs.Ytefmkmhjbfpelaa.Ev0
def FirstP (n : Int) (p : Int → Prop) (r : Int) : Prop := (r = -1 ∧ ∀ j, 0 ≤ j → j < n → ¬ p j) ∨ (0 ≤ r ∧ r < n ∧ p r ∧ ∀ j, 0 ≤ j → j < r → ¬ p j)
theorem FirstP.uniq {n : Int} {p : Int → Prop} {r r' : Int} (h : FirstP n p r) (h' : FirstP n p r') : r = r' := by
  rcases h with ⟨h1, h2⟩ | ⟨h1, h2, h3, h4⟩ <;> rcases h' with ⟨g1, g2⟩ | ⟨g1, g2, g3, g4⟩
  · omega
  · exact absurd g3 (h2 _ g1 g2)
  · exact absurd h3 (g2 _ h1 h2)
  · rcases Int.lt_trichotomy r r' with h | h | h
    · exact absurd h3 (g4 _ h1 h)
    · exact h
    · exact absurd g3 (h4 _ g1 h)
def isLineP (l : List S54) (p q : ByteArray) (n : Int) (i : Int) : Prop :=
  (rd_T54 l i).f0.toList = p.toList ∧ (rd_T54 l i).f1.toList = q.toList ∧ (rd_T54 l i).f2 = n
theorem lineAt_p (l : List S54) (p q : ByteArray) (n : Int) (i : Nat) (h : i < l.length) : impl_lineAt_p.f p q n l[i] = true ↔ isLineP l p q n i := by
  have e : rd_T54 l (i : Int) = l[i] := by unfold rd_T54; rw [Int.toNat_natCast, getD_at l _ _ h]
  unfold isLineP impl_lineAt_p.f
  rw [e]
  simp
theorem lineAt_first (l : List S54) (p q : ByteArray) (n : Int) : FirstP l.length (isLineP l p q n) (impl_lineAt_ix.f l p q n) := by
  unfold impl_lineAt_ix.f
  have hno : ∀ j : Int, 0 ≤ j → j < (l.length : Int) → j < (l.findIdx (impl_lineAt_p.f p q n) : Int) → ¬ isLineP l p q n j := by
    intro j h0 h1 h2 h3
    obtain ⟨i, rfl⟩ : ∃ i : Nat, j = i := ⟨j.toNat, by omega⟩
    have hi : i < l.length := by omega
    have := List.not_of_lt_findIdx (p := impl_lineAt_p.f p q n) (xs := l) (i := i) (by omega)
    rw [(lineAt_p l p q n i hi).2 h3] at this
    cases this
  by_cases h : l.findIdx (impl_lineAt_p.f p q n) < l.length
  · rw [if_pos h]
    exact .inr ⟨by omega, by omega, (lineAt_p l p q n _ h).1 (List.findIdx_getElem (w := h)), fun j h0 h1 => hno j h0 (by omega) h1⟩
  · rw [if_neg h]
    exact .inl ⟨rfl, fun j h0 h1 => hno j h0 h1 (by omega)⟩
theorem lineAt_ev (l : List S54) (p q : ByteArray) (n : Int) : impl_lineAt.f l p q n = some (impl_lineAt_ix.f l p q n) := rfl
end Go.Proofs.Ytefmkmhjbfpelaa.QP
namespace Go.Proofs.Ytefmkmhjbfpelaa.Pure
open Go.RowKit Go.Proofs.Ytefmkmhjbfpelaa Go.Proofs.Ytefmkmhjbfpelaa.QP Go.Proofs.YtefmkmhjbfpelaaW.PrintWords Go.Proofs.Ytefmkmhjbfpelaa.Ev0
theorem find_at (r : List LX) (hr : LinesP r) (hs : ∀ x ∈ r, okS x) (i : Nat) (hi : i < r.length) : Evt (fun k => impl_LineFind.f k r r[i].f0 r[i].f1 r[i].f2) (i : Int) := by
  obtain ⟨g1, g2, g3⟩ := (LinesP_iff r).1 hr
  have hx := g2 _ (List.getElem_mem hi)
  obtain ⟨n1, n2, _⟩ := B_iff.1 hx
  have hlt := longText_ev [r[i].f0, r[i].f1] (by simp)
  have hf : ¬ ∃ x ∈ [r[i].f0, r[i].f1], (x.size : Int) > 20000 := by
    rintro ⟨x, hx, h⟩
    simp only [List.mem_cons, List.not_mem_nil, or_false] at hx
    rcases hx with rfl | rfl
    · have := n1.2.1; omega
    · have := n2.2.1; omega
  rw [B_false hf] at hlt
  have e : impl_lineAt_ix.f r r[i].f0 r[i].f1 r[i].f2 = (i : Int) := by
    refine FirstP.uniq (lineAt_first r _ _ _) (.inr ⟨by omega, by omega, ?_, fun j h0 hj => ?_⟩)
    · unfold isLineP
      rw [rdL_nat hi]
      exact ⟨rfl, rfl, rfl⟩
    · obtain ⟨m, rfl⟩ : ∃ m : Nat, j = m := ⟨j.toNat, by omega⟩
      unfold isLineP
      rw [rdL_nat (show m < r.length by omega)]
      rintro ⟨e1, e2, e3⟩
      rcases List.pairwise_iff_getElem.1 g3 m i (by omega) hi (by omega) with h | ⟨_, h | ⟨_, h⟩⟩
      · exact less_ne h e1
      · exact less_ne h e2
      · omega
  unfold impl_LineFind.f impl_OrderLine_95.f
  simp only [Option.bind_some]
  refine Evt.neg (by simp; omega) (Evt.bind hlt ?_)
  apply Evt.succ
  simp only [impl_LineFind.j0, lineAt_ev, Option.bind_some, e]
  exact Evt.neg (by decide) (Evt.bind (implLines_ev r hs) (Evt.pos (B_true hr) (Evt.pure _)))
theorem added_l (r : List LX) (hr : LinesP r) (hs : ∀ x ∈ r, okS x) : Evt (fun k => laws_FnAdded.l0 k r r 0) true := by
  have h := up_loop (r.length : Int) (fun k (_ : Unit) i => laws_FnAdded.l0 k r r i) (fun _ => ()) (fun _ => true) ?_ ?_ 0 (Int.le_refl _) (by have := hr.1; omega)
  · exact h
  · intro i h0 hlt ih
    have hl := hr.1
    have hw : wrap64 (i + 1) = i + 1 := w64 (by omega) (by omega)
    obtain ⟨j, rfl⟩ : ∃ j : Nat, i = j := ⟨i.toNat, by omega⟩
    have hj : j < r.length := by omega
    simp only [laws_FnAdded.l0, hw, Option.bind_some, List.nil_append, rdL_nat hj]
    exact Evt.pos hlt (Evt.pos (by simp; omega) (Evt.pos h0 (Evt.pos hlt (Evt.bind (find_at r hr hs j hj) (Evt.pos rfl (Evt.neg (by simp) ih))))))
  · simp only [laws_FnAdded.l0, Option.bind_some, List.nil_append]
    have := hr.1
    exact Evt.neg (by omega) (Evt.pos (by simp; omega) (Evt.bind (implLines_ev r hs) ((Evt.pure _).same (B_true hr))))
theorem FnAdded : laws_FnAdded.Pure := by
  intro l wl
  apply Evt.ex
  unfold laws_FnAdded.f
  refine Evt.ite (fun _ => Evt.pure true) (fun hn => ?_)
  obtain ⟨q, x, hd, ⟨hq, hqo⟩, hx⟩ := drawAdd_ev l (by omega)
  have h1 := specAdd_ev q x (by omega) hqo hx
  have h2 := implAdd_ev q x (by omega) hqo hx
  simp only [Option.bind_some, List.nil_append]
  refine Evt.bind hd (Evt.bind h1 (Evt.pos (by simp; omega) (Evt.bind h2 (Evt.pos rfl (Evt.bind (specLines_ev q hqo) ?_)))))
  by_cases hp : LinesP q
  · rw [show linesB q = true from B_true hp]
    apply Evt.succ
    simp only [laws_FnAdded.j0, Bool.not_true, Bool.false_eq_true, if_false]
    refine added_l _ ?_ (addL_ok q x hqo hx)
    unfold addL
    split
    · rename_i h
      exact h.2
    · exact hp
  · rw [show linesB q = false from B_false hp]
    apply Evt.succ
    simp only [laws_FnAdded.j0, Bool.not_false, if_true]
    exact (Evt.pure _).same (by simp)
end Go.Proofs.Ytefmkmhjbfpelaa.Pure

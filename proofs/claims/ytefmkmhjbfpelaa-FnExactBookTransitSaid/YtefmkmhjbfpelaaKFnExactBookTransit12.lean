-- Merged by a program of this session (wip/tool/pack.py) out of its own texts for this claim.
import Derived.Test.YtefmkmhjbfpelaaKFnExactBookTransit0
import Derived.Test.YtefmkmhjbfpelaaKFnExactBookTransit2
import Derived.Test.YtefmkmhjbfpelaaKFnExactBookTransit8
import Derived.Test.YtefmkmhjbfpelaaKFnExactBookTransit9
import Derived.Test.YtefmkmhjbfpelaaKFnExactBookTransit11
namespace Go.Proofs.Ytefmkmhjbfpelaa.QT
open Go.RowKit Go.Proofs.YtefmkmhjbfpelaaW.PrintWords Go.Proofs.Ytefmkmhjbfpelaa.Ev0
def lbefore (a b : ByteArray) (n : Int) (a' b' : ByteArray) (n' : Int) : Prop := less a a' ∨ (a.toList = a'.toList ∧ (less b b' ∨ (b.toList = b'.toList ∧ n < n')))
theorem l09Before_ev (a b : ByteArray) (n : Int) (i : ByteArray) (o s g c : Int) (a' b' : ByteArray) (n' : Int) (i' : ByteArray) (o' s' g' c' : Int) :
    spec_l09Before.f a b n i o s g c a' b' n' i' o' s' g' c' = some (B (lbefore a b n a' b' n')) := by
  unfold spec_l09Before.f lbefore
  rcases cmpS_cases a a' with ⟨h1, h2, h3, _⟩ | ⟨h1, h2, h3, _⟩ | ⟨h1, h2, h3, _⟩
  · rw [if_neg h3, B_true (.inl h1)]
    exact congrArg some h1
  · rw [if_neg h3, B_false (fun h => h.elim h1 (fun h => h3 h.1))]
    exact congrArg some (Bool.eq_false_iff.2 h1)
  · rw [if_pos h3]
    rcases cmpS_cases b b' with ⟨g1, g2, g3, _⟩ | ⟨g1, g2, g3, _⟩ | ⟨g1, g2, g3, _⟩
    · rw [if_neg g3, B_true (.inr ⟨h3, .inl g1⟩)]
      exact congrArg some g1
    · rw [if_neg g3, B_false (fun h => h.elim h1 (fun h => h.2.elim g1 (fun h => g3 h.1)))]
      exact congrArg some (Bool.eq_false_iff.2 g1)
    · rw [if_pos g3, decide_B]
      exact congrArg some (B_congr ⟨fun h => .inr ⟨h3, .inr ⟨g3, h⟩⟩, fun h => h.elim (fun h => absurd h h1) (fun h => h.2.elim (fun h => absurd h g1) (fun h => h.2))⟩)
noncomputable def lcmp (a b : ByteArray) (n : Int) (a' b' : ByteArray) (n' : Int) : Int := orL [cmpS a a', cmpS b b', cmpI n n']
theorem lineOrder_ev (a b : ByteArray) (n : Int) (i : ByteArray) (o s g c : Int) (a' b' : ByteArray) (n' : Int) (i' : ByteArray) (o' s' g' c' : Int) :
    Evt (fun k => impl_lineOrder.f k a b n i o s g c a' b' n' i' o' s' g' c') (lcmp a b n a' b' n') := by
  unfold impl_lineOrder.f
  simp only [cmpS_ev, cmpI_ev, Option.bind_some]
  exact Evt.bind (or_ev _ (by simp)) (Evt.pure _)
theorem lcmp_iff (a b : ByteArray) (n : Int) (a' b' : ByteArray) (n' : Int) : lcmp a b n a' b' n' ≥ 0 ↔ ¬ lbefore a b n a' b' n' := by
  unfold lcmp lbefore
  rcases cmpS_cases a a' with ⟨h1, h2, h3, h4⟩ | ⟨h1, h2, h3, h4⟩ | ⟨h1, h2, h3, h4⟩
  · simp [orL, h4, h1]
  · simp [orL, h4, h1, h3]
  · rcases cmpS_cases b b' with ⟨g1, g2, g3, g4⟩ | ⟨g1, g2, g3, g4⟩ | ⟨g1, g2, g3, g4⟩
    · simp [orL, h4, h1, h3, g4, g1]
    · simp [orL, h4, h1, h3, g4, g1, g3]
    · rcases cmpI_cases n n' with ⟨e1, e2⟩ | ⟨e1, e2⟩ | ⟨e1, e2⟩
      · simp [orL, h4, h1, h3, g4, g1, g3, e1, e2]
      · simp [orL, h4, h1, h3, g4, g1, g3, e2]; omega
      · subst e1
        simp [orL, h4, h1, h3, g4, g1, g3, e2]
def okS (x : S54) : Prop := (x.f0.size : Int) ≤ 9223372036854775807 ∧ (x.f1.size : Int) ≤ 9223372036854775807 ∧ (x.f3.size : Int) ≤ 9223372036854775807
def lineOk (l : List S54) (i : Int) : Prop :=
  lineB (rd_T54 l i).f0 (rd_T54 l i).f1 (rd_T54 l i).f2 (rd_T54 l i).f3 (rd_T54 l i).f4 (rd_T54 l i).f5 (rd_T54 l i).f6 (rd_T54 l i).f7 = true ∧
    (0 < i → lbefore (rd_T54 l (i - 1)).f0 (rd_T54 l (i - 1)).f1 (rd_T54 l (i - 1)).f2 (rd_T54 l i).f0 (rd_T54 l i).f1 (rd_T54 l i).f2)
def LinesP (l : List S54) : Prop := (l.length : Int) ≤ 200 ∧ ∀ i, 0 ≤ i → i < (l.length : Int) → lineOk l i
noncomputable def linesB (l : List S54) : Bool := B (LinesP l)
theorem okS_at {l : List S54} (h : ∀ x ∈ l, okS x) (i : Int) (h1 : i < (l.length : Int)) (h0 : 0 ≤ i) : okS (rd_T54 l i) := by
  unfold rd_T54
  rw [getD_at l _ _ (by omega)]
  exact h _ (List.getElem_mem _)
theorem specLines_ev (l : List S54) (hs : ∀ x ∈ l, okS x) : Evt (fun k => spec_LinesRight.f k l) (linesB l) := by
  unfold spec_LinesRight.f
  by_cases hn : (l.length : Int) > 200
  · exact Evt.pos hn ((Evt.pure false).same (B_false (fun h => by have := h.1; omega)).symm)
  · refine Evt.neg hn ?_
    refine (right_loop (l.length : Int) (by omega) (lineOk l) True (fun k i => spec_LinesRight.l0 k l i) ?_ ?_).same (B_congr ⟨fun h => ⟨by omega, h.1⟩, fun h => ⟨h.2, trivial⟩⟩)
    · intro i h0 hlt
      have hk := okS_at hs i hlt h0
      have hw : wrap64 (i + 1) = i + 1 := w64 (by omega) (by omega)
      have hw1 : wrap64 (i - 1) = i - 1 := w64 (by omega) (by omega)
      simp only [spec_LinesRight.l0, hw, hw1, l09Before_ev, Option.bind_some]
      refine ⟨fun ok r hr => ?_, fun nok => ?_⟩
      · refine Evt.pos hlt (Evt.pos h0 (Evt.bind (specLine_ev _ _ _ _ _ _ _ _ hk.1 hk.2.1 hk.2.2) (Evt.pos ok.1 (Evt.ite (fun hp => Evt.pos (by omega) (Evt.pos (by omega) (Evt.pos (B_true (ok.2 hp)) hr))) (fun _ => hr)))))
      · refine Evt.pos hlt (Evt.pos h0 (Evt.bind (specLine_ev _ _ _ _ _ _ _ _ hk.1 hk.2.1 hk.2.2) (Evt.ite (fun hl => Evt.ite (fun hp => Evt.pos (by omega) (Evt.pos (by omega) (Evt.neg (fun hb => nok ⟨hl, fun _ => B_iff.1 hb⟩) (Evt.pure _)))) (fun hp => absurd ⟨hl, fun h => absurd h hp⟩ nok)) (fun _ => Evt.pure _))))
    · simp only [spec_LinesRight.l0]
      exact Evt.neg (by omega) ((Evt.pure true).same (B_true trivial).symm)
theorem implLines_ev (l : List S54) (hs : ∀ x ∈ l, okS x) : Evt (fun k => impl_LinesRight.f k l) (linesB l) := by
  unfold impl_LinesRight.f
  by_cases hn : (l.length : Int) > 200
  · exact Evt.pos hn ((Evt.pure false).same (B_false (fun h => by have := h.1; omega)).symm)
  · refine Evt.neg hn ?_
    refine (right_loop (l.length : Int) (by omega) (lineOk l) True (fun k i => impl_LinesRight.l0 k l l (l.length : Int) i) ?_ ?_).same (B_congr ⟨fun h => ⟨by omega, h.1⟩, fun h => ⟨h.2, trivial⟩⟩)
    · intro i h0 hlt
      have hk := okS_at hs i hlt h0
      have hw : wrap64 (i + 1) = i + 1 := w64 (by omega) (by omega)
      have hw1 : wrap64 (i - 1) = i - 1 := w64 (by omega) (by omega)
      simp only [impl_LinesRight.l0, hw, hw1]
      refine ⟨fun ok r hr => ?_, fun nok => ?_⟩
      · refine Evt.pos hlt (Evt.pos h0 (Evt.pos hlt (Evt.bind (implLine_ev _ _ _ _ _ _ _ _ hk.1 hk.2.1 hk.2.2) (Evt.pos ok.1 (Evt.ite (fun hp => Evt.pos (by omega) (Evt.pos (by omega) (Evt.bind (lineOrder_ev _ _ _ _ _ _ _ _ _ _ _ _ _ _ _ _) (Evt.neg (fun h => (lcmp_iff _ _ _ _ _ _).1 h (ok.2 hp)) hr)))) (fun _ => hr))))))
      · refine Evt.pos hlt (Evt.pos h0 (Evt.pos hlt (Evt.bind (implLine_ev _ _ _ _ _ _ _ _ hk.1 hk.2.1 hk.2.2) (Evt.ite (fun hl => Evt.ite (fun hp => Evt.pos (by omega) (Evt.pos (by omega) (Evt.bind (lineOrder_ev _ _ _ _ _ _ _ _ _ _ _ _ _ _ _ _) (Evt.pos ((lcmp_iff _ _ _ _ _ _).2 (fun hb => nok ⟨hl, fun _ => hb⟩)) (Evt.pure _))))) (fun hp => absurd ⟨hl, fun h => absurd h hp⟩ nok)) (fun _ => Evt.pure _)))))
    · simp only [impl_LinesRight.l0]
      exact Evt.neg (by omega) ((Evt.pure true).same (B_true trivial).symm)
end Go.Proofs.Ytefmkmhjbfpelaa.QT
namespace Go.Proofs.Ytefmkmhjbfpelaa.QT
open Go.RowKit Go.Proofs.Ytefmkmhjbfpelaa Go.Proofs.YtefmkmhjbfpelaaW.PrintWords Go.Proofs.Ytefmkmhjbfpelaa.Ev0
theorem szLine_ev (a b : ByteArray) (n : Int) (i : ByteArray) (o s g c t : Int) (h0 : 0 ≤ t) (h1 : t ≤ 1048576) (ha : (a.size : Int) ≤ 9223372036854775807) (hb : (b.size : Int) ≤ 9223372036854775807) (hi : (i.size : Int) ≤ 9223372036854775807) :
    ∃ r, laws_szOrderLine.f a b n i o s g c t = some r ∧ (r < 0 ∨ (0 ≤ r ∧ r ≤ t ∧ True)) := by
  unfold laws_szOrderLine.f
  refine sz_step h0 h1 (by omega) ha (fun g1 => ?_)
  rw [wsub h0 h1 (by omega) ha]
  refine sz_step g1 (by omega) (by omega) hb (fun g2 => ?_)
  rw [wsub g1 (by omega) (by omega) hb]
  refine sz_step g2 (by omega) (by omega) hi (fun g3 => ?_)
  rw [wsub g2 (by omega) (by omega) hi]
  exact ⟨_, rfl, .inr ⟨g3, Int.le_refl _, trivial⟩⟩
def okL (x : S74) : Prop := (x.f0.size : Int) ≤ 9223372036854775807 ∧ (x.f1.size : Int) ≤ 9223372036854775807 ∧ (x.f3.size : Int) ≤ 9223372036854775807
theorem okL_of {x : S74} (h : wf74 x) : okL x := by
  obtain ⟨h0, h1, _, h3, _⟩ := h
  have g0 : x.f0.size ≤ 2 ^ 63 - 1 := h0
  have g1 : x.f1.size ≤ 2 ^ 63 - 1 := h1
  have g3 : x.f3.size ≤ 2 ^ 63 - 1 := h3
  exact ⟨by omega, by omega, by omega⟩
theorem szLineS_ev (l : List S74) (hl : l.length ≤ 9223372036854775807) (hx : ∀ x ∈ l, okL x) (left : Int) (h0 : 0 ≤ left) (h1 : left ≤ 1048576) : SzR (fun k => laws_szOrderLineS.f k l left) left (l.length ≤ 1048576 ∧ ∀ i : Int, 0 ≤ i → i < (l.length : Int) → True) := by
  refine sz_loop l.length hl (fun _ => True) _ (fun k s i => laws_szOrderLineS.l0 k l s i) left h0 h1 (fun k => rfl) ?_ ?_
  · intro s i h0 hlt hs0 hs1
    have hw : wrap64 (i + 1) = i + 1 := w64 (by omega) (by omega)
    have hk : okL (rd_T74 l i) := by
      unfold rd_T74
      rw [getD_at l _ _ (by omega)]
      exact hx _ (List.getElem_mem _)
    obtain ⟨t, ht, h2⟩ := szLine_ev (rd_T74 l i).f0 (rd_T74 l i).f1 (rd_T74 l i).f2 (rd_T74 l i).f3 (rd_T74 l i).f4 (rd_T74 l i).f5 (rd_T74 l i).f6 (rd_T74 l i).f7 s hs0 hs1 hk.1 hk.2.1 hk.2.2
    simp only [laws_szOrderLineS.l0, ht, Option.bind_some, hw]
    rcases h2 with h2 | ⟨h2, h3, _⟩
    · exact .inl ⟨-1, by decide, Evt.pos hlt (Evt.pos h0 (Evt.pos h2 (Evt.pure _)))⟩
    · exact .inr ⟨t, h2, h3, trivial, fun r hr => Evt.pos hlt (Evt.pos h0 (Evt.neg (by omega) hr))⟩
  · intro s i hi
    simp only [laws_szOrderLineS.l0]
    exact Evt.neg (by omega) (Evt.pure _)
def cvLine (x : S74) : S54 := ⟨x.f0, x.f1, x.f2, x.f3, x.f4, x.f5, x.f6, x.f7⟩
theorem toLineS_ev (l : List S74) (hl : l.length ≤ 1048576) : Evt (fun k => laws_toOrderLineS.f k l) (l.map cvLine) := by
  unfold laws_toOrderLineS.f
  refine Evt.pos (by omega) (Evt.pos (by omega) ?_)
  rw [Int.toNat_natCast]
  refine fill_loop l z74 z54 cvLine (fun k acc i => laws_toOrderLineS.l0 k l acc i) ?_ ?_
  · intro acc i h0 hlt ha r hr
    have hw : wrap64 (i + 1) = i + 1 := w64 (by omega) (by omega)
    simp only [laws_toOrderLineS.l0, laws_toOrderLine.f, Option.bind_some, hw]
    exact Evt.pos hlt (Evt.pos h0 (Evt.pos (by omega) hr))
  · intro acc i hi
    simp only [laws_toOrderLineS.l0]
    exact Evt.neg (by omega) (Evt.pure _)
theorem eqLine_refl (a b : ByteArray) (n : Int) (i : ByteArray) (o s g c : Int) : laws_eqOrderLine.f a b n i o s g c a b n i o s g c = some true := by
  simp only [laws_eqOrderLine.f, if_true]
theorem eqLineS_refl (l : List S54) (hl : l.length ≤ 9000000) : Evt (fun k => laws_eqOrderLineS.f k l l) true := by
  unfold laws_eqOrderLineS.f
  refine Evt.pos rfl (all_loop (l.length : Int) (by omega) (fun k i => laws_eqOrderLineS.l0 k l l i) ?_ ?_)
  · intro i h0 hlt ih
    have hw : wrap64 (i + 1) = i + 1 := w64 (by omega) (by omega)
    simp only [laws_eqOrderLineS.l0, eqLine_refl, Option.bind_some, hw]
    exact Evt.pos hlt (Evt.pos h0 (Evt.pos hlt (Evt.pos (by simp) ih)))
  · simp only [laws_eqOrderLineS.l0]
    exact Evt.neg (by omega) (Evt.pure _)
theorem okS_map (l : List S74) (h : ∀ x ∈ l, okL x) : ∀ x ∈ l.map cvLine, okS x := by
  intro x hx
  obtain ⟨y, hy, rfl⟩ := List.mem_map.1 hx
  exact h y hy
end Go.Proofs.Ytefmkmhjbfpelaa.QT
namespace Go.Proofs.Ytefmkmhjbfpelaa.QT
open Go.RowKit Go.Proofs.Ytefmkmhjbfpelaa Go.Proofs.YtefmkmhjbfpelaaW.PrintWords Go.Proofs.Ytefmkmhjbfpelaa.Ev0
def okK (x : S117) : Prop := (x.f0.size : Int) ≤ 9223372036854775807
theorem okK_at {l : List S117} (h : ∀ x ∈ l, okK x) (i : Int) (h1 : i < (l.length : Int)) (h0 : 0 ≤ i) : okK (rd_T117 l i) := by
  unfold rd_T117
  rw [getD_at l _ _ (by omega)]
  exact h _ (List.getElem_mem _)
def stockAt (l : List S117) (i : Int) : Prop :=
  nameB (rd_T117 l i).f0 = true ∧ (0 ≤ (rd_T117 l i).f1 ∧ (rd_T117 l i).f1 ≤ 1000000000) ∧ (0 < i → less (rd_T117 l (i - 1)).f0 (rd_T117 l i).f0)
def BookP (l : List S117) (m : List S54) : Prop := (l.length : Int) ≤ 100 ∧ (∀ i, 0 ≤ i → i < (l.length : Int) → stockAt l i) ∧ linesB m = true
noncomputable def bookB (l : List S117) (m : List S54) : Bool := B (BookP l m)
theorem specBook_ev (l : List S117) (m : List S54) (hs : ∀ x ∈ l, okK x) (hm : ∀ x ∈ m, okS x) : Evt (fun k => spec_BookRight.f k l m) (bookB l m) := by
  unfold spec_BookRight.f
  have bad : ¬ BookP l m → Evt (fun k => spec_BookRight.j0 k true l m) (bookB l m) := fun h => by
    apply Evt.succ
    simp only [spec_BookRight.j0, if_true]
    exact (Evt.pure false).same (B_false h).symm
  by_cases hn : (l.length : Int) > 100
  · exact Evt.pos hn (bad (fun h => by have := h.1; omega))
  · refine Evt.neg hn (Evt.bind (specLines_ev m hm) ?_)
    by_cases hl : linesB m = true
    · rw [hl]
      simp only [Bool.not_true]
      apply Evt.succ
      simp only [spec_BookRight.j0, Bool.false_eq_true, if_false]
      refine (right_loop (l.length : Int) (by omega) (stockAt l) True (fun k i => spec_BookRight.l0 k i l m) ?_ ?_).same (B_congr ⟨fun h => ⟨by omega, h.1, hl⟩, fun h => ⟨h.2.1, trivial⟩⟩)
      · intro i h0 hlt
        have hk := okK_at hs i hlt h0
        have hw : wrap64 (i + 1) = i + 1 := w64 (by omega) (by omega)
        have hw1 : wrap64 (i - 1) = i - 1 := w64 (by omega) (by omega)
        simp only [spec_BookRight.l0, hw, hw1]
        refine ⟨fun ok r hr => ?_, fun nok => ?_⟩
        · exact Evt.pos hlt (Evt.pos h0 (Evt.bind (specName_ev _ hk) (Evt.pos ok.1 (Evt.neg (by have := ok.2.1.1; omega) (Evt.neg (by have := ok.2.1.2; omega) (Evt.ite (fun hp => Evt.pos (by omega) (Evt.pos (by omega) (Evt.pos (ok.2.2 hp) hr))) (fun _ => hr)))))))
        · exact Evt.pos hlt (Evt.pos h0 (Evt.bind (specName_ev _ hk) (Evt.ite (fun g1 => Evt.ite (fun _ => Evt.pure _) (fun g2 => Evt.ite (fun _ => Evt.pure _) (fun g3 => Evt.ite (fun hp => Evt.pos (by omega) (Evt.pos (by omega) (Evt.neg (fun hb => nok ⟨g1, ⟨by omega, by omega⟩, fun _ => hb⟩) (Evt.pure _)))) (fun hp => absurd ⟨g1, ⟨by omega, by omega⟩, fun h => absurd h hp⟩ nok)))) (fun _ => Evt.pure _))))
      · simp only [spec_BookRight.l0]
        exact Evt.neg (by omega) ((Evt.pure true).same (B_true trivial).symm)
    · rw [Bool.eq_false_iff.2 hl]
      simp only [Bool.not_false]
      exact bad (fun h => hl h.2.2)
theorem implBook_ev (l : List S117) (m : List S54) (hs : ∀ x ∈ l, okK x) (hm : ∀ x ∈ m, okS x) : Evt (fun k => impl_BookRight.f k l m) (bookB l m) := by
  unfold impl_BookRight.f
  by_cases hn : (l.length : Int) > 100
  · exact Evt.pos hn ((Evt.pure false).same (B_false (fun h => by have := h.1; omega)).symm)
  · refine Evt.neg hn ?_
    refine (right_loop (l.length : Int) (by omega) (stockAt l) (linesB m = true) (fun k i => impl_BookRight.l0 k l (l.length : Int) i l m) ?_ ?_).same (B_congr ⟨fun h => ⟨by omega, h⟩, fun h => h.2⟩)
    · intro i h0 hlt
      have hk := okK_at hs i hlt h0
      have hw : wrap64 (i + 1) = i + 1 := w64 (by omega) (by omega)
      have hw1 : wrap64 (i - 1) = i - 1 := w64 (by omega) (by omega)
      simp only [impl_BookRight.l0, hw, hw1, within_ev, Option.bind_some]
      refine ⟨fun ok r hr => ?_, fun nok => ?_⟩
      · exact Evt.pos hlt (Evt.pos h0 (Evt.pos hlt (Evt.bind (implName_ev _ hk) (Evt.pos ok.1 (Evt.pos (B_true ok.2.1) (Evt.ite (fun hp => Evt.pos (by omega) (Evt.pos (by omega) (Evt.pos (ok.2.2 hp) hr))) (fun _ => hr)))))))
      · exact Evt.pos hlt (Evt.pos h0 (Evt.pos hlt (Evt.bind (implName_ev _ hk) (Evt.ite (fun g1 => Evt.ite (fun g2 => Evt.ite (fun hp => Evt.pos (by omega) (Evt.pos (by omega) (Evt.neg (fun hb => nok ⟨g1, B_iff.1 g2, fun _ => hb⟩) (Evt.pure _)))) (fun hp => absurd ⟨g1, B_iff.1 g2, fun h => absurd h hp⟩ nok)) (fun _ => Evt.pure _)) (fun _ => Evt.pure _)))))
    · simp only [impl_BookRight.l0]
      refine Evt.neg (by omega) (Evt.bind (implLines_ev m hm) ((Evt.pure _).same ?_))
      exact bool_B Iff.rfl
theorem szStock_ev (p : ByteArray) (n x : Int) (h0 : 0 ≤ x) (h1 : x ≤ 1048576) (hp : (p.size : Int) ≤ 9223372036854775807) : ∃ r, laws_szStock.f p n x = some r ∧ (r < 0 ∨ (0 ≤ r ∧ r ≤ x ∧ True)) := by
  unfold laws_szStock.f
  refine sz_step h0 h1 (by omega) hp (fun g1 => ?_)
  rw [wsub h0 h1 (by omega) hp]
  exact ⟨_, rfl, .inr ⟨g1, Int.le_refl _, trivial⟩⟩
def okLK (x : S154) : Prop := (x.f0.size : Int) ≤ 9223372036854775807
theorem okLK_of {x : S154} (h : wf154 x) : okLK x := by
  have g0 : x.f0.size ≤ 2 ^ 63 - 1 := h.1
  show (x.f0.size : Int) ≤ _
  omega
theorem szStockS_ev (l : List S154) (hl : l.length ≤ 9223372036854775807) (hx : ∀ x ∈ l, okLK x) (left : Int) (h0 : 0 ≤ left) (h1 : left ≤ 1048576) : SzR (fun k => laws_szStockS.f k l left) left (l.length ≤ 1048576 ∧ ∀ i : Int, 0 ≤ i → i < (l.length : Int) → True) := by
  refine sz_loop l.length hl (fun _ => True) _ (fun k s i => laws_szStockS.l0 k l s i) left h0 h1 (fun k => rfl) ?_ ?_
  · intro s i h0 hlt hs0 hs1
    have hw : wrap64 (i + 1) = i + 1 := w64 (by omega) (by omega)
    have hk : okLK (rd_T154 l i) := by
      unfold rd_T154
      rw [getD_at l _ _ (by omega)]
      exact hx _ (List.getElem_mem _)
    obtain ⟨t, ht, h2⟩ := szStock_ev (rd_T154 l i).f0 (rd_T154 l i).f1 s hs0 hs1 hk
    simp only [laws_szStockS.l0, ht, Option.bind_some, hw]
    rcases h2 with h2 | ⟨h2, h3, _⟩
    · exact .inl ⟨-1, by decide, Evt.pos hlt (Evt.pos h0 (Evt.pos h2 (Evt.pure _)))⟩
    · exact .inr ⟨t, h2, h3, trivial, fun r hr => Evt.pos hlt (Evt.pos h0 (Evt.neg (by omega) hr))⟩
  · intro s i hi
    simp only [laws_szStockS.l0]
    exact Evt.neg (by omega) (Evt.pure _)
def cvStock (x : S154) : S117 := ⟨x.f0, x.f1⟩
theorem toStockS_ev (l : List S154) (hl : l.length ≤ 1048576) : Evt (fun k => laws_toStockS.f k l) (l.map cvStock) := by
  unfold laws_toStockS.f
  refine Evt.pos (by omega) (Evt.pos (by omega) ?_)
  rw [Int.toNat_natCast]
  refine fill_loop l z154 z117 cvStock (fun k acc i => laws_toStockS.l0 k l acc i) ?_ ?_
  · intro acc i h0 hlt ha r hr
    have hw : wrap64 (i + 1) = i + 1 := w64 (by omega) (by omega)
    simp only [laws_toStockS.l0, laws_toStock.f, Option.bind_some, hw]
    exact Evt.pos hlt (Evt.pos h0 (Evt.pos (by omega) hr))
  · intro acc i hi
    simp only [laws_toStockS.l0]
    exact Evt.neg (by omega) (Evt.pure _)
theorem eqStockS_refl (l : List S117) (hl : l.length ≤ 9000000) : Evt (fun k => laws_eqStockS.f k l l) true := by
  unfold laws_eqStockS.f
  refine Evt.pos rfl (all_loop (l.length : Int) (by omega) (fun k i => laws_eqStockS.l0 k l l i) ?_ ?_)
  · intro i h0 hlt ih
    have hw : wrap64 (i + 1) = i + 1 := w64 (by omega) (by omega)
    simp only [laws_eqStockS.l0, laws_eqStock.f, if_true, Option.bind_some, hw]
    exact Evt.pos hlt (Evt.pos h0 (Evt.pos hlt ih))
  · simp only [laws_eqStockS.l0]
    exact Evt.neg (by omega) (Evt.pure _)
theorem okK_map (l : List S154) (h : ∀ x ∈ l, okLK x) : ∀ x ∈ l.map cvStock, okK x := by
  intro x hx
  obtain ⟨y, hy, rfl⟩ := List.mem_map.1 hx
  exact h y hy
theorem szBook_ev (l : List S154) (m : List S74) (hl : l.length ≤ 9223372036854775807) (hx : ∀ x ∈ l, okLK x) (hm : m.length ≤ 9223372036854775807) (hy : ∀ x ∈ m, okL x) (left : Int) (h0 : 0 ≤ left) (h1 : left ≤ 1048576) :
    SzR (fun k => laws_szBook.f k l m left) left (l.length ≤ 1048576 ∧ m.length ≤ 1048576) := by
  obtain ⟨t, ht, h2⟩ := szStockS_ev l hl hx left h0 h1
  rcases h2 with h2 | ⟨h2, h3, h4, _⟩
  · exact ⟨-1, Evt.bind ht (Evt.pos h2 (Evt.pure _)), .inl (by decide)⟩
  · obtain ⟨u, hu, g2⟩ := szLineS_ev m hm hy t h2 (by omega)
    rcases g2 with g2 | ⟨g2, g3, g4, _⟩
    · exact ⟨-1, Evt.bind ht (Evt.neg (by omega) (Evt.bind hu (Evt.pos g2 (Evt.pure _)))), .inl (by decide)⟩
    · exact ⟨u, Evt.bind ht (Evt.neg (by omega) (Evt.bind hu (Evt.neg (by omega) (Evt.pure _)))), .inr ⟨g2, by omega, h4, g4⟩⟩
theorem toBook_ev (l : List S154) (m : List S74) (hl : l.length ≤ 1048576) (hm : m.length ≤ 1048576) : Evt (fun k => laws_toBook.f k l m) (l.map cvStock, m.map cvLine) :=
  Evt.bind (toStockS_ev l hl) (Evt.bind (toLineS_ev m hm) (Evt.pure _))
theorem eqBook_refl (l : List S117) (m : List S54) (hl : l.length ≤ 9000000) (hm : m.length ≤ 9000000) : Evt (fun k => laws_eqBook.f k l m l m) true :=
  Evt.bind (eqStockS_refl l hl) (Evt.pos rfl (Evt.bind (eqLineS_refl m hm) (Evt.pos rfl (Evt.pure _))))
end Go.Proofs.Ytefmkmhjbfpelaa.QT
namespace Go.Proofs.Ytefmkmhjbfpelaa.QT
open Go.RowKit Go.Proofs.YtefmkmhjbfpelaaW.PrintWords Go.Proofs.Ytefmkmhjbfpelaa.Ev0
theorem longText_ev (l : List ByteArray) (hl : l.length ≤ 1000) : Evt (fun k => impl_longText.f k l) (B (∃ x ∈ l, (x.size : Int) > 20000)) := by
  unfold impl_longText.f slices_ContainsFunc_string_string_impl_longText_1.f slices_IndexFunc_string_string_impl_longText_1.f
  obtain ⟨r, hr, h⟩ := find_loop (l.length : Int) (by omega) (fun i => ((rdOf ByteArray.empty l i).size : Int) > 20000) (fun k i => slices_IndexFunc_string_string_impl_longText_1.l0 k l (l.length : Int) i) (by
      intro i h0 hlt
      have hw : wrap64 (i + 1) = i + 1 := w64 (by omega) (by omega)
      simp only [slices_IndexFunc_string_string_impl_longText_1.l0, impl_longText_1.f, Option.bind_some, hw]
      exact ⟨fun hp => Evt.pos hlt (Evt.pos h0 (Evt.pos hlt (Evt.pos (decide_eq_true hp) (Evt.pure _)))), fun hp r hr => Evt.pos hlt (Evt.pos h0 (Evt.pos hlt (Evt.neg (by simpa using hp) hr)))⟩) (by
      simp only [slices_IndexFunc_string_string_impl_longText_1.l0]
      exact Evt.neg (by omega) (Evt.pure _))
  have at_ : ∀ i : Int, 0 ≤ i → i < (l.length : Int) → rdOf ByteArray.empty l i ∈ l := fun i h0 h1 => by
    unfold rdOf
    rw [getD_at l _ _ (by omega)]
    exact List.getElem_mem _
  refine Evt.bind (Evt.bind hr (Evt.pure _)) ((Evt.pure _).same ?_)
  rw [decide_B]
  refine B_congr ⟨fun hg => ?_, fun ⟨x, hx, hg⟩ => ?_⟩
  · rcases h with ⟨h1, _⟩ | ⟨h1, h2, h3, _⟩
    · omega
    · exact ⟨_, at_ r h1 h2, h3⟩
  · rcases h with ⟨h1, h2⟩ | ⟨h1, _⟩
    · obtain ⟨i, hi, rfl⟩ := List.mem_iff_getElem.1 hx
      refine absurd ?_ (h2 i (by omega) (by omega))
      show ((rdOf ByteArray.empty l (i : Int)).size : Int) > 20000
      unfold rdOf
      rw [Int.toNat_natCast, getD_at l _ _ hi]
      exact hg
    · exact h1
end Go.Proofs.Ytefmkmhjbfpelaa.QT
namespace Go.Proofs.Ytefmkmhjbfpelaa.QT
open Go.RowKit Go.Proofs.Ytefmkmhjbfpelaa Go.Proofs.YtefmkmhjbfpelaaW.PrintWords Go.Proofs.Ytefmkmhjbfpelaa.Ev0
abbrev LXTransit := S54
def hitTransit (p q : ByteArray) (x : LXTransit) : Prop := (p.toList = [] ∨ x.f0.toList = p.toList) ∧ x.f3.toList = q.toList
noncomputable def stepTransit (p q : ByteArray) (a : Int) (x : LXTransit) : Int := @ite _ (hitTransit p q x) (Classical.propDecidable _) (wrap64 (a + wrap64 (x.f5 - x.f6))) a
noncomputable def sumTransit (p q : ByteArray) (l : List LXTransit) : Int := l.foldl (stepTransit p q) 0
theorem sumTransit_at (p q : ByteArray) (l : List LXTransit) (i : Int) (h0 : 0 ≤ i) (h1 : i < (l.length : Int)) : sumTransit p q (l.take (i + 1).toNat) = stepTransit p q (sumTransit p q (l.take i.toNat)) (rd_T54 l i) := by
  have hi : i.toNat < l.length := by omega
  have e : rd_T54 l i = l[i.toNat] := by
    unfold rd_T54
    exact getD_at l _ _ hi
  rw [e]
  unfold sumTransit
  rw [show (i + 1).toNat = i.toNat + 1 by omega, List.take_succ_eq_append_getElem hi, List.foldl_append]
  rfl
theorem stepTransit_pos (p q : ByteArray) (a : Int) (x : LXTransit) (h : hitTransit p q x) : stepTransit p q a x = wrap64 (a + wrap64 (x.f5 - x.f6)) := by unfold stepTransit; exact if_pos h
theorem stepTransit_neg (p q : ByteArray) (a : Int) (x : LXTransit) (h : ¬ hitTransit p q x) : stepTransit p q a x = a := by unfold stepTransit; exact if_neg h
theorem specTransit_l (p q : ByteArray) (K : List S117) (l : List LXTransit) (hs : ∀ x ∈ l, okS x) (hl : linesB l = true) : Evt (fun k => spec_BookTransit.l0 k p q 0 0 K l) (sumTransit p q l) := by
  obtain ⟨hn, hx⟩ := B_iff.1 hl
  have h := up_loop (l.length : Int) (fun k (s : Int) i => spec_BookTransit.l0 k p q s i K l) (fun i => sumTransit p q (l.take i.toNat)) (fun _ => sumTransit p q l) ?_ ?_ 0 (Int.le_refl _) (by omega)
  · simpa [sumTransit] using h
  · intro i h0 hlt ih
    have hw : wrap64 (i + 1) = i + 1 := w64 (by omega) (by omega)
    have e := sumTransit_at p q l i h0 hlt
    rw [e] at ih
    obtain ⟨o1, o2, o3⟩ := okS_at hs i hlt h0
    have hb := (hx i h0 hlt).1
    have hv : Evt (fun k => spec_LineTransit.f k (rd_T54 l i).f0 (rd_T54 l i).f1 (rd_T54 l i).f2 (rd_T54 l i).f3 (rd_T54 l i).f4 (rd_T54 l i).f5 (rd_T54 l i).f6 (rd_T54 l i).f7) (wrap64 ((rd_T54 l i).f5 - (rd_T54 l i).f6)) := by
      unfold spec_LineTransit.f
      refine Evt.bind (specLine_ev _ _ _ _ _ _ _ _ o1 o2 o3) ?_
      simp only [if_pos hb]
      exact Evt.pure _
    simp only [spec_BookTransit.l0, hw]
    refine Evt.pos hlt (Evt.ite (fun g1 => Evt.pos h0 (Evt.ite (fun g2 => ?_) (fun g2 => ?_))) (fun g1 => Evt.pos h0 (Evt.ite (fun g2 => Evt.ite (fun g3 => ?_) (fun g3 => ?_)) (fun g2 => ?_))))
    · rw [stepTransit_pos _ _ _ _ ⟨.inl g1, g2⟩] at ih
      exact Evt.bind hv ih
    · rw [stepTransit_neg _ _ _ _ (fun h => g2 h.2)] at ih
      exact ih
    · rw [stepTransit_pos _ _ _ _ ⟨.inr g2, g3⟩] at ih
      exact Evt.bind hv ih
    · rw [stepTransit_neg _ _ _ _ (fun h => g3 h.2)] at ih
      exact ih
    · rw [stepTransit_neg _ _ _ _ (fun h => h.1.elim g1 g2)] at ih
      exact ih
  · simp only [spec_BookTransit.l0]
    exact Evt.neg (by omega) ((Evt.pure _).same (by simp))
theorem implTransit_l (p q : ByteArray) (l : List LXTransit) (hl : (l.length : Int) ≤ 1000000) : Evt (fun k => impl_Book_sum_impl_OrderLine_transit.l0 k p q 0 l (l.length : Int) 0) (sumTransit p q l) := by
  have h := up_loop (l.length : Int) (fun k (s : Int) i => impl_Book_sum_impl_OrderLine_transit.l0 k p q s l (l.length : Int) i) (fun i => sumTransit p q (l.take i.toNat)) (fun _ => sumTransit p q l) ?_ ?_ 0 (Int.le_refl _) (by omega)
  · simpa [sumTransit] using h
  · intro i h0 hlt ih
    have hw : wrap64 (i + 1) = i + 1 := w64 (by omega) (by omega)
    have e := sumTransit_at p q l i h0 hlt
    rw [e] at ih
    simp only [impl_Book_sum_impl_OrderLine_transit.l0, hw]
    refine Evt.pos hlt (Evt.pos h0 (Evt.pos hlt ?_))
    by_cases g1 : p.toList = []
    · simp only [impl_OrderLine_isOf.f, if_pos g1, Option.bind_some]
      refine Evt.pos (by simp) (Evt.ite (fun g2 => ?_) (fun g2 => ?_))
      · rw [stepTransit_pos _ _ _ _ ⟨.inl g1, g2⟩] at ih
        simp only [impl_OrderLine_transit.f, Option.bind_some]
        exact ih
      · rw [stepTransit_neg _ _ _ _ (fun h => g2 h.2)] at ih
        exact ih
    · simp only [impl_OrderLine_isOf.f, if_neg g1, Option.bind_some]
      refine Evt.ite (fun g2 => Evt.ite (fun g3 => ?_) (fun g3 => ?_)) (fun g2 => ?_)
      · rw [stepTransit_pos _ _ _ _ ⟨.inr (by simpa using g2), g3⟩] at ih
        simp only [impl_OrderLine_transit.f, Option.bind_some]
        exact ih
      · rw [stepTransit_neg _ _ _ _ (fun h => g3 h.2)] at ih
        exact ih
      · rw [stepTransit_neg _ _ _ _ (fun h => h.1.elim g1 (fun h => g2 (by simpa using h)))] at ih
        exact ih
  · simp only [impl_Book_sum_impl_OrderLine_transit.l0]
    exact Evt.neg (by omega) ((Evt.pure _).same (by simp))
noncomputable def ansTransit (K : List S117) (l : List LXTransit) (p q : ByteArray) : Int :=
  @ite _ ((p.size : Int) > 20000 ∨ (q.size : Int) > 20000 ∨ bookB K l = false) (Classical.propDecidable _) 0 (sumTransit p q l)
theorem specBookTransit_ev (K : List S117) (l : List LXTransit) (p q : ByteArray) (hk : ∀ x ∈ K, okK x) (hs : ∀ x ∈ l, okS x) : Evt (fun k => spec_BookTransit.f k K l p q) (ansTransit K l p q) := by
  have bad : ((p.size : Int) > 20000 ∨ (q.size : Int) > 20000 ∨ bookB K l = false) → Evt (fun k => spec_BookTransit.j0 k p q 0 true K l) (ansTransit K l p q) := fun h => by
    rw [show ansTransit K l p q = 0 from by unfold ansTransit; exact if_pos h]
    apply Evt.succ
    simp only [spec_BookTransit.j0, if_true]
    exact Evt.pure _
  unfold spec_BookTransit.f
  refine Evt.ite (fun h1 => bad (.inl h1)) (fun h1 => Evt.ite (fun h2 => bad (.inr (.inl h2))) (fun h2 => Evt.bind (specBook_ev K l hk hs) ?_))
  cases hb : bookB K l with
  | false => rw [Bool.not_false]; exact bad (.inr (.inr hb))
  | true =>
    rw [Bool.not_true, show ansTransit K l p q = sumTransit p q l from by unfold ansTransit; exact if_neg (fun h => h.elim h1 (fun h => h.elim h2 (fun h => by rw [hb] at h; cases h)))]
    apply Evt.succ
    simp only [spec_BookTransit.j0, Bool.false_eq_true, if_false]
    exact specTransit_l p q K l hs (B_iff.1 hb).2.2
theorem implBookTransit_ev (K : List S117) (l : List LXTransit) (p q : ByteArray) (hk : ∀ x ∈ K, okK x) (hs : ∀ x ∈ l, okS x) : Evt (fun k => impl_BookTransit.f k K l p q) (ansTransit K l p q) := by
  unfold impl_BookTransit.f
  refine Evt.bind (longText_ev [p, q] (by simp)) ?_
  by_cases hg : ∃ x ∈ [p, q], (x.size : Int) > 20000
  · rw [B_true hg, show ansTransit K l p q = 0 from by
      unfold ansTransit
      refine if_pos ?_
      obtain ⟨x, hx, h⟩ := hg
      simp only [List.mem_cons, List.not_mem_nil, or_false] at hx
      rcases hx with rfl | rfl
      · exact .inl h
      · exact .inr (.inl h)]
    exact Evt.pos rfl (Evt.pure _)
  · rw [B_false hg]
    refine Evt.neg (by decide) (Evt.bind (implBook_ev K l hk hs) ?_)
    cases hb : bookB K l with
    | false =>
      rw [show ansTransit K l p q = 0 from by unfold ansTransit; exact if_pos (.inr (.inr hb))]
      exact Evt.neg (by decide) (Evt.pure _)
    | true =>
      rw [show ansTransit K l p q = sumTransit p q l from by
        unfold ansTransit
        refine if_neg (fun h => ?_)
        rcases h with h | h | h
        · exact hg ⟨p, by simp, h⟩
        · exact hg ⟨q, by simp, h⟩
        · rw [hb] at h; cases h]
      refine Evt.pos rfl (Evt.bind ?_ (Evt.pure _))
      unfold impl_Book_transit.f impl_Book_sum_impl_OrderLine_transit.f
      refine Evt.bind (implTransit_l p q l ?_) (Evt.pure _)
      have := (B_iff.1 (B_iff.1 hb).2.2).1
      omega
end Go.Proofs.Ytefmkmhjbfpelaa.QT
namespace Go.Proofs.Ytefmkmhjbfpelaa.Pure
open Go.RowKit Go.Proofs.Ytefmkmhjbfpelaa Go.Proofs.Ytefmkmhjbfpelaa.QT Go.Proofs.YtefmkmhjbfpelaaW.PrintWords Go.Proofs.Ytefmkmhjbfpelaa.Ev0
theorem FnExactBookTransit : laws_FnExactBookTransit.Pure := by
  intro l m p q wl wm wp wq
  obtain ⟨hl, hw⟩ := wl
  obtain ⟨hm, hv⟩ := wm
  apply Evt.ex
  unfold laws_FnExactBookTransit.f
  have hx : ∀ x ∈ l, okLK x := fun x h => okLK_of (hw x h)
  have hy : ∀ x ∈ m, okL x := fun x h => okL_of (hv x h)
  obtain ⟨t, ht, hlen⟩ := szBook_ev l m hl hx hm hy 1048576 (by decide) (by decide)
  refine Evt.ite (fun _ => Evt.pure true) (fun _ => Evt.ite (fun _ => Evt.pure true) (fun _ => Evt.bind ht (Evt.ite (fun _ => Evt.pure true) (fun hn => ?_))))
  obtain ⟨_, _, h1, h2⟩ := hlen.resolve_left hn
  have hto := toBook_ev l m h1 h2
  refine Evt.bind hto (Evt.bind (specBookTransit_ev _ _ p q (okK_map l hx) (okS_map m hy)) (Evt.bind hto (Evt.bind (implBookTransit_ev _ _ p q (okK_map l hx) (okS_map m hy)) ?_)))
  exact Evt.pos rfl (Evt.bind hto (Evt.bind (eqBook_refl _ _ (by simp; omega) (by simp; omega)) (Evt.pos rfl (Evt.pure true))))
end Go.Proofs.Ytefmkmhjbfpelaa.Pure

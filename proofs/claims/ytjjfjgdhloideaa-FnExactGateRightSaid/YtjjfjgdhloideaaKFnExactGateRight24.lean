-- Merged by a program of this session (wip/tool/pack.py) out of its own texts for this claim.
import Derived.Test.YtjjfjgdhloideaaKFnExactGateRight0
import Derived.Test.YtjjfjgdhloideaaKFnExactGateRight1
import Derived.Test.YtjjfjgdhloideaaKFnExactGateRight2
import Derived.Test.YtjjfjgdhloideaaKFnExactGateRight3
import Derived.Test.YtjjfjgdhloideaaKFnExactGateRight22
import Derived.Test.YtjjfjgdhloideaaKFnExactGateRight23
namespace Go.Proofs.Ytjjfjgdhloideaa.QI
open Go.RowKit Go.Proofs.YtjjfjgdhloideaaW.PrintWords Go.Proofs.Ytjjfjgdhloideaa.Ev0
def LineP (a b : ByteArray) (n : Int) (i : ByteArray) (o s g c : Int) : Prop :=
  NameP a ∧ NameP b ∧ NameP i ∧ (1 ≤ n ∧ n ≤ 999) ∧ (1 ≤ o ∧ o ≤ 1000000) ∧ (0 ≤ s ∧ s ≤ o) ∧ (0 ≤ g ∧ g ≤ s) ∧ (0 ≤ c ∧ c ≤ wrap64 (o - s))
noncomputable def lineB (a b : ByteArray) (n : Int) (i : ByteArray) (o s g c : Int) : Bool := B (LineP a b n i o s g c)
theorem specLine_ev (a b : ByteArray) (n : Int) (i : ByteArray) (o s g c : Int) (ha : (a.size : Int) ≤ 9223372036854775807) (hb : (b.size : Int) ≤ 9223372036854775807) (hi : (i.size : Int) ≤ 9223372036854775807) :
    Evt (fun k => spec_LineRight.f k a b n i o s g c) (lineB a b n i o s g c) := by
  unfold spec_LineRight.f
  have key : Evt (fun k => spec_LineRight.f k a b n i o s g c) (B (NameP a ∧ NameP b ∧ NameP i ∧ 1 ≤ n ∧ n ≤ 999 ∧ (1 ≤ o ∧ o ≤ 1000000) ∧ 0 ≤ s ∧ 0 ≤ g ∧ 0 ≤ c ∧ g ≤ s ∧ s ≤ o ∧ c ≤ wrap64 (o - s))) := by
    unfold spec_LineRight.f
    refine Evt.bind (specName_ev a ha) (and_ B_iff fun _ => Evt.bind (specName_ev b hb) (and_ B_iff fun _ => Evt.bind (specName_ev i hi) (and_ B_iff fun _ => and_ Iff.rfl fun _ => and_ Iff.rfl fun _ => ?_)))
    rw [l01Qty_ev]
    simp only [Option.bind_some]
    exact and_ B_iff fun _ => and_ Iff.rfl fun _ => and_ Iff.rfl fun _ => and_ Iff.rfl fun _ => and_ Iff.rfl fun _ => and_ Iff.rfl fun _ => last_ Iff.rfl
  refine key.same (B_congr ⟨?_, ?_⟩)
  · rintro ⟨h1, h2, h3, h4, h5, h6, h7, h8, h9, h10, h11, h12⟩
    exact ⟨h1, h2, h3, ⟨h4, h5⟩, h6, ⟨h7, h11⟩, ⟨h8, h10⟩, ⟨h9, h12⟩⟩
  · rintro ⟨h1, h2, h3, ⟨h4, h5⟩, h6, ⟨h7, h11⟩, ⟨h8, h10⟩, ⟨h9, h12⟩⟩
    exact ⟨h1, h2, h3, h4, h5, h6, h7, h8, h9, h10, h11, h12⟩
theorem implLine_ev (a b : ByteArray) (n : Int) (i : ByteArray) (o s g c : Int) (ha : (a.size : Int) ≤ 9223372036854775807) (hb : (b.size : Int) ≤ 9223372036854775807) (hi : (i.size : Int) ≤ 9223372036854775807) :
    Evt (fun k => impl_LineRight.f k a b n i o s g c) (lineB a b n i o s g c) := by
  unfold impl_LineRight.f lineB LineP
  simp only [within_ev, isQty_ev, Option.bind_some]
  exact Evt.bind (implName_ev a ha) (and_ B_iff fun _ => Evt.bind (implName_ev b hb) (and_ B_iff fun _ => Evt.bind (implName_ev i hi) (and_ B_iff fun _ => and_ B_iff fun _ => and_ B_iff fun _ => and_ B_iff fun _ => and_ B_iff fun _ => lastB_ Iff.rfl)))
end Go.Proofs.Ytjjfjgdhloideaa.QI
namespace Go.Proofs.Ytjjfjgdhloideaa.QI
open Go.RowKit Go.Proofs.YtjjfjgdhloideaaW.PrintWords Go.Proofs.Ytjjfjgdhloideaa.Ev0
def lbefore (a b : ByteArray) (n : Int) (a' b' : ByteArray) (n' : Int) : Prop := less a a' ∨ (a.toList = a'.toList ∧ (less b b' ∨ (b.toList = b'.toList ∧ n < n')))
theorem l09Before_ev (a b : ByteArray) (n : Int) (i : ByteArray) (o s g c : Int) (a' b' : ByteArray) (n' : Int) (i' : ByteArray) (o' s' g' c' : Int) :
    spec_l09Before.f a b n i o s g c a' b' n' i' o' s' g' c' = some (B (lbefore a b n a' b' n')) := by
  unfold spec_l09Before.f lbefore
  rcases cmpS_cases a a' with ⟨h1, h2, h3, _⟩ | ⟨h1, h2, h3, _⟩ | ⟨h1, h2, h3, _⟩
  · rw [if_neg h3, B_true (.inl h1)]
    exact congrArg some h1
  · rw [if_neg h3, B_false (fun h => h.elim h1 (fun h => h3 h.1))]
    exact congrArg some (Bool.eq_false_iff.2 h1)
  · rw [if_pos h3]
    rcases cmpS_cases b b' with ⟨g1, g2, g3, _⟩ | ⟨g1, g2, g3, _⟩ | ⟨g1, g2, g3, _⟩
    · rw [if_neg g3, B_true (.inr ⟨h3, .inl g1⟩)]
      exact congrArg some g1
    · rw [if_neg g3, B_false (fun h => h.elim h1 (fun h => h.2.elim g1 (fun h => g3 h.1)))]
      exact congrArg some (Bool.eq_false_iff.2 g1)
    · rw [if_pos g3, decide_B]
      exact congrArg some (B_congr ⟨fun h => .inr ⟨h3, .inr ⟨g3, h⟩⟩, fun h => h.elim (fun h => absurd h h1) (fun h => h.2.elim (fun h => absurd h g1) (fun h => h.2))⟩)
noncomputable def lcmp (a b : ByteArray) (n : Int) (a' b' : ByteArray) (n' : Int) : Int := orL [cmpS a a', cmpS b b', cmpI n n']
theorem lineOrder_ev (a b : ByteArray) (n : Int) (i : ByteArray) (o s g c : Int) (a' b' : ByteArray) (n' : Int) (i' : ByteArray) (o' s' g' c' : Int) :
    Evt (fun k => impl_lineOrder.f k a b n i o s g c a' b' n' i' o' s' g' c') (lcmp a b n a' b' n') := by
  unfold impl_lineOrder.f
  simp only [cmpS_ev, cmpI_ev, Option.bind_some]
  exact Evt.bind (or_ev _ (by simp)) (Evt.pure _)
theorem lcmp_iff (a b : ByteArray) (n : Int) (a' b' : ByteArray) (n' : Int) : lcmp a b n a' b' n' ≥ 0 ↔ ¬ lbefore a b n a' b' n' := by
  unfold lcmp lbefore
  rcases cmpS_cases a a' with ⟨h1, h2, h3, h4⟩ | ⟨h1, h2, h3, h4⟩ | ⟨h1, h2, h3, h4⟩
  · simp [orL, h4, h1]
  · simp [orL, h4, h1, h3]
  · rcases cmpS_cases b b' with ⟨g1, g2, g3, g4⟩ | ⟨g1, g2, g3, g4⟩ | ⟨g1, g2, g3, g4⟩
    · simp [orL, h4, h1, h3, g4, g1]
    · simp [orL, h4, h1, h3, g4, g1, g3]
    · rcases cmpI_cases n n' with ⟨e1, e2⟩ | ⟨e1, e2⟩ | ⟨e1, e2⟩
      · simp [orL, h4, h1, h3, g4, g1, g3, e1, e2]
      · simp [orL, h4, h1, h3, g4, g1, g3, e2]; omega
      · subst e1
        simp [orL, h4, h1, h3, g4, g1, g3, e2]
def okS (x : S73) : Prop := (x.f0.size : Int) ≤ 9223372036854775807 ∧ (x.f1.size : Int) ≤ 9223372036854775807 ∧ (x.f3.size : Int) ≤ 9223372036854775807
def lineOk (l : List S73) (i : Int) : Prop :=
  lineB (rd_T73 l i).f0 (rd_T73 l i).f1 (rd_T73 l i).f2 (rd_T73 l i).f3 (rd_T73 l i).f4 (rd_T73 l i).f5 (rd_T73 l i).f6 (rd_T73 l i).f7 = true ∧
    (0 < i → lbefore (rd_T73 l (i - 1)).f0 (rd_T73 l (i - 1)).f1 (rd_T73 l (i - 1)).f2 (rd_T73 l i).f0 (rd_T73 l i).f1 (rd_T73 l i).f2)
def LinesP (l : List S73) : Prop := (l.length : Int) ≤ 200 ∧ ∀ i, 0 ≤ i → i < (l.length : Int) → lineOk l i
noncomputable def linesB (l : List S73) : Bool := B (LinesP l)
theorem okS_at {l : List S73} (h : ∀ x ∈ l, okS x) (i : Int) (h1 : i < (l.length : Int)) (h0 : 0 ≤ i) : okS (rd_T73 l i) := by
  unfold rd_T73
  rw [getD_at l _ _ (by omega)]
  exact h _ (List.getElem_mem _)
theorem specLines_ev (l : List S73) (hs : ∀ x ∈ l, okS x) : Evt (fun k => spec_LinesRight.f k l) (linesB l) := by
  unfold spec_LinesRight.f
  by_cases hn : (l.length : Int) > 200
  · exact Evt.pos hn ((Evt.pure false).same (B_false (fun h => by have := h.1; omega)).symm)
  · refine Evt.neg hn ?_
    refine (right_loop (l.length : Int) (by omega) (lineOk l) True (fun k i => spec_LinesRight.l0 k l i) ?_ ?_).same (B_congr ⟨fun h => ⟨by omega, h.1⟩, fun h => ⟨h.2, trivial⟩⟩)
    · intro i h0 hlt
      have hk := okS_at hs i hlt h0
      have hw : wrap64 (i + 1) = i + 1 := w64 (by omega) (by omega)
      have hw1 : wrap64 (i - 1) = i - 1 := w64 (by omega) (by omega)
      simp only [spec_LinesRight.l0, hw, hw1, l09Before_ev, Option.bind_some]
      refine ⟨fun ok r hr => ?_, fun nok => ?_⟩
      · refine Evt.pos hlt (Evt.pos h0 (Evt.bind (specLine_ev _ _ _ _ _ _ _ _ hk.1 hk.2.1 hk.2.2) (Evt.pos ok.1 (Evt.ite (fun hp => Evt.pos (by omega) (Evt.pos (by omega) (Evt.pos (B_true (ok.2 hp)) hr))) (fun _ => hr)))))
      · refine Evt.pos hlt (Evt.pos h0 (Evt.bind (specLine_ev _ _ _ _ _ _ _ _ hk.1 hk.2.1 hk.2.2) (Evt.ite (fun hl => Evt.ite (fun hp => Evt.pos (by omega) (Evt.pos (by omega) (Evt.neg (fun hb => nok ⟨hl, fun _ => B_iff.1 hb⟩) (Evt.pure _)))) (fun hp => absurd ⟨hl, fun h => absurd h hp⟩ nok)) (fun _ => Evt.pure _))))
    · simp only [spec_LinesRight.l0]
      exact Evt.neg (by omega) ((Evt.pure true).same (B_true trivial).symm)
theorem implLines_ev (l : List S73) (hs : ∀ x ∈ l, okS x) : Evt (fun k => impl_LinesRight.f k l) (linesB l) := by
  unfold impl_LinesRight.f
  by_cases hn : (l.length : Int) > 200
  · exact Evt.pos hn ((Evt.pure false).same (B_false (fun h => by have := h.1; omega)).symm)
  · refine Evt.neg hn ?_
    refine (right_loop (l.length : Int) (by omega) (lineOk l) True (fun k i => impl_LinesRight.l0 k l l (l.length : Int) i) ?_ ?_).same (B_congr ⟨fun h => ⟨by omega, h.1⟩, fun h => ⟨h.2, trivial⟩⟩)
    · intro i h0 hlt
      have hk := okS_at hs i hlt h0
      have hw : wrap64 (i + 1) = i + 1 := w64 (by omega) (by omega)
      have hw1 : wrap64 (i - 1) = i - 1 := w64 (by omega) (by omega)
      simp only [impl_LinesRight.l0, hw, hw1]
      refine ⟨fun ok r hr => ?_, fun nok => ?_⟩
      · refine Evt.pos hlt (Evt.pos h0 (Evt.pos hlt (Evt.bind (implLine_ev _ _ _ _ _ _ _ _ hk.1 hk.2.1 hk.2.2) (Evt.pos ok.1 (Evt.ite (fun hp => Evt.pos (by omega) (Evt.pos (by omega) (Evt.bind (lineOrder_ev _ _ _ _ _ _ _ _ _ _ _ _ _ _ _ _) (Evt.neg (fun h => (lcmp_iff _ _ _ _ _ _).1 h (ok.2 hp)) hr)))) (fun _ => hr))))))
      · refine Evt.pos hlt (Evt.pos h0 (Evt.pos hlt (Evt.bind (implLine_ev _ _ _ _ _ _ _ _ hk.1 hk.2.1 hk.2.2) (Evt.ite (fun hl => Evt.ite (fun hp => Evt.pos (by omega) (Evt.pos (by omega) (Evt.bind (lineOrder_ev _ _ _ _ _ _ _ _ _ _ _ _ _ _ _ _) (Evt.pos ((lcmp_iff _ _ _ _ _ _).2 (fun hb => nok ⟨hl, fun _ => hb⟩)) (Evt.pure _))))) (fun hp => absurd ⟨hl, fun h => absurd h hp⟩ nok)) (fun _ => Evt.pure _)))))
    · simp only [impl_LinesRight.l0]
      exact Evt.neg (by omega) ((Evt.pure true).same (B_true trivial).symm)
end Go.Proofs.Ytjjfjgdhloideaa.QI
namespace Go.Proofs.Ytjjfjgdhloideaa.QI
open Go.RowKit Go.Proofs.Ytjjfjgdhloideaa Go.Proofs.YtjjfjgdhloideaaW.PrintWords Go.Proofs.Ytjjfjgdhloideaa.Ev0
theorem szLine_ev (a b : ByteArray) (n : Int) (i : ByteArray) (o s g c t : Int) (h0 : 0 ≤ t) (h1 : t ≤ 1048576) (ha : (a.size : Int) ≤ 9223372036854775807) (hb : (b.size : Int) ≤ 9223372036854775807) (hi : (i.size : Int) ≤ 9223372036854775807) :
    ∃ r, laws_szOrderLine.f a b n i o s g c t = some r ∧ (r < 0 ∨ (0 ≤ r ∧ r ≤ t ∧ True)) := by
  unfold laws_szOrderLine.f
  refine sz_step h0 h1 (by omega) ha (fun g1 => ?_)
  rw [wsub h0 h1 (by omega) ha]
  refine sz_step g1 (by omega) (by omega) hb (fun g2 => ?_)
  rw [wsub g1 (by omega) (by omega) hb]
  refine sz_step g2 (by omega) (by omega) hi (fun g3 => ?_)
  rw [wsub g2 (by omega) (by omega) hi]
  exact ⟨_, rfl, .inr ⟨g3, Int.le_refl _, trivial⟩⟩
def okL (x : S113) : Prop := (x.f0.size : Int) ≤ 9223372036854775807 ∧ (x.f1.size : Int) ≤ 9223372036854775807 ∧ (x.f3.size : Int) ≤ 9223372036854775807
theorem okL_of {x : S113} (h : wf113 x) : okL x := by
  obtain ⟨h0, h1, _, h3, _⟩ := h
  have g0 : x.f0.size ≤ 2 ^ 63 - 1 := h0
  have g1 : x.f1.size ≤ 2 ^ 63 - 1 := h1
  have g3 : x.f3.size ≤ 2 ^ 63 - 1 := h3
  exact ⟨by omega, by omega, by omega⟩
theorem szLineS_ev (l : List S113) (hl : l.length ≤ 9223372036854775807) (hx : ∀ x ∈ l, okL x) (left : Int) (h0 : 0 ≤ left) (h1 : left ≤ 1048576) : SzR (fun k => laws_szOrderLineS.f k l left) left (l.length ≤ 1048576 ∧ ∀ i : Int, 0 ≤ i → i < (l.length : Int) → True) := by
  refine sz_loop l.length hl (fun _ => True) _ (fun k s i => laws_szOrderLineS.l0 k l s i) left h0 h1 (fun k => rfl) ?_ ?_
  · intro s i h0 hlt hs0 hs1
    have hw : wrap64 (i + 1) = i + 1 := w64 (by omega) (by omega)
    have hk : okL (rd_T113 l i) := by
      unfold rd_T113
      rw [getD_at l _ _ (by omega)]
      exact hx _ (List.getElem_mem _)
    obtain ⟨t, ht, h2⟩ := szLine_ev (rd_T113 l i).f0 (rd_T113 l i).f1 (rd_T113 l i).f2 (rd_T113 l i).f3 (rd_T113 l i).f4 (rd_T113 l i).f5 (rd_T113 l i).f6 (rd_T113 l i).f7 s hs0 hs1 hk.1 hk.2.1 hk.2.2
    simp only [laws_szOrderLineS.l0, ht, Option.bind_some, hw]
    rcases h2 with h2 | ⟨h2, h3, _⟩
    · exact .inl ⟨-1, by decide, Evt.pos hlt (Evt.pos h0 (Evt.pos h2 (Evt.pure _)))⟩
    · exact .inr ⟨t, h2, h3, trivial, fun r hr => Evt.pos hlt (Evt.pos h0 (Evt.neg (by omega) hr))⟩
  · intro s i hi
    simp only [laws_szOrderLineS.l0]
    exact Evt.neg (by omega) (Evt.pure _)
def cvLine (x : S113) : S73 := ⟨x.f0, x.f1, x.f2, x.f3, x.f4, x.f5, x.f6, x.f7⟩
theorem toLineS_ev (l : List S113) (hl : l.length ≤ 1048576) : Evt (fun k => laws_toOrderLineS.f k l) (l.map cvLine) := by
  unfold laws_toOrderLineS.f
  refine Evt.pos (by omega) (Evt.pos (by omega) ?_)
  rw [Int.toNat_natCast]
  refine fill_loop l z113 z73 cvLine (fun k acc i => laws_toOrderLineS.l0 k l acc i) ?_ ?_
  · intro acc i h0 hlt ha r hr
    have hw : wrap64 (i + 1) = i + 1 := w64 (by omega) (by omega)
    simp only [laws_toOrderLineS.l0, laws_toOrderLine.f, Option.bind_some, hw]
    exact Evt.pos hlt (Evt.pos h0 (Evt.pos (by omega) hr))
  · intro acc i hi
    simp only [laws_toOrderLineS.l0]
    exact Evt.neg (by omega) (Evt.pure _)
theorem eqLine_refl (a b : ByteArray) (n : Int) (i : ByteArray) (o s g c : Int) : laws_eqOrderLine.f a b n i o s g c a b n i o s g c = some true := by
  simp only [laws_eqOrderLine.f, if_true]
theorem eqLineS_refl (l : List S73) (hl : l.length ≤ 9000000) : Evt (fun k => laws_eqOrderLineS.f k l l) true := by
  unfold laws_eqOrderLineS.f
  refine Evt.pos rfl (all_loop (l.length : Int) (by omega) (fun k i => laws_eqOrderLineS.l0 k l l i) ?_ ?_)
  · intro i h0 hlt ih
    have hw : wrap64 (i + 1) = i + 1 := w64 (by omega) (by omega)
    simp only [laws_eqOrderLineS.l0, eqLine_refl, Option.bind_some, hw]
    exact Evt.pos hlt (Evt.pos h0 (Evt.pos hlt (Evt.pos (by simp) ih)))
  · simp only [laws_eqOrderLineS.l0]
    exact Evt.neg (by omega) (Evt.pure _)
theorem okS_map (l : List S113) (h : ∀ x ∈ l, okL x) : ∀ x ∈ l.map cvLine, okS x := by
  intro x hx
  obtain ⟨y, hy, rfl⟩ := List.mem_map.1 hx
  exact h y hy
end Go.Proofs.Ytjjfjgdhloideaa.QI
namespace Go.Proofs.Ytjjfjgdhloideaa.QI
open Go.RowKit Go.Proofs.Ytjjfjgdhloideaa Go.Proofs.YtjjfjgdhloideaaW.PrintWords Go.Proofs.Ytjjfjgdhloideaa.Ev0
def okK (x : S71) : Prop := (x.f0.size : Int) ≤ 9223372036854775807
theorem okK_at {l : List S71} (h : ∀ x ∈ l, okK x) (i : Int) (h1 : i < (l.length : Int)) (h0 : 0 ≤ i) : okK (rd_T71 l i) := by
  unfold rd_T71
  rw [getD_at l _ _ (by omega)]
  exact h _ (List.getElem_mem _)
def stockAt (l : List S71) (i : Int) : Prop :=
  nameB (rd_T71 l i).f0 = true ∧ (0 ≤ (rd_T71 l i).f1 ∧ (rd_T71 l i).f1 ≤ 1000000000) ∧ (0 < i → less (rd_T71 l (i - 1)).f0 (rd_T71 l i).f0)
def BookP (l : List S71) (m : List S73) : Prop := (l.length : Int) ≤ 100 ∧ (∀ i, 0 ≤ i → i < (l.length : Int) → stockAt l i) ∧ linesB m = true
noncomputable def bookB (l : List S71) (m : List S73) : Bool := B (BookP l m)
theorem specBook_ev (l : List S71) (m : List S73) (hs : ∀ x ∈ l, okK x) (hm : ∀ x ∈ m, okS x) : Evt (fun k => spec_BookRight.f k l m) (bookB l m) := by
  unfold spec_BookRight.f
  have bad : ¬ BookP l m → Evt (fun k => spec_BookRight.j0 k true l m) (bookB l m) := fun h => by
    apply Evt.succ
    simp only [spec_BookRight.j0, if_true]
    exact (Evt.pure false).same (B_false h).symm
  by_cases hn : (l.length : Int) > 100
  · exact Evt.pos hn (bad (fun h => by have := h.1; omega))
  · refine Evt.neg hn (Evt.bind (specLines_ev m hm) ?_)
    by_cases hl : linesB m = true
    · rw [hl]
      simp only [Bool.not_true]
      apply Evt.succ
      simp only [spec_BookRight.j0, Bool.false_eq_true, if_false]
      refine (right_loop (l.length : Int) (by omega) (stockAt l) True (fun k i => spec_BookRight.l0 k i l m) ?_ ?_).same (B_congr ⟨fun h => ⟨by omega, h.1, hl⟩, fun h => ⟨h.2.1, trivial⟩⟩)
      · intro i h0 hlt
        have hk := okK_at hs i hlt h0
        have hw : wrap64 (i + 1) = i + 1 := w64 (by omega) (by omega)
        have hw1 : wrap64 (i - 1) = i - 1 := w64 (by omega) (by omega)
        simp only [spec_BookRight.l0, hw, hw1]
        refine ⟨fun ok r hr => ?_, fun nok => ?_⟩
        · exact Evt.pos hlt (Evt.pos h0 (Evt.bind (specName_ev _ hk) (Evt.pos ok.1 (Evt.neg (by have := ok.2.1.1; omega) (Evt.neg (by have := ok.2.1.2; omega) (Evt.ite (fun hp => Evt.pos (by omega) (Evt.pos (by omega) (Evt.pos (ok.2.2 hp) hr))) (fun _ => hr)))))))
        · exact Evt.pos hlt (Evt.pos h0 (Evt.bind (specName_ev _ hk) (Evt.ite (fun g1 => Evt.ite (fun _ => Evt.pure _) (fun g2 => Evt.ite (fun _ => Evt.pure _) (fun g3 => Evt.ite (fun hp => Evt.pos (by omega) (Evt.pos (by omega) (Evt.neg (fun hb => nok ⟨g1, ⟨by omega, by omega⟩, fun _ => hb⟩) (Evt.pure _)))) (fun hp => absurd ⟨g1, ⟨by omega, by omega⟩, fun h => absurd h hp⟩ nok)))) (fun _ => Evt.pure _))))
      · simp only [spec_BookRight.l0]
        exact Evt.neg (by omega) ((Evt.pure true).same (B_true trivial).symm)
    · rw [Bool.eq_false_iff.2 hl]
      simp only [Bool.not_false]
      exact bad (fun h => hl h.2.2)
theorem implBook_ev (l : List S71) (m : List S73) (hs : ∀ x ∈ l, okK x) (hm : ∀ x ∈ m, okS x) : Evt (fun k => impl_BookRight.f k l m) (bookB l m) := by
  unfold impl_BookRight.f
  by_cases hn : (l.length : Int) > 100
  · exact Evt.pos hn ((Evt.pure false).same (B_false (fun h => by have := h.1; omega)).symm)
  · refine Evt.neg hn ?_
    refine (right_loop (l.length : Int) (by omega) (stockAt l) (linesB m = true) (fun k i => impl_BookRight.l0 k l (l.length : Int) i l m) ?_ ?_).same (B_congr ⟨fun h => ⟨by omega, h⟩, fun h => h.2⟩)
    · intro i h0 hlt
      have hk := okK_at hs i hlt h0
      have hw : wrap64 (i + 1) = i + 1 := w64 (by omega) (by omega)
      have hw1 : wrap64 (i - 1) = i - 1 := w64 (by omega) (by omega)
      simp only [impl_BookRight.l0, hw, hw1, within_ev, Option.bind_some]
      refine ⟨fun ok r hr => ?_, fun nok => ?_⟩
      · exact Evt.pos hlt (Evt.pos h0 (Evt.pos hlt (Evt.bind (implName_ev _ hk) (Evt.pos ok.1 (Evt.pos (B_true ok.2.1) (Evt.ite (fun hp => Evt.pos (by omega) (Evt.pos (by omega) (Evt.pos (ok.2.2 hp) hr))) (fun _ => hr)))))))
      · exact Evt.pos hlt (Evt.pos h0 (Evt.pos hlt (Evt.bind (implName_ev _ hk) (Evt.ite (fun g1 => Evt.ite (fun g2 => Evt.ite (fun hp => Evt.pos (by omega) (Evt.pos (by omega) (Evt.neg (fun hb => nok ⟨g1, B_iff.1 g2, fun _ => hb⟩) (Evt.pure _)))) (fun hp => absurd ⟨g1, B_iff.1 g2, fun h => absurd h hp⟩ nok)) (fun _ => Evt.pure _)) (fun _ => Evt.pure _)))))
    · simp only [impl_BookRight.l0]
      refine Evt.neg (by omega) (Evt.bind (implLines_ev m hm) ((Evt.pure _).same ?_))
      exact bool_B Iff.rfl
theorem szStock_ev (p : ByteArray) (n x : Int) (h0 : 0 ≤ x) (h1 : x ≤ 1048576) (hp : (p.size : Int) ≤ 9223372036854775807) : ∃ r, laws_szStock.f p n x = some r ∧ (r < 0 ∨ (0 ≤ r ∧ r ≤ x ∧ True)) := by
  unfold laws_szStock.f
  refine sz_step h0 h1 (by omega) hp (fun g1 => ?_)
  rw [wsub h0 h1 (by omega) hp]
  exact ⟨_, rfl, .inr ⟨g1, Int.le_refl _, trivial⟩⟩
def okLK (x : S111) : Prop := (x.f0.size : Int) ≤ 9223372036854775807
theorem okLK_of {x : S111} (h : wf111 x) : okLK x := by
  have g0 : x.f0.size ≤ 2 ^ 63 - 1 := h.1
  show (x.f0.size : Int) ≤ _
  omega
theorem szStockS_ev (l : List S111) (hl : l.length ≤ 9223372036854775807) (hx : ∀ x ∈ l, okLK x) (left : Int) (h0 : 0 ≤ left) (h1 : left ≤ 1048576) : SzR (fun k => laws_szStockS.f k l left) left (l.length ≤ 1048576 ∧ ∀ i : Int, 0 ≤ i → i < (l.length : Int) → True) := by
  refine sz_loop l.length hl (fun _ => True) _ (fun k s i => laws_szStockS.l0 k l s i) left h0 h1 (fun k => rfl) ?_ ?_
  · intro s i h0 hlt hs0 hs1
    have hw : wrap64 (i + 1) = i + 1 := w64 (by omega) (by omega)
    have hk : okLK (rd_T111 l i) := by
      unfold rd_T111
      rw [getD_at l _ _ (by omega)]
      exact hx _ (List.getElem_mem _)
    obtain ⟨t, ht, h2⟩ := szStock_ev (rd_T111 l i).f0 (rd_T111 l i).f1 s hs0 hs1 hk
    simp only [laws_szStockS.l0, ht, Option.bind_some, hw]
    rcases h2 with h2 | ⟨h2, h3, _⟩
    · exact .inl ⟨-1, by decide, Evt.pos hlt (Evt.pos h0 (Evt.pos h2 (Evt.pure _)))⟩
    · exact .inr ⟨t, h2, h3, trivial, fun r hr => Evt.pos hlt (Evt.pos h0 (Evt.neg (by omega) hr))⟩
  · intro s i hi
    simp only [laws_szStockS.l0]
    exact Evt.neg (by omega) (Evt.pure _)
def cvStock (x : S111) : S71 := ⟨x.f0, x.f1⟩
theorem toStockS_ev (l : List S111) (hl : l.length ≤ 1048576) : Evt (fun k => laws_toStockS.f k l) (l.map cvStock) := by
  unfold laws_toStockS.f
  refine Evt.pos (by omega) (Evt.pos (by omega) ?_)
  rw [Int.toNat_natCast]
  refine fill_loop l z111 z71 cvStock (fun k acc i => laws_toStockS.l0 k l acc i) ?_ ?_
  · intro acc i h0 hlt ha r hr
    have hw : wrap64 (i + 1) = i + 1 := w64 (by omega) (by omega)
    simp only [laws_toStockS.l0, laws_toStock.f, Option.bind_some, hw]
    exact Evt.pos hlt (Evt.pos h0 (Evt.pos (by omega) hr))
  · intro acc i hi
    simp only [laws_toStockS.l0]
    exact Evt.neg (by omega) (Evt.pure _)
theorem eqStockS_refl (l : List S71) (hl : l.length ≤ 9000000) : Evt (fun k => laws_eqStockS.f k l l) true := by
  unfold laws_eqStockS.f
  refine Evt.pos rfl (all_loop (l.length : Int) (by omega) (fun k i => laws_eqStockS.l0 k l l i) ?_ ?_)
  · intro i h0 hlt ih
    have hw : wrap64 (i + 1) = i + 1 := w64 (by omega) (by omega)
    simp only [laws_eqStockS.l0, laws_eqStock.f, if_true, Option.bind_some, hw]
    exact Evt.pos hlt (Evt.pos h0 (Evt.pos hlt ih))
  · simp only [laws_eqStockS.l0]
    exact Evt.neg (by omega) (Evt.pure _)
theorem okK_map (l : List S111) (h : ∀ x ∈ l, okLK x) : ∀ x ∈ l.map cvStock, okK x := by
  intro x hx
  obtain ⟨y, hy, rfl⟩ := List.mem_map.1 hx
  exact h y hy
theorem szBook_ev (l : List S111) (m : List S113) (hl : l.length ≤ 9223372036854775807) (hx : ∀ x ∈ l, okLK x) (hm : m.length ≤ 9223372036854775807) (hy : ∀ x ∈ m, okL x) (left : Int) (h0 : 0 ≤ left) (h1 : left ≤ 1048576) :
    SzR (fun k => laws_szBook.f k l m left) left (l.length ≤ 1048576 ∧ m.length ≤ 1048576) := by
  obtain ⟨t, ht, h2⟩ := szStockS_ev l hl hx left h0 h1
  rcases h2 with h2 | ⟨h2, h3, h4, _⟩
  · exact ⟨-1, Evt.bind ht (Evt.pos h2 (Evt.pure _)), .inl (by decide)⟩
  · obtain ⟨u, hu, g2⟩ := szLineS_ev m hm hy t h2 (by omega)
    rcases g2 with g2 | ⟨g2, g3, g4, _⟩
    · exact ⟨-1, Evt.bind ht (Evt.neg (by omega) (Evt.bind hu (Evt.pos g2 (Evt.pure _)))), .inl (by decide)⟩
    · exact ⟨u, Evt.bind ht (Evt.neg (by omega) (Evt.bind hu (Evt.neg (by omega) (Evt.pure _)))), .inr ⟨g2, by omega, h4, g4⟩⟩
theorem toBook_ev (l : List S111) (m : List S113) (hl : l.length ≤ 1048576) (hm : m.length ≤ 1048576) : Evt (fun k => laws_toBook.f k l m) (l.map cvStock, m.map cvLine) :=
  Evt.bind (toStockS_ev l hl) (Evt.bind (toLineS_ev m hm) (Evt.pure _))
theorem eqBook_refl (l : List S71) (m : List S73) (hl : l.length ≤ 9000000) (hm : m.length ≤ 9000000) : Evt (fun k => laws_eqBook.f k l m l m) true :=
  Evt.bind (eqStockS_refl l hl) (Evt.pos rfl (Evt.bind (eqLineS_refl m hm) (Evt.pos rfl (Evt.pure _))))
end Go.Proofs.Ytjjfjgdhloideaa.QI
namespace Go.Proofs.Ytjjfjgdhloideaa.QI
open Go.RowKit Go.Proofs.Ytjjfjgdhloideaa Go.Proofs.YtjjfjgdhloideaaW.PrintWords Go.Proofs.Ytjjfjgdhloideaa.Ev0
theorem szOut_ev (p : ByteArray) (n : Int) (t : ByteArray) (tr due x : Int) (h0 : 0 ≤ x) (h1 : x ≤ 1048576) (hp : (p.size : Int) ≤ 9223372036854775807) (ht : (t.size : Int) ≤ 9223372036854775807) :
    ∃ r, laws_szOut.f p n t tr due x = some r ∧ (r < 0 ∨ (0 ≤ r ∧ r ≤ x ∧ True)) := by
  unfold laws_szOut.f
  refine sz_step h0 h1 (by omega) hp (fun g1 => ?_)
  rw [wsub h0 h1 (by omega) hp]
  refine sz_step g1 (by omega) (by omega) ht (fun g2 => ?_)
  rw [wsub g1 (by omega) (by omega) ht]
  exact ⟨_, rfl, .inr ⟨g2, Int.le_refl _, trivial⟩⟩
def okLO (x : S132) : Prop := (x.f0.size : Int) ≤ 9223372036854775807 ∧ (x.f2.size : Int) ≤ 9223372036854775807
theorem okLO_of {x : S132} (h : wf132 x) : okLO x := by
  obtain ⟨h0, _, h2, _⟩ := h
  have g0 : x.f0.size ≤ 2 ^ 63 - 1 := h0
  have g2 : x.f2.size ≤ 2 ^ 63 - 1 := h2
  exact ⟨by omega, by omega⟩
theorem szOutS_ev (l : List S132) (hl : l.length ≤ 9223372036854775807) (hx : ∀ x ∈ l, okLO x) (left : Int) (h0 : 0 ≤ left) (h1 : left ≤ 1048576) : SzR (fun k => laws_szOutS.f k l left) left (l.length ≤ 1048576 ∧ ∀ i : Int, 0 ≤ i → i < (l.length : Int) → True) := by
  refine sz_loop l.length hl (fun _ => True) _ (fun k s i => laws_szOutS.l0 k l s i) left h0 h1 (fun k => rfl) ?_ ?_
  · intro s i h0 hlt hs0 hs1
    have hw : wrap64 (i + 1) = i + 1 := w64 (by omega) (by omega)
    have hk : okLO (rd_T132 l i) := by
      unfold rd_T132
      rw [getD_at l _ _ (by omega)]
      exact hx _ (List.getElem_mem _)
    obtain ⟨t, ht, h2⟩ := szOut_ev (rd_T132 l i).f0 (rd_T132 l i).f1 (rd_T132 l i).f2 (rd_T132 l i).f3 (rd_T132 l i).f4 s hs0 hs1 hk.1 hk.2
    simp only [laws_szOutS.l0, ht, Option.bind_some, hw]
    rcases h2 with h2 | ⟨h2, h3, _⟩
    · exact .inl ⟨-1, by decide, Evt.pos hlt (Evt.pos h0 (Evt.pos h2 (Evt.pure _)))⟩
    · exact .inr ⟨t, h2, h3, trivial, fun r hr => Evt.pos hlt (Evt.pos h0 (Evt.neg (by omega) hr))⟩
  · intro s i hi
    simp only [laws_szOutS.l0]
    exact Evt.neg (by omega) (Evt.pure _)
def cvOut (x : S132) : S108 := ⟨x.f0, x.f1, x.f2, x.f3, x.f4⟩
theorem toOutS_ev (l : List S132) (hl : l.length ≤ 1048576) : Evt (fun k => laws_toOutS.f k l) (l.map cvOut) := by
  unfold laws_toOutS.f
  refine Evt.pos (by omega) (Evt.pos (by omega) ?_)
  rw [Int.toNat_natCast]
  refine fill_loop l z132 z108 cvOut (fun k acc i => laws_toOutS.l0 k l acc i) ?_ ?_
  · intro acc i h0 hlt ha r hr
    have hw : wrap64 (i + 1) = i + 1 := w64 (by omega) (by omega)
    simp only [laws_toOutS.l0, laws_toOut.f, Option.bind_some, hw]
    exact Evt.pos hlt (Evt.pos h0 (Evt.pos (by omega) hr))
  · intro acc i hi
    simp only [laws_toOutS.l0]
    exact Evt.neg (by omega) (Evt.pure _)
theorem eqOut_refl (p : ByteArray) (n : Int) (t : ByteArray) (tr due : Int) : laws_eqOut.f p n t tr due p n t tr due = some true := by
  simp only [laws_eqOut.f, if_true]
theorem eqOutS_refl (l : List S108) (hl : l.length ≤ 9000000) : Evt (fun k => laws_eqOutS.f k l l) true := by
  unfold laws_eqOutS.f
  refine Evt.pos rfl (all_loop (l.length : Int) (by omega) (fun k i => laws_eqOutS.l0 k l l i) ?_ ?_)
  · intro i h0 hlt ih
    have hw : wrap64 (i + 1) = i + 1 := w64 (by omega) (by omega)
    simp only [laws_eqOutS.l0, eqOut_refl, Option.bind_some, hw]
    exact Evt.pos hlt (Evt.pos h0 (Evt.pos hlt (Evt.pos (by simp) ih)))
  · simp only [laws_eqOutS.l0]
    exact Evt.neg (by omega) (Evt.pure _)
theorem okO_map (l : List S132) (h : ∀ x ∈ l, okLO x) : ∀ x ∈ l.map cvOut, okO x := by
  intro x hx
  obtain ⟨y, hy, rfl⟩ := List.mem_map.1 hx
  exact (h y hy).1
end Go.Proofs.Ytjjfjgdhloideaa.QI
namespace Go.Proofs.Ytjjfjgdhloideaa.QI
open Go.RowKit Go.Proofs.Ytjjfjgdhloideaa Go.Proofs.YtjjfjgdhloideaaW.PrintWords Go.Proofs.Ytjjfjgdhloideaa.Ev0
theorem szDiff_ev (a : Int) (b c : ByteArray) (d : Int) (e : ByteArray) (f x : Int) (h0 : 0 ≤ x) (h1 : x ≤ 1048576) (hb : (b.size : Int) ≤ 9223372036854775807) (hc : (c.size : Int) ≤ 9223372036854775807) (he : (e.size : Int) ≤ 9223372036854775807) :
    ∃ r, laws_szDiff.f a b c d e f x = some r ∧ (r < 0 ∨ (0 ≤ r ∧ r ≤ x ∧ True)) := by
  unfold laws_szDiff.f
  refine sz_step h0 h1 (by omega) hb (fun g1 => ?_)
  rw [wsub h0 h1 (by omega) hb]
  refine sz_step g1 (by omega) (by omega) hc (fun g2 => ?_)
  rw [wsub g1 (by omega) (by omega) hc]
  refine sz_step g2 (by omega) (by omega) he (fun g3 => ?_)
  rw [wsub g2 (by omega) (by omega) he]
  exact ⟨_, rfl, .inr ⟨g3, Int.le_refl _, trivial⟩⟩
def okLD (x : S130) : Prop := (x.f1.size : Int) ≤ 9223372036854775807 ∧ (x.f2.size : Int) ≤ 9223372036854775807 ∧ (x.f4.size : Int) ≤ 9223372036854775807
theorem okLD_of {x : S130} (h : wf130 x) : okLD x := by
  obtain ⟨_, h1, h2, _, h4, _⟩ := h
  have g1 : x.f1.size ≤ 2 ^ 63 - 1 := h1
  have g2 : x.f2.size ≤ 2 ^ 63 - 1 := h2
  have g4 : x.f4.size ≤ 2 ^ 63 - 1 := h4
  exact ⟨by omega, by omega, by omega⟩
theorem szDiffS_ev (l : List S130) (hl : l.length ≤ 9223372036854775807) (hx : ∀ x ∈ l, okLD x) (left : Int) (h0 : 0 ≤ left) (h1 : left ≤ 1048576) : SzR (fun k => laws_szDiffS.f k l left) left (l.length ≤ 1048576 ∧ ∀ i : Int, 0 ≤ i → i < (l.length : Int) → True) := by
  refine sz_loop l.length hl (fun _ => True) _ (fun k s i => laws_szDiffS.l0 k l s i) left h0 h1 (fun k => rfl) ?_ ?_
  · intro s i h0 hlt hs0 hs1
    have hw : wrap64 (i + 1) = i + 1 := w64 (by omega) (by omega)
    have hk : okLD (rd_T130 l i) := by
      unfold rd_T130
      rw [getD_at l _ _ (by omega)]
      exact hx _ (List.getElem_mem _)
    obtain ⟨t, ht, h2⟩ := szDiff_ev (rd_T130 l i).f0 (rd_T130 l i).f1 (rd_T130 l i).f2 (rd_T130 l i).f3 (rd_T130 l i).f4 (rd_T130 l i).f5 s hs0 hs1 hk.1 hk.2.1 hk.2.2
    simp only [laws_szDiffS.l0, ht, Option.bind_some, hw]
    rcases h2 with h2 | ⟨h2, h3, _⟩
    · exact .inl ⟨-1, by decide, Evt.pos hlt (Evt.pos h0 (Evt.pos h2 (Evt.pure _)))⟩
    · exact .inr ⟨t, h2, h3, trivial, fun r hr => Evt.pos hlt (Evt.pos h0 (Evt.neg (by omega) hr))⟩
  · intro s i hi
    simp only [laws_szDiffS.l0]
    exact Evt.neg (by omega) (Evt.pure _)
def cvDiff (x : S130) : S105 := ⟨x.f0, x.f1, x.f2, x.f3, x.f4, x.f5⟩
theorem toDiffS_ev (l : List S130) (hl : l.length ≤ 1048576) : Evt (fun k => laws_toDiffS.f k l) (l.map cvDiff) := by
  unfold laws_toDiffS.f
  refine Evt.pos (by omega) (Evt.pos (by omega) ?_)
  rw [Int.toNat_natCast]
  refine fill_loop l z130 z105 cvDiff (fun k acc i => laws_toDiffS.l0 k l acc i) ?_ ?_
  · intro acc i h0 hlt ha r hr
    have hw : wrap64 (i + 1) = i + 1 := w64 (by omega) (by omega)
    simp only [laws_toDiffS.l0, laws_toDiff.f, Option.bind_some, hw]
    exact Evt.pos hlt (Evt.pos h0 (Evt.pos (by omega) hr))
  · intro acc i hi
    simp only [laws_toDiffS.l0]
    exact Evt.neg (by omega) (Evt.pure _)
theorem eqDiffS_refl (l : List S105) (hl : l.length ≤ 9000000) : Evt (fun k => laws_eqDiffS.f k l l) true := by
  unfold laws_eqDiffS.f
  refine Evt.pos rfl (all_loop (l.length : Int) (by omega) (fun k i => laws_eqDiffS.l0 k l l i) ?_ ?_)
  · intro i h0 hlt ih
    have hw : wrap64 (i + 1) = i + 1 := w64 (by omega) (by omega)
    simp only [laws_eqDiffS.l0, laws_eqDiff.f, if_true, Option.bind_some, hw]
    exact Evt.pos hlt (Evt.pos h0 (Evt.pos hlt ih))
  · simp only [laws_eqDiffS.l0]
    exact Evt.neg (by omega) (Evt.pure _)
end Go.Proofs.Ytjjfjgdhloideaa.QI
namespace Go.Proofs.Ytjjfjgdhloideaa.QI
open Go.RowKit Go.Proofs.Ytjjfjgdhloideaa Go.Proofs.YtjjfjgdhloideaaW.PrintWords Go.Proofs.Ytjjfjgdhloideaa.Ev0
def partAt (l : List S92) (i : Int) : Prop :=
  partB (rd_T92 l i).f0 (rd_T92 l i).f1 (rd_T92 l i).f2 (rd_T92 l i).f3 = true ∧ (0 < i → less (rd_T92 l (i - 1)).f0 (rd_T92 l i).f0)
def GateP (n : ByteArray) (d : Int) (p : List S92) (x : List S102) (s : List S71) (m : List S73) (f : List S105) (o : List S108) : Prop :=
  (nameB n = true ∧ (0 ≤ d ∧ d ≤ 100000) ∧ (p.length : Int) ≤ 20 ∧ (f.length : Int) ≤ 200) ∧ (∀ i, 0 ≤ i → i < (p.length : Int) → partAt p i) ∧ (crossB x = true ∧ bookB s m = true ∧ outboxB o = true)
noncomputable def gateB (n : ByteArray) (d : Int) (p : List S92) (x : List S102) (s : List S71) (m : List S73) (f : List S105) (o : List S108) : Bool := B (GateP n d p x s m f o)
structure okG (n : ByteArray) (p : List S92) (x : List S102) (s : List S71) (m : List S73) (f : List S105) (o : List S108) : Prop where
  qn : (n.size : Int) ≤ 9223372036854775807
  qp : ∀ y ∈ p, okP y
  qx : ∀ y ∈ x, okX y
  qs : ∀ y ∈ s, okK y
  qm : ∀ y ∈ m, okS y
  qo : ∀ y ∈ o, okO y
  lp : p.length ≤ 1048576
  lx : x.length ≤ 1048576
  ls : s.length ≤ 1048576
  lm : m.length ≤ 1048576
  lf : f.length ≤ 1048576
  lo : o.length ≤ 1048576
theorem specGate_ev (n : ByteArray) (d : Int) (p : List S92) (x : List S102) (s : List S71) (m : List S73) (f : List S105) (o : List S108) (h : okG n p x s m f o) :
    Evt (fun k => spec_GateRight.f k n d p x s m f o) (gateB n d p x s m f o) := by
  unfold spec_GateRight.f
  have bad : ¬ GateP n d p x s m f o → Evt (fun k => spec_GateRight.j0 k true n d p x s m f o) (gateB n d p x s m f o) := fun h => by
    apply Evt.succ
    simp only [spec_GateRight.j0, if_true]
    exact (Evt.pure false).same (B_false h).symm
  refine Evt.bind (specName_ev _ h.qn) (Evt.ite (fun g1 => ?_) (fun g1 => bad (fun h => g1 h.1.1)))
  refine Evt.bind (Evt.const (l01Day_ev d)) (Evt.ite (fun g2 => ?_) (fun g2 => bad (fun h => g2 (B_true h.1.2.1))))
  refine Evt.ite (fun g3 => bad (fun h => by have := h.1.2.2.1; omega)) (fun g3 => ?_)
  refine Evt.bind (specCross_ev _ h.qx) (Evt.ite (fun g4 => ?_) (fun g4 => bad (fun h => g4 h.2.2.1)))
  refine Evt.bind (specBook_ev _ _ h.qs h.qm) (Evt.ite (fun g5 => ?_) (fun g5 => bad (fun h => g5 h.2.2.2.1)))
  refine Evt.ite (fun g6 => bad (fun h => by have := h.1.2.2.2; omega)) (fun g6 => ?_)
  refine Evt.bind (specOutbox_ev _ h.qo) ?_
  by_cases g7 : outboxB o = true
  · rw [g7]
    simp only [Bool.not_true]
    apply Evt.succ
    simp only [spec_GateRight.j0, Bool.false_eq_true, if_false]
    refine (right_loop (p.length : Int) (by omega) (partAt p) True (fun k i => spec_GateRight.l0 k i n d p x s m f o) ?_ ?_).same (B_congr ⟨fun h => ⟨⟨g1, B_iff.1 g2, by omega, by omega⟩, h.1, g4, g5, g7⟩, fun h => ⟨h.2.1, trivial⟩⟩)
    · intro i h0 hlt
      have hk := okP_at h.qp i hlt h0
      have hw : wrap64 (i + 1) = i + 1 := w64 (by omega) (by omega)
      have hw1 : wrap64 (i - 1) = i - 1 := w64 (by omega) (by omega)
      simp only [spec_GateRight.l0, hw, hw1]
      refine ⟨fun ok r hr => ?_, fun nok => ?_⟩
      · exact Evt.pos hlt (Evt.pos h0 (Evt.bind (specPart_ev _ _ _ _ hk.1) (Evt.pos ok.1 (Evt.ite (fun hp => Evt.pos (by omega) (Evt.pos (by omega) (Evt.pos (ok.2 hp) hr))) (fun _ => hr)))))
      · exact Evt.pos hlt (Evt.pos h0 (Evt.bind (specPart_ev _ _ _ _ hk.1) (Evt.ite (fun hl => Evt.ite (fun hp => Evt.pos (by omega) (Evt.pos (by omega) (Evt.neg (fun hb => nok ⟨hl, fun _ => hb⟩) (Evt.pure _)))) (fun hp => absurd ⟨hl, fun h => absurd h hp⟩ nok)) (fun _ => Evt.pure _))))
    · simp only [spec_GateRight.l0]
      exact Evt.neg (by omega) ((Evt.pure true).same (B_true trivial).symm)
  · rw [Bool.eq_false_iff.2 g7]
    simp only [Bool.not_false]
    exact bad (fun h => g7 h.2.2.2.2)
theorem implGate_ev (n : ByteArray) (d : Int) (p : List S92) (x : List S102) (s : List S71) (m : List S73) (f : List S105) (o : List S108) (h : okG n p x s m f o) :
    Evt (fun k => impl_GateRight.f k n d p x s m f o) (gateB n d p x s m f o) := by
  unfold impl_GateRight.f
  have bad : ¬ GateP n d p x s m f o → Evt (fun k => impl_GateRight.j0 k true n d p x s m f o) (gateB n d p x s m f o) := fun h => by
    apply Evt.succ
    simp only [impl_GateRight.j0, if_true]
    exact (Evt.pure false).same (B_false h).symm
  refine Evt.ite (fun g3 => bad (fun h => by have := h.1.2.2.1; omega)) (fun g3 => ?_)
  refine Evt.ite (fun g6 => bad (fun h => by have := h.1.2.2.2; omega)) (fun g6 => ?_)
  refine Evt.bind (implName_ev _ h.qn) (Evt.ite (fun g1 => ?_) (fun g1 => bad (fun h => g1 h.1.1)))
  refine Evt.bind (Evt.const (isDay_ev d)) ?_
  by_cases g2 : 0 ≤ d ∧ d ≤ 100000
  · rw [B_true g2]
    simp only [Bool.not_true]
    apply Evt.succ
    simp only [impl_GateRight.j0, Bool.false_eq_true, if_false]
    refine (right_loop (p.length : Int) (by omega) (partAt p) (crossB x = true ∧ bookB s m = true ∧ outboxB o = true) (fun k i => impl_GateRight.l0 k p (p.length : Int) i n d p x s m f o) ?_ ?_).same (B_congr ⟨fun h => ⟨⟨g1, g2, by omega, by omega⟩, h.1, h.2⟩, fun h => h.2⟩)
    · intro i h0 hlt
      have hk := okP_at h.qp i hlt h0
      have hw : wrap64 (i + 1) = i + 1 := w64 (by omega) (by omega)
      have hw1 : wrap64 (i - 1) = i - 1 := w64 (by omega) (by omega)
      simp only [impl_GateRight.l0, hw, hw1]
      refine ⟨fun ok r hr => ?_, fun nok => ?_⟩
      · exact Evt.pos hlt (Evt.pos h0 (Evt.pos hlt (Evt.bind (implPart_ev _ _ _ _ hk.1 hk.2) (Evt.pos ok.1 (Evt.ite (fun hp => Evt.pos (by omega) (Evt.pos (by omega) (Evt.pos (ok.2 hp) hr))) (fun _ => hr))))))
      · exact Evt.pos hlt (Evt.pos h0 (Evt.pos hlt (Evt.bind (implPart_ev _ _ _ _ hk.1 hk.2) (Evt.ite (fun hl => Evt.ite (fun hp => Evt.pos (by omega) (Evt.pos (by omega) (Evt.neg (fun hb => nok ⟨hl, fun _ => hb⟩) (Evt.pure _)))) (fun hp => absurd ⟨hl, fun h => absurd h hp⟩ nok)) (fun _ => Evt.pure _)))))
    · simp only [impl_GateRight.l0]
      exact Evt.neg (by omega) (Evt.bind (implCross_ev _ h.qx) (and_ Iff.rfl (fun _ => Evt.bind (implBook_ev _ _ h.qs h.qm) (and_ Iff.rfl (fun _ => Evt.bind (implOutbox_ev _ h.qo) ((Evt.pure _).same (bool_B Iff.rfl)))))))
  · rw [B_false g2]
    simp only [Bool.not_false]
    exact bad (fun h => g2 h.1.2.1)
structure okLG (n : ByteArray) (p : List S126) (x : List S128) (s : List S111) (m : List S113) (f : List S130) (o : List S132) : Prop where
  qn : (n.size : Int) ≤ 9223372036854775807
  qp : ∀ y ∈ p, okLP y
  qx : ∀ y ∈ x, okLX y
  qs : ∀ y ∈ s, okLK y
  qm : ∀ y ∈ m, okL y
  qf : ∀ y ∈ f, okLD y
  qo : ∀ y ∈ o, okLO y
  lp : p.length ≤ 9223372036854775807
  lx : x.length ≤ 9223372036854775807
  ls : s.length ≤ 9223372036854775807
  lm : m.length ≤ 9223372036854775807
  lf : f.length ≤ 9223372036854775807
  lo : o.length ≤ 9223372036854775807
def szG (n : ByteArray) (p : List S126) (x : List S128) (s : List S111) (m : List S113) (f : List S130) (o : List S132) : Prop :=
  ((n.size : Int) ≤ 1048576) ∧ (p.length ≤ 1048576 ∧ ∀ i : Int, 0 ≤ i → i < (p.length : Int) → (rd_T126 p i).f3.length ≤ 1048576) ∧ x.length ≤ 1048576 ∧ s.length ≤ 1048576 ∧ m.length ≤ 1048576 ∧ f.length ≤ 1048576 ∧ o.length ≤ 1048576
theorem szGate_ev (n : ByteArray) (d : Int) (p : List S126) (x : List S128) (s : List S111) (m : List S113) (f : List S130) (o : List S132) (h : okLG n p x s m f o) :
    ∃ t, Evt (fun k => laws_szGate.f k n d p x s m f o 1048576) t ∧ (t < 0 ∨ szG n p x s m f o) := by
  unfold laws_szGate.f
  rw [wsub (by decide) (by decide) (by omega) h.qn]
  by_cases g0 : (1048576 : Int) - (n.size : Int) < 0
  · exact ⟨-1, Evt.pos g0 (Evt.pure _), .inl (by decide)⟩
  obtain ⟨t1, e1, q1⟩ := szPartnerS_ev p h.lp h.qp (1048576 - (n.size : Int)) (by omega) (by omega)
  rcases q1 with q1 | ⟨q1, r1, s1⟩
  · exact ⟨-1, Evt.neg g0 (Evt.bind e1 (Evt.pos q1 (Evt.pure _))), .inl (by decide)⟩
  obtain ⟨t2, e2, q2⟩ := szCrossS_ev x h.lx h.qx t1 q1 (by omega)
  rcases q2 with q2 | ⟨q2, r2, s2⟩
  · exact ⟨-1, Evt.neg g0 (Evt.bind e1 (Evt.neg (by omega) (Evt.bind e2 (Evt.pos q2 (Evt.pure _))))), .inl (by decide)⟩
  obtain ⟨t3, e3, q3⟩ := szBook_ev s m h.ls h.qs h.lm h.qm t2 q2 (by omega)
  rcases q3 with q3 | ⟨q3, r3, s3⟩
  · exact ⟨-1, Evt.neg g0 (Evt.bind e1 (Evt.neg (by omega) (Evt.bind e2 (Evt.neg (by omega) (Evt.bind e3 (Evt.pos q3 (Evt.pure _))))))), .inl (by decide)⟩
  obtain ⟨t4, e4, q4⟩ := szDiffS_ev f h.lf h.qf t3 q3 (by omega)
  rcases q4 with q4 | ⟨q4, r4, s4⟩
  · exact ⟨-1, Evt.neg g0 (Evt.bind e1 (Evt.neg (by omega) (Evt.bind e2 (Evt.neg (by omega) (Evt.bind e3 (Evt.neg (by omega) (Evt.bind e4 (Evt.pos q4 (Evt.pure _))))))))), .inl (by decide)⟩
  obtain ⟨t5, e5, q5⟩ := szOutS_ev o h.lo h.qo t4 q4 (by omega)
  rcases q5 with q5 | ⟨q5, r5, s5⟩
  · exact ⟨-1, Evt.neg g0 (Evt.bind e1 (Evt.neg (by omega) (Evt.bind e2 (Evt.neg (by omega) (Evt.bind e3 (Evt.neg (by omega) (Evt.bind e4 (Evt.neg (by omega) (Evt.bind e5 (Evt.pos q5 (Evt.pure _))))))))))), .inl (by decide)⟩
  exact ⟨t5, Evt.neg g0 (Evt.bind e1 (Evt.neg (by omega) (Evt.bind e2 (Evt.neg (by omega) (Evt.bind e3 (Evt.neg (by omega) (Evt.bind e4 (Evt.neg (by omega) (Evt.bind e5 (Evt.neg (by omega) (Evt.pure _))))))))))), .inr ⟨by omega, s1, s2.1, s3.1, s3.2, s4.1, s5.1⟩⟩
theorem toGate_ev (n : ByteArray) (d : Int) (p : List S126) (x : List S128) (s : List S111) (m : List S113) (f : List S130) (o : List S132) (h : szG n p x s m f o) :
    Evt (fun k => laws_toGate.f k n d p x s m f o) (n, d, p.map cvPart, x.map cvCross, s.map cvStock, m.map cvLine, f.map cvDiff, o.map cvOut) := by
  obtain ⟨_, hp, hx, hs, hm, hf, ho⟩ := h
  unfold laws_toGate.f
  exact Evt.bind (toPartnerS_ev p hp.1 hp.2) (Evt.bind (toCrossS_ev x hx) (Evt.bind (toBook_ev s m hs hm) (Evt.bind (toDiffS_ev f hf) (Evt.bind (toOutS_ev o ho) (Evt.pure _)))))
theorem okG_map (n : ByteArray) (p : List S126) (x : List S128) (s : List S111) (m : List S113) (f : List S130) (o : List S132) (h : okLG n p x s m f o) (g : szG n p x s m f o) :
    okG n (p.map cvPart) (x.map cvCross) (s.map cvStock) (m.map cvLine) (f.map cvDiff) (o.map cvOut) where
  qn := h.qn
  qp := okP_map p h.qp g.2.1.2
  qx := okX_map x h.qx
  qs := okK_map s h.qs
  qm := okS_map m h.qm
  qo := okO_map o h.qo
  lp := by rw [List.length_map]; exact g.2.1.1
  lx := by rw [List.length_map]; exact g.2.2.1
  ls := by rw [List.length_map]; exact g.2.2.2.1
  lm := by rw [List.length_map]; exact g.2.2.2.2.1
  lf := by rw [List.length_map]; exact g.2.2.2.2.2.1
  lo := by rw [List.length_map]; exact g.2.2.2.2.2.2
theorem eqGate_refl (n : ByteArray) (d : Int) (p : List S92) (x : List S102) (s : List S71) (m : List S73) (f : List S105) (o : List S108) (h : okG n p x s m f o) :
    Evt (fun k => laws_eqGate.f k n d p x s m f o n d p x s m f o) true := by
  unfold laws_eqGate.f
  have := h.lp; have := h.lx; have := h.ls; have := h.lm; have := h.lf; have := h.lo
  exact Evt.pos rfl (Evt.pos rfl (Evt.bind (eqPartnerS_refl p (by omega) h.qp) (Evt.pos rfl (Evt.bind (eqCrossS_refl x (by omega)) (Evt.pos rfl (Evt.bind (eqBook_refl s m (by omega) (by omega)) (Evt.pos rfl (Evt.bind (eqDiffS_refl f (by omega)) (Evt.pos rfl (Evt.bind (eqOutS_refl o (by omega)) (Evt.pos rfl (Evt.pure true))))))))))))
end Go.Proofs.Ytjjfjgdhloideaa.QI
namespace Go.Proofs.Ytjjfjgdhloideaa.Pure
open Go.RowKit Go.Proofs.Ytjjfjgdhloideaa Go.Proofs.Ytjjfjgdhloideaa.QI Go.Proofs.YtjjfjgdhloideaaW.PrintWords Go.Proofs.Ytjjfjgdhloideaa.Ev0
theorem FnExactGateRight : laws_FnExactGateRight.Pure := by
  intro n d p x s m f o wn wd wp wx ws wm wf wo
  apply Evt.ex
  unfold laws_FnExactGateRight.f
  have hn : n.size ≤ 2 ^ 63 - 1 := wn
  have h : okLG n p x s m f o := ⟨by omega, fun y hy => okLP_of (wp.2 y hy), fun y hy => okLX_of (wx.2 y hy), fun y hy => okLK_of (ws.2 y hy), fun y hy => okL_of (wm.2 y hy), fun y hy => okLD_of (wf.2 y hy), fun y hy => okLO_of (wo.2 y hy), wp.1, wx.1, ws.1, wm.1, wf.1, wo.1⟩
  obtain ⟨t, ht, hlen⟩ := szGate_ev n d p x s m f o h
  refine Evt.bind ht (Evt.ite (fun _ => Evt.pure true) (fun hn => ?_))
  have g := hlen.resolve_left hn
  have hto := toGate_ev n d p x s m f o g
  have hg := okG_map n p x s m f o h g
  exact Evt.bind hto (Evt.bind (specGate_ev _ d _ _ _ _ _ _ hg) (Evt.bind hto (Evt.bind (implGate_ev _ d _ _ _ _ _ _ hg) (Evt.neg (by simp) (Evt.bind hto (Evt.bind (eqGate_refl _ d _ _ _ _ _ _ hg) (Evt.pos rfl (Evt.pure true))))))))
end Go.Proofs.Ytjjfjgdhloideaa.Pure

-- Merged by a program of this session (wip/tool/pack.py) out of its own texts for this claim.
import Derived.Test.YtefmkmhjbfpelaaKFnExactBookMove0
import Derived.Test.YtefmkmhjbfpelaaKFnExactBookMove1
import Derived.Test.YtefmkmhjbfpelaaKFnExactBookMove2
import Derived.Test.YtefmkmhjbfpelaaKFnExactBookMove3
import Derived.Test.YtefmkmhjbfpelaaKFnExactBookMove19
namespace Go.Proofs.Ytefmkmhjbfpelaa.QM
open Go.RowKit Go.Proofs.Ytefmkmhjbfpelaa Go.Proofs.YtefmkmhjbfpelaaW.PrintWords Go.Proofs.Ytefmkmhjbfpelaa.Ev0
abbrev MX := S54
theorem ba_inj {a b : ByteArray} (h : a.toList = b.toList) : a = b := by
  rw [Lib.toList_data, Lib.toList_data] at h
  exact ByteArray.ext (Array.toList_inj.mp h)
theorem rdK_nat {l : List KX} {i : Nat} (h : i < l.length) : rd_T117 l (i : Int) = l[i] := by
  unfold rd_T117
  rw [Int.toNat_natCast, getD_at l _ _ h]
noncomputable def atK (l : List KX) (q : ByteArray) : Nat := idxP (fun y : KX => ¬ less y.f0 q) l
def isK (l : List KX) (q : ByteArray) : Prop := ∃ h : atK l q < l.length, (l[atK l q]).f0.toList = q.toList
noncomputable def handK (l : List KX) (q : ByteArray) : Int := @ite _ (isK l q) (Classical.propDecidable _) (rd_T117 l (atK l q)).f1 0
noncomputable def upK (l : List KX) (q : ByteArray) : Nat := @ite _ (isK l q) (Classical.propDecidable _) (atK l q + 1) (atK l q)
noncomputable def newK (l : List KX) (q : ByteArray) (n : Int) : List KX := l.take (atK l q) ++ [⟨q, n⟩] ++ l.drop (upK l q)
theorem atK_le (l : List KX) (q : ByteArray) : atK l q ≤ l.length := idxP_le _ _
theorem less_neK {a b : ByteArray} (h : less a b) : ¬ a.toList = b.toList := by
  rcases cmpS_cases a b with ⟨_, _, h3, _⟩ | ⟨h1, _⟩ | ⟨h1, _⟩
  · exact h3
  · exact absurd h h1
  · exact absurd h h1
theorem atK_lo {l : List KX} {q : ByteArray} {i : Nat} (hi : i < l.length) (h : i < atK l q) : less l[i].f0 q := Classical.byContradiction fun hn => idxP_no (p := fun y : KX => ¬ less y.f0 q) h hn
theorem atK_at {l : List KX} {q : ByteArray} (h : atK l q < l.length) : ¬ less (l[atK l q]).f0 q := idxP_yes (p := fun y : KX => ¬ less y.f0 q) h
theorem atK_hi {l : List KX} {m : List MX} {q : ByteArray} (hb : BookP l m) {i : Nat} (hi : i < l.length) (h : atK l q < i) : less q l[i].f0 := by
  have h1 := stocks_less l m hb (atK l q : Int) (i : Int) (by omega) (by omega) (by omega)
  rw [rdK_nat (show atK l q < l.length by omega), rdK_nat hi] at h1
  have h2 := atK_at (q := q) (show atK l q < l.length by omega)
  rcases cmpS_cases (l[atK l q]).f0 q with ⟨e, _⟩ | ⟨_, e, _⟩ | ⟨_, _, e, _⟩
  · exact absurd e h2
  · exact less_tr e h1
  · unfold less at h1 ⊢
    rw [← e]
    exact h1
theorem isK_of {l : List KX} {m : List MX} {q : ByteArray} (hb : BookP l m) {i : Nat} (hi : i < l.length) (h : l[i].f0.toList = q.toList) : i = atK l q := by
  rcases Nat.lt_trichotomy i (atK l q) with g | g | g
  · exact absurd h (less_neK (atK_lo hi g))
  · exact g
  · exact absurd h.symm (less_neK (atK_hi hb hi g))
theorem handK_ok {l : List KX} {m : List MX} (q : ByteArray) (hb : BookP l m) : 0 ≤ handK l q ∧ handK l q ≤ 1000000000 := by
  unfold handK
  split
  · rename_i h
    obtain ⟨h, _⟩ := h
    exact (hb.2.1 (atK l q : Int) (by omega) (by omega)).2.1
  · omega
theorem placeK (l : List KX) (m : List MX) (q : ByteArray) (hb : BookP l m) (p : Int) (hp : PlaceOf l q p) : (isK l q ∧ p = (atK l q : Int)) ∨ (¬ isK l q ∧ p = -1) := by
  rcases hp with ⟨h1, h2⟩ | ⟨h0, h1, h2⟩
  · refine .inr ⟨fun ⟨h, e⟩ => h2 (atK l q : Int) (by omega) (by omega) (by rw [rdK_nat h]; exact e), h1⟩
  · obtain ⟨i, rfl⟩ : ∃ i : Nat, p = i := ⟨p.toNat, by omega⟩
    have hi : i < l.length := by omega
    rw [rdK_nat hi] at h2
    have e := isK_of hb hi h2
    subst e
    exact .inl ⟨⟨hi, h2⟩, rfl⟩
theorem specHand_ev (K : List KX) (m : List MX) (q : ByteArray) (hk : ∀ x ∈ K, okK x) (hs : ∀ x ∈ m, okS x) (hb : BookP K m) (hq : ¬ (q.size : Int) > 20000) : Evt (fun k => spec_BookHand.f k K m q) (handK K q) := by
  unfold spec_BookHand.f handK
  obtain ⟨p, hp, hpl⟩ := specStock_ev K m q hb.1
  have hB : bookB K m = true := B_true hb
  rcases placeK K m q hb p hpl with ⟨h1, e⟩ | ⟨h1, e⟩
  · subst e
    rw [if_pos h1]
    obtain ⟨h2, _⟩ := h1
    exact Evt.neg hq (Evt.bind (specBook_ev K m hk hs) (Evt.pos hB (Evt.bind hp (Evt.neg (by omega) (Evt.bind hp (Evt.pos (by omega) (Evt.pos (by omega) (Evt.pure _))))))))
  · subst e
    rw [if_neg h1]
    exact Evt.neg hq (Evt.bind (specBook_ev K m hk hs) (Evt.pos hB (Evt.bind hp (Evt.pos (by decide) (Evt.pure _)))))
theorem implFind_ev (l : List KX) (m : List MX) (q : ByteArray) (h : BookP l m) : Evt (fun k => impl_Stock_string_impl_stockOrder.f k l q) ((atK l q : Int), B (isK l q)) := by
  have hn : (l.length : Int) ≤ 100 := h.1
  have so : ∀ x : KX, impl_stockOrder.f x.f0 x.f1 q = some (cmpS x.f0 q) := fun x => by
    unfold impl_stockOrder.f
    rw [strCmp_ev]
    rfl
  have hf := bin_loop (l.length : Int) (by omega) (fun i => less (rd_T117 l i).f0 q) (fun k lo hi => impl_Stock_string_impl_stockOrder.l0 k l q (l.length : Int) lo hi)
    (fun z => (z, (@ite _ (z < (l.length : Int)) (Classical.propDecidable _) (cmpS (rd_T117 l z).f0 q == 0) false))) ?_ ?_ ?_
  · obtain ⟨z, z0, z1, hz, q1, q2⟩ := hf
    obtain ⟨a, rfl⟩ : ∃ a : Nat, z = a := ⟨z.toNat, by omega⟩
    have ea : atK l q = a := idxP_eq (by omega) (fun i hi hia hnn => hnn (by
      have := q1 (i : Int) (by omega) (by omega)
      rw [rdK_nat hi] at this
      exact this)) (fun hi => by
      have := q2 (a : Int) (Int.le_refl _) (by omega)
      rw [rdK_nat hi] at this
      exact this)
    refine hz.same ?_
    rw [ea]
    congr 1
    unfold isK
    by_cases hlt : (a : Int) < (l.length : Int)
    · have ha : a < l.length := by omega
      rw [if_pos hlt, rdK_nat ha]
      refine bool_B ?_
      simp only [ea]
      have q3 := q2 (a : Int) (Int.le_refl _) hlt
      rw [rdK_nat ha] at q3
      rcases cmpS_cases (l[a]).f0 q with ⟨e, _⟩ | ⟨_, _, e, e2⟩ | ⟨_, _, e, e2⟩
      · exact absurd e q3
      · rw [e2]
        simp [e]
      · rw [e2]
        simp [e, ha]
    · rw [if_neg hlt]
      refine (B_false ?_).symm
      simp only [ea]
      rintro ⟨h1, _⟩
      omega
  · intro lo hi h0 hlt h2
    have hm := mid_eq lo hi h0 hlt (by omega)
    have hw : wrap64 ((lo + hi) / 2 + 1) = (lo + hi) / 2 + 1 := w64 (by omega) (by omega)
    simp only [impl_Stock_string_impl_stockOrder.l0, hm, hw, so, Option.bind_some]
    refine ⟨fun g r hr => Evt.pos hlt (Evt.pos (by omega) (Evt.pos (by omega) (Evt.pos ?_ hr))), fun g r hr => Evt.pos hlt (Evt.pos (by omega) (Evt.pos (by omega) (Evt.neg ?_ hr)))⟩
    · rcases cmpS_cases (rd_T117 l ((lo + hi) / 2)).f0 q with ⟨_, _, _, e⟩ | ⟨e, _, _, _⟩ | ⟨e, _, _, _⟩
      · rw [e]; decide
      · exact absurd g e
      · exact absurd g e
    · rcases cmpS_cases (rd_T117 l ((lo + hi) / 2)).f0 q with ⟨e, _, _, _⟩ | ⟨_, _, _, e⟩ | ⟨_, _, _, e⟩
      · exact absurd e g
      · rw [e]; decide
      · rw [e]; decide
  · intro lo h0 h1
    simp only [impl_Stock_string_impl_stockOrder.l0, so, Option.bind_some]
    refine Evt.neg (by omega) ?_
    by_cases g : lo < (l.length : Int)
    · exact Evt.pos g (Evt.pos h0 (Evt.pos g ((Evt.pure _).same (by rw [if_pos g]))))
    · exact Evt.neg g ((Evt.pure _).same (by rw [if_neg g]))
  · intro i j h0 hij hj hn'
    by_cases g : i < j
    · exact less_tr (stocks_less l m h i j h0 g hj) hn'
    · have e : i = j := by omega
      rw [e]; exact hn'
theorem implHand_ev (K : List KX) (m : List MX) (q : ByteArray) (hb : BookP K m) : Evt (fun k => impl_Book_hand.f k K m q) (handK K q) := by
  unfold impl_Book_hand.f handK
  refine Evt.bind (implFind_ev K m q hb) ?_
  by_cases h : isK K q
  · rw [if_pos h, B_true h]
    obtain ⟨h2, _⟩ := h
    exact Evt.pos rfl (Evt.pos (by omega) (Evt.pos (by omega) (Evt.pure _)))
  · rw [if_neg h, B_false h]
    exact Evt.neg (by simp) (Evt.pure _)
def canK (l : List KX) (q : ByteArray) (by_ : Int) : Prop := 0 ≤ handK l q + by_ ∧ handK l q + by_ ≤ 1000000000 ∧ (isK l q ∨ (l.length : Int) < 100)
noncomputable def movR (l : List KX) (q : ByteArray) (by_ : Int) : List KX := @ite _ (canK l q by_) (Classical.propDecidable _) (newK l q (handK l q + by_)) l
theorem implMove_ev (l : List KX) (m : List MX) (q : ByteArray) (by_ : Int) (hb : BookP l m) (b0 : -9223372036854775808 ≤ by_) (b1 : by_ ≤ 9223372036854775807) : ∃ r, Evt (fun k => impl_Book_move.f k l m q by_) (r, movR l q by_) := by
  have hh := handK_ok q hb
  have hn : (l.length : Int) ≤ 100 := hb.1
  have hle := atK_le l q
  have w1 : wrap64 (-(handK l q)) = -(handK l q) := w64 (by omega) (by omega)
  have w2 : wrap64 (1000000000 - handK l q) = 1000000000 - handK l q := w64 (by omega) (by omega)
  unfold impl_Book_move.f movR
  by_cases c1 : by_ < -(handK l q)
  · refine ⟨false, Evt.bind (implFind_ev l m q hb) (Evt.bind (implHand_ev l m q hb) ?_)⟩
    rw [w1, if_neg (show ¬ canK l q by_ from fun h => by have := h.1; omega)]
    exact Evt.pos c1 (Evt.pure _)
  · by_cases c2 : by_ > 1000000000 - handK l q
    · refine ⟨false, Evt.bind (implFind_ev l m q hb) (Evt.bind (implHand_ev l m q hb) ?_)⟩
      rw [w1, w2, if_neg (show ¬ canK l q by_ from fun h => by have := h.2.1; omega)]
      exact Evt.neg c1 (Evt.pos c2 (Evt.pure _))
    · by_cases c3 : isK l q
      · refine ⟨true, Evt.bind (implFind_ev l m q hb) (Evt.bind (implHand_ev l m q hb) ?_)⟩
        rw [w1, w2, if_pos (show canK l q by_ from ⟨by omega, by omega, .inl c3⟩), B_true c3]
        obtain ⟨hlt, he⟩ := id c3
        refine Evt.neg c1 (Evt.neg c2 (Evt.pos rfl (Evt.pos (by omega) (Evt.pos (by omega) ((Evt.pure _).same ?_)))))
        have eh : handK l q = (l[atK l q]).f1 := by unfold handK; rw [if_pos c3, rdK_nat hlt]
        unfold newK upK impl_Book_move_put.f
        dsimp only
        rw [if_pos c3, rdK_nat hlt, Int.toNat_natCast, eh, w64 (by omega) (by omega), ba_inj he, List.set_eq_take_append_cons_drop, if_pos hlt]
        simp
      · by_cases c4 : (l.length : Int) = 100
        · refine ⟨false, Evt.bind (implFind_ev l m q hb) (Evt.bind (implHand_ev l m q hb) ?_)⟩
          rw [w1, w2, if_neg (show ¬ canK l q by_ from fun h => h.2.2.elim c3 (by omega)), B_false c3]
          exact Evt.neg c1 (Evt.neg c2 (Evt.neg (by simp) (Evt.pos c4 (Evt.pure _))))
        · refine ⟨true, Evt.bind (implFind_ev l m q hb) (Evt.bind (implHand_ev l m q hb) ?_)⟩
          rw [w1, w2, if_pos (show canK l q by_ from ⟨by omega, by omega, .inr (by omega)⟩), B_false c3]
          have eh : handK l q = 0 := by unfold handK; rw [if_neg c3]
          have hl2 : (l.take (atK l q) ++ [(⟨q, 0⟩ : KX)] ++ l.drop (atK l q)).length = l.length + 1 := by simp; omega
          refine Evt.neg c1 (Evt.neg c2 (Evt.neg (by simp) (Evt.neg c4 (Evt.bind (a := l.take (atK l q) ++ [(⟨q, 0⟩ : KX)] ++ l.drop (atK l q)) ?_ (Evt.pos (by omega) (Evt.pos (by rw [hl2]; omega) ((Evt.pure _).same ?_)))))))
          · simp only [slices_Insert_implStock.f, Int.toNat_natCast]
            exact Evt.pos (by omega) (Evt.pos (by omega) (Evt.pos rfl (Evt.pos (by omega) (Evt.pure _))))
          · have hat : (l.take (atK l q) ++ [(⟨q, 0⟩ : KX)] ++ l.drop (atK l q))[atK l q]'(by rw [hl2]; omega) = ⟨q, 0⟩ := by
              simp [hle]
            unfold newK upK impl_Book_move_put.f
            dsimp only
            rw [if_neg c3, rdK_nat (show atK l q < _ by rw [hl2]; omega), hat, Int.toNat_natCast, eh]
            dsimp only
            rw [w64 (by omega) (by omega)]
            have ht : (l.take (atK l q)).length = atK l q := by simp [hle]
            simp [ht]
theorem newK_len (l : List KX) (q : ByteArray) (n : Int) : (newK l q n).length ≤ l.length + 1 := by
  have h1 := atK_le l q
  have h2 : atK l q ≤ upK l q := by unfold upK; split <;> omega
  unfold newK
  simp
  omega
theorem movR_len {l : List KX} {q : ByteArray} {by_ : Int} (h : l.length ≤ 1048576) : (movR l q by_).length ≤ 1048577 := by
  unfold movR
  split
  · have := newK_len l q (handK l q + by_)
    omega
  · omega
theorem l10Copy_ev (l : List KX) (m : List MX) (hl : l.length ≤ 1048576) (hm : m.length ≤ 1048576) : spec_l10Copy.f l m = some (l, m) := by
  unfold spec_l10Copy.f
  simp only [Option.bind_some, List.nil_append]
  rw [if_pos (by simp; omega), if_pos (by simp; omega)]
theorem ownBook_ev (l : List KX) (m : List MX) (hl : l.length ≤ 1048576) (hm : m.length ≤ 1048576) : impl_ownBook.f l m = some (l, m) := by
  unfold impl_ownBook.f slices_Clone_implStock.f slices_Clone_implOrderLine.f
  rw [if_pos (by omega)]
  simp only [Option.bind_some]
  rw [if_pos (by omega)]
  rfl
noncomputable def stK (l : List KX) (q : ByteArray) (n : Int) (i : Int) : List KX × Bool := @ite _ (i.toNat ≤ atK l q) (Classical.propDecidable _) (l.take i.toNat, false) (l.take (atK l q) ++ [⟨q, n⟩] ++ (l.take i.toNat).drop (upK l q), true)
theorem specMove_l (l : List KX) (m : List MX) (q : ByteArray) (n : Int) (hb : BookP l m) : Evt (fun k => spec_l10Move.l0 k q n false 0 l m [] m) (newK l q n, m, true) := by
  have hn : (l.length : Int) ≤ 100 := hb.1
  have hk : atK l q ≤ l.length := atK_le l q
  have h := up_loop (l.length : Int) (fun k (s : List KX × Bool) i => spec_l10Move.l0 k q n s.2 i l m s.1 m) (stK l q n) (fun _ => (newK l q n, m, true)) ?_ ?_ 0 (Int.le_refl _) (by omega)
  · have e : stK l q n 0 = ([], false) := by unfold stK; simp
    rw [e] at h
    exact h
  · intro i h0 hlt ih
    have hw : wrap64 (i + 1) = i + 1 := w64 (by omega) (by omega)
    obtain ⟨j, rfl⟩ : ∃ j : Nat, i = j := ⟨i.toNat, by omega⟩
    have hj : j < l.length := by omega
    have ej : ((j : Int) + 1).toNat = j + 1 := by omega
    have tk : l.take (j + 1) = l.take j ++ [l[j]] := by rw [List.take_succ_eq_append_getElem hj]
    have hlj : (l.take j).length ≤ 100 := by simp; omega
    simp only [spec_l10Move.l0, rdK_nat hj]
    refine Evt.pos hlt ?_
    by_cases h1 : j ≤ atK l q
    · have e : stK l q n (j : Int) = (l.take j, false) := by unfold stK; rw [Int.toNat_natCast, if_pos h1]
      rw [e]
      refine Evt.neg (by simp) (Evt.pos h0 ?_)
      apply Evt.succ
      simp only [spec_l10Move.j3, hw, rdK_nat hj, Option.bind_some]
      by_cases h2 : j = atK l q
      · have ha := atK_at (q := q) (show atK l q < l.length by omega)
        have hb2 : ¬ less l[j].f0 q := by
          have ea : l[j] = l[atK l q]'(by omega) := by simp only [h2]
          rw [ea]; exact ha
        have hb3 : (!Op.bytesLess l[j].f0.toList q.toList) = true := by
          have : Op.bytesLess l[j].f0.toList q.toList = false := by simpa [less] using hb2
          rw [this]; rfl
        refine Evt.pos hb3 (Evt.pos (by omega) (Evt.pos h0 (Evt.pos hlt ?_)))
        by_cases h3 : l[j].f0.toList = q.toList
        · have hisK : isK l q := ⟨by omega, by simp only [← h2]; exact h3⟩
          have e3 : stK l q n ((j : Int) + 1) = (l.take j ++ [⟨q, n⟩], true) := by
            unfold stK upK
            rw [ej, if_neg (by omega), if_pos hisK, ← h2, List.drop_eq_nil_of_le (by simp; omega), List.append_nil]
          rw [e3] at ih
          exact Evt.pos h3 ih
        · have hisK : ¬ isK l q := fun ⟨_, he⟩ => h3 (by simp only [← h2] at he; exact he)
          have e3 : stK l q n ((j : Int) + 1) = (l.take j ++ [⟨q, n⟩] ++ [l[j]], true) := by
            unfold stK upK
            rw [ej, if_neg (by omega), if_neg hisK, ← h2, tk, List.drop_append_of_le_length (by simp; omega), List.drop_eq_nil_of_le (by simp; omega), List.nil_append]
          rw [e3] at ih
          exact Evt.neg h3 (Evt.pos (by simp; omega) ih)
      · have hl := atK_lo (q := q) hj (by omega)
        have hb3 : ¬ (!Op.bytesLess l[j].f0.toList q.toList) = true := by
          have : Op.bytesLess l[j].f0.toList q.toList = true := hl
          rw [this]; decide
        have e3 : stK l q n ((j : Int) + 1) = (l.take (j + 1), false) := by unfold stK; rw [ej, if_pos (by omega)]
        rw [e3, tk] at ih
        exact Evt.neg hb3 (Evt.pos h0 (Evt.pos hlt (Evt.neg (less_neK hl) (Evt.pos (by omega) ih))))
    · have hup : upK l q ≤ j := by unfold upK; split <;> omega
      have e : stK l q n (j : Int) = (l.take (atK l q) ++ [⟨q, n⟩] ++ (l.take j).drop (upK l q), true) := by unfold stK; rw [Int.toNat_natCast, if_neg h1]
      have e3 : stK l q n ((j : Int) + 1) = (l.take (atK l q) ++ [⟨q, n⟩] ++ (l.take j).drop (upK l q) ++ [l[j]], true) := by
        unfold stK
        rw [ej, if_neg (by omega), tk, List.drop_append_of_le_length (by simp; omega)]
        simp only [List.append_assoc]
      have hhi := atK_hi (q := q) hb hj (by omega)
      rw [e]
      rw [e3] at ih
      refine Evt.pos rfl ?_
      apply Evt.succ
      simp only [spec_l10Move.j3, hw, rdK_nat hj, Option.bind_some]
      refine Evt.neg (by simp) (Evt.pos h0 (Evt.pos hlt (Evt.neg (fun e_ => less_neK hhi e_.symm) (Evt.pos ?_ ih))))
      simp
      omega
  · simp only [spec_l10Move.l0]
    refine Evt.neg (by omega) ?_
    by_cases h1 : l.length ≤ atK l q
    · have e : stK l q n (l.length : Int) = (l, false) := by unfold stK; rw [Int.toNat_natCast, if_pos h1, List.take_length]
      have hisK : ¬ isK l q := fun ⟨h, _⟩ => by omega
      have e2 : newK l q n = l ++ [⟨q, n⟩] := by
        unfold newK upK
        rw [if_neg hisK, List.take_of_length_le h1, List.drop_eq_nil_of_le h1, List.append_nil]
      rw [e, e2]
      exact Evt.neg (by simp) (Evt.pos (by dsimp only; omega) (Evt.pure _))
    · have e : stK l q n (l.length : Int) = (newK l q n, true) := by
        unfold stK newK
        rw [Int.toNat_natCast, if_neg h1, List.take_length]
      rw [e]
      exact Evt.pos rfl (Evt.pure _)
theorem specMove_ev (l : List KX) (m : List MX) (q : ByteArray) (by_ : Int) (hk : ∀ x ∈ l, okK x) (hs : ∀ x ∈ m, okS x) (hl : l.length ≤ 1048576) (hm : m.length ≤ 1048576) (hq : ¬ (q.size : Int) > 20000) (b0 : -9223372036854775808 ≤ by_) (b1 : by_ ≤ 9223372036854775807) :
    ∃ r, Evt (fun k => spec_l10Move.f k l m q by_) ((@ite _ (BookP l m ∧ nameB q = true) (Classical.propDecidable _) (movR l q by_) l), m, r) := by
  unfold spec_l10Move.f
  simp only [l10Copy_ev l m hl hm, Option.bind_some]
  have bad : Evt (fun k => spec_l10Move.j0 k q by_ true l m l m) (l, m, false) := by
    apply Evt.succ
    simp only [spec_l10Move.j0, if_true]
    exact Evt.pure _
  by_cases h1 : BookP l m
  · by_cases h2 : nameB q = true
    · rw [if_pos ⟨h1, h2⟩]
      have hh := handK_ok q h1
      have hn : (l.length : Int) ≤ 100 := h1.1
      have no : ¬ canK l q by_ → movR l q by_ = l := fun h => if_neg h
      have hnm := specName_ev q (by omega)
      rw [h2] at hnm
      by_cases c1 : by_ < -1000000000
      · rw [no (fun h => by have := h.1; omega)]
        exact ⟨false, Evt.bind (specBook_ev l m hk hs) (Evt.pos (B_true h1) (Evt.bind hnm (Evt.pos rfl (Evt.pos c1 bad))))⟩
      · by_cases c2 : by_ > 1000000000
        · rw [no (fun h => by have := h.2.1; omega)]
          refine ⟨false, Evt.bind (specBook_ev l m hk hs) (Evt.pos (B_true h1) (Evt.bind hnm (Evt.pos rfl (Evt.neg c1 ?_))))⟩
          rw [decide_eq_true c2]
          exact bad
        · have pre : ∀ {R : List KX × List MX × Bool}, Evt (fun k => spec_l10Move.j0 k q by_ false l m l m) R → Evt (fun k => (spec_BookRight.f k l m).bind fun t193 => (if t193 = true then ((spec_l01Name.f k q).bind fun t194 => (if t194 = true then (if by_ < (-1000000000) then (spec_l10Move.j0 k q by_ true l m l m) else (spec_l10Move.j0 k q by_ (decide (by_ > 1000000000)) l m l m)) else (spec_l10Move.j0 k q by_ true l m l m))) else (spec_l10Move.j0 k q by_ true l m l m))) R := fun hR => by
            refine Evt.bind (specBook_ev l m hk hs) (Evt.pos (B_true h1) (Evt.bind hnm (Evt.pos rfl (Evt.neg c1 ?_))))
            rw [decide_eq_false c2]
            exact hR
          have w : wrap64 (handK l q + by_) = handK l q + by_ := w64 (by omega) (by omega)
          have hand := specHand_ev l m q hk hs h1 hq
          have j1bad : Evt (fun k => spec_l10Move.j1 k q (handK l q + by_) true l m l m m) (l, m, false) := by
            apply Evt.succ
            simp only [spec_l10Move.j1, if_true]
            exact Evt.pure _
          have j1ok : Evt (fun k => spec_l10Move.j1 k q (handK l q + by_) false l m l m m) (newK l q (handK l q + by_), m, true) := by
            apply Evt.succ
            simp only [spec_l10Move.j1, Bool.false_eq_true, if_false]
            exact specMove_l l m q _ h1
          obtain ⟨p, hp, hpl⟩ := specStock_ev l m q h1.1
          by_cases c3 : handK l q + by_ < 0
          · rw [no (fun h => by have := h.1; omega)]
            refine ⟨false, pre (Evt.succ ?_)⟩
            simp only [spec_l10Move.j0, Bool.false_eq_true, if_false]
            refine Evt.bind hand ?_
            simp only [w]
            exact Evt.pos c3 j1bad
          · by_cases c4 : handK l q + by_ > 1000000000
            · rw [no (fun h => by have := h.2.1; omega)]
              refine ⟨false, pre (Evt.succ ?_)⟩
              simp only [spec_l10Move.j0, Bool.false_eq_true, if_false]
              refine Evt.bind hand ?_
              simp only [w]
              exact Evt.neg c3 (Evt.pos c4 j1bad)
            · rcases placeK l m q h1 p hpl with ⟨g1, g2⟩ | ⟨g1, g2⟩
              · rw [show movR l q by_ = newK l q (handK l q + by_) from if_pos ⟨by omega, by omega, .inl g1⟩]
                refine ⟨true, pre (Evt.succ ?_)⟩
                simp only [spec_l10Move.j0, Bool.false_eq_true, if_false]
                refine Evt.bind hand ?_
                simp only [w]
                exact Evt.neg c3 (Evt.neg c4 (Evt.bind hp (Evt.neg (by omega) j1ok)))
              · by_cases c5 : (l.length : Int) ≥ 100
                · rw [no (fun h => h.2.2.elim g1 (by omega))]
                  refine ⟨false, pre (Evt.succ ?_)⟩
                  simp only [spec_l10Move.j0, Bool.false_eq_true, if_false]
                  refine Evt.bind hand ?_
                  simp only [w, decide_eq_true c5]
                  exact Evt.neg c3 (Evt.neg c4 (Evt.bind hp (Evt.pos (by omega) j1bad)))
                · rw [show movR l q by_ = newK l q (handK l q + by_) from if_pos ⟨by omega, by omega, .inr (by omega)⟩]
                  refine ⟨true, pre (Evt.succ ?_)⟩
                  simp only [spec_l10Move.j0, Bool.false_eq_true, if_false]
                  refine Evt.bind hand ?_
                  simp only [w, decide_eq_false c5]
                  exact Evt.neg c3 (Evt.neg c4 (Evt.bind hp (Evt.pos (by omega) j1ok)))
    · rw [if_neg (fun h => h2 h.2)]
      have hnm := specName_ev q (by omega)
      exact ⟨false, Evt.bind (specBook_ev l m hk hs) (Evt.pos (B_true h1) (Evt.bind hnm (Evt.neg h2 bad)))⟩
  · rw [if_neg (fun h => h1 h.1)]
    exact ⟨false, Evt.bind (specBook_ev l m hk hs) (Evt.neg (fun hh => h1 (B_iff.1 hh)) bad)⟩
noncomputable def moveR (l : List KX) (m : List MX) (q : ByteArray) (by_ : Int) : List KX × List MX := if (q.size : Int) > 20000 then ([], []) else (@ite _ (BookP l m ∧ nameB q = true) (Classical.propDecidable _) (movR l q by_) l, m)
theorem specBookMove_ev (l : List KX) (m : List MX) (q : ByteArray) (by_ : Int) (hk : ∀ x ∈ l, okK x) (hs : ∀ x ∈ m, okS x) (hl : l.length ≤ 1048576) (hm : m.length ≤ 1048576) (b0 : -9223372036854775808 ≤ by_) (b1 : by_ ≤ 9223372036854775807) : Evt (fun k => spec_BookMove.f k l m q by_) (moveR l m q by_) := by
  unfold spec_BookMove.f moveR
  by_cases g : (q.size : Int) > 20000
  · rw [if_pos g]
    exact Evt.pos g (Evt.pure _)
  · rw [if_neg g]
    obtain ⟨r, h⟩ := specMove_ev l m q by_ hk hs hl hm g b0 b1
    exact Evt.neg g (Evt.bind h (Evt.pure _))
theorem implBookMove_ev (l : List KX) (m : List MX) (q : ByteArray) (by_ : Int) (hk : ∀ x ∈ l, okK x) (hs : ∀ x ∈ m, okS x) (hl : l.length ≤ 1048576) (hm : m.length ≤ 1048576) (b0 : -9223372036854775808 ≤ by_) (b1 : by_ ≤ 9223372036854775807) : Evt (fun k => impl_BookMove.f k l m q by_) (moveR l m q by_) := by
  unfold impl_BookMove.f moveR
  simp only [ownBook_ev l m hl hm, Option.bind_some]
  refine Evt.bind (longText1_ev q) ?_
  by_cases g : (q.size : Int) > 20000
  · rw [if_pos g]
    exact Evt.pos (B_true g) (Evt.pure _)
  · rw [if_neg g]
    refine Evt.neg (fun hh => g (B_iff.1 hh)) (Evt.bind (implBook_ev l m hk hs) ?_)
    by_cases h1 : BookP l m
    · refine Evt.pos (B_true h1) (Evt.bind (implName_ev q (by omega)) ?_)
      by_cases h2 : nameB q = true
      · rw [if_pos (show BookP l m ∧ nameB q = true from ⟨h1, h2⟩)]
        obtain ⟨r, h⟩ := implMove_ev l m q by_ h1 b0 b1
        exact Evt.pos h2 (Evt.bind h (Evt.pure _))
      · rw [if_neg (show ¬ (BookP l m ∧ nameB q = true) from fun h => h2 h.2)]
        exact Evt.neg h2 (Evt.pure _)
    · rw [if_neg (show ¬ (BookP l m ∧ nameB q = true) from fun h => h1 h.1)]
      exact Evt.neg (fun hh => h1 (B_iff.1 hh)) (Evt.pure _)
theorem moveR_len {l : List KX} {m : List MX} {q : ByteArray} {by_ : Int} (hl : l.length ≤ 1048576) (hm : m.length ≤ 1048576) : (moveR l m q by_).1.length ≤ 1048577 ∧ (moveR l m q by_).2.length ≤ 1048577 := by
  unfold moveR
  split
  · simp
  · split
    · exact ⟨movR_len hl, by dsimp only; omega⟩
    · exact ⟨by dsimp only; omega, by dsimp only; omega⟩
end Go.Proofs.Ytefmkmhjbfpelaa.QM
namespace Go.Proofs.Ytefmkmhjbfpelaa.QM
open Go.RowKit Go.Proofs.YtefmkmhjbfpelaaW.PrintWords Go.Proofs.Ytefmkmhjbfpelaa.Ev0
theorem one_size (v : Int) : (strOfNums [v]).size = 1 := rfl
theorem markText_l (d : Nat) : ∀ (a : Int) (x : ByteArray), 0 ≤ a → a < 10 ^ d → a ≤ 9223372036854775807 → (x.size : Int) + d ≤ 1000000000000000000 → ∃ r, Evt (fun k => laws_markText.l0 k a x) r := by
  induction d with
  | zero =>
    intro a x h0 h1 ha hx
    obtain rfl : a = 0 := by have : (10 : Int) ^ 0 = 1 := rfl; omega
    refine ⟨(⟨#[109]⟩ : ByteArray) ++ x, Evt.succ ?_⟩
    simp only [laws_markText.l0]
    exact Evt.neg (by omega) (Evt.pos (by omega) (Evt.pure _))
  | succ d ih =>
    intro a x h0 h1 ha hx
    by_cases h : a > 0
    · have e : a.tdiv 10 = a / 10 := Int.tdiv_eq_ediv_of_nonneg h0
      have hp : (10 : Int) ^ (d + 1) = 10 ^ d * 10 := Int.pow_succ ..
      have hw : wrap64 (a.tdiv 10) = a / 10 := by rw [e]; exact w64 (by omega) (by omega)
      obtain ⟨r, hr⟩ := ih (a / 10) (strOfNums [(wrap64 (48 + (Int.tmod a 10))) % 256] ++ x) (by omega) (by omega) (by omega) (by rw [ByteArray.size_append, one_size]; omega)
      refine ⟨r, Evt.succ ?_⟩
      simp only [laws_markText.l0, Option.bind_some, hw, one_size]
      exact Evt.pos h (Evt.pos (by omega) hr)
    · obtain rfl : a = 0 := by omega
      refine ⟨(⟨#[109]⟩ : ByteArray) ++ x, Evt.succ ?_⟩
      simp only [laws_markText.l0]
      exact Evt.neg (by omega) (Evt.pos (by omega) (Evt.pure _))
theorem markText_ex (a : Int) (ha : a ≤ 9223372036854775807) : ∃ r, Evt (fun k => laws_markText.f k a) r := by
  unfold laws_markText.f
  by_cases h : a ≤ 0
  · exact ⟨_, Evt.pos h (Evt.pure _)⟩
  · obtain ⟨r, hr⟩ := markText_l 19 a ⟨#[]⟩ (by omega) (by omega) ha (by decide)
    exact ⟨r, Evt.neg h hr⟩
noncomputable def mt (a : Int) : ByteArray := @dite _ (∃ r, Evt (fun k => laws_markText.f k a) r) (Classical.propDecidable _) (fun h => Classical.choose h) (fun _ => ⟨#[]⟩)
theorem mt_ev (a : Int) (ha : a ≤ 9223372036854775807) : Evt (fun k => laws_markText.f k a) (mt a) := by
  unfold mt
  rw [dif_pos (markText_ex a ha)]
  exact Classical.choose_spec (markText_ex a ha)
theorem lin (c m i : Int) : c + m * i + m = c + m * (i + 1) := by rw [Int.mul_add, Int.mul_one, Int.add_assoc]
theorem mark_loop {α : Type} (n : Nat) (l : List α) (hl : l.length = n) (m c : Int) (g : Int → α) (F : Nat → List α → Int → Int → Option (Int × List α))
    (step : ∀ acc i, 0 ≤ i → i < (n : Int) → acc.length = n → ∀ r, Evt (fun k => F k (acc.set i.toNat (g (c + m * i))) (c + m * i + m) (i + 1)) r → Evt (fun k => F (k + 1) acc (c + m * i) i) r)
    (stop : ∀ acc s, acc.length = n → Evt (fun k => F (k + 1) acc s (n : Int)) (s, acc)) :
    Evt (fun k => F k l c 0) (c + m * n, (List.range n).map fun (j : Nat) => g (c + m * (j : Int))) := by
  have h := up_loop (n : Int) (fun k (s : List α × Int) i => F k s.1 s.2 i) (fun i => ((List.range i.toNat).map (fun (j : Nat) => g (c + m * (j : Int))) ++ l.drop i.toNat, c + m * i)) (fun _ => (c + m * (n : Int), (List.range n).map fun (j : Nat) => g (c + m * (j : Int)))) ?_ ?_ 0 (Int.le_refl _) (by omega)
  · simpa using h
  · intro i h0 hlt ih
    have hi : i.toNat < l.length := by omega
    refine step _ i h0 hlt (by simp; omega) _ ?_
    have e : ((List.range i.toNat).map (fun (j : Nat) => g (c + m * (j : Int))) ++ l.drop i.toNat).set i.toNat (g (c + m * i)) = (List.range (i + 1).toNat).map (fun (j : Nat) => g (c + m * (j : Int))) ++ l.drop (i + 1).toNat := by
      rw [List.set_append_right _ _ (by simp), List.length_map, List.length_range, Nat.sub_self, List.drop_eq_getElem_cons hi, List.set_cons_zero, show (i + 1).toNat = i.toNat + 1 by omega]
      rw [List.range_succ, List.map_append, List.append_assoc]
      congr 1
      rw [List.map_singleton, List.singleton_append, show ((i.toNat : Nat) : Int) = i by omega]
    rw [e, lin]
    exact ih
  · refine (stop _ _ (by simp; omega)).same ?_
    have : l.drop n = [] := by rw [← hl]; exact List.drop_length
    simp [this]
theorem at_map {α : Type} (n : Nat) (g : Nat → α) (z : α) (i : Int) (h0 : 0 ≤ i) (h : i < (n : Int)) : ((List.range n).map g).getD i.toNat z = g i.toNat := by
  rw [getD_at _ _ _ (by simp; omega)]
  simp
theorem held_loop (n : Nat) (m c : Int) (F : Nat → Int → Int → Option Int)
    (step : ∀ i, 0 ≤ i → i < (n : Int) → ∀ r, Evt (fun k => F k (c + m * i + m) (i + 1)) r → Evt (fun k => F (k + 1) (c + m * i) i) r)
    (stop : ∀ s, Evt (fun k => F (k + 1) s (n : Int)) s) : Evt (fun k => F k c 0) (c + m * n) := by
  have h := up_loop (n : Int) (fun k (s : Int) i => F k s i) (fun i => c + m * i) (fun _ => c + m * (n : Int)) ?_ ?_ 0 (Int.le_refl _) (by omega)
  · simpa using h
  · intro i h0 hlt ih
    refine step i h0 hlt _ ?_
    rw [lin]
    exact ih
  · exact stop _
end Go.Proofs.Ytefmkmhjbfpelaa.QM
namespace Go.Proofs.Ytefmkmhjbfpelaa.QM
open Go.RowKit Go.Proofs.YtefmkmhjbfpelaaW.PrintWords Go.Proofs.Ytefmkmhjbfpelaa.Ev0
noncomputable def gK (s : Int) : S117 := ⟨mt s, s + 1⟩
noncomputable def marksK (n : Nat) (c : Int) : List S117 := (List.range n).map fun (j : Nat) => gK (c + 2 * (j : Int))
theorem rdK_set (l : List S117) (i : Int) (x : S117) (h0 : 0 ≤ i) (h : i < (l.length : Int)) : rd_T117 (l.set i.toNat x) i = x := by
  unfold rd_T117
  rw [getD_at _ _ _ (by simp; omega)]
  simp
theorem markK_ev (l : List S117) (c : Int) (h0 : 0 ≤ c) (hc : c + 2 * (l.length : Int) ≤ 1000000000000000000) : Evt (fun k => laws_markStockS.f k l c) (c + 2 * l.length, marksK l.length c) := by
  unfold laws_markStockS.f
  refine mark_loop l.length l rfl 2 c gK (fun k acc s i => laws_markStockS.l0 k acc s i) ?_ ?_
  · intro acc i h1 hlt hl r hr
    have hw : wrap64 (i + 1) = i + 1 := w64 (by omega) (by omega)
    have w1 : wrap64 (c + 2 * i + 1) = c + 2 * i + 1 := by rw [w64 (by omega) (by omega)]
    have w2 : wrap64 (c + 2 * i + 1 + 1) = c + 2 * i + 2 := by rw [w64 (by omega) (by omega)]; omega
    simp only [laws_markStockS.l0, hw, w1, w2, Option.bind_some]
    refine Evt.pos (by omega) (Evt.bind (mt_ev _ (by omega)) (Evt.pos h1 ?_))
    simp only [rdK_set _ i _ h1 (show i < (acc.length : Int) by omega), List.set_set]
    exact hr
  · intro acc s hl
    simp only [laws_markStockS.l0]
    exact Evt.neg (by omega) (Evt.pure _)
theorem heldK_ev (n : Nat) (c : Int) (h0 : 0 ≤ c) (hc : c + 2 * (n : Int) ≤ 1000000000000000000) : Evt (fun k => laws_heldStockS.f k (marksK n c) c) (c + 2 * n) := by
  unfold laws_heldStockS.f
  have hlen : (marksK n c).length = n := by simp [marksK]
  refine held_loop n 2 c (fun k s i => laws_heldStockS.l0 k (marksK n c) s i) ?_ ?_
  · intro i h1 hlt r hr
    have hw : wrap64 (i + 1) = i + 1 := w64 (by omega) (by omega)
    have w1 : wrap64 (c + 2 * i + 1) = c + 2 * i + 1 := by rw [w64 (by omega) (by omega)]
    have w2 : wrap64 (c + 2 * i + 1 + 1) = c + 2 * i + 2 := by rw [w64 (by omega) (by omega)]; omega
    have e : rd_T117 (marksK n c) i = gK (c + 2 * i) := by
      unfold rd_T117 marksK
      rw [at_map _ _ _ _ h1 hlt, show ((i.toNat : Nat) : Int) = i by omega]
    simp only [laws_heldStockS.l0, hw, w1, w2, e, gK, hlen]
    exact Evt.pos hlt (Evt.pos h1 (Evt.bind (mt_ev _ (by omega)) (Evt.pos (by simp) (Evt.pos (by simp) hr))))
  · intro s
    simp only [laws_heldStockS.l0, hlen]
    exact Evt.neg (by omega) (Evt.pure _)
end Go.Proofs.Ytefmkmhjbfpelaa.QM
namespace Go.Proofs.Ytefmkmhjbfpelaa.QM
open Go.RowKit Go.Proofs.YtefmkmhjbfpelaaW.PrintWords Go.Proofs.Ytefmkmhjbfpelaa.Ev0
noncomputable def gL (s : Int) : S54 := ⟨mt s, mt (s + 1), s + 2, mt (s + 3), s + 4, s + 5, s + 6, s + 7⟩
noncomputable def marksL (n : Nat) (c : Int) : List S54 := (List.range n).map fun (j : Nat) => gL (c + 8 * (j : Int))
theorem rdL_set (l : List S54) (i : Int) (x : S54) (h0 : 0 ≤ i) (h : i < (l.length : Int)) : rd_T54 (l.set i.toNat x) i = x := by
  unfold rd_T54
  rw [getD_at _ _ _ (by simp; omega)]
  simp
theorem markL_ev (l : List S54) (c : Int) (h0 : 0 ≤ c) (hc : c + 8 * (l.length : Int) ≤ 1000000000000000000) : Evt (fun k => laws_markOrderLineS.f k l c) (c + 8 * l.length, marksL l.length c) := by
  unfold laws_markOrderLineS.f
  refine mark_loop l.length l rfl 8 c gL (fun k acc s i => laws_markOrderLineS.l0 k acc s i) ?_ ?_
  · intro acc i h1 hlt hl r hr
    have hw : wrap64 (i + 1) = i + 1 := w64 (by omega) (by omega)
    have w1 : wrap64 (c + 8 * i + 1) = c + 8 * i + 1 := by rw [w64 (by omega) (by omega)]
    have w2 : wrap64 (c + 8 * i + 1 + 1) = c + 8 * i + 2 := by rw [w64 (by omega) (by omega)]; omega
    have w3 : wrap64 (c + 8 * i + 2 + 1) = c + 8 * i + 3 := by rw [w64 (by omega) (by omega)]; omega
    have w4 : wrap64 (c + 8 * i + 3 + 1) = c + 8 * i + 4 := by rw [w64 (by omega) (by omega)]; omega
    have w5 : wrap64 (c + 8 * i + 4 + 1) = c + 8 * i + 5 := by rw [w64 (by omega) (by omega)]; omega
    have w6 : wrap64 (c + 8 * i + 5 + 1) = c + 8 * i + 6 := by rw [w64 (by omega) (by omega)]; omega
    have w7 : wrap64 (c + 8 * i + 6 + 1) = c + 8 * i + 7 := by rw [w64 (by omega) (by omega)]; omega
    have w8 : wrap64 (c + 8 * i + 7 + 1) = c + 8 * i + 8 := by rw [w64 (by omega) (by omega)]; omega
    simp only [laws_markOrderLineS.l0, hw, w1, w2, w3, w4, w5, w6, w7, w8, Option.bind_some]
    refine Evt.pos (by omega) (Evt.bind (mt_ev _ (by omega)) (Evt.pos h1 (Evt.bind (mt_ev _ (by omega)) (Evt.bind (mt_ev _ (by omega)) ?_))))
    simp only [rdL_set _ i _ h1 (show i < (acc.length : Int) by omega), List.set_set]
    exact hr
  · intro acc s hl
    simp only [laws_markOrderLineS.l0]
    exact Evt.neg (by omega) (Evt.pure _)
theorem heldL_ev (n : Nat) (c : Int) (h0 : 0 ≤ c) (hc : c + 8 * (n : Int) ≤ 1000000000000000000) : Evt (fun k => laws_heldOrderLineS.f k (marksL n c) c) (c + 8 * n) := by
  unfold laws_heldOrderLineS.f
  have hlen : (marksL n c).length = n := by simp [marksL]
  refine held_loop n 8 c (fun k s i => laws_heldOrderLineS.l0 k (marksL n c) s i) ?_ ?_
  · intro i h1 hlt r hr
    have hw : wrap64 (i + 1) = i + 1 := w64 (by omega) (by omega)
    have w1 : wrap64 (c + 8 * i + 1) = c + 8 * i + 1 := by rw [w64 (by omega) (by omega)]
    have w2 : wrap64 (c + 8 * i + 1 + 1) = c + 8 * i + 2 := by rw [w64 (by omega) (by omega)]; omega
    have w3 : wrap64 (c + 8 * i + 2 + 1) = c + 8 * i + 3 := by rw [w64 (by omega) (by omega)]; omega
    have w4 : wrap64 (c + 8 * i + 3 + 1) = c + 8 * i + 4 := by rw [w64 (by omega) (by omega)]; omega
    have w5 : wrap64 (c + 8 * i + 4 + 1) = c + 8 * i + 5 := by rw [w64 (by omega) (by omega)]; omega
    have w6 : wrap64 (c + 8 * i + 5 + 1) = c + 8 * i + 6 := by rw [w64 (by omega) (by omega)]; omega
    have w7 : wrap64 (c + 8 * i + 6 + 1) = c + 8 * i + 7 := by rw [w64 (by omega) (by omega)]; omega
    have w8 : wrap64 (c + 8 * i + 7 + 1) = c + 8 * i + 8 := by rw [w64 (by omega) (by omega)]; omega
    have e : rd_T54 (marksL n c) i = gL (c + 8 * i) := by
      unfold rd_T54 marksL
      rw [at_map _ _ _ _ h1 hlt, show ((i.toNat : Nat) : Int) = i by omega]
    simp only [laws_heldOrderLineS.l0, hw, w1, w2, w3, w4, w5, w6, w7, w8, e, gL, hlen]
    exact Evt.pos hlt (Evt.pos h1 (Evt.bind (mt_ev _ (by omega)) (Evt.pos (by simp) (Evt.bind (mt_ev _ (by omega)) (Evt.pos (by simp) (Evt.pos (by simp) (Evt.bind (mt_ev _ (by omega)) (Evt.pos (by simp) (Evt.pos (by simp) (Evt.pos (by simp) (Evt.pos (by simp) (Evt.pos (by simp) hr))))))))))))
  · intro s
    simp only [laws_heldOrderLineS.l0, hlen]
    exact Evt.neg (by omega) (Evt.pure _)
end Go.Proofs.Ytefmkmhjbfpelaa.QM
namespace Go.Proofs.Ytefmkmhjbfpelaa.Pure
open Go.RowKit Go.Proofs.Ytefmkmhjbfpelaa Go.Proofs.Ytefmkmhjbfpelaa.QM Go.Proofs.YtefmkmhjbfpelaaW.PrintWords Go.Proofs.Ytefmkmhjbfpelaa.Ev0
theorem markB_ev (a : List KX) (b : List MX) (ha : a.length ≤ 1048577) (hb : b.length ≤ 1048577) : ∃ (n : Int) (a' : List KX) (b' : List MX), 0 ≤ n ∧ Evt (fun k => laws_markBook.f k a b 1) (n, a', b') ∧ Evt (fun k => laws_heldBook.f k a' b' 1) n := by
  refine ⟨1 + 2 * (a.length : Int) + 8 * (b.length : Int), marksK a.length 1, marksL b.length (1 + 2 * (a.length : Int)), by omega, ?_, ?_⟩
  · unfold laws_markBook.f
    exact Evt.bind (markK_ev a 1 (by omega) (by omega)) (Evt.bind (markL_ev b _ (by dsimp only; omega) (by dsimp only; omega)) (Evt.pure _))
  · unfold laws_heldBook.f
    exact Evt.bind (heldK_ev a.length 1 (by omega) (by omega)) (Evt.neg (by omega) (Evt.bind (heldL_ev b.length _ (by omega) (by omega)) (Evt.neg (by omega) (Evt.pure _))))
theorem FnExactBookMove : laws_FnExactBookMove.Pure := by
  intro l m q by_ wl wm wq wb
  obtain ⟨hl, hw⟩ := wl
  obtain ⟨hm, hv⟩ := wm
  apply Evt.ex
  unfold laws_FnExactBookMove.f
  have hx : ∀ x ∈ l, okLK x := fun x h => okLK_of (hw x h)
  have hy : ∀ x ∈ m, okL x := fun x h => okL_of (hv x h)
  have hwb : IntKind.i64.min ≤ by_ ∧ by_ ≤ 9223372036854775807 := by
    have h : (Lit.int IntKind.i64 by_).wf = true := wb
    simpa [Lit.wf] using h
  have hmin : IntKind.i64.min = -9223372036854775808 := by decide
  rw [hmin] at hwb
  have b0 := hwb.1
  have b1 := hwb.2
  obtain ⟨t, ht, hlen⟩ := szBook_ev l m hl hx hm hy 1048576 (by decide) (by decide)
  refine Evt.ite (fun _ => Evt.pure true) (fun _ => Evt.bind ht (Evt.ite (fun _ => Evt.pure true) (fun hn => ?_)))
  obtain ⟨_, _, h1, h2⟩ := hlen.resolve_left hn
  have hto := toBook_ev l m h1 h2
  have hk := okK_map l hx
  have hs := okS_map m hy
  have hll : (l.map cvStock).length ≤ 1048576 := by simp; omega
  have hmm : (m.map cvLine).length ≤ 1048576 := by simp; omega
  generalize l.map cvStock = L at hto hk hll
  generalize m.map cvLine = M at hto hs hmm
  have e1 := specBookMove_ev L M q by_ hk hs hll hmm b0 b1
  have e2 := implBookMove_ev L M q by_ hk hs hll hmm b0 b1
  have hR := moveR_len (q := q) (by_ := by_) hll hmm
  generalize moveR L M q by_ = R at hR e1 e2
  obtain ⟨a, b⟩ := R
  obtain ⟨ra, rb⟩ := hR
  dsimp only at ra rb
  have hq := eqBook_refl a b (by omega) (by omega)
  have hq0 := eqBook_refl L M (by omega) (by omega)
  obtain ⟨n0, a0, b0', z0, hm0, _⟩ := markB_ev L M (by omega) (by omega)
  obtain ⟨n, a', b', z, hm1, hh⟩ := markB_ev a b ra rb
  refine Evt.bind hto (Evt.bind e1 (Evt.bind hto (Evt.bind e2 (Evt.bind hq (Evt.pos rfl (Evt.bind hto (Evt.bind hq0 (Evt.pos rfl (Evt.bind hm0 (Evt.neg (by dsimp only; omega) (Evt.bind hq ?_)))))))))))
  apply Evt.succ
  simp only [laws_FnExactBookMove.j0, Bool.not_true, Bool.false_eq_true, if_false]
  exact Evt.bind hm1 (Evt.bind hh (Evt.neg (by omega) (Evt.pos rfl (Evt.bind hto (Evt.bind e2 (Evt.bind hq (Evt.pos rfl (Evt.bind hh (Evt.neg (by omega) (Evt.pos rfl (Evt.pure true)))))))))))
end Go.Proofs.Ytefmkmhjbfpelaa.Pure

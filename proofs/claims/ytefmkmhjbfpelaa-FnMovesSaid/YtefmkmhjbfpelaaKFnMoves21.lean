-- Merged by a program of this session (wip/tool/pack.py) out of its own texts for this claim.
import Derived.Test.YtefmkmhjbfpelaaKFnMoves0
import Derived.Test.YtefmkmhjbfpelaaKFnMoves1
import Derived.Test.YtefmkmhjbfpelaaKFnMoves2
import Derived.Test.YtefmkmhjbfpelaaKFnMoves3
import Derived.Test.YtefmkmhjbfpelaaKFnMoves19
import Derived.Test.YtefmkmhjbfpelaaKFnMoves20
namespace Go.Proofs.Ytefmkmhjbfpelaa.QM
open Go.RowKit Go.Proofs.Ytefmkmhjbfpelaa Go.Proofs.YtefmkmhjbfpelaaW.PrintWords Go.Proofs.Ytefmkmhjbfpelaa.Ev0
abbrev MX := S54
theorem ba_inj {a b : ByteArray} (h : a.toList = b.toList) : a = b := by
  rw [Lib.toList_data, Lib.toList_data] at h
  exact ByteArray.ext (Array.toList_inj.mp h)
theorem rdK_nat {l : List KX} {i : Nat} (h : i < l.length) : rd_T117 l (i : Int) = l[i] := by
  unfold rd_T117
  rw [Int.toNat_natCast, getD_at l _ _ h]
noncomputable def atK (l : List KX) (q : ByteArray) : Nat := idxP (fun y : KX => ¬ less y.f0 q) l
def isK (l : List KX) (q : ByteArray) : Prop := ∃ h : atK l q < l.length, (l[atK l q]).f0.toList = q.toList
noncomputable def handK (l : List KX) (q : ByteArray) : Int := @ite _ (isK l q) (Classical.propDecidable _) (rd_T117 l (atK l q)).f1 0
noncomputable def upK (l : List KX) (q : ByteArray) : Nat := @ite _ (isK l q) (Classical.propDecidable _) (atK l q + 1) (atK l q)
noncomputable def newK (l : List KX) (q : ByteArray) (n : Int) : List KX := l.take (atK l q) ++ [⟨q, n⟩] ++ l.drop (upK l q)
theorem atK_le (l : List KX) (q : ByteArray) : atK l q ≤ l.length := idxP_le _ _
theorem upK_le (l : List KX) (q : ByteArray) : upK l q ≤ l.length := by
  unfold upK
  split
  · rename_i h
    obtain ⟨h, _⟩ := h
    omega
  · exact atK_le l q
theorem less_asK {a b : ByteArray} (h : less a b) : ¬ less b a := by
  rcases cmpS_cases a b with ⟨_, h2, _⟩ | ⟨h1, _⟩ | ⟨h1, _⟩
  · exact h2
  · exact absurd h h1
  · exact absurd h h1
theorem less_neK {a b : ByteArray} (h : less a b) : ¬ a.toList = b.toList := by
  rcases cmpS_cases a b with ⟨_, _, h3, _⟩ | ⟨h1, _⟩ | ⟨h1, _⟩
  · exact h3
  · exact absurd h h1
  · exact absurd h h1
theorem atK_lo {l : List KX} {q : ByteArray} {i : Nat} (hi : i < l.length) (h : i < atK l q) : less l[i].f0 q := Classical.byContradiction fun hn => idxP_no (p := fun y : KX => ¬ less y.f0 q) h hn
theorem atK_at {l : List KX} {q : ByteArray} (h : atK l q < l.length) : ¬ less (l[atK l q]).f0 q := idxP_yes (p := fun y : KX => ¬ less y.f0 q) h
theorem atK_hi {l : List KX} {m : List MX} {q : ByteArray} (hb : BookP l m) {i : Nat} (hi : i < l.length) (h : atK l q < i) : less q l[i].f0 := by
  have h1 := stocks_less l m hb (atK l q : Int) (i : Int) (by omega) (by omega) (by omega)
  rw [rdK_nat (show atK l q < l.length by omega), rdK_nat hi] at h1
  have h2 := atK_at (q := q) (show atK l q < l.length by omega)
  rcases cmpS_cases (l[atK l q]).f0 q with ⟨e, _⟩ | ⟨_, e, _⟩ | ⟨_, _, e, _⟩
  · exact absurd e h2
  · exact less_tr e h1
  · unfold less at h1 ⊢
    rw [← e]
    exact h1
theorem isK_of {l : List KX} {m : List MX} {q : ByteArray} (hb : BookP l m) {i : Nat} (hi : i < l.length) (h : l[i].f0.toList = q.toList) : i = atK l q := by
  rcases Nat.lt_trichotomy i (atK l q) with g | g | g
  · exact absurd h (less_neK (atK_lo hi g))
  · exact g
  · exact absurd h.symm (less_neK (atK_hi hb hi g))
theorem handK_ok {l : List KX} {m : List MX} (q : ByteArray) (hb : BookP l m) : 0 ≤ handK l q ∧ handK l q ≤ 1000000000 := by
  unfold handK
  split
  · rename_i h
    obtain ⟨h, _⟩ := h
    exact (hb.2.1 (atK l q : Int) (by omega) (by omega)).2.1
  · omega
theorem placeK (l : List KX) (m : List MX) (q : ByteArray) (hb : BookP l m) (p : Int) (hp : PlaceOf l q p) : (isK l q ∧ p = (atK l q : Int)) ∨ (¬ isK l q ∧ p = -1) := by
  rcases hp with ⟨h1, h2⟩ | ⟨h0, h1, h2⟩
  · refine .inr ⟨fun ⟨h, e⟩ => h2 (atK l q : Int) (by omega) (by omega) (by rw [rdK_nat h]; exact e), h1⟩
  · obtain ⟨i, rfl⟩ : ∃ i : Nat, p = i := ⟨p.toNat, by omega⟩
    have hi : i < l.length := by omega
    rw [rdK_nat hi] at h2
    have e := isK_of hb hi h2
    subst e
    exact .inl ⟨⟨hi, h2⟩, rfl⟩
theorem specHand_ev (K : List KX) (m : List MX) (q : ByteArray) (hk : ∀ x ∈ K, okK x) (hs : ∀ x ∈ m, okS x) (hb : BookP K m) (hq : ¬ (q.size : Int) > 20000) : Evt (fun k => spec_BookHand.f k K m q) (handK K q) := by
  unfold spec_BookHand.f handK
  obtain ⟨p, hp, hpl⟩ := specStock_ev K m q hb.1
  have hB : bookB K m = true := B_true hb
  rcases placeK K m q hb p hpl with ⟨h1, e⟩ | ⟨h1, e⟩
  · subst e
    rw [if_pos h1]
    obtain ⟨h2, _⟩ := h1
    exact Evt.neg hq (Evt.bind (specBook_ev K m hk hs) (Evt.pos hB (Evt.bind hp (Evt.neg (by omega) (Evt.bind hp (Evt.pos (by omega) (Evt.pos (by omega) (Evt.pure _))))))))
  · subst e
    rw [if_neg h1]
    exact Evt.neg hq (Evt.bind (specBook_ev K m hk hs) (Evt.pos hB (Evt.bind hp (Evt.pos (by decide) (Evt.pure _)))))
theorem implFind_ev (l : List KX) (m : List MX) (q : ByteArray) (h : BookP l m) : Evt (fun k => impl_Stock_string_impl_stockOrder.f k l q) ((atK l q : Int), B (isK l q)) := by
  have hn : (l.length : Int) ≤ 100 := h.1
  have so : ∀ x : KX, impl_stockOrder.f x.f0 x.f1 q = some (cmpS x.f0 q) := fun x => by
    unfold impl_stockOrder.f
    rw [strCmp_ev]
    rfl
  have hf := bin_loop (l.length : Int) (by omega) (fun i => less (rd_T117 l i).f0 q) (fun k lo hi => impl_Stock_string_impl_stockOrder.l0 k l q (l.length : Int) lo hi)
    (fun z => (z, (@ite _ (z < (l.length : Int)) (Classical.propDecidable _) (cmpS (rd_T117 l z).f0 q == 0) false))) ?_ ?_ ?_
  · obtain ⟨z, z0, z1, hz, q1, q2⟩ := hf
    obtain ⟨a, rfl⟩ : ∃ a : Nat, z = a := ⟨z.toNat, by omega⟩
    have ea : atK l q = a := idxP_eq (by omega) (fun i hi hia hnn => hnn (by
      have := q1 (i : Int) (by omega) (by omega)
      rw [rdK_nat hi] at this
      exact this)) (fun hi => by
      have := q2 (a : Int) (Int.le_refl _) (by omega)
      rw [rdK_nat hi] at this
      exact this)
    refine hz.same ?_
    rw [ea]
    congr 1
    unfold isK
    by_cases hlt : (a : Int) < (l.length : Int)
    · have ha : a < l.length := by omega
      rw [if_pos hlt, rdK_nat ha]
      refine bool_B ?_
      simp only [ea]
      have q3 := q2 (a : Int) (Int.le_refl _) hlt
      rw [rdK_nat ha] at q3
      rcases cmpS_cases (l[a]).f0 q with ⟨e, _⟩ | ⟨_, _, e, e2⟩ | ⟨_, _, e, e2⟩
      · exact absurd e q3
      · rw [e2]
        simp [e]
      · rw [e2]
        simp [e, ha]
    · rw [if_neg hlt]
      refine (B_false ?_).symm
      simp only [ea]
      rintro ⟨h1, _⟩
      omega
  · intro lo hi h0 hlt h2
    have hm := mid_eq lo hi h0 hlt (by omega)
    have hw : wrap64 ((lo + hi) / 2 + 1) = (lo + hi) / 2 + 1 := w64 (by omega) (by omega)
    simp only [impl_Stock_string_impl_stockOrder.l0, hm, hw, so, Option.bind_some]
    refine ⟨fun g r hr => Evt.pos hlt (Evt.pos (by omega) (Evt.pos (by omega) (Evt.pos ?_ hr))), fun g r hr => Evt.pos hlt (Evt.pos (by omega) (Evt.pos (by omega) (Evt.neg ?_ hr)))⟩
    · rcases cmpS_cases (rd_T117 l ((lo + hi) / 2)).f0 q with ⟨_, _, _, e⟩ | ⟨e, _, _, _⟩ | ⟨e, _, _, _⟩
      · rw [e]; decide
      · exact absurd g e
      · exact absurd g e
    · rcases cmpS_cases (rd_T117 l ((lo + hi) / 2)).f0 q with ⟨e, _, _, _⟩ | ⟨_, _, _, e⟩ | ⟨_, _, _, e⟩
      · exact absurd e g
      · rw [e]; decide
      · rw [e]; decide
  · intro lo h0 h1
    simp only [impl_Stock_string_impl_stockOrder.l0, so, Option.bind_some]
    refine Evt.neg (by omega) ?_
    by_cases g : lo < (l.length : Int)
    · exact Evt.pos g (Evt.pos h0 (Evt.pos g ((Evt.pure _).same (by rw [if_pos g]))))
    · exact Evt.neg g ((Evt.pure _).same (by rw [if_neg g]))
  · intro i j h0 hij hj hn'
    by_cases g : i < j
    · exact less_tr (stocks_less l m h i j h0 g hj) hn'
    · have e : i = j := by omega
      rw [e]; exact hn'
theorem implHand_ev (K : List KX) (m : List MX) (q : ByteArray) (hb : BookP K m) : Evt (fun k => impl_Book_hand.f k K m q) (handK K q) := by
  unfold impl_Book_hand.f handK
  refine Evt.bind (implFind_ev K m q hb) ?_
  by_cases h : isK K q
  · rw [if_pos h, B_true h]
    obtain ⟨h2, _⟩ := h
    exact Evt.pos rfl (Evt.pos (by omega) (Evt.pos (by omega) (Evt.pure _)))
  · rw [if_neg h, B_false h]
    exact Evt.neg (by simp) (Evt.pure _)
def canK (l : List KX) (q : ByteArray) (by_ : Int) : Prop := 0 ≤ handK l q + by_ ∧ handK l q + by_ ≤ 1000000000 ∧ (isK l q ∨ (l.length : Int) < 100)
noncomputable def movR (l : List KX) (q : ByteArray) (by_ : Int) : List KX := @ite _ (canK l q by_) (Classical.propDecidable _) (newK l q (handK l q + by_)) l
theorem implMove_ev (l : List KX) (m : List MX) (q : ByteArray) (by_ : Int) (hb : BookP l m) (b0 : -9223372036854775808 ≤ by_) (b1 : by_ ≤ 9223372036854775807) : ∃ r, Evt (fun k => impl_Book_move.f k l m q by_) (r, movR l q by_) := by
  have hh := handK_ok q hb
  have hn : (l.length : Int) ≤ 100 := hb.1
  have hle := atK_le l q
  have w1 : wrap64 (-(handK l q)) = -(handK l q) := w64 (by omega) (by omega)
  have w2 : wrap64 (1000000000 - handK l q) = 1000000000 - handK l q := w64 (by omega) (by omega)
  unfold impl_Book_move.f movR
  by_cases c1 : by_ < -(handK l q)
  · refine ⟨false, Evt.bind (implFind_ev l m q hb) (Evt.bind (implHand_ev l m q hb) ?_)⟩
    rw [w1, if_neg (show ¬ canK l q by_ from fun h => by have := h.1; omega)]
    exact Evt.pos c1 (Evt.pure _)
  · by_cases c2 : by_ > 1000000000 - handK l q
    · refine ⟨false, Evt.bind (implFind_ev l m q hb) (Evt.bind (implHand_ev l m q hb) ?_)⟩
      rw [w1, w2, if_neg (show ¬ canK l q by_ from fun h => by have := h.2.1; omega)]
      exact Evt.neg c1 (Evt.pos c2 (Evt.pure _))
    · by_cases c3 : isK l q
      · refine ⟨true, Evt.bind (implFind_ev l m q hb) (Evt.bind (implHand_ev l m q hb) ?_)⟩
        rw [w1, w2, if_pos (show canK l q by_ from ⟨by omega, by omega, .inl c3⟩), B_true c3]
        obtain ⟨hlt, he⟩ := id c3
        refine Evt.neg c1 (Evt.neg c2 (Evt.pos rfl (Evt.pos (by omega) (Evt.pos (by omega) ((Evt.pure _).same ?_)))))
        have eh : handK l q = (l[atK l q]).f1 := by unfold handK; rw [if_pos c3, rdK_nat hlt]
        unfold newK upK impl_Book_move_put.f
        dsimp only
        rw [if_pos c3, rdK_nat hlt, Int.toNat_natCast, eh, w64 (by omega) (by omega), ba_inj he, List.set_eq_take_append_cons_drop, if_pos hlt]
        simp
      · by_cases c4 : (l.length : Int) = 100
        · refine ⟨false, Evt.bind (implFind_ev l m q hb) (Evt.bind (implHand_ev l m q hb) ?_)⟩
          rw [w1, w2, if_neg (show ¬ canK l q by_ from fun h => h.2.2.elim c3 (by omega)), B_false c3]
          exact Evt.neg c1 (Evt.neg c2 (Evt.neg (by simp) (Evt.pos c4 (Evt.pure _))))
        · refine ⟨true, Evt.bind (implFind_ev l m q hb) (Evt.bind (implHand_ev l m q hb) ?_)⟩
          rw [w1, w2, if_pos (show canK l q by_ from ⟨by omega, by omega, .inr (by omega)⟩), B_false c3]
          have eh : handK l q = 0 := by unfold handK; rw [if_neg c3]
          have hl2 : (l.take (atK l q) ++ [(⟨q, 0⟩ : KX)] ++ l.drop (atK l q)).length = l.length + 1 := by simp; omega
          refine Evt.neg c1 (Evt.neg c2 (Evt.neg (by simp) (Evt.neg c4 (Evt.bind (a := l.take (atK l q) ++ [(⟨q, 0⟩ : KX)] ++ l.drop (atK l q)) ?_ (Evt.pos (by omega) (Evt.pos (by rw [hl2]; omega) ((Evt.pure _).same ?_)))))))
          · simp only [slices_Insert_implStock.f, Int.toNat_natCast]
            exact Evt.pos (by omega) (Evt.pos (by omega) (Evt.pos rfl (Evt.pos (by omega) (Evt.pure _))))
          · have hat : (l.take (atK l q) ++ [(⟨q, 0⟩ : KX)] ++ l.drop (atK l q))[atK l q]'(by rw [hl2]; omega) = ⟨q, 0⟩ := by
              simp [hle]
            unfold newK upK impl_Book_move_put.f
            dsimp only
            rw [if_neg c3, rdK_nat (show atK l q < _ by rw [hl2]; omega), hat, Int.toNat_natCast, eh]
            dsimp only
            rw [w64 (by omega) (by omega)]
            have ht : (l.take (atK l q)).length = atK l q := by simp [hle]
            simp [ht]
theorem newK_len (l : List KX) (q : ByteArray) (n : Int) : (newK l q n).length ≤ l.length + 1 := by
  have h1 := atK_le l q
  have h2 : atK l q ≤ upK l q := by unfold upK; split <;> omega
  unfold newK
  simp
  omega
theorem l10Copy_ev (l : List KX) (m : List MX) (hl : l.length ≤ 1048576) (hm : m.length ≤ 1048576) : spec_l10Copy.f l m = some (l, m) := by
  unfold spec_l10Copy.f
  simp only [Option.bind_some, List.nil_append]
  rw [if_pos (by simp; omega), if_pos (by simp; omega)]
theorem ownBook_ev (l : List KX) (m : List MX) (hl : l.length ≤ 1048576) (hm : m.length ≤ 1048576) : impl_ownBook.f l m = some (l, m) := by
  unfold impl_ownBook.f slices_Clone_implStock.f slices_Clone_implOrderLine.f
  rw [if_pos (by omega)]
  simp only [Option.bind_some]
  rw [if_pos (by omega)]
  rfl
noncomputable def stK (l : List KX) (q : ByteArray) (n : Int) (i : Int) : List KX × Bool := @ite _ (i.toNat ≤ atK l q) (Classical.propDecidable _) (l.take i.toNat, false) (l.take (atK l q) ++ [⟨q, n⟩] ++ (l.take i.toNat).drop (upK l q), true)
theorem specMove_l (l : List KX) (m : List MX) (q : ByteArray) (n : Int) (hb : BookP l m) : Evt (fun k => spec_l10Move.l0 k q n false 0 l m [] m) (newK l q n, m, true) := by
  have hn : (l.length : Int) ≤ 100 := hb.1
  have hk : atK l q ≤ l.length := atK_le l q
  have h := up_loop (l.length : Int) (fun k (s : List KX × Bool) i => spec_l10Move.l0 k q n s.2 i l m s.1 m) (stK l q n) (fun _ => (newK l q n, m, true)) ?_ ?_ 0 (Int.le_refl _) (by omega)
  · have e : stK l q n 0 = ([], false) := by unfold stK; simp
    rw [e] at h
    exact h
  · intro i h0 hlt ih
    have hw : wrap64 (i + 1) = i + 1 := w64 (by omega) (by omega)
    obtain ⟨j, rfl⟩ : ∃ j : Nat, i = j := ⟨i.toNat, by omega⟩
    have hj : j < l.length := by omega
    have ej : ((j : Int) + 1).toNat = j + 1 := by omega
    have tk : l.take (j + 1) = l.take j ++ [l[j]] := by rw [List.take_succ_eq_append_getElem hj]
    have hlj : (l.take j).length ≤ 100 := by simp; omega
    simp only [spec_l10Move.l0, rdK_nat hj]
    refine Evt.pos hlt ?_
    by_cases h1 : j ≤ atK l q
    · have e : stK l q n (j : Int) = (l.take j, false) := by unfold stK; rw [Int.toNat_natCast, if_pos h1]
      rw [e]
      refine Evt.neg (by simp) (Evt.pos h0 ?_)
      apply Evt.succ
      simp only [spec_l10Move.j3, hw, rdK_nat hj, Option.bind_some]
      by_cases h2 : j = atK l q
      · have ha := atK_at (q := q) (show atK l q < l.length by omega)
        have hb2 : ¬ less l[j].f0 q := by
          have ea : l[j] = l[atK l q]'(by omega) := by simp only [h2]
          rw [ea]; exact ha
        have hb3 : (!Op.bytesLess l[j].f0.toList q.toList) = true := by
          have : Op.bytesLess l[j].f0.toList q.toList = false := by simpa [less] using hb2
          rw [this]; rfl
        refine Evt.pos hb3 (Evt.pos (by omega) (Evt.pos h0 (Evt.pos hlt ?_)))
        by_cases h3 : l[j].f0.toList = q.toList
        · have hisK : isK l q := ⟨by omega, by simp only [← h2]; exact h3⟩
          have e3 : stK l q n ((j : Int) + 1) = (l.take j ++ [⟨q, n⟩], true) := by
            unfold stK upK
            rw [ej, if_neg (by omega), if_pos hisK, ← h2, List.drop_eq_nil_of_le (by simp; omega), List.append_nil]
          rw [e3] at ih
          exact Evt.pos h3 ih
        · have hisK : ¬ isK l q := fun ⟨_, he⟩ => h3 (by simp only [← h2] at he; exact he)
          have e3 : stK l q n ((j : Int) + 1) = (l.take j ++ [⟨q, n⟩] ++ [l[j]], true) := by
            unfold stK upK
            rw [ej, if_neg (by omega), if_neg hisK, ← h2, tk, List.drop_append_of_le_length (by simp; omega), List.drop_eq_nil_of_le (by simp; omega), List.nil_append]
          rw [e3] at ih
          exact Evt.neg h3 (Evt.pos (by simp; omega) ih)
      · have hl := atK_lo (q := q) hj (by omega)
        have hb3 : ¬ (!Op.bytesLess l[j].f0.toList q.toList) = true := by
          have : Op.bytesLess l[j].f0.toList q.toList = true := hl
          rw [this]; decide
        have e3 : stK l q n ((j : Int) + 1) = (l.take (j + 1), false) := by unfold stK; rw [ej, if_pos (by omega)]
        rw [e3, tk] at ih
        exact Evt.neg hb3 (Evt.pos h0 (Evt.pos hlt (Evt.neg (less_neK hl) (Evt.pos (by omega) ih))))
    · have hup : upK l q ≤ j := by unfold upK; split <;> omega
      have e : stK l q n (j : Int) = (l.take (atK l q) ++ [⟨q, n⟩] ++ (l.take j).drop (upK l q), true) := by unfold stK; rw [Int.toNat_natCast, if_neg h1]
      have e3 : stK l q n ((j : Int) + 1) = (l.take (atK l q) ++ [⟨q, n⟩] ++ (l.take j).drop (upK l q) ++ [l[j]], true) := by
        unfold stK
        rw [ej, if_neg (by omega), tk, List.drop_append_of_le_length (by simp; omega)]
        simp only [List.append_assoc]
      have hhi := atK_hi (q := q) hb hj (by omega)
      rw [e]
      rw [e3] at ih
      refine Evt.pos rfl ?_
      apply Evt.succ
      simp only [spec_l10Move.j3, hw, rdK_nat hj, Option.bind_some]
      refine Evt.neg (by simp) (Evt.pos h0 (Evt.pos hlt (Evt.neg (fun e_ => less_neK hhi e_.symm) (Evt.pos ?_ ih))))
      simp
      omega
  · simp only [spec_l10Move.l0]
    refine Evt.neg (by omega) ?_
    by_cases h1 : l.length ≤ atK l q
    · have e : stK l q n (l.length : Int) = (l, false) := by unfold stK; rw [Int.toNat_natCast, if_pos h1, List.take_length]
      have hisK : ¬ isK l q := fun ⟨h, _⟩ => by omega
      have e2 : newK l q n = l ++ [⟨q, n⟩] := by
        unfold newK upK
        rw [if_neg hisK, List.take_of_length_le h1, List.drop_eq_nil_of_le h1, List.append_nil]
      rw [e, e2]
      exact Evt.neg (by simp) (Evt.pos (by dsimp only; omega) (Evt.pure _))
    · have e : stK l q n (l.length : Int) = (newK l q n, true) := by
        unfold stK newK
        rw [Int.toNat_natCast, if_neg h1, List.take_length]
      rw [e]
      exact Evt.pos rfl (Evt.pure _)
theorem specMove_ev (l : List KX) (m : List MX) (q : ByteArray) (by_ : Int) (hk : ∀ x ∈ l, okK x) (hs : ∀ x ∈ m, okS x) (hl : l.length ≤ 1048576) (hm : m.length ≤ 1048576) (hq : ¬ (q.size : Int) > 20000) (b0 : -9223372036854775808 ≤ by_) (b1 : by_ ≤ 9223372036854775807) :
    ∃ r, Evt (fun k => spec_l10Move.f k l m q by_) ((@ite _ (BookP l m ∧ nameB q = true) (Classical.propDecidable _) (movR l q by_) l), m, r) := by
  unfold spec_l10Move.f
  simp only [l10Copy_ev l m hl hm, Option.bind_some]
  have bad : Evt (fun k => spec_l10Move.j0 k q by_ true l m l m) (l, m, false) := by
    apply Evt.succ
    simp only [spec_l10Move.j0, if_true]
    exact Evt.pure _
  by_cases h1 : BookP l m
  · by_cases h2 : nameB q = true
    · rw [if_pos ⟨h1, h2⟩]
      have hh := handK_ok q h1
      have hn : (l.length : Int) ≤ 100 := h1.1
      have no : ¬ canK l q by_ → movR l q by_ = l := fun h => if_neg h
      have hnm := specName_ev q (by omega)
      rw [h2] at hnm
      by_cases c1 : by_ < -1000000000
      · rw [no (fun h => by have := h.1; omega)]
        exact ⟨false, Evt.bind (specBook_ev l m hk hs) (Evt.pos (B_true h1) (Evt.bind hnm (Evt.pos rfl (Evt.pos c1 bad))))⟩
      · by_cases c2 : by_ > 1000000000
        · rw [no (fun h => by have := h.2.1; omega)]
          refine ⟨false, Evt.bind (specBook_ev l m hk hs) (Evt.pos (B_true h1) (Evt.bind hnm (Evt.pos rfl (Evt.neg c1 ?_))))⟩
          rw [decide_eq_true c2]
          exact bad
        · have pre : ∀ {R : List KX × List MX × Bool}, Evt (fun k => spec_l10Move.j0 k q by_ false l m l m) R → Evt (fun k => (spec_BookRight.f k l m).bind fun t193 => (if t193 = true then ((spec_l01Name.f k q).bind fun t194 => (if t194 = true then (if by_ < (-1000000000) then (spec_l10Move.j0 k q by_ true l m l m) else (spec_l10Move.j0 k q by_ (decide (by_ > 1000000000)) l m l m)) else (spec_l10Move.j0 k q by_ true l m l m))) else (spec_l10Move.j0 k q by_ true l m l m))) R := fun hR => by
            refine Evt.bind (specBook_ev l m hk hs) (Evt.pos (B_true h1) (Evt.bind hnm (Evt.pos rfl (Evt.neg c1 ?_))))
            rw [decide_eq_false c2]
            exact hR
          have w : wrap64 (handK l q + by_) = handK l q + by_ := w64 (by omega) (by omega)
          have hand := specHand_ev l m q hk hs h1 hq
          have j1bad : Evt (fun k => spec_l10Move.j1 k q (handK l q + by_) true l m l m m) (l, m, false) := by
            apply Evt.succ
            simp only [spec_l10Move.j1, if_true]
            exact Evt.pure _
          have j1ok : Evt (fun k => spec_l10Move.j1 k q (handK l q + by_) false l m l m m) (newK l q (handK l q + by_), m, true) := by
            apply Evt.succ
            simp only [spec_l10Move.j1, Bool.false_eq_true, if_false]
            exact specMove_l l m q _ h1
          obtain ⟨p, hp, hpl⟩ := specStock_ev l m q h1.1
          by_cases c3 : handK l q + by_ < 0
          · rw [no (fun h => by have := h.1; omega)]
            refine ⟨false, pre (Evt.succ ?_)⟩
            simp only [spec_l10Move.j0, Bool.false_eq_true, if_false]
            refine Evt.bind hand ?_
            simp only [w]
            exact Evt.pos c3 j1bad
          · by_cases c4 : handK l q + by_ > 1000000000
            · rw [no (fun h => by have := h.2.1; omega)]
              refine ⟨false, pre (Evt.succ ?_)⟩
              simp only [spec_l10Move.j0, Bool.false_eq_true, if_false]
              refine Evt.bind hand ?_
              simp only [w]
              exact Evt.neg c3 (Evt.pos c4 j1bad)
            · rcases placeK l m q h1 p hpl with ⟨g1, g2⟩ | ⟨g1, g2⟩
              · rw [show movR l q by_ = newK l q (handK l q + by_) from if_pos ⟨by omega, by omega, .inl g1⟩]
                refine ⟨true, pre (Evt.succ ?_)⟩
                simp only [spec_l10Move.j0, Bool.false_eq_true, if_false]
                refine Evt.bind hand ?_
                simp only [w]
                exact Evt.neg c3 (Evt.neg c4 (Evt.bind hp (Evt.neg (by omega) j1ok)))
              · by_cases c5 : (l.length : Int) ≥ 100
                · rw [no (fun h => h.2.2.elim g1 (by omega))]
                  refine ⟨false, pre (Evt.succ ?_)⟩
                  simp only [spec_l10Move.j0, Bool.false_eq_true, if_false]
                  refine Evt.bind hand ?_
                  simp only [w, decide_eq_true c5]
                  exact Evt.neg c3 (Evt.neg c4 (Evt.bind hp (Evt.pos (by omega) j1bad)))
                · rw [show movR l q by_ = newK l q (handK l q + by_) from if_pos ⟨by omega, by omega, .inr (by omega)⟩]
                  refine ⟨true, pre (Evt.succ ?_)⟩
                  simp only [spec_l10Move.j0, Bool.false_eq_true, if_false]
                  refine Evt.bind hand ?_
                  simp only [w, decide_eq_false c5]
                  exact Evt.neg c3 (Evt.neg c4 (Evt.bind hp (Evt.pos (by omega) j1ok)))
    · rw [if_neg (fun h => h2 h.2)]
      have hnm := specName_ev q (by omega)
      exact ⟨false, Evt.bind (specBook_ev l m hk hs) (Evt.pos (B_true h1) (Evt.bind hnm (Evt.neg h2 bad)))⟩
  · rw [if_neg (fun h => h1 h.1)]
    exact ⟨false, Evt.bind (specBook_ev l m hk hs) (Evt.neg (fun hh => h1 (B_iff.1 hh)) bad)⟩
noncomputable def moveR (l : List KX) (m : List MX) (q : ByteArray) (by_ : Int) : List KX × List MX := if (q.size : Int) > 20000 then ([], []) else (@ite _ (BookP l m ∧ nameB q = true) (Classical.propDecidable _) (movR l q by_) l, m)
theorem specBookMove_ev (l : List KX) (m : List MX) (q : ByteArray) (by_ : Int) (hk : ∀ x ∈ l, okK x) (hs : ∀ x ∈ m, okS x) (hl : l.length ≤ 1048576) (hm : m.length ≤ 1048576) (b0 : -9223372036854775808 ≤ by_) (b1 : by_ ≤ 9223372036854775807) : Evt (fun k => spec_BookMove.f k l m q by_) (moveR l m q by_) := by
  unfold spec_BookMove.f moveR
  by_cases g : (q.size : Int) > 20000
  · rw [if_pos g]
    exact Evt.pos g (Evt.pure _)
  · rw [if_neg g]
    obtain ⟨r, h⟩ := specMove_ev l m q by_ hk hs hl hm g b0 b1
    exact Evt.neg g (Evt.bind h (Evt.pure _))
theorem implBookMove_ev (l : List KX) (m : List MX) (q : ByteArray) (by_ : Int) (hk : ∀ x ∈ l, okK x) (hs : ∀ x ∈ m, okS x) (hl : l.length ≤ 1048576) (hm : m.length ≤ 1048576) (b0 : -9223372036854775808 ≤ by_) (b1 : by_ ≤ 9223372036854775807) : Evt (fun k => impl_BookMove.f k l m q by_) (moveR l m q by_) := by
  unfold impl_BookMove.f moveR
  simp only [ownBook_ev l m hl hm, Option.bind_some]
  refine Evt.bind (longText1_ev q) ?_
  by_cases g : (q.size : Int) > 20000
  · rw [if_pos g]
    exact Evt.pos (B_true g) (Evt.pure _)
  · rw [if_neg g]
    refine Evt.neg (fun hh => g (B_iff.1 hh)) (Evt.bind (implBook_ev l m hk hs) ?_)
    by_cases h1 : BookP l m
    · refine Evt.pos (B_true h1) (Evt.bind (implName_ev q (by omega)) ?_)
      by_cases h2 : nameB q = true
      · rw [if_pos (show BookP l m ∧ nameB q = true from ⟨h1, h2⟩)]
        obtain ⟨r, h⟩ := implMove_ev l m q by_ h1 b0 b1
        exact Evt.pos h2 (Evt.bind h (Evt.pure _))
      · rw [if_neg (show ¬ (BookP l m ∧ nameB q = true) from fun h => h2 h.2)]
        exact Evt.neg h2 (Evt.pure _)
    · rw [if_neg (show ¬ (BookP l m ∧ nameB q = true) from fun h => h1 h.1)]
      exact Evt.neg (fun hh => h1 (B_iff.1 hh)) (Evt.pure _)
end Go.Proofs.Ytefmkmhjbfpelaa.QM
namespace Go.Proofs.Ytefmkmhjbfpelaa.QM
open Go.RowKit Go.Proofs.Ytefmkmhjbfpelaa Go.Proofs.YtefmkmhjbfpelaaW.PrintWords Go.Proofs.Ytefmkmhjbfpelaa.Ev0
theorem num_size (v : Int) : (strOfNums [v]).size = 1 := rfl
theorem dec_l (d : Nat) : ∀ (a : Int) (x : ByteArray), 0 ≤ a → a < 10 ^ d → a ≤ 1000000000 → (x.size : Int) + d ≤ 1000 → ∃ r, Evt (fun k => spec_l01Dec.l0 k a false x) r ∧ (r.size : Int) ≤ 1000 := by
  induction d with
  | zero =>
    intro a x h0 h1 h2 h3
    have e : a = 0 := by simp at h1; omega
    refine ⟨x, Evt.succ ?_, by omega⟩
    simp only [spec_l01Dec.l0]
    exact Evt.pos e (Evt.neg (by decide) (Evt.pure _))
  | succ d ih =>
    intro a x h0 h1 h2 h3
    by_cases e : a = 0
    · refine ⟨x, Evt.succ ?_, by omega⟩
      simp only [spec_l01Dec.l0]
      exact Evt.pos e (Evt.neg (by decide) (Evt.pure _))
    · have et : Int.tdiv a 10 = a / 10 := Int.tdiv_eq_ediv_of_nonneg h0
      have em : Int.tmod a 10 = a % 10 := Int.tmod_eq_emod_of_nonneg h0
      have hp : (10 : Int) ^ (d + 1) = 10 ^ d * 10 := Int.pow_succ 10 d
      have hs : ∀ v : Int, ((strOfNums [v]) ++ x).size = 1 + x.size := fun v => by rw [ByteArray.size_append, num_size]
      obtain ⟨r, hr, h4⟩ := ih (a / 10) ((strOfNums [(wrap64 (48 + (Int.tmod a 10))) % 256]) ++ x) (by omega) (by omega) (by omega) (by rw [hs]; omega)
      refine ⟨r, Evt.succ ?_, h4⟩
      simp only [spec_l01Dec.l0, Option.bind_some]
      refine Evt.neg e (Evt.neg (by rw [em]; omega) (Evt.pos ?_ ?_))
      · rw [num_size]
        omega
      · rw [et, w64 (x := a / 10) (by omega) (by omega)]
        exact hr
theorem dec_ev (a : Int) (h0 : 0 ≤ a) (h1 : a ≤ 1000000000) : ∃ r, Evt (fun k => spec_l01Dec.f k a) r ∧ (r.size : Int) ≤ 1000 := by
  unfold spec_l01Dec.f
  by_cases e : a = 0
  · exact ⟨⟨#[48]⟩, Evt.pos e (Evt.pure _), by decide⟩
  · obtain ⟨r, hr, h⟩ := dec_l 12 a ⟨#[]⟩ h0 (by omega) h1 (by decide)
    refine ⟨r, Evt.neg e ?_, h⟩
    rw [decide_eq_false (by omega)]
    exact hr
theorem item_ev (b : List Int) (hb : (b.length : Int) ≤ 1048576) (t m s : Int) (ht : Pl b t) : ∃ x t' m', spec_l01Src_l10Item.f b t m s = some (x, t', m', s) ∧ Pl b t' ∧ (x.size : Int) ≤ 1000 := by
  obtain ⟨x1, t1, m1, e1, h1, g1⟩ := pick_ev b hb t m s ht [(⟨#[66, 79, 76, 84]⟩ : ByteArray), (⟨#[78, 85, 84]⟩ : ByteArray), (⟨#[71, 69, 65, 82]⟩ : ByteArray), (⟨#[67, 65, 77]⟩ : ByteArray), (⟨#[66, 45, 49, 48]⟩ : ByteArray), (⟨#[90, 57]⟩ : ByteArray)] (by decide) (by decide)
  refine ⟨x1, t1, m1, ?_, h1, ?_⟩
  · unfold spec_l01Src_l10Item.f
    simp only [e1, Option.bind_some]
  · simp only [List.mem_cons, List.not_mem_nil, or_false] at g1
    rcases g1 with rfl | rfl | rfl | rfl | rfl | rfl <;> decide
def okKL (l : List KX) (m : List MX) : Prop := l.length ≤ 300 ∧ (∀ x ∈ l, okK x) ∧ m.length ≤ 300 ∧ ∀ x ∈ m, okS x
theorem okKL_snoc {l : List KX} {m : List MX} {x : KX} (hl : l.length ≤ 200) (hk : ∀ x ∈ l, okK x) (hm : m.length ≤ 300) (hs : ∀ x ∈ m, okS x) (hx : (x.f0.size : Int) ≤ 100000) : okKL (l ++ [x]) m :=
  ⟨by simp; omega, fun y hy => (List.mem_append.1 hy).elim (hk y) (fun hy => by rw [List.mem_singleton.1 hy]; exact Int.le_trans hx (by decide)), hm, hs⟩
theorem dbook_l1 (b : List Int) (hb : (b.length : Int) ≤ 1048576) (s : Int) (m : List MX) (hm : m.length ≤ 300) (hs : ∀ x ∈ m, okS x) (d : Nat) : ∀ (l : List KX) (i t u : Int), Pl b t → l.length ≤ 150 → (∀ x ∈ l, okK x) → i = (l.length : Int) → 102 - (l.length : Int) ≤ d → ∃ l' t' u', Evt (fun k => spec_l01Src_l10Book.l1 k i b t u s l m) (l', m, t', u', s) ∧ Pl b t' ∧ okKL l' m := by
  induction d with
  | zero =>
    intro l i t u ht hl hk hi hd
    obtain ⟨x, t1, m1, e1, h1, z0, z1⟩ := n_ev b hb t u s 3 ht (by decide)
    refine ⟨l, t1, m1, Evt.succ ?_, h1, by omega, hk, hm, hs⟩
    have hw : wrap64 (99 + x) = 99 + x := w64 (by omega) (by omega)
    simp only [spec_l01Src_l10Book.l1, e1, Option.bind_some, hw]
    exact Evt.neg (by omega) (Evt.pure _)
  | succ d ih =>
    intro l i t u ht hl hk hi hd
    obtain ⟨x, t1, m1, e1, h1, z0, z1⟩ := n_ev b hb t u s 3 ht (by decide)
    have hw : wrap64 (99 + x) = 99 + x := w64 (by omega) (by omega)
    by_cases g : (l.length : Int) < 99 + x
    · have w1 : wrap64 (1000 + i) = 1000 + i := w64 (by omega) (by omega)
      have w2 : wrap64 (i + 1) = i + 1 := w64 (by omega) (by omega)
      obtain ⟨z, hz, zs⟩ := dec_ev (1000 + i) (by omega) (by omega)
      have hsz : (((⟨#[73]⟩ : ByteArray) ++ z).size : Int) ≤ 100000 := by
        rw [ByteArray.size_append]
        have : (⟨#[73]⟩ : ByteArray).size = 1 := rfl
        omega
      obtain ⟨k1, k2, k3, k4⟩ := okKL_snoc (x := ⟨(⟨#[73]⟩ : ByteArray) ++ z, i⟩) (by omega) hk hm hs hsz
      obtain ⟨l', t', u', h, h2⟩ := ih (l ++ [⟨(⟨#[73]⟩ : ByteArray) ++ z, i⟩]) (i + 1) t1 m1 h1 (by simp; omega) k2 (by simp; omega) (by simp; omega)
      refine ⟨l', t', u', Evt.succ ?_, h2⟩
      simp only [spec_l01Src_l10Book.l1, e1, Option.bind_some, hw, w1, w2]
      exact Evt.pos g (Evt.bind hz (Evt.pos (by omega) (Evt.pos (by omega) h)))
    · refine ⟨l, t1, m1, Evt.succ ?_, h1, by omega, hk, hm, hs⟩
      simp only [spec_l01Src_l10Book.l1, e1, Option.bind_some, hw]
      exact Evt.neg g (Evt.pure _)
theorem dbook_end (b : List Int) (hb : (b.length : Int) ≤ 1048576) (t u s : Int) (ht : Pl b t) (l : List KX) (m : List MX) (hl : l.length ≤ 101) (hk : ∀ x ∈ l, okK x) (hm : m.length ≤ 300) (hs : ∀ x ∈ m, okS x) (i : Int) (hi : ¬ i > 0) :
    ∃ l' t' u', Evt (fun k => spec_l01Src_l10Book.l0 (k + 1) i b t u s l m) (l', m, t', u', s) ∧ Pl b t' ∧ okKL l' m := by
  obtain ⟨r, t1, m1, e1, h1⟩ := draw_one_ev b hb t u s 15 ht (by decide)
  by_cases hr : r = true
  · obtain ⟨x, t2, m2, e2, h2, _, _⟩ := n_ev b hb t1 m1 s 4 h1 (by decide)
    by_cases x0 : x = 0
    · obtain ⟨y, t3, m3, e3, h3, ys⟩ := item_ev b hb t2 m2 s h2
      refine ⟨l ++ [⟨y, 0⟩], t3, m3, ?_, h3, okKL_snoc (by omega) hk hm hs (by dsimp only; omega)⟩
      simp only [spec_l01Src_l10Book.l0, e1, e2, e3, Option.bind_some]
      exact Evt.neg hi (Evt.pos hr (Evt.pos x0 (Evt.pos (by omega) (Evt.pure _))))
    · by_cases x1 : x = 1
      · obtain ⟨y, t3, m3, e3, h3, _, _⟩ := n_ev b hb t2 m2 s 2 h2 (by decide)
        refine ⟨l ++ [⟨(⟨#[90, 90, 90]⟩ : ByteArray), wrap64 (1000000000 + y)⟩], t3, m3, ?_, h3, okKL_snoc (by omega) hk hm hs (by show (((⟨#[90, 90, 90]⟩ : ByteArray).size : Int)) ≤ 100000; decide)⟩
        simp only [spec_l01Src_l10Book.l0, e1, e2, e3, Option.bind_some]
        exact Evt.neg hi (Evt.pos hr (Evt.neg x0 (Evt.pos x1 (Evt.pos (by omega) (Evt.pure _)))))
      · by_cases x2 : x = 2
        · refine ⟨l ++ [⟨(⟨#[122, 122]⟩ : ByteArray), 0⟩], t2, m2, ?_, h2, okKL_snoc (by omega) hk hm hs (by decide)⟩
          simp only [spec_l01Src_l10Book.l0, e1, e2, Option.bind_some]
          exact Evt.neg hi (Evt.pos hr (Evt.neg x0 (Evt.neg x1 (Evt.pos x2 (Evt.pos (by omega) (Evt.pure _))))))
        · obtain ⟨l', t', u', h, h3⟩ := dbook_l1 b hb s m hm hs 102 [] 0 t2 m2 h2 (by simp) (by simp) (by simp) (by simp)
          refine ⟨l', t', u', ?_, h3⟩
          simp only [spec_l01Src_l10Book.l0, e1, e2, Option.bind_some]
          exact Evt.neg hi (Evt.pos hr (Evt.neg x0 (Evt.neg x1 (Evt.neg x2 h))))
  · refine ⟨l, t1, m1, ?_, h1, by omega, hk, hm, hs⟩
    simp only [spec_l01Src_l10Book.l0, e1, Option.bind_some]
    exact Evt.neg hi (Evt.neg hr (Evt.pure _))
theorem movR_small {l : List KX} {m : List MX} {q : ByteArray} {n : Int} (hl : l.length ≤ 101) (hk : ∀ x ∈ l, okK x) (hq : (q.size : Int) ≤ 1000) : (@ite _ (BookP l m ∧ nameB q = true) (Classical.propDecidable _) (movR l q n) l).length ≤ 101 ∧ ∀ x ∈ (@ite _ (BookP l m ∧ nameB q = true) (Classical.propDecidable _) (movR l q n) l), okK x := by
  split
  · rename_i h
    have h100 := h.1.1
    unfold movR
    split
    · refine ⟨?_, fun x hx => ?_⟩
      · have := newK_len l q (handK l q + n)
        omega
      · unfold newK at hx
        rw [List.append_assoc] at hx
        rcases List.mem_append.1 hx with hx | hx
        · exact hk x (List.mem_of_mem_take hx)
        · rcases List.mem_append.1 hx with hx | hx
          · rw [List.mem_singleton.1 hx]
            exact Int.le_trans hq (by decide)
          · exact hk x (List.mem_of_mem_drop hx)
    · exact ⟨hl, hk⟩
  · exact ⟨hl, hk⟩
theorem dbook_l0 (b : List Int) (hb : (b.length : Int) ≤ 1048576) (s : Int) (m : List MX) (hm : m.length ≤ 300) (hs : ∀ x ∈ m, okS x) (d : Nat) : ∀ (l : List KX) (i t u : Int), Pl b t → l.length ≤ 101 → (∀ x ∈ l, okK x) → i ≤ d → i ≤ 1000 → ∃ l' t' u', Evt (fun k => spec_l01Src_l10Book.l0 k i b t u s l m) (l', m, t', u', s) ∧ Pl b t' ∧ okKL l' m := by
  induction d with
  | zero =>
    intro l i t u ht hl hk hd _
    obtain ⟨l', t', u', h, h2⟩ := dbook_end b hb t u s ht l m hl hk hm hs i (by omega)
    exact ⟨l', t', u', h.succ, h2⟩
  | succ d ih =>
    intro l i t u ht hl hk hd h1000
    by_cases g : i > 0
    · obtain ⟨y, t1, m1, e1, h1, ys⟩ := item_ev b hb t u s ht
      obtain ⟨x, t2, m2, e2, h2, x0, x1⟩ := n_ev b hb t1 m1 s 60 h1 (by decide)
      obtain ⟨r, hmv⟩ := specMove_ev l m y x hk hs (by omega) (by omega) (by omega) (by omega) (by omega)
      obtain ⟨s1, s2⟩ := movR_small (m := m) (q := y) (n := x) hl hk ys
      have hw : wrap64 (i - 1) = i - 1 := w64 (by omega) (by omega)
      obtain ⟨l', t', u', h, h3⟩ := ih _ (i - 1) t2 m2 h2 s1 s2 (by omega) (by omega)
      refine ⟨l', t', u', Evt.succ ?_, h3⟩
      simp only [spec_l01Src_l10Book.l0, e1, e2, Option.bind_some, hw]
      exact Evt.pos g (Evt.bind hmv h)
    · obtain ⟨l', t', u', h, h2⟩ := dbook_end b hb t u s ht l m hl hk hm hs i g
      exact ⟨l', t', u', h.succ, h2⟩
theorem dbook_ev (b : List Int) (hb : (b.length : Int) ≤ 1048576) (t u s : Int) (ht : Pl b t) (s0 : 0 ≤ s) (s1 : s ≤ 12) : ∃ l m t' u', Evt (fun k => spec_l01Src_l10Book.f k b t u s) (l, m, t', u', s) ∧ Pl b t' ∧ okKL l m := by
  obtain ⟨m, t1, m1, e1, h1, hm, hs⟩ := dlines_ev b hb t u s ht s0 s1
  obtain ⟨x, t2, m2, e2, h2, x0, x1⟩ := n_ev b hb t1 m1 s 5 h1 (by decide)
  obtain ⟨l, t', u', h, h3⟩ := dbook_l0 b hb s m hm hs 10 [] x t2 m2 h2 (by simp) (by simp) (by omega) (by omega)
  refine ⟨l, m, t', u', ?_, h3⟩
  unfold spec_l01Src_l10Book.f
  refine Evt.bind e1 ?_
  simp only [e2, Option.bind_some]
  exact h
theorem drawMove_ev (b : List Int) (hb : (b.length : Int) ≤ 1048576) : ∃ (l : List KX) (m : List MX) (q : ByteArray) (n : Int), Evt (fun k => spec_DrawBookMove.f k b) (l, m, q, n) ∧ okKL l m ∧ (q.size : Int) ≤ 1000 := by
  obtain ⟨u, s, e0, s0, s1⟩ := src_ev b hb
  obtain ⟨l, m, t1, m1, e1, h1, hlm⟩ := dbook_ev b hb 0 u s ⟨Int.le_refl _, by omega⟩ s0 s1
  obtain ⟨x, t2, m2, e2, h2, _, _⟩ := n_ev b hb t1 m1 s 80 h1 (by decide)
  obtain ⟨r, t3, m3, e3, h3⟩ := draw_one_ev b hb t2 m2 s 10 h2 (by decide)
  by_cases hr : r = true
  · obtain ⟨y, t4, m4, e4, h4, y0, y1⟩ := n_ev b hb t3 m3 s 14 h3 (by decide)
    obtain ⟨z, t5, m5, e5, h5, z0, z1⟩ := n_ev b hb t4 m4 s 5 h4 (by decide)
    obtain ⟨q, t6, m6, e6, h6, qs⟩ := item_ev b hb t5 m5 s h5
    have ee : spec_l01Src_edge.f b t3 m3 s = some (rd [0, 1, (-1), 2, 1000, 1001, 2147483648, 2147483647, (-2147483648), 4611686018427387904, 9223372036854775807, (-9223372036854775808), 1000000, 1000001] y, t4, m4, s) := by
      unfold spec_l01Src_edge.f
      simp only [e4, Option.bind_some]
      rw [if_pos y0, if_pos (by simp; omega)]
    refine ⟨l, m, q, rd [1000000000, (-1000000000), 1000000001, 0, rd [0, 1, (-1), 2, 1000, 1001, 2147483648, 2147483647, (-2147483648), 4611686018427387904, 9223372036854775807, (-9223372036854775808), 1000000, 1000001] y] z, ?_, hlm, qs⟩
    · unfold spec_DrawBookMove.f
      refine Evt.bind e0 (Evt.bind e1 ?_)
      simp only [e2, e3, ee, e5, e6, Option.bind_some]
      exact Evt.pos hr (Evt.pos z0 (Evt.pos (by simp; omega) (Evt.pure _)))
  · obtain ⟨q, t6, m6, e6, h6, qs⟩ := item_ev b hb t3 m3 s h3
    refine ⟨l, m, q, wrap64 (x - 40), ?_, hlm, qs⟩
    unfold spec_DrawBookMove.f
    refine Evt.bind e0 (Evt.bind e1 ?_)
    simp only [e2, e3, e6, Option.bind_some]
    exact Evt.neg hr (Evt.pure _)
end Go.Proofs.Ytefmkmhjbfpelaa.QM
namespace Go.Proofs.Ytefmkmhjbfpelaa.QM
open Go.RowKit Go.Proofs.Ytefmkmhjbfpelaa Go.Proofs.YtefmkmhjbfpelaaW.PrintWords Go.Proofs.Ytefmkmhjbfpelaa.Ev0
def klt (x y : KX) : Prop := less x.f0 y.f0
theorem klt_ord : Ord klt where
  tr := fun h1 h2 => less_tr h1 h2
  asy := fun h => less_asK h
def goodK (x : KX) : Prop := nameB x.f0 = true ∧ (0 ≤ x.f1 ∧ x.f1 ≤ 1000000000)
theorem BookP_iff (l : List KX) (m : List MX) : BookP l m ↔ (l.length : Int) ≤ 100 ∧ (∀ x ∈ l, goodK x) ∧ l.Pairwise klt ∧ linesB m = true := by
  constructor
  · rintro ⟨h1, h2, h3⟩
    refine ⟨h1, fun x hx => ?_, pair_of_next klt_ord fun i hi => ?_, h3⟩
    · obtain ⟨i, hi, rfl⟩ := List.mem_iff_getElem.1 hx
      have := h2 i (by omega) (by omega)
      unfold stockAt at this
      rw [rdK_nat hi] at this
      exact ⟨this.1, this.2.1⟩
    · have := (h2 ((i + 1 : Nat) : Int) (by omega) (by omega)).2.2 (by omega)
      rw [show (((i + 1 : Nat) : Int) - 1) = ((i : Nat) : Int) by omega, rdK_nat hi, rdK_nat (show i < l.length by omega)] at this
      exact this
  · rintro ⟨h1, h2, h3, h4⟩
    refine ⟨h1, fun i h0 hi => ?_, h4⟩
    obtain ⟨j, rfl⟩ : ∃ j : Nat, i = j := ⟨i.toNat, by omega⟩
    have hj : j < l.length := by omega
    unfold stockAt
    rw [rdK_nat hj]
    refine ⟨(h2 _ (List.getElem_mem hj)).1, (h2 _ (List.getElem_mem hj)).2, fun hp => ?_⟩
    obtain ⟨m, rfl⟩ : ∃ m, j = m + 1 := ⟨j - 1, by omega⟩
    rw [show (((m + 1 : Nat) : Int) - 1) = ((m : Nat) : Int) by omega, rdK_nat (show m < l.length by omega)]
    exact List.pairwise_iff_getElem.1 h3 _ _ _ _ (by omega)
theorem upK_ge (l : List KX) (q : ByteArray) : atK l q ≤ upK l q := by unfold upK; split <;> omega
theorem upK_hi {l : List KX} {m : List MX} {q : ByteArray} (hb : BookP l m) {i : Nat} (hi : i < l.length) (h : upK l q ≤ i) : less q l[i].f0 := by
  by_cases g : atK l q < i
  · exact atK_hi hb hi g
  · have e : i = atK l q := by have := upK_ge l q; omega
    have hnk : ¬ isK l q := fun hk => by unfold upK at h; rw [if_pos hk] at h; omega
    have ha := atK_at (q := q) (show atK l q < l.length by omega)
    have hne : ¬ (l[atK l q]'(by omega)).f0.toList = q.toList := fun he => hnk ⟨by omega, he⟩
    have el : l[i] = l[atK l q]'(by omega) := by simp only [e]
    rw [el]
    rcases cmpS_cases (l[atK l q]'(by omega)).f0 q with ⟨e1, _⟩ | ⟨_, e1, _⟩ | ⟨_, _, e1, _⟩
    · exact absurd e1 ha
    · exact e1
    · exact absurd e1 hne
theorem newK_right {l : List KX} {m : List MX} {q : ByteArray} {n : Int} (hb : BookP l m) (hq : nameB q = true) (h0 : 0 ≤ n) (h1 : n ≤ 1000000000) (hr : isK l q ∨ (l.length : Int) < 100) : BookP (newK l q n) m := by
  obtain ⟨g1, g2, g3, g4⟩ := (BookP_iff l m).1 hb
  have ha := atK_le l q
  have hu := upK_le l q
  have hau := upK_ge l q
  have e : newK l q n = l.take (atK l q) ++ (⟨q, n⟩ : KX) :: l.drop (upK l q) := by unfold newK; simp
  refine (BookP_iff _ m).2 ⟨?_, ?_, ?_, g4⟩
  · rw [e]
    have : (l.take (atK l q) ++ (⟨q, n⟩ : KX) :: l.drop (upK l q)).length = atK l q + 1 + (l.length - upK l q) := by simp; omega
    rw [this]
    rcases hr with hr | hr
    · have eu : upK l q = atK l q + 1 := if_pos hr
      obtain ⟨h2, _⟩ := hr
      omega
    · omega
  · intro x hx
    rw [e] at hx
    rcases List.mem_append.1 hx with hx | hx
    · exact g2 x (List.mem_of_mem_take hx)
    · rcases List.mem_cons.1 hx with rfl | hx
      · exact ⟨hq, h0, h1⟩
      · exact g2 x (List.mem_of_mem_drop hx)
  · rw [e]
    have hlo : ∀ x ∈ l.take (atK l q), less x.f0 q := fun x hx => by
      obtain ⟨i, hi, rfl⟩ := List.mem_take_iff_getElem.1 hx
      exact atK_lo (by omega) (by omega)
    have hhi : ∀ x ∈ l.drop (upK l q), less q x.f0 := fun x hx => by
      obtain ⟨i, hi, rfl⟩ := List.mem_drop_iff_getElem.1 hx
      exact upK_hi hb (by omega) (by omega)
    refine List.pairwise_append.2 ⟨g3.sublist (List.take_sublist ..), List.pairwise_cons.2 ⟨fun x hx => hhi x hx, g3.sublist (List.drop_sublist ..)⟩, fun x hx y hy => ?_⟩
    rcases List.mem_cons.1 hy with rfl | hy
    · exact hlo x hx
    · exact less_tr (hlo x hx) (hhi y hy)
theorem newK_at {l : List KX} {q : ByteArray} {n : Int} : ∃ h : atK l q < (newK l q n).length, (newK l q n)[atK l q] = ⟨q, n⟩ := by
  have ha := atK_le l q
  have e : newK l q n = l.take (atK l q) ++ (⟨q, n⟩ : KX) :: l.drop (upK l q) := by unfold newK; simp
  have ht : (l.take (atK l q)).length = atK l q := by simp [ha]
  have hl : atK l q < (newK l q n).length := by rw [e]; simp; omega
  refine ⟨hl, ?_⟩
  simp only [e]
  rw [List.getElem_append_right (by omega)]
  simp [ht]
theorem newK_is {l : List KX} {m : List MX} {q : ByteArray} {n : Int} (hn : BookP (newK l q n) m) : atK (newK l q n) q = atK l q ∧ isK (newK l q n) q ∧ handK (newK l q n) q = n := by
  obtain ⟨hl, he⟩ := newK_at (l := l) (q := q) (n := n)
  have e1 := isK_of (q := q) hn hl (by rw [he])
  have hK : isK (newK l q n) q := ⟨by omega, by simp only [← e1, he]⟩
  refine ⟨e1.symm, hK, ?_⟩
  unfold handK
  rw [if_pos hK, ← e1, rdK_nat hl, he]
theorem bookHand_ev (l : List KX) (m : List MX) (q : ByteArray) (hk : ∀ x ∈ l, okK x) (hs : ∀ x ∈ m, okS x) (hb : BookP l m) (hq : ¬ (q.size : Int) > 20000) : Evt (fun k => impl_BookHand.f k l m q) (handK l q) := by
  unfold impl_BookHand.f
  exact Evt.bind (longText1_ev q) (Evt.neg (fun h => hq (B_iff.1 h)) (Evt.bind (implBook_ev l m hk hs) (Evt.pos (B_true hb) (Evt.bind (implHand_ev l m q hb) (Evt.pure _)))))
theorem lwBook_refl (l : List KX) (m : List MX) (hl : l.length ≤ 9000000) (hm : m.length ≤ 9000000) : Evt (fun k => laws_lwBook.f k l m l m) true := by
  unfold laws_lwBook.f
  refine Evt.pos rfl ?_
  apply Evt.succ
  simp only [laws_lwBook.j0, bne_self_eq_false, Bool.false_eq_true, if_false]
  have h2 : Evt (fun k => laws_lwBook.l1 k 0 l m l m) true := by
    refine all_loop (m.length : Int) (by omega) (fun k i => laws_lwBook.l1 k i l m l m) ?_ ?_
    · intro i h0 hlt ih
      have hw : wrap64 (i + 1) = i + 1 := w64 (by omega) (by omega)
      simp only [laws_lwBook.l1, hw]
      exact Evt.pos hlt (Evt.pos h0 (Evt.pos hlt (Evt.neg (by simp) ih)))
    · simp only [laws_lwBook.l1]
      exact Evt.neg (by omega) (Evt.pure _)
  refine all_loop (l.length : Int) (by omega) (fun k i => laws_lwBook.l0 k i l m l m) ?_ ?_
  · intro i h0 hlt ih
    have hw : wrap64 (i + 1) = i + 1 := w64 (by omega) (by omega)
    simp only [laws_lwBook.l0, hw]
    exact Evt.pos hlt (Evt.pos h0 (Evt.pos hlt (Evt.neg (by simp) ih)))
  · simp only [laws_lwBook.l0]
    exact Evt.neg (by omega) h2
theorem lwBook_new (l : List KX) (m : List MX) (q : ByteArray) (n : Int) (hl : l.length ≤ 100) (hne : ¬ n = handK l q) : Evt (fun k => laws_lwBook.f k (newK l q n) m l m) false := by
  have ha := atK_le l q
  have hu := upK_le l q
  have hau := upK_ge l q
  have e : newK l q n = l.take (atK l q) ++ (⟨q, n⟩ : KX) :: l.drop (upK l q) := by unfold newK; simp
  have hlen : (newK l q n).length = atK l q + 1 + (l.length - upK l q) := by rw [e]; simp; omega
  unfold laws_lwBook.f
  by_cases hK : isK l q
  · have eu : upK l q = atK l q + 1 := if_pos hK
    obtain ⟨h2, h3⟩ := id hK
    refine Evt.pos (by omega) ?_
    apply Evt.succ
    simp only [laws_lwBook.j0, bne_self_eq_false, Bool.false_eq_true, if_false]
    have h := up_loop (atK l q : Int) (fun k (_ : Unit) i => laws_lwBook.l0 k i (newK l q n) m l m) (fun _ => ()) (fun _ => false) ?_ ?_ 0 (Int.le_refl _) (by omega)
    · exact h
    · intro i h0 hlt ih
      have hw : wrap64 (i + 1) = i + 1 := w64 (by omega) (by omega)
      obtain ⟨j, rfl⟩ : ∃ j : Nat, i = j := ⟨i.toNat, by omega⟩
      have hj : j < l.length := by omega
      have hjn : j < (newK l q n).length := by omega
      have ej : (newK l q n)[j] = l[j] := by
        simp only [e]
        rw [List.getElem_append_left (by simp; omega), List.getElem_take]
      simp only [laws_lwBook.l0, hw, rdK_nat hj, rdK_nat hjn, ej]
      exact Evt.pos (by omega) (Evt.pos h0 (Evt.pos (by omega) (Evt.neg (by simp) ih)))
    · obtain ⟨hl2, he⟩ := newK_at (l := l) (q := q) (n := n)
      simp only [laws_lwBook.l0, rdK_nat h2, rdK_nat hl2, he]
      have hh : handK l q = (l[atK l q]).f1 := by unfold handK; rw [if_pos hK, rdK_nat h2]
      refine Evt.pos (by omega) (Evt.pos (by omega) (Evt.pos (by omega) (Evt.pos ?_ (Evt.pure _))))
      have : (n == (l[atK l q]).f1) = false := by
        rw [← hh]
        simpa using hne
      simp [this]
  · have eu : upK l q = atK l q := if_neg hK
    refine Evt.neg (by omega) ?_
    apply Evt.succ
    simp only [laws_lwBook.j0, if_true]
    exact Evt.pure _
end Go.Proofs.Ytefmkmhjbfpelaa.QM
namespace Go.Proofs.Ytefmkmhjbfpelaa.Pure
open Go.RowKit Go.Proofs.Ytefmkmhjbfpelaa Go.Proofs.Ytefmkmhjbfpelaa.QM Go.Proofs.YtefmkmhjbfpelaaW.PrintWords Go.Proofs.Ytefmkmhjbfpelaa.Ev0
theorem newK_ok {l : List KX} {q : ByteArray} {n : Int} (hk : ∀ x ∈ l, okK x) (hq : (q.size : Int) ≤ 1000) : ∀ x ∈ newK l q n, okK x := by
  intro x hx
  unfold newK at hx
  rw [List.append_assoc] at hx
  rcases List.mem_append.1 hx with hx | hx
  · exact hk x (List.mem_of_mem_take hx)
  · rcases List.mem_append.1 hx with hx | hx
    · rw [List.mem_singleton.1 hx]
      exact Int.le_trans hq (by decide)
    · exact hk x (List.mem_of_mem_drop hx)
theorem moves_j (l : List KX) (m : List MX) (q : ByteArray) (n : Int) (hk : ∀ x ∈ l, okK x) (hs : ∀ x ∈ m, okS x) (hb : BookP l m) (hm : m.length ≤ 300) (hq : (q.size : Int) ≤ 1000) (n0 : 1 ≤ n) (n1 : n ≤ 1000000000) : Evt (fun k => laws_FnMoves.j0 k q n false l m) true := by
  have hl := hb.1
  have hqs : ¬ (q.size : Int) > 20000 := by omega
  have i1 := implBookMove_ev l m q n hk hs (by omega) (by omega) (by omega) (by omega)
  have i2 := specBookMove_ev l m q n hk hs (by omega) (by omega) (by omega) (by omega)
  have hd := bookHand_ev l m q hk hs hb hqs
  apply Evt.succ
  simp only [laws_FnMoves.j0, Bool.false_eq_true, if_false]
  have same : moveR l m q n = (l, m) → Evt (fun k => (impl_BookMove.f k l m q n).bind fun bt722 => ((spec_BookMove.f k l m q n).bind fun bt729 => ((laws_lwBook.f k bt722.1 bt722.2 bt729.1 bt729.2).bind fun t736 => (if t736 = true then ((impl_BookRight.f k bt722.1 bt722.2).bind fun t737 => (laws_FnMoves.j1 k q n (!t737) l m bt722.1 bt722.2 bt729.1 bt729.2)) else (laws_FnMoves.j1 k q n true l m bt722.1 bt722.2 bt729.1 bt729.2))))) true := fun e => by
    rw [e] at i1 i2
    refine Evt.bind i1 (Evt.bind i2 (Evt.bind (lwBook_refl l m (by omega) (by omega)) (Evt.pos rfl (Evt.bind (implBook_ev l m hk hs) ?_))))
    rw [show bookB l m = true from B_true hb]
    apply Evt.succ
    simp only [laws_FnMoves.j1, Bool.not_true, Bool.false_eq_true, if_false]
    refine Evt.bind hd (Evt.bind (lwBook_refl l m (by omega) (by omega)) (Evt.pos rfl (Evt.bind hd ((Evt.pure _).same ?_))))
    simp
  have eq0 : moveR l m q n = ((@ite _ (BookP l m ∧ nameB q = true) (Classical.propDecidable _) (movR l q n) l), m) := if_neg hqs
  by_cases h1 : nameB q = true
  · rw [if_pos (show BookP l m ∧ nameB q = true from ⟨hb, h1⟩)] at eq0
    by_cases h2 : canK l q n
    · have eq1 : moveR l m q n = (newK l q (handK l q + n), m) := by
        rw [eq0]
        unfold movR
        rw [if_pos h2]
      obtain ⟨c1, c2, c3⟩ := h2
      have hh := handK_ok q hb
      have hN := newK_right hb h1 c1 c2 c3
      obtain ⟨a1, a2, a3⟩ := newK_is hN
      have kN := newK_ok (n := handK l q + n) hk hq
      have lN : ((newK l q (handK l q + n)).length : Int) ≤ 100 := hN.1
      generalize hNe : newK l q (handK l q + n) = N at hN a1 a2 a3 kN lN eq1
      rw [eq1] at i1 i2
      have hw : wrap64 (-n) = -n := w64 (by omega) (by omega)
      have i3 := implBookMove_ev N m q (-n) kN hs (by omega) (by omega) (by omega) (by omega)
      have can : canK N q (-n) := ⟨by omega, by omega, .inl a2⟩
      have eq2 : moveR N m q (-n) = (newK N q (handK l q), m) := by
        have e5 : moveR N m q (-n) = ((@ite _ (BookP N m ∧ nameB q = true) (Classical.propDecidable _) (movR N q (-n)) N), m) := if_neg hqs
        rw [e5, if_pos (show BookP N m ∧ nameB q = true from ⟨hN, h1⟩)]
        unfold movR
        rw [if_pos can, a3, show handK l q + n + -n = handK l q by omega]
      rw [eq2] at i3
      have hM := newK_right (n := handK l q) hN h1 hh.1 hh.2 (.inl a2)
      obtain ⟨_, _, d3⟩ := newK_is hM
      have kM := newK_ok (n := handK l q) kN hq
      have hN2 := bookHand_ev N m q kN hs hN hqs
      have hM2 := bookHand_ev (newK N q (handK l q)) m q kM hs hM hqs
      rw [a3] at hN2
      rw [d3] at hM2
      have hlw := lwBook_new l m q (handK l q + n) (by omega) (by omega)
      rw [hNe] at hlw
      refine Evt.bind i1 (Evt.bind i2 (Evt.bind (lwBook_refl N m (by omega) (by omega)) (Evt.pos rfl (Evt.bind (implBook_ev N m kN hs) ?_))))
      rw [show bookB N m = true from B_true hN]
      apply Evt.succ
      simp only [laws_FnMoves.j1, Bool.not_true, Bool.false_eq_true, if_false, hw]
      refine Evt.bind hd (Evt.bind hlw (Evt.neg (by decide) (Evt.bind i3 (Evt.bind hN2 (Evt.pos ?_ (Evt.bind hM2 ((Evt.pure _).same ?_)))))))
      · exact (w64 (by omega) (by omega)).symm
      · simp
    · refine same ?_
      rw [eq0]
      unfold movR
      rw [if_neg h2]
  · refine same ?_
    rw [eq0, if_neg (fun h => h1 h.2)]
theorem FnMoves : laws_FnMoves.Pure := by
  intro b wb
  apply Evt.ex
  unfold laws_FnMoves.f
  refine Evt.ite (fun _ => Evt.pure true) (fun hn => ?_)
  obtain ⟨l, m, q, n, hd, ⟨hl, hk, hm, hs⟩, hq⟩ := drawMove_ev b (by omega)
  have skip : Evt (fun k => laws_FnMoves.j0 k q n true l m) true := by
    apply Evt.succ
    simp only [laws_FnMoves.j0, if_true]
    exact Evt.pure _
  refine Evt.bind hd (Evt.bind (specBook_ev l m hk hs) (Evt.ite (fun hr => Evt.ite (fun _ => skip) (fun h1 => ?_)) (fun _ => skip)))
  dsimp only at h1 hr
  by_cases h2 : n > 1000000000
  · rw [show decide (n > 1000000000) = true from decide_eq_true h2]
    exact skip
  · rw [show decide (n > 1000000000) = false from decide_eq_false h2]
    exact moves_j l m q n hk hs (B_iff.1 hr) hm hq (by omega) (by omega)
end Go.Proofs.Ytefmkmhjbfpelaa.Pure

-- Merged by a program of this session (wip/tool/pack.py) out of its own texts for this claim.
import Derived.Test.YtefmkmhjbfpelaaKFnOutbox0
import Derived.Test.YtefmkmhjbfpelaaKFnOutbox1
import Derived.Test.YtefmkmhjbfpelaaKFnOutbox2
import Derived.Test.YtefmkmhjbfpelaaKFnOutbox13
namespace Go.Proofs.Ytefmkmhjbfpelaa.QR
open Go.RowKit Go.Proofs.Ytefmkmhjbfpelaa Go.Proofs.YtefmkmhjbfpelaaW.PrintWords Go.Proofs.Ytefmkmhjbfpelaa.Ev0
abbrev OR := List UX × List S105 × List UX × Int
noncomputable def insO (l : List UX) (x : UX) : List UX := l.take (insAt olt l x) ++ [x] ++ l.drop (insAt olt l x)
theorem insO_len (l : List UX) (x : UX) : (insO l x).length = l.length + 1 := by
  have := idxP_le (olt x) l
  have e : insAt olt l x = idxP (olt x) l := rfl
  unfold insO
  simp
  omega
theorem insO_mem (l : List UX) (x y : UX) : y ∈ insO l x ↔ y = x ∨ y ∈ l := by
  unfold insO
  rw [List.append_assoc, List.mem_append, List.mem_append, List.mem_singleton]
  constructor
  · rintro (h | h | h)
    · exact .inr (List.mem_of_mem_take h)
    · exact .inl h
    · exact .inr (List.mem_of_mem_drop h)
  · rintro (h | h)
    · exact .inr (.inl h)
    · rw [← List.take_append_drop (insAt olt l x) l, List.mem_append] at h
      exact h.imp id .inr
noncomputable def endO (l : List UX) (x : UX) (i : Int) : OR := @ite _ (∃ j : Nat, i ≤ j ∧ ∃ h : j < l.length, sameO l[j] x) (Classical.propDecidable _) ([], [], [], 11) (if (l.length : Int) ≥ 60 then ([], [], [], 12) else (insO l x, [], [], 0))
noncomputable def putR (l : List UX) (x : UX) : OR := if (l.length : Int) > 400 then ([], [], [], 2) else @ite _ (OutboxP l ∧ outX x) (Classical.propDecidable _) (endO l x 0) ([], [], [], 1)
noncomputable def stO (l : List UX) (x : UX) (i : Int) : List UX × Bool := @ite _ (i.toNat ≤ insAt olt l x) (Classical.propDecidable _) (l.take i.toNat, false) (l.take (insAt olt l x) ++ [x] ++ (l.drop (insAt olt l x)).take (i.toNat - insAt olt l x), true)
theorem specPut_l (l : List UX) (x : UX) (hn : (l.length : Int) ≤ 400) : Evt (fun k => spec_OutboxPut.l0 k l [] false 0 x.f0 x.f1 x.f2 x.f3 x.f4) (endO l x 0) := by
  have hk : insAt olt l x ≤ l.length := idxP_le _ _
  have h := up_loop (l.length : Int) (fun k (s : List UX × Bool) i => spec_OutboxPut.l0 k l s.1 s.2 i x.f0 x.f1 x.f2 x.f3 x.f4) (stO l x) (endO l x) ?_ ?_ 0 (Int.le_refl _) (by omega)
  · have e : stO l x 0 = ([], false) := by unfold stO; simp
    rw [e] at h
    exact h
  · intro i h0 hlt ih
    have hw : wrap64 (i + 1) = i + 1 := w64 (by omega) (by omega)
    obtain ⟨j, rfl⟩ : ∃ j : Nat, i = j := ⟨i.toNat, by omega⟩
    have hj : j < l.length := by omega
    have ej : ((j : Int) + 1).toNat = j + 1 := by omega
    have tk : l.take j ++ [l[j]] = l.take (j + 1) := by rw [List.take_succ_eq_append_getElem hj]
    have hjoin : Evt (fun k => spec_OutboxPut.j2 k l (stO l x j).1 (stO l x j).2 (j : Int) (B (sameO l[j] x)) x.f0 x.f1 x.f2 x.f3 x.f4) (endO l x j) := by
      apply Evt.succ
      simp only [spec_OutboxPut.j2, hw, rdU_nat hj, l12Before_ev, Option.bind_some, spec_l12Wrong.f]
      by_cases hsm : sameO l[j] x
      · refine Evt.pos (B_true hsm) ((Evt.pure _).same ?_)
        unfold endO
        rw [if_pos ⟨j, by omega, hj, hsm⟩]
      · have ee : endO l x (j : Int) = endO l x ((j : Int) + 1) := by
          unfold endO
          have : (∃ m : Nat, (j : Int) ≤ m ∧ ∃ h : m < l.length, sameO l[m] x) ↔ (∃ m : Nat, (j : Int) + 1 ≤ m ∧ ∃ h : m < l.length, sameO l[m] x) := by
            constructor
            · rintro ⟨m, h1, h2, h3⟩
              by_cases e : m = j
              · subst e
                exact absurd h3 hsm
              · exact ⟨m, by omega, h2, h3⟩
            · rintro ⟨m, h1, h2, h3⟩
              exact ⟨m, by omega, h2, h3⟩
          rw [propext this]
        rw [ee]
        refine Evt.neg (fun hh => hsm (B_iff.1 hh)) ?_
        by_cases h1 : j ≤ insAt olt l x
        · have e : stO l x (j : Int) = (l.take j, false) := by unfold stO; rw [Int.toNat_natCast, if_pos h1]
          rw [e]
          refine Evt.neg (by simp) (Evt.pos h0 (Evt.pos hlt ?_))
          by_cases h2 : j = insAt olt l x
          · have hb : olt x l[j] := by
              have := idxP_yes (p := olt x) (l := l) (by have e2 : insAt olt l x = idxP (olt x) l := rfl; omega)
              have e2 : idxP (olt x) l = j := h2.symm
              simp only [e2] at this
              exact this
            have e3 : stO l x ((j : Int) + 1) = (l.take j ++ [x] ++ [l[j]], true) := by
              unfold stO
              rw [ej, if_neg (by omega), ← h2, show j + 1 - j = 1 by omega, List.drop_eq_getElem_cons hj, List.take_succ_cons, List.take_zero]
            rw [e3] at ih
            exact Evt.pos (B_true hb) (Evt.pos (by simp; omega) (Evt.pos (by simp; omega) ih))
          · have hb : ¬ olt x l[j] := idxP_no (p := olt x) (l := l) (by have e2 : insAt olt l x = idxP (olt x) l := rfl; omega)
            have e3 : stO l x ((j : Int) + 1) = (l.take (j + 1), false) := by unfold stO; rw [ej, if_pos (by omega)]
            rw [e3] at ih
            refine Evt.neg (fun hh => hb (B_iff.1 hh)) (Evt.pos (by simp; omega) ?_)
            dsimp only
            rw [show l.take j ++ [(⟨l[j].f0, l[j].f1, l[j].f2, l[j].f3, l[j].f4⟩ : UX)] = l.take (j + 1) from tk]
            exact ih
        · have e : stO l x (j : Int) = (l.take (insAt olt l x) ++ [x] ++ (l.drop (insAt olt l x)).take (j - insAt olt l x), true) := by unfold stO; rw [Int.toNat_natCast, if_neg h1]
          have e3 : stO l x ((j : Int) + 1) = (l.take (insAt olt l x) ++ [x] ++ (l.drop (insAt olt l x)).take (j - insAt olt l x) ++ [l[j]], true) := by
            unfold stO
            rw [ej, if_neg (by omega), show j + 1 - insAt olt l x = (j - insAt olt l x) + 1 by omega, List.take_succ_eq_append_getElem (by rw [List.length_drop]; omega), List.getElem_drop]
            simp only [show insAt olt l x + (j - insAt olt l x) = j by omega, List.append_assoc]
          rw [e]
          rw [e3] at ih
          refine Evt.pos rfl (Evt.pos h0 (Evt.pos hlt (Evt.pos ?_ ih)))
          simp
          omega
    simp only [spec_OutboxPut.l0, rdU_nat hj]
    refine Evt.pos hlt (Evt.pos h0 (Evt.ite (fun g => ?_) (fun g => ?_)))
    · have e : (l[j].f1 == x.f1) = B (sameO l[j] x) := bool_B ⟨fun h => ⟨g, by simpa using h⟩, fun h => by simpa using h.2⟩
      rw [e]
      exact hjoin
    · have e : false = B (sameO l[j] x) := (B_false (fun h => g h.1)).symm
      rw [e]
      exact hjoin
  · simp only [spec_OutboxPut.l0, spec_l12Wrong.f, Option.bind_some]
    refine Evt.neg (by omega) ?_
    have e0 : endO l x (l.length : Int) = if (l.length : Int) ≥ 60 then ([], [], [], 12) else (insO l x, [], [], 0) := by
      unfold endO
      rw [if_neg]
      rintro ⟨j, h1, h2, _⟩
      omega
    rw [e0]
    have fin : Evt (fun (_ : Nat) => if ((insO l x).length : Int) > 60 then (some (([], [], [], 12) : OR)) else some ((insO l x, [], [], 0) : OR)) (if (l.length : Int) ≥ 60 then ([], [], [], 12) else (insO l x, [], [], 0)) := by
      rw [insO_len]
      by_cases hr : (l.length : Int) ≥ 60
      · rw [if_pos hr]
        exact Evt.pos (by omega) (Evt.pure _)
      · rw [if_neg hr]
        exact Evt.neg (by omega) (Evt.pure _)
    by_cases h1 : l.length ≤ insAt olt l x
    · have e : stO l x (l.length : Int) = (l, false) := by unfold stO; rw [Int.toNat_natCast, if_pos h1, List.take_length]
      have e2 : insO l x = l ++ [x] := by unfold insO; rw [List.take_of_length_le h1, List.drop_of_length_le h1, List.append_nil]
      rw [e]
      rw [e2] at fin ⊢
      exact Evt.neg (by simp) (Evt.pos (by dsimp only; omega) fin)
    · have e : stO l x (l.length : Int) = (insO l x, true) := by
        have e5 : (l.drop (insAt olt l x)).take (l.length - insAt olt l x) = l.drop (insAt olt l x) := List.take_of_length_le (by rw [List.length_drop]; omega)
        unfold stO insO
        rw [Int.toNat_natCast, if_neg h1, e5]
      rw [e]
      exact Evt.pos rfl fin
theorem specPut_ev (l : List UX) (x : UX) (hs : ∀ y ∈ l, okO y) (hx : okO x) : Evt (fun k => spec_OutboxPut.f k l x.f0 x.f1 x.f2 x.f3 x.f4) (putR l x) := by
  unfold spec_OutboxPut.f putR
  simp only [spec_l12Wrong.f, Option.bind_some]
  by_cases hn : (l.length : Int) > 400
  · rw [if_pos hn]
    exact Evt.pos hn (Evt.pure _)
  · rw [if_neg hn]
    refine Evt.neg hn (Evt.bind (specOutbox_ev l hs) ?_)
    have bad : ¬ (OutboxP l ∧ outX x) → Evt (fun k => spec_OutboxPut.j0 k l true x.f0 x.f1 x.f2 x.f3 x.f4) (@ite _ (OutboxP l ∧ outX x) (Classical.propDecidable _) (endO l x 0) ([], [], [], 1)) := fun h => by
      rw [if_neg h]
      apply Evt.succ
      simp only [spec_OutboxPut.j0, if_true, spec_l12Wrong.f, Option.bind_some]
      exact Evt.pure _
    by_cases h1 : OutboxP l
    · refine Evt.pos (B_true h1) (Evt.bind (specOut_ev _ _ _ _ _ hx) ?_)
      by_cases h2 : outX x
      · rw [if_pos ⟨h1, h2⟩, show outB x.f0 x.f1 x.f2 x.f3 x.f4 = true from h2]
        apply Evt.succ
        simp only [spec_OutboxPut.j0, Bool.not_true, Bool.false_eq_true, if_false]
        exact specPut_l l x (by omega)
      · rw [show outB x.f0 x.f1 x.f2 x.f3 x.f4 = false by simpa [outX] using h2]
        exact bad (fun h => h2 h.2)
    · exact Evt.neg (fun hh => h1 (B_iff.1 hh)) (bad (fun h => h1 h.1))
theorem implPut_ev (l : List UX) (x : UX) (hs : ∀ y ∈ l, okO y) (hx : okO x) : Evt (fun k => impl_OutboxPut.f k l x.f0 x.f1 x.f2 x.f3 x.f4) (putR l x) := by
  unfold impl_OutboxPut.f putR
  refine Evt.bind (outCode_ev l hs) ?_
  by_cases hn : (l.length : Int) > 400
  · rw [if_pos hn, if_pos hn]
    exact Evt.neg (by decide) (Evt.pure _)
  · rw [if_neg hn, if_neg hn]
    by_cases h1 : OutboxP l
    · rw [if_pos (show outboxB l = true from B_true h1)]
      obtain ⟨g1, g2, g3⟩ := (OutboxP_iff l).1 h1
      obtain ⟨r, hr, e1, e2⟩ := findOut_ev l x (by omega) g3
      refine Evt.pos rfl (Evt.bind hr (Evt.bind (isOut_ev _ _ _ _ _ hx) ?_))
      by_cases h2 : outX x
      · rw [if_pos (show OutboxP l ∧ outX x from ⟨h1, h2⟩)]
        refine Evt.pos h2 ?_
        unfold endO
        have hd : (∃ j : Nat, (0 : Int) ≤ j ∧ ∃ h : j < l.length, sameO l[j] x) ↔ ¬ ∀ y ∈ l, olt x y ∨ olt y x := by
          constructor
          · rintro ⟨j, _, h3, h4⟩ ha
            exact (sameO_iff _ _).1 h4 (ha _ (List.getElem_mem h3))
          · intro hn'
            refine Classical.byContradiction fun hc => hn' fun y hy => Classical.byContradiction fun h5 => ?_
            obtain ⟨i, hi, rfl⟩ := List.mem_iff_getElem.1 hy
            exact hc ⟨i, by omega, hi, (sameO_iff _ _).2 h5⟩
        by_cases h3 : ∀ y ∈ l, olt x y ∨ olt y x
        · have e3 : r.2 = false := by
            rw [← Bool.not_eq_true]
            exact fun hb => (ins_is olt_ord g3).1 (e2.1 hb) h3
          rw [if_neg (fun h => hd.1 h h3)]
          refine Evt.neg (by rw [e3]; decide) ?_
          by_cases h4 : (l.length : Int) = 60
          · rw [if_pos (show (l.length : Int) ≥ 60 by omega)]
            exact Evt.pos h4 (Evt.pure _)
          · rw [if_neg (show ¬ (l.length : Int) ≥ 60 by omega)]
            have e4 : r.1 = ((insAt olt l x : Nat) : Int) := by rw [e1, ins_same olt_ord h3]
            have hk : insAt olt l x ≤ l.length := idxP_le _ _
            simp only [slices_Clone_implOut.f, slices_Insert_implOut.f, e4]
            refine Evt.neg h4 (Evt.bind (Evt.const (if_pos (by omega))) (Evt.bind (Evt.pos (by omega) (Evt.pos (by omega) (Evt.pos rfl (Evt.pos (by omega) (Evt.pure _))))) ?_))
            rw [Int.toNat_natCast]
            exact Evt.pure _
        · have e3 : r.2 = true := e2.2 ((ins_is olt_ord g3).2 h3)
          rw [if_pos (hd.2 h3)]
          exact Evt.pos e3 (Evt.pure _)
      · rw [if_neg (show ¬ (OutboxP l ∧ outX x) from fun h => h2 h.2)]
        exact Evt.neg h2 (Evt.pure _)
    · rw [if_neg (show ¬ outboxB l = true from fun hh => h1 (B_iff.1 hh)), if_neg (fun h => h1 h.1)]
      exact Evt.neg (by decide) (Evt.pure _)
theorem putR_len (l : List UX) (x : UX) : (putR l x).1.length ≤ 400 ∧ (putR l x).2.1.length ≤ 400 ∧ (putR l x).2.2.1.length ≤ 400 := by
  unfold putR endO
  split
  · simp
  · split
    · split
      · simp
      · split
        · simp
        · dsimp only
          rw [insO_len]
          simp
          omega
    · simp
theorem putR_ok (l : List UX) (x : UX) (h : ∀ y ∈ l, okO y) (hx : okO x) : ∀ y ∈ (putR l x).1, okO y := by
  unfold putR endO
  split
  · simp
  · split
    · split
      · simp
      · split
        · simp
        · intro y hy
          exact ((insO_mem l x y).1 hy).elim (fun e => e ▸ hx) (h y)
    · simp
end Go.Proofs.Ytefmkmhjbfpelaa.QR
namespace Go.Proofs.Ytefmkmhjbfpelaa.QR
open Go.RowKit Go.Proofs.Ytefmkmhjbfpelaa Go.Proofs.YtefmkmhjbfpelaaW.PrintWords Go.Proofs.Ytefmkmhjbfpelaa.Ev0
theorem dout_ev (b : List Int) (hb : (b.length : Int) ≤ 1048576) (t m s : Int) (ht : Pl b t) :
    ∃ (x : UX) (t' m' : Int), spec_l01Src_l12Out.f b t m s = some (x.f0, x.f1, x.f2, x.f3, x.f4, t', m', s) ∧ Pl b t' ∧ okO x := by
  obtain ⟨x1, t1, m1, e1, h1, g1⟩ := pick_ev b hb t m s ht [(⟨#[65, 67, 77, 69]⟩ : ByteArray), (⟨#[66, 79, 76, 84]⟩ : ByteArray), (⟨#[67, 45, 49]⟩ : ByteArray)] (by decide) (by decide)
  obtain ⟨x2, t2, m2, e2, h2, _, _⟩ := n_ev b hb t1 m1 s 9 h1 (by decide)
  obtain ⟨x3, t3, m3, e3, h3, g3⟩ := pick_ev b hb t2 m2 s h2 [(⟨#[120]⟩ : ByteArray), (⟨#[83, 89, 78]⟩ : ByteArray), (⟨#[121, 122]⟩ : ByteArray)] (by decide) (by decide)
  obtain ⟨x4, t4, m4, e4, h4, _, _⟩ := n_ev b hb t3 m3 s 6 h3 (by decide)
  obtain ⟨x5, t5, m5, e5, h5, _, _⟩ := n_ev b hb t4 m4 s 20 h4 (by decide)
  obtain ⟨r, t6, m6, e6, h6⟩ := draw_one_ev b hb t5 m5 s 25 h5 (by decide)
  have s1 : (x1.size : Int) ≤ 9223372036854775807 := by
    simp only [List.mem_cons, List.not_mem_nil, or_false] at g1
    rcases g1 with rfl | rfl | rfl <;> decide
  unfold spec_l01Src_l12Out.f
  simp only [e1, e2, e3, e4, e5, e6, Option.bind_some]
  by_cases hr : r = true
  · simp only [if_pos hr]
    obtain ⟨z, t7, m7, e7, h7, _, _⟩ := n_ev b hb t6 m6 s 5 h6 (by decide)
    simp only [e7, Option.bind_some]
    by_cases z0 : z = 0
    · simp only [if_pos z0]
      exact ⟨⟨x1, wrap64 (1 + x2), ⟨#[]⟩, x4, x5⟩, t7, m7, rfl, h7, s1⟩
    · simp only [if_neg z0]
      by_cases z1 : z = 1
      · simp only [if_pos z1]
        exact ⟨⟨x1, wrap64 (1 + x2), x3, 6, x5⟩, t7, m7, rfl, h7, s1⟩
      · simp only [if_neg z1]
        by_cases z2 : z = 2
        · simp only [if_pos z2]
          obtain ⟨y, t8, m8, e8, h8, _, _⟩ := n_ev b hb t7 m7 s 2 h7 (by decide)
          simp only [e8, Option.bind_some]
          exact ⟨⟨x1, wrap64 (1 + x2), x3, x4, wrap64 (100000 + y)⟩, t8, m8, rfl, h8, s1⟩
        · simp only [if_neg z2]
          by_cases z3 : z = 3
          · simp only [if_pos z3]
            exact ⟨⟨x1, 0, x3, x4, x5⟩, t7, m7, rfl, h7, s1⟩
          · simp only [if_neg z3]
            exact ⟨⟨⟨#[97]⟩, wrap64 (1 + x2), x3, x4, x5⟩, t7, m7, rfl, h7, by show (((⟨#[97]⟩ : ByteArray).size : Int)) ≤ 9223372036854775807; decide⟩
  · simp only [if_neg hr]
    exact ⟨⟨x1, wrap64 (1 + x2), x3, x4, x5⟩, t6, m6, rfl, h6, s1⟩
def okQ (q : List UX) : Prop := q.length ≤ 1000 ∧ ∀ x ∈ q, okO x
theorem dbox_l1 (b : List Int) (hb : (b.length : Int) ≤ 1048576) (s : Int) (d : Nat) : ∀ (q : List UX) (i t m : Int), Pl b t → okQ q → 62 - (q.length : Int) ≤ d → ∃ q' t' m', Evt (fun k => spec_l01Src_l12Outbox.l1 k q i b t m s) (q', t', m', s) ∧ Pl b t' ∧ okQ q' := by
  induction d with
  | zero =>
    intro q i t m ht hq hd
    obtain ⟨x, t1, m1, e1, h1, z0, z1⟩ := n_ev b hb t m s 3 ht (by decide)
    refine ⟨q, t1, m1, Evt.succ ?_, h1, hq⟩
    have hw : wrap64 (59 + x) = 59 + x := w64 (by omega) (by omega)
    simp only [spec_l01Src_l12Outbox.l1, e1, Option.bind_some, hw]
    exact Evt.neg (by omega) (Evt.pure _)
  | succ d ih =>
    intro q i t m ht hq hd
    obtain ⟨x, t1, m1, e1, h1, z0, z1⟩ := n_ev b hb t m s 3 ht (by decide)
    have hw : wrap64 (59 + x) = 59 + x := w64 (by omega) (by omega)
    by_cases g : (q.length : Int) < 59 + x
    · obtain ⟨q', t', m', h, hp, hq'⟩ := ih (q ++ [(⟨⟨#[65]⟩, wrap64 (i + 1), ⟨#[120]⟩, 0, i⟩ : UX)]) (wrap64 (i + 1)) t1 m1 h1 ⟨by rw [List.length_append]; simp; omega, fun y hy => by
        rcases List.mem_append.1 hy with hy | hy
        · exact hq.2 y hy
        · rw [List.mem_singleton.1 hy]
          show (((⟨#[65]⟩ : ByteArray).size : Int)) ≤ 9223372036854775807
          decide⟩ (by rw [List.length_append]; simp; omega)
      refine ⟨q', t', m', Evt.succ ?_, hp, hq'⟩
      simp only [spec_l01Src_l12Outbox.l1, e1, Option.bind_some, hw]
      exact Evt.pos g (Evt.pos (by have := hq.1; omega) h)
    · refine ⟨q, t1, m1, Evt.succ ?_, h1, hq⟩
      simp only [spec_l01Src_l12Outbox.l1, e1, Option.bind_some, hw]
      exact Evt.neg g (Evt.pure _)
theorem dbox_j1 (b : List Int) (hb : (b.length : Int) ≤ 1048576) (t m s : Int) (ht : Pl b t) (q : List UX) (hq : okQ q) : ∃ q' t' m', Evt (fun k => spec_l01Src_l12Outbox.j1 k q b t m s) (q', t', m', s) ∧ Pl b t' ∧ okQ q' := by
  obtain ⟨r, t1, m1, e1, h1⟩ := draw_one_ev b hb t m s 50 ht (by decide)
  by_cases hr : r = true
  · obtain ⟨q', t', m', h, hp, hq'⟩ := dbox_l1 b hb s 62 [] 0 t1 m1 h1 ⟨by simp, by simp⟩ (by simp)
    refine ⟨q', t', m', Evt.succ ?_, hp, hq'⟩
    simp only [spec_l01Src_l12Outbox.j1, e1, Option.bind_some]
    exact Evt.pos hr h
  · refine ⟨q, t1, m1, Evt.succ ?_, h1, hq⟩
    simp only [spec_l01Src_l12Outbox.j1, e1, Option.bind_some]
    exact Evt.neg hr (Evt.pure _)
theorem dbox_end (b : List Int) (hb : (b.length : Int) ≤ 1048576) (t m s : Int) (ht : Pl b t) (q : List UX) (hq : q.length ≤ 400) (hqo : ∀ x ∈ q, okO x) (i : Int) (hi : ¬ i > 0) : ∃ q' t' m', Evt (fun k => spec_l01Src_l12Outbox.l0 (k + 1) q i b t m s) (q', t', m', s) ∧ Pl b t' ∧ okQ q' := by
  obtain ⟨r, t1, m1, e1, h1⟩ := draw_one_ev b hb t m s 15 ht (by decide)
  by_cases hr : r = true
  · obtain ⟨x, t2, m2, e2, h2, hx⟩ := dout_ev b hb t1 m1 s h1
    obtain ⟨q', t', m', h, hp, hq'⟩ := dbox_j1 b hb t2 m2 s h2 (q ++ [x]) ⟨by simp; omega, fun y hy => (List.mem_append.1 hy).elim (hqo y) (fun hy => by rw [List.mem_singleton.1 hy]; exact hx)⟩
    refine ⟨q', t', m', ?_, hp, hq'⟩
    simp only [spec_l01Src_l12Outbox.l0, e1, e2, Option.bind_some, List.nil_append]
    exact Evt.neg hi (Evt.pos hr (Evt.pos (by simp; omega) (Evt.pos (by omega) h)))
  · obtain ⟨q', t', m', h, hp, hq'⟩ := dbox_j1 b hb t1 m1 s h1 q ⟨by omega, hqo⟩
    refine ⟨q', t', m', ?_, hp, hq'⟩
    simp only [spec_l01Src_l12Outbox.l0, e1, Option.bind_some]
    exact Evt.neg hi (Evt.neg hr h)
theorem dbox_l0 (b : List Int) (hb : (b.length : Int) ≤ 1048576) (s : Int) (d : Nat) : ∀ (q : List UX) (i t m : Int), Pl b t → q.length ≤ 400 → (∀ x ∈ q, okO x) → i ≤ d → i ≤ 1000 → ∃ q' t' m', Evt (fun k => spec_l01Src_l12Outbox.l0 k q i b t m s) (q', t', m', s) ∧ Pl b t' ∧ okQ q' := by
  induction d with
  | zero =>
    intro q i t m ht hq hqo hd _
    obtain ⟨q', t', m', h, h2⟩ := dbox_end b hb t m s ht q hq hqo i (by omega)
    exact ⟨q', t', m', h.succ, h2⟩
  | succ d ih =>
    intro q i t m ht hq hqo hd h1000
    by_cases g : i > 0
    · obtain ⟨x, t2, m2, e2, h2, hx⟩ := dout_ev b hb t m s ht
      have hput := specPut_ev q x hqo hx
      have hlen := (putR_len q x).1
      have hok := putR_ok q x hqo hx
      have hw : wrap64 (i - 1) = i - 1 := w64 (by omega) (by omega)
      by_cases hc : (putR q x).2.2.2 = 0
      · obtain ⟨q', t', m', h, h3⟩ := ih (putR q x).1 (i - 1) t2 m2 h2 hlen hok (by omega) (by omega)
        refine ⟨q', t', m', Evt.succ ?_, h3⟩
        simp only [spec_l01Src_l12Outbox.l0, e2, Option.bind_some, hw]
        exact Evt.pos g (Evt.bind hput (Evt.pos hc h))
      · obtain ⟨q', t', m', h, h3⟩ := ih q (i - 1) t2 m2 h2 hq hqo (by omega) (by omega)
        refine ⟨q', t', m', Evt.succ ?_, h3⟩
        simp only [spec_l01Src_l12Outbox.l0, e2, Option.bind_some, hw]
        exact Evt.pos g (Evt.bind hput (Evt.neg hc h))
    · obtain ⟨q', t', m', h, h2⟩ := dbox_end b hb t m s ht q hq hqo i g
      exact ⟨q', t', m', h.succ, h2⟩
theorem dbox_ev (b : List Int) (hb : (b.length : Int) ≤ 1048576) (t m s : Int) (ht : Pl b t) (s0 : 0 ≤ s) (s1 : s ≤ 12) : ∃ q' t' m', Evt (fun k => spec_l01Src_l12Outbox.f k b t m s) (q', t', m', s) ∧ Pl b t' ∧ okQ q' := by
  have hw : wrap64 (4 + s) = 4 + s := w64 (by omega) (by omega)
  obtain ⟨x, t1, m1, e1, h1, z0, z1⟩ := n_ev b hb t m s (4 + s) ht (by omega)
  obtain ⟨q', t', m', h, h2⟩ := dbox_l0 b hb s 20 [] x t1 m1 h1 (by simp) (by simp) (by omega) (by omega)
  refine ⟨q', t', m', ?_, h2⟩
  unfold spec_l01Src_l12Outbox.f
  simp only [hw, e1, Option.bind_some]
  exact h
end Go.Proofs.Ytefmkmhjbfpelaa.QR
namespace Go.Proofs.Ytefmkmhjbfpelaa.QR
open Go.RowKit Go.Proofs.Ytefmkmhjbfpelaa Go.Proofs.YtefmkmhjbfpelaaW.PrintWords Go.Proofs.Ytefmkmhjbfpelaa.Ev0
abbrev HR := List UX × List S105 × List UX × Int
abbrev keyO (p : ByteArray) (n : Int) : UX := ⟨p, n, ⟨#[]⟩, 0, 0⟩
noncomputable def restO (l : List UX) (x : UX) : List UX := l.filter (fun y => B (¬ sameO y x))
noncomputable def heardE (l : List UX) (x : UX) : HR := if (restO l x).length = l.length then ([], [], [], 6) else (restO l x, [], [], 0)
noncomputable def heardR (l : List UX) (p : ByteArray) (n : Int) : HR := @ite _ ((l.length : Int) > 400 ∨ (p.size : Int) > 20000) (Classical.propDecidable _) ([], [], [], 2) (@ite _ (OutboxP l) (Classical.propDecidable _) (heardE l (keyO p n)) ([], [], [], 1))
theorem restO_all {l : List UX} {x : UX} (h : ∀ y ∈ l, olt x y ∨ olt y x) : restO l x = l := by
  unfold restO
  rw [List.filter_eq_self]
  exact fun y hy => B_true (fun hs => (sameO_iff _ _).1 hs (h y hy))
theorem restO_at {l : List UX} {x : UX} (hs : l.Pairwise olt) (a : Nat) (ha : a < l.length) (h : sameO l[a] x) : restO l x = l.take a ++ l.drop (a + 1) := by
  have e : l = l.take a ++ (l[a] :: l.drop (a + 1)) := by rw [← List.drop_eq_getElem_cons ha, List.take_append_drop]
  have ne : ∀ j (hj : j < l.length), j ≠ a → ¬ sameO l[j] x := by
    intro j hj hne h2
    rcases Nat.lt_or_gt_of_ne hne with g | g
    · have h3 := List.pairwise_iff_getElem.1 hs j a hj ha g
      rcases h3 with h3 | ⟨_, h3⟩
      · exact less_neO h3 (h2.1.trans h.1.symm)
      · have := h2.2; have := h.2; omega
    · have h3 := List.pairwise_iff_getElem.1 hs a j ha hj g
      rcases h3 with h3 | ⟨_, h3⟩
      · exact less_neO h3 (h.1.trans h2.1.symm)
      · have := h2.2; have := h.2; omega
  have t1 : restO (l.take a) x = l.take a := by
    unfold restO
    rw [List.filter_eq_self]
    intro y hy
    obtain ⟨i, hi, rfl⟩ := List.mem_take_iff_getElem.1 hy
    exact B_true (ne i (by omega) (by omega))
  have t2 : restO (l.drop (a + 1)) x = l.drop (a + 1) := by
    unfold restO
    rw [List.filter_eq_self]
    intro y hy
    obtain ⟨i, hi, rfl⟩ := List.mem_drop_iff_getElem.1 hy
    exact B_true (ne _ (by omega) (by omega))
  have e2 : restO l x = restO (l.take a ++ (l[a] :: l.drop (a + 1))) x := by rw [← e]
  rw [e2]
  unfold restO at t1 t2 ⊢
  rw [List.filter_append, List.filter_cons_of_neg (by rw [B_iff]; exact fun hh => hh h), t1, t2]
theorem implHeard_ev (l : List UX) (p : ByteArray) (n : Int) (hs : ∀ y ∈ l, okO y) : Evt (fun k => impl_OutboxHeard.f k l p n) (heardR l p n) := by
  unfold impl_OutboxHeard.f heardR
  refine Evt.bind (longText1_ev p) ?_
  by_cases h2 : (p.size : Int) > 20000
  · rw [if_pos (show (l.length : Int) > 400 ∨ (p.size : Int) > 20000 from .inr h2)]
    exact Evt.pos (B_true h2) (Evt.pure _)
  · refine Evt.neg (fun hh => h2 (B_iff.1 hh)) (Evt.bind (outCode_ev l hs) ?_)
    by_cases hn : (l.length : Int) > 400
    · rw [if_pos hn, if_pos (show (l.length : Int) > 400 ∨ (p.size : Int) > 20000 from .inl hn)]
      exact Evt.neg (by decide) (Evt.pure _)
    · rw [if_neg hn, if_neg (show ¬ ((l.length : Int) > 400 ∨ (p.size : Int) > 20000) from fun h => h.elim hn h2)]
      by_cases h1 : OutboxP l
      · rw [if_pos (show outboxB l = true from B_true h1), if_pos h1]
        obtain ⟨g1, g2, g3⟩ := (OutboxP_iff l).1 h1
        obtain ⟨r, hr, e1, e2⟩ := findOut_ev l (keyO p n) (by omega) g3
        refine Evt.pos rfl (Evt.bind hr ?_)
        unfold heardE
        by_cases h3 : ∀ y ∈ l, olt (keyO p n) y ∨ olt y (keyO p n)
        · have e3 : r.2 = false := by
            rw [← Bool.not_eq_true]
            exact fun hb => (ins_is olt_ord g3).1 (e2.1 hb) h3
          rw [if_pos (show (restO l (keyO p n)).length = l.length by rw [restO_all h3])]
          exact Evt.neg (by rw [e3]; decide) (Evt.pure _)
        · have e3 : r.2 = true := e2.2 ((ins_is olt_ord g3).2 h3)
          obtain ⟨ha, hb⟩ := e2.1 e3
          have hc := idxP_yes ha
          generalize idxP (fun y => ¬ olt y (keyO p n)) l = a at e1 ha hb hc
          have hsm : sameO l[a] (keyO p n) := (sameO_iff _ _).2 (fun h => h.elim hb hc)
          have er := restO_at g3 a ha hsm
          have el : (restO l (keyO p n)).length = l.length - 1 := by rw [er]; simp; omega
          have hw : wrap64 ((a : Int) + 1) = ((a + 1 : Nat) : Int) := by rw [w64 (by omega) (by omega)]; rfl
          rw [if_neg (show ¬ (restO l (keyO p n)).length = l.length by omega), er]
          refine Evt.pos e3 ?_
          simp only [slices_Clone_implOut.f, slices_Delete_implOut.f, e1, hw]
          refine Evt.bind (Evt.const (if_pos (by omega))) (Evt.bind (Evt.pos (by omega) (Evt.pos (by omega) (Evt.pos (by omega) (Evt.pure _)))) ?_)
          rw [Int.toNat_natCast, Int.toNat_natCast]
          exact Evt.pure _
      · rw [if_neg (show ¬ outboxB l = true from fun hh => h1 (B_iff.1 hh)), if_neg h1]
        exact Evt.neg (by decide) (Evt.pure _)
end Go.Proofs.Ytefmkmhjbfpelaa.QR
namespace Go.Proofs.Ytefmkmhjbfpelaa.Pure
open Go.RowKit Go.Proofs.Ytefmkmhjbfpelaa Go.Proofs.Ytefmkmhjbfpelaa.QR Go.Proofs.YtefmkmhjbfpelaaW.PrintWords Go.Proofs.Ytefmkmhjbfpelaa.Ev0
theorem putR_zero {l : List UX} {x : UX} (h : (putR l x).2.2.2 = 0) : OutboxP l ∧ outX x ∧ (∀ y ∈ l, olt x y ∨ olt y x) ∧ l.length < 60 ∧ putR l x = (insO l x, [], [], 0) := by
  unfold putR at h ⊢
  by_cases h1 : (l.length : Int) > 400
  · rw [if_pos h1] at h
    exact absurd h (by decide)
  · rw [if_neg h1] at h ⊢
    by_cases h2 : OutboxP l ∧ outX x
    · rw [if_pos h2] at h ⊢
      unfold endO at h ⊢
      by_cases h3 : ∃ j : Nat, (0 : Int) ≤ j ∧ ∃ h : j < l.length, sameO l[j] x
      · rw [if_pos h3] at h
        exact absurd h (by decide)
      · rw [if_neg h3] at h ⊢
        by_cases h4 : (l.length : Int) ≥ 60
        · rw [if_pos h4] at h
          exact absurd h (by decide)
        · rw [if_neg h4]
          refine ⟨h2.1, h2.2, fun y hy => Classical.byContradiction fun hn => ?_, by omega, rfl⟩
          obtain ⟨i, hi, rfl⟩ := List.mem_iff_getElem.1 hy
          exact h3 ⟨i, by omega, hi, (sameO_iff _ _).2 hn⟩
    · rw [if_neg h2] at h
      exact absurd h (by decide)
theorem insO_right {l : List UX} {x : UX} (hl : OutboxP l) (hx : outX x) (hd : ∀ y ∈ l, olt x y ∨ olt y x) (hn : l.length < 60) : OutboxP (insO l x) := by
  obtain ⟨g1, g2, g3⟩ := (OutboxP_iff l).1 hl
  refine (OutboxP_iff _).2 ⟨by rw [insO_len]; omega, fun y hy => ((insO_mem l x y).1 hy).elim (fun e => e ▸ hx) (g2 y), ?_⟩
  have e : insO l x = l.take (insAt olt l x) ++ x :: l.drop (insAt olt l x) := by unfold insO; simp
  rw [e]
  exact (ins_right olt_ord g3).2 hd
theorem rest_ins {l : List UX} {x : UX} (hd : ∀ y ∈ l, olt x y ∨ olt y x) : restO (insO l x) (keyO x.f0 x.f1) = l := by
  have key : ∀ m : List UX, (∀ y ∈ m, y ∈ l) → restO m (keyO x.f0 x.f1) = m := fun m hm => restO_all (fun y hy => hd y (hm y hy))
  have e1 : restO [x] (keyO x.f0 x.f1) = [] := by
    unfold restO
    rw [List.filter_cons_of_neg (by rw [B_iff]; exact fun h => h ⟨rfl, rfl⟩), List.filter_nil]
  have e2 : restO (insO l x) (keyO x.f0 x.f1) = restO (l.take (insAt olt l x)) (keyO x.f0 x.f1) ++ restO [x] (keyO x.f0 x.f1) ++ restO (l.drop (insAt olt l x)) (keyO x.f0 x.f1) := by
    unfold insO restO
    rw [List.filter_append, List.filter_append]
  rw [e2, e1, key _ (fun y hy => List.mem_of_mem_take hy), key _ (fun y hy => List.mem_of_mem_drop hy), List.append_nil, List.take_append_drop]
theorem lwOuts_refl (l : List UX) (hl : l.length ≤ 9000000) : Evt (fun k => laws_lwOuts.f k l l) true := by
  unfold laws_lwOuts.f
  refine Evt.pos rfl (all_loop (l.length : Int) (by omega) (fun k i => laws_lwOuts.l0 k l l i) ?_ ?_)
  · intro i h0 hlt ih
    have hw : wrap64 (i + 1) = i + 1 := w64 (by omega) (by omega)
    simp only [laws_lwOuts.l0, hw]
    exact Evt.pos hlt (Evt.pos h0 (Evt.pos hlt (Evt.neg (by simp) ih)))
  · simp only [laws_lwOuts.l0]
    exact Evt.neg (by omega) (Evt.pure _)
theorem drawPut_ev (b : List Int) (hb : (b.length : Int) ≤ 1048576) : ∃ (q : List UX) (x : UX), Evt (fun k => spec_DrawOutboxPut.f k b) (q, x.f0, x.f1, x.f2, x.f3, x.f4) ∧ okQ q ∧ okO x := by
  obtain ⟨m, s, e0, s0, s1⟩ := src_ev b hb
  obtain ⟨q, t1, m1, e1, h1, hq⟩ := dbox_ev b hb 0 m s ⟨Int.le_refl _, by omega⟩ s0 s1
  obtain ⟨x, t2, m2, e2, h2, hx⟩ := dout_ev b hb t1 m1 s h1
  refine ⟨q, x, ?_, hq, hx⟩
  unfold spec_DrawOutboxPut.f
  refine Evt.bind e0 (Evt.bind e1 ?_)
  simp only [e2, Option.bind_some]
  exact Evt.pure _
theorem FnOutbox : laws_FnOutbox.Pure := by
  intro l wl
  apply Evt.ex
  unfold laws_FnOutbox.f
  refine Evt.ite (fun _ => Evt.pure true) (fun hn => ?_)
  obtain ⟨q, x, hd, ⟨hq, hqo⟩, hx⟩ := drawPut_ev l (by omega)
  have h1 := specPut_ev q x hqo hx
  have h2 := implPut_ev q x hqo hx
  simp only [Option.bind_some, List.nil_append]
  refine Evt.bind hd (Evt.bind h1 (Evt.pos (by simp; omega) (Evt.bind h2 (Evt.pos rfl (Evt.ite (fun hz => ?_) (fun _ => Evt.pure true))))))
  obtain ⟨p1, p2, p3, p4, p5⟩ := putR_zero hz
  obtain ⟨n1, _⟩ := B_iff.1 p2
  have hs : ¬ (x.f0.size : Int) > 20000 := by have := n1.2.1; omega
  have hi := insO_right p1 p2 p3 p4
  have hlen := insO_len q x
  have hio : ∀ y ∈ insO q x, okO y := fun y hy => ((insO_mem q x y).1 hy).elim (fun e => e ▸ hx) (hqo y)
  have g1 := implHeard_ev (insO q x) x.f0 x.f1 hio
  have g2 := implHeard_ev q x.f0 x.f1 hqo
  have r1 : heardR (insO q x) x.f0 x.f1 = (q, [], [], 0) := by
    unfold heardR heardE
    rw [if_neg (show ¬ (((insO q x).length : Int) > 400 ∨ (x.f0.size : Int) > 20000) by omega), if_pos hi, rest_ins p3, if_neg (by omega)]
  have r2 : heardR q x.f0 x.f1 = ([], [], [], 6) := by
    have e : restO q (keyO x.f0 x.f1) = q := restO_all p3
    unfold heardR heardE
    rw [if_neg (show ¬ ((q.length : Int) > 400 ∨ (x.f0.size : Int) > 20000) by omega), if_pos p1, if_pos (by rw [e])]
  rw [r1] at g1
  rw [r2] at g2
  have hb := implOutbox_ev (insO q x) hio
  rw [show outboxB (insO q x) = true from B_true hi] at hb
  rw [p5]
  dsimp only
  refine Evt.pos (by simp; omega) (Evt.bind g1 (Evt.pos (by simp; omega) (Evt.bind hb (Evt.pos rfl (Evt.pos ?_ (Evt.pos rfl (Evt.bind (lwOuts_refl q (by omega)) (Evt.pos rfl (Evt.pos (by simp; omega) (Evt.bind g2 (Evt.pure _)))))))))))
  rw [hlen, w64 (by omega) (by omega)]
  omega
end Go.Proofs.Ytefmkmhjbfpelaa.Pure

-- Merged by a program of this session (wip/tool/pack.py) out of its own texts for this claim.
import Derived.Test.YtefmkmhjbfpelaaKFnResend0
import Derived.Test.YtefmkmhjbfpelaaKFnResend1
import Derived.Test.YtefmkmhjbfpelaaKFnResend2
import Derived.Test.YtefmkmhjbfpelaaKFnResend3
import Derived.Test.YtefmkmhjbfpelaaKFnResend17
namespace Go.Proofs.Ytefmkmhjbfpelaa.QO
open Go.RowKit Go.Proofs.Ytefmkmhjbfpelaa Go.Proofs.YtefmkmhjbfpelaaW.PrintWords Go.Proofs.Ytefmkmhjbfpelaa.Ev0
abbrev OX := S24
abbrev SX := S105
theorem mn_cases (a b : Int) : (a ≤ b ∧ mn a b = a) ∨ (b ≤ a ∧ mn a b = b) := by
  unfold mn
  split <;> omega
theorem l01Min_ev (x y : Int) : spec_l01Min.f x y = some (mn y x) := by
  unfold spec_l01Min.f
  rcases mn_cases y x with ⟨h1, h2⟩ | ⟨h1, h2⟩
  · rw [h2]
    by_cases h : x < y
    · omega
    · rw [if_neg h]
  · rw [h2]
    by_cases h : x < y
    · rw [if_pos h]
    · rw [if_neg h]
      congr 1
      omega
noncomputable def tstep (d : Int) (a : List OX × List SX × List OX) (o : OX) : List OX × List SX × List OX :=
  if o.f4 > d then (a.1 ++ [o], a.2.1, a.2.2)
  else if o.f3 = 5 then (a.1, a.2.1, a.2.2 ++ [o])
  else (a.1 ++ [⟨o.f0, o.f1, o.f2, wrap64 (o.f3 + 1), mn (wrap64 (d + wrap64 (3 * wrap64 (o.f3 + 1)))) 100000⟩], a.2.1 ++ [⟨o.f0, o.f1, o.f2⟩], a.2.2)
noncomputable def tall (d : Int) (l : List OX) : List OX × List SX × List OX := l.foldl (tstep d) ([], [], [])
theorem tall_at (d : Int) (l : List OX) (i : Int) (h0 : 0 ≤ i) (h1 : i < (l.length : Int)) : tall d (l.take (i + 1).toNat) = tstep d (tall d (l.take i.toNat)) (rd_T24 l i) := by
  have hi : i.toNat < l.length := by omega
  have e : rd_T24 l i = l[i.toNat] := by
    unfold rd_T24
    exact getD_at l _ _ hi
  rw [e]
  unfold tall
  rw [show (i + 1).toNat = i.toNat + 1 by omega, List.take_succ_eq_append_getElem hi, List.foldl_append]
  rfl
theorem tall_len (d : Int) (l : List OX) : (tall d l).1.length ≤ l.length ∧ (tall d l).2.1.length ≤ l.length ∧ (tall d l).2.2.length ≤ l.length := by
  have key : ∀ (l : List OX) (a : List OX × List SX × List OX) (n : Nat), a.1.length ≤ n → a.2.1.length ≤ n → a.2.2.length ≤ n → (l.foldl (tstep d) a).1.length ≤ n + l.length ∧ (l.foldl (tstep d) a).2.1.length ≤ n + l.length ∧ (l.foldl (tstep d) a).2.2.length ≤ n + l.length := by
    intro l
    induction l with
    | nil => intro a n h1 h2 h3; exact ⟨by simpa using h1, by simpa using h2, by simpa using h3⟩
    | cons o l ih =>
      intro a n h1 h2 h3
      have hs : (tstep d a o).1.length ≤ n + 1 ∧ (tstep d a o).2.1.length ≤ n + 1 ∧ (tstep d a o).2.2.length ≤ n + 1 := by
        unfold tstep
        split
        · exact ⟨by simp; omega, by simp; omega, by simp; omega⟩
        · split
          · exact ⟨by simp; omega, by simp; omega, by simp; omega⟩
          · exact ⟨by simp; omega, by simp; omega, by simp; omega⟩
      have := ih (tstep d a o) (n + 1) hs.1 hs.2.1 hs.2.2
      simp only [List.foldl_cons, List.length_cons]
      omega
  have := key l ([], [], []) 0 (by simp) (by simp) (by simp)
  simpa [tall] using this
theorem tall_ok (d : Int) (l : List OX) (h : ∀ x ∈ l, okO x) : ∀ x ∈ (tall d l).1, okO x := by
  have key : ∀ (l : List OX) (a : List OX × List SX × List OX), (∀ x ∈ l, okO x) → (∀ x ∈ a.1, okO x) → ∀ x ∈ (l.foldl (tstep d) a).1, okO x := by
    intro l
    induction l with
    | nil => intro a _ h; exact h
    | cons o l ih =>
      intro a h1 h2
      refine ih (tstep d a o) (fun x hx => h1 x (List.mem_cons_of_mem _ hx)) ?_
      have ho : okO o := h1 o (List.mem_cons_self ..)
      intro x hx
      unfold tstep at hx
      split at hx
      · rcases List.mem_append.1 hx with hx | hx
        · exact h2 x hx
        · rw [List.mem_singleton.1 hx]; exact ho
      · split at hx
        · exact h2 x hx
        · rcases List.mem_append.1 hx with hx | hx
          · exact h2 x hx
          · rw [List.mem_singleton.1 hx]; exact ho
  exact key l ([], [], []) h (by simp)
noncomputable def tickR (l : List OX) (d : Int) : List OX × List SX × List OX × Int :=
  if (l.length : Int) > 400 then ([], [], [], 2) else if outboxB l = true ∧ (0 ≤ d ∧ d ≤ 100000) then ((tall d l).1, (tall d l).2.1, (tall d l).2.2, 0) else ([], [], [], 1)
theorem specTick_l (l : List OX) (d : Int) (hl : (l.length : Int) ≤ 400) : Evt (fun k => spec_OutboxTick.l0 k l d 0 [] [] [] 0) ((tall d l).1, (tall d l).2.1, (tall d l).2.2, 0) := by
  have h := up_loop (l.length : Int) (fun k (s : List OX × List SX × List OX) i => spec_OutboxTick.l0 k l d i s.1 s.2.1 s.2.2 0) (fun i => tall d (l.take i.toNat)) (fun _ => ((tall d l).1, (tall d l).2.1, (tall d l).2.2, (0 : Int))) ?_ ?_ 0 (Int.le_refl _) (by omega)
  · simpa [tall] using h
  · intro i h0 hlt ih
    have hw : wrap64 (i + 1) = i + 1 := w64 (by omega) (by omega)
    have e := tall_at d l i h0 hlt
    have hn := tall_len d (l.take i.toNat)
    have hm : (l.take i.toNat).length ≤ 400 := by simp; omega
    simp only [spec_OutboxTick.l0, hw, l01Min_ev, Option.bind_some]
    rw [e] at ih
    unfold tstep at ih
    refine Evt.pos hlt (Evt.pos h0 (Evt.ite (fun g1 => ?_) (fun g1 => ?_)))
    · rw [if_pos g1] at ih
      exact Evt.pos (by omega) ih
    · rw [if_neg g1] at ih
      refine Evt.ite (fun g2 => ?_) (fun g2 => ?_)
      · rw [if_pos g2] at ih
        exact Evt.pos (by omega) ih
      · rw [if_neg g2] at ih
        exact Evt.pos (by omega) (Evt.pos (by omega) ih)
  · simp only [spec_OutboxTick.l0]
    exact Evt.neg (by omega) ((Evt.pure _).same (by simp))
theorem implTick_l (l : List OX) (d : Int) (hl : (l.length : Int) ≤ 400) : Evt (fun k => impl_OutboxTick.l0 k d l (l.length : Int) 0 [] [] [] 0) ((tall d l).1, (tall d l).2.1, (tall d l).2.2, 0) := by
  have h := up_loop (l.length : Int) (fun k (s : List OX × List SX × List OX) i => impl_OutboxTick.l0 k d l (l.length : Int) i s.1 s.2.1 s.2.2 0) (fun i => tall d (l.take i.toNat)) (fun _ => ((tall d l).1, (tall d l).2.1, (tall d l).2.2, (0 : Int))) ?_ ?_ 0 (Int.le_refl _) (by omega)
  · simpa [tall] using h
  · intro i h0 hlt ih
    have hw : wrap64 (i + 1) = i + 1 := w64 (by omega) (by omega)
    have e := tall_at d l i h0 hlt
    have hn := tall_len d (l.take i.toNat)
    have hm : (l.take i.toNat).length ≤ 400 := by simp; omega
    simp only [impl_OutboxTick.l0]
    rw [e] at ih
    unfold tstep at ih
    refine Evt.pos hlt (Evt.pos h0 (Evt.pos hlt (Evt.ite (fun g1 => ?_) (fun g1 => ?_))))
    · rw [if_neg (show ¬ (rd_T24 l i).f4 > d by omega)] at ih
      apply Evt.succ
      simp only [impl_OutboxTick.j1, hw]
      by_cases g2 : (rd_T24 l i).f3 = 5
      · rw [if_pos g2] at ih
        exact Evt.pos (by simpa using g2) (Evt.pos (by omega) ih)
      · rw [if_neg g2] at ih
        exact Evt.neg (by simpa using g2) (Evt.pos g1 (Evt.pos (by omega) (Evt.pos (by omega) ih)))
    · rw [if_pos (show (rd_T24 l i).f4 > d by omega)] at ih
      apply Evt.succ
      simp only [impl_OutboxTick.j1, hw]
      exact Evt.neg (by simp) (Evt.neg g1 (Evt.pos (by omega) ih))
  · simp only [impl_OutboxTick.l0]
    exact Evt.neg (by omega) ((Evt.pure _).same (by simp))
theorem specTick_ev (l : List OX) (d : Int) (hs : ∀ x ∈ l, okO x) : Evt (fun k => spec_OutboxTick.f k l d) (tickR l d) := by
  unfold spec_OutboxTick.f tickR
  by_cases hn : (l.length : Int) > 400
  · rw [if_pos hn]
    simp only [spec_l12Wrong.f, Option.bind_some]
    exact Evt.pos hn (Evt.pure _)
  · rw [if_neg hn]
    refine Evt.neg hn (Evt.bind (specOutbox_ev l hs) ?_)
    have bad : ¬ (outboxB l = true ∧ (0 ≤ d ∧ d ≤ 100000)) → Evt (fun k => spec_OutboxTick.j0 k l d true) (if outboxB l = true ∧ (0 ≤ d ∧ d ≤ 100000) then ((tall d l).1, (tall d l).2.1, (tall d l).2.2, 0) else ([], [], [], 1)) := fun h => by
      rw [if_neg h]
      apply Evt.succ
      simp only [spec_OutboxTick.j0, if_true, spec_l12Wrong.f, Option.bind_some]
      exact Evt.pure _
    refine Evt.ite (fun h1 => ?_) (fun h1 => bad (fun h => h1 h.1))
    rw [l01Day_ev]
    simp only [Option.bind_some]
    by_cases h2 : 0 ≤ d ∧ d ≤ 100000
    · rw [B_true h2, if_pos ⟨h1, h2⟩]
      apply Evt.succ
      simp only [spec_OutboxTick.j0, Bool.not_true, Bool.false_eq_true, if_false]
      exact specTick_l l d (by omega)
    · rw [B_false h2]
      exact bad (fun h => h2 h.2)
theorem implTick_ev (l : List OX) (d : Int) (hs : ∀ x ∈ l, okO x) : Evt (fun k => impl_OutboxTick.f k l d) (tickR l d) := by
  have hc : Evt (fun k => impl_outboxCode.f k l) (if (l.length : Int) > 400 then 2 else if outboxB l = true then 0 else 1) := by
    unfold impl_outboxCode.f impl_Out_129.f
    simp only [Option.bind_some]
    by_cases hn : (l.length : Int) > 400
    · rw [if_pos hn]
      exact Evt.pos (decide_eq_true hn) (Evt.pure _)
    · rw [if_neg hn]
      refine Evt.neg (by simpa using hn) (Evt.bind (implOutbox_ev l hs) ?_)
      by_cases h1 : outboxB l = true
      · simp only [if_pos h1]; exact Evt.pure _
      · simp only [if_neg h1]; exact Evt.pure _
  unfold impl_OutboxTick.f tickR
  refine Evt.bind hc ?_
  by_cases hn : (l.length : Int) > 400
  · rw [if_pos hn, if_pos hn]
    exact Evt.neg (by decide) (Evt.pure _)
  · rw [if_neg hn, if_neg hn]
    by_cases h1 : outboxB l = true
    · rw [if_pos h1]
      simp only [if_true, isDay_ev, Option.bind_some]
      by_cases h2 : 0 ≤ d ∧ d ≤ 100000
      · rw [B_true h2, if_pos ⟨h1, h2⟩]
        exact Evt.pos rfl (implTick_l l d (by omega))
      · rw [B_false h2, if_neg (fun h => h2 h.2)]
        exact Evt.neg (by decide) (Evt.pure _)
    · rw [if_neg h1, if_neg (fun h => h1 h.1)]
      exact Evt.neg (by decide) (Evt.pure _)
theorem tickR_ok (l : List OX) (d : Int) (h : ∀ x ∈ l, okO x) : ∀ x ∈ (tickR l d).1, okO x := by
  unfold tickR
  split
  · simp
  · split
    · exact tall_ok d l h
    · simp
end Go.Proofs.Ytefmkmhjbfpelaa.QO
namespace Go.Proofs.Ytefmkmhjbfpelaa.QO
open Go.RowKit Go.Proofs.Ytefmkmhjbfpelaa Go.Proofs.YtefmkmhjbfpelaaW.PrintWords Go.Proofs.Ytefmkmhjbfpelaa.Ev0
noncomputable def rstep (a : List Int × List OX) (d : Int) : List Int × List OX := (if ((tickR a.2 d).2.1.length : Int) > 0 then a.1 ++ [d] else a.1, (tickR a.2 d).1)
noncomputable def rall (o : OX) (ds : List Int) : List Int × List OX := ds.foldl rstep ([], [o])
theorem rall_at (o : OX) (l : List Int) (i : Int) (h0 : 0 ≤ i) (h1 : i < (l.length : Int)) : rall o (l.take (i + 1).toNat) = rstep (rall o (l.take i.toNat)) (rd l i) := by
  have hi : i.toNat < l.length := by omega
  have e : rd l i = l[i.toNat] := by
    unfold rd
    exact getD_at l _ _ hi
  rw [e]
  unfold rall
  rw [show (i + 1).toNat = i.toNat + 1 by omega, List.take_succ_eq_append_getElem hi, List.foldl_append]
  rfl
theorem rall_facts (o : OX) (ho : okO o) (l : List Int) : (rall o l).1.length ≤ l.length ∧ ∀ x ∈ (rall o l).2, okO x := by
  have key : ∀ (l : List Int) (a : List Int × List OX) (n : Nat), a.1.length ≤ n → (∀ x ∈ a.2, okO x) → (l.foldl rstep a).1.length ≤ n + l.length ∧ ∀ x ∈ (l.foldl rstep a).2, okO x := by
    intro l
    induction l with
    | nil => intro a n h1 h2; exact ⟨by simpa using h1, h2⟩
    | cons d l ih =>
      intro a n h1 h2
      have := ih (rstep a d) (n + 1) (by unfold rstep; split <;> simp <;> omega) (tickR_ok a.2 d h2)
      simp only [List.foldl_cons, List.length_cons]
      exact ⟨by omega, this.2⟩
  have := key l ([], [o]) 0 (by simp) (by simpa using ho)
  simpa [rall] using this
def dayOk (l : List Int) (i : Int) : Prop := (0 ≤ rd l i ∧ rd l i ≤ 100000) ∧ (0 < i → rd l (i - 1) < rd l i)
theorem specRun_l1 (o : OX) (ho : okO o) (l : List Int) (hl : (l.length : Int) ≤ 400) : Evt (fun k => spec_OutboxRun.l1 k l [] [o] 0) (rall o l).1 := by
  have h := up_loop (l.length : Int) (fun k (s : List Int × List OX) i => spec_OutboxRun.l1 k l s.1 s.2 i) (fun i => rall o (l.take i.toNat)) (fun _ => (rall o l).1) ?_ ?_ 0 (Int.le_refl _) (by omega)
  · simpa [rall] using h
  · intro i h0 hlt ih
    have hw : wrap64 (i + 1) = i + 1 := w64 (by omega) (by omega)
    have e := rall_at o l i h0 hlt
    have hf := rall_facts o ho (l.take i.toNat)
    have hm : (l.take i.toNat).length ≤ 400 := by simp; omega
    simp only [spec_OutboxRun.l1, hw]
    rw [e] at ih
    unfold rstep at ih
    refine Evt.pos hlt (Evt.pos h0 (Evt.bind (specTick_ev _ _ hf.2) (Evt.ite (fun g => ?_) (fun g => ?_))))
    · rw [if_pos g] at ih
      exact Evt.pos (by omega) ih
    · rw [if_neg g] at ih
      exact ih
  · simp only [spec_OutboxRun.l1]
    exact Evt.neg (by omega) ((Evt.pure _).same (by simp))
theorem implRun_l1 (o : OX) (ho : okO o) (l : List Int) (hl : (l.length : Int) ≤ 400) : Evt (fun k => impl_OutboxRun.l1 k [] [o] l (l.length : Int) 0) (rall o l).1 := by
  have h := up_loop (l.length : Int) (fun k (s : List Int × List OX) i => impl_OutboxRun.l1 k s.1 s.2 l (l.length : Int) i) (fun i => rall o (l.take i.toNat)) (fun _ => (rall o l).1) ?_ ?_ 0 (Int.le_refl _) (by omega)
  · simpa [rall] using h
  · intro i h0 hlt ih
    have hw : wrap64 (i + 1) = i + 1 := w64 (by omega) (by omega)
    have e := rall_at o l i h0 hlt
    have hf := rall_facts o ho (l.take i.toNat)
    have hm : (l.take i.toNat).length ≤ 400 := by simp; omega
    simp only [impl_OutboxRun.l1, hw]
    rw [e] at ih
    unfold rstep at ih
    refine Evt.pos hlt (Evt.pos h0 (Evt.pos hlt (Evt.bind (implTick_ev _ _ hf.2) (Evt.ite (fun g => ?_) (fun g => ?_)))))
    · rw [if_pos g] at ih
      exact Evt.pos (by omega) ih
    · rw [if_neg g] at ih
      exact ih
  · simp only [impl_OutboxRun.l1]
    exact Evt.neg (by omega) ((Evt.pure _).same (by simp))
noncomputable def restR (o : OX) (l : List Int) (i : Int) : List Int := if B (∀ j, i ≤ j → j < (l.length : Int) → dayOk l j) = true then (rall o l).1 else []
theorem restR_step (o : OX) (l : List Int) (i : Int) (h : dayOk l i) : restR o l i = restR o l (i + 1) := by
  unfold restR
  have hq : (∀ j, i ≤ j → j < (l.length : Int) → dayOk l j) ↔ (∀ j, i + 1 ≤ j → j < (l.length : Int) → dayOk l j) := by
    refine ⟨fun g j h1 h2 => g j (by omega) h2, fun g j h1 h2 => ?_⟩
    by_cases e : j = i
    · rw [e]; exact h
    · exact g j (by omega) h2
  rw [B_congr hq]
theorem restR_no (o : OX) (l : List Int) (i : Int) (hlt : i < (l.length : Int)) (h : ¬ dayOk l i) : restR o l i = [] := by
  unfold restR
  rw [if_neg]
  exact fun g => h (B_iff.1 g i (Int.le_refl _) hlt)
theorem specRun_l0 (o : OX) (ho : okO o) (l : List Int) (hl : (l.length : Int) ≤ 400) : Evt (fun k => spec_OutboxRun.l0 k l [] 0 o.f0 o.f1 o.f2 o.f3 o.f4) (restR o l 0) := by
  refine up_loop (l.length : Int) (fun k (_ : Unit) i => spec_OutboxRun.l0 k l [] i o.f0 o.f1 o.f2 o.f3 o.f4) (fun _ => ()) (restR o l) ?_ ?_ 0 (Int.le_refl _) (by omega)
  · intro i h0 hlt ih
    have hw : wrap64 (i + 1) = i + 1 := w64 (by omega) (by omega)
    have hw1 : wrap64 (i - 1) = i - 1 := w64 (by omega) (by omega)
    simp only [spec_OutboxRun.l0, hw, hw1, l01Day_ev, Option.bind_some]
    refine Evt.pos hlt (Evt.pos h0 (Evt.ite (fun g1 => Evt.ite (fun g2 => Evt.pos (by omega) (Evt.pos (by omega) (Evt.ite (fun g3 => ?_) (fun g3 => ?_)))) (fun g2 => ?_)) (fun g1 => ?_)))
    · exact (Evt.pure _).same (restR_no o l i hlt (fun h => by have := h.2 g2; omega)).symm
    · exact ih.same (restR_step o l i ⟨B_iff.1 g1, fun _ => by omega⟩).symm
    · exact ih.same (restR_step o l i ⟨B_iff.1 g1, fun h => absurd h g2⟩).symm
    · exact (Evt.pure _).same (restR_no o l i hlt (fun h => g1 (B_true h.1))).symm
  · simp only [spec_OutboxRun.l0]
    refine Evt.neg (by omega) ((specRun_l1 o ho l hl).same ?_)
    unfold restR
    rw [if_pos]
    exact B_true (fun j h1 h2 => by omega)
theorem implRun_l0 (o : OX) (ho : okO o) (l : List Int) (hl : (l.length : Int) ≤ 400) : Evt (fun k => impl_OutboxRun.l0 k l l (l.length : Int) 0 o.f0 o.f1 o.f2 o.f3 o.f4) (restR o l 0) := by
  refine up_loop (l.length : Int) (fun k (_ : Unit) i => impl_OutboxRun.l0 k l l (l.length : Int) i o.f0 o.f1 o.f2 o.f3 o.f4) (fun _ => ()) (restR o l) ?_ ?_ 0 (Int.le_refl _) (by omega)
  · intro i h0 hlt ih
    have hw : wrap64 (i + 1) = i + 1 := w64 (by omega) (by omega)
    have hw1 : wrap64 (i - 1) = i - 1 := w64 (by omega) (by omega)
    simp only [impl_OutboxRun.l0, hw, hw1, isDay_ev, Option.bind_some]
    refine Evt.pos hlt (Evt.pos h0 (Evt.pos hlt (Evt.ite (fun g1 => Evt.ite (fun g2 => Evt.pos (by omega) (Evt.pos (by omega) (Evt.ite (fun g3 => ?_) (fun g3 => ?_)))) (fun g2 => ?_)) (fun g1 => ?_))))
    · exact (Evt.pure _).same (restR_no o l i hlt (fun h => by have := h.2 g2; omega)).symm
    · exact ih.same (restR_step o l i ⟨B_iff.1 g1, fun _ => by omega⟩).symm
    · exact ih.same (restR_step o l i ⟨B_iff.1 g1, fun h => absurd h g2⟩).symm
    · exact (Evt.pure _).same (restR_no o l i hlt (fun h => g1 (B_true h.1))).symm
  · simp only [impl_OutboxRun.l0]
    refine Evt.neg (by omega) ((implRun_l1 o ho l hl).same ?_)
    unfold restR
    rw [if_pos]
    exact B_true (fun j h1 h2 => by omega)
end Go.Proofs.Ytefmkmhjbfpelaa.QO
namespace Go.Proofs.Ytefmkmhjbfpelaa.QO
open Go.RowKit Go.Proofs.Ytefmkmhjbfpelaa Go.Proofs.YtefmkmhjbfpelaaW.PrintWords Go.Proofs.Ytefmkmhjbfpelaa.Ev0
noncomputable def keepO (d : Int) (o : OX) : Option OX := if o.f4 > d then some o else if o.f3 = 5 then none else some ⟨o.f0, o.f1, o.f2, wrap64 (o.f3 + 1), mn (wrap64 (d + wrap64 (3 * wrap64 (o.f3 + 1)))) 100000⟩
noncomputable def goneO (d : Int) (o : OX) : Bool := if o.f4 > d then false else if o.f3 = 5 then true else false
theorem tall_all (d : Int) (l : List OX) : (tall d l).1 = l.filterMap (keepO d) ∧ (tall d l).2.2 = l.filter (goneO d) := by
  have key : ∀ (l : List OX) (a : List OX × List SX × List OX), (l.foldl (tstep d) a).1 = a.1 ++ l.filterMap (keepO d) ∧ (l.foldl (tstep d) a).2.2 = a.2.2 ++ l.filter (goneO d) := by
    intro l
    induction l with
    | nil => intro a; simp
    | cons o l ih =>
      intro a
      rw [List.foldl_cons]
      obtain ⟨h1, h2⟩ := ih (tstep d a o)
      rw [h1, h2]
      by_cases g1 : o.f4 > d
      · have e1 : keepO d o = some o := if_pos g1
        have e2 : goneO d o = false := if_pos g1
        have e3 : tstep d a o = (a.1 ++ [o], a.2.1, a.2.2) := if_pos g1
        rw [e3, List.filterMap_cons_some e1, List.filter_cons_of_neg (by rw [e2]; decide)]
        simp
      · by_cases g2 : o.f3 = 5
        · have e1 : keepO d o = none := by unfold keepO; rw [if_neg g1, if_pos g2]
          have e2 : goneO d o = true := by unfold goneO; rw [if_neg g1, if_pos g2]
          have e3 : tstep d a o = (a.1, a.2.1, a.2.2 ++ [o]) := by unfold tstep; rw [if_neg g1, if_pos g2]
          rw [e3, List.filterMap_cons_none e1, List.filter_cons_of_pos e2]
          simp
        · have e1 : keepO d o = some ⟨o.f0, o.f1, o.f2, wrap64 (o.f3 + 1), mn (wrap64 (d + wrap64 (3 * wrap64 (o.f3 + 1)))) 100000⟩ := by unfold keepO; rw [if_neg g1, if_neg g2]
          have e2 : goneO d o = false := by unfold goneO; rw [if_neg g1, if_neg g2]
          have e3 : (tstep d a o).1 = a.1 ++ [⟨o.f0, o.f1, o.f2, wrap64 (o.f3 + 1), mn (wrap64 (d + wrap64 (3 * wrap64 (o.f3 + 1)))) 100000⟩] ∧ (tstep d a o).2.2 = a.2.2 := by unfold tstep; rw [if_neg g1, if_neg g2]; exact ⟨rfl, rfl⟩
          rw [e3.1, e3.2, List.filterMap_cons_some e1, List.filter_cons_of_neg (by rw [e2]; decide)]
          simp
  have := key l ([], [], [])
  simpa [tall] using this
theorem tall_count (d : Int) (l : List OX) : (tall d l).1.length + (tall d l).2.2.length = l.length := by
  rw [(tall_all d l).1, (tall_all d l).2]
  induction l with
  | nil => rfl
  | cons o l ih =>
    by_cases g1 : o.f4 > d
    · have e1 : keepO d o = some o := if_pos g1
      have e2 : goneO d o = false := if_pos g1
      rw [List.filterMap_cons_some e1, List.filter_cons_of_neg (by rw [e2]; decide)]
      simp only [List.length_cons]
      omega
    · by_cases g2 : o.f3 = 5
      · have e1 : keepO d o = none := by unfold keepO; rw [if_neg g1, if_pos g2]
        have e2 : goneO d o = true := by unfold goneO; rw [if_neg g1, if_pos g2]
        rw [List.filterMap_cons_none e1, List.filter_cons_of_pos e2]
        simp only [List.length_cons]
        omega
      · have e1 : keepO d o = some ⟨o.f0, o.f1, o.f2, wrap64 (o.f3 + 1), mn (wrap64 (d + wrap64 (3 * wrap64 (o.f3 + 1)))) 100000⟩ := by unfold keepO; rw [if_neg g1, if_neg g2]
        have e2 : goneO d o = false := by unfold goneO; rw [if_neg g1, if_neg g2]
        rw [List.filterMap_cons_some e1, List.filter_cons_of_neg (by rw [e2]; decide)]
        simp only [List.length_cons]
        omega
theorem tall_gone (d : Int) (l : List OX) : ∀ x ∈ (tall d l).2.2, x.f3 = 5 ∧ ¬ x.f4 > d := by
  rw [(tall_all d l).2]
  intro x hx
  have h := (List.mem_filter.1 hx).2
  unfold goneO at h
  by_cases g1 : x.f4 > d
  · rw [if_pos g1] at h; cases h
  · rw [if_neg g1] at h
    by_cases g2 : x.f3 = 5
    · exact ⟨g2, g1⟩
    · rw [if_neg g2] at h; cases h
theorem outX_next {o : OX} {d : Int} (h : outX o) (h5 : ¬ o.f3 = 5) (h0 : 0 ≤ d) (h1 : d ≤ 100000) : outX ⟨o.f0, o.f1, o.f2, wrap64 (o.f3 + 1), mn (wrap64 (d + wrap64 (3 * wrap64 (o.f3 + 1)))) 100000⟩ := by
  obtain ⟨g1, g2, g3, g4, g5, g6⟩ := B_iff.1 h
  have w1 : wrap64 (o.f3 + 1) = o.f3 + 1 := w64 (by omega) (by omega)
  have w2 : wrap64 (3 * (o.f3 + 1)) = 3 * (o.f3 + 1) := w64 (by omega) (by omega)
  have w3 : wrap64 (d + 3 * (o.f3 + 1)) = d + 3 * (o.f3 + 1) := w64 (by omega) (by omega)
  rw [w1, w2, w3]
  refine B_true ⟨g1, g2, g3, g4, ⟨by dsimp only; omega, by dsimp only; omega⟩, ?_⟩
  rcases mn_cases (d + 3 * (o.f3 + 1)) 100000 with ⟨h2, h3⟩ | ⟨h2, h3⟩
  · dsimp only
    rw [h3]
    omega
  · dsimp only
    rw [h3]
    omega
theorem keepO_key {d : Int} {x y : OX} (h : keepO d x = some y) : y.f0 = x.f0 ∧ y.f1 = x.f1 := by
  unfold keepO at h
  split at h
  · cases h; exact ⟨rfl, rfl⟩
  · split at h
    · cases h
    · cases h; exact ⟨rfl, rfl⟩
theorem tall_right {d : Int} {l : List OX} (hl : OutboxP l) (h0 : 0 ≤ d) (h1 : d ≤ 100000) : OutboxP (tall d l).1 := by
  obtain ⟨g1, g2, g3⟩ := (OutboxP_iff l).1 hl
  have hlen := (tall_len d l).1
  refine (OutboxP_iff _).2 ⟨by omega, ?_, ?_⟩
  · rw [(tall_all d l).1]
    intro y hy
    obtain ⟨x, hx, hk⟩ := List.mem_filterMap.1 hy
    have hox := g2 x hx
    unfold keepO at hk
    split at hk
    · cases hk; exact hox
    · split at hk
      · cases hk
      · rename_i h5
        cases hk
        exact outX_next hox h5 h0 h1
  · rw [(tall_all d l).1]
    refine List.Pairwise.filterMap (keepO d) ?_ g3
    intro a a' h b hb b' hb'
    have e1 := keepO_key hb
    have e2 := keepO_key hb'
    unfold olt at h ⊢
    rw [e1.1, e1.2, e2.1, e2.2]
    exact h
theorem tickR_zero {l : List OX} {d : Int} (h : (tickR l d).2.2.2 = 0) : OutboxP l ∧ (0 ≤ d ∧ d ≤ 100000) ∧ tickR l d = ((tall d l).1, (tall d l).2.1, (tall d l).2.2, 0) := by
  unfold tickR at h ⊢
  by_cases h1 : (l.length : Int) > 400
  · rw [if_pos h1] at h
    exact absurd h (by decide)
  · rw [if_neg h1] at h ⊢
    by_cases h2 : outboxB l = true ∧ (0 ≤ d ∧ d ≤ 100000)
    · rw [if_pos h2]
      exact ⟨B_iff.1 h2.1, h2.2, rfl⟩
    · rw [if_neg h2] at h
      exact absurd h (by decide)
def DaysGood (due tr : Int) (r : List Int) : Prop := ∀ i : Int, 0 ≤ i → i < (r.length : Int) → due ≤ rd r i ∧ 0 ≤ rd r i ∧ rd r i ≤ 1000 ∧ 0 ≤ tr ∧ tr ≤ 5 ∧ (0 < i → 3 * (tr + i) ≤ rd r i - rd r (i - 1))
theorem rd_app_l {r : List Int} {d i : Int} (h0 : 0 ≤ i) (h : i < (r.length : Int)) : rd (r ++ [d]) i = rd r i := by
  unfold rd
  rw [getD_at _ _ _ (by simp; omega), getD_at _ _ _ (by omega), List.getElem_append_left (by omega)]
theorem rd_app_e {r : List Int} {d : Int} : rd (r ++ [d]) (r.length : Int) = d := by
  unfold rd
  rw [getD_at _ _ _ (by simp)]
  simp
theorem good_snoc {due tr d : Int} {r : List Int} (h : DaysGood due tr r) (h1 : due ≤ d) (h0 : 0 ≤ d) (h2 : d ≤ 1000) (t0 : 0 ≤ tr) (t5 : tr ≤ 5) (h3 : 0 < (r.length : Int) → 3 * (tr + r.length) ≤ d - rd r ((r.length : Int) - 1)) : DaysGood due tr (r ++ [d]) := by
  intro i i0 hi
  have hl : ((r ++ [d]).length : Int) = r.length + 1 := by simp
  by_cases e : i < (r.length : Int)
  · rw [rd_app_l i0 e]
    obtain ⟨g1, g2, g3, g4, g5, g6⟩ := h i i0 e
    refine ⟨g1, g2, g3, g4, g5, fun hp => ?_⟩
    rw [rd_app_l (by omega) (by omega)]
    exact g6 hp
  · have e2 : i = (r.length : Int) := by omega
    subst e2
    rw [rd_app_e]
    refine ⟨h1, h0, h2, t0, t5, fun hp => ?_⟩
    rw [rd_app_l (by omega) (by omega)]
    exact h3 hp
structure RunInv (o : OX) (a : List Int × List OX) : Prop where
  good : DaysGood o.f4 o.f3 a.1
  len : (a.1.length : Int) + o.f3 ≤ 5
  q : a.2 = [] ∨ ∃ y, a.2 = [y] ∧ outX y ∧ y.f3 = o.f3 + a.1.length ∧ ((a.1.length : Int) = 0 → y.f4 = o.f4) ∧ (0 < (a.1.length : Int) → y.f4 = rd a.1 ((a.1.length : Int) - 1) + 3 * (o.f3 + a.1.length))
theorem tickR_nil (d : Int) : (tickR [] d).1 = [] ∧ (tickR [] d).2.1 = [] := by
  unfold tickR
  rw [if_neg (by simp)]
  split
  · exact ⟨rfl, rfl⟩
  · exact ⟨rfl, rfl⟩
theorem outboxP_one {y : OX} (h : outX y) : OutboxP [y] := (OutboxP_iff _).2 ⟨by simp, fun x hx => by rw [List.mem_singleton.1 hx]; exact h, List.pairwise_singleton ..⟩
theorem runInv_step {o : OX} {a : List Int × List OX} (t0 : 0 ≤ o.f3) (t5 : o.f3 ≤ 5) (h : RunInv o a) (d : Int) (h0 : 0 ≤ d) (h1 : d ≤ 1000) : RunInv o (rstep a d) := by
  obtain ⟨hg, hl, hq⟩ := h
  rcases hq with hq | ⟨y, hq, hy, hf3, hz, hp⟩
  · have e : rstep a d = (a.1, []) := by
      unfold rstep
      rw [hq, (tickR_nil d).1, (tickR_nil d).2]
      rfl
    rw [e]
    exact ⟨hg, hl, .inl rfl⟩
  · have et : tickR [y] d = ((tstep d ([], [], []) y).1, (tstep d ([], [], []) y).2.1, (tstep d ([], [], []) y).2.2, 0) := by
      unfold tickR
      rw [if_neg (by simp), if_pos ⟨B_true (outboxP_one hy), h0, by omega⟩]
      rfl
    by_cases g1 : y.f4 > d
    · have e3 : tstep d ([], [], []) y = ([y], [], []) := if_pos g1
      have e : rstep a d = (a.1, [y]) := by
        unfold rstep
        rw [hq, et, e3]
        rfl
      rw [e]
      exact ⟨hg, hl, .inr ⟨y, rfl, hy, hf3, hz, hp⟩⟩
    · by_cases g2 : y.f3 = 5
      · have e3 : tstep d ([], [], []) y = ([], [], [y]) := by unfold tstep; rw [if_neg g1, if_pos g2]; rfl
        have e : rstep a d = (a.1, []) := by
          unfold rstep
          rw [hq, et, e3]
          rfl
        rw [e]
        exact ⟨hg, hl, .inl rfl⟩
      · have e3 : tstep d ([], [], []) y = ([⟨y.f0, y.f1, y.f2, wrap64 (y.f3 + 1), mn (wrap64 (d + wrap64 (3 * wrap64 (y.f3 + 1)))) 100000⟩], [⟨y.f0, y.f1, y.f2⟩], []) := by unfold tstep; rw [if_neg g1, if_neg g2]; rfl
        have e : rstep a d = (a.1 ++ [d], [⟨y.f0, y.f1, y.f2, wrap64 (y.f3 + 1), mn (wrap64 (d + wrap64 (3 * wrap64 (y.f3 + 1)))) 100000⟩]) := by
          unfold rstep
          rw [hq, et, e3]
          rfl
        have hn := outX_next hy g2 h0 (by omega : d ≤ 100000)
        obtain ⟨_, _, _, _, b5, _⟩ := B_iff.1 hy
        have w1 : wrap64 (y.f3 + 1) = y.f3 + 1 := w64 (by omega) (by omega)
        have w2 : wrap64 (3 * (y.f3 + 1)) = 3 * (y.f3 + 1) := w64 (by omega) (by omega)
        have w3 : wrap64 (d + 3 * (y.f3 + 1)) = d + 3 * (y.f3 + 1) := w64 (by omega) (by omega)
        have wm : mn (d + 3 * (y.f3 + 1)) 100000 = d + 3 * (y.f3 + 1) := by
          rcases mn_cases (d + 3 * (y.f3 + 1)) 100000 with ⟨_, h3⟩ | ⟨h2, h3⟩
          · exact h3
          · omega
        rw [e]
        rw [w1, w2, w3, wm] at hn ⊢
        have hlen : (((a.1 ++ [d]).length : Nat) : Int) = a.1.length + 1 := by simp
        have hdue : o.f4 ≤ d := by
          by_cases hz0 : (a.1.length : Int) = 0
          · have := hz hz0; omega
          · have h2 := hp (by omega)
            have h3 := (hg ((a.1.length : Int) - 1) (by omega) (by omega)).1
            omega
        refine ⟨good_snoc hg hdue h0 h1 t0 t5 (fun hpos => by have := hp hpos; omega), by dsimp only; omega, .inr ⟨_, rfl, hn, by dsimp only; omega, fun hh => ?_, fun _ => ?_⟩⟩
        · dsimp only at hh
          omega
        · dsimp only
          rw [hlen, show (a.1.length : Int) + 1 - 1 = (a.1.length : Int) by omega, rd_app_e]
          omega
theorem rall_good {o : OX} (ho : outX o) (l : List Int) (hl : ∀ d ∈ l, 0 ≤ d ∧ d ≤ 1000) : RunInv o (rall o l) := by
  obtain ⟨_, _, _, _, b5, _⟩ := B_iff.1 ho
  have key : ∀ (l : List Int) (a : List Int × List OX), (∀ d ∈ l, 0 ≤ d ∧ d ≤ 1000) → RunInv o a → RunInv o (l.foldl rstep a) := by
    intro l
    induction l with
    | nil => intro a _ h; exact h
    | cons d l ih =>
      intro a h1 h
      rw [List.foldl_cons]
      exact ih _ (fun x hx => h1 x (List.mem_cons_of_mem _ hx)) (runInv_step b5.1 b5.2 h d (h1 d List.mem_cons_self).1 (h1 d List.mem_cons_self).2)
  refine key l ([], [o]) hl ⟨fun i h0 h1 => ?_, by simp; omega, .inr ⟨o, rfl, ho, by simp, fun _ => rfl, fun h => ?_⟩⟩
  · simp at h1
    omega
  · simp at h
theorem run_ev2 (o : OX) (ho : okO o) (l : List Int) (hl : ∀ d ∈ l, 0 ≤ d ∧ d ≤ 1000) : ∃ r : List Int, (r.length ≤ 5 ∧ DaysGood o.f4 o.f3 r) ∧ Evt (fun k => spec_OutboxRun.f k o.f0 o.f1 o.f2 o.f3 o.f4 l) r ∧ Evt (fun k => impl_OutboxRun.f k o.f0 o.f1 o.f2 o.f3 o.f4 l) r := by
  unfold spec_OutboxRun.f impl_OutboxRun.f impl_longList_int64.f
  simp only [Option.bind_some]
  have gn : ([] : List Int).length ≤ 5 ∧ DaysGood o.f4 o.f3 [] := ⟨by simp, fun i h0 h1 => by simp at h1; omega⟩
  have s1 : ∀ b, b = true → Evt (fun k => spec_OutboxRun.j0 k l [] b o.f0 o.f1 o.f2 o.f3 o.f4) [] := fun b hb => by
    subst hb
    apply Evt.succ
    simp only [spec_OutboxRun.j0, if_true]
    exact Evt.pure _
  have i1 : ∀ b, b = true → Evt (fun k => impl_OutboxRun.j0 k l b o.f0 o.f1 o.f2 o.f3 o.f4) [] := fun b hb => by
    subst hb
    apply Evt.succ
    simp only [impl_OutboxRun.j0, if_true]
    exact Evt.pure _
  by_cases hn : (l.length : Int) > 400
  · exact ⟨[], gn, Evt.pos hn (s1 _ rfl), Evt.pos (decide_eq_true hn) (i1 _ rfl)⟩
  · by_cases hb : outB o.f0 o.f1 o.f2 o.f3 o.f4 = true
    · refine ⟨restR o l 0, ?_, Evt.neg hn (Evt.bind (specOut_ev _ _ _ _ _ ho) ?_), Evt.neg (by simpa using hn) (Evt.bind (isOut_ev _ _ _ _ _ ho) ?_)⟩
      · unfold restR
        split
        · have hr := rall_good (o := o) hb l hl
          obtain ⟨_, _, _, _, b5, _⟩ := B_iff.1 hb
          have := hr.len
          exact ⟨by omega, hr.good⟩
        · exact gn
      · rw [hb]
        apply Evt.succ
        simp only [spec_OutboxRun.j0, Bool.not_true, Bool.false_eq_true, if_false]
        exact specRun_l0 o ho l (by omega)
      · rw [hb]
        apply Evt.succ
        simp only [impl_OutboxRun.j0, Bool.not_true, Bool.false_eq_true, if_false]
        exact implRun_l0 o ho l (by omega)
    · exact ⟨[], gn, Evt.neg hn (Evt.bind (specOut_ev _ _ _ _ _ ho) (s1 _ (by simpa using hb))), Evt.neg (by simpa using hn) (Evt.bind (isOut_ev _ _ _ _ _ ho) (i1 _ (by simpa using hb)))⟩
end Go.Proofs.Ytefmkmhjbfpelaa.QO
namespace Go.Proofs.Ytefmkmhjbfpelaa.Pure
open Go.RowKit Go.Proofs.Ytefmkmhjbfpelaa Go.Proofs.Ytefmkmhjbfpelaa.QO Go.Proofs.YtefmkmhjbfpelaaW.PrintWords Go.Proofs.Ytefmkmhjbfpelaa.Ev0
theorem resend_l1 (d : Int) (a : List OX) (b : List SX) (c : List OX) (ha : OutboxP a) (hok : ∀ x ∈ a, okO x) (hc : ∀ x ∈ c, x.f3 = 5 ∧ ¬ x.f4 > d) (hl : c.length ≤ 1000) : Evt (fun k => laws_FnResend.l1 k d 0 a b c 0) true := by
  have h := up_loop (c.length : Int) (fun k (_ : Unit) i => laws_FnResend.l1 k d i a b c 0) (fun _ => ()) (fun _ => true) ?_ ?_ 0 (Int.le_refl _) (by omega)
  · exact h
  · intro i h0 hlt ih
    have hw : wrap64 (i + 1) = i + 1 := w64 (by omega) (by omega)
    obtain ⟨j, rfl⟩ : ∃ j : Nat, i = j := ⟨i.toNat, by omega⟩
    have hj : j < c.length := by omega
    simp only [laws_FnResend.l1, hw, rdU_nat hj]
    have := hc c[j] (List.getElem_mem hj)
    exact Evt.pos hlt (Evt.pos h0 (Evt.pos this.1 (Evt.neg this.2 ih)))
  · simp only [laws_FnResend.l1, Option.bind_some, List.nil_append]
    have := ha.1
    exact Evt.neg (by omega) (Evt.pos (by simp; omega) (Evt.bind (implOutbox_ev a hok) ((Evt.pure _).same (B_true ha))))
theorem resend_l0 (l : List Int) (hb : (l.length : Int) ≤ 1048576) (r : List Int) (o : OX) (hr : r.length ≤ 5) (hg : DaysGood o.f4 o.f3 r) : Evt (fun k => laws_FnResend.l0 k l r 0 o.f0 o.f1 o.f2 o.f3 o.f4) true := by
  have h := up_loop (r.length : Int) (fun k (_ : Unit) i => laws_FnResend.l0 k l r i o.f0 o.f1 o.f2 o.f3 o.f4) (fun _ => ()) (fun _ => true) ?_ ?_ 0 (Int.le_refl _) (by omega)
  · exact h
  · intro i h0 hlt ih
    have hw : wrap64 (i + 1) = i + 1 := w64 (by omega) (by omega)
    have hw1 : wrap64 (i - 1) = i - 1 := w64 (by omega) (by omega)
    obtain ⟨g1, g2, g3, g4, g5, g6⟩ := hg i h0 hlt
    simp only [laws_FnResend.l0, hw, hw1]
    refine Evt.pos hlt (Evt.pos h0 (Evt.neg (by omega) (Evt.ite (fun hp => Evt.pos (by omega) (Evt.pos (by omega) (Evt.neg ?_ ih))) (fun _ => ih))))
    obtain ⟨_, p2, p3, _⟩ := hg (i - 1) (by omega) (by omega)
    have := g6 hp
    rw [w64 (x := rd r i - rd r (i - 1)) (by omega) (by omega), w64 (x := o.f3 + i) (by omega) (by omega), w64 (x := 3 * (o.f3 + i)) (by omega) (by omega)]
    omega
  · simp only [laws_FnResend.l0, Option.bind_some, List.nil_append]
    obtain ⟨q, d, hd, hq⟩ := drawTick_ev l hb
    have h1 := specTick_ev q d hq.2
    have h2 := implTick_ev q d hq.2
    refine Evt.neg (by omega) (Evt.bind hd (Evt.bind h1 (Evt.ite (fun hz => ?_) (fun _ => Evt.pure true))))
    obtain ⟨hP, hday, e⟩ := tickR_zero hz
    rw [e] at h2
    have hql := hP.1
    refine Evt.pos (by simp; omega) (Evt.bind h2 (Evt.pos rfl ?_))
    dsimp only
    have hc := tall_count d q
    have e1 : (wrap64 (((tall d q).1.length : Int) + ((tall d q).2.2.length : Int)) != (q.length : Int)) = false := by
      rw [w64 (by omega) (by omega)]
      simp
      omega
    rw [e1]
    apply Evt.succ
    simp only [laws_FnResend.j3, Bool.false_eq_true, if_false]
    exact resend_l1 d _ _ _ (tall_right hP hday.1 hday.2) (tall_ok d q hq.2) (tall_gone d q) (by omega)
theorem FnResend : laws_FnResend.Pure := by
  intro l m wl wm
  apply Evt.ex
  unfold laws_FnResend.f
  have skip : Evt (fun k => laws_FnResend.j0 k l m true) true := by
    apply Evt.succ
    simp only [laws_FnResend.j0, if_true]
    exact Evt.pure _
  refine Evt.ite (fun _ => skip) (fun h1 => ?_)
  by_cases h2 : (m.length : Int) > 1048576
  · rw [decide_eq_true h2]
    exact skip
  · rw [decide_eq_false h2]
    obtain ⟨o, ds, hd, ho, hds⟩ := drawRun_ev l (by omega)
    obtain ⟨r, ⟨hr, hg⟩, g1, g2⟩ := run_ev2 o ho ds hds.2
    apply Evt.succ
    simp only [laws_FnResend.j0, Bool.false_eq_true, if_false, Option.bind_some, List.nil_append]
    have := hds.1
    refine Evt.bind hd (Evt.pos (by simp; omega) (Evt.bind g2 (Evt.bind g1 (Evt.pos rfl ?_))))
    dsimp only
    rw [decide_eq_false (by omega)]
    apply Evt.succ
    simp only [laws_FnResend.j1, Bool.false_eq_true, if_false]
    exact resend_l0 m (by omega) r o hr hg
end Go.Proofs.Ytefmkmhjbfpelaa.Pure

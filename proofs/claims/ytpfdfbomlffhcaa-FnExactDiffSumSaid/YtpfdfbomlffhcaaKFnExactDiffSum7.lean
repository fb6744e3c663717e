-- Merged by a program of this session (wip/tool/pack.py) out of its own texts for this claim.
import Derived.Test.YtpfdfbomlffhcaaKFnExactDiffSum0
import Derived.Test.YtpfdfbomlffhcaaKFnExactDiffSum2
import Derived.Test.YtpfdfbomlffhcaaKFnExactDiffSum6
namespace Go.Proofs.Ytpfdfbomlffhcaa.QA
open Go.RowKit Go.Proofs.Ytpfdfbomlffhcaa Go.Proofs.YtpfdfbomlffhcaaW.PrintWords Go.Proofs.Ytpfdfbomlffhcaa.Ev0
theorem szDiff_ev (a : Int) (b c : ByteArray) (d : Int) (e : ByteArray) (f x : Int) (h0 : 0 ≤ x) (h1 : x ≤ 1048576) (hb : (b.size : Int) ≤ 9223372036854775807) (hc : (c.size : Int) ≤ 9223372036854775807) (he : (e.size : Int) ≤ 9223372036854775807) :
    ∃ r, laws_szDiff.f a b c d e f x = some r ∧ (r < 0 ∨ (0 ≤ r ∧ r ≤ x ∧ True)) := by
  unfold laws_szDiff.f
  refine sz_step h0 h1 (by omega) hb (fun g1 => ?_)
  rw [wsub h0 h1 (by omega) hb]
  refine sz_step g1 (by omega) (by omega) hc (fun g2 => ?_)
  rw [wsub g1 (by omega) (by omega) hc]
  refine sz_step g2 (by omega) (by omega) he (fun g3 => ?_)
  rw [wsub g2 (by omega) (by omega) he]
  exact ⟨_, rfl, .inr ⟨g3, Int.le_refl _, trivial⟩⟩
def okLD (x : S88) : Prop := (x.f1.size : Int) ≤ 9223372036854775807 ∧ (x.f2.size : Int) ≤ 9223372036854775807 ∧ (x.f4.size : Int) ≤ 9223372036854775807
theorem okLD_of {x : S88} (h : wf88 x) : okLD x := by
  obtain ⟨_, h1, h2, _, h4, _⟩ := h
  have g1 : x.f1.size ≤ 2 ^ 63 - 1 := h1
  have g2 : x.f2.size ≤ 2 ^ 63 - 1 := h2
  have g4 : x.f4.size ≤ 2 ^ 63 - 1 := h4
  exact ⟨by omega, by omega, by omega⟩
theorem szDiffS_ev (l : List S88) (hl : l.length ≤ 9223372036854775807) (hx : ∀ x ∈ l, okLD x) (left : Int) (h0 : 0 ≤ left) (h1 : left ≤ 1048576) : SzR (fun k => laws_szDiffS.f k l left) left (l.length ≤ 1048576 ∧ ∀ i : Int, 0 ≤ i → i < (l.length : Int) → True) := by
  refine sz_loop l.length hl (fun _ => True) _ (fun k s i => laws_szDiffS.l0 k l s i) left h0 h1 (fun k => rfl) ?_ ?_
  · intro s i h0 hlt hs0 hs1
    have hw : wrap64 (i + 1) = i + 1 := w64 (by omega) (by omega)
    have hk : okLD (rd_T88 l i) := by
      unfold rd_T88
      rw [getD_at l _ _ (by omega)]
      exact hx _ (List.getElem_mem _)
    obtain ⟨t, ht, h2⟩ := szDiff_ev (rd_T88 l i).f0 (rd_T88 l i).f1 (rd_T88 l i).f2 (rd_T88 l i).f3 (rd_T88 l i).f4 (rd_T88 l i).f5 s hs0 hs1 hk.1 hk.2.1 hk.2.2
    simp only [laws_szDiffS.l0, ht, Option.bind_some, hw]
    rcases h2 with h2 | ⟨h2, h3, _⟩
    · exact .inl ⟨-1, by decide, Evt.pos hlt (Evt.pos h0 (Evt.pos h2 (Evt.pure _)))⟩
    · exact .inr ⟨t, h2, h3, trivial, fun r hr => Evt.pos hlt (Evt.pos h0 (Evt.neg (by omega) hr))⟩
  · intro s i hi
    simp only [laws_szDiffS.l0]
    exact Evt.neg (by omega) (Evt.pure _)
def cvDiff (x : S88) : S89 := ⟨x.f0, x.f1, x.f2, x.f3, x.f4, x.f5⟩
theorem toDiffS_ev (l : List S88) (hl : l.length ≤ 1048576) : Evt (fun k => laws_toDiffS.f k l) (l.map cvDiff) := by
  unfold laws_toDiffS.f
  refine Evt.pos (by omega) (Evt.pos (by omega) ?_)
  rw [Int.toNat_natCast]
  refine fill_loop l z88 z89 cvDiff (fun k acc i => laws_toDiffS.l0 k l acc i) ?_ ?_
  · intro acc i h0 hlt ha r hr
    have hw : wrap64 (i + 1) = i + 1 := w64 (by omega) (by omega)
    simp only [laws_toDiffS.l0, laws_toDiff.f, Option.bind_some, hw]
    exact Evt.pos hlt (Evt.pos h0 (Evt.pos (by omega) hr))
  · intro acc i hi
    simp only [laws_toDiffS.l0]
    exact Evt.neg (by omega) (Evt.pure _)
theorem eqDiffS_refl (l : List S89) (hl : l.length ≤ 9000000) : Evt (fun k => laws_eqDiffS.f k l l) true := by
  unfold laws_eqDiffS.f
  refine Evt.pos rfl (all_loop (l.length : Int) (by omega) (fun k i => laws_eqDiffS.l0 k l l i) ?_ ?_)
  · intro i h0 hlt ih
    have hw : wrap64 (i + 1) = i + 1 := w64 (by omega) (by omega)
    simp only [laws_eqDiffS.l0, laws_eqDiff.f, if_true, Option.bind_some, hw]
    exact Evt.pos hlt (Evt.pos h0 (Evt.pos hlt ih))
  · simp only [laws_eqDiffS.l0]
    exact Evt.neg (by omega) (Evt.pure _)
noncomputable def dsum (l : List S89) (a : Int) (t : ByteArray) : Int := l.foldl (fun acc d => if d.f0 = a then (if d.f4.toList = t.toList then wrap64 (acc + d.f5) else acc) else acc) 0
theorem dsum_at (l : List S89) (a : Int) (t : ByteArray) (i : Int) (h0 : 0 ≤ i) (h1 : i < (l.length : Int)) :
    dsum (l.take (i + 1).toNat) a t = if (rd_T89 l i).f0 = a then (if (rd_T89 l i).f4.toList = t.toList then wrap64 (dsum (l.take i.toNat) a t + (rd_T89 l i).f5) else dsum (l.take i.toNat) a t) else dsum (l.take i.toNat) a t := by
  have hi : i.toNat < l.length := by omega
  have e : rd_T89 l i = l[i.toNat] := by
    unfold rd_T89
    exact getD_at l _ _ hi
  rw [e]
  unfold dsum
  rw [show (i + 1).toNat = i.toNat + 1 by omega, List.take_succ_eq_append_getElem hi, List.foldl_append]
  rfl
theorem specSum_l (l : List S89) (a : Int) (t : ByteArray) (hl : (l.length : Int) ≤ 400) : Evt (fun k => spec_DiffSum.l0 k l a t 0 0) (dsum l a t) := by
  have h := up_loop (l.length : Int) (fun k s i => spec_DiffSum.l0 k l a t s i) (fun i => dsum (l.take i.toNat) a t) (fun _ => dsum l a t) ?_ ?_ 0 (Int.le_refl _) (by omega)
  · simpa [dsum] using h
  · intro i h0 hlt ih
    have hw : wrap64 (i + 1) = i + 1 := w64 (by omega) (by omega)
    simp only [spec_DiffSum.l0, hw]
    have e := dsum_at l a t i h0 hlt
    refine Evt.pos hlt (Evt.pos h0 (Evt.ite (fun g1 => ?_) (fun g1 => ?_)))
    · rw [if_pos g1] at e
      refine Evt.ite (fun g2 => ?_) (fun g2 => ?_)
      · rw [if_pos g2] at e
        rw [← e]; exact ih
      · rw [if_neg g2] at e
        rw [← e]; exact ih
    · rw [if_neg g1] at e
      rw [← e]; exact ih
  · simp only [spec_DiffSum.l0]
    exact Evt.neg (by omega) ((Evt.pure _).same (by simp))
theorem implSum_l (l : List S89) (a : Int) (t : ByteArray) (hl : (l.length : Int) ≤ 400) : Evt (fun k => impl_DiffSum.l0 k a t 0 l (l.length : Int) 0) (dsum l a t) := by
  have h := up_loop (l.length : Int) (fun k s i => impl_DiffSum.l0 k a t s l (l.length : Int) i) (fun i => dsum (l.take i.toNat) a t) (fun _ => dsum l a t) ?_ ?_ 0 (Int.le_refl _) (by omega)
  · simpa [dsum] using h
  · intro i h0 hlt ih
    have hw : wrap64 (i + 1) = i + 1 := w64 (by omega) (by omega)
    simp only [impl_DiffSum.l0, hw]
    have e := dsum_at l a t i h0 hlt
    refine Evt.pos hlt (Evt.pos h0 (Evt.pos hlt (Evt.ite (fun g1 => ?_) (fun g1 => ?_))))
    · rw [if_pos g1] at e
      refine Evt.ite (fun g2 => ?_) (fun g2 => ?_)
      · rw [if_pos g2] at e
        rw [← e]; exact ih
      · rw [if_neg g2] at e
        rw [← e]; exact ih
    · rw [if_neg g1] at e
      rw [← e]; exact ih
  · simp only [impl_DiffSum.l0]
    exact Evt.neg (by omega) ((Evt.pure _).same (by simp))
theorem sum_ev (l : List S89) (a : Int) (t : ByteArray) : ∃ r, Evt (fun k => spec_DiffSum.f k l a t) r ∧ Evt (fun k => impl_DiffSum.f k l a t) r := by
  have s1 : ∀ b, b = true → Evt (fun k => spec_DiffSum.j0 k l a t 0 b) 0 := fun b hb => by
    subst hb
    apply Evt.succ
    simp only [spec_DiffSum.j0, if_true]
    exact Evt.pure _
  have i1 : ∀ b, b = true → Evt (fun k => impl_DiffSum.j0 k l a t b) 0 := fun b hb => by
    subst hb
    apply Evt.succ
    simp only [impl_DiffSum.j0, if_true]
    exact Evt.pure _
  unfold spec_DiffSum.f impl_DiffSum.f impl_Diff.f
  simp only [Option.bind_some]
  by_cases hn : (l.length : Int) > 400
  · exact ⟨0, Evt.pos hn (s1 _ rfl), Evt.pos (decide_eq_true hn) (i1 _ rfl)⟩
  · by_cases ht : (t.size : Int) > 20000
    · exact ⟨0, Evt.neg hn (s1 _ (decide_eq_true ht)), Evt.neg (by simpa using hn) (Evt.bind (longText1_ev t) (i1 _ (B_true ht)))⟩
    · refine ⟨dsum l a t, Evt.neg hn ?_, Evt.neg (by simpa using hn) (Evt.bind (longText1_ev t) ?_)⟩
      · rw [decide_eq_false ht]
        apply Evt.succ
        simp only [spec_DiffSum.j0, Bool.false_eq_true, if_false]
        exact specSum_l l a t (by omega)
      · rw [B_false ht]
        apply Evt.succ
        simp only [impl_DiffSum.j0, Bool.false_eq_true, if_false]
        exact implSum_l l a t (by omega)
end Go.Proofs.Ytpfdfbomlffhcaa.QA
namespace Go.Proofs.Ytpfdfbomlffhcaa.Pure
open Go.RowKit Go.Proofs.Ytpfdfbomlffhcaa Go.Proofs.Ytpfdfbomlffhcaa.QA Go.Proofs.YtpfdfbomlffhcaaW.PrintWords Go.Proofs.Ytpfdfbomlffhcaa.Ev0
theorem FnExactDiffSum : laws_FnExactDiffSum.Pure := by
  intro l a t wl wa wt
  obtain ⟨hl, hw⟩ := wl
  apply Evt.ex
  unfold laws_FnExactDiffSum.f
  refine Evt.ite (fun _ => Evt.pure true) (fun _ => ?_)
  have hx : ∀ x ∈ l, okLD x := fun x h => okLD_of (hw x h)
  obtain ⟨u, hu, hlen⟩ := szDiffS_ev l hl hx 1048576 (by decide) (by decide)
  refine Evt.bind hu (Evt.ite (fun _ => Evt.pure true) (fun hn => ?_))
  obtain ⟨_, _, hlen, _⟩ := hlen.resolve_left hn
  have hto := toDiffS_ev l hlen
  obtain ⟨r, h1, h2⟩ := sum_ev (l.map cvDiff) a t
  exact Evt.bind hto (Evt.bind h1 (Evt.bind hto (Evt.bind h2 (Evt.pos rfl (Evt.bind hto (Evt.bind (eqDiffS_refl _ (by simp; omega)) (Evt.pos rfl (Evt.pure true))))))))
end Go.Proofs.Ytpfdfbomlffhcaa.Pure

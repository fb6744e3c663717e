-- Merged by a program of this session (wip/tool/pack.py) out of its own texts for this claim.
import Derived.Test.YtefmkmhjbfpelaaKFnExactLinesAdd0
import Derived.Test.YtefmkmhjbfpelaaKFnExactLinesAdd1
import Derived.Test.YtefmkmhjbfpelaaKFnExactLinesAdd2
import Derived.Test.YtefmkmhjbfpelaaKFnExactLinesAdd12
import Derived.Test.YtefmkmhjbfpelaaKFnExactLinesAdd13
namespace Go.Proofs.Ytefmkmhjbfpelaa.QL
open Go.RowKit Go.Proofs.YtefmkmhjbfpelaaW.PrintWords Go.Proofs.Ytefmkmhjbfpelaa.Ev0
noncomputable def gL (s : Int) : S54 := ⟨mt s, mt (s + 1), s + 2, mt (s + 3), s + 4, s + 5, s + 6, s + 7⟩
noncomputable def marksL (n : Nat) (c : Int) : List S54 := (List.range n).map fun (j : Nat) => gL (c + 8 * (j : Int))
theorem rdL_set (l : List S54) (i : Int) (x : S54) (h0 : 0 ≤ i) (h : i < (l.length : Int)) : rd_T54 (l.set i.toNat x) i = x := by
  unfold rd_T54
  rw [getD_at _ _ _ (by simp; omega)]
  simp
theorem markL_ev (l : List S54) (c : Int) (h0 : 0 ≤ c) (hc : c + 8 * (l.length : Int) ≤ 1000000000000000000) : Evt (fun k => laws_markOrderLineS.f k l c) (c + 8 * l.length, marksL l.length c) := by
  unfold laws_markOrderLineS.f
  refine mark_loop l.length l rfl 8 c gL (fun k acc s i => laws_markOrderLineS.l0 k acc s i) ?_ ?_
  · intro acc i h1 hlt hl r hr
    have hw : wrap64 (i + 1) = i + 1 := w64 (by omega) (by omega)
    have w1 : wrap64 (c + 8 * i + 1) = c + 8 * i + 1 := by rw [w64 (by omega) (by omega)]
    have w2 : wrap64 (c + 8 * i + 1 + 1) = c + 8 * i + 2 := by rw [w64 (by omega) (by omega)]; omega
    have w3 : wrap64 (c + 8 * i + 2 + 1) = c + 8 * i + 3 := by rw [w64 (by omega) (by omega)]; omega
    have w4 : wrap64 (c + 8 * i + 3 + 1) = c + 8 * i + 4 := by rw [w64 (by omega) (by omega)]; omega
    have w5 : wrap64 (c + 8 * i + 4 + 1) = c + 8 * i + 5 := by rw [w64 (by omega) (by omega)]; omega
    have w6 : wrap64 (c + 8 * i + 5 + 1) = c + 8 * i + 6 := by rw [w64 (by omega) (by omega)]; omega
    have w7 : wrap64 (c + 8 * i + 6 + 1) = c + 8 * i + 7 := by rw [w64 (by omega) (by omega)]; omega
    have w8 : wrap64 (c + 8 * i + 7 + 1) = c + 8 * i + 8 := by rw [w64 (by omega) (by omega)]; omega
    simp only [laws_markOrderLineS.l0, hw, w1, w2, w3, w4, w5, w6, w7, w8, Option.bind_some]
    refine Evt.pos (by omega) (Evt.bind (mt_ev _ (by omega)) (Evt.pos h1 (Evt.bind (mt_ev _ (by omega)) (Evt.bind (mt_ev _ (by omega)) ?_))))
    simp only [rdL_set _ i _ h1 (show i < (acc.length : Int) by omega), List.set_set]
    exact hr
  · intro acc s hl
    simp only [laws_markOrderLineS.l0]
    exact Evt.neg (by omega) (Evt.pure _)
theorem heldL_ev (n : Nat) (c : Int) (h0 : 0 ≤ c) (hc : c + 8 * (n : Int) ≤ 1000000000000000000) : Evt (fun k => laws_heldOrderLineS.f k (marksL n c) c) (c + 8 * n) := by
  unfold laws_heldOrderLineS.f
  have hlen : (marksL n c).length = n := by simp [marksL]
  refine held_loop n 8 c (fun k s i => laws_heldOrderLineS.l0 k (marksL n c) s i) ?_ ?_
  · intro i h1 hlt r hr
    have hw : wrap64 (i + 1) = i + 1 := w64 (by omega) (by omega)
    have w1 : wrap64 (c + 8 * i + 1) = c + 8 * i + 1 := by rw [w64 (by omega) (by omega)]
    have w2 : wrap64 (c + 8 * i + 1 + 1) = c + 8 * i + 2 := by rw [w64 (by omega) (by omega)]; omega
    have w3 : wrap64 (c + 8 * i + 2 + 1) = c + 8 * i + 3 := by rw [w64 (by omega) (by omega)]; omega
    have w4 : wrap64 (c + 8 * i + 3 + 1) = c + 8 * i + 4 := by rw [w64 (by omega) (by omega)]; omega
    have w5 : wrap64 (c + 8 * i + 4 + 1) = c + 8 * i + 5 := by rw [w64 (by omega) (by omega)]; omega
    have w6 : wrap64 (c + 8 * i + 5 + 1) = c + 8 * i + 6 := by rw [w64 (by omega) (by omega)]; omega
    have w7 : wrap64 (c + 8 * i + 6 + 1) = c + 8 * i + 7 := by rw [w64 (by omega) (by omega)]; omega
    have w8 : wrap64 (c + 8 * i + 7 + 1) = c + 8 * i + 8 := by rw [w64 (by omega) (by omega)]; omega
    have e : rd_T54 (marksL n c) i = gL (c + 8 * i) := by
      unfold rd_T54 marksL
      rw [at_map _ _ _ _ h1 hlt, show ((i.toNat : Nat) : Int) = i by omega]
    simp only [laws_heldOrderLineS.l0, hw, w1, w2, w3, w4, w5, w6, w7, w8, e, gL, hlen]
    exact Evt.pos hlt (Evt.pos h1 (Evt.bind (mt_ev _ (by omega)) (Evt.pos (by simp) (Evt.bind (mt_ev _ (by omega)) (Evt.pos (by simp) (Evt.pos (by simp) (Evt.bind (mt_ev _ (by omega)) (Evt.pos (by simp) (Evt.pos (by simp) (Evt.pos (by simp) (Evt.pos (by simp) (Evt.pos (by simp) hr))))))))))))
  · intro s
    simp only [laws_heldOrderLineS.l0, hlen]
    exact Evt.neg (by omega) (Evt.pure _)
theorem eqL_refl (l : List S54) (hl : l.length ≤ 9000000) : Evt (fun k => laws_eqOrderLineS.f k l l) true := by
  unfold laws_eqOrderLineS.f
  refine Evt.pos rfl (all_loop (l.length : Int) (by omega) (fun k i => laws_eqOrderLineS.l0 k l l i) ?_ ?_)
  · intro i h0 hlt ih
    have hw : wrap64 (i + 1) = i + 1 := w64 (by omega) (by omega)
    simp only [laws_eqOrderLineS.l0, laws_eqOrderLine.f, if_true, hw, Option.bind_some]
    exact Evt.pos hlt (Evt.pos h0 (Evt.pos hlt ih))
  · simp only [laws_eqOrderLineS.l0]
    exact Evt.neg (by omega) (Evt.pure _)
end Go.Proofs.Ytefmkmhjbfpelaa.QL
namespace Go.Proofs.Ytefmkmhjbfpelaa.Pure
open Go.RowKit Go.Proofs.Ytefmkmhjbfpelaa Go.Proofs.Ytefmkmhjbfpelaa.QL Go.Proofs.YtefmkmhjbfpelaaW.PrintWords Go.Proofs.Ytefmkmhjbfpelaa.Ev0
theorem implAddX_ev (l : List LX) (x : LX) (hs : ∀ y ∈ l, okS y) (hx : okS x) : ∃ r, r.length ≤ l.length + 1 ∧ Evt (fun k => spec_LinesAdd.f k l x.f0 x.f1 x.f2 x.f3 x.f4 x.f5 x.f6 x.f7) r ∧ Evt (fun k => impl_LinesAdd.f k l x.f0 x.f1 x.f2 x.f3 x.f4 x.f5 x.f6 x.f7) r := by
  by_cases hn : (l.length : Int) > 400
  · refine ⟨[], by simp, ?_, ?_⟩
    · unfold spec_LinesAdd.f
      exact Evt.pos hn (Evt.pure _)
    · unfold impl_LinesAdd.f impl_OrderLine_95.f
      exact Evt.bind (Evt.pure _) (Evt.pos (decide_eq_true hn) (Evt.pure _))
  · refine ⟨addL l x, ?_, specAdd_ev l x (by omega) hs hx, implAdd_ev l x (by omega) hs hx⟩
    unfold addL
    split
    · rw [insL_len]; omega
    · omega
theorem FnExactLinesAdd : laws_FnExactLinesAdd.Pure := by
  intro l p q n i o s g c wl wp wq wn wi wo ws wg wc
  obtain ⟨hl, hw⟩ := wl
  apply Evt.ex
  unfold laws_FnExactLinesAdd.f
  have hx : ∀ x ∈ l, okL x := fun x h => okL_of (hw x h)
  have hp : (p.size : Int) ≤ 9223372036854775807 := by have : p.size ≤ 2 ^ 63 - 1 := wp; omega
  have hq : (q.size : Int) ≤ 9223372036854775807 := by have : q.size ≤ 2 ^ 63 - 1 := wq; omega
  have hi : (i.size : Int) ≤ 9223372036854775807 := by have : i.size ≤ 2 ^ 63 - 1 := wi; omega
  obtain ⟨t, ht, hlen⟩ := szLineS_ev l hl hx 1048576 (by decide) (by decide)
  refine Evt.bind ht (Evt.ite (fun _ => Evt.pure true) (fun hn => ?_))
  obtain ⟨t0, t1, hlen, _⟩ := hlen.resolve_left hn
  obtain ⟨u, hu, _⟩ := szLine_ev p q n i o s g c t t0 t1 hp hq hi
  simp only [hu, Option.bind_some]
  refine Evt.ite (fun _ => Evt.pure true) (fun _ => ?_)
  have hto := toLineS_ev l hlen
  have hs := okS_map l hx
  have hll : (l.map cvLine).length ≤ 1048576 := by simp; omega
  obtain ⟨r, hrl, h1, h2⟩ := implAddX_ev (l.map cvLine) ⟨p, q, n, i, o, s, g, c⟩ hs ⟨hp, hq, hi⟩
  have hrl' : r.length ≤ 1048577 := by omega
  generalize l.map cvLine = L at hto hll h1 h2
  dsimp only at h1 h2
  simp only [laws_toOrderLine.f, Option.bind_some]
  have hm := markL_ev r 1 (by omega) (by omega)
  have hh := heldL_ev r.length 1 (by omega) (by omega)
  have hr := eqL_refl r (by omega)
  refine Evt.bind hto (Evt.bind h1 (Evt.bind hto (Evt.bind h2 (Evt.bind hr (Evt.pos rfl (Evt.bind hto (Evt.bind (eqL_refl L (by omega)) (Evt.pos rfl (Evt.bind (markL_ev L 1 (by omega) (by omega)) (Evt.neg (by dsimp only; omega) (Evt.bind hr ?_)))))))))))
  apply Evt.succ
  simp only [laws_FnExactLinesAdd.j0, Bool.not_true, Bool.false_eq_true, if_false, laws_toOrderLine.f, Option.bind_some]
  exact Evt.bind hm (Evt.bind hh (Evt.neg (by omega) (Evt.pos rfl (Evt.bind hto (Evt.bind h2 (Evt.bind hr (Evt.pos rfl (Evt.bind hh (Evt.neg (by omega) (Evt.pos rfl (Evt.pure true)))))))))))
end Go.Proofs.Ytefmkmhjbfpelaa.Pure

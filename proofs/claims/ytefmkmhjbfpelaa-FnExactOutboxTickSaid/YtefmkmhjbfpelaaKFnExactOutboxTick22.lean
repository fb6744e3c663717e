-- Merged by a program of this session (wip/tool/pack.py) out of its own texts for this claim.
import Derived.Test.YtefmkmhjbfpelaaKFnExactOutboxTick0
import Derived.Test.YtefmkmhjbfpelaaKFnExactOutboxTick2
import Derived.Test.YtefmkmhjbfpelaaKFnExactOutboxTick21
namespace Go.Proofs.Ytefmkmhjbfpelaa.Pure
open Go.RowKit Go.Proofs.Ytefmkmhjbfpelaa Go.Proofs.Ytefmkmhjbfpelaa.QK Go.Proofs.YtefmkmhjbfpelaaW.PrintWords Go.Proofs.Ytefmkmhjbfpelaa.Ev0
theorem tickR_len (l : List OX) (d : Int) : (tickR l d).1.length ≤ 400 ∧ (tickR l d).2.1.length ≤ 400 ∧ (tickR l d).2.2.1.length ≤ 400 := by
  have h := tall_len d l
  unfold tickR
  split
  · simp
  · split
    · refine ⟨?_, ?_, ?_⟩
      all_goals dsimp only
      all_goals omega
    · simp
theorem eqOO (a : List OX) (b : List SX) (c : List OX) (e : Int) (ha : a.length ≤ 400) (hb : b.length ≤ 400) (hc : c.length ≤ 400) : Evt (fun k => laws_eqOutboxOut.f k a b c e a b c e) true := by
  unfold laws_eqOutboxOut.f
  exact Evt.bind (eqOuts_refl a (by omega)) (Evt.pos rfl (Evt.bind (eqSents_refl b (by omega)) (Evt.pos rfl (Evt.bind (eqOuts_refl c (by omega)) (Evt.pos rfl (Evt.pos rfl (Evt.pure true)))))))
theorem markOO (a : List OX) (b : List SX) (c : List OX) (e : Int) (ha : a.length ≤ 400) (hb : b.length ≤ 400) (hc : c.length ≤ 400) : ∃ (n : Int) (a' : List OX) (b' : List SX) (c' : List OX), 0 ≤ n ∧ Evt (fun k => laws_markOutboxOut.f k a b c e 1) (n, a', b', c') ∧ Evt (fun k => laws_heldOutboxOut.f k a' b' c' e 1) n := by
  refine ⟨1 + 5 * (a.length : Int) + 3 * (b.length : Int) + 5 * (c.length : Int), marksO a.length 1, marksS b.length (1 + 5 * (a.length : Int)), marksO c.length (1 + 5 * (a.length : Int) + 3 * (b.length : Int)), by omega, ?_, ?_⟩
  · unfold laws_markOutboxOut.f
    exact Evt.bind (markO_ev a 1 (by omega) (by omega)) (Evt.bind (markS_ev b _ (by dsimp only; omega) (by dsimp only; omega)) (Evt.bind (markO_ev c _ (by dsimp only; omega) (by dsimp only; omega)) (Evt.pure _)))
  · unfold laws_heldOutboxOut.f
    exact Evt.bind (heldO_ev a.length 1 (by omega) (by omega)) (Evt.neg (by omega) (Evt.bind (heldS_ev b.length _ (by omega) (by omega)) (Evt.neg (by omega) (Evt.bind (heldO_ev c.length _ (by omega) (by omega)) (Evt.neg (by omega) (Evt.pure _))))))
theorem FnExactOutboxTick : laws_FnExactOutboxTick.Pure := by
  intro l d wl wd
  obtain ⟨hl, hw⟩ := wl
  apply Evt.ex
  unfold laws_FnExactOutboxTick.f
  have hx : ∀ x ∈ l, okLO x := fun x h => okLO_of (hw x h)
  obtain ⟨t, ht, hlen⟩ := szOutS_ev l hl hx 1048576 (by decide) (by decide)
  refine Evt.bind ht (Evt.ite (fun _ => Evt.pure true) (fun hn => ?_))
  obtain ⟨_, _, hlen, _⟩ := hlen.resolve_left hn
  have hto := toOutS_ev l hlen
  have hs := okO_map l hx
  have hle : (l.map cvOut).length ≤ 9000000 := by simp; omega
  have hR := tickR_len (l.map cvOut) d
  have h1 := specTick_ev (l.map cvOut) d hs
  have h2 := implTick_ev (l.map cvOut) d hs
  generalize tickR (l.map cvOut) d = R at hR h1 h2
  obtain ⟨a, b, c, e⟩ := R
  obtain ⟨ra, rb, rc⟩ := hR
  have hq := eqOO a b c e ra rb rc
  obtain ⟨n, a', b', c', n0, hm, hh⟩ := markOO a b c e ra rb rc
  refine Evt.bind hto (Evt.bind h1 (Evt.bind hto (Evt.bind h2 (Evt.bind hq (Evt.pos rfl (Evt.bind hto (Evt.bind (eqOuts_refl _ hle) (Evt.pos rfl (Evt.bind (markO_ev (l.map cvOut) 1 (by omega) (by omega)) (Evt.neg (by dsimp only; omega) (Evt.bind hq ?_)))))))))))
  apply Evt.succ
  simp only [laws_FnExactOutboxTick.j0, Bool.not_true, Bool.false_eq_true, if_false]
  refine Evt.bind hm (Evt.bind hh (Evt.neg (by omega) (Evt.pos rfl (Evt.bind hto (Evt.bind h2 (Evt.bind hq (Evt.pos rfl (Evt.bind hh (Evt.neg (by omega) (Evt.pos rfl (Evt.pure true)))))))))))
end Go.Proofs.Ytefmkmhjbfpelaa.Pure

/- For every order line, LineTransit of the program answers what the reference answers. -/
import Derived.Test.YtpfdfbomlffhcaaPdFnExactLineTransit
import Derived.Test.YtpfdfbomlffhcaaLine
namespace Go.Proofs.Ytpfdfbomlffhcaa.Pure
open Go.RowKit Go.Proofs.Ytpfdfbomlffhcaa.QA Go.Proofs.YtpfdfbomlffhcaaW.PrintWords Go.Proofs.Ytpfdfbomlffhcaa.Ev0

theorem FnExactLineTransit : laws_FnExactLineTransit.Pure := by
  intro a b n i o s g c wa wb wn wi wo ws wg wc
  have ha : (a.size : Int) ≤ 9223372036854775807 := by have : a.size ≤ 2 ^ 63 - 1 := wa; omega
  have hb : (b.size : Int) ≤ 9223372036854775807 := by have : b.size ≤ 2 ^ 63 - 1 := wb; omega
  have hi : (i.size : Int) ≤ 9223372036854775807 := by have : i.size ≤ 2 ^ 63 - 1 := wi; omega
  apply Evt.ex
  unfold laws_FnExactLineTransit.f
  have hsz : ∃ t, laws_szOrderLine.f a b n i o s g c 1048576 = some t := by
    unfold laws_szOrderLine.f
    repeat' split
    all_goals exact ⟨_, rfl⟩
  obtain ⟨t, ht⟩ := hsz
  simp only [ht, laws_toOrderLine.f, Option.bind_some]
  refine Evt.ite (fun _ => Evt.pure true) (fun _ => ?_)
  have h1 : Evt (fun k => spec_LineTransit.f k a b n i o s g c) (if lineB a b n i o s g c = true then wrap64 (s - g) else 0) := by
    unfold spec_LineTransit.f
    refine Evt.bind (specLine_ev a b n i o s g c ha hb hi) ?_
    by_cases h : lineB a b n i o s g c = true
    · simp only [if_pos h]; exact Evt.pure _
    · simp only [if_neg h]; exact Evt.pure _
  have h2 : Evt (fun k => impl_LineTransit.f k a b n i o s g c) (if lineB a b n i o s g c = true then wrap64 (s - g) else 0) := by
    unfold impl_LineTransit.f
    refine Evt.bind (implLine_ev a b n i o s g c ha hb hi) ?_
    by_cases h : lineB a b n i o s g c = true
    · simp only [if_pos h, impl_OrderLine_transit.f, Option.bind_some]; exact Evt.pure _
    · simp only [if_neg h]; exact Evt.pure _
  exact Evt.bind h1 (Evt.bind h2 (Evt.pos rfl (Evt.pure true)))

end Go.Proofs.Ytpfdfbomlffhcaa.Pure

/- An order line: when it is right, for the program and for the reference. -/
import Derived.Test.YtpfdfbomlffhcaaName
import Derived.Test.YtpfdfbomlffhcaaQAd0
namespace Go.Proofs.Ytpfdfbomlffhcaa.QA
open Go.RowKit Go.Proofs.YtpfdfbomlffhcaaW.PrintWords Go.Proofs.Ytpfdfbomlffhcaa.Ev0

def LineP (a b : ByteArray) (n : Int) (i : ByteArray) (o s g c : Int) : Prop :=
  NameP a ∧ NameP b ∧ NameP i ∧ (1 ≤ n ∧ n ≤ 999) ∧ (1 ≤ o ∧ o ≤ 1000000) ∧ (0 ≤ s ∧ s ≤ o) ∧ (0 ≤ g ∧ g ≤ s) ∧ (0 ≤ c ∧ c ≤ wrap64 (o - s))
noncomputable def lineB (a b : ByteArray) (n : Int) (i : ByteArray) (o s g c : Int) : Bool := B (LineP a b n i o s g c)

theorem specLine_ev (a b : ByteArray) (n : Int) (i : ByteArray) (o s g c : Int) (ha : (a.size : Int) ≤ 9223372036854775807) (hb : (b.size : Int) ≤ 9223372036854775807) (hi : (i.size : Int) ≤ 9223372036854775807) :
    Evt (fun k => spec_LineRight.f k a b n i o s g c) (lineB a b n i o s g c) := by
  unfold spec_LineRight.f
  have key : Evt (fun k => spec_LineRight.f k a b n i o s g c) (B (NameP a ∧ NameP b ∧ NameP i ∧ 1 ≤ n ∧ n ≤ 999 ∧ (1 ≤ o ∧ o ≤ 1000000) ∧ 0 ≤ s ∧ 0 ≤ g ∧ 0 ≤ c ∧ g ≤ s ∧ s ≤ o ∧ c ≤ wrap64 (o - s))) := by
    unfold spec_LineRight.f
    refine Evt.bind (specName_ev a ha) (and_ B_iff fun _ => Evt.bind (specName_ev b hb) (and_ B_iff fun _ => Evt.bind (specName_ev i hi) (and_ B_iff fun _ => and_ Iff.rfl fun _ => and_ Iff.rfl fun _ => ?_)))
    rw [l01Qty_ev]
    simp only [Option.bind_some]
    exact and_ B_iff fun _ => and_ Iff.rfl fun _ => and_ Iff.rfl fun _ => and_ Iff.rfl fun _ => and_ Iff.rfl fun _ => and_ Iff.rfl fun _ => last_ Iff.rfl
  refine key.same (B_congr ⟨?_, ?_⟩)
  · rintro ⟨h1, h2, h3, h4, h5, h6, h7, h8, h9, h10, h11, h12⟩
    exact ⟨h1, h2, h3, ⟨h4, h5⟩, h6, ⟨h7, h11⟩, ⟨h8, h10⟩, ⟨h9, h12⟩⟩
  · rintro ⟨h1, h2, h3, ⟨h4, h5⟩, h6, ⟨h7, h11⟩, ⟨h8, h10⟩, ⟨h9, h12⟩⟩
    exact ⟨h1, h2, h3, h4, h5, h6, h7, h8, h9, h10, h11, h12⟩

theorem implLine_ev (a b : ByteArray) (n : Int) (i : ByteArray) (o s g c : Int) (ha : (a.size : Int) ≤ 9223372036854775807) (hb : (b.size : Int) ≤ 9223372036854775807) (hi : (i.size : Int) ≤ 9223372036854775807) :
    Evt (fun k => impl_LineRight.f k a b n i o s g c) (lineB a b n i o s g c) := by
  unfold impl_LineRight.f lineB LineP
  simp only [within_ev, isQty_ev, Option.bind_some]
  exact Evt.bind (implName_ev a ha) (and_ B_iff fun _ => Evt.bind (implName_ev b hb) (and_ B_iff fun _ => Evt.bind (implName_ev i hi) (and_ B_iff fun _ => and_ B_iff fun _ => and_ B_iff fun _ => and_ B_iff fun _ => and_ B_iff fun _ => lastB_ Iff.rfl)))

end Go.Proofs.Ytpfdfbomlffhcaa.QA

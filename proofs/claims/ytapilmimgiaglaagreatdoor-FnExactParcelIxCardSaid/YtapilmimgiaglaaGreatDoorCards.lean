/-
  DERIVED. GIVEN WITH THE SEED: THE CARDS: each row of YtapilmimgiaglaaGreatDoorRows.lean that lists a variable, with what it lists TIED to the program's text (the seventh form; the later family's looks); each row that meets fmt, with fmt's text TOLD by the authors' own Lean function (tested against real Go, not proved from fmt's source: count such statements apart). THE CARD IS WHAT COUNTS. Prove the row's statement (the work); the ties are given (YtapilmimgiaglaaGreatDoorTie.lean); close each card by the builder's one call (the guide's Derived/Test/ToyasCard.lean, 'card_holds'). Laid BY PROGRAM, IN A SANDBOX (cutbox-door.mjs). By AI agents, Wed Nov 11 2026. No macro, syntax, notation, axiom, sorry.
-/
import Derived.Test.YtapilmimgiaglaaGreatDoorRows
import GoSem.ClaimSeven
namespace Go.Proofs.YtapilmimgiaglaaGreatDoor
namespace Rows

/-- THE TIED CARD OF 'laws.FnExactParcelRight'. -/
def fnExactParcelRightCard : Claim7 := { stood := { row := fnExactParcelRightRow, standIns := [], harness := (true, "bacf88d50f332193e52ad1ec52f14978ae3bdd28960e214e06a7ad37711fbde6"), looks := true }, kinds := [], alts := [], laidByText := true, laidKinds := [.data, .data, .data, .sentinel, .sentinel], laidTests := true, laidLooks := .later }
def FnExactParcelRightCardSaid : Prop := Claim7.holds Tryz.pinned (.plain (OpenSpec.ofChange fnExactParcelRightSpec)) fnExactParcelRightCard

/-- THE TIED CARD OF 'laws.FnExactParcelIx'. -/
def fnExactParcelIxCard : Claim7 := { stood := { row := fnExactParcelIxRow, standIns := [], harness := (true, "bacf88d50f332193e52ad1ec52f14978ae3bdd28960e214e06a7ad37711fbde6"), looks := true }, kinds := [], alts := [], laidByText := true, laidKinds := [.data, .data, .data, .sentinel, .sentinel], laidTests := true, laidLooks := .later }
def FnExactParcelIxCardSaid : Prop := Claim7.holds Tryz.pinned (.plain (OpenSpec.ofChange fnExactParcelIxSpec)) fnExactParcelIxCard

/-- THE SECOND FORM's CARD OF 'laws.FnExactParcelRight'. -/
def fnExactParcelRightUptoCard : Claim7 := { stood := { row := fnExactParcelRightUptoRow, standIns := [], harness := (true, "bacf88d50f332193e52ad1ec52f14978ae3bdd28960e214e06a7ad37711fbde6"), looks := true }, kinds := [], alts := [], laidByText := true, laidKinds := [.data, .data, .data, .sentinel, .sentinel], laidTests := true, laidLooks := .later }
def FnExactParcelRightUptoCardSaid : Prop := Claim7.holds Tryz.pinned (.plain (OpenSpec.upto fnExactParcelRightSpec)) fnExactParcelRightUptoCard

/-- THE SECOND FORM's CARD OF 'laws.FnExactParcelIx'. -/
def fnExactParcelIxUptoCard : Claim7 := { stood := { row := fnExactParcelIxUptoRow, standIns := [], harness := (true, "bacf88d50f332193e52ad1ec52f14978ae3bdd28960e214e06a7ad37711fbde6"), looks := true }, kinds := [], alts := [], laidByText := true, laidKinds := [.data, .data, .data, .sentinel, .sentinel], laidTests := true, laidLooks := .later }
def FnExactParcelIxUptoCardSaid : Prop := Claim7.holds Tryz.pinned (.plain (OpenSpec.upto fnExactParcelIxSpec)) fnExactParcelIxUptoCard
end Rows
end Go.Proofs.YtapilmimgiaglaaGreatDoor

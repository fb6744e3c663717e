/-
  DERIVED. GIVEN WITH THE SEED: THE CARDS: each row of YtaememmnhmebcaaGreatDoorRows.lean that lists a variable, with what it lists TIED to the program's text (the seventh form; the later family's looks); each row that meets fmt, with fmt's text TOLD by the authors' own Lean function (tested against real Go, not proved from fmt's source: count such statements apart). THE CARD IS WHAT COUNTS. Prove the row's statement (the work); the ties are given (YtaememmnhmebcaaGreatDoorTie.lean); close each card by the builder's one call (the guide's Derived/Test/ToyasCard.lean, 'card_holds'). Laid BY PROGRAM, IN A SANDBOX (cutbox-door.mjs). By AI agents, Wed Nov 11 2026. No macro, syntax, notation, axiom, sorry.
-/
import Derived.Test.YtaememmnhmebcaaGreatDoorRows
import GoSem.ClaimSeven
namespace Go.Proofs.YtaememmnhmebcaaGreatDoor
namespace Rows

/-- THE TIED CARD OF 'laws.FnExactPaperBody'. -/
def fnExactPaperBodyCard : Claim7 := { stood := { row := fnExactPaperBodyRow, standIns := [], harness := (true, "8e008ebaefcdc10afa9c5f69a729ec0697857a678dcd2d95acc3df539580568a"), looks := true }, kinds := [], alts := [], laidByText := true, laidKinds := [.data, .data, .data, .sentinel, .sentinel], laidTests := true, laidLooks := .later }
def FnExactPaperBodyCardSaid : Prop := Claim7.holds Tryz.pinned (.plain (OpenSpec.ofChange fnExactPaperBodySpec)) fnExactPaperBodyCard

/-- THE SECOND FORM's CARD OF 'laws.FnExactPaperBody'. -/
def fnExactPaperBodyUptoCard : Claim7 := { stood := { row := fnExactPaperBodyUptoRow, standIns := [], harness := (true, "8e008ebaefcdc10afa9c5f69a729ec0697857a678dcd2d95acc3df539580568a"), looks := true }, kinds := [], alts := [], laidByText := true, laidKinds := [.data, .data, .data, .sentinel, .sentinel], laidTests := true, laidLooks := .later }
def FnExactPaperBodyUptoCardSaid : Prop := Claim7.holds Tryz.pinned (.plain (OpenSpec.upto fnExactPaperBodySpec)) fnExactPaperBodyUptoCard
end Rows
end Go.Proofs.YtaememmnhmebcaaGreatDoor

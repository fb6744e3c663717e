/-
  DERIVED. GIVEN WITH THE SEED: THE CARDS: each row of YtkfcahggnpecjaaGreatDoorRows.lean that lists a variable, with what it lists TIED to the program's text (the seventh form; the later family's looks); each row that meets fmt, with fmt's text TOLD by the authors' own Lean function (tested against real Go, not proved from fmt's source: count such statements apart). THE CARD IS WHAT COUNTS. Prove the row's statement (the work); the ties are given (YtkfcahggnpecjaaGreatDoorTie.lean); close each card by the builder's one call (the guide's Derived/Test/ToyasCard.lean, 'card_holds'). Laid BY PROGRAM, IN A SANDBOX (cutbox-door.mjs). By AI agents, Wed Nov 11 2026. No macro, syntax, notation, axiom, sorry.
-/
import Derived.Test.YtkfcahggnpecjaaGreatDoorRows
import GoSem.ClaimSeven
namespace Go.Proofs.YtkfcahggnpecjaaGreatDoor
namespace Rows

/-- THE TIED CARD OF 'laws.FnExactGateAnswer'. -/
def fnExactGateAnswerCard : Claim7 := { stood := { row := fnExactGateAnswerRow, standIns := [], harness := (true, "8aafb331d2bd118944d82906daac554023f7147261b8fa94be88c3c4645191f7"), looks := false }, kinds := [], alts := [], laidByText := true, laidKinds := [.data, .data, .data], laidTests := true, laidLooks := .later }
def FnExactGateAnswerCardSaid : Prop := Claim7.holds Tryz.pinned (.plain (OpenSpec.ofChange fnExactGateAnswerSpec)) fnExactGateAnswerCard

/-- THE SECOND FORM's CARD OF 'laws.FnExactGateAnswer'. -/
def fnExactGateAnswerUptoCard : Claim7 := { stood := { row := fnExactGateAnswerUptoRow, standIns := [], harness := (true, "8aafb331d2bd118944d82906daac554023f7147261b8fa94be88c3c4645191f7"), looks := false }, kinds := [], alts := [], laidByText := true, laidKinds := [.data, .data, .data], laidTests := true, laidLooks := .later }
def FnExactGateAnswerUptoCardSaid : Prop := Claim7.holds Tryz.pinned (.plain (OpenSpec.upto fnExactGateAnswerSpec)) fnExactGateAnswerUptoCard
end Rows
end Go.Proofs.YtkfcahggnpecjaaGreatDoor

/-
  DERIVED. GIVEN WITH THE SEED: THE CARDS: each row of YtogkcllenfkdmaaGreatDoorRows.lean that lists a variable, with what it lists TIED to the program's text (the seventh form; the later family's looks); each row that meets fmt, with fmt's text TOLD by the authors' own Lean function (tested against real Go, not proved from fmt's source: count such statements apart). THE CARD IS WHAT COUNTS. Prove the row's statement (the work); the ties are given (YtogkcllenfkdmaaGreatDoorTie.lean); close each card by the builder's one call (the guide's Derived/Test/ToyasCard.lean, 'card_holds'). Laid BY PROGRAM, IN A SANDBOX (cutbox-door.mjs). By AI agents, Wed Nov 11 2026. No macro, syntax, notation, axiom, sorry.
-/
import Derived.Test.YtogkcllenfkdmaaGreatDoorRows
import GoSem.ClaimSeven
namespace Go.Proofs.YtogkcllenfkdmaaGreatDoor
namespace Rows

/-- THE TIED CARD OF 'laws.FnExactPaperRight'. -/
def fnExactPaperRightCard : Claim7 := { stood := { row := fnExactPaperRightRow, standIns := [], harness := (true, "d9a8906d8d992c786418ea3eb29c00788d2bb340849a8836d5dbab53b3165369"), looks := true }, kinds := [], alts := [], laidByText := true, laidKinds := [.data, .data, .data, .sentinel, .sentinel], laidTests := true, laidLooks := .later }
def FnExactPaperRightCardSaid : Prop := Claim7.holds Tryz.pinned (.plain (OpenSpec.ofChange fnExactPaperRightSpec)) fnExactPaperRightCard

/-- THE TIED CARD OF 'laws.FnExactPaperSum'. -/
def fnExactPaperSumCard : Claim7 := { stood := { row := fnExactPaperSumRow, standIns := [], harness := (true, "d9a8906d8d992c786418ea3eb29c00788d2bb340849a8836d5dbab53b3165369"), looks := true }, kinds := [], alts := [], laidByText := true, laidKinds := [.data, .data, .data, .sentinel, .sentinel], laidTests := true, laidLooks := .later }
def FnExactPaperSumCardSaid : Prop := Claim7.holds Tryz.pinned (.plain (OpenSpec.ofChange fnExactPaperSumSpec)) fnExactPaperSumCard

/-- THE TIED CARD OF 'laws.FnExactPaperOf'. -/
def fnExactPaperOfCard : Claim7 := { stood := { row := fnExactPaperOfRow, standIns := [], harness := (true, "d9a8906d8d992c786418ea3eb29c00788d2bb340849a8836d5dbab53b3165369"), looks := true }, kinds := [], alts := [], laidByText := true, laidKinds := [.data, .data, .data, .sentinel, .sentinel], laidTests := true, laidLooks := .later }
def FnExactPaperOfCardSaid : Prop := Claim7.holds Tryz.pinned (.plain (OpenSpec.ofChange fnExactPaperOfSpec)) fnExactPaperOfCard

/-- THE TIED CARD OF 'laws.FnExactPaperBody'. -/
def fnExactPaperBodyCard : Claim7 := { stood := { row := fnExactPaperBodyRow, standIns := [], harness := (true, "d9a8906d8d992c786418ea3eb29c00788d2bb340849a8836d5dbab53b3165369"), looks := true }, kinds := [], alts := [], laidByText := true, laidKinds := [.data, .data, .data, .sentinel, .sentinel], laidTests := true, laidLooks := .later }
def FnExactPaperBodyCardSaid : Prop := Claim7.holds Tryz.pinned (.plain (OpenSpec.ofChange fnExactPaperBodySpec)) fnExactPaperBodyCard

/-- THE TIED CARD OF 'laws.FnPaperBack'. -/
def fnPaperBackCard : Claim7 := { stood := { row := fnPaperBackRow, standIns := [], harness := (true, "d9a8906d8d992c786418ea3eb29c00788d2bb340849a8836d5dbab53b3165369"), looks := true }, kinds := [], alts := [], laidByText := true, laidKinds := [.data, .data, .data, .sentinel, .sentinel], laidTests := true, laidLooks := .later }
def FnPaperBackCardSaid : Prop := Claim7.holds Tryz.pinned (.plain (OpenSpec.ofChange fnPaperBackSpec)) fnPaperBackCard

/-- THE SECOND FORM's CARD OF 'laws.FnExactPaperRight'. -/
def fnExactPaperRightUptoCard : Claim7 := { stood := { row := fnExactPaperRightUptoRow, standIns := [], harness := (true, "d9a8906d8d992c786418ea3eb29c00788d2bb340849a8836d5dbab53b3165369"), looks := true }, kinds := [], alts := [], laidByText := true, laidKinds := [.data, .data, .data, .sentinel, .sentinel], laidTests := true, laidLooks := .later }
def FnExactPaperRightUptoCardSaid : Prop := Claim7.holds Tryz.pinned (.plain (OpenSpec.upto fnExactPaperRightSpec)) fnExactPaperRightUptoCard

/-- THE SECOND FORM's CARD OF 'laws.FnExactPaperSum'. -/
def fnExactPaperSumUptoCard : Claim7 := { stood := { row := fnExactPaperSumUptoRow, standIns := [], harness := (true, "d9a8906d8d992c786418ea3eb29c00788d2bb340849a8836d5dbab53b3165369"), looks := true }, kinds := [], alts := [], laidByText := true, laidKinds := [.data, .data, .data, .sentinel, .sentinel], laidTests := true, laidLooks := .later }
def FnExactPaperSumUptoCardSaid : Prop := Claim7.holds Tryz.pinned (.plain (OpenSpec.upto fnExactPaperSumSpec)) fnExactPaperSumUptoCard

/-- THE SECOND FORM's CARD OF 'laws.FnExactPaperOf'. -/
def fnExactPaperOfUptoCard : Claim7 := { stood := { row := fnExactPaperOfUptoRow, standIns := [], harness := (true, "d9a8906d8d992c786418ea3eb29c00788d2bb340849a8836d5dbab53b3165369"), looks := true }, kinds := [], alts := [], laidByText := true, laidKinds := [.data, .data, .data, .sentinel, .sentinel], laidTests := true, laidLooks := .later }
def FnExactPaperOfUptoCardSaid : Prop := Claim7.holds Tryz.pinned (.plain (OpenSpec.upto fnExactPaperOfSpec)) fnExactPaperOfUptoCard

/-- THE SECOND FORM's CARD OF 'laws.FnExactPaperBody'. -/
def fnExactPaperBodyUptoCard : Claim7 := { stood := { row := fnExactPaperBodyUptoRow, standIns := [], harness := (true, "d9a8906d8d992c786418ea3eb29c00788d2bb340849a8836d5dbab53b3165369"), looks := true }, kinds := [], alts := [], laidByText := true, laidKinds := [.data, .data, .data, .sentinel, .sentinel], laidTests := true, laidLooks := .later }
def FnExactPaperBodyUptoCardSaid : Prop := Claim7.holds Tryz.pinned (.plain (OpenSpec.upto fnExactPaperBodySpec)) fnExactPaperBodyUptoCard

/-- THE SECOND FORM's CARD OF 'laws.FnPaperBack'. -/
def fnPaperBackUptoCard : Claim7 := { stood := { row := fnPaperBackUptoRow, standIns := [], harness := (true, "d9a8906d8d992c786418ea3eb29c00788d2bb340849a8836d5dbab53b3165369"), looks := true }, kinds := [], alts := [], laidByText := true, laidKinds := [.data, .data, .data, .sentinel, .sentinel], laidTests := true, laidLooks := .later }
def FnPaperBackUptoCardSaid : Prop := Claim7.holds Tryz.pinned (.plain (OpenSpec.upto fnPaperBackSpec)) fnPaperBackUptoCard
end Rows
end Go.Proofs.YtogkcllenfkdmaaGreatDoor

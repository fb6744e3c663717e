/-
  DERIVED. GIVEN WITH THE SEED: THE CARDS: each row of YtjbdljhjplidmaaDoorRows.lean that lists a variable, with what it lists TIED to the program's text (the seventh form; the later family's looks); each row that meets fmt, with fmt's text TOLD by the authors' own Lean function (tested against real Go, not proved from fmt's source: count such statements apart). THE CARD IS WHAT COUNTS. Prove the row's statement (the work); the ties are given (YtjbdljhjplidmaaDoorTie.lean); close each card by the builder's one call (the guide's Derived/Test/ToyasCard.lean, 'card_holds'). Laid BY PROGRAM, IN A SANDBOX (cutbox-door.mjs). By AI agents, Wed Nov 11 2026. No macro, syntax, notation, axiom, sorry.
-/
import Derived.Test.YtjbdljhjplidmaaDoorRows
import GoSem.ClaimSeven
namespace Go.Proofs.YtjbdljhjplidmaaDoor
namespace Rows

/-- THE TIED CARD OF 'laws.FnExactDiffText'. -/
def fnExactDiffTextCard : Claim7 := { stood := { row := fnExactDiffTextRow, standIns := [], harness := (true, "1bb6649ead601eb9f3af81f4ac6f8546ee9116573d20588cf08fd42325c7c647"), looks := true }, kinds := [], alts := [], laidByText := true, laidKinds := [.data, .data, .data], laidTests := true, laidLooks := .later }
def FnExactDiffTextCardSaid : Prop := Claim7.holds Tryd.pinned (.plain (OpenSpec.ofChange fnExactDiffTextSpec)) fnExactDiffTextCard

/-- THE TIED CARD OF 'laws.FnExactFormRight'. -/
def fnExactFormRightCard : Claim7 := { stood := { row := fnExactFormRightRow, standIns := [], harness := (true, "1bb6649ead601eb9f3af81f4ac6f8546ee9116573d20588cf08fd42325c7c647"), looks := true }, kinds := [], alts := [], laidByText := true, laidKinds := [.data, .data, .data, .sentinel, .sentinel], laidTests := true, laidLooks := .later }
def FnExactFormRightCardSaid : Prop := Claim7.holds Tryd.pinned (.plain (OpenSpec.ofChange fnExactFormRightSpec)) fnExactFormRightCard

/-- THE TIED CARD OF 'laws.FnExactTableCheck'. -/
def fnExactTableCheckCard : Claim7 := { stood := { row := fnExactTableCheckRow, standIns := [], harness := (true, "1bb6649ead601eb9f3af81f4ac6f8546ee9116573d20588cf08fd42325c7c647"), looks := true }, kinds := [], alts := [], laidByText := true, laidKinds := [.data, .data, .data, .sentinel, .sentinel], laidTests := true, laidLooks := .later }
def FnExactTableCheckCardSaid : Prop := Claim7.holds Tryd.pinned (.plain (OpenSpec.ofChange fnExactTableCheckSpec)) fnExactTableCheckCard

/-- THE TIED CARD OF 'laws.FnTables'. -/
def fnTablesCard : Claim7 := { stood := { row := fnTablesRow, standIns := [], harness := (true, "1bb6649ead601eb9f3af81f4ac6f8546ee9116573d20588cf08fd42325c7c647"), looks := true }, kinds := [], alts := [], laidByText := true, laidKinds := [.data, .data, .data, .sentinel, .sentinel], laidTests := true, laidLooks := .later }
def FnTablesCardSaid : Prop := Claim7.holds Tryd.pinned (.plain (OpenSpec.ofChange fnTablesSpec)) fnTablesCard

/-- THE SECOND FORM's CARD OF 'laws.FnExactDiffText'. -/
def fnExactDiffTextUptoCard : Claim7 := { stood := { row := fnExactDiffTextUptoRow, standIns := [], harness := (true, "1bb6649ead601eb9f3af81f4ac6f8546ee9116573d20588cf08fd42325c7c647"), looks := true }, kinds := [], alts := [], laidByText := true, laidKinds := [.data, .data, .data], laidTests := true, laidLooks := .later }
def FnExactDiffTextUptoCardSaid : Prop := Claim7.holds Tryd.pinned (.plain (OpenSpec.upto fnExactDiffTextSpec)) fnExactDiffTextUptoCard

/-- THE SECOND FORM's CARD OF 'laws.FnExactFormRight'. -/
def fnExactFormRightUptoCard : Claim7 := { stood := { row := fnExactFormRightUptoRow, standIns := [], harness := (true, "1bb6649ead601eb9f3af81f4ac6f8546ee9116573d20588cf08fd42325c7c647"), looks := true }, kinds := [], alts := [], laidByText := true, laidKinds := [.data, .data, .data, .sentinel, .sentinel], laidTests := true, laidLooks := .later }
def FnExactFormRightUptoCardSaid : Prop := Claim7.holds Tryd.pinned (.plain (OpenSpec.upto fnExactFormRightSpec)) fnExactFormRightUptoCard

/-- THE SECOND FORM's CARD OF 'laws.FnExactTableCheck'. -/
def fnExactTableCheckUptoCard : Claim7 := { stood := { row := fnExactTableCheckUptoRow, standIns := [], harness := (true, "1bb6649ead601eb9f3af81f4ac6f8546ee9116573d20588cf08fd42325c7c647"), looks := true }, kinds := [], alts := [], laidByText := true, laidKinds := [.data, .data, .data, .sentinel, .sentinel], laidTests := true, laidLooks := .later }
def FnExactTableCheckUptoCardSaid : Prop := Claim7.holds Tryd.pinned (.plain (OpenSpec.upto fnExactTableCheckSpec)) fnExactTableCheckUptoCard

/-- THE SECOND FORM's CARD OF 'laws.FnTables'. -/
def fnTablesUptoCard : Claim7 := { stood := { row := fnTablesUptoRow, standIns := [], harness := (true, "1bb6649ead601eb9f3af81f4ac6f8546ee9116573d20588cf08fd42325c7c647"), looks := true }, kinds := [], alts := [], laidByText := true, laidKinds := [.data, .data, .data, .sentinel, .sentinel], laidTests := true, laidLooks := .later }
def FnTablesUptoCardSaid : Prop := Claim7.holds Tryd.pinned (.plain (OpenSpec.upto fnTablesSpec)) fnTablesUptoCard
end Rows
end Go.Proofs.YtjbdljhjplidmaaDoor

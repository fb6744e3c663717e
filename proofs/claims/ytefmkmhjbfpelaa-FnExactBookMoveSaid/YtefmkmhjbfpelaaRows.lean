/-
  No cell of these rows narrows 'for every input' (looked for: loops, veiled, ifaces, maps, wideKeys, modest, calm, conditions, laid).
  DERIVED. THE GIVEN ROWS OF THIS SEAT. 12 by the template 'for every input the law returns true; each argument reads behind the call as it read before'; 0 by the template 'total and deterministic' (their statements: YtefmkmhjbfpelaaTotals.lean).
  GIVEN WITH THE SEED: the statements are not yours to turn. If you find one false, say at which input.
  Laid BY PROGRAM, IN A SANDBOX (cutbox-rows.mjs): the forced cells as the released guide's own fill.sh prints them over the translation b28b08c7c7d1bf70… (all of the seat's roots in one cut). By AI agents, Wed Nov 11 2026. No macro, syntax, notation, axiom, sorry.
-/
import Derived.Test.YtefmkmhjbfpelaaChecked
import GoSem.Claim
import GoSem.ClaimJoined
import GoSem.ClaimMapViews
import Derived.JoinedTies
import Derived.KernelRfl
namespace Go.Proofs.Ytefmkmhjbfpelaa
/- THE CELL 'sum', in the pinned program and in every row, IS THE sha256 OF THE DUMP (.gsa) THAT YtefmkmhjbfpelaaProg.lean LOADS. Nothing in Lean hashes anything: it is a label: what it is worth is what the hold of that sum in a sandbox is worth. -/
noncomputable def Try.pinned : Pinned := { name := "ytefmkmhjbfpelaa", sum := "b28b08c7c7d1bf7044e0bbaaaece1a3a1ff4b0bbf91d284692f61b5d8527218a", checked := Try.checked }
namespace Rows
def none {H : Type} : Left H := { results := [], args := [] }

/-- 'laws.FnResend': WHATEVER THE INPUT: true; the input reads as it did. -/
def fnResendSpec : ChangeSpec := { name := "fnResend", fn := fun _ => fun
  | [d1, d2] => { results := [.lit (.bool true)], args := [d1, d2] }
  | _ => none }
def fnResendRow : OpenClaim := { program := "ytefmkmhjbfpelaa", sum := "b28b08c7c7d1bf7044e0bbaaaece1a3a1ff4b0bbf91d284692f61b5d8527218a", func := "loop.example/g00096/laws.FnResend", spec := "fnResend", unfollowed := true, recurses := true, apart := false }
def FnResendSaid : Prop := fnResendRow.holds Try.pinned (OpenSpec.ofChange fnResendSpec)

/-- ITS FALSE NEIGHBOUR: 'it returns false'. Refute it at one input. -/
def fnResendWrong : ChangeSpec := { name := "fnResend", fn := fun _ => fun
  | [d1, d2] => { results := [.lit (.bool false)], args := [d1, d2] }
  | _ => none }
def FnResendWrongFalsely : Prop := fnResendRow.holds Try.pinned (OpenSpec.ofChange fnResendWrong)

/-- 'laws.FnExactBookOrdered': WHATEVER THE INPUT: true; the input reads as it did. -/
def fnExactBookOrderedSpec : ChangeSpec := { name := "fnExactBookOrdered", fn := fun _ => fun
  | [d1, d2, d3] => { results := [.lit (.bool true)], args := [d1, d2, d3] }
  | _ => none }
def fnExactBookOrderedRow : OpenClaim := { program := "ytefmkmhjbfpelaa", sum := "b28b08c7c7d1bf7044e0bbaaaece1a3a1ff4b0bbf91d284692f61b5d8527218a", func := "loop.example/g00096/laws.FnExactBookOrdered", spec := "fnExactBookOrdered", unfollowed := true, recurses := true, apart := false }
def FnExactBookOrderedSaid : Prop := fnExactBookOrderedRow.holds Try.pinned (OpenSpec.ofChange fnExactBookOrderedSpec)

/-- ITS FALSE NEIGHBOUR: 'it returns false'. Refute it at one input. -/
def fnExactBookOrderedWrong : ChangeSpec := { name := "fnExactBookOrdered", fn := fun _ => fun
  | [d1, d2, d3] => { results := [.lit (.bool false)], args := [d1, d2, d3] }
  | _ => none }
def FnExactBookOrderedWrongFalsely : Prop := fnExactBookOrderedRow.holds Try.pinned (OpenSpec.ofChange fnExactBookOrderedWrong)

/-- 'laws.FnExactBookTransit': WHATEVER THE INPUT: true; the input reads as it did. -/
def fnExactBookTransitSpec : ChangeSpec := { name := "fnExactBookTransit", fn := fun _ => fun
  | [d1, d2, d3] => { results := [.lit (.bool true)], args := [d1, d2, d3] }
  | _ => none }
def fnExactBookTransitRow : OpenClaim := { program := "ytefmkmhjbfpelaa", sum := "b28b08c7c7d1bf7044e0bbaaaece1a3a1ff4b0bbf91d284692f61b5d8527218a", func := "loop.example/g00096/laws.FnExactBookTransit", spec := "fnExactBookTransit", unfollowed := true, recurses := true, apart := false }
def FnExactBookTransitSaid : Prop := fnExactBookTransitRow.holds Try.pinned (OpenSpec.ofChange fnExactBookTransitSpec)

/-- ITS FALSE NEIGHBOUR: 'it returns false'. Refute it at one input. -/
def fnExactBookTransitWrong : ChangeSpec := { name := "fnExactBookTransit", fn := fun _ => fun
  | [d1, d2, d3] => { results := [.lit (.bool false)], args := [d1, d2, d3] }
  | _ => none }
def FnExactBookTransitWrongFalsely : Prop := fnExactBookTransitRow.holds Try.pinned (OpenSpec.ofChange fnExactBookTransitWrong)

/-- 'laws.FnExactBookHand': WHATEVER THE INPUT: true; the input reads as it did. -/
def fnExactBookHandSpec : ChangeSpec := { name := "fnExactBookHand", fn := fun _ => fun
  | [d1, d2] => { results := [.lit (.bool true)], args := [d1, d2] }
  | _ => none }
def fnExactBookHandRow : OpenClaim := { program := "ytefmkmhjbfpelaa", sum := "b28b08c7c7d1bf7044e0bbaaaece1a3a1ff4b0bbf91d284692f61b5d8527218a", func := "loop.example/g00096/laws.FnExactBookHand", spec := "fnExactBookHand", inPlace := ["internal/bytealg.abigen_runtime_cmpstring"], unfollowed := true, recurses := true, apart := false }
def FnExactBookHandSaid : Prop := fnExactBookHandRow.holds Try.pinned (OpenSpec.ofChange fnExactBookHandSpec)

/-- ITS FALSE NEIGHBOUR: 'it returns false'. Refute it at one input. -/
def fnExactBookHandWrong : ChangeSpec := { name := "fnExactBookHand", fn := fun _ => fun
  | [d1, d2] => { results := [.lit (.bool false)], args := [d1, d2] }
  | _ => none }
def FnExactBookHandWrongFalsely : Prop := fnExactBookHandRow.holds Try.pinned (OpenSpec.ofChange fnExactBookHandWrong)

/-- 'laws.FnAdded': WHATEVER THE INPUT: true; the input reads as it did. -/
def fnAddedSpec : ChangeSpec := { name := "fnAdded", fn := fun _ => fun
  | [d] => { results := [.lit (.bool true)], args := [d] }
  | _ => none }
def fnAddedRow : OpenClaim := { program := "ytefmkmhjbfpelaa", sum := "b28b08c7c7d1bf7044e0bbaaaece1a3a1ff4b0bbf91d284692f61b5d8527218a", func := "loop.example/g00096/laws.FnAdded", spec := "fnAdded", inPlace := ["slices.overlaps[loop.example/g00096/impl.OrderLine]"], unfollowed := true, recurses := true, apart := false }
def FnAddedSaid : Prop := fnAddedRow.holds Try.pinned (OpenSpec.ofChange fnAddedSpec)

/-- ITS FALSE NEIGHBOUR: 'it returns false'. Refute it at one input. -/
def fnAddedWrong : ChangeSpec := { name := "fnAdded", fn := fun _ => fun
  | [d] => { results := [.lit (.bool false)], args := [d] }
  | _ => none }
def FnAddedWrongFalsely : Prop := fnAddedRow.holds Try.pinned (OpenSpec.ofChange fnAddedWrong)

/-- 'laws.FnExactOutboxTick': WHATEVER THE INPUT: true; the input reads as it did. -/
def fnExactOutboxTickSpec : ChangeSpec := { name := "fnExactOutboxTick", fn := fun _ => fun
  | [d1, d2] => { results := [.lit (.bool true)], args := [d1, d2] }
  | _ => none }
def fnExactOutboxTickRow : OpenClaim := { program := "ytefmkmhjbfpelaa", sum := "b28b08c7c7d1bf7044e0bbaaaece1a3a1ff4b0bbf91d284692f61b5d8527218a", func := "loop.example/g00096/laws.FnExactOutboxTick", spec := "fnExactOutboxTick", unfollowed := true, recurses := true, apart := false }
def FnExactOutboxTickSaid : Prop := fnExactOutboxTickRow.holds Try.pinned (OpenSpec.ofChange fnExactOutboxTickSpec)

/-- ITS FALSE NEIGHBOUR: 'it returns false'. Refute it at one input. -/
def fnExactOutboxTickWrong : ChangeSpec := { name := "fnExactOutboxTick", fn := fun _ => fun
  | [d1, d2] => { results := [.lit (.bool false)], args := [d1, d2] }
  | _ => none }
def FnExactOutboxTickWrongFalsely : Prop := fnExactOutboxTickRow.holds Try.pinned (OpenSpec.ofChange fnExactOutboxTickWrong)

/-- 'laws.FnExactOutboxHeard': WHATEVER THE INPUT: true; the input reads as it did. -/
def fnExactOutboxHeardSpec : ChangeSpec := { name := "fnExactOutboxHeard", fn := fun _ => fun
  | [d1, d2, d3] => { results := [.lit (.bool true)], args := [d1, d2, d3] }
  | _ => none }
def fnExactOutboxHeardRow : OpenClaim := { program := "ytefmkmhjbfpelaa", sum := "b28b08c7c7d1bf7044e0bbaaaece1a3a1ff4b0bbf91d284692f61b5d8527218a", func := "loop.example/g00096/laws.FnExactOutboxHeard", spec := "fnExactOutboxHeard", unfollowed := true, recurses := true, apart := false }
def FnExactOutboxHeardSaid : Prop := fnExactOutboxHeardRow.holds Try.pinned (OpenSpec.ofChange fnExactOutboxHeardSpec)

/-- ITS FALSE NEIGHBOUR: 'it returns false'. Refute it at one input. -/
def fnExactOutboxHeardWrong : ChangeSpec := { name := "fnExactOutboxHeard", fn := fun _ => fun
  | [d1, d2, d3] => { results := [.lit (.bool false)], args := [d1, d2, d3] }
  | _ => none }
def FnExactOutboxHeardWrongFalsely : Prop := fnExactOutboxHeardRow.holds Try.pinned (OpenSpec.ofChange fnExactOutboxHeardWrong)

/-- 'laws.FnOutbox': WHATEVER THE INPUT: true; the input reads as it did. -/
def fnOutboxSpec : ChangeSpec := { name := "fnOutbox", fn := fun _ => fun
  | [d] => { results := [.lit (.bool true)], args := [d] }
  | _ => none }
def fnOutboxRow : OpenClaim := { program := "ytefmkmhjbfpelaa", sum := "b28b08c7c7d1bf7044e0bbaaaece1a3a1ff4b0bbf91d284692f61b5d8527218a", func := "loop.example/g00096/laws.FnOutbox", spec := "fnOutbox", inPlace := ["slices.overlaps[loop.example/g00096/impl.Out]"], unfollowed := true, recurses := true, apart := false }
def FnOutboxSaid : Prop := fnOutboxRow.holds Try.pinned (OpenSpec.ofChange fnOutboxSpec)

/-- ITS FALSE NEIGHBOUR: 'it returns false'. Refute it at one input. -/
def fnOutboxWrong : ChangeSpec := { name := "fnOutbox", fn := fun _ => fun
  | [d] => { results := [.lit (.bool false)], args := [d] }
  | _ => none }
def FnOutboxWrongFalsely : Prop := fnOutboxRow.holds Try.pinned (OpenSpec.ofChange fnOutboxWrong)

/-- 'laws.FnExactLinesAdd': WHATEVER THE INPUT: true; the input reads as it did. -/
def fnExactLinesAddSpec : ChangeSpec := { name := "fnExactLinesAdd", fn := fun _ => fun
  | [d1, d2] => { results := [.lit (.bool true)], args := [d1, d2] }
  | _ => none }
def fnExactLinesAddRow : OpenClaim := { program := "ytefmkmhjbfpelaa", sum := "b28b08c7c7d1bf7044e0bbaaaece1a3a1ff4b0bbf91d284692f61b5d8527218a", func := "loop.example/g00096/laws.FnExactLinesAdd", spec := "fnExactLinesAdd", inPlace := ["slices.overlaps[loop.example/g00096/impl.OrderLine]"], unfollowed := true, recurses := true, apart := false }
def FnExactLinesAddSaid : Prop := fnExactLinesAddRow.holds Try.pinned (OpenSpec.ofChange fnExactLinesAddSpec)

/-- ITS FALSE NEIGHBOUR: 'it returns false'. Refute it at one input. -/
def fnExactLinesAddWrong : ChangeSpec := { name := "fnExactLinesAdd", fn := fun _ => fun
  | [d1, d2] => { results := [.lit (.bool false)], args := [d1, d2] }
  | _ => none }
def FnExactLinesAddWrongFalsely : Prop := fnExactLinesAddRow.holds Try.pinned (OpenSpec.ofChange fnExactLinesAddWrong)

/-- 'laws.FnExactOutboxPut': WHATEVER THE INPUT: true; the input reads as it did. -/
def fnExactOutboxPutSpec : ChangeSpec := { name := "fnExactOutboxPut", fn := fun _ => fun
  | [d1, d2] => { results := [.lit (.bool true)], args := [d1, d2] }
  | _ => none }
def fnExactOutboxPutRow : OpenClaim := { program := "ytefmkmhjbfpelaa", sum := "b28b08c7c7d1bf7044e0bbaaaece1a3a1ff4b0bbf91d284692f61b5d8527218a", func := "loop.example/g00096/laws.FnExactOutboxPut", spec := "fnExactOutboxPut", inPlace := ["slices.overlaps[loop.example/g00096/impl.Out]"], unfollowed := true, recurses := true, apart := false }
def FnExactOutboxPutSaid : Prop := fnExactOutboxPutRow.holds Try.pinned (OpenSpec.ofChange fnExactOutboxPutSpec)

/-- ITS FALSE NEIGHBOUR: 'it returns false'. Refute it at one input. -/
def fnExactOutboxPutWrong : ChangeSpec := { name := "fnExactOutboxPut", fn := fun _ => fun
  | [d1, d2] => { results := [.lit (.bool false)], args := [d1, d2] }
  | _ => none }
def FnExactOutboxPutWrongFalsely : Prop := fnExactOutboxPutRow.holds Try.pinned (OpenSpec.ofChange fnExactOutboxPutWrong)

/-- 'laws.FnMoves': WHATEVER THE INPUT: true; the input reads as it did. -/
def fnMovesSpec : ChangeSpec := { name := "fnMoves", fn := fun _ => fun
  | [d] => { results := [.lit (.bool true)], args := [d] }
  | _ => none }
def fnMovesRow : OpenClaim := { program := "ytefmkmhjbfpelaa", sum := "b28b08c7c7d1bf7044e0bbaaaece1a3a1ff4b0bbf91d284692f61b5d8527218a", func := "loop.example/g00096/laws.FnMoves", spec := "fnMoves", inPlace := ["internal/bytealg.abigen_runtime_cmpstring", "slices.overlaps[loop.example/g00096/impl.Stock]"], unfollowed := true, recurses := true, apart := false }
def FnMovesSaid : Prop := fnMovesRow.holds Try.pinned (OpenSpec.ofChange fnMovesSpec)

/-- ITS FALSE NEIGHBOUR: 'it returns false'. Refute it at one input. -/
def fnMovesWrong : ChangeSpec := { name := "fnMoves", fn := fun _ => fun
  | [d] => { results := [.lit (.bool false)], args := [d] }
  | _ => none }
def FnMovesWrongFalsely : Prop := fnMovesRow.holds Try.pinned (OpenSpec.ofChange fnMovesWrong)

/-- 'laws.FnExactBookMove': WHATEVER THE INPUT: true; the input reads as it did. -/
def fnExactBookMoveSpec : ChangeSpec := { name := "fnExactBookMove", fn := fun _ => fun
  | [d1, d2, d3] => { results := [.lit (.bool true)], args := [d1, d2, d3] }
  | _ => none }
def fnExactBookMoveRow : OpenClaim := { program := "ytefmkmhjbfpelaa", sum := "b28b08c7c7d1bf7044e0bbaaaece1a3a1ff4b0bbf91d284692f61b5d8527218a", func := "loop.example/g00096/laws.FnExactBookMove", spec := "fnExactBookMove", inPlace := ["internal/bytealg.abigen_runtime_cmpstring", "slices.overlaps[loop.example/g00096/impl.Stock]"], unfollowed := true, recurses := true, apart := false }
def FnExactBookMoveSaid : Prop := fnExactBookMoveRow.holds Try.pinned (OpenSpec.ofChange fnExactBookMoveSpec)

/-- ITS FALSE NEIGHBOUR: 'it returns false'. Refute it at one input. -/
def fnExactBookMoveWrong : ChangeSpec := { name := "fnExactBookMove", fn := fun _ => fun
  | [d1, d2, d3] => { results := [.lit (.bool false)], args := [d1, d2, d3] }
  | _ => none }
def FnExactBookMoveWrongFalsely : Prop := fnExactBookMoveRow.holds Try.pinned (OpenSpec.ofChange fnExactBookMoveWrong)

/- THE SECOND FORM. 'bulk': how many values and letters a reading holds, each counted each time it is reached (what is shared counts as often as it is met; a slice's spare places count too). A statement '..UptoSaid' is the law's where the arguments, and the package variables that the reading takes, are together of bulk at most 1048576: NARROWER than '..Said'. Prove '..Said' where nothing that the law and all that it calls make is longer than what came in: it says more and counts as full. Else prove '..UptoSaid'. A law counts once. -/
mutual
def uptoBulk {H : Type} : DataW H → Nat
  | .lit (.string bytes) => bytes.length + 1
  | .lit _ => 1
  | .nil => 1
  | .ptr d => uptoBulk d + 1
  | .slice elems spare => uptoBulkAll elems + uptoBulkAll spare + 1
  | .agg parts => uptoBulkAll parts + 1
  | .iface _ d => uptoBulk d + 1
  | .map entries => uptoBulkEntries entries + 1
  | .held _ => 1
def uptoBulkAll {H : Type} : List (DataW H) → Nat
  | [] => 0
  | d :: r => uptoBulk d + uptoBulkAll r
def uptoBulkEntries {H : Type} : List (Lit × DataW H) → Nat
  | [] => 0
  | x :: r => uptoBulkEntry x + uptoBulkEntries r
def uptoBulkEntry {H : Type} : Lit × DataW H → Nat
  | (.string bytes, d) => bytes.length + uptoBulk d + 1
  | (_, d) => uptoBulk d + 1
 end
def uptoSmall : (H : Type) → List (DataW H) → Bool := fun _ ds => decide (uptoBulkAll ds ≤ 1048576)
def OpenSpec.upto (s : _root_.Go.ChangeSpec) : _root_.Go.OpenSpec := { _root_.Go.OpenSpec.ofChange s with cond := some uptoSmall }

/-- 'laws.FnResend', WHERE WHAT IT READS IS OF BULK AT MOST 1048576: true; the input reads as it did. -/
def fnResendUptoRow : OpenClaim := { program := "ytefmkmhjbfpelaa", sum := "b28b08c7c7d1bf7044e0bbaaaece1a3a1ff4b0bbf91d284692f61b5d8527218a", func := "loop.example/g00096/laws.FnResend", spec := "fnResend", unfollowed := true, recurses := true, apart := false, narrowed := true }
def FnResendUptoSaid : Prop := fnResendUptoRow.holds Try.pinned (OpenSpec.upto fnResendSpec)

/-- 'laws.FnExactBookOrdered', WHERE WHAT IT READS IS OF BULK AT MOST 1048576: true; the input reads as it did. -/
def fnExactBookOrderedUptoRow : OpenClaim := { program := "ytefmkmhjbfpelaa", sum := "b28b08c7c7d1bf7044e0bbaaaece1a3a1ff4b0bbf91d284692f61b5d8527218a", func := "loop.example/g00096/laws.FnExactBookOrdered", spec := "fnExactBookOrdered", unfollowed := true, recurses := true, apart := false, narrowed := true }
def FnExactBookOrderedUptoSaid : Prop := fnExactBookOrderedUptoRow.holds Try.pinned (OpenSpec.upto fnExactBookOrderedSpec)

/-- 'laws.FnExactBookTransit', WHERE WHAT IT READS IS OF BULK AT MOST 1048576: true; the input reads as it did. -/
def fnExactBookTransitUptoRow : OpenClaim := { program := "ytefmkmhjbfpelaa", sum := "b28b08c7c7d1bf7044e0bbaaaece1a3a1ff4b0bbf91d284692f61b5d8527218a", func := "loop.example/g00096/laws.FnExactBookTransit", spec := "fnExactBookTransit", unfollowed := true, recurses := true, apart := false, narrowed := true }
def FnExactBookTransitUptoSaid : Prop := fnExactBookTransitUptoRow.holds Try.pinned (OpenSpec.upto fnExactBookTransitSpec)

/-- 'laws.FnExactBookHand', WHERE WHAT IT READS IS OF BULK AT MOST 1048576: true; the input reads as it did. -/
def fnExactBookHandUptoRow : OpenClaim := { program := "ytefmkmhjbfpelaa", sum := "b28b08c7c7d1bf7044e0bbaaaece1a3a1ff4b0bbf91d284692f61b5d8527218a", func := "loop.example/g00096/laws.FnExactBookHand", spec := "fnExactBookHand", inPlace := ["internal/bytealg.abigen_runtime_cmpstring"], unfollowed := true, recurses := true, apart := false, narrowed := true }
def FnExactBookHandUptoSaid : Prop := fnExactBookHandUptoRow.holds Try.pinned (OpenSpec.upto fnExactBookHandSpec)

/-- 'laws.FnAdded', WHERE WHAT IT READS IS OF BULK AT MOST 1048576: true; the input reads as it did. -/
def fnAddedUptoRow : OpenClaim := { program := "ytefmkmhjbfpelaa", sum := "b28b08c7c7d1bf7044e0bbaaaece1a3a1ff4b0bbf91d284692f61b5d8527218a", func := "loop.example/g00096/laws.FnAdded", spec := "fnAdded", inPlace := ["slices.overlaps[loop.example/g00096/impl.OrderLine]"], unfollowed := true, recurses := true, apart := false, narrowed := true }
def FnAddedUptoSaid : Prop := fnAddedUptoRow.holds Try.pinned (OpenSpec.upto fnAddedSpec)

/-- 'laws.FnExactOutboxTick', WHERE WHAT IT READS IS OF BULK AT MOST 1048576: true; the input reads as it did. -/
def fnExactOutboxTickUptoRow : OpenClaim := { program := "ytefmkmhjbfpelaa", sum := "b28b08c7c7d1bf7044e0bbaaaece1a3a1ff4b0bbf91d284692f61b5d8527218a", func := "loop.example/g00096/laws.FnExactOutboxTick", spec := "fnExactOutboxTick", unfollowed := true, recurses := true, apart := false, narrowed := true }
def FnExactOutboxTickUptoSaid : Prop := fnExactOutboxTickUptoRow.holds Try.pinned (OpenSpec.upto fnExactOutboxTickSpec)

/-- 'laws.FnExactOutboxHeard', WHERE WHAT IT READS IS OF BULK AT MOST 1048576: true; the input reads as it did. -/
def fnExactOutboxHeardUptoRow : OpenClaim := { program := "ytefmkmhjbfpelaa", sum := "b28b08c7c7d1bf7044e0bbaaaece1a3a1ff4b0bbf91d284692f61b5d8527218a", func := "loop.example/g00096/laws.FnExactOutboxHeard", spec := "fnExactOutboxHeard", unfollowed := true, recurses := true, apart := false, narrowed := true }
def FnExactOutboxHeardUptoSaid : Prop := fnExactOutboxHeardUptoRow.holds Try.pinned (OpenSpec.upto fnExactOutboxHeardSpec)

/-- 'laws.FnOutbox', WHERE WHAT IT READS IS OF BULK AT MOST 1048576: true; the input reads as it did. -/
def fnOutboxUptoRow : OpenClaim := { program := "ytefmkmhjbfpelaa", sum := "b28b08c7c7d1bf7044e0bbaaaece1a3a1ff4b0bbf91d284692f61b5d8527218a", func := "loop.example/g00096/laws.FnOutbox", spec := "fnOutbox", inPlace := ["slices.overlaps[loop.example/g00096/impl.Out]"], unfollowed := true, recurses := true, apart := false, narrowed := true }
def FnOutboxUptoSaid : Prop := fnOutboxUptoRow.holds Try.pinned (OpenSpec.upto fnOutboxSpec)

/-- 'laws.FnExactLinesAdd', WHERE WHAT IT READS IS OF BULK AT MOST 1048576: true; the input reads as it did. -/
def fnExactLinesAddUptoRow : OpenClaim := { program := "ytefmkmhjbfpelaa", sum := "b28b08c7c7d1bf7044e0bbaaaece1a3a1ff4b0bbf91d284692f61b5d8527218a", func := "loop.example/g00096/laws.FnExactLinesAdd", spec := "fnExactLinesAdd", inPlace := ["slices.overlaps[loop.example/g00096/impl.OrderLine]"], unfollowed := true, recurses := true, apart := false, narrowed := true }
def FnExactLinesAddUptoSaid : Prop := fnExactLinesAddUptoRow.holds Try.pinned (OpenSpec.upto fnExactLinesAddSpec)

/-- 'laws.FnExactOutboxPut', WHERE WHAT IT READS IS OF BULK AT MOST 1048576: true; the input reads as it did. -/
def fnExactOutboxPutUptoRow : OpenClaim := { program := "ytefmkmhjbfpelaa", sum := "b28b08c7c7d1bf7044e0bbaaaece1a3a1ff4b0bbf91d284692f61b5d8527218a", func := "loop.example/g00096/laws.FnExactOutboxPut", spec := "fnExactOutboxPut", inPlace := ["slices.overlaps[loop.example/g00096/impl.Out]"], unfollowed := true, recurses := true, apart := false, narrowed := true }
def FnExactOutboxPutUptoSaid : Prop := fnExactOutboxPutUptoRow.holds Try.pinned (OpenSpec.upto fnExactOutboxPutSpec)

/-- 'laws.FnMoves', WHERE WHAT IT READS IS OF BULK AT MOST 1048576: true; the input reads as it did. -/
def fnMovesUptoRow : OpenClaim := { program := "ytefmkmhjbfpelaa", sum := "b28b08c7c7d1bf7044e0bbaaaece1a3a1ff4b0bbf91d284692f61b5d8527218a", func := "loop.example/g00096/laws.FnMoves", spec := "fnMoves", inPlace := ["internal/bytealg.abigen_runtime_cmpstring", "slices.overlaps[loop.example/g00096/impl.Stock]"], unfollowed := true, recurses := true, apart := false, narrowed := true }
def FnMovesUptoSaid : Prop := fnMovesUptoRow.holds Try.pinned (OpenSpec.upto fnMovesSpec)

/-- 'laws.FnExactBookMove', WHERE WHAT IT READS IS OF BULK AT MOST 1048576: true; the input reads as it did. -/
def fnExactBookMoveUptoRow : OpenClaim := { program := "ytefmkmhjbfpelaa", sum := "b28b08c7c7d1bf7044e0bbaaaece1a3a1ff4b0bbf91d284692f61b5d8527218a", func := "loop.example/g00096/laws.FnExactBookMove", spec := "fnExactBookMove", inPlace := ["internal/bytealg.abigen_runtime_cmpstring", "slices.overlaps[loop.example/g00096/impl.Stock]"], unfollowed := true, recurses := true, apart := false, narrowed := true }
def FnExactBookMoveUptoSaid : Prop := fnExactBookMoveUptoRow.holds Try.pinned (OpenSpec.upto fnExactBookMoveSpec)

end Rows
end Go.Proofs.Ytefmkmhjbfpelaa

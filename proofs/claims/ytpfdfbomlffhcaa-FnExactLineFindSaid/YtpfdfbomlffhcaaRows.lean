/-
  No cell of these rows narrows 'for every input' (looked for: loops, veiled, ifaces, maps, wideKeys, modest, calm, conditions, laid).
  DERIVED. THE GIVEN ROWS OF THIS SEAT. 9 by the template 'for every input the law returns true; each argument reads behind the call as it read before'; 0 by the template 'total and deterministic' (their statements: YtpfdfbomlffhcaaTotals.lean).
  GIVEN WITH THE SEED: the statements are not yours to turn. If you find one false, say at which input.
  Laid BY PROGRAM, IN A SANDBOX (cutbox-rows.mjs): the forced cells as the released guide's own fill.sh prints them over the translation 94dc58e940e9bb38… (all of the seat's roots in one cut). By AI agents, Wed Nov 11 2026. No macro, syntax, notation, axiom, sorry.
-/
import Derived.Test.YtpfdfbomlffhcaaChecked
import GoSem.Claim
import GoSem.ClaimJoined
import GoSem.ClaimMapViews
import Derived.JoinedTies
import Derived.KernelRfl
namespace Go.Proofs.Ytpfdfbomlffhcaa
/- THE CELL 'sum', in the pinned program and in every row, IS THE sha256 OF THE DUMP (.gsa) THAT YtpfdfbomlffhcaaProg.lean LOADS. Nothing in Lean hashes anything: it is a label: what it is worth is what the hold of that sum in a sandbox is worth. -/
noncomputable def Try.pinned : Pinned := { name := "ytpfdfbomlffhcaa", sum := "94dc58e940e9bb383bd7f591269d5dcec350f5f57586ab50c832d47ddac15f3f", checked := Try.checked }
namespace Rows
def none {H : Type} : Left H := { results := [], args := [] }

/-- 'laws.FnExactLineTransit': WHATEVER THE INPUT: true; the input reads as it did. -/
def fnExactLineTransitSpec : ChangeSpec := { name := "fnExactLineTransit", fn := fun _ => fun
  | [d] => { results := [.lit (.bool true)], args := [d] }
  | _ => none }
def fnExactLineTransitRow : OpenClaim := { program := "ytpfdfbomlffhcaa", sum := "94dc58e940e9bb383bd7f591269d5dcec350f5f57586ab50c832d47ddac15f3f", func := "loop.example/g00096/laws.FnExactLineTransit", spec := "fnExactLineTransit", apart := false }
def FnExactLineTransitSaid : Prop := fnExactLineTransitRow.holds Try.pinned (OpenSpec.ofChange fnExactLineTransitSpec)

/-- ITS FALSE NEIGHBOUR: 'it returns false'. Refute it at one input. -/
def fnExactLineTransitWrong : ChangeSpec := { name := "fnExactLineTransit", fn := fun _ => fun
  | [d] => { results := [.lit (.bool false)], args := [d] }
  | _ => none }
def FnExactLineTransitWrongFalsely : Prop := fnExactLineTransitRow.holds Try.pinned (OpenSpec.ofChange fnExactLineTransitWrong)

/-- 'laws.FnExactDiffSum': WHATEVER THE INPUT: true; the input reads as it did. -/
def fnExactDiffSumSpec : ChangeSpec := { name := "fnExactDiffSum", fn := fun _ => fun
  | [d1, d2, d3] => { results := [.lit (.bool true)], args := [d1, d2, d3] }
  | _ => none }
def fnExactDiffSumRow : OpenClaim := { program := "ytpfdfbomlffhcaa", sum := "94dc58e940e9bb383bd7f591269d5dcec350f5f57586ab50c832d47ddac15f3f", func := "loop.example/g00096/laws.FnExactDiffSum", spec := "fnExactDiffSum", unfollowed := true, recurses := true, apart := false }
def FnExactDiffSumSaid : Prop := fnExactDiffSumRow.holds Try.pinned (OpenSpec.ofChange fnExactDiffSumSpec)

/-- ITS FALSE NEIGHBOUR: 'it returns false'. Refute it at one input. -/
def fnExactDiffSumWrong : ChangeSpec := { name := "fnExactDiffSum", fn := fun _ => fun
  | [d1, d2, d3] => { results := [.lit (.bool false)], args := [d1, d2, d3] }
  | _ => none }
def FnExactDiffSumWrongFalsely : Prop := fnExactDiffSumRow.holds Try.pinned (OpenSpec.ofChange fnExactDiffSumWrong)

/-- 'laws.FnExactLinePost': WHATEVER THE INPUT: true; the input reads as it did. -/
def fnExactLinePostSpec : ChangeSpec := { name := "fnExactLinePost", fn := fun _ => fun
  | [d1, d2, d3] => { results := [.lit (.bool true)], args := [d1, d2, d3] }
  | _ => none }
def fnExactLinePostRow : OpenClaim := { program := "ytpfdfbomlffhcaa", sum := "94dc58e940e9bb383bd7f591269d5dcec350f5f57586ab50c832d47ddac15f3f", func := "loop.example/g00096/laws.FnExactLinePost", spec := "fnExactLinePost", apart := false }
def FnExactLinePostSaid : Prop := fnExactLinePostRow.holds Try.pinned (OpenSpec.ofChange fnExactLinePostSpec)

/-- ITS FALSE NEIGHBOUR: 'it returns false'. Refute it at one input. -/
def fnExactLinePostWrong : ChangeSpec := { name := "fnExactLinePost", fn := fun _ => fun
  | [d1, d2, d3] => { results := [.lit (.bool false)], args := [d1, d2, d3] }
  | _ => none }
def FnExactLinePostWrongFalsely : Prop := fnExactLinePostRow.holds Try.pinned (OpenSpec.ofChange fnExactLinePostWrong)

/-- 'laws.FnLineSums': WHATEVER THE INPUT: true; the input reads as it did. -/
def fnLineSumsSpec : ChangeSpec := { name := "fnLineSums", fn := fun _ => fun
  | [d] => { results := [.lit (.bool true)], args := [d] }
  | _ => none }
def fnLineSumsRow : OpenClaim := { program := "ytpfdfbomlffhcaa", sum := "94dc58e940e9bb383bd7f591269d5dcec350f5f57586ab50c832d47ddac15f3f", func := "loop.example/g00096/laws.FnLineSums", spec := "fnLineSums", apart := false }
def FnLineSumsSaid : Prop := fnLineSumsRow.holds Try.pinned (OpenSpec.ofChange fnLineSumsSpec)

/-- ITS FALSE NEIGHBOUR: 'it returns false'. Refute it at one input. -/
def fnLineSumsWrong : ChangeSpec := { name := "fnLineSums", fn := fun _ => fun
  | [d] => { results := [.lit (.bool false)], args := [d] }
  | _ => none }
def FnLineSumsWrongFalsely : Prop := fnLineSumsRow.holds Try.pinned (OpenSpec.ofChange fnLineSumsWrong)

/-- 'laws.FnExactOutboxRight': WHATEVER THE INPUT: true; the input reads as it did. -/
def fnExactOutboxRightSpec : ChangeSpec := { name := "fnExactOutboxRight", fn := fun _ => fun
  | [d] => { results := [.lit (.bool true)], args := [d] }
  | _ => none }
def fnExactOutboxRightRow : OpenClaim := { program := "ytpfdfbomlffhcaa", sum := "94dc58e940e9bb383bd7f591269d5dcec350f5f57586ab50c832d47ddac15f3f", func := "loop.example/g00096/laws.FnExactOutboxRight", spec := "fnExactOutboxRight", unfollowed := true, recurses := true, apart := false }
def FnExactOutboxRightSaid : Prop := fnExactOutboxRightRow.holds Try.pinned (OpenSpec.ofChange fnExactOutboxRightSpec)

/-- ITS FALSE NEIGHBOUR: 'it returns false'. Refute it at one input. -/
def fnExactOutboxRightWrong : ChangeSpec := { name := "fnExactOutboxRight", fn := fun _ => fun
  | [d] => { results := [.lit (.bool false)], args := [d] }
  | _ => none }
def FnExactOutboxRightWrongFalsely : Prop := fnExactOutboxRightRow.holds Try.pinned (OpenSpec.ofChange fnExactOutboxRightWrong)

/-- 'laws.FnExactLinesRight': WHATEVER THE INPUT: true; the input reads as it did. -/
def fnExactLinesRightSpec : ChangeSpec := { name := "fnExactLinesRight", fn := fun _ => fun
  | [d] => { results := [.lit (.bool true)], args := [d] }
  | _ => none }
def fnExactLinesRightRow : OpenClaim := { program := "ytpfdfbomlffhcaa", sum := "94dc58e940e9bb383bd7f591269d5dcec350f5f57586ab50c832d47ddac15f3f", func := "loop.example/g00096/laws.FnExactLinesRight", spec := "fnExactLinesRight", apart := false }
def FnExactLinesRightSaid : Prop := fnExactLinesRightRow.holds Try.pinned (OpenSpec.ofChange fnExactLinesRightSpec)

/-- ITS FALSE NEIGHBOUR: 'it returns false'. Refute it at one input. -/
def fnExactLinesRightWrong : ChangeSpec := { name := "fnExactLinesRight", fn := fun _ => fun
  | [d] => { results := [.lit (.bool false)], args := [d] }
  | _ => none }
def FnExactLinesRightWrongFalsely : Prop := fnExactLinesRightRow.holds Try.pinned (OpenSpec.ofChange fnExactLinesRightWrong)

/-- 'laws.FnExactLineFind': WHATEVER THE INPUT: true; the input reads as it did. -/
def fnExactLineFindSpec : ChangeSpec := { name := "fnExactLineFind", fn := fun _ => fun
  | [d1, d2, d3, d4] => { results := [.lit (.bool true)], args := [d1, d2, d3, d4] }
  | _ => none }
def fnExactLineFindRow : OpenClaim := { program := "ytpfdfbomlffhcaa", sum := "94dc58e940e9bb383bd7f591269d5dcec350f5f57586ab50c832d47ddac15f3f", func := "loop.example/g00096/laws.FnExactLineFind", spec := "fnExactLineFind", unfollowed := true, recurses := true, apart := false }
def FnExactLineFindSaid : Prop := fnExactLineFindRow.holds Try.pinned (OpenSpec.ofChange fnExactLineFindSpec)

/-- ITS FALSE NEIGHBOUR: 'it returns false'. Refute it at one input. -/
def fnExactLineFindWrong : ChangeSpec := { name := "fnExactLineFind", fn := fun _ => fun
  | [d1, d2, d3, d4] => { results := [.lit (.bool false)], args := [d1, d2, d3, d4] }
  | _ => none }
def FnExactLineFindWrongFalsely : Prop := fnExactLineFindRow.holds Try.pinned (OpenSpec.ofChange fnExactLineFindWrong)

/-- 'laws.FnExactOutboxRun': WHATEVER THE INPUT: true; the input reads as it did. -/
def fnExactOutboxRunSpec : ChangeSpec := { name := "fnExactOutboxRun", fn := fun _ => fun
  | [d1, d2] => { results := [.lit (.bool true)], args := [d1, d2] }
  | _ => none }
def fnExactOutboxRunRow : OpenClaim := { program := "ytpfdfbomlffhcaa", sum := "94dc58e940e9bb383bd7f591269d5dcec350f5f57586ab50c832d47ddac15f3f", func := "loop.example/g00096/laws.FnExactOutboxRun", spec := "fnExactOutboxRun", unfollowed := true, recurses := true, apart := false }
def FnExactOutboxRunSaid : Prop := fnExactOutboxRunRow.holds Try.pinned (OpenSpec.ofChange fnExactOutboxRunSpec)

/-- ITS FALSE NEIGHBOUR: 'it returns false'. Refute it at one input. -/
def fnExactOutboxRunWrong : ChangeSpec := { name := "fnExactOutboxRun", fn := fun _ => fun
  | [d1, d2] => { results := [.lit (.bool false)], args := [d1, d2] }
  | _ => none }
def FnExactOutboxRunWrongFalsely : Prop := fnExactOutboxRunRow.holds Try.pinned (OpenSpec.ofChange fnExactOutboxRunWrong)

/-- 'laws.FnExactBookRight': WHATEVER THE INPUT: true; the input reads as it did. -/
def fnExactBookRightSpec : ChangeSpec := { name := "fnExactBookRight", fn := fun _ => fun
  | [d] => { results := [.lit (.bool true)], args := [d] }
  | _ => none }
def fnExactBookRightRow : OpenClaim := { program := "ytpfdfbomlffhcaa", sum := "94dc58e940e9bb383bd7f591269d5dcec350f5f57586ab50c832d47ddac15f3f", func := "loop.example/g00096/laws.FnExactBookRight", spec := "fnExactBookRight", apart := false }
def FnExactBookRightSaid : Prop := fnExactBookRightRow.holds Try.pinned (OpenSpec.ofChange fnExactBookRightSpec)

/-- ITS FALSE NEIGHBOUR: 'it returns false'. Refute it at one input. -/
def fnExactBookRightWrong : ChangeSpec := { name := "fnExactBookRight", fn := fun _ => fun
  | [d] => { results := [.lit (.bool false)], args := [d] }
  | _ => none }
def FnExactBookRightWrongFalsely : Prop := fnExactBookRightRow.holds Try.pinned (OpenSpec.ofChange fnExactBookRightWrong)

/- THE SECOND FORM. 'bulk': how many values and letters a reading holds, each counted each time it is reached (what is shared counts as often as it is met; a slice's spare places count too). A statement '..UptoSaid' is the law's where the arguments, and the package variables that the reading takes, are together of bulk at most 1048576: NARROWER than '..Said'. Prove '..Said' where nothing that the law and all that it calls make is longer than what came in: it says more and counts as full. Else prove '..UptoSaid'. A law counts once. -/
mutual
def uptoBulk {H : Type} : DataW H → Nat
  | .lit (.string bytes) => bytes.length + 1
  | .lit _ => 1
  | .nil => 1
  | .ptr d => uptoBulk d + 1
  | .slice elems spare => uptoBulkAll elems + uptoBulkAll spare + 1
  | .agg parts => uptoBulkAll parts + 1
  | .iface _ d => uptoBulk d + 1
  | .map entries => uptoBulkEntries entries + 1
  | .held _ => 1
def uptoBulkAll {H : Type} : List (DataW H) → Nat
  | [] => 0
  | d :: r => uptoBulk d + uptoBulkAll r
def uptoBulkEntries {H : Type} : List (Lit × DataW H) → Nat
  | [] => 0
  | x :: r => uptoBulkEntry x + uptoBulkEntries r
def uptoBulkEntry {H : Type} : Lit × DataW H → Nat
  | (.string bytes, d) => bytes.length + uptoBulk d + 1
  | (_, d) => uptoBulk d + 1
 end
def uptoSmall : (H : Type) → List (DataW H) → Bool := fun _ ds => decide (uptoBulkAll ds ≤ 1048576)
def OpenSpec.upto (s : _root_.Go.ChangeSpec) : _root_.Go.OpenSpec := { _root_.Go.OpenSpec.ofChange s with cond := some uptoSmall }

/-- 'laws.FnExactLineTransit', WHERE WHAT IT READS IS OF BULK AT MOST 1048576: true; the input reads as it did. -/
def fnExactLineTransitUptoRow : OpenClaim := { program := "ytpfdfbomlffhcaa", sum := "94dc58e940e9bb383bd7f591269d5dcec350f5f57586ab50c832d47ddac15f3f", func := "loop.example/g00096/laws.FnExactLineTransit", spec := "fnExactLineTransit", apart := false, narrowed := true }
def FnExactLineTransitUptoSaid : Prop := fnExactLineTransitUptoRow.holds Try.pinned (OpenSpec.upto fnExactLineTransitSpec)

/-- 'laws.FnExactDiffSum', WHERE WHAT IT READS IS OF BULK AT MOST 1048576: true; the input reads as it did. -/
def fnExactDiffSumUptoRow : OpenClaim := { program := "ytpfdfbomlffhcaa", sum := "94dc58e940e9bb383bd7f591269d5dcec350f5f57586ab50c832d47ddac15f3f", func := "loop.example/g00096/laws.FnExactDiffSum", spec := "fnExactDiffSum", unfollowed := true, recurses := true, apart := false, narrowed := true }
def FnExactDiffSumUptoSaid : Prop := fnExactDiffSumUptoRow.holds Try.pinned (OpenSpec.upto fnExactDiffSumSpec)

/-- 'laws.FnExactLinePost', WHERE WHAT IT READS IS OF BULK AT MOST 1048576: true; the input reads as it did. -/
def fnExactLinePostUptoRow : OpenClaim := { program := "ytpfdfbomlffhcaa", sum := "94dc58e940e9bb383bd7f591269d5dcec350f5f57586ab50c832d47ddac15f3f", func := "loop.example/g00096/laws.FnExactLinePost", spec := "fnExactLinePost", apart := false, narrowed := true }
def FnExactLinePostUptoSaid : Prop := fnExactLinePostUptoRow.holds Try.pinned (OpenSpec.upto fnExactLinePostSpec)

/-- 'laws.FnLineSums', WHERE WHAT IT READS IS OF BULK AT MOST 1048576: true; the input reads as it did. -/
def fnLineSumsUptoRow : OpenClaim := { program := "ytpfdfbomlffhcaa", sum := "94dc58e940e9bb383bd7f591269d5dcec350f5f57586ab50c832d47ddac15f3f", func := "loop.example/g00096/laws.FnLineSums", spec := "fnLineSums", apart := false, narrowed := true }
def FnLineSumsUptoSaid : Prop := fnLineSumsUptoRow.holds Try.pinned (OpenSpec.upto fnLineSumsSpec)

/-- 'laws.FnExactOutboxRight', WHERE WHAT IT READS IS OF BULK AT MOST 1048576: true; the input reads as it did. -/
def fnExactOutboxRightUptoRow : OpenClaim := { program := "ytpfdfbomlffhcaa", sum := "94dc58e940e9bb383bd7f591269d5dcec350f5f57586ab50c832d47ddac15f3f", func := "loop.example/g00096/laws.FnExactOutboxRight", spec := "fnExactOutboxRight", unfollowed := true, recurses := true, apart := false, narrowed := true }
def FnExactOutboxRightUptoSaid : Prop := fnExactOutboxRightUptoRow.holds Try.pinned (OpenSpec.upto fnExactOutboxRightSpec)

/-- 'laws.FnExactLinesRight', WHERE WHAT IT READS IS OF BULK AT MOST 1048576: true; the input reads as it did. -/
def fnExactLinesRightUptoRow : OpenClaim := { program := "ytpfdfbomlffhcaa", sum := "94dc58e940e9bb383bd7f591269d5dcec350f5f57586ab50c832d47ddac15f3f", func := "loop.example/g00096/laws.FnExactLinesRight", spec := "fnExactLinesRight", apart := false, narrowed := true }
def FnExactLinesRightUptoSaid : Prop := fnExactLinesRightUptoRow.holds Try.pinned (OpenSpec.upto fnExactLinesRightSpec)

/-- 'laws.FnExactLineFind', WHERE WHAT IT READS IS OF BULK AT MOST 1048576: true; the input reads as it did. -/
def fnExactLineFindUptoRow : OpenClaim := { program := "ytpfdfbomlffhcaa", sum := "94dc58e940e9bb383bd7f591269d5dcec350f5f57586ab50c832d47ddac15f3f", func := "loop.example/g00096/laws.FnExactLineFind", spec := "fnExactLineFind", unfollowed := true, recurses := true, apart := false, narrowed := true }
def FnExactLineFindUptoSaid : Prop := fnExactLineFindUptoRow.holds Try.pinned (OpenSpec.upto fnExactLineFindSpec)

/-- 'laws.FnExactOutboxRun', WHERE WHAT IT READS IS OF BULK AT MOST 1048576: true; the input reads as it did. -/
def fnExactOutboxRunUptoRow : OpenClaim := { program := "ytpfdfbomlffhcaa", sum := "94dc58e940e9bb383bd7f591269d5dcec350f5f57586ab50c832d47ddac15f3f", func := "loop.example/g00096/laws.FnExactOutboxRun", spec := "fnExactOutboxRun", unfollowed := true, recurses := true, apart := false, narrowed := true }
def FnExactOutboxRunUptoSaid : Prop := fnExactOutboxRunUptoRow.holds Try.pinned (OpenSpec.upto fnExactOutboxRunSpec)

/-- 'laws.FnExactBookRight', WHERE WHAT IT READS IS OF BULK AT MOST 1048576: true; the input reads as it did. -/
def fnExactBookRightUptoRow : OpenClaim := { program := "ytpfdfbomlffhcaa", sum := "94dc58e940e9bb383bd7f591269d5dcec350f5f57586ab50c832d47ddac15f3f", func := "loop.example/g00096/laws.FnExactBookRight", spec := "fnExactBookRight", apart := false, narrowed := true }
def FnExactBookRightUptoSaid : Prop := fnExactBookRightUptoRow.holds Try.pinned (OpenSpec.upto fnExactBookRightSpec)

end Rows
end Go.Proofs.Ytpfdfbomlffhcaa

/-
  No cell of these rows narrows 'for every input' (looked for: loops, veiled, ifaces, maps, wideKeys, modest, calm, conditions, laid).
  DERIVED. THE GIVEN ROWS OF THIS SEAT. 3 by the template 'for every input the law returns true; each argument reads behind the call as it read before'; 0 by the template 'total and deterministic' (their statements: YtjjfjgdhloideaaTotals.lean).
  GIVEN WITH THE SEED: the statements are not yours to turn. If you find one false, say at which input.
  Laid BY PROGRAM, IN A SANDBOX (cutbox-rows.mjs): the forced cells as the released guide's own fill.sh prints them over the translation 3b4d111c7c13666c… (all of the seat's roots in one cut). By AI agents, Wed Nov 11 2026. No macro, syntax, notation, axiom, sorry.
-/
import Derived.Test.YtjjfjgdhloideaaChecked
import GoSem.Claim
import GoSem.ClaimJoined
import GoSem.ClaimMapViews
import Derived.JoinedTies
import Derived.KernelRfl
namespace Go.Proofs.Ytjjfjgdhloideaa
/- THE CELL 'sum', in the pinned program and in every row, IS THE sha256 OF THE DUMP (.gsa) THAT YtjjfjgdhloideaaProg.lean LOADS. Nothing in Lean hashes anything: it is a label: what it is worth is what the hold of that sum in a sandbox is worth. -/
noncomputable def Try.pinned : Pinned := { name := "ytjjfjgdhloideaa", sum := "3b4d111c7c13666cc1717cb80f7fef31b315ba682bcdc17dec59362534829b95", checked := Try.checked }
namespace Rows
def none {H : Type} : Left H := { results := [], args := [] }

/-- 'laws.FnExactGateNew': WHATEVER THE INPUT: true; the input reads as it did. -/
def fnExactGateNewSpec : ChangeSpec := { name := "fnExactGateNew", fn := fun _ => fun
  | [d] => { results := [.lit (.bool true)], args := [d] }
  | _ => none }
def fnExactGateNewRow : OpenClaim := { program := "ytjjfjgdhloideaa", sum := "3b4d111c7c13666cc1717cb80f7fef31b315ba682bcdc17dec59362534829b95", func := "loop.example/g00096/laws.FnExactGateNew", spec := "fnExactGateNew", apart := false }
def FnExactGateNewSaid : Prop := fnExactGateNewRow.holds Try.pinned (OpenSpec.ofChange fnExactGateNewSpec)

/-- ITS FALSE NEIGHBOUR: 'it returns false'. Refute it at one input. -/
def fnExactGateNewWrong : ChangeSpec := { name := "fnExactGateNew", fn := fun _ => fun
  | [d] => { results := [.lit (.bool false)], args := [d] }
  | _ => none }
def FnExactGateNewWrongFalsely : Prop := fnExactGateNewRow.holds Try.pinned (OpenSpec.ofChange fnExactGateNewWrong)

/-- 'laws.FnExactBookItems': WHATEVER THE INPUT: true; the input reads as it did. -/
def fnExactBookItemsSpec : ChangeSpec := { name := "fnExactBookItems", fn := fun _ => fun
  | [d] => { results := [.lit (.bool true)], args := [d] }
  | _ => none }
def fnExactBookItemsRow : OpenClaim := { program := "ytjjfjgdhloideaa", sum := "3b4d111c7c13666cc1717cb80f7fef31b315ba682bcdc17dec59362534829b95", func := "loop.example/g00096/laws.FnExactBookItems", spec := "fnExactBookItems", recurses := true, apart := false }
def FnExactBookItemsSaid : Prop := fnExactBookItemsRow.holds Try.pinned (OpenSpec.ofChange fnExactBookItemsSpec)

/-- ITS FALSE NEIGHBOUR: 'it returns false'. Refute it at one input. -/
def fnExactBookItemsWrong : ChangeSpec := { name := "fnExactBookItems", fn := fun _ => fun
  | [d] => { results := [.lit (.bool false)], args := [d] }
  | _ => none }
def FnExactBookItemsWrongFalsely : Prop := fnExactBookItemsRow.holds Try.pinned (OpenSpec.ofChange fnExactBookItemsWrong)

/-- 'laws.FnExactGateRight': WHATEVER THE INPUT: true; the input reads as it did. -/
def fnExactGateRightSpec : ChangeSpec := { name := "fnExactGateRight", fn := fun _ => fun
  | [d] => { results := [.lit (.bool true)], args := [d] }
  | _ => none }
def fnExactGateRightRow : OpenClaim := { program := "ytjjfjgdhloideaa", sum := "3b4d111c7c13666cc1717cb80f7fef31b315ba682bcdc17dec59362534829b95", func := "loop.example/g00096/laws.FnExactGateRight", spec := "fnExactGateRight", unfollowed := true, recurses := true, apart := false }
def FnExactGateRightSaid : Prop := fnExactGateRightRow.holds Try.pinned (OpenSpec.ofChange fnExactGateRightSpec)

/-- ITS FALSE NEIGHBOUR: 'it returns false'. Refute it at one input. -/
def fnExactGateRightWrong : ChangeSpec := { name := "fnExactGateRight", fn := fun _ => fun
  | [d] => { results := [.lit (.bool false)], args := [d] }
  | _ => none }
def FnExactGateRightWrongFalsely : Prop := fnExactGateRightRow.holds Try.pinned (OpenSpec.ofChange fnExactGateRightWrong)

/- THE SECOND FORM. 'bulk': how many values and letters a reading holds, each counted each time it is reached (what is shared counts as often as it is met; a slice's spare places count too). A statement '..UptoSaid' is the law's where the arguments, and the package variables that the reading takes, are together of bulk at most 1048576: NARROWER than '..Said'. Prove '..Said' where nothing that the law and all that it calls make is longer than what came in: it says more and counts as full. Else prove '..UptoSaid'. A law counts once. -/
mutual
def uptoBulk {H : Type} : DataW H → Nat
  | .lit (.string bytes) => bytes.length + 1
  | .lit _ => 1
  | .nil => 1
  | .ptr d => uptoBulk d + 1
  | .slice elems spare => uptoBulkAll elems + uptoBulkAll spare + 1
  | .agg parts => uptoBulkAll parts + 1
  | .iface _ d => uptoBulk d + 1
  | .map entries => uptoBulkEntries entries + 1
  | .held _ => 1
def uptoBulkAll {H : Type} : List (DataW H) → Nat
  | [] => 0
  | d :: r => uptoBulk d + uptoBulkAll r
def uptoBulkEntries {H : Type} : List (Lit × DataW H) → Nat
  | [] => 0
  | x :: r => uptoBulkEntry x + uptoBulkEntries r
def uptoBulkEntry {H : Type} : Lit × DataW H → Nat
  | (.string bytes, d) => bytes.length + uptoBulk d + 1
  | (_, d) => uptoBulk d + 1
 end
def uptoSmall : (H : Type) → List (DataW H) → Bool := fun _ ds => decide (uptoBulkAll ds ≤ 1048576)
def OpenSpec.upto (s : _root_.Go.ChangeSpec) : _root_.Go.OpenSpec := { _root_.Go.OpenSpec.ofChange s with cond := some uptoSmall }

/-- 'laws.FnExactGateNew', WHERE WHAT IT READS IS OF BULK AT MOST 1048576: true; the input reads as it did. -/
def fnExactGateNewUptoRow : OpenClaim := { program := "ytjjfjgdhloideaa", sum := "3b4d111c7c13666cc1717cb80f7fef31b315ba682bcdc17dec59362534829b95", func := "loop.example/g00096/laws.FnExactGateNew", spec := "fnExactGateNew", apart := false, narrowed := true }
def FnExactGateNewUptoSaid : Prop := fnExactGateNewUptoRow.holds Try.pinned (OpenSpec.upto fnExactGateNewSpec)

/-- 'laws.FnExactBookItems', WHERE WHAT IT READS IS OF BULK AT MOST 1048576: true; the input reads as it did. -/
def fnExactBookItemsUptoRow : OpenClaim := { program := "ytjjfjgdhloideaa", sum := "3b4d111c7c13666cc1717cb80f7fef31b315ba682bcdc17dec59362534829b95", func := "loop.example/g00096/laws.FnExactBookItems", spec := "fnExactBookItems", recurses := true, apart := false, narrowed := true }
def FnExactBookItemsUptoSaid : Prop := fnExactBookItemsUptoRow.holds Try.pinned (OpenSpec.upto fnExactBookItemsSpec)

/-- 'laws.FnExactGateRight', WHERE WHAT IT READS IS OF BULK AT MOST 1048576: true; the input reads as it did. -/
def fnExactGateRightUptoRow : OpenClaim := { program := "ytjjfjgdhloideaa", sum := "3b4d111c7c13666cc1717cb80f7fef31b315ba682bcdc17dec59362534829b95", func := "loop.example/g00096/laws.FnExactGateRight", spec := "fnExactGateRight", unfollowed := true, recurses := true, apart := false, narrowed := true }
def FnExactGateRightUptoSaid : Prop := fnExactGateRightUptoRow.holds Try.pinned (OpenSpec.upto fnExactGateRightSpec)

end Rows
end Go.Proofs.Ytjjfjgdhloideaa

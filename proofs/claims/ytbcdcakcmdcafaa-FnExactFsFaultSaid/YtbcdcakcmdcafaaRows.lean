/-
  No cell of these rows narrows 'for every input' (looked for: loops, veiled, ifaces, maps, wideKeys, modest, calm, conditions, laid).
  DERIVED. THE GIVEN ROWS OF THIS SEAT. 5 by the template 'for every input the law returns true; each argument reads behind the call as it read before'; 0 by the template 'total and deterministic' (their statements: YtbcdcakcmdcafaaTotals.lean).
  GIVEN WITH THE SEED: the statements are not yours to turn. If you find one false, say at which input.
  Laid BY PROGRAM, IN A SANDBOX (cutbox-rows.mjs): the forced cells as the released guide's own fill.sh prints them over the translation 0a4ef4c28925ac12… (all of the seat's roots in one cut). By AI agents, Wed Nov 11 2026. No macro, syntax, notation, axiom, sorry.
-/
import Derived.Test.YtbcdcakcmdcafaaChecked
import GoSem.Claim
import GoSem.ClaimJoined
import GoSem.ClaimMapViews
import Derived.JoinedTies
import Derived.KernelRfl
namespace Go.Proofs.Ytbcdcakcmdcafaa
/- THE CELL 'sum', in the pinned program and in every row, IS THE sha256 OF THE DUMP (.gsa) THAT YtbcdcakcmdcafaaProg.lean LOADS. Nothing in Lean hashes anything: it is a label: what it is worth is what the hold of that sum in a sandbox is worth. -/
noncomputable def Try.pinned : Pinned := { name := "ytbcdcakcmdcafaa", sum := "0a4ef4c28925ac12fcb06f136bbde1994f94d53aaa843f2fd932353c43872041", checked := Try.checked }
namespace Rows
def none {H : Type} : Left H := { results := [], args := [] }

/-- 'laws.FnExactIsEmptyDir': WHATEVER THE INPUT: true; the input reads as it did. -/
def fnExactIsEmptyDirSpec : ChangeSpec := { name := "fnExactIsEmptyDir", fn := fun _ => fun
  | [d1, d2] => { results := [.lit (.bool true)], args := [d1, d2] }
  | _ => none }
def fnExactIsEmptyDirRow : OpenClaim := { program := "ytbcdcakcmdcafaa", sum := "0a4ef4c28925ac12fcb06f136bbde1994f94d53aaa843f2fd932353c43872041", func := "loop.example/g00295/laws.FnExactIsEmptyDir", spec := "fnExactIsEmptyDir", unfollowed := true, recurses := true, apart := false }
def FnExactIsEmptyDirSaid : Prop := fnExactIsEmptyDirRow.holds Try.pinned (OpenSpec.ofChange fnExactIsEmptyDirSpec)

/-- ITS FALSE NEIGHBOUR: 'it returns false'. Refute it at one input. -/
def fnExactIsEmptyDirWrong : ChangeSpec := { name := "fnExactIsEmptyDir", fn := fun _ => fun
  | [d1, d2] => { results := [.lit (.bool false)], args := [d1, d2] }
  | _ => none }
def FnExactIsEmptyDirWrongFalsely : Prop := fnExactIsEmptyDirRow.holds Try.pinned (OpenSpec.ofChange fnExactIsEmptyDirWrong)

/-- 'laws.FnExactLookName': WHATEVER THE INPUT: true; the input reads as it did. -/
def fnExactLookNameSpec : ChangeSpec := { name := "fnExactLookName", fn := fun _ => fun
  | [d1, d2, d3] => { results := [.lit (.bool true)], args := [d1, d2, d3] }
  | _ => none }
def fnExactLookNameRow : OpenClaim := { program := "ytbcdcakcmdcafaa", sum := "0a4ef4c28925ac12fcb06f136bbde1994f94d53aaa843f2fd932353c43872041", func := "loop.example/g00295/laws.FnExactLookName", spec := "fnExactLookName", unfollowed := true, recurses := true, apart := false }
def FnExactLookNameSaid : Prop := fnExactLookNameRow.holds Try.pinned (OpenSpec.ofChange fnExactLookNameSpec)

/-- ITS FALSE NEIGHBOUR: 'it returns false'. Refute it at one input. -/
def fnExactLookNameWrong : ChangeSpec := { name := "fnExactLookName", fn := fun _ => fun
  | [d1, d2, d3] => { results := [.lit (.bool false)], args := [d1, d2, d3] }
  | _ => none }
def FnExactLookNameWrongFalsely : Prop := fnExactLookNameRow.holds Try.pinned (OpenSpec.ofChange fnExactLookNameWrong)

/-- 'laws.FnExactReachOf': WHATEVER THE INPUT: true; the input reads as it did. -/
def fnExactReachOfSpec : ChangeSpec := { name := "fnExactReachOf", fn := fun _ => fun
  | [d] => { results := [.lit (.bool true)], args := [d] }
  | _ => none }
def fnExactReachOfRow : OpenClaim := { program := "ytbcdcakcmdcafaa", sum := "0a4ef4c28925ac12fcb06f136bbde1994f94d53aaa843f2fd932353c43872041", func := "loop.example/g00295/laws.FnExactReachOf", spec := "fnExactReachOf", unfollowed := true, recurses := true, apart := false }
def FnExactReachOfSaid : Prop := fnExactReachOfRow.holds Try.pinned (OpenSpec.ofChange fnExactReachOfSpec)

/-- ITS FALSE NEIGHBOUR: 'it returns false'. Refute it at one input. -/
def fnExactReachOfWrong : ChangeSpec := { name := "fnExactReachOf", fn := fun _ => fun
  | [d] => { results := [.lit (.bool false)], args := [d] }
  | _ => none }
def FnExactReachOfWrongFalsely : Prop := fnExactReachOfRow.holds Try.pinned (OpenSpec.ofChange fnExactReachOfWrong)

/-- 'laws.FnExactNamesIn': WHATEVER THE INPUT: true; the input reads as it did. -/
def fnExactNamesInSpec : ChangeSpec := { name := "fnExactNamesIn", fn := fun _ => fun
  | [d1, d2] => { results := [.lit (.bool true)], args := [d1, d2] }
  | _ => none }
def fnExactNamesInRow : OpenClaim := { program := "ytbcdcakcmdcafaa", sum := "0a4ef4c28925ac12fcb06f136bbde1994f94d53aaa843f2fd932353c43872041", func := "loop.example/g00295/laws.FnExactNamesIn", spec := "fnExactNamesIn", unfollowed := true, recurses := true, apart := false }
def FnExactNamesInSaid : Prop := fnExactNamesInRow.holds Try.pinned (OpenSpec.ofChange fnExactNamesInSpec)

/-- ITS FALSE NEIGHBOUR: 'it returns false'. Refute it at one input. -/
def fnExactNamesInWrong : ChangeSpec := { name := "fnExactNamesIn", fn := fun _ => fun
  | [d1, d2] => { results := [.lit (.bool false)], args := [d1, d2] }
  | _ => none }
def FnExactNamesInWrongFalsely : Prop := fnExactNamesInRow.holds Try.pinned (OpenSpec.ofChange fnExactNamesInWrong)

/-- 'laws.FnExactFsFault': WHATEVER THE INPUT: true; the input reads as it did. -/
def fnExactFsFaultSpec : ChangeSpec := { name := "fnExactFsFault", fn := fun _ => fun
  | [d] => { results := [.lit (.bool true)], args := [d] }
  | _ => none }
def fnExactFsFaultRow : OpenClaim := { program := "ytbcdcakcmdcafaa", sum := "0a4ef4c28925ac12fcb06f136bbde1994f94d53aaa843f2fd932353c43872041", func := "loop.example/g00295/laws.FnExactFsFault", spec := "fnExactFsFault", unfollowed := true, recurses := true, apart := false }
def FnExactFsFaultSaid : Prop := fnExactFsFaultRow.holds Try.pinned (OpenSpec.ofChange fnExactFsFaultSpec)

/-- ITS FALSE NEIGHBOUR: 'it returns false'. Refute it at one input. -/
def fnExactFsFaultWrong : ChangeSpec := { name := "fnExactFsFault", fn := fun _ => fun
  | [d] => { results := [.lit (.bool false)], args := [d] }
  | _ => none }
def FnExactFsFaultWrongFalsely : Prop := fnExactFsFaultRow.holds Try.pinned (OpenSpec.ofChange fnExactFsFaultWrong)

/- THE SECOND FORM. 'bulk': how many values and letters a reading holds, each counted each time it is reached (what is shared counts as often as it is met; a slice's spare places count too). A statement '..UptoSaid' is the law's where the arguments, and the package variables that the reading takes, are together of bulk at most 1048576: NARROWER than '..Said'. Prove '..Said' where nothing that the law and all that it calls make is longer than what came in: it says more and counts as full. Else prove '..UptoSaid'. A law counts once. -/
mutual
def uptoBulk {H : Type} : DataW H → Nat
  | .lit (.string bytes) => bytes.length + 1
  | .lit _ => 1
  | .nil => 1
  | .ptr d => uptoBulk d + 1
  | .slice elems spare => uptoBulkAll elems + uptoBulkAll spare + 1
  | .agg parts => uptoBulkAll parts + 1
  | .iface _ d => uptoBulk d + 1
  | .map entries => uptoBulkEntries entries + 1
  | .held _ => 1
def uptoBulkAll {H : Type} : List (DataW H) → Nat
  | [] => 0
  | d :: r => uptoBulk d + uptoBulkAll r
def uptoBulkEntries {H : Type} : List (Lit × DataW H) → Nat
  | [] => 0
  | x :: r => uptoBulkEntry x + uptoBulkEntries r
def uptoBulkEntry {H : Type} : Lit × DataW H → Nat
  | (.string bytes, d) => bytes.length + uptoBulk d + 1
  | (_, d) => uptoBulk d + 1
 end
def uptoSmall : (H : Type) → List (DataW H) → Bool := fun _ ds => decide (uptoBulkAll ds ≤ 1048576)
def OpenSpec.upto (s : _root_.Go.ChangeSpec) : _root_.Go.OpenSpec := { _root_.Go.OpenSpec.ofChange s with cond := some uptoSmall }

/-- 'laws.FnExactIsEmptyDir', WHERE WHAT IT READS IS OF BULK AT MOST 1048576: true; the input reads as it did. -/
def fnExactIsEmptyDirUptoRow : OpenClaim := { program := "ytbcdcakcmdcafaa", sum := "0a4ef4c28925ac12fcb06f136bbde1994f94d53aaa843f2fd932353c43872041", func := "loop.example/g00295/laws.FnExactIsEmptyDir", spec := "fnExactIsEmptyDir", unfollowed := true, recurses := true, apart := false, narrowed := true }
def FnExactIsEmptyDirUptoSaid : Prop := fnExactIsEmptyDirUptoRow.holds Try.pinned (OpenSpec.upto fnExactIsEmptyDirSpec)

/-- 'laws.FnExactLookName', WHERE WHAT IT READS IS OF BULK AT MOST 1048576: true; the input reads as it did. -/
def fnExactLookNameUptoRow : OpenClaim := { program := "ytbcdcakcmdcafaa", sum := "0a4ef4c28925ac12fcb06f136bbde1994f94d53aaa843f2fd932353c43872041", func := "loop.example/g00295/laws.FnExactLookName", spec := "fnExactLookName", unfollowed := true, recurses := true, apart := false, narrowed := true }
def FnExactLookNameUptoSaid : Prop := fnExactLookNameUptoRow.holds Try.pinned (OpenSpec.upto fnExactLookNameSpec)

/-- 'laws.FnExactReachOf', WHERE WHAT IT READS IS OF BULK AT MOST 1048576: true; the input reads as it did. -/
def fnExactReachOfUptoRow : OpenClaim := { program := "ytbcdcakcmdcafaa", sum := "0a4ef4c28925ac12fcb06f136bbde1994f94d53aaa843f2fd932353c43872041", func := "loop.example/g00295/laws.FnExactReachOf", spec := "fnExactReachOf", unfollowed := true, recurses := true, apart := false, narrowed := true }
def FnExactReachOfUptoSaid : Prop := fnExactReachOfUptoRow.holds Try.pinned (OpenSpec.upto fnExactReachOfSpec)

/-- 'laws.FnExactNamesIn', WHERE WHAT IT READS IS OF BULK AT MOST 1048576: true; the input reads as it did. -/
def fnExactNamesInUptoRow : OpenClaim := { program := "ytbcdcakcmdcafaa", sum := "0a4ef4c28925ac12fcb06f136bbde1994f94d53aaa843f2fd932353c43872041", func := "loop.example/g00295/laws.FnExactNamesIn", spec := "fnExactNamesIn", unfollowed := true, recurses := true, apart := false, narrowed := true }
def FnExactNamesInUptoSaid : Prop := fnExactNamesInUptoRow.holds Try.pinned (OpenSpec.upto fnExactNamesInSpec)

/-- 'laws.FnExactFsFault', WHERE WHAT IT READS IS OF BULK AT MOST 1048576: true; the input reads as it did. -/
def fnExactFsFaultUptoRow : OpenClaim := { program := "ytbcdcakcmdcafaa", sum := "0a4ef4c28925ac12fcb06f136bbde1994f94d53aaa843f2fd932353c43872041", func := "loop.example/g00295/laws.FnExactFsFault", spec := "fnExactFsFault", unfollowed := true, recurses := true, apart := false, narrowed := true }
def FnExactFsFaultUptoSaid : Prop := fnExactFsFaultUptoRow.holds Try.pinned (OpenSpec.upto fnExactFsFaultSpec)

end Rows
end Go.Proofs.Ytbcdcakcmdcafaa

/-
  No cell of these rows narrows 'for every input' (looked for: loops, veiled, ifaces, maps, wideKeys, modest, calm, conditions, laid).
  DERIVED. THE GIVEN ROWS OF THIS SEAT. 7 by the template 'for every input the law returns true; each argument reads behind the call as it read before'; 0 by the template 'total and deterministic' (their statements: YtbcdcakcmdcafaaGreatTotals.lean).
  GIVEN WITH THE SEED: the statements are not yours to turn. If you find one false, say at which input.
  Laid BY PROGRAM, IN A SANDBOX (cutbox-rows.mjs): the forced cells as the released guide's own fill.sh prints them over the translation dfd604c9a5afa1ea… (all of the seat's roots in one cut). By AI agents, Wed Nov 11 2026. No macro, syntax, notation, axiom, sorry.
-/
import Derived.Test.YtbcdcakcmdcafaaGreatChecked
import GoSem.Claim
import GoSem.ClaimJoined
import GoSem.ClaimMapViews
import Derived.JoinedTies
import Derived.KernelRfl
namespace Go.Proofs.YtbcdcakcmdcafaaGreat
/- THE CELL 'sum', in the pinned program and in every row, IS THE sha256 OF THE DUMP (.gsa) THAT YtbcdcakcmdcafaaGreatProg.lean LOADS. Nothing in Lean hashes anything: it is a label: what it is worth is what the hold of that sum in a sandbox is worth. -/
noncomputable def Tryz.pinned : Pinned := { name := "ytbcdcakcmdcafaagreat", sum := "dfd604c9a5afa1eaf63345c4537265d1967ad5b1dd51005896ae1889342003b1", checked := Tryz.checked }
namespace Rows
def none {H : Type} : Left H := { results := [], args := [] }

/-- 'laws.FnExactNewFs': WHATEVER THE INPUT: true; the input reads as it did. -/
def fnExactNewFsSpec : ChangeSpec := { name := "fnExactNewFs", fn := fun _ => fun
  | [d] => { results := [.lit (.bool true)], args := [d] }
  | _ => none }
def fnExactNewFsRow : OpenClaim := { program := "ytbcdcakcmdcafaagreat", sum := "dfd604c9a5afa1eaf63345c4537265d1967ad5b1dd51005896ae1889342003b1", func := "loop.example/g00295/laws.FnExactNewFs", spec := "fnExactNewFs", unfollowed := true, recurses := true, apart := false }
def FnExactNewFsSaid : Prop := fnExactNewFsRow.holds Tryz.pinned (OpenSpec.ofChange fnExactNewFsSpec)

/-- ITS FALSE NEIGHBOUR: 'it returns false'. Refute it at one input. -/
def fnExactNewFsWrong : ChangeSpec := { name := "fnExactNewFs", fn := fun _ => fun
  | [d] => { results := [.lit (.bool false)], args := [d] }
  | _ => none }
def FnExactNewFsWrongFalsely : Prop := fnExactNewFsRow.holds Tryz.pinned (OpenSpec.ofChange fnExactNewFsWrong)

/-- 'laws.FnExactBytesIn': WHATEVER THE INPUT: true; the input reads as it did. -/
def fnExactBytesInSpec : ChangeSpec := { name := "fnExactBytesIn", fn := fun _ => fun
  | [d1, d2] => { results := [.lit (.bool true)], args := [d1, d2] }
  | _ => none }
def fnExactBytesInRow : OpenClaim := { program := "ytbcdcakcmdcafaagreat", sum := "dfd604c9a5afa1eaf63345c4537265d1967ad5b1dd51005896ae1889342003b1", func := "loop.example/g00295/laws.FnExactBytesIn", spec := "fnExactBytesIn", unfollowed := true, recurses := true, apart := false }
def FnExactBytesInSaid : Prop := fnExactBytesInRow.holds Tryz.pinned (OpenSpec.ofChange fnExactBytesInSpec)

/-- ITS FALSE NEIGHBOUR: 'it returns false'. Refute it at one input. -/
def fnExactBytesInWrong : ChangeSpec := { name := "fnExactBytesIn", fn := fun _ => fun
  | [d1, d2] => { results := [.lit (.bool false)], args := [d1, d2] }
  | _ => none }
def FnExactBytesInWrongFalsely : Prop := fnExactBytesInRow.holds Tryz.pinned (OpenSpec.ofChange fnExactBytesInWrong)

/-- 'laws.FnExactReadFile': WHATEVER THE INPUT: true; the input reads as it did. -/
def fnExactReadFileSpec : ChangeSpec := { name := "fnExactReadFile", fn := fun _ => fun
  | [d1, d2, d3, d4] => { results := [.lit (.bool true)], args := [d1, d2, d3, d4] }
  | _ => none }
def fnExactReadFileRow : OpenClaim := { program := "ytbcdcakcmdcafaagreat", sum := "dfd604c9a5afa1eaf63345c4537265d1967ad5b1dd51005896ae1889342003b1", func := "loop.example/g00295/laws.FnExactReadFile", spec := "fnExactReadFile", unfollowed := true, recurses := true, apart := false }
def FnExactReadFileSaid : Prop := fnExactReadFileRow.holds Tryz.pinned (OpenSpec.ofChange fnExactReadFileSpec)

/-- ITS FALSE NEIGHBOUR: 'it returns false'. Refute it at one input. -/
def fnExactReadFileWrong : ChangeSpec := { name := "fnExactReadFile", fn := fun _ => fun
  | [d1, d2, d3, d4] => { results := [.lit (.bool false)], args := [d1, d2, d3, d4] }
  | _ => none }
def FnExactReadFileWrongFalsely : Prop := fnExactReadFileRow.holds Tryz.pinned (OpenSpec.ofChange fnExactReadFileWrong)

/-- 'laws.FnExactDropName': WHATEVER THE INPUT: true; the input reads as it did. -/
def fnExactDropNameSpec : ChangeSpec := { name := "fnExactDropName", fn := fun _ => fun
  | [d1, d2, d3] => { results := [.lit (.bool true)], args := [d1, d2, d3] }
  | _ => none }
def fnExactDropNameRow : OpenClaim := { program := "ytbcdcakcmdcafaagreat", sum := "dfd604c9a5afa1eaf63345c4537265d1967ad5b1dd51005896ae1889342003b1", func := "loop.example/g00295/laws.FnExactDropName", spec := "fnExactDropName", unfollowed := true, recurses := true, apart := false }
def FnExactDropNameSaid : Prop := fnExactDropNameRow.holds Tryz.pinned (OpenSpec.ofChange fnExactDropNameSpec)

/-- ITS FALSE NEIGHBOUR: 'it returns false'. Refute it at one input. -/
def fnExactDropNameWrong : ChangeSpec := { name := "fnExactDropName", fn := fun _ => fun
  | [d1, d2, d3] => { results := [.lit (.bool false)], args := [d1, d2, d3] }
  | _ => none }
def FnExactDropNameWrongFalsely : Prop := fnExactDropNameRow.holds Tryz.pinned (OpenSpec.ofChange fnExactDropNameWrong)

/-- 'laws.FnExactDropFile': WHATEVER THE INPUT: true; the input reads as it did. -/
def fnExactDropFileSpec : ChangeSpec := { name := "fnExactDropFile", fn := fun _ => fun
  | [d1, d2] => { results := [.lit (.bool true)], args := [d1, d2] }
  | _ => none }
def fnExactDropFileRow : OpenClaim := { program := "ytbcdcakcmdcafaagreat", sum := "dfd604c9a5afa1eaf63345c4537265d1967ad5b1dd51005896ae1889342003b1", func := "loop.example/g00295/laws.FnExactDropFile", spec := "fnExactDropFile", unfollowed := true, recurses := true, apart := false }
def FnExactDropFileSaid : Prop := fnExactDropFileRow.holds Tryz.pinned (OpenSpec.ofChange fnExactDropFileSpec)

/-- ITS FALSE NEIGHBOUR: 'it returns false'. Refute it at one input. -/
def fnExactDropFileWrong : ChangeSpec := { name := "fnExactDropFile", fn := fun _ => fun
  | [d1, d2] => { results := [.lit (.bool false)], args := [d1, d2] }
  | _ => none }
def FnExactDropFileWrongFalsely : Prop := fnExactDropFileRow.holds Tryz.pinned (OpenSpec.ofChange fnExactDropFileWrong)

/-- 'laws.FnExactAddName': WHATEVER THE INPUT: true; the input reads as it did. -/
def fnExactAddNameSpec : ChangeSpec := { name := "fnExactAddName", fn := fun _ => fun
  | [d1, d2, d3, d4] => { results := [.lit (.bool true)], args := [d1, d2, d3, d4] }
  | _ => none }
def fnExactAddNameRow : OpenClaim := { program := "ytbcdcakcmdcafaagreat", sum := "dfd604c9a5afa1eaf63345c4537265d1967ad5b1dd51005896ae1889342003b1", func := "loop.example/g00295/laws.FnExactAddName", spec := "fnExactAddName", inPlace := ["slices.overlaps[loop.example/g00295/impl.Entry]"], unfollowed := true, recurses := true, apart := false }
def FnExactAddNameSaid : Prop := fnExactAddNameRow.holds Tryz.pinned (OpenSpec.ofChange fnExactAddNameSpec)

/-- ITS FALSE NEIGHBOUR: 'it returns false'. Refute it at one input. -/
def fnExactAddNameWrong : ChangeSpec := { name := "fnExactAddName", fn := fun _ => fun
  | [d1, d2, d3, d4] => { results := [.lit (.bool false)], args := [d1, d2, d3, d4] }
  | _ => none }
def FnExactAddNameWrongFalsely : Prop := fnExactAddNameRow.holds Tryz.pinned (OpenSpec.ofChange fnExactAddNameWrong)

/-- 'laws.FnTrees': WHATEVER THE INPUT: true; the input reads as it did. -/
def fnTreesSpec : ChangeSpec := { name := "fnTrees", fn := fun _ => fun
  | [d] => { results := [.lit (.bool true)], args := [d] }
  | _ => none }
def fnTreesRow : OpenClaim := { program := "ytbcdcakcmdcafaagreat", sum := "dfd604c9a5afa1eaf63345c4537265d1967ad5b1dd51005896ae1889342003b1", func := "loop.example/g00295/laws.FnTrees", spec := "fnTrees", unfollowed := true, recurses := true, apart := false }
def FnTreesSaid : Prop := fnTreesRow.holds Tryz.pinned (OpenSpec.ofChange fnTreesSpec)

/-- ITS FALSE NEIGHBOUR: 'it returns false'. Refute it at one input. -/
def fnTreesWrong : ChangeSpec := { name := "fnTrees", fn := fun _ => fun
  | [d] => { results := [.lit (.bool false)], args := [d] }
  | _ => none }
def FnTreesWrongFalsely : Prop := fnTreesRow.holds Tryz.pinned (OpenSpec.ofChange fnTreesWrong)

/- THE SECOND FORM. 'bulk': how many values and letters a reading holds, each counted each time it is reached (what is shared counts as often as it is met; a slice's spare places count too). A statement '..UptoSaid' is the law's where the arguments, and the package variables that the reading takes, are together of bulk at most 1048576: NARROWER than '..Said'. Prove '..Said' where nothing that the law and all that it calls make is longer than what came in: it says more and counts as full. Else prove '..UptoSaid'. A law counts once. -/
mutual
def uptoBulk {H : Type} : DataW H → Nat
  | .lit (.string bytes) => bytes.length + 1
  | .lit _ => 1
  | .nil => 1
  | .ptr d => uptoBulk d + 1
  | .slice elems spare => uptoBulkAll elems + uptoBulkAll spare + 1
  | .agg parts => uptoBulkAll parts + 1
  | .iface _ d => uptoBulk d + 1
  | .map entries => uptoBulkEntries entries + 1
  | .held _ => 1
def uptoBulkAll {H : Type} : List (DataW H) → Nat
  | [] => 0
  | d :: r => uptoBulk d + uptoBulkAll r
def uptoBulkEntries {H : Type} : List (Lit × DataW H) → Nat
  | [] => 0
  | x :: r => uptoBulkEntry x + uptoBulkEntries r
def uptoBulkEntry {H : Type} : Lit × DataW H → Nat
  | (.string bytes, d) => bytes.length + uptoBulk d + 1
  | (_, d) => uptoBulk d + 1
 end
def uptoSmall : (H : Type) → List (DataW H) → Bool := fun _ ds => decide (uptoBulkAll ds ≤ 1048576)
def OpenSpec.upto (s : _root_.Go.ChangeSpec) : _root_.Go.OpenSpec := { _root_.Go.OpenSpec.ofChange s with cond := some uptoSmall }

/-- 'laws.FnExactNewFs', WHERE WHAT IT READS IS OF BULK AT MOST 1048576: true; the input reads as it did. -/
def fnExactNewFsUptoRow : OpenClaim := { program := "ytbcdcakcmdcafaagreat", sum := "dfd604c9a5afa1eaf63345c4537265d1967ad5b1dd51005896ae1889342003b1", func := "loop.example/g00295/laws.FnExactNewFs", spec := "fnExactNewFs", unfollowed := true, recurses := true, apart := false, narrowed := true }
def FnExactNewFsUptoSaid : Prop := fnExactNewFsUptoRow.holds Tryz.pinned (OpenSpec.upto fnExactNewFsSpec)

/-- 'laws.FnExactBytesIn', WHERE WHAT IT READS IS OF BULK AT MOST 1048576: true; the input reads as it did. -/
def fnExactBytesInUptoRow : OpenClaim := { program := "ytbcdcakcmdcafaagreat", sum := "dfd604c9a5afa1eaf63345c4537265d1967ad5b1dd51005896ae1889342003b1", func := "loop.example/g00295/laws.FnExactBytesIn", spec := "fnExactBytesIn", unfollowed := true, recurses := true, apart := false, narrowed := true }
def FnExactBytesInUptoSaid : Prop := fnExactBytesInUptoRow.holds Tryz.pinned (OpenSpec.upto fnExactBytesInSpec)

/-- 'laws.FnExactReadFile', WHERE WHAT IT READS IS OF BULK AT MOST 1048576: true; the input reads as it did. -/
def fnExactReadFileUptoRow : OpenClaim := { program := "ytbcdcakcmdcafaagreat", sum := "dfd604c9a5afa1eaf63345c4537265d1967ad5b1dd51005896ae1889342003b1", func := "loop.example/g00295/laws.FnExactReadFile", spec := "fnExactReadFile", unfollowed := true, recurses := true, apart := false, narrowed := true }
def FnExactReadFileUptoSaid : Prop := fnExactReadFileUptoRow.holds Tryz.pinned (OpenSpec.upto fnExactReadFileSpec)

/-- 'laws.FnExactDropName', WHERE WHAT IT READS IS OF BULK AT MOST 1048576: true; the input reads as it did. -/
def fnExactDropNameUptoRow : OpenClaim := { program := "ytbcdcakcmdcafaagreat", sum := "dfd604c9a5afa1eaf63345c4537265d1967ad5b1dd51005896ae1889342003b1", func := "loop.example/g00295/laws.FnExactDropName", spec := "fnExactDropName", unfollowed := true, recurses := true, apart := false, narrowed := true }
def FnExactDropNameUptoSaid : Prop := fnExactDropNameUptoRow.holds Tryz.pinned (OpenSpec.upto fnExactDropNameSpec)

/-- 'laws.FnExactDropFile', WHERE WHAT IT READS IS OF BULK AT MOST 1048576: true; the input reads as it did. -/
def fnExactDropFileUptoRow : OpenClaim := { program := "ytbcdcakcmdcafaagreat", sum := "dfd604c9a5afa1eaf63345c4537265d1967ad5b1dd51005896ae1889342003b1", func := "loop.example/g00295/laws.FnExactDropFile", spec := "fnExactDropFile", unfollowed := true, recurses := true, apart := false, narrowed := true }
def FnExactDropFileUptoSaid : Prop := fnExactDropFileUptoRow.holds Tryz.pinned (OpenSpec.upto fnExactDropFileSpec)

/-- 'laws.FnExactAddName', WHERE WHAT IT READS IS OF BULK AT MOST 1048576: true; the input reads as it did. -/
def fnExactAddNameUptoRow : OpenClaim := { program := "ytbcdcakcmdcafaagreat", sum := "dfd604c9a5afa1eaf63345c4537265d1967ad5b1dd51005896ae1889342003b1", func := "loop.example/g00295/laws.FnExactAddName", spec := "fnExactAddName", inPlace := ["slices.overlaps[loop.example/g00295/impl.Entry]"], unfollowed := true, recurses := true, apart := false, narrowed := true }
def FnExactAddNameUptoSaid : Prop := fnExactAddNameUptoRow.holds Tryz.pinned (OpenSpec.upto fnExactAddNameSpec)

/-- 'laws.FnTrees', WHERE WHAT IT READS IS OF BULK AT MOST 1048576: true; the input reads as it did. -/
def fnTreesUptoRow : OpenClaim := { program := "ytbcdcakcmdcafaagreat", sum := "dfd604c9a5afa1eaf63345c4537265d1967ad5b1dd51005896ae1889342003b1", func := "loop.example/g00295/laws.FnTrees", spec := "fnTrees", unfollowed := true, recurses := true, apart := false, narrowed := true }
def FnTreesUptoSaid : Prop := fnTreesUptoRow.holds Tryz.pinned (OpenSpec.upto fnTreesSpec)

end Rows
end Go.Proofs.YtbcdcakcmdcafaaGreat

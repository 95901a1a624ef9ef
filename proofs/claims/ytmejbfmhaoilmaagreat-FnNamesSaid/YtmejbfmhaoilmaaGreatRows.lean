/-
  No cell of these rows narrows 'for every input' (looked for: loops, veiled, ifaces, maps, wideKeys, modest, calm, conditions, laid).
  DERIVED. THE GIVEN ROWS OF THIS SEAT. 5 by the template 'for every input the law returns true; each argument reads behind the call as it read before'; 0 by the template 'total and deterministic' (their statements: YtmejbfmhaoilmaaGreatTotals.lean).
  GIVEN WITH THE SEED: the statements are not yours to turn. If you find one false, say at which input.
  Laid BY PROGRAM, IN A SANDBOX (cutbox-rows.mjs): the forced cells as the released guide's own fill.sh prints them over the translation c33ff4a17d1d989e… (all of the seat's roots in one cut). By AI agents, Wed Nov 11 2026. No macro, syntax, notation, axiom, sorry.
-/
import Derived.Test.YtmejbfmhaoilmaaGreatChecked
import GoSem.Claim
import GoSem.ClaimJoined
import GoSem.ClaimMapViews
import Derived.JoinedTies
import Derived.KernelRfl
namespace Go.Proofs.YtmejbfmhaoilmaaGreat
/- THE CELL 'sum', in the pinned program and in every row, IS THE sha256 OF THE DUMP (.gsa) THAT YtmejbfmhaoilmaaGreatProg.lean LOADS. Nothing in Lean hashes anything: it is a label: what it is worth is what the hold of that sum in a sandbox is worth. -/
noncomputable def Tryz.pinned : Pinned := { name := "ytmejbfmhaoilmaagreat", sum := "c33ff4a17d1d989ee6c53797c51770bd14f12671ca3fb223ccd20790dd473efb", checked := Tryz.checked }
namespace Rows
def none {H : Type} : Left H := { results := [], args := [] }

/-- 'laws.FnReads': WHATEVER THE INPUT: true; the input reads as it did. -/
def fnReadsSpec : ChangeSpec := { name := "fnReads", fn := fun _ => fun
  | [d] => { results := [.lit (.bool true)], args := [d] }
  | _ => none }
def fnReadsRow : OpenClaim := { program := "ytmejbfmhaoilmaagreat", sum := "c33ff4a17d1d989ee6c53797c51770bd14f12671ca3fb223ccd20790dd473efb", func := "loop.example/g00295/laws.FnReads", spec := "fnReads", unfollowed := true, recurses := true, apart := false }
def FnReadsSaid : Prop := fnReadsRow.holds Tryz.pinned (OpenSpec.ofChange fnReadsSpec)

/-- ITS FALSE NEIGHBOUR: 'it returns false'. Refute it at one input. -/
def fnReadsWrong : ChangeSpec := { name := "fnReads", fn := fun _ => fun
  | [d] => { results := [.lit (.bool false)], args := [d] }
  | _ => none }
def FnReadsWrongFalsely : Prop := fnReadsRow.holds Tryz.pinned (OpenSpec.ofChange fnReadsWrong)

/-- 'laws.FnTrees': WHATEVER THE INPUT: true; the input reads as it did. -/
def fnTreesSpec : ChangeSpec := { name := "fnTrees", fn := fun _ => fun
  | [d] => { results := [.lit (.bool true)], args := [d] }
  | _ => none }
def fnTreesRow : OpenClaim := { program := "ytmejbfmhaoilmaagreat", sum := "c33ff4a17d1d989ee6c53797c51770bd14f12671ca3fb223ccd20790dd473efb", func := "loop.example/g00295/laws.FnTrees", spec := "fnTrees", unfollowed := true, recurses := true, apart := false }
def FnTreesSaid : Prop := fnTreesRow.holds Tryz.pinned (OpenSpec.ofChange fnTreesSpec)

/-- ITS FALSE NEIGHBOUR: 'it returns false'. Refute it at one input. -/
def fnTreesWrong : ChangeSpec := { name := "fnTrees", fn := fun _ => fun
  | [d] => { results := [.lit (.bool false)], args := [d] }
  | _ => none }
def FnTreesWrongFalsely : Prop := fnTreesRow.holds Tryz.pinned (OpenSpec.ofChange fnTreesWrong)

/-- 'laws.FnWrites': WHATEVER THE INPUT: true; the input reads as it did. -/
def fnWritesSpec : ChangeSpec := { name := "fnWrites", fn := fun _ => fun
  | [d] => { results := [.lit (.bool true)], args := [d] }
  | _ => none }
def fnWritesRow : OpenClaim := { program := "ytmejbfmhaoilmaagreat", sum := "c33ff4a17d1d989ee6c53797c51770bd14f12671ca3fb223ccd20790dd473efb", func := "loop.example/g00295/laws.FnWrites", spec := "fnWrites", unfollowed := true, recurses := true, apart := false }
def FnWritesSaid : Prop := fnWritesRow.holds Tryz.pinned (OpenSpec.ofChange fnWritesSpec)

/-- ITS FALSE NEIGHBOUR: 'it returns false'. Refute it at one input. -/
def fnWritesWrong : ChangeSpec := { name := "fnWrites", fn := fun _ => fun
  | [d] => { results := [.lit (.bool false)], args := [d] }
  | _ => none }
def FnWritesWrongFalsely : Prop := fnWritesRow.holds Tryz.pinned (OpenSpec.ofChange fnWritesWrong)

/-- 'laws.FnBusy': WHATEVER THE INPUT: true; the input reads as it did. -/
def fnBusySpec : ChangeSpec := { name := "fnBusy", fn := fun _ => fun
  | [d] => { results := [.lit (.bool true)], args := [d] }
  | _ => none }
def fnBusyRow : OpenClaim := { program := "ytmejbfmhaoilmaagreat", sum := "c33ff4a17d1d989ee6c53797c51770bd14f12671ca3fb223ccd20790dd473efb", func := "loop.example/g00295/laws.FnBusy", spec := "fnBusy", unfollowed := true, recurses := true, apart := false }
def FnBusySaid : Prop := fnBusyRow.holds Tryz.pinned (OpenSpec.ofChange fnBusySpec)

/-- ITS FALSE NEIGHBOUR: 'it returns false'. Refute it at one input. -/
def fnBusyWrong : ChangeSpec := { name := "fnBusy", fn := fun _ => fun
  | [d] => { results := [.lit (.bool false)], args := [d] }
  | _ => none }
def FnBusyWrongFalsely : Prop := fnBusyRow.holds Tryz.pinned (OpenSpec.ofChange fnBusyWrong)

/-- 'laws.FnNames': WHATEVER THE INPUT: true; the input reads as it did. -/
def fnNamesSpec : ChangeSpec := { name := "fnNames", fn := fun _ => fun
  | [d] => { results := [.lit (.bool true)], args := [d] }
  | _ => none }
def fnNamesRow : OpenClaim := { program := "ytmejbfmhaoilmaagreat", sum := "c33ff4a17d1d989ee6c53797c51770bd14f12671ca3fb223ccd20790dd473efb", func := "loop.example/g00295/laws.FnNames", spec := "fnNames", inPlace := ["slices.overlaps[loop.example/g00295/impl.Entry]"], unfollowed := true, recurses := true, apart := false }
def FnNamesSaid : Prop := fnNamesRow.holds Tryz.pinned (OpenSpec.ofChange fnNamesSpec)

/-- ITS FALSE NEIGHBOUR: 'it returns false'. Refute it at one input. -/
def fnNamesWrong : ChangeSpec := { name := "fnNames", fn := fun _ => fun
  | [d] => { results := [.lit (.bool false)], args := [d] }
  | _ => none }
def FnNamesWrongFalsely : Prop := fnNamesRow.holds Tryz.pinned (OpenSpec.ofChange fnNamesWrong)

/- THE SECOND FORM. 'bulk': how many values and letters a reading holds, each counted each time it is reached (what is shared counts as often as it is met; a slice's spare places count too). A statement '..UptoSaid' is the law's where the arguments, and the package variables that the reading takes, are together of bulk at most 1048576: NARROWER than '..Said'. Prove '..Said' where nothing that the law and all that it calls make is longer than what came in: it says more and counts as full. Else prove '..UptoSaid'. A law counts once. -/
mutual
def uptoBulk {H : Type} : DataW H → Nat
  | .lit (.string bytes) => bytes.length + 1
  | .lit _ => 1
  | .nil => 1
  | .ptr d => uptoBulk d + 1
  | .slice elems spare => uptoBulkAll elems + uptoBulkAll spare + 1
  | .agg parts => uptoBulkAll parts + 1
  | .iface _ d => uptoBulk d + 1
  | .map entries => uptoBulkEntries entries + 1
  | .held _ => 1
def uptoBulkAll {H : Type} : List (DataW H) → Nat
  | [] => 0
  | d :: r => uptoBulk d + uptoBulkAll r
def uptoBulkEntries {H : Type} : List (Lit × DataW H) → Nat
  | [] => 0
  | x :: r => uptoBulkEntry x + uptoBulkEntries r
def uptoBulkEntry {H : Type} : Lit × DataW H → Nat
  | (.string bytes, d) => bytes.length + uptoBulk d + 1
  | (_, d) => uptoBulk d + 1
 end
def uptoSmall : (H : Type) → List (DataW H) → Bool := fun _ ds => decide (uptoBulkAll ds ≤ 1048576)
def OpenSpec.upto (s : _root_.Go.ChangeSpec) : _root_.Go.OpenSpec := { _root_.Go.OpenSpec.ofChange s with cond := some uptoSmall }

/-- 'laws.FnReads', WHERE WHAT IT READS IS OF BULK AT MOST 1048576: true; the input reads as it did. -/
def fnReadsUptoRow : OpenClaim := { program := "ytmejbfmhaoilmaagreat", sum := "c33ff4a17d1d989ee6c53797c51770bd14f12671ca3fb223ccd20790dd473efb", func := "loop.example/g00295/laws.FnReads", spec := "fnReads", unfollowed := true, recurses := true, apart := false, narrowed := true }
def FnReadsUptoSaid : Prop := fnReadsUptoRow.holds Tryz.pinned (OpenSpec.upto fnReadsSpec)

/-- 'laws.FnTrees', WHERE WHAT IT READS IS OF BULK AT MOST 1048576: true; the input reads as it did. -/
def fnTreesUptoRow : OpenClaim := { program := "ytmejbfmhaoilmaagreat", sum := "c33ff4a17d1d989ee6c53797c51770bd14f12671ca3fb223ccd20790dd473efb", func := "loop.example/g00295/laws.FnTrees", spec := "fnTrees", unfollowed := true, recurses := true, apart := false, narrowed := true }
def FnTreesUptoSaid : Prop := fnTreesUptoRow.holds Tryz.pinned (OpenSpec.upto fnTreesSpec)

/-- 'laws.FnWrites', WHERE WHAT IT READS IS OF BULK AT MOST 1048576: true; the input reads as it did. -/
def fnWritesUptoRow : OpenClaim := { program := "ytmejbfmhaoilmaagreat", sum := "c33ff4a17d1d989ee6c53797c51770bd14f12671ca3fb223ccd20790dd473efb", func := "loop.example/g00295/laws.FnWrites", spec := "fnWrites", unfollowed := true, recurses := true, apart := false, narrowed := true }
def FnWritesUptoSaid : Prop := fnWritesUptoRow.holds Tryz.pinned (OpenSpec.upto fnWritesSpec)

/-- 'laws.FnBusy', WHERE WHAT IT READS IS OF BULK AT MOST 1048576: true; the input reads as it did. -/
def fnBusyUptoRow : OpenClaim := { program := "ytmejbfmhaoilmaagreat", sum := "c33ff4a17d1d989ee6c53797c51770bd14f12671ca3fb223ccd20790dd473efb", func := "loop.example/g00295/laws.FnBusy", spec := "fnBusy", unfollowed := true, recurses := true, apart := false, narrowed := true }
def FnBusyUptoSaid : Prop := fnBusyUptoRow.holds Tryz.pinned (OpenSpec.upto fnBusySpec)

/-- 'laws.FnNames', WHERE WHAT IT READS IS OF BULK AT MOST 1048576: true; the input reads as it did. -/
def fnNamesUptoRow : OpenClaim := { program := "ytmejbfmhaoilmaagreat", sum := "c33ff4a17d1d989ee6c53797c51770bd14f12671ca3fb223ccd20790dd473efb", func := "loop.example/g00295/laws.FnNames", spec := "fnNames", inPlace := ["slices.overlaps[loop.example/g00295/impl.Entry]"], unfollowed := true, recurses := true, apart := false, narrowed := true }
def FnNamesUptoSaid : Prop := fnNamesUptoRow.holds Tryz.pinned (OpenSpec.upto fnNamesSpec)

end Rows
end Go.Proofs.YtmejbfmhaoilmaaGreat

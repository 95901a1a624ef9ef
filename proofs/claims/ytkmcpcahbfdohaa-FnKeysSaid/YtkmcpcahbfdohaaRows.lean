/-
  No cell of these rows narrows 'for every input' (looked for: loops, veiled, ifaces, maps, wideKeys, modest, calm, conditions, laid).
  DERIVED. THE GIVEN ROWS OF THIS SEAT. 17 by the template 'for every input the law returns true; each argument reads behind the call as it read before'; 0 by the template 'total and deterministic' (their statements: YtkmcpcahbfdohaaTotals.lean).
  GIVEN WITH THE SEED: the statements are not yours to turn. If you find one false, say at which input.
  Laid BY PROGRAM, IN A SANDBOX (cutbox-rows.mjs): the forced cells as the released guide's own fill.sh prints them over the translation dde7d45e51521c32… (all of the seat's roots in one cut). By AI agents, Wed Nov 11 2026. No macro, syntax, notation, axiom, sorry.
-/
import Derived.Test.YtkmcpcahbfdohaaChecked
import GoSem.Claim
import GoSem.ClaimJoined
import GoSem.ClaimMapViews
import Derived.JoinedTies
import Derived.KernelRfl
namespace Go.Proofs.Ytkmcpcahbfdohaa
/- THE CELL 'sum', in the pinned program and in every row, IS THE sha256 OF THE DUMP (.gsa) THAT YtkmcpcahbfdohaaProg.lean LOADS. Nothing in Lean hashes anything: it is a label: what it is worth is what the hold of that sum in a sandbox is worth. -/
noncomputable def Try.pinned : Pinned := { name := "ytkmcpcahbfdohaa", sum := "dde7d45e51521c32def7e4a0dfb1946e9f758c256d782b7a53c1288c4b3fdb8a", checked := Try.checked }
namespace Rows
def none {H : Type} : Left H := { results := [], args := [] }

/-- 'laws.FnExactNewDisk': WHATEVER THE INPUT: true; the input reads as it did. -/
def fnExactNewDiskSpec : ChangeSpec := { name := "fnExactNewDisk", fn := fun _ => fun
  | [d] => { results := [.lit (.bool true)], args := [d] }
  | _ => none }
def fnExactNewDiskRow : OpenClaim := { program := "ytkmcpcahbfdohaa", sum := "dde7d45e51521c32def7e4a0dfb1946e9f758c256d782b7a53c1288c4b3fdb8a", func := "loop.example/g00295/laws.FnExactNewDisk", spec := "fnExactNewDisk", apart := false }
def FnExactNewDiskSaid : Prop := fnExactNewDiskRow.holds Try.pinned (OpenSpec.ofChange fnExactNewDiskSpec)

/-- ITS FALSE NEIGHBOUR: 'it returns false'. Refute it at one input. -/
def fnExactNewDiskWrong : ChangeSpec := { name := "fnExactNewDisk", fn := fun _ => fun
  | [d] => { results := [.lit (.bool false)], args := [d] }
  | _ => none }
def FnExactNewDiskWrongFalsely : Prop := fnExactNewDiskRow.holds Try.pinned (OpenSpec.ofChange fnExactNewDiskWrong)

/-- 'laws.FnExactDiskFault': WHATEVER THE INPUT: true; the input reads as it did. -/
def fnExactDiskFaultSpec : ChangeSpec := { name := "fnExactDiskFault", fn := fun _ => fun
  | [d] => { results := [.lit (.bool true)], args := [d] }
  | _ => none }
def fnExactDiskFaultRow : OpenClaim := { program := "ytkmcpcahbfdohaa", sum := "dde7d45e51521c32def7e4a0dfb1946e9f758c256d782b7a53c1288c4b3fdb8a", func := "loop.example/g00295/laws.FnExactDiskFault", spec := "fnExactDiskFault", unfollowed := true, recurses := true, apart := false }
def FnExactDiskFaultSaid : Prop := fnExactDiskFaultRow.holds Try.pinned (OpenSpec.ofChange fnExactDiskFaultSpec)

/-- ITS FALSE NEIGHBOUR: 'it returns false'. Refute it at one input. -/
def fnExactDiskFaultWrong : ChangeSpec := { name := "fnExactDiskFault", fn := fun _ => fun
  | [d] => { results := [.lit (.bool false)], args := [d] }
  | _ => none }
def FnExactDiskFaultWrongFalsely : Prop := fnExactDiskFaultRow.holds Try.pinned (OpenSpec.ofChange fnExactDiskFaultWrong)

/-- 'laws.FnExactNewKern': WHATEVER THE INPUT: true; the input reads as it did. -/
def fnExactNewKernSpec : ChangeSpec := { name := "fnExactNewKern", fn := fun _ => fun
  | [d] => { results := [.lit (.bool true)], args := [d] }
  | _ => none }
def fnExactNewKernRow : OpenClaim := { program := "ytkmcpcahbfdohaa", sum := "dde7d45e51521c32def7e4a0dfb1946e9f758c256d782b7a53c1288c4b3fdb8a", func := "loop.example/g00295/laws.FnExactNewKern", spec := "fnExactNewKern", apart := false }
def FnExactNewKernSaid : Prop := fnExactNewKernRow.holds Try.pinned (OpenSpec.ofChange fnExactNewKernSpec)

/-- ITS FALSE NEIGHBOUR: 'it returns false'. Refute it at one input. -/
def fnExactNewKernWrong : ChangeSpec := { name := "fnExactNewKern", fn := fun _ => fun
  | [d] => { results := [.lit (.bool false)], args := [d] }
  | _ => none }
def FnExactNewKernWrongFalsely : Prop := fnExactNewKernRow.holds Try.pinned (OpenSpec.ofChange fnExactNewKernWrong)

/-- 'laws.FnDisks': WHATEVER THE INPUT: true; the input reads as it did. -/
def fnDisksSpec : ChangeSpec := { name := "fnDisks", fn := fun _ => fun
  | [d] => { results := [.lit (.bool true)], args := [d] }
  | _ => none }
def fnDisksRow : OpenClaim := { program := "ytkmcpcahbfdohaa", sum := "dde7d45e51521c32def7e4a0dfb1946e9f758c256d782b7a53c1288c4b3fdb8a", func := "loop.example/g00295/laws.FnDisks", spec := "fnDisks", unfollowed := true, recurses := true, apart := false }
def FnDisksSaid : Prop := fnDisksRow.holds Try.pinned (OpenSpec.ofChange fnDisksSpec)

/-- ITS FALSE NEIGHBOUR: 'it returns false'. Refute it at one input. -/
def fnDisksWrong : ChangeSpec := { name := "fnDisks", fn := fun _ => fun
  | [d] => { results := [.lit (.bool false)], args := [d] }
  | _ => none }
def FnDisksWrongFalsely : Prop := fnDisksRow.holds Try.pinned (OpenSpec.ofChange fnDisksWrong)

/-- 'laws.FnExactBlockAt': WHATEVER THE INPUT: true; the input reads as it did. -/
def fnExactBlockAtSpec : ChangeSpec := { name := "fnExactBlockAt", fn := fun _ => fun
  | [d1, d2] => { results := [.lit (.bool true)], args := [d1, d2] }
  | _ => none }
def fnExactBlockAtRow : OpenClaim := { program := "ytkmcpcahbfdohaa", sum := "dde7d45e51521c32def7e4a0dfb1946e9f758c256d782b7a53c1288c4b3fdb8a", func := "loop.example/g00295/laws.FnExactBlockAt", spec := "fnExactBlockAt", unfollowed := true, recurses := true, apart := false }
def FnExactBlockAtSaid : Prop := fnExactBlockAtRow.holds Try.pinned (OpenSpec.ofChange fnExactBlockAtSpec)

/-- ITS FALSE NEIGHBOUR: 'it returns false'. Refute it at one input. -/
def fnExactBlockAtWrong : ChangeSpec := { name := "fnExactBlockAt", fn := fun _ => fun
  | [d1, d2] => { results := [.lit (.bool false)], args := [d1, d2] }
  | _ => none }
def FnExactBlockAtWrongFalsely : Prop := fnExactBlockAtRow.holds Try.pinned (OpenSpec.ofChange fnExactBlockAtWrong)

/-- 'laws.FnExactKernFault': WHATEVER THE INPUT: true; the input reads as it did. -/
def fnExactKernFaultSpec : ChangeSpec := { name := "fnExactKernFault", fn := fun _ => fun
  | [d] => { results := [.lit (.bool true)], args := [d] }
  | _ => none }
def fnExactKernFaultRow : OpenClaim := { program := "ytkmcpcahbfdohaa", sum := "dde7d45e51521c32def7e4a0dfb1946e9f758c256d782b7a53c1288c4b3fdb8a", func := "loop.example/g00295/laws.FnExactKernFault", spec := "fnExactKernFault", unfollowed := true, recurses := true, apart := false }
def FnExactKernFaultSaid : Prop := fnExactKernFaultRow.holds Try.pinned (OpenSpec.ofChange fnExactKernFaultSpec)

/-- ITS FALSE NEIGHBOUR: 'it returns false'. Refute it at one input. -/
def fnExactKernFaultWrong : ChangeSpec := { name := "fnExactKernFault", fn := fun _ => fun
  | [d] => { results := [.lit (.bool false)], args := [d] }
  | _ => none }
def FnExactKernFaultWrongFalsely : Prop := fnExactKernFaultRow.holds Try.pinned (OpenSpec.ofChange fnExactKernFaultWrong)

/-- 'laws.FnExactFlushDisk': WHATEVER THE INPUT: true; the input reads as it did. -/
def fnExactFlushDiskSpec : ChangeSpec := { name := "fnExactFlushDisk", fn := fun _ => fun
  | [d] => { results := [.lit (.bool true)], args := [d] }
  | _ => none }
def fnExactFlushDiskRow : OpenClaim := { program := "ytkmcpcahbfdohaa", sum := "dde7d45e51521c32def7e4a0dfb1946e9f758c256d782b7a53c1288c4b3fdb8a", func := "loop.example/g00295/laws.FnExactFlushDisk", spec := "fnExactFlushDisk", unfollowed := true, recurses := true, apart := false }
def FnExactFlushDiskSaid : Prop := fnExactFlushDiskRow.holds Try.pinned (OpenSpec.ofChange fnExactFlushDiskSpec)

/-- ITS FALSE NEIGHBOUR: 'it returns false'. Refute it at one input. -/
def fnExactFlushDiskWrong : ChangeSpec := { name := "fnExactFlushDisk", fn := fun _ => fun
  | [d] => { results := [.lit (.bool false)], args := [d] }
  | _ => none }
def FnExactFlushDiskWrongFalsely : Prop := fnExactFlushDiskRow.holds Try.pinned (OpenSpec.ofChange fnExactFlushDiskWrong)

/-- 'laws.FnExactOwnerOf': WHATEVER THE INPUT: true; the input reads as it did. -/
def fnExactOwnerOfSpec : ChangeSpec := { name := "fnExactOwnerOf", fn := fun _ => fun
  | [d1, d2] => { results := [.lit (.bool true)], args := [d1, d2] }
  | _ => none }
def fnExactOwnerOfRow : OpenClaim := { program := "ytkmcpcahbfdohaa", sum := "dde7d45e51521c32def7e4a0dfb1946e9f758c256d782b7a53c1288c4b3fdb8a", func := "loop.example/g00295/laws.FnExactOwnerOf", spec := "fnExactOwnerOf", unfollowed := true, recurses := true, apart := false }
def FnExactOwnerOfSaid : Prop := fnExactOwnerOfRow.holds Try.pinned (OpenSpec.ofChange fnExactOwnerOfSpec)

/-- ITS FALSE NEIGHBOUR: 'it returns false'. Refute it at one input. -/
def fnExactOwnerOfWrong : ChangeSpec := { name := "fnExactOwnerOf", fn := fun _ => fun
  | [d1, d2] => { results := [.lit (.bool false)], args := [d1, d2] }
  | _ => none }
def FnExactOwnerOfWrongFalsely : Prop := fnExactOwnerOfRow.holds Try.pinned (OpenSpec.ofChange fnExactOwnerOfWrong)

/-- 'laws.FnExactPutBlock': WHATEVER THE INPUT: true; the input reads as it did. -/
def fnExactPutBlockSpec : ChangeSpec := { name := "fnExactPutBlock", fn := fun _ => fun
  | [d1, d2, d3] => { results := [.lit (.bool true)], args := [d1, d2, d3] }
  | _ => none }
def fnExactPutBlockRow : OpenClaim := { program := "ytkmcpcahbfdohaa", sum := "dde7d45e51521c32def7e4a0dfb1946e9f758c256d782b7a53c1288c4b3fdb8a", func := "loop.example/g00295/laws.FnExactPutBlock", spec := "fnExactPutBlock", unfollowed := true, recurses := true, apart := false }
def FnExactPutBlockSaid : Prop := fnExactPutBlockRow.holds Try.pinned (OpenSpec.ofChange fnExactPutBlockSpec)

/-- ITS FALSE NEIGHBOUR: 'it returns false'. Refute it at one input. -/
def fnExactPutBlockWrong : ChangeSpec := { name := "fnExactPutBlock", fn := fun _ => fun
  | [d1, d2, d3] => { results := [.lit (.bool false)], args := [d1, d2, d3] }
  | _ => none }
def FnExactPutBlockWrongFalsely : Prop := fnExactPutBlockRow.holds Try.pinned (OpenSpec.ofChange fnExactPutBlockWrong)

/-- 'laws.FnExactCrashDisk': WHATEVER THE INPUT: true; the input reads as it did. -/
def fnExactCrashDiskSpec : ChangeSpec := { name := "fnExactCrashDisk", fn := fun _ => fun
  | [d1, d2] => { results := [.lit (.bool true)], args := [d1, d2] }
  | _ => none }
def fnExactCrashDiskRow : OpenClaim := { program := "ytkmcpcahbfdohaa", sum := "dde7d45e51521c32def7e4a0dfb1946e9f758c256d782b7a53c1288c4b3fdb8a", func := "loop.example/g00295/laws.FnExactCrashDisk", spec := "fnExactCrashDisk", unfollowed := true, recurses := true, apart := false }
def FnExactCrashDiskSaid : Prop := fnExactCrashDiskRow.holds Try.pinned (OpenSpec.ofChange fnExactCrashDiskSpec)

/-- ITS FALSE NEIGHBOUR: 'it returns false'. Refute it at one input. -/
def fnExactCrashDiskWrong : ChangeSpec := { name := "fnExactCrashDisk", fn := fun _ => fun
  | [d1, d2] => { results := [.lit (.bool false)], args := [d1, d2] }
  | _ => none }
def FnExactCrashDiskWrongFalsely : Prop := fnExactCrashDiskRow.holds Try.pinned (OpenSpec.ofChange fnExactCrashDiskWrong)

/-- 'laws.FnGrants': WHATEVER THE INPUT: true; the input reads as it did. -/
def fnGrantsSpec : ChangeSpec := { name := "fnGrants", fn := fun _ => fun
  | [d] => { results := [.lit (.bool true)], args := [d] }
  | _ => none }
def fnGrantsRow : OpenClaim := { program := "ytkmcpcahbfdohaa", sum := "dde7d45e51521c32def7e4a0dfb1946e9f758c256d782b7a53c1288c4b3fdb8a", func := "loop.example/g00295/laws.FnGrants", spec := "fnGrants", inPlace := ["slices.overlaps[loop.example/g00295/impl.Extent]"], unfollowed := true, recurses := true, apart := false }
def FnGrantsSaid : Prop := fnGrantsRow.holds Try.pinned (OpenSpec.ofChange fnGrantsSpec)

/-- ITS FALSE NEIGHBOUR: 'it returns false'. Refute it at one input. -/
def fnGrantsWrong : ChangeSpec := { name := "fnGrants", fn := fun _ => fun
  | [d] => { results := [.lit (.bool false)], args := [d] }
  | _ => none }
def FnGrantsWrongFalsely : Prop := fnGrantsRow.holds Try.pinned (OpenSpec.ofChange fnGrantsWrong)

/-- 'laws.FnKeys': WHATEVER THE INPUT: true; the input reads as it did. -/
def fnKeysSpec : ChangeSpec := { name := "fnKeys", fn := fun _ => fun
  | [d] => { results := [.lit (.bool true)], args := [d] }
  | _ => none }
def fnKeysRow : OpenClaim := { program := "ytkmcpcahbfdohaa", sum := "dde7d45e51521c32def7e4a0dfb1946e9f758c256d782b7a53c1288c4b3fdb8a", func := "loop.example/g00295/laws.FnKeys", spec := "fnKeys", unfollowed := true, recurses := true, apart := false }
def FnKeysSaid : Prop := fnKeysRow.holds Try.pinned (OpenSpec.ofChange fnKeysSpec)

/-- ITS FALSE NEIGHBOUR: 'it returns false'. Refute it at one input. -/
def fnKeysWrong : ChangeSpec := { name := "fnKeys", fn := fun _ => fun
  | [d] => { results := [.lit (.bool false)], args := [d] }
  | _ => none }
def FnKeysWrongFalsely : Prop := fnKeysRow.holds Try.pinned (OpenSpec.ofChange fnKeysWrong)

/-- 'laws.FnExactFlushKern': WHATEVER THE INPUT: true; the input reads as it did. -/
def fnExactFlushKernSpec : ChangeSpec := { name := "fnExactFlushKern", fn := fun _ => fun
  | [d1, d2] => { results := [.lit (.bool true)], args := [d1, d2] }
  | _ => none }
def fnExactFlushKernRow : OpenClaim := { program := "ytkmcpcahbfdohaa", sum := "dde7d45e51521c32def7e4a0dfb1946e9f758c256d782b7a53c1288c4b3fdb8a", func := "loop.example/g00295/laws.FnExactFlushKern", spec := "fnExactFlushKern", unfollowed := true, recurses := true, apart := false }
def FnExactFlushKernSaid : Prop := fnExactFlushKernRow.holds Try.pinned (OpenSpec.ofChange fnExactFlushKernSpec)

/-- ITS FALSE NEIGHBOUR: 'it returns false'. Refute it at one input. -/
def fnExactFlushKernWrong : ChangeSpec := { name := "fnExactFlushKern", fn := fun _ => fun
  | [d1, d2] => { results := [.lit (.bool false)], args := [d1, d2] }
  | _ => none }
def FnExactFlushKernWrongFalsely : Prop := fnExactFlushKernRow.holds Try.pinned (OpenSpec.ofChange fnExactFlushKernWrong)

/-- 'laws.FnExactRevokeExtent': WHATEVER THE INPUT: true; the input reads as it did. -/
def fnExactRevokeExtentSpec : ChangeSpec := { name := "fnExactRevokeExtent", fn := fun _ => fun
  | [d1, d2, d3] => { results := [.lit (.bool true)], args := [d1, d2, d3] }
  | _ => none }
def fnExactRevokeExtentRow : OpenClaim := { program := "ytkmcpcahbfdohaa", sum := "dde7d45e51521c32def7e4a0dfb1946e9f758c256d782b7a53c1288c4b3fdb8a", func := "loop.example/g00295/laws.FnExactRevokeExtent", spec := "fnExactRevokeExtent", unfollowed := true, recurses := true, apart := false }
def FnExactRevokeExtentSaid : Prop := fnExactRevokeExtentRow.holds Try.pinned (OpenSpec.ofChange fnExactRevokeExtentSpec)

/-- ITS FALSE NEIGHBOUR: 'it returns false'. Refute it at one input. -/
def fnExactRevokeExtentWrong : ChangeSpec := { name := "fnExactRevokeExtent", fn := fun _ => fun
  | [d1, d2, d3] => { results := [.lit (.bool false)], args := [d1, d2, d3] }
  | _ => none }
def FnExactRevokeExtentWrongFalsely : Prop := fnExactRevokeExtentRow.holds Try.pinned (OpenSpec.ofChange fnExactRevokeExtentWrong)

/-- 'laws.FnExactReadKern': WHATEVER THE INPUT: true; the input reads as it did. -/
def fnExactReadKernSpec : ChangeSpec := { name := "fnExactReadKern", fn := fun _ => fun
  | [d1, d2, d3] => { results := [.lit (.bool true)], args := [d1, d2, d3] }
  | _ => none }
def fnExactReadKernRow : OpenClaim := { program := "ytkmcpcahbfdohaa", sum := "dde7d45e51521c32def7e4a0dfb1946e9f758c256d782b7a53c1288c4b3fdb8a", func := "loop.example/g00295/laws.FnExactReadKern", spec := "fnExactReadKern", unfollowed := true, recurses := true, apart := false }
def FnExactReadKernSaid : Prop := fnExactReadKernRow.holds Try.pinned (OpenSpec.ofChange fnExactReadKernSpec)

/-- ITS FALSE NEIGHBOUR: 'it returns false'. Refute it at one input. -/
def fnExactReadKernWrong : ChangeSpec := { name := "fnExactReadKern", fn := fun _ => fun
  | [d1, d2, d3] => { results := [.lit (.bool false)], args := [d1, d2, d3] }
  | _ => none }
def FnExactReadKernWrongFalsely : Prop := fnExactReadKernRow.holds Try.pinned (OpenSpec.ofChange fnExactReadKernWrong)

/-- 'laws.FnExactWriteKern': WHATEVER THE INPUT: true; the input reads as it did. -/
def fnExactWriteKernSpec : ChangeSpec := { name := "fnExactWriteKern", fn := fun _ => fun
  | [d1, d2, d3, d4] => { results := [.lit (.bool true)], args := [d1, d2, d3, d4] }
  | _ => none }
def fnExactWriteKernRow : OpenClaim := { program := "ytkmcpcahbfdohaa", sum := "dde7d45e51521c32def7e4a0dfb1946e9f758c256d782b7a53c1288c4b3fdb8a", func := "loop.example/g00295/laws.FnExactWriteKern", spec := "fnExactWriteKern", unfollowed := true, recurses := true, apart := false }
def FnExactWriteKernSaid : Prop := fnExactWriteKernRow.holds Try.pinned (OpenSpec.ofChange fnExactWriteKernSpec)

/-- ITS FALSE NEIGHBOUR: 'it returns false'. Refute it at one input. -/
def fnExactWriteKernWrong : ChangeSpec := { name := "fnExactWriteKern", fn := fun _ => fun
  | [d1, d2, d3, d4] => { results := [.lit (.bool false)], args := [d1, d2, d3, d4] }
  | _ => none }
def FnExactWriteKernWrongFalsely : Prop := fnExactWriteKernRow.holds Try.pinned (OpenSpec.ofChange fnExactWriteKernWrong)

/-- 'laws.FnExactGrantExtent': WHATEVER THE INPUT: true; the input reads as it did. -/
def fnExactGrantExtentSpec : ChangeSpec := { name := "fnExactGrantExtent", fn := fun _ => fun
  | [d1, d2, d3, d4] => { results := [.lit (.bool true)], args := [d1, d2, d3, d4] }
  | _ => none }
def fnExactGrantExtentRow : OpenClaim := { program := "ytkmcpcahbfdohaa", sum := "dde7d45e51521c32def7e4a0dfb1946e9f758c256d782b7a53c1288c4b3fdb8a", func := "loop.example/g00295/laws.FnExactGrantExtent", spec := "fnExactGrantExtent", inPlace := ["slices.overlaps[loop.example/g00295/impl.Extent]"], unfollowed := true, recurses := true, apart := false }
def FnExactGrantExtentSaid : Prop := fnExactGrantExtentRow.holds Try.pinned (OpenSpec.ofChange fnExactGrantExtentSpec)

/-- ITS FALSE NEIGHBOUR: 'it returns false'. Refute it at one input. -/
def fnExactGrantExtentWrong : ChangeSpec := { name := "fnExactGrantExtent", fn := fun _ => fun
  | [d1, d2, d3, d4] => { results := [.lit (.bool false)], args := [d1, d2, d3, d4] }
  | _ => none }
def FnExactGrantExtentWrongFalsely : Prop := fnExactGrantExtentRow.holds Try.pinned (OpenSpec.ofChange fnExactGrantExtentWrong)

/- THE SECOND FORM. 'bulk': how many values and letters a reading holds, each counted each time it is reached (what is shared counts as often as it is met; a slice's spare places count too). A statement '..UptoSaid' is the law's where the arguments, and the package variables that the reading takes, are together of bulk at most 1048576: NARROWER than '..Said'. Prove '..Said' where nothing that the law and all that it calls make is longer than what came in: it says more and counts as full. Else prove '..UptoSaid'. A law counts once. -/
mutual
def uptoBulk {H : Type} : DataW H → Nat
  | .lit (.string bytes) => bytes.length + 1
  | .lit _ => 1
  | .nil => 1
  | .ptr d => uptoBulk d + 1
  | .slice elems spare => uptoBulkAll elems + uptoBulkAll spare + 1
  | .agg parts => uptoBulkAll parts + 1
  | .iface _ d => uptoBulk d + 1
  | .map entries => uptoBulkEntries entries + 1
  | .held _ => 1
def uptoBulkAll {H : Type} : List (DataW H) → Nat
  | [] => 0
  | d :: r => uptoBulk d + uptoBulkAll r
def uptoBulkEntries {H : Type} : List (Lit × DataW H) → Nat
  | [] => 0
  | x :: r => uptoBulkEntry x + uptoBulkEntries r
def uptoBulkEntry {H : Type} : Lit × DataW H → Nat
  | (.string bytes, d) => bytes.length + uptoBulk d + 1
  | (_, d) => uptoBulk d + 1
 end
def uptoSmall : (H : Type) → List (DataW H) → Bool := fun _ ds => decide (uptoBulkAll ds ≤ 1048576)
def OpenSpec.upto (s : _root_.Go.ChangeSpec) : _root_.Go.OpenSpec := { _root_.Go.OpenSpec.ofChange s with cond := some uptoSmall }

/-- 'laws.FnExactNewDisk', WHERE WHAT IT READS IS OF BULK AT MOST 1048576: true; the input reads as it did. -/
def fnExactNewDiskUptoRow : OpenClaim := { program := "ytkmcpcahbfdohaa", sum := "dde7d45e51521c32def7e4a0dfb1946e9f758c256d782b7a53c1288c4b3fdb8a", func := "loop.example/g00295/laws.FnExactNewDisk", spec := "fnExactNewDisk", apart := false, narrowed := true }
def FnExactNewDiskUptoSaid : Prop := fnExactNewDiskUptoRow.holds Try.pinned (OpenSpec.upto fnExactNewDiskSpec)

/-- 'laws.FnExactDiskFault', WHERE WHAT IT READS IS OF BULK AT MOST 1048576: true; the input reads as it did. -/
def fnExactDiskFaultUptoRow : OpenClaim := { program := "ytkmcpcahbfdohaa", sum := "dde7d45e51521c32def7e4a0dfb1946e9f758c256d782b7a53c1288c4b3fdb8a", func := "loop.example/g00295/laws.FnExactDiskFault", spec := "fnExactDiskFault", unfollowed := true, recurses := true, apart := false, narrowed := true }
def FnExactDiskFaultUptoSaid : Prop := fnExactDiskFaultUptoRow.holds Try.pinned (OpenSpec.upto fnExactDiskFaultSpec)

/-- 'laws.FnExactNewKern', WHERE WHAT IT READS IS OF BULK AT MOST 1048576: true; the input reads as it did. -/
def fnExactNewKernUptoRow : OpenClaim := { program := "ytkmcpcahbfdohaa", sum := "dde7d45e51521c32def7e4a0dfb1946e9f758c256d782b7a53c1288c4b3fdb8a", func := "loop.example/g00295/laws.FnExactNewKern", spec := "fnExactNewKern", apart := false, narrowed := true }
def FnExactNewKernUptoSaid : Prop := fnExactNewKernUptoRow.holds Try.pinned (OpenSpec.upto fnExactNewKernSpec)

/-- 'laws.FnDisks', WHERE WHAT IT READS IS OF BULK AT MOST 1048576: true; the input reads as it did. -/
def fnDisksUptoRow : OpenClaim := { program := "ytkmcpcahbfdohaa", sum := "dde7d45e51521c32def7e4a0dfb1946e9f758c256d782b7a53c1288c4b3fdb8a", func := "loop.example/g00295/laws.FnDisks", spec := "fnDisks", unfollowed := true, recurses := true, apart := false, narrowed := true }
def FnDisksUptoSaid : Prop := fnDisksUptoRow.holds Try.pinned (OpenSpec.upto fnDisksSpec)

/-- 'laws.FnExactBlockAt', WHERE WHAT IT READS IS OF BULK AT MOST 1048576: true; the input reads as it did. -/
def fnExactBlockAtUptoRow : OpenClaim := { program := "ytkmcpcahbfdohaa", sum := "dde7d45e51521c32def7e4a0dfb1946e9f758c256d782b7a53c1288c4b3fdb8a", func := "loop.example/g00295/laws.FnExactBlockAt", spec := "fnExactBlockAt", unfollowed := true, recurses := true, apart := false, narrowed := true }
def FnExactBlockAtUptoSaid : Prop := fnExactBlockAtUptoRow.holds Try.pinned (OpenSpec.upto fnExactBlockAtSpec)

/-- 'laws.FnExactKernFault', WHERE WHAT IT READS IS OF BULK AT MOST 1048576: true; the input reads as it did. -/
def fnExactKernFaultUptoRow : OpenClaim := { program := "ytkmcpcahbfdohaa", sum := "dde7d45e51521c32def7e4a0dfb1946e9f758c256d782b7a53c1288c4b3fdb8a", func := "loop.example/g00295/laws.FnExactKernFault", spec := "fnExactKernFault", unfollowed := true, recurses := true, apart := false, narrowed := true }
def FnExactKernFaultUptoSaid : Prop := fnExactKernFaultUptoRow.holds Try.pinned (OpenSpec.upto fnExactKernFaultSpec)

/-- 'laws.FnExactFlushDisk', WHERE WHAT IT READS IS OF BULK AT MOST 1048576: true; the input reads as it did. -/
def fnExactFlushDiskUptoRow : OpenClaim := { program := "ytkmcpcahbfdohaa", sum := "dde7d45e51521c32def7e4a0dfb1946e9f758c256d782b7a53c1288c4b3fdb8a", func := "loop.example/g00295/laws.FnExactFlushDisk", spec := "fnExactFlushDisk", unfollowed := true, recurses := true, apart := false, narrowed := true }
def FnExactFlushDiskUptoSaid : Prop := fnExactFlushDiskUptoRow.holds Try.pinned (OpenSpec.upto fnExactFlushDiskSpec)

/-- 'laws.FnExactOwnerOf', WHERE WHAT IT READS IS OF BULK AT MOST 1048576: true; the input reads as it did. -/
def fnExactOwnerOfUptoRow : OpenClaim := { program := "ytkmcpcahbfdohaa", sum := "dde7d45e51521c32def7e4a0dfb1946e9f758c256d782b7a53c1288c4b3fdb8a", func := "loop.example/g00295/laws.FnExactOwnerOf", spec := "fnExactOwnerOf", unfollowed := true, recurses := true, apart := false, narrowed := true }
def FnExactOwnerOfUptoSaid : Prop := fnExactOwnerOfUptoRow.holds Try.pinned (OpenSpec.upto fnExactOwnerOfSpec)

/-- 'laws.FnExactPutBlock', WHERE WHAT IT READS IS OF BULK AT MOST 1048576: true; the input reads as it did. -/
def fnExactPutBlockUptoRow : OpenClaim := { program := "ytkmcpcahbfdohaa", sum := "dde7d45e51521c32def7e4a0dfb1946e9f758c256d782b7a53c1288c4b3fdb8a", func := "loop.example/g00295/laws.FnExactPutBlock", spec := "fnExactPutBlock", unfollowed := true, recurses := true, apart := false, narrowed := true }
def FnExactPutBlockUptoSaid : Prop := fnExactPutBlockUptoRow.holds Try.pinned (OpenSpec.upto fnExactPutBlockSpec)

/-- 'laws.FnExactCrashDisk', WHERE WHAT IT READS IS OF BULK AT MOST 1048576: true; the input reads as it did. -/
def fnExactCrashDiskUptoRow : OpenClaim := { program := "ytkmcpcahbfdohaa", sum := "dde7d45e51521c32def7e4a0dfb1946e9f758c256d782b7a53c1288c4b3fdb8a", func := "loop.example/g00295/laws.FnExactCrashDisk", spec := "fnExactCrashDisk", unfollowed := true, recurses := true, apart := false, narrowed := true }
def FnExactCrashDiskUptoSaid : Prop := fnExactCrashDiskUptoRow.holds Try.pinned (OpenSpec.upto fnExactCrashDiskSpec)

/-- 'laws.FnGrants', WHERE WHAT IT READS IS OF BULK AT MOST 1048576: true; the input reads as it did. -/
def fnGrantsUptoRow : OpenClaim := { program := "ytkmcpcahbfdohaa", sum := "dde7d45e51521c32def7e4a0dfb1946e9f758c256d782b7a53c1288c4b3fdb8a", func := "loop.example/g00295/laws.FnGrants", spec := "fnGrants", inPlace := ["slices.overlaps[loop.example/g00295/impl.Extent]"], unfollowed := true, recurses := true, apart := false, narrowed := true }
def FnGrantsUptoSaid : Prop := fnGrantsUptoRow.holds Try.pinned (OpenSpec.upto fnGrantsSpec)

/-- 'laws.FnKeys', WHERE WHAT IT READS IS OF BULK AT MOST 1048576: true; the input reads as it did. -/
def fnKeysUptoRow : OpenClaim := { program := "ytkmcpcahbfdohaa", sum := "dde7d45e51521c32def7e4a0dfb1946e9f758c256d782b7a53c1288c4b3fdb8a", func := "loop.example/g00295/laws.FnKeys", spec := "fnKeys", unfollowed := true, recurses := true, apart := false, narrowed := true }
def FnKeysUptoSaid : Prop := fnKeysUptoRow.holds Try.pinned (OpenSpec.upto fnKeysSpec)

/-- 'laws.FnExactFlushKern', WHERE WHAT IT READS IS OF BULK AT MOST 1048576: true; the input reads as it did. -/
def fnExactFlushKernUptoRow : OpenClaim := { program := "ytkmcpcahbfdohaa", sum := "dde7d45e51521c32def7e4a0dfb1946e9f758c256d782b7a53c1288c4b3fdb8a", func := "loop.example/g00295/laws.FnExactFlushKern", spec := "fnExactFlushKern", unfollowed := true, recurses := true, apart := false, narrowed := true }
def FnExactFlushKernUptoSaid : Prop := fnExactFlushKernUptoRow.holds Try.pinned (OpenSpec.upto fnExactFlushKernSpec)

/-- 'laws.FnExactRevokeExtent', WHERE WHAT IT READS IS OF BULK AT MOST 1048576: true; the input reads as it did. -/
def fnExactRevokeExtentUptoRow : OpenClaim := { program := "ytkmcpcahbfdohaa", sum := "dde7d45e51521c32def7e4a0dfb1946e9f758c256d782b7a53c1288c4b3fdb8a", func := "loop.example/g00295/laws.FnExactRevokeExtent", spec := "fnExactRevokeExtent", unfollowed := true, recurses := true, apart := false, narrowed := true }
def FnExactRevokeExtentUptoSaid : Prop := fnExactRevokeExtentUptoRow.holds Try.pinned (OpenSpec.upto fnExactRevokeExtentSpec)

/-- 'laws.FnExactReadKern', WHERE WHAT IT READS IS OF BULK AT MOST 1048576: true; the input reads as it did. -/
def fnExactReadKernUptoRow : OpenClaim := { program := "ytkmcpcahbfdohaa", sum := "dde7d45e51521c32def7e4a0dfb1946e9f758c256d782b7a53c1288c4b3fdb8a", func := "loop.example/g00295/laws.FnExactReadKern", spec := "fnExactReadKern", unfollowed := true, recurses := true, apart := false, narrowed := true }
def FnExactReadKernUptoSaid : Prop := fnExactReadKernUptoRow.holds Try.pinned (OpenSpec.upto fnExactReadKernSpec)

/-- 'laws.FnExactWriteKern', WHERE WHAT IT READS IS OF BULK AT MOST 1048576: true; the input reads as it did. -/
def fnExactWriteKernUptoRow : OpenClaim := { program := "ytkmcpcahbfdohaa", sum := "dde7d45e51521c32def7e4a0dfb1946e9f758c256d782b7a53c1288c4b3fdb8a", func := "loop.example/g00295/laws.FnExactWriteKern", spec := "fnExactWriteKern", unfollowed := true, recurses := true, apart := false, narrowed := true }
def FnExactWriteKernUptoSaid : Prop := fnExactWriteKernUptoRow.holds Try.pinned (OpenSpec.upto fnExactWriteKernSpec)

/-- 'laws.FnExactGrantExtent', WHERE WHAT IT READS IS OF BULK AT MOST 1048576: true; the input reads as it did. -/
def fnExactGrantExtentUptoRow : OpenClaim := { program := "ytkmcpcahbfdohaa", sum := "dde7d45e51521c32def7e4a0dfb1946e9f758c256d782b7a53c1288c4b3fdb8a", func := "loop.example/g00295/laws.FnExactGrantExtent", spec := "fnExactGrantExtent", inPlace := ["slices.overlaps[loop.example/g00295/impl.Extent]"], unfollowed := true, recurses := true, apart := false, narrowed := true }
def FnExactGrantExtentUptoSaid : Prop := fnExactGrantExtentUptoRow.holds Try.pinned (OpenSpec.upto fnExactGrantExtentSpec)

end Rows
end Go.Proofs.Ytkmcpcahbfdohaa

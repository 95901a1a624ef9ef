/-
  No cell of these rows narrows 'for every input' (looked for: loops, veiled, ifaces, maps, wideKeys, modest, calm, conditions, laid).
  DERIVED. THE GIVEN ROWS OF THIS SEAT. 12 by the template 'for every input the law returns true; each argument reads behind the call as it read before'; 0 by the template 'total and deterministic' (their statements: YtoaebcjjfojfeaaTotals.lean).
  GIVEN WITH THE SEED: the statements are not yours to turn. If you find one false, say at which input.
  Laid BY PROGRAM, IN A SANDBOX (cutbox-rows.mjs): the forced cells as the released guide's own fill.sh prints them over the translation 4b01a0dae7dc1f33… (all of the seat's roots in one cut). By AI agents, Wed Nov 11 2026. No macro, syntax, notation, axiom, sorry.
-/
import Derived.Test.YtoaebcjjfojfeaaChecked
import GoSem.Claim
import GoSem.ClaimJoined
import GoSem.ClaimMapViews
import Derived.JoinedTies
import Derived.KernelRfl
namespace Go.Proofs.Ytoaebcjjfojfeaa
/- THE CELL 'sum', in the pinned program and in every row, IS THE sha256 OF THE DUMP (.gsa) THAT YtoaebcjjfojfeaaProg.lean LOADS. Nothing in Lean hashes anything: it is a label: what it is worth is what the hold of that sum in a sandbox is worth. -/
noncomputable def Try.pinned : Pinned := { name := "ytoaebcjjfojfeaa", sum := "4b01a0dae7dc1f331aa2f9673555dcc9ebf998db29f20fdcbb24ab4d4069a6b6", checked := Try.checked }
namespace Rows
def none {H : Type} : Left H := { results := [], args := [] }

/-- 'laws.FnExactSameInodes': WHATEVER THE INPUT: true; the input reads as it did. -/
def fnExactSameInodesSpec : ChangeSpec := { name := "fnExactSameInodes", fn := fun _ => fun
  | [d1, d2] => { results := [.lit (.bool true)], args := [d1, d2] }
  | _ => none }
def fnExactSameInodesRow : OpenClaim := { program := "ytoaebcjjfojfeaa", sum := "4b01a0dae7dc1f331aa2f9673555dcc9ebf998db29f20fdcbb24ab4d4069a6b6", func := "loop.example/g00295/laws.FnExactSameInodes", spec := "fnExactSameInodes", apart := false }
def FnExactSameInodesSaid : Prop := fnExactSameInodesRow.holds Try.pinned (OpenSpec.ofChange fnExactSameInodesSpec)

/-- ITS FALSE NEIGHBOUR: 'it returns false'. Refute it at one input. -/
def fnExactSameInodesWrong : ChangeSpec := { name := "fnExactSameInodes", fn := fun _ => fun
  | [d1, d2] => { results := [.lit (.bool false)], args := [d1, d2] }
  | _ => none }
def FnExactSameInodesWrongFalsely : Prop := fnExactSameInodesRow.holds Try.pinned (OpenSpec.ofChange fnExactSameInodesWrong)

/-- 'laws.FnExactInodeFault': WHATEVER THE INPUT: true; the input reads as it did. -/
def fnExactInodeFaultSpec : ChangeSpec := { name := "fnExactInodeFault", fn := fun _ => fun
  | [d] => { results := [.lit (.bool true)], args := [d] }
  | _ => none }
def fnExactInodeFaultRow : OpenClaim := { program := "ytoaebcjjfojfeaa", sum := "4b01a0dae7dc1f331aa2f9673555dcc9ebf998db29f20fdcbb24ab4d4069a6b6", func := "loop.example/g00295/laws.FnExactInodeFault", spec := "fnExactInodeFault", unfollowed := true, recurses := true, apart := false }
def FnExactInodeFaultSaid : Prop := fnExactInodeFaultRow.holds Try.pinned (OpenSpec.ofChange fnExactInodeFaultSpec)

/-- ITS FALSE NEIGHBOUR: 'it returns false'. Refute it at one input. -/
def fnExactInodeFaultWrong : ChangeSpec := { name := "fnExactInodeFault", fn := fun _ => fun
  | [d] => { results := [.lit (.bool false)], args := [d] }
  | _ => none }
def FnExactInodeFaultWrongFalsely : Prop := fnExactInodeFaultRow.holds Try.pinned (OpenSpec.ofChange fnExactInodeFaultWrong)

/-- 'laws.FnExactSameFs': WHATEVER THE INPUT: true; the input reads as it did. -/
def fnExactSameFsSpec : ChangeSpec := { name := "fnExactSameFs", fn := fun _ => fun
  | [d1, d2] => { results := [.lit (.bool true)], args := [d1, d2] }
  | _ => none }
def fnExactSameFsRow : OpenClaim := { program := "ytoaebcjjfojfeaa", sum := "4b01a0dae7dc1f331aa2f9673555dcc9ebf998db29f20fdcbb24ab4d4069a6b6", func := "loop.example/g00295/laws.FnExactSameFs", spec := "fnExactSameFs", unfollowed := true, recurses := true, apart := false }
def FnExactSameFsSaid : Prop := fnExactSameFsRow.holds Try.pinned (OpenSpec.ofChange fnExactSameFsSpec)

/-- ITS FALSE NEIGHBOUR: 'it returns false'. Refute it at one input. -/
def fnExactSameFsWrong : ChangeSpec := { name := "fnExactSameFs", fn := fun _ => fun
  | [d1, d2] => { results := [.lit (.bool false)], args := [d1, d2] }
  | _ => none }
def FnExactSameFsWrongFalsely : Prop := fnExactSameFsRow.holds Try.pinned (OpenSpec.ofChange fnExactSameFsWrong)

/-- 'laws.FnExactFreeInode': WHATEVER THE INPUT: true; the input reads as it did. -/
def fnExactFreeInodeSpec : ChangeSpec := { name := "fnExactFreeInode", fn := fun _ => fun
  | [d] => { results := [.lit (.bool true)], args := [d] }
  | _ => none }
def fnExactFreeInodeRow : OpenClaim := { program := "ytoaebcjjfojfeaa", sum := "4b01a0dae7dc1f331aa2f9673555dcc9ebf998db29f20fdcbb24ab4d4069a6b6", func := "loop.example/g00295/laws.FnExactFreeInode", spec := "fnExactFreeInode", unfollowed := true, recurses := true, apart := false }
def FnExactFreeInodeSaid : Prop := fnExactFreeInodeRow.holds Try.pinned (OpenSpec.ofChange fnExactFreeInodeSpec)

/-- ITS FALSE NEIGHBOUR: 'it returns false'. Refute it at one input. -/
def fnExactFreeInodeWrong : ChangeSpec := { name := "fnExactFreeInode", fn := fun _ => fun
  | [d] => { results := [.lit (.bool false)], args := [d] }
  | _ => none }
def FnExactFreeInodeWrongFalsely : Prop := fnExactFreeInodeRow.holds Try.pinned (OpenSpec.ofChange fnExactFreeInodeWrong)

/-- 'laws.FnExactLinksOf': WHATEVER THE INPUT: true; the input reads as it did. -/
def fnExactLinksOfSpec : ChangeSpec := { name := "fnExactLinksOf", fn := fun _ => fun
  | [d1, d2] => { results := [.lit (.bool true)], args := [d1, d2] }
  | _ => none }
def fnExactLinksOfRow : OpenClaim := { program := "ytoaebcjjfojfeaa", sum := "4b01a0dae7dc1f331aa2f9673555dcc9ebf998db29f20fdcbb24ab4d4069a6b6", func := "loop.example/g00295/laws.FnExactLinksOf", spec := "fnExactLinksOf", unfollowed := true, recurses := true, apart := false }
def FnExactLinksOfSaid : Prop := fnExactLinksOfRow.holds Try.pinned (OpenSpec.ofChange fnExactLinksOfSpec)

/-- ITS FALSE NEIGHBOUR: 'it returns false'. Refute it at one input. -/
def fnExactLinksOfWrong : ChangeSpec := { name := "fnExactLinksOf", fn := fun _ => fun
  | [d1, d2] => { results := [.lit (.bool false)], args := [d1, d2] }
  | _ => none }
def FnExactLinksOfWrongFalsely : Prop := fnExactLinksOfRow.holds Try.pinned (OpenSpec.ofChange fnExactLinksOfWrong)

/-- 'laws.FnExactPackInode': WHATEVER THE INPUT: true; the input reads as it did. -/
def fnExactPackInodeSpec : ChangeSpec := { name := "fnExactPackInode", fn := fun _ => fun
  | [d] => { results := [.lit (.bool true)], args := [d] }
  | _ => none }
def fnExactPackInodeRow : OpenClaim := { program := "ytoaebcjjfojfeaa", sum := "4b01a0dae7dc1f331aa2f9673555dcc9ebf998db29f20fdcbb24ab4d4069a6b6", func := "loop.example/g00295/laws.FnExactPackInode", spec := "fnExactPackInode", unfollowed := true, recurses := true, apart := false }
def FnExactPackInodeSaid : Prop := fnExactPackInodeRow.holds Try.pinned (OpenSpec.ofChange fnExactPackInodeSpec)

/-- ITS FALSE NEIGHBOUR: 'it returns false'. Refute it at one input. -/
def fnExactPackInodeWrong : ChangeSpec := { name := "fnExactPackInode", fn := fun _ => fun
  | [d] => { results := [.lit (.bool false)], args := [d] }
  | _ => none }
def FnExactPackInodeWrongFalsely : Prop := fnExactPackInodeRow.holds Try.pinned (OpenSpec.ofChange fnExactPackInodeWrong)

/-- 'laws.FnInodes': WHATEVER THE INPUT: true; the input reads as it did. -/
def fnInodesSpec : ChangeSpec := { name := "fnInodes", fn := fun _ => fun
  | [d] => { results := [.lit (.bool true)], args := [d] }
  | _ => none }
def fnInodesRow : OpenClaim := { program := "ytoaebcjjfojfeaa", sum := "4b01a0dae7dc1f331aa2f9673555dcc9ebf998db29f20fdcbb24ab4d4069a6b6", func := "loop.example/g00295/laws.FnInodes", spec := "fnInodes", unfollowed := true, recurses := true, apart := false }
def FnInodesSaid : Prop := fnInodesRow.holds Try.pinned (OpenSpec.ofChange fnInodesSpec)

/-- ITS FALSE NEIGHBOUR: 'it returns false'. Refute it at one input. -/
def fnInodesWrong : ChangeSpec := { name := "fnInodes", fn := fun _ => fun
  | [d] => { results := [.lit (.bool false)], args := [d] }
  | _ => none }
def FnInodesWrongFalsely : Prop := fnInodesRow.holds Try.pinned (OpenSpec.ofChange fnInodesWrong)

/-- 'laws.FnExactUnpackInode': WHATEVER THE INPUT: true; the input reads as it did. -/
def fnExactUnpackInodeSpec : ChangeSpec := { name := "fnExactUnpackInode", fn := fun _ => fun
  | [d] => { results := [.lit (.bool true)], args := [d] }
  | _ => none }
def fnExactUnpackInodeRow : OpenClaim := { program := "ytoaebcjjfojfeaa", sum := "4b01a0dae7dc1f331aa2f9673555dcc9ebf998db29f20fdcbb24ab4d4069a6b6", func := "loop.example/g00295/laws.FnExactUnpackInode", spec := "fnExactUnpackInode", unfollowed := true, recurses := true, apart := false }
def FnExactUnpackInodeSaid : Prop := fnExactUnpackInodeRow.holds Try.pinned (OpenSpec.ofChange fnExactUnpackInodeSpec)

/-- ITS FALSE NEIGHBOUR: 'it returns false'. Refute it at one input. -/
def fnExactUnpackInodeWrong : ChangeSpec := { name := "fnExactUnpackInode", fn := fun _ => fun
  | [d] => { results := [.lit (.bool false)], args := [d] }
  | _ => none }
def FnExactUnpackInodeWrongFalsely : Prop := fnExactUnpackInodeRow.holds Try.pinned (OpenSpec.ofChange fnExactUnpackInodeWrong)

/-- 'laws.FnExactUsedBlocks': WHATEVER THE INPUT: true; the input reads as it did. -/
def fnExactUsedBlocksSpec : ChangeSpec := { name := "fnExactUsedBlocks", fn := fun _ => fun
  | [d] => { results := [.lit (.bool true)], args := [d] }
  | _ => none }
def fnExactUsedBlocksRow : OpenClaim := { program := "ytoaebcjjfojfeaa", sum := "4b01a0dae7dc1f331aa2f9673555dcc9ebf998db29f20fdcbb24ab4d4069a6b6", func := "loop.example/g00295/laws.FnExactUsedBlocks", spec := "fnExactUsedBlocks", unfollowed := true, recurses := true, apart := false }
def FnExactUsedBlocksSaid : Prop := fnExactUsedBlocksRow.holds Try.pinned (OpenSpec.ofChange fnExactUsedBlocksSpec)

/-- ITS FALSE NEIGHBOUR: 'it returns false'. Refute it at one input. -/
def fnExactUsedBlocksWrong : ChangeSpec := { name := "fnExactUsedBlocks", fn := fun _ => fun
  | [d] => { results := [.lit (.bool false)], args := [d] }
  | _ => none }
def FnExactUsedBlocksWrongFalsely : Prop := fnExactUsedBlocksRow.holds Try.pinned (OpenSpec.ofChange fnExactUsedBlocksWrong)

/-- 'laws.FnExactFreeBlocks': WHATEVER THE INPUT: true; the input reads as it did. -/
def fnExactFreeBlocksSpec : ChangeSpec := { name := "fnExactFreeBlocks", fn := fun _ => fun
  | [d1, d2] => { results := [.lit (.bool true)], args := [d1, d2] }
  | _ => none }
def fnExactFreeBlocksRow : OpenClaim := { program := "ytoaebcjjfojfeaa", sum := "4b01a0dae7dc1f331aa2f9673555dcc9ebf998db29f20fdcbb24ab4d4069a6b6", func := "loop.example/g00295/laws.FnExactFreeBlocks", spec := "fnExactFreeBlocks", unfollowed := true, recurses := true, apart := false }
def FnExactFreeBlocksSaid : Prop := fnExactFreeBlocksRow.holds Try.pinned (OpenSpec.ofChange fnExactFreeBlocksSpec)

/-- ITS FALSE NEIGHBOUR: 'it returns false'. Refute it at one input. -/
def fnExactFreeBlocksWrong : ChangeSpec := { name := "fnExactFreeBlocks", fn := fun _ => fun
  | [d1, d2] => { results := [.lit (.bool false)], args := [d1, d2] }
  | _ => none }
def FnExactFreeBlocksWrongFalsely : Prop := fnExactFreeBlocksRow.holds Try.pinned (OpenSpec.ofChange fnExactFreeBlocksWrong)

/-- 'laws.FnFrees': WHATEVER THE INPUT: true; the input reads as it did. -/
def fnFreesSpec : ChangeSpec := { name := "fnFrees", fn := fun _ => fun
  | [d] => { results := [.lit (.bool true)], args := [d] }
  | _ => none }
def fnFreesRow : OpenClaim := { program := "ytoaebcjjfojfeaa", sum := "4b01a0dae7dc1f331aa2f9673555dcc9ebf998db29f20fdcbb24ab4d4069a6b6", func := "loop.example/g00295/laws.FnFrees", spec := "fnFrees", unfollowed := true, recurses := true, apart := false }
def FnFreesSaid : Prop := fnFreesRow.holds Try.pinned (OpenSpec.ofChange fnFreesSpec)

/-- ITS FALSE NEIGHBOUR: 'it returns false'. Refute it at one input. -/
def fnFreesWrong : ChangeSpec := { name := "fnFrees", fn := fun _ => fun
  | [d] => { results := [.lit (.bool false)], args := [d] }
  | _ => none }
def FnFreesWrongFalsely : Prop := fnFreesRow.holds Try.pinned (OpenSpec.ofChange fnFreesWrong)

/-- 'laws.FnExactPickBlocks': WHATEVER THE INPUT: true; the input reads as it did. -/
def fnExactPickBlocksSpec : ChangeSpec := { name := "fnExactPickBlocks", fn := fun _ => fun
  | [d1, d2, d3] => { results := [.lit (.bool true)], args := [d1, d2, d3] }
  | _ => none }
def fnExactPickBlocksRow : OpenClaim := { program := "ytoaebcjjfojfeaa", sum := "4b01a0dae7dc1f331aa2f9673555dcc9ebf998db29f20fdcbb24ab4d4069a6b6", func := "loop.example/g00295/laws.FnExactPickBlocks", spec := "fnExactPickBlocks", unfollowed := true, recurses := true, apart := false }
def FnExactPickBlocksSaid : Prop := fnExactPickBlocksRow.holds Try.pinned (OpenSpec.ofChange fnExactPickBlocksSpec)

/-- ITS FALSE NEIGHBOUR: 'it returns false'. Refute it at one input. -/
def fnExactPickBlocksWrong : ChangeSpec := { name := "fnExactPickBlocks", fn := fun _ => fun
  | [d1, d2, d3] => { results := [.lit (.bool false)], args := [d1, d2, d3] }
  | _ => none }
def FnExactPickBlocksWrongFalsely : Prop := fnExactPickBlocksRow.holds Try.pinned (OpenSpec.ofChange fnExactPickBlocksWrong)

/- THE SECOND FORM. 'bulk': how many values and letters a reading holds, each counted each time it is reached (what is shared counts as often as it is met; a slice's spare places count too). A statement '..UptoSaid' is the law's where the arguments, and the package variables that the reading takes, are together of bulk at most 1048576: NARROWER than '..Said'. Prove '..Said' where nothing that the law and all that it calls make is longer than what came in: it says more and counts as full. Else prove '..UptoSaid'. A law counts once. -/
mutual
def uptoBulk {H : Type} : DataW H → Nat
  | .lit (.string bytes) => bytes.length + 1
  | .lit _ => 1
  | .nil => 1
  | .ptr d => uptoBulk d + 1
  | .slice elems spare => uptoBulkAll elems + uptoBulkAll spare + 1
  | .agg parts => uptoBulkAll parts + 1
  | .iface _ d => uptoBulk d + 1
  | .map entries => uptoBulkEntries entries + 1
  | .held _ => 1
def uptoBulkAll {H : Type} : List (DataW H) → Nat
  | [] => 0
  | d :: r => uptoBulk d + uptoBulkAll r
def uptoBulkEntries {H : Type} : List (Lit × DataW H) → Nat
  | [] => 0
  | x :: r => uptoBulkEntry x + uptoBulkEntries r
def uptoBulkEntry {H : Type} : Lit × DataW H → Nat
  | (.string bytes, d) => bytes.length + uptoBulk d + 1
  | (_, d) => uptoBulk d + 1
 end
def uptoSmall : (H : Type) → List (DataW H) → Bool := fun _ ds => decide (uptoBulkAll ds ≤ 1048576)
def OpenSpec.upto (s : _root_.Go.ChangeSpec) : _root_.Go.OpenSpec := { _root_.Go.OpenSpec.ofChange s with cond := some uptoSmall }

/-- 'laws.FnExactSameInodes', WHERE WHAT IT READS IS OF BULK AT MOST 1048576: true; the input reads as it did. -/
def fnExactSameInodesUptoRow : OpenClaim := { program := "ytoaebcjjfojfeaa", sum := "4b01a0dae7dc1f331aa2f9673555dcc9ebf998db29f20fdcbb24ab4d4069a6b6", func := "loop.example/g00295/laws.FnExactSameInodes", spec := "fnExactSameInodes", apart := false, narrowed := true }
def FnExactSameInodesUptoSaid : Prop := fnExactSameInodesUptoRow.holds Try.pinned (OpenSpec.upto fnExactSameInodesSpec)

/-- 'laws.FnExactInodeFault', WHERE WHAT IT READS IS OF BULK AT MOST 1048576: true; the input reads as it did. -/
def fnExactInodeFaultUptoRow : OpenClaim := { program := "ytoaebcjjfojfeaa", sum := "4b01a0dae7dc1f331aa2f9673555dcc9ebf998db29f20fdcbb24ab4d4069a6b6", func := "loop.example/g00295/laws.FnExactInodeFault", spec := "fnExactInodeFault", unfollowed := true, recurses := true, apart := false, narrowed := true }
def FnExactInodeFaultUptoSaid : Prop := fnExactInodeFaultUptoRow.holds Try.pinned (OpenSpec.upto fnExactInodeFaultSpec)

/-- 'laws.FnExactSameFs', WHERE WHAT IT READS IS OF BULK AT MOST 1048576: true; the input reads as it did. -/
def fnExactSameFsUptoRow : OpenClaim := { program := "ytoaebcjjfojfeaa", sum := "4b01a0dae7dc1f331aa2f9673555dcc9ebf998db29f20fdcbb24ab4d4069a6b6", func := "loop.example/g00295/laws.FnExactSameFs", spec := "fnExactSameFs", unfollowed := true, recurses := true, apart := false, narrowed := true }
def FnExactSameFsUptoSaid : Prop := fnExactSameFsUptoRow.holds Try.pinned (OpenSpec.upto fnExactSameFsSpec)

/-- 'laws.FnExactFreeInode', WHERE WHAT IT READS IS OF BULK AT MOST 1048576: true; the input reads as it did. -/
def fnExactFreeInodeUptoRow : OpenClaim := { program := "ytoaebcjjfojfeaa", sum := "4b01a0dae7dc1f331aa2f9673555dcc9ebf998db29f20fdcbb24ab4d4069a6b6", func := "loop.example/g00295/laws.FnExactFreeInode", spec := "fnExactFreeInode", unfollowed := true, recurses := true, apart := false, narrowed := true }
def FnExactFreeInodeUptoSaid : Prop := fnExactFreeInodeUptoRow.holds Try.pinned (OpenSpec.upto fnExactFreeInodeSpec)

/-- 'laws.FnExactLinksOf', WHERE WHAT IT READS IS OF BULK AT MOST 1048576: true; the input reads as it did. -/
def fnExactLinksOfUptoRow : OpenClaim := { program := "ytoaebcjjfojfeaa", sum := "4b01a0dae7dc1f331aa2f9673555dcc9ebf998db29f20fdcbb24ab4d4069a6b6", func := "loop.example/g00295/laws.FnExactLinksOf", spec := "fnExactLinksOf", unfollowed := true, recurses := true, apart := false, narrowed := true }
def FnExactLinksOfUptoSaid : Prop := fnExactLinksOfUptoRow.holds Try.pinned (OpenSpec.upto fnExactLinksOfSpec)

/-- 'laws.FnExactPackInode', WHERE WHAT IT READS IS OF BULK AT MOST 1048576: true; the input reads as it did. -/
def fnExactPackInodeUptoRow : OpenClaim := { program := "ytoaebcjjfojfeaa", sum := "4b01a0dae7dc1f331aa2f9673555dcc9ebf998db29f20fdcbb24ab4d4069a6b6", func := "loop.example/g00295/laws.FnExactPackInode", spec := "fnExactPackInode", unfollowed := true, recurses := true, apart := false, narrowed := true }
def FnExactPackInodeUptoSaid : Prop := fnExactPackInodeUptoRow.holds Try.pinned (OpenSpec.upto fnExactPackInodeSpec)

/-- 'laws.FnInodes', WHERE WHAT IT READS IS OF BULK AT MOST 1048576: true; the input reads as it did. -/
def fnInodesUptoRow : OpenClaim := { program := "ytoaebcjjfojfeaa", sum := "4b01a0dae7dc1f331aa2f9673555dcc9ebf998db29f20fdcbb24ab4d4069a6b6", func := "loop.example/g00295/laws.FnInodes", spec := "fnInodes", unfollowed := true, recurses := true, apart := false, narrowed := true }
def FnInodesUptoSaid : Prop := fnInodesUptoRow.holds Try.pinned (OpenSpec.upto fnInodesSpec)

/-- 'laws.FnExactUnpackInode', WHERE WHAT IT READS IS OF BULK AT MOST 1048576: true; the input reads as it did. -/
def fnExactUnpackInodeUptoRow : OpenClaim := { program := "ytoaebcjjfojfeaa", sum := "4b01a0dae7dc1f331aa2f9673555dcc9ebf998db29f20fdcbb24ab4d4069a6b6", func := "loop.example/g00295/laws.FnExactUnpackInode", spec := "fnExactUnpackInode", unfollowed := true, recurses := true, apart := false, narrowed := true }
def FnExactUnpackInodeUptoSaid : Prop := fnExactUnpackInodeUptoRow.holds Try.pinned (OpenSpec.upto fnExactUnpackInodeSpec)

/-- 'laws.FnExactUsedBlocks', WHERE WHAT IT READS IS OF BULK AT MOST 1048576: true; the input reads as it did. -/
def fnExactUsedBlocksUptoRow : OpenClaim := { program := "ytoaebcjjfojfeaa", sum := "4b01a0dae7dc1f331aa2f9673555dcc9ebf998db29f20fdcbb24ab4d4069a6b6", func := "loop.example/g00295/laws.FnExactUsedBlocks", spec := "fnExactUsedBlocks", unfollowed := true, recurses := true, apart := false, narrowed := true }
def FnExactUsedBlocksUptoSaid : Prop := fnExactUsedBlocksUptoRow.holds Try.pinned (OpenSpec.upto fnExactUsedBlocksSpec)

/-- 'laws.FnExactFreeBlocks', WHERE WHAT IT READS IS OF BULK AT MOST 1048576: true; the input reads as it did. -/
def fnExactFreeBlocksUptoRow : OpenClaim := { program := "ytoaebcjjfojfeaa", sum := "4b01a0dae7dc1f331aa2f9673555dcc9ebf998db29f20fdcbb24ab4d4069a6b6", func := "loop.example/g00295/laws.FnExactFreeBlocks", spec := "fnExactFreeBlocks", unfollowed := true, recurses := true, apart := false, narrowed := true }
def FnExactFreeBlocksUptoSaid : Prop := fnExactFreeBlocksUptoRow.holds Try.pinned (OpenSpec.upto fnExactFreeBlocksSpec)

/-- 'laws.FnFrees', WHERE WHAT IT READS IS OF BULK AT MOST 1048576: true; the input reads as it did. -/
def fnFreesUptoRow : OpenClaim := { program := "ytoaebcjjfojfeaa", sum := "4b01a0dae7dc1f331aa2f9673555dcc9ebf998db29f20fdcbb24ab4d4069a6b6", func := "loop.example/g00295/laws.FnFrees", spec := "fnFrees", unfollowed := true, recurses := true, apart := false, narrowed := true }
def FnFreesUptoSaid : Prop := fnFreesUptoRow.holds Try.pinned (OpenSpec.upto fnFreesSpec)

/-- 'laws.FnExactPickBlocks', WHERE WHAT IT READS IS OF BULK AT MOST 1048576: true; the input reads as it did. -/
def fnExactPickBlocksUptoRow : OpenClaim := { program := "ytoaebcjjfojfeaa", sum := "4b01a0dae7dc1f331aa2f9673555dcc9ebf998db29f20fdcbb24ab4d4069a6b6", func := "loop.example/g00295/laws.FnExactPickBlocks", spec := "fnExactPickBlocks", unfollowed := true, recurses := true, apart := false, narrowed := true }
def FnExactPickBlocksUptoSaid : Prop := fnExactPickBlocksUptoRow.holds Try.pinned (OpenSpec.upto fnExactPickBlocksSpec)

end Rows
end Go.Proofs.Ytoaebcjjfojfeaa

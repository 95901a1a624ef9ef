/-
  No cell of these rows narrows 'for every input' (looked for: loops, veiled, ifaces, maps, wideKeys, modest, calm, conditions, laid).
  DERIVED. THE GIVEN ROWS OF THIS SEAT. 6 by the template 'for every input the law returns true; each argument reads behind the call as it read before'; 0 by the template 'total and deterministic' (their statements: YtaopaoeokjpdkaaTotals.lean).
  GIVEN WITH THE SEED: the statements are not yours to turn. If you find one false, say at which input.
  Laid BY PROGRAM, IN A SANDBOX (cutbox-rows.mjs): the forced cells as the released guide's own fill.sh prints them over the translation 9b7e2673333e5ccf… (all of the seat's roots in one cut). By AI agents, Wed Nov 11 2026. No macro, syntax, notation, axiom, sorry.
-/
import Derived.Test.YtaopaoeokjpdkaaChecked
import GoSem.Claim
import GoSem.ClaimJoined
import GoSem.ClaimMapViews
import Derived.JoinedTies
import Derived.KernelRfl
namespace Go.Proofs.Ytaopaoeokjpdkaa
/- THE CELL 'sum', in the pinned program and in every row, IS THE sha256 OF THE DUMP (.gsa) THAT YtaopaoeokjpdkaaProg.lean LOADS. Nothing in Lean hashes anything: it is a label: what it is worth is what the hold of that sum in a sandbox is worth. -/
noncomputable def Try.pinned : Pinned := { name := "ytaopaoeokjpdkaa", sum := "9b7e2673333e5ccfdd2a2b6cab5246d322da84c7c853396173af0ef1df517575", checked := Try.checked }
namespace Rows
def none {H : Type} : Left H := { results := [], args := [] }

/-- 'laws.FnExactConstants': WHATEVER THE INPUT: true; the input reads as it did. -/
def fnExactConstantsSpec : ChangeSpec := { name := "fnExactConstants", fn := fun _ => fun
  | [] => { results := [.lit (.bool true)], args := [] }
  | _ => none }
def fnExactConstantsRow : OpenClaim := { program := "ytaopaoeokjpdkaa", sum := "9b7e2673333e5ccfdd2a2b6cab5246d322da84c7c853396173af0ef1df517575", func := "loop.example/g00295/laws.FnExactConstants", spec := "fnExactConstants", apart := false }
def FnExactConstantsSaid : Prop := fnExactConstantsRow.holds Try.pinned (OpenSpec.ofChange fnExactConstantsSpec)

/-- ITS FALSE NEIGHBOUR: 'it returns false'. Refute it at one input. -/
def fnExactConstantsWrong : ChangeSpec := { name := "fnExactConstants", fn := fun _ => fun
  | [] => { results := [.lit (.bool false)], args := [] }
  | _ => none }
def FnExactConstantsWrongFalsely : Prop := fnExactConstantsRow.holds Try.pinned (OpenSpec.ofChange fnExactConstantsWrong)

/-- 'laws.FnExactBlocksFor': WHATEVER THE INPUT: true; the input reads as it did. -/
def fnExactBlocksForSpec : ChangeSpec := { name := "fnExactBlocksFor", fn := fun _ => fun
  | [d] => { results := [.lit (.bool true)], args := [d] }
  | _ => none }
def fnExactBlocksForRow : OpenClaim := { program := "ytaopaoeokjpdkaa", sum := "9b7e2673333e5ccfdd2a2b6cab5246d322da84c7c853396173af0ef1df517575", func := "loop.example/g00295/laws.FnExactBlocksFor", spec := "fnExactBlocksFor", apart := false }
def FnExactBlocksForSaid : Prop := fnExactBlocksForRow.holds Try.pinned (OpenSpec.ofChange fnExactBlocksForSpec)

/-- ITS FALSE NEIGHBOUR: 'it returns false'. Refute it at one input. -/
def fnExactBlocksForWrong : ChangeSpec := { name := "fnExactBlocksFor", fn := fun _ => fun
  | [d] => { results := [.lit (.bool false)], args := [d] }
  | _ => none }
def FnExactBlocksForWrongFalsely : Prop := fnExactBlocksForRow.holds Try.pinned (OpenSpec.ofChange fnExactBlocksForWrong)

/-- 'laws.FnExactNameFault': WHATEVER THE INPUT: true; the input reads as it did. -/
def fnExactNameFaultSpec : ChangeSpec := { name := "fnExactNameFault", fn := fun _ => fun
  | [d] => { results := [.lit (.bool true)], args := [d] }
  | _ => none }
def fnExactNameFaultRow : OpenClaim := { program := "ytaopaoeokjpdkaa", sum := "9b7e2673333e5ccfdd2a2b6cab5246d322da84c7c853396173af0ef1df517575", func := "loop.example/g00295/laws.FnExactNameFault", spec := "fnExactNameFault", apart := false }
def FnExactNameFaultSaid : Prop := fnExactNameFaultRow.holds Try.pinned (OpenSpec.ofChange fnExactNameFaultSpec)

/-- ITS FALSE NEIGHBOUR: 'it returns false'. Refute it at one input. -/
def fnExactNameFaultWrong : ChangeSpec := { name := "fnExactNameFault", fn := fun _ => fun
  | [d] => { results := [.lit (.bool false)], args := [d] }
  | _ => none }
def FnExactNameFaultWrongFalsely : Prop := fnExactNameFaultRow.holds Try.pinned (OpenSpec.ofChange fnExactNameFaultWrong)

/-- 'laws.FnExactNewDisk': WHATEVER THE INPUT: true; the input reads as it did. -/
def fnExactNewDiskSpec : ChangeSpec := { name := "fnExactNewDisk", fn := fun _ => fun
  | [d] => { results := [.lit (.bool true)], args := [d] }
  | _ => none }
def fnExactNewDiskRow : OpenClaim := { program := "ytaopaoeokjpdkaa", sum := "9b7e2673333e5ccfdd2a2b6cab5246d322da84c7c853396173af0ef1df517575", func := "loop.example/g00295/laws.FnExactNewDisk", spec := "fnExactNewDisk", apart := false }
def FnExactNewDiskSaid : Prop := fnExactNewDiskRow.holds Try.pinned (OpenSpec.ofChange fnExactNewDiskSpec)

/-- ITS FALSE NEIGHBOUR: 'it returns false'. Refute it at one input. -/
def fnExactNewDiskWrong : ChangeSpec := { name := "fnExactNewDisk", fn := fun _ => fun
  | [d] => { results := [.lit (.bool false)], args := [d] }
  | _ => none }
def FnExactNewDiskWrongFalsely : Prop := fnExactNewDiskRow.holds Try.pinned (OpenSpec.ofChange fnExactNewDiskWrong)

/-- 'laws.FnExactSameInodes': WHATEVER THE INPUT: true; the input reads as it did. -/
def fnExactSameInodesSpec : ChangeSpec := { name := "fnExactSameInodes", fn := fun _ => fun
  | [d1, d2] => { results := [.lit (.bool true)], args := [d1, d2] }
  | _ => none }
def fnExactSameInodesRow : OpenClaim := { program := "ytaopaoeokjpdkaa", sum := "9b7e2673333e5ccfdd2a2b6cab5246d322da84c7c853396173af0ef1df517575", func := "loop.example/g00295/laws.FnExactSameInodes", spec := "fnExactSameInodes", apart := false }
def FnExactSameInodesSaid : Prop := fnExactSameInodesRow.holds Try.pinned (OpenSpec.ofChange fnExactSameInodesSpec)

/-- ITS FALSE NEIGHBOUR: 'it returns false'. Refute it at one input. -/
def fnExactSameInodesWrong : ChangeSpec := { name := "fnExactSameInodes", fn := fun _ => fun
  | [d1, d2] => { results := [.lit (.bool false)], args := [d1, d2] }
  | _ => none }
def FnExactSameInodesWrongFalsely : Prop := fnExactSameInodesRow.holds Try.pinned (OpenSpec.ofChange fnExactSameInodesWrong)

/-- 'laws.FnExactJoinPath': WHATEVER THE INPUT: true; the input reads as it did. -/
def fnExactJoinPathSpec : ChangeSpec := { name := "fnExactJoinPath", fn := fun _ => fun
  | [d] => { results := [.lit (.bool true)], args := [d] }
  | _ => none }
def fnExactJoinPathRow : OpenClaim := { program := "ytaopaoeokjpdkaa", sum := "9b7e2673333e5ccfdd2a2b6cab5246d322da84c7c853396173af0ef1df517575", func := "loop.example/g00295/laws.FnExactJoinPath", spec := "fnExactJoinPath", inPlace := ["internal/abi.NoEscape", "internal/bytealg.MakeNoZero"], apart := false }
def FnExactJoinPathSaid : Prop := fnExactJoinPathRow.holds Try.pinned (OpenSpec.ofChange fnExactJoinPathSpec)

/-- ITS FALSE NEIGHBOUR: 'it returns false'. Refute it at one input. -/
def fnExactJoinPathWrong : ChangeSpec := { name := "fnExactJoinPath", fn := fun _ => fun
  | [d] => { results := [.lit (.bool false)], args := [d] }
  | _ => none }
def FnExactJoinPathWrongFalsely : Prop := fnExactJoinPathRow.holds Try.pinned (OpenSpec.ofChange fnExactJoinPathWrong)

/- THE SECOND FORM. 'bulk': how many values and letters a reading holds, each counted each time it is reached (what is shared counts as often as it is met; a slice's spare places count too). A statement '..UptoSaid' is the law's where the arguments, and the package variables that the reading takes, are together of bulk at most 1048576: NARROWER than '..Said'. Prove '..Said' where nothing that the law and all that it calls make is longer than what came in: it says more and counts as full. Else prove '..UptoSaid'. A law counts once. -/
mutual
def uptoBulk {H : Type} : DataW H → Nat
  | .lit (.string bytes) => bytes.length + 1
  | .lit _ => 1
  | .nil => 1
  | .ptr d => uptoBulk d + 1
  | .slice elems spare => uptoBulkAll elems + uptoBulkAll spare + 1
  | .agg parts => uptoBulkAll parts + 1
  | .iface _ d => uptoBulk d + 1
  | .map entries => uptoBulkEntries entries + 1
  | .held _ => 1
def uptoBulkAll {H : Type} : List (DataW H) → Nat
  | [] => 0
  | d :: r => uptoBulk d + uptoBulkAll r
def uptoBulkEntries {H : Type} : List (Lit × DataW H) → Nat
  | [] => 0
  | x :: r => uptoBulkEntry x + uptoBulkEntries r
def uptoBulkEntry {H : Type} : Lit × DataW H → Nat
  | (.string bytes, d) => bytes.length + uptoBulk d + 1
  | (_, d) => uptoBulk d + 1
 end
def uptoSmall : (H : Type) → List (DataW H) → Bool := fun _ ds => decide (uptoBulkAll ds ≤ 1048576)
def OpenSpec.upto (s : _root_.Go.ChangeSpec) : _root_.Go.OpenSpec := { _root_.Go.OpenSpec.ofChange s with cond := some uptoSmall }

/-- 'laws.FnExactConstants', WHERE WHAT IT READS IS OF BULK AT MOST 1048576: true; the input reads as it did. -/
def fnExactConstantsUptoRow : OpenClaim := { program := "ytaopaoeokjpdkaa", sum := "9b7e2673333e5ccfdd2a2b6cab5246d322da84c7c853396173af0ef1df517575", func := "loop.example/g00295/laws.FnExactConstants", spec := "fnExactConstants", apart := false, narrowed := true }
def FnExactConstantsUptoSaid : Prop := fnExactConstantsUptoRow.holds Try.pinned (OpenSpec.upto fnExactConstantsSpec)

/-- 'laws.FnExactBlocksFor', WHERE WHAT IT READS IS OF BULK AT MOST 1048576: true; the input reads as it did. -/
def fnExactBlocksForUptoRow : OpenClaim := { program := "ytaopaoeokjpdkaa", sum := "9b7e2673333e5ccfdd2a2b6cab5246d322da84c7c853396173af0ef1df517575", func := "loop.example/g00295/laws.FnExactBlocksFor", spec := "fnExactBlocksFor", apart := false, narrowed := true }
def FnExactBlocksForUptoSaid : Prop := fnExactBlocksForUptoRow.holds Try.pinned (OpenSpec.upto fnExactBlocksForSpec)

/-- 'laws.FnExactNameFault', WHERE WHAT IT READS IS OF BULK AT MOST 1048576: true; the input reads as it did. -/
def fnExactNameFaultUptoRow : OpenClaim := { program := "ytaopaoeokjpdkaa", sum := "9b7e2673333e5ccfdd2a2b6cab5246d322da84c7c853396173af0ef1df517575", func := "loop.example/g00295/laws.FnExactNameFault", spec := "fnExactNameFault", apart := false, narrowed := true }
def FnExactNameFaultUptoSaid : Prop := fnExactNameFaultUptoRow.holds Try.pinned (OpenSpec.upto fnExactNameFaultSpec)

/-- 'laws.FnExactNewDisk', WHERE WHAT IT READS IS OF BULK AT MOST 1048576: true; the input reads as it did. -/
def fnExactNewDiskUptoRow : OpenClaim := { program := "ytaopaoeokjpdkaa", sum := "9b7e2673333e5ccfdd2a2b6cab5246d322da84c7c853396173af0ef1df517575", func := "loop.example/g00295/laws.FnExactNewDisk", spec := "fnExactNewDisk", apart := false, narrowed := true }
def FnExactNewDiskUptoSaid : Prop := fnExactNewDiskUptoRow.holds Try.pinned (OpenSpec.upto fnExactNewDiskSpec)

/-- 'laws.FnExactSameInodes', WHERE WHAT IT READS IS OF BULK AT MOST 1048576: true; the input reads as it did. -/
def fnExactSameInodesUptoRow : OpenClaim := { program := "ytaopaoeokjpdkaa", sum := "9b7e2673333e5ccfdd2a2b6cab5246d322da84c7c853396173af0ef1df517575", func := "loop.example/g00295/laws.FnExactSameInodes", spec := "fnExactSameInodes", apart := false, narrowed := true }
def FnExactSameInodesUptoSaid : Prop := fnExactSameInodesUptoRow.holds Try.pinned (OpenSpec.upto fnExactSameInodesSpec)

/-- 'laws.FnExactJoinPath', WHERE WHAT IT READS IS OF BULK AT MOST 1048576: true; the input reads as it did. -/
def fnExactJoinPathUptoRow : OpenClaim := { program := "ytaopaoeokjpdkaa", sum := "9b7e2673333e5ccfdd2a2b6cab5246d322da84c7c853396173af0ef1df517575", func := "loop.example/g00295/laws.FnExactJoinPath", spec := "fnExactJoinPath", inPlace := ["internal/abi.NoEscape", "internal/bytealg.MakeNoZero"], apart := false, narrowed := true }
def FnExactJoinPathUptoSaid : Prop := fnExactJoinPathUptoRow.holds Try.pinned (OpenSpec.upto fnExactJoinPathSpec)

end Rows
end Go.Proofs.Ytaopaoeokjpdkaa

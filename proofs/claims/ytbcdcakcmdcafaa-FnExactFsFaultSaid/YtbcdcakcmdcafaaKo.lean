/- What is proved: arguments of this program's types, read out of memory, are of their kinds. No condition. -/
import Derived.Test.YtbcdcakcmdcafaaTypes
import Derived.Test.YtbcdcakcmdcafaaOpen
namespace Go.Proofs.Ytbcdcakcmdcafaa
open Go Go.RowKit
set_option maxRecDepth 100000
set_option linter.unusedVariables false
section
variable {H : Type} {enc : TypeId × Value → H} {W : World}
theorem ko_2 : Ko enc Try.prog W 2 (kint .i64) := Ko.int u_2
theorem ko_9 : Ko enc Try.prog W 9 kstr := Ko.str u_9
theorem ko_39 : Ko enc Try.prog W 39 kSl_2 := Ko.slice u_39 (by kernel_rfl) (by kernel_rfl) ko_2
theorem ko_118 : Ko enc Try.prog W 118 kT_118 := Ko.struct (fs := fsOf Try.prog 118) (ps := [(9, 0), (2, 1)]) (by kernel_rfl) (by kernel_rfl) (by kernel_rfl) (KoF.cons (by kernel_rfl) rfl ko_9 (KoF.one (by kernel_rfl) ko_2)) (fun (x0, x1) => ⟨x0, x1⟩) (fun (x0, x1) => rfl)
theorem ko_82 : Ko enc Try.prog W 82 kSl_118 := Ko.slice u_82 (by kernel_rfl) (by kernel_rfl) ko_118
theorem ko_84 : Ko enc Try.prog W 84 kT_84 := Ko.struct (fs := fsOf Try.prog 84) (ps := [(2, 0), (2, 1), (2, 2), (39, 3), (82, 4)]) (by kernel_rfl) (by kernel_rfl) (by kernel_rfl) (KoF.cons (by kernel_rfl) rfl ko_2 (KoF.cons (by kernel_rfl) rfl ko_2 (KoF.cons (by kernel_rfl) rfl ko_2 (KoF.cons (by kernel_rfl) rfl ko_39 (KoF.one (by kernel_rfl) ko_82))))) (fun (x0, x1, x2, x3, x4) => ⟨x0, x1, x2, x3, x4⟩) (fun (x0, x1, x2, x3, x4) => rfl)
theorem ko_22 : Ko enc Try.prog W 22 kSl_84 := Ko.slice u_22 (by kernel_rfl) (by kernel_rfl) ko_84
theorem ko_5 : Ko enc Try.prog W 5 kbyte := Ko.byte u_5
theorem ko_86 : Ko enc Try.prog W 86 kSl_5 := Ko.slice u_86 (by kernel_rfl) (by kernel_rfl) ko_5
theorem ko_23 : Ko enc Try.prog W 23 kSl_86 := Ko.slice u_23 (by kernel_rfl) (by kernel_rfl) ko_86
theorem ko_25 : Ko enc Try.prog W 25 kT_25 := Ko.struct (fs := fsOf Try.prog 25) (ps := [(22, 0), (23, 1)]) (by kernel_rfl) (by kernel_rfl) (by kernel_rfl) (KoF.cons (by kernel_rfl) rfl ko_22 (KoF.one (by kernel_rfl) ko_23)) (fun (x0, x1) => ⟨x0, x1⟩) (fun (x0, x1) => rfl)
end
end Go.Proofs.Ytbcdcakcmdcafaa

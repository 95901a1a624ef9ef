/- What is proved: arguments of this program's types, read out of memory, are of their kinds. No condition. -/
import Derived.Test.YticaddophhggoaaGreatDoorTypes
import Derived.Test.YticaddophhggoaaGreatDoorBase1
namespace Go.Proofs.YticaddophhggoaaGreatDoor
open Go Go.RowKit
set_option maxRecDepth 100000
set_option linter.unusedVariables false
section
variable {H : Type} {enc : TypeId × Value → H} {W : World}
theorem ko_9 : Ko enc Tryz.prog W 9 kstr := Ko.str u_9
theorem ko_2 : Ko enc Tryz.prog W 2 (kint .i64) := Ko.int u_2
theorem ko_52 : Ko enc Tryz.prog W 52 kSl_2 := Ko.slice u_52 (by kernel_rfl) (by kernel_rfl) ko_2
theorem ko_153 : Ko enc Tryz.prog W 153 kT_153 := Ko.struct (fs := fsOf Tryz.prog 153) (ps := [(9, 0), (2, 1)]) (by kernel_rfl) (by kernel_rfl) (by kernel_rfl) (KoF.cons (by kernel_rfl) rfl ko_9 (KoF.one (by kernel_rfl) ko_2)) (fun (x0, x1) => ⟨x0, x1⟩) (fun (x0, x1) => rfl)
theorem ko_88 : Ko enc Tryz.prog W 88 kSl_153 := Ko.slice u_88 (by kernel_rfl) (by kernel_rfl) ko_153
theorem ko_90 : Ko enc Tryz.prog W 90 kT_90 := Ko.struct (fs := fsOf Tryz.prog 90) (ps := [(2, 0), (2, 1), (2, 2), (52, 3), (88, 4)]) (by kernel_rfl) (by kernel_rfl) (by kernel_rfl) (KoF.cons (by kernel_rfl) rfl ko_2 (KoF.cons (by kernel_rfl) rfl ko_2 (KoF.cons (by kernel_rfl) rfl ko_2 (KoF.cons (by kernel_rfl) rfl ko_52 (KoF.one (by kernel_rfl) ko_88))))) (fun (x0, x1, x2, x3, x4) => ⟨x0, x1, x2, x3, x4⟩) (fun (x0, x1, x2, x3, x4) => rfl)
theorem ko_22 : Ko enc Tryz.prog W 22 kSl_90 := Ko.slice u_22 (by kernel_rfl) (by kernel_rfl) ko_90
theorem ko_5 : Ko enc Tryz.prog W 5 kbyte := Ko.byte u_5
theorem ko_41 : Ko enc Tryz.prog W 41 kSl_5 := Ko.slice u_41 (by kernel_rfl) (by kernel_rfl) ko_5
theorem ko_23 : Ko enc Tryz.prog W 23 kSl_41 := Ko.slice u_23 (by kernel_rfl) (by kernel_rfl) ko_41
theorem ko_25 : Ko enc Tryz.prog W 25 kT_25 := Ko.struct (fs := fsOf Tryz.prog 25) (ps := [(22, 0), (23, 1)]) (by kernel_rfl) (by kernel_rfl) (by kernel_rfl) (KoF.cons (by kernel_rfl) rfl ko_22 (KoF.one (by kernel_rfl) ko_23)) (fun (x0, x1) => ⟨x0, x1⟩) (fun (x0, x1) => rfl)
end
end Go.Proofs.YticaddophhggoaaGreatDoor

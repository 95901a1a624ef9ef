/- What is proved: arguments of this program's types, read out of memory, are of their kinds. No condition. -/
import Derived.Test.YticaddophhggoaaGreatTypes
import Derived.Test.YticaddophhggoaaGreatBase1
namespace Go.Proofs.YticaddophhggoaaGreat
open Go Go.RowKit
set_option maxRecDepth 100000
set_option linter.unusedVariables false
section
variable {H : Type} {enc : TypeId × Value → H} {W : World}
theorem ko_2 : Ko enc Tryz.prog W 2 (kint .i64) := Ko.int u_2
theorem ko_27 : Ko enc Tryz.prog W 27 kSl_2 := Ko.slice u_27 (by kernel_rfl) (by kernel_rfl) ko_2
theorem ko_9 : Ko enc Tryz.prog W 9 kstr := Ko.str u_9
theorem ko_198 : Ko enc Tryz.prog W 198 kT_198 := Ko.struct (fs := fsOf Tryz.prog 198) (ps := [(9, 0), (2, 1)]) (by kernel_rfl) (by kernel_rfl) (by kernel_rfl) (KoF.cons (by kernel_rfl) rfl ko_9 (KoF.one (by kernel_rfl) ko_2)) (fun (x0, x1) => ⟨x0, x1⟩) (fun (x0, x1) => rfl)
theorem ko_137 : Ko enc Tryz.prog W 137 kSl_198 := Ko.slice u_137 (by kernel_rfl) (by kernel_rfl) ko_198
theorem ko_139 : Ko enc Tryz.prog W 139 kT_139 := Ko.struct (fs := fsOf Tryz.prog 139) (ps := [(2, 0), (2, 1), (2, 2), (27, 3), (137, 4)]) (by kernel_rfl) (by kernel_rfl) (by kernel_rfl) (KoF.cons (by kernel_rfl) rfl ko_2 (KoF.cons (by kernel_rfl) rfl ko_2 (KoF.cons (by kernel_rfl) rfl ko_2 (KoF.cons (by kernel_rfl) rfl ko_27 (KoF.one (by kernel_rfl) ko_137))))) (fun (x0, x1, x2, x3, x4) => ⟨x0, x1, x2, x3, x4⟩) (fun (x0, x1, x2, x3, x4) => rfl)
theorem ko_22 : Ko enc Tryz.prog W 22 kSl_139 := Ko.slice u_22 (by kernel_rfl) (by kernel_rfl) ko_139
theorem ko_5 : Ko enc Tryz.prog W 5 kbyte := Ko.byte u_5
theorem ko_26 : Ko enc Tryz.prog W 26 kSl_5 := Ko.slice u_26 (by kernel_rfl) (by kernel_rfl) ko_5
theorem ko_23 : Ko enc Tryz.prog W 23 kSl_26 := Ko.slice u_23 (by kernel_rfl) (by kernel_rfl) ko_26
theorem ko_25 : Ko enc Tryz.prog W 25 kT_25 := Ko.struct (fs := fsOf Tryz.prog 25) (ps := [(22, 0), (23, 1)]) (by kernel_rfl) (by kernel_rfl) (by kernel_rfl) (KoF.cons (by kernel_rfl) rfl ko_22 (KoF.one (by kernel_rfl) ko_23)) (fun (x0, x1) => ⟨x0, x1⟩) (fun (x0, x1) => rfl)
end
end Go.Proofs.YticaddophhggoaaGreat

/- What is proved: arguments of this program's types, read out of memory, are of their kinds. No condition. -/
import Derived.Test.YticaddophhggoaaTypes
import Derived.Test.YticaddophhggoaaBase1
namespace Go.Proofs.Yticaddophhggoaa
open Go Go.RowKit
set_option maxRecDepth 100000
set_option linter.unusedVariables false
section
variable {H : Type} {enc : TypeId × Value → H} {W : World}
theorem ko_2 : Ko enc Try.prog W 2 (kint .i64) := Ko.int u_2
theorem ko_39 : Ko enc Try.prog W 39 kSl_2 := Ko.slice u_39 (by kernel_rfl) (by kernel_rfl) ko_2
theorem ko_9 : Ko enc Try.prog W 9 kstr := Ko.str u_9
theorem ko_87 : Ko enc Try.prog W 87 kT_87 := Ko.struct (fs := fsOf Try.prog 87) (ps := [(9, 0), (2, 1)]) (by kernel_rfl) (by kernel_rfl) (by kernel_rfl) (KoF.cons (by kernel_rfl) rfl ko_9 (KoF.one (by kernel_rfl) ko_2)) (fun (x0, x1) => ⟨x0, x1⟩) (fun (x0, x1) => rfl)
theorem ko_53 : Ko enc Try.prog W 53 kSl_87 := Ko.slice u_53 (by kernel_rfl) (by kernel_rfl) ko_87
theorem ko_55 : Ko enc Try.prog W 55 kT_55 := Ko.struct (fs := fsOf Try.prog 55) (ps := [(2, 0), (2, 1), (2, 2), (39, 3), (53, 4)]) (by kernel_rfl) (by kernel_rfl) (by kernel_rfl) (KoF.cons (by kernel_rfl) rfl ko_2 (KoF.cons (by kernel_rfl) rfl ko_2 (KoF.cons (by kernel_rfl) rfl ko_2 (KoF.cons (by kernel_rfl) rfl ko_39 (KoF.one (by kernel_rfl) ko_53))))) (fun (x0, x1, x2, x3, x4) => ⟨x0, x1, x2, x3, x4⟩) (fun (x0, x1, x2, x3, x4) => rfl)
theorem ko_22 : Ko enc Try.prog W 22 kSl_55 := Ko.slice u_22 (by kernel_rfl) (by kernel_rfl) ko_55
theorem ko_5 : Ko enc Try.prog W 5 kbyte := Ko.byte u_5
theorem ko_57 : Ko enc Try.prog W 57 kSl_5 := Ko.slice u_57 (by kernel_rfl) (by kernel_rfl) ko_5
theorem ko_23 : Ko enc Try.prog W 23 kSl_57 := Ko.slice u_23 (by kernel_rfl) (by kernel_rfl) ko_57
theorem ko_25 : Ko enc Try.prog W 25 kT_25 := Ko.struct (fs := fsOf Try.prog 25) (ps := [(22, 0), (23, 1)]) (by kernel_rfl) (by kernel_rfl) (by kernel_rfl) (KoF.cons (by kernel_rfl) rfl ko_22 (KoF.one (by kernel_rfl) ko_23)) (fun (x0, x1) => ⟨x0, x1⟩) (fun (x0, x1) => rfl)
end
end Go.Proofs.Yticaddophhggoaa

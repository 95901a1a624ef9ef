/- What is proved: arguments of this program's types, read out of memory, are of their kinds. No condition. -/
import Derived.Test.YtoaebcjjfojfeaaTypes
import Derived.Test.YtoaebcjjfojfeaaBase1
namespace Go.Proofs.Ytoaebcjjfojfeaa
open Go Go.RowKit
set_option maxRecDepth 100000
set_option linter.unusedVariables false
section
variable {H : Type} {enc : TypeId × Value → H} {W : World}
theorem ko_2 : Ko enc Try.prog W 2 (kint .i64) := Ko.int u_2
theorem ko_22 : Ko enc Try.prog W 22 kSl_2 := Ko.slice u_22 (by kernel_rfl) (by kernel_rfl) ko_2
theorem ko_9 : Ko enc Try.prog W 9 kstr := Ko.str u_9
theorem ko_129 : Ko enc Try.prog W 129 kT_129 := Ko.struct (fs := fsOf Try.prog 129) (ps := [(9, 0), (2, 1)]) (by kernel_rfl) (by kernel_rfl) (by kernel_rfl) (KoF.cons (by kernel_rfl) rfl ko_9 (KoF.one (by kernel_rfl) ko_2)) (fun (x0, x1) => ⟨x0, x1⟩) (fun (x0, x1) => rfl)
theorem ko_23 : Ko enc Try.prog W 23 kSl_129 := Ko.slice u_23 (by kernel_rfl) (by kernel_rfl) ko_129
theorem ko_25 : Ko enc Try.prog W 25 kT_25 := Ko.struct (fs := fsOf Try.prog 25) (ps := [(2, 0), (2, 1), (2, 2), (22, 3), (23, 4)]) (by kernel_rfl) (by kernel_rfl) (by kernel_rfl) (KoF.cons (by kernel_rfl) rfl ko_2 (KoF.cons (by kernel_rfl) rfl ko_2 (KoF.cons (by kernel_rfl) rfl ko_2 (KoF.cons (by kernel_rfl) rfl ko_22 (KoF.one (by kernel_rfl) ko_23))))) (fun (x0, x1, x2, x3, x4) => ⟨x0, x1, x2, x3, x4⟩) (fun (x0, x1, x2, x3, x4) => rfl)
theorem ko_35 : Ko enc Try.prog W 35 kSl_25 := Ko.slice u_35 (by kernel_rfl) (by kernel_rfl) ko_25
theorem ko_5 : Ko enc Try.prog W 5 kbyte := Ko.byte u_5
theorem ko_62 : Ko enc Try.prog W 62 kSl_5 := Ko.slice u_62 (by kernel_rfl) (by kernel_rfl) ko_5
theorem ko_36 : Ko enc Try.prog W 36 kSl_62 := Ko.slice u_36 (by kernel_rfl) (by kernel_rfl) ko_62
theorem ko_38 : Ko enc Try.prog W 38 kT_38 := Ko.struct (fs := fsOf Try.prog 38) (ps := [(35, 0), (36, 1)]) (by kernel_rfl) (by kernel_rfl) (by kernel_rfl) (KoF.cons (by kernel_rfl) rfl ko_35 (KoF.one (by kernel_rfl) ko_36)) (fun (x0, x1) => ⟨x0, x1⟩) (fun (x0, x1) => rfl)
end
end Go.Proofs.Ytoaebcjjfojfeaa

/- What is proved: arguments of this program's types, read out of memory, are of their kinds. No condition. -/
import Derived.Test.YtkmcpcahbfdohaaTypes
import Derived.Test.YtkmcpcahbfdohaaBase1
namespace Go.Proofs.Ytkmcpcahbfdohaa
open Go Go.RowKit
set_option maxRecDepth 100000
set_option linter.unusedVariables false
section
variable {H : Type} {enc : TypeId × Value → H} {W : World}
theorem ko_2 : Ko enc Try.prog W 2 (kint .i64) := Ko.int u_2
theorem ko_40 : Ko enc Try.prog W 40 kSl_2 := Ko.slice u_40 (by kernel_rfl) (by kernel_rfl) ko_2
theorem ko_22 : Ko enc Try.prog W 22 kSl_40 := Ko.slice u_22 (by kernel_rfl) (by kernel_rfl) ko_40
theorem ko_152 : Ko enc Try.prog W 152 kT_152 := Ko.struct (fs := fsOf Try.prog 152) (ps := [(2, 0), (40, 1)]) (by kernel_rfl) (by kernel_rfl) (by kernel_rfl) (KoF.cons (by kernel_rfl) rfl ko_2 (KoF.one (by kernel_rfl) ko_40)) (fun (x0, x1) => ⟨x0, x1⟩) (fun (x0, x1) => rfl)
theorem ko_32 : Ko enc Try.prog W 32 kSl_152 := Ko.slice u_32 (by kernel_rfl) (by kernel_rfl) ko_152
theorem ko_34 : Ko enc Try.prog W 34 kT_34 := Ko.struct (fs := fsOf Try.prog 34) (ps := [(22, 0), (32, 1)]) (by kernel_rfl) (by kernel_rfl) (by kernel_rfl) (KoF.cons (by kernel_rfl) rfl ko_22 (KoF.one (by kernel_rfl) ko_32)) (fun (x0, x1) => ⟨x0, x1⟩) (fun (x0, x1) => rfl)
theorem ko_5 : Ko enc Try.prog W 5 kbyte := Ko.byte u_5
theorem ko_49 : Ko enc Try.prog W 49 kSl_5 := Ko.slice u_49 (by kernel_rfl) (by kernel_rfl) ko_5
theorem ko_4 : Ko enc Try.prog W 4 kbool := Ko.bool u_4
theorem ko_51 : Ko enc Try.prog W 51 kSl_4 := Ko.slice u_51 (by kernel_rfl) (by kernel_rfl) ko_4
theorem ko_165 : Ko enc Try.prog W 165 kT_165 := Ko.struct (fs := fsOf Try.prog 165) (ps := [(2, 0), (2, 1), (2, 2)]) (by kernel_rfl) (by kernel_rfl) (by kernel_rfl) (KoF.cons (by kernel_rfl) rfl ko_2 (KoF.cons (by kernel_rfl) rfl ko_2 (KoF.one (by kernel_rfl) ko_2))) (fun (x0, x1, x2) => ⟨x0, x1, x2⟩) (fun (x0, x1, x2) => rfl)
theorem ko_67 : Ko enc Try.prog W 67 kSl_165 := Ko.slice u_67 (by kernel_rfl) (by kernel_rfl) ko_165
theorem ko_69 : Ko enc Try.prog W 69 kT_69 := Ko.struct (fs := fsOf Try.prog 69) (ps := [(34, 0), (67, 2)]) (by kernel_rfl) (by kernel_rfl) (by kernel_rfl) (KoF.cons (by kernel_rfl) rfl ko_34 (KoF.one (by kernel_rfl) ko_67)) (fun (x0, x1) => ⟨x0, x1⟩) (fun (x0, x1) => rfl)
end
end Go.Proofs.Ytkmcpcahbfdohaa

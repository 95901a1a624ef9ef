/- What is proved: arguments of this program's types, read out of memory, are of their kinds. No condition. -/
import Derived.Test.YtbcdcakcmdcafaaGreatTypes
import Derived.Test.YtbcdcakcmdcafaaGreatBase1
namespace Go.Proofs.YtbcdcakcmdcafaaGreat
open Go Go.RowKit
set_option maxRecDepth 100000
set_option linter.unusedVariables false
section
variable {H : Type} {enc : TypeId × Value → H} {W : World}
theorem ko_2 : Ko enc Tryz.prog W 2 (kint .i64) := Ko.int u_2
theorem ko_9 : Ko enc Tryz.prog W 9 kstr := Ko.str u_9
theorem ko_5 : Ko enc Tryz.prog W 5 kbyte := Ko.byte u_5
theorem ko_39 : Ko enc Tryz.prog W 39 kSl_5 := Ko.slice u_39 (by kernel_rfl) (by kernel_rfl) ko_5
theorem ko_22 : Ko enc Tryz.prog W 22 kSl_39 := Ko.slice u_22 (by kernel_rfl) (by kernel_rfl) ko_39
theorem ko_58 : Ko enc Tryz.prog W 58 kSl_2 := Ko.slice u_58 (by kernel_rfl) (by kernel_rfl) ko_2
theorem ko_160 : Ko enc Tryz.prog W 160 kT_160 := Ko.struct (fs := fsOf Tryz.prog 160) (ps := [(9, 0), (2, 1)]) (by kernel_rfl) (by kernel_rfl) (by kernel_rfl) (KoF.cons (by kernel_rfl) rfl ko_9 (KoF.one (by kernel_rfl) ko_2)) (fun (x0, x1) => ⟨x0, x1⟩) (fun (x0, x1) => rfl)
theorem ko_109 : Ko enc Tryz.prog W 109 kSl_160 := Ko.slice u_109 (by kernel_rfl) (by kernel_rfl) ko_160
theorem ko_111 : Ko enc Tryz.prog W 111 kT_111 := Ko.struct (fs := fsOf Tryz.prog 111) (ps := [(2, 0), (2, 1), (2, 2), (58, 3), (109, 4)]) (by kernel_rfl) (by kernel_rfl) (by kernel_rfl) (KoF.cons (by kernel_rfl) rfl ko_2 (KoF.cons (by kernel_rfl) rfl ko_2 (KoF.cons (by kernel_rfl) rfl ko_2 (KoF.cons (by kernel_rfl) rfl ko_58 (KoF.one (by kernel_rfl) ko_109))))) (fun (x0, x1, x2, x3, x4) => ⟨x0, x1, x2, x3, x4⟩) (fun (x0, x1, x2, x3, x4) => rfl)
theorem ko_35 : Ko enc Tryz.prog W 35 kSl_111 := Ko.slice u_35 (by kernel_rfl) (by kernel_rfl) ko_111
theorem ko_37 : Ko enc Tryz.prog W 37 kT_37 := Ko.struct (fs := fsOf Tryz.prog 37) (ps := [(35, 0), (22, 1)]) (by kernel_rfl) (by kernel_rfl) (by kernel_rfl) (KoF.cons (by kernel_rfl) rfl ko_35 (KoF.one (by kernel_rfl) ko_22)) (fun (x0, x1) => ⟨x0, x1⟩) (fun (x0, x1) => rfl)
end
end Go.Proofs.YtbcdcakcmdcafaaGreat

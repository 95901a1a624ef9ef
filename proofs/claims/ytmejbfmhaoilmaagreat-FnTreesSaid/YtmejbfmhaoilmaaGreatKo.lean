/- What is proved: arguments of this program's types, read out of memory, are of their kinds. No condition. -/
import Derived.Test.YtmejbfmhaoilmaaGreatTypes
import Derived.Test.YtmejbfmhaoilmaaGreatBase1
namespace Go.Proofs.YtmejbfmhaoilmaaGreat
open Go Go.RowKit
set_option maxRecDepth 100000
set_option linter.unusedVariables false
section
variable {H : Type} {enc : TypeId × Value → H} {W : World}
theorem ko_5 : Ko enc Tryz.prog W 5 kbyte := Ko.byte u_5
theorem ko_22 : Ko enc Tryz.prog W 22 kSl_5 := Ko.slice u_22 (by kernel_rfl) (by kernel_rfl) ko_5
end
end Go.Proofs.YtmejbfmhaoilmaaGreat

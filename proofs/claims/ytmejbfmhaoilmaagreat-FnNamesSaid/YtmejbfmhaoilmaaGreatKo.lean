/- What is proved: arguments of this program's types, read out of memory, are of their kinds. No condition. -/
import Derived.Test.YtmejbfmhaoilmaaGreatTypes
import Derived.Test.YtmejbfmhaoilmaaGreatBase1
namespace Go.Proofs.YtmejbfmhaoilmaaGreat
open Go Go.RowKit
set_option maxRecDepth 100000
set_option linter.unusedVariables false
section
variable {H:Type}{enc:TypeId×Value→H}{W:World}
theorem aN3:Ko enc Tryz.prog W 5 sZ:=Ko.a u_5
theorem aL4:Ko enc Tryz.prog W 22 cX:=Ko.slice gV (by kernel_rfl) (by kernel_rfl) aN3
end
end Go.Proofs.YtmejbfmhaoilmaaGreat

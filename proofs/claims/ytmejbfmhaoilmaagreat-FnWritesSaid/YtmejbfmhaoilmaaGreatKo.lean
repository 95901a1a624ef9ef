/- What is proved: arguments of this program's types, read out of memory, are of their kinds. No condition. -/
import Derived.Test.YtmejbfmhaoilmaaGreatTypes
import Derived.Test.YtmejbfmhaoilmaaGreatBase0
namespace Go.Proofs.YtmejbfmhaoilmaaGreat
open Go Go.RowKit
set_option maxRecDepth 100000
set_option linter.unusedVariables false
section
variable {H:Type}{enc:TypeId×Value→H}{W:World}
theorem aMu:Ko enc Tryz.prog W 5 qR:=Ko.a u_5
theorem aLq:Ko enc Tryz.prog W 22 bQ:=Ko.slice dP (by kernel_rfl) (by kernel_rfl) aMu
end
end Go.Proofs.YtmejbfmhaoilmaaGreat

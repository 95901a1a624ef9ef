/- What is proved: arguments of this program's types, read out of memory, are of their kinds. No condition. -/
import Derived.Test.YtbfcpfmhmhklnaaDoorTypes
import Derived.Test.YtbfcpfmhmhklnaaDoorBase1
namespace Go.Proofs.YtbfcpfmhmhklnaaDoor
open Go Go.RowKit
set_option maxRecDepth 100000
set_option linter.unusedVariables false
section
variable {H : Type} {enc : TypeId × Value → H} {W : World}
theorem ko_9 : Ko enc Tryd.prog W 9 kstr := Ko.str u_9
theorem ko_5 : Ko enc Tryd.prog W 5 kbyte := Ko.byte u_5
theorem ko_34 : Ko enc Tryd.prog W 34 kSl_5 := Ko.slice u_34 (by kernel_rfl) (by kernel_rfl) ko_5
end
end Go.Proofs.YtbfcpfmhmhklnaaDoor

/- What is proved: arguments of this program's types, read out of memory, are of their kinds. No condition. -/
import Derived.Test.YtbfcpfmhmhklnaaTypes
import Derived.Test.YtbfcpfmhmhklnaaBase1
namespace Go.Proofs.Ytbfcpfmhmhklnaa
open Go Go.RowKit
set_option maxRecDepth 100000
set_option linter.unusedVariables false
section
variable {H : Type} {enc : TypeId × Value → H} {W : World}
theorem ko_9 : Ko enc Try.prog W 9 kstr := Ko.str u_9
theorem ko_22 : Ko enc Try.prog W 22 kSl_9 := Ko.slice u_22 (by kernel_rfl) (by kernel_rfl) ko_9
end
end Go.Proofs.Ytbfcpfmhmhklnaa

/- What is proved: contracts of functions, one a function. No condition. -/
import Derived.Test.YtbfcpfmhmhklnaaDoorTypes
import Derived.Test.YtbfcpfmhmhklnaaDoorBase2
import Derived.Test.YtbfcpfmhmhklnaaDoorBase1
namespace Go.Proofs.YtbfcpfmhmhklnaaDoor
open Go Go.RowKit
set_option linter.unusedVariables false
set_option linter.unusedSimpArgs false
end Go.Proofs.YtbfcpfmhmhklnaaDoor

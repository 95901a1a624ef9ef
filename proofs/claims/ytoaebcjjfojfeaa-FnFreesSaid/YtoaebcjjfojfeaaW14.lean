/- What is proved: contracts of functions, one a function. No condition. -/
import Derived.Test.YtoaebcjjfojfeaaW13
import Derived.Test.YtoaebcjjfojfeaaW6
import Derived.Test.YtoaebcjjfojfeaaBase2
namespace Go.Proofs.Ytoaebcjjfojfeaa
open Go Go.RowKit
set_option linter.unusedVariables false
set_option linter.unusedSimpArgs false
end Go.Proofs.Ytoaebcjjfojfeaa

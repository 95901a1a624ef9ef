/- What is proved: contracts of functions, one a function. No condition. -/
import Derived.Test.YticaddophhggoaaGreatDoorW61
import Derived.Test.YticaddophhggoaaGreatDoorBase2
namespace Go.Proofs.YticaddophhggoaaGreatDoor
open Go Go.RowKit
set_option linter.unusedVariables false
set_option linter.unusedSimpArgs false
end Go.Proofs.YticaddophhggoaaGreatDoor

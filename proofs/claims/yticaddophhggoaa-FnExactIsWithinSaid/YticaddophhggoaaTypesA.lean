/- What is proved: facts on this program's arrays of whole numbers. No condition. -/
import Derived.Test.YticaddophhggoaaTypes
namespace Go.Proofs.Yticaddophhggoaa
open Go Go.RowKit
set_option maxRecDepth 100000
theorem u_81 : Try.prog.underlying 81 = some (.array 20 2) := by kernel_rfl
theorem sz_81 : (Try.prog.info? 81).map (·.size) = some 20 := by kernel_rfl
theorem ag_81 : AggIs Try.prog 81 true := by unfold AggIs; kernel_rfl
theorem z_81 : (Try.prog.info? 81).map (·.zero) = some (some (.agg ((List.replicate 20 (0 : Int)).map (Value.int .i64)).toArray)) := by kernel_rfl
end Go.Proofs.Yticaddophhggoaa

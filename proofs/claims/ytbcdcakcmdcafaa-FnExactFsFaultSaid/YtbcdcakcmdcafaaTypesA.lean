/- What is proved: facts on this program's arrays of whole numbers. No condition. -/
import Derived.Test.YtbcdcakcmdcafaaTypes
namespace Go.Proofs.Ytbcdcakcmdcafaa
open Go Go.RowKit
set_option maxRecDepth 100000
theorem u_114 : Try.prog.underlying 114 = some (.array 20 2) := by kernel_rfl
theorem sz_114 : (Try.prog.info? 114).map (·.size) = some 20 := by kernel_rfl
theorem ag_114 : AggIs Try.prog 114 true := by unfold AggIs; kernel_rfl
theorem z_114 : (Try.prog.info? 114).map (·.zero) = some (some (.agg ((List.replicate 20 (0 : Int)).map (Value.int .i64)).toArray)) := by kernel_rfl
end Go.Proofs.Ytbcdcakcmdcafaa

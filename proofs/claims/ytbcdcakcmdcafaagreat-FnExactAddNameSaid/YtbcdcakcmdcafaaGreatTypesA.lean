/- What is proved: facts on this program's arrays of whole numbers. No condition. -/
import Derived.Test.YtbcdcakcmdcafaaGreatTypes
namespace Go.Proofs.YtbcdcakcmdcafaaGreat
open Go Go.RowKit
set_option maxRecDepth 100000
theorem u_136 : Tryz.prog.underlying 136 = some (.array 20 2) := by kernel_rfl
theorem sz_136 : (Tryz.prog.info? 136).map (·.size) = some 20 := by kernel_rfl
theorem ag_136 : AggIs Tryz.prog 136 true := by unfold AggIs; kernel_rfl
theorem z_136 : (Tryz.prog.info? 136).map (·.zero) = some (some (.agg ((List.replicate 20 (0 : Int)).map (Value.int .i64)).toArray)) := by kernel_rfl
theorem fv_41_0 (w : World) (c0 c1 : Value) : (Instr.field 41 (.agg #[c0, c1]) 0).run Tryz.prog w = .ok (c0) w := by kernel_rfl
theorem fv_60_0 (w : World) (c0 c1 : Value) : (Instr.field 60 (.agg #[c0, c1]) 0).run Tryz.prog w = .ok (c0) w := by kernel_rfl
theorem fv_60_1 (w : World) (c0 c1 : Value) : (Instr.field 60 (.agg #[c0, c1]) 1).run Tryz.prog w = .ok (c1) w := by kernel_rfl
end Go.Proofs.YtbcdcakcmdcafaaGreat

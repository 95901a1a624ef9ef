/- What is proved: facts on this program's arrays of whole numbers. No condition. -/
import Derived.Test.YticaddophhggoaaGreatDoorTypes
namespace Go.Proofs.YticaddophhggoaaGreatDoor
open Go Go.RowKit
set_option maxRecDepth 100000
theorem u_133 : Tryz.prog.underlying 133 = some (.array 20 2) := by kernel_rfl
theorem sz_133 : (Tryz.prog.info? 133).map (·.size) = some 20 := by kernel_rfl
theorem ag_133 : AggIs Tryz.prog 133 true := by unfold AggIs; kernel_rfl
theorem z_133 : (Tryz.prog.info? 133).map (·.zero) = some (some (.agg ((List.replicate 20 (0 : Int)).map (Value.int .i64)).toArray)) := by kernel_rfl
theorem fv_28_0 (w : World) (c0 c1 : Value) : (Instr.field 28 (.agg #[c0, c1]) 0).run Tryz.prog w = .ok (c0) w := by kernel_rfl
theorem fv_46_0 (w : World) (c0 c1 : Value) : (Instr.field 46 (.agg #[c0, c1]) 0).run Tryz.prog w = .ok (c0) w := by kernel_rfl
theorem fv_46_1 (w : World) (c0 c1 : Value) : (Instr.field 46 (.agg #[c0, c1]) 1).run Tryz.prog w = .ok (c1) w := by kernel_rfl
theorem fv_50_1 (w : World) (c0 c1 : Value) : (Instr.field 50 (.agg #[c0, c1]) 1).run Tryz.prog w = .ok (c1) w := by kernel_rfl
theorem fv_178_0 (w : World) (c0 c1 : Value) : (Instr.field 178 (.agg #[c0, c1]) 0).run Tryz.prog w = .ok (c0) w := by kernel_rfl
end Go.Proofs.YticaddophhggoaaGreatDoor

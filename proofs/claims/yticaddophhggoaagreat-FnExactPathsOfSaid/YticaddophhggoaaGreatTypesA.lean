/- What is proved: facts on this program's arrays of whole numbers. No condition. -/
import Derived.Test.YticaddophhggoaaGreatTypes
namespace Go.Proofs.YticaddophhggoaaGreat
open Go Go.RowKit
set_option maxRecDepth 100000
theorem u_187 : Tryz.prog.underlying 187 = some (.array 20 2) := by kernel_rfl
theorem sz_187 : (Tryz.prog.info? 187).map (·.size) = some 20 := by kernel_rfl
theorem ag_187 : AggIs Tryz.prog 187 true := by unfold AggIs; kernel_rfl
theorem z_187 : (Tryz.prog.info? 187).map (·.zero) = some (some (.agg ((List.replicate 20 (0 : Int)).map (Value.int .i64)).toArray)) := by kernel_rfl
theorem fv_33_0 (w : World) (c0 c1 c2 : Value) : (Instr.field 33 (.agg #[c0, c1, c2]) 0).run Tryz.prog w = .ok (c0) w := by kernel_rfl
theorem fv_53_1 (w : World) (c0 c1 : Value) : (Instr.field 53 (.agg #[c0, c1]) 1).run Tryz.prog w = .ok (c1) w := by kernel_rfl
theorem fv_62_0 (w : World) (c0 c1 : Value) : (Instr.field 62 (.agg #[c0, c1]) 0).run Tryz.prog w = .ok (c0) w := by kernel_rfl
theorem fv_62_1 (w : World) (c0 c1 : Value) : (Instr.field 62 (.agg #[c0, c1]) 1).run Tryz.prog w = .ok (c1) w := by kernel_rfl
theorem fv_81_1 (w : World) (c0 c1 : Value) : (Instr.field 81 (.agg #[c0, c1]) 1).run Tryz.prog w = .ok (c1) w := by kernel_rfl
end Go.Proofs.YticaddophhggoaaGreat

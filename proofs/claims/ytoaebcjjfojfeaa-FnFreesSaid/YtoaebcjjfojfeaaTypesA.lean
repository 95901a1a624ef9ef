/- What is proved: facts on this program's arrays of whole numbers. No condition. -/
import Derived.Test.YtoaebcjjfojfeaaTypes
namespace Go.Proofs.Ytoaebcjjfojfeaa
open Go Go.RowKit
set_option maxRecDepth 100000
theorem fv_48_1 (w : World) (c0 c1 : Value) : (Instr.field 48 (.agg #[c0, c1]) 1).run Try.prog w = .ok (c1) w := by kernel_rfl
theorem fv_57_0 (w : World) (c0 c1 : Value) : (Instr.field 57 (.agg #[c0, c1]) 0).run Try.prog w = .ok (c0) w := by kernel_rfl
theorem fv_57_1 (w : World) (c0 c1 : Value) : (Instr.field 57 (.agg #[c0, c1]) 1).run Try.prog w = .ok (c1) w := by kernel_rfl
theorem fv_66_0 (w : World) (c0 c1 c2 c3 c4 c5 : Value) : (Instr.field 66 (.agg #[c0, c1, c2, c3, c4, c5]) 0).run Try.prog w = .ok (c0) w := by kernel_rfl
end Go.Proofs.Ytoaebcjjfojfeaa

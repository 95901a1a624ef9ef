/- What is proved: facts on this program's arrays of whole numbers. No condition. -/
import Derived.Test.YtkmcpcahbfdohaaTypes
namespace Go.Proofs.Ytkmcpcahbfdohaa
open Go Go.RowKit
set_option maxRecDepth 100000
theorem fv_45_0 (w : World) (c0 c1 c2 c3 c4 : Value) : (Instr.field 45 (.agg #[c0, c1, c2, c3, c4]) 0).run Try.prog w = .ok (c0) w := by kernel_rfl
theorem fv_60_1 (w : World) (c0 c1 : Value) : (Instr.field 60 (.agg #[c0, c1]) 1).run Try.prog w = .ok (c1) w := by kernel_rfl
theorem fv_76_0 (w : World) (c0 c1 : Value) : (Instr.field 76 (.agg #[c0, c1]) 0).run Try.prog w = .ok (c0) w := by kernel_rfl
theorem fv_76_1 (w : World) (c0 c1 : Value) : (Instr.field 76 (.agg #[c0, c1]) 1).run Try.prog w = .ok (c1) w := by kernel_rfl
end Go.Proofs.Ytkmcpcahbfdohaa

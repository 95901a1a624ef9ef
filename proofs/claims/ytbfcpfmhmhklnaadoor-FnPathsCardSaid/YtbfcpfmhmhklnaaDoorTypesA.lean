/- What is proved: facts on this program's arrays of whole numbers. No condition. -/
import Derived.Test.YtbfcpfmhmhklnaaDoorTypes
namespace Go.Proofs.YtbfcpfmhmhklnaaDoor
open Go Go.RowKit
set_option maxRecDepth 100000
theorem fv_24_0 (w : World) (c0 c1 : Value) : (Instr.field 24 (.agg #[c0, c1]) 0).run Tryd.prog w = .ok (c0) w := by kernel_rfl
theorem fv_24_1 (w : World) (c0 c1 : Value) : (Instr.field 24 (.agg #[c0, c1]) 1).run Tryd.prog w = .ok (c1) w := by kernel_rfl
theorem fv_30_0 (w : World) (c0 c1 : Value) : (Instr.field 30 (.agg #[c0, c1]) 0).run Tryd.prog w = .ok (c0) w := by kernel_rfl
theorem fv_30_1 (w : World) (c0 c1 : Value) : (Instr.field 30 (.agg #[c0, c1]) 1).run Tryd.prog w = .ok (c1) w := by kernel_rfl
end Go.Proofs.YtbfcpfmhmhklnaaDoor

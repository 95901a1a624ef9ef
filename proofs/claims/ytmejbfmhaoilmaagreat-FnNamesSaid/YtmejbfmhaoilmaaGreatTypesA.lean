/- What is proved: facts on this program's arrays of whole numbers. No condition. -/
import Derived.Test.YtmejbfmhaoilmaaGreatTypes
namespace Go.Proofs.YtmejbfmhaoilmaaGreat
open Go Go.RowKit
set_option maxRecDepth 100000
theorem aIx (w:World) (c0 c1:Value):(Instr.field 31 (.agg #[c0,c1]) 0).run Tryz.prog w= .ok (c0) w:=by kernel_rfl
theorem aIv (w:World) (c0 c1 c2:Value):(Instr.field 48 (.agg #[c0,c1,c2]) 0).run Tryz.prog w= .ok (c0) w:=by kernel_rfl
theorem aIr (w:World) (c0 c1:Value):(Instr.field 65 (.agg #[c0,c1]) 1).run Tryz.prog w= .ok (c1) w:=by kernel_rfl
theorem aEi (w:World) (c0 c1:Value):(Instr.field 68 (.agg #[c0,c1]) 1).run Tryz.prog w= .ok (c1) w:=by kernel_rfl
theorem oJ (w:World) (c0 c1 c2 c3 c4 c5 c6:Value):(Instr.field 155 (.agg #[c0,c1,c2,c3,c4,c5,c6]) 5).run Tryz.prog w= .ok (.agg #[c5,c6]) w:=by kernel_rfl
end Go.Proofs.YtmejbfmhaoilmaaGreat

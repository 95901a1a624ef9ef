/- What is proved: facts on this program's arrays of whole numbers. No condition. -/
import Derived.Test.YtmejbfmhaoilmaaGreatTypes
namespace Go.Proofs.YtmejbfmhaoilmaaGreat
open Go Go.RowKit
set_option maxRecDepth 100000
theorem aI4:Tryz.prog.underlying 163=some (.array 20 2):=by kernel_rfl
theorem aCh:(Tryz.prog.info? 163).map (·.size)=some 20:=by kernel_rfl
theorem aF4:eN Tryz.prog 163 true:=by unfold eN;kernel_rfl
theorem aI1:(Tryz.prog.info? 163).map (·.zero)=some (some (.agg ((List.replicate 20 (0:Int)).map (Value.int .i64)).toArray)):=by kernel_rfl
theorem aIe (w:World) (c0 c1:Value):(Instr.field 31 (.agg #[c0,c1]) 0).run Tryz.prog w= .ok (c0) w:=by kernel_rfl
theorem aHx (w:World) (c0 c1 c2:Value):(Instr.field 48 (.agg #[c0,c1,c2]) 0).run Tryz.prog w= .ok (c0) w:=by kernel_rfl
theorem oB (w:World) (c0 c1 c2 c3 c4 c5 c6:Value):(Instr.field 155 (.agg #[c0,c1,c2,c3,c4,c5,c6]) 5).run Tryz.prog w= .ok (.agg #[c5,c6]) w:=by kernel_rfl
end Go.Proofs.YtmejbfmhaoilmaaGreat

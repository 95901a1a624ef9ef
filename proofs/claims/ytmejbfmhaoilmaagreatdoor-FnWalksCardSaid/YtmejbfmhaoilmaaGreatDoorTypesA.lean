/- What is proved: facts on this program's arrays of whole numbers. No condition. -/
import Derived.Test.YtmejbfmhaoilmaaGreatDoorPart0
namespace Go.Proofs.YtmejbfmhaoilmaaGreatDoor
open Go Go.RowKit
set_option maxRecDepth 100000
theorem aKe:Tryz.prog.underlying 105=some (.array 20 2):=by kernel_rfl
theorem aD5:(Tryz.prog.info? 105).map (·.size)=some 20:=by kernel_rfl
theorem aH7:eE Tryz.prog 105 true:=by unfold eE;kernel_rfl
theorem aKf:(Tryz.prog.info? 105).map (·.zero)=some (some (.agg ((List.replicate 20 (0:Int)).map (Value.int .i64)).toArray)):=by kernel_rfl
theorem aJq (w:World) (c0 c1:Value):(Instr.field 31 (.agg #[c0,c1]) 0).run Tryz.prog w= .ok (c0) w:=by kernel_rfl
theorem aI4 (w:World) (c0 c1:Value):(Instr.field 31 (.agg #[c0,c1]) 1).run Tryz.prog w= .ok (c1) w:=by kernel_rfl
theorem aJp (w:World) (c0 c1:Value):(Instr.field 34 (.agg #[c0,c1]) 0).run Tryz.prog w= .ok (c0) w:=by kernel_rfl
theorem aEg (w:World) (c0 c1:Value):(Instr.field 38 (.agg #[c0,c1]) 1).run Tryz.prog w= .ok (c1) w:=by kernel_rfl
theorem pU (w:World) (c0 c1 c2 c3 c4 c5 c6:Value):(Instr.field 91 (.agg #[c0,c1,c2,c3,c4,c5,c6]) 5).run Tryz.prog w= .ok (.agg #[c5,c6]) w:=by kernel_rfl
theorem aIj (w:World) (c0 c1:Value):(Instr.field 135 (.agg #[c0,c1]) 0).run Tryz.prog w= .ok (c0) w:=by kernel_rfl
end Go.Proofs.YtmejbfmhaoilmaaGreatDoor

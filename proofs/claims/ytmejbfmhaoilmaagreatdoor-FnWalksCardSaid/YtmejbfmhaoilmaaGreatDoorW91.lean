/- What is proved: contracts of functions, one a function. No condition. -/
import Derived.Test.YtmejbfmhaoilmaaGreatDoorBase1
import Derived.Test.YtmejbfmhaoilmaaGreatDoorW24
import Derived.Test.YtmejbfmhaoilmaaGreatDoorPart3
import Derived.Test.YtmejbfmhaoilmaaGreatDoorStrL
namespace Go.Proofs.YtmejbfmhaoilmaaGreatDoor
open Go Go.RowKit
set_option linter.unusedVariables false
set_option linter.unusedSimpArgs false
set_option maxHeartbeats 1000000
set_option maxRecDepth 20000
theorem aOb {w0:World}{S0:Bs}{x:(List ByteArray)}{v0:Value} (h0:cT.ro w0 (FF w0 S0) x [v0]) (hok:∀s,s∈x→aV s=0) (hl:x.length≤6):
    Calls Tryz.prog 68 #[v0] w0 (aI w0 S0 (fun r l=>r= .string (jD x)∧l= [])):=by
 obtain⟨A0,c0,rfl,hl0,hm0,hb0,he0⟩:=aD h0
 have hjs:=aJk hok hl
 have h47:(⟨#[47]⟩:ByteArray).size=1:=rfl
 refine Y.enter (N:=6) Tryz.func68 rfl rfl (by simp) [(0,.slice A0 x.length c0)] (by simp) (l0:= []) trivial ?_
 refine Y.seq (Y.region (Y.ql rfl (aA rfl .c) (Y.nt (Y.seq (Y.region (Y.mv rfl .g1 ?_))))))
 refine Y.cl rfl rfl Tryz.func96 rfl rfl (aS (.t .z) .c) .n (fun _ _ hs tr=>aOq (tr.ctx h0) (by assumption) (by assumption)) ?_
 rintro _ _ ⟨rfl,rfl⟩
 refine Y.m .n ?_
 refine Y.ql rfl (wT rfl .c (.t .z) (by omega)) ?_
 refine Y.er .g3 (Y.as rfl .z (Y.nt (Y.ret ?_)))
 refine Y.i (aU rfl .z) .n ?_
 exact⟨congrArg Value.string (aAa x),rfl⟩

end Go.Proofs.YtmejbfmhaoilmaaGreatDoor

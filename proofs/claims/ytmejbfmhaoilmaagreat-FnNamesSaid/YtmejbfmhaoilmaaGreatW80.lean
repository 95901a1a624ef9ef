/- What is proved: contracts of functions, one a function. No condition. -/
import Derived.Test.YtmejbfmhaoilmaaGreatBase1
import Derived.Test.YtmejbfmhaoilmaaGreatW32
import Derived.Test.YtmejbfmhaoilmaaGreatW42
import Derived.Test.YtmejbfmhaoilmaaGreatW41
import Derived.Test.YtmejbfmhaoilmaaGreatW70
import Derived.Test.YtmejbfmhaoilmaaGreatBase2
namespace Go.Proofs.YtmejbfmhaoilmaaGreat
open Go Go.RowKit
set_option linter.unusedVariables false
set_option linter.unusedSimpArgs false
set_option maxHeartbeats 1000000
set_option maxRecDepth 20000
theorem aNj {w0:World}{S0:Bs}:
    Calls Tryz.prog 131 #[] w0 (aJ w0 S0 (aId (⟨[⟨2,0,0,[],[]⟩],List.replicate 20 []⟩:DFs))):=by
 refine Y.enter (N:=5) Tryz.func131 rfl rfl (by simp) [] (by simp) (l0:= []) trivial ?_
 refine Y.seq (Y.region ?_)
 refine Y.el rfl (bL rfl nF rfl rfl) ?_
 rintro _ _ ⟨g1,rfl,rfl⟩
 refine Y.nt (Y.seq (Y.region (Y.ql rfl (aZ (cs:= [.int .i64 2,.int .i64 0,.int .i64 0,.slice none 0 0,.slice none 0 0]) rfl rX (pv1 .c) rfl) ?_)))
 refine Y.el rfl (aS (cs:= [.int .i64 2,.int .i64 0,.int .i64 0,.slice none 0 0,.slice none 0 0]) rfl cE (inz lF) (by decide) (pv1 (.t .z)) rfl rfl (by decide) rfl rfl) ?_
 rintro _ _ ⟨g2,rfl,rfl⟩
 refine Y.el rfl (nA (n:=20) (x0:=([]:(List UInt8))) rfl mA wU rfl (fun w S=>aN w S none) .c .c (by omega) (by omega)) ?_
 rintro _ _ rfl
 refine Y.h (WS.a .z) ?_
 rintro⟨aa,ab,rfl,ac,ad,ae⟩
 refine Y.ql rfl (aZ (cs:= [.slice (some ⟨g2,0,none⟩) 1 1,.slice aa (List.replicate 20 ([]:(List UInt8))).length ab]) rfl aH1 (pv2 (.t .g1) (.t .z)) rfl) ?_
 refine Y.es (aD rfl) rfl (esW rfl (.t .g4) (.t .z) .g2 aW rfl rfl) ?_
 refine Y.nt (Y.ret ?_)
 refine Y.add (c:=aG bY [] [.slice none 0 0]) (fun w S=>aN w S none) ?_
 refine Y.add (c:=aG cP [] [.slice none 0 0]) (fun w S=>aN w S none) ?_
 refine Y.v (c:=aG bD (⟨2,0,0,[],[]⟩:aF) [.int .i64 2,.int .i64 0,.int .i64 0,.slice none 0 0,.slice none 0 0]) (.c .g1 (.c .z .n)) (fun w S h=>bF (⟨2,0,0,[],[]⟩:aF) h) ?_
 refine Y.v (c:=aG aP [(⟨2,0,0,[],[]⟩:aF)] [.slice (some ⟨g2,0,none⟩) 1 1]) (.c .g3 (.c .z .n)) (yO rfl rfl (by decide)) ?_
 refine Y.i (dD rfl .g4 bI .g1 aW) (.c .z (.c .g1 .n)) ?_
 exact⟨_,_,rfl,rfl⟩

theorem hU {w0:World}{S0:Bs}{f:DFs}{ai:List Value} (h0:eU.ro w0 (FF w0 S0) f ai) (c:Int):
    Calls Tryz.prog 172 #[.agg ai.toArray,.int .i64 c] w0 (aJ w0 S0 (sA (⟨0,c,0,[],[],f⟩:eJ))):=by
 obtain⟨aw,ax,rfl,aa,ab⟩:=cY h0
 obtain⟨ac,ad,rfl,aj,ak,al,am⟩:=aH aa
 obtain⟨ae,af,rfl,an,ao,ap,aq⟩:=aH ab
 refine Y.enter (N:=9) Tryz.func172 rfl rfl (by simp) [(0,.agg #[.slice ac f.inodes.length ad,.slice ae f.data.length af]),(1,.int .i64 c)] (by simp) (l0:= []) trivial ?_
 refine Y.seq (Y.region ?_)
 refine Y.el rfl (fT (cs:= [.slice ac f.inodes.length ad,.slice ae f.data.length af]) (n:=2) rfl (.t .z) rfl rfl) ?_
 rintro _ _ ⟨g3,rfl,rfl⟩
 refine Y.el rfl (bL rfl tP rfl rfl) ?_
 rintro _ _ ⟨g4,rfl,rfl⟩
 refine Y.nt (Y.seq (Y.region (Y.mv rfl .g3 (Y.ql rfl (qW rfl bI (.t .g2) .g1 aW) ?_))))
 refine Y.cl rfl rfl Tryz.func67 rfl rfl (bT (.t .z)) .n (fun _ _ hs tr=>vJ (aM f (tr.ctx aa) (tr.ctx ab))) ?_
 rintro _ _ ⟨v5,v7,rfl,rfl⟩
 refine Y.m (.c (.c .n)) ?_
 refine Y.h (WS.a .z) ?_
 rintro⟨ay,az,rfl,a0,a1,a2⟩
 refine Y.h (WS.a .g1) ?_
 rintro⟨ag,ah,rfl,ar,au,av⟩
 refine Y.ql rfl (aZ (cs:= [.int .i64 0,.int .i64 c,.int .i64 0,.slice none 0 0,.slice none 0 0,.slice ay f.inodes.length az,.slice ag f.data.length ah]) rfl mO (pv2 (.t .g2) (.t .z)) rfl) ?_
 refine Y.es (aD rfl) rfl (esW rfl (.t .g4) (.t .z) .g2 bG rfl rfl) ?_
 refine Y.nt (Y.ret ?_)
 refine Y.add (c:=aG cX [] [.slice none 0 0]) (fun w S=>aN w S none) ?_
 refine Y.add (c:=aG fB [] [.slice none 0 0]) (fun w S=>aN w S none) ?_
 refine Y.i (dD rfl .g4 dS .g2 bG) (.c .g1 (.c .z (.c .g1 (.c .g1 .n)))) ?_
 exact⟨_,_,_,_,rfl,rfl⟩

end Go.Proofs.YtmejbfmhaoilmaaGreat

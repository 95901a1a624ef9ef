/- What is proved: contracts of functions, one a function. No condition. -/
import Derived.Test.YtmejbfmhaoilmaaGreatBase1
import Derived.Test.YtmejbfmhaoilmaaGreatW32
import Derived.Test.YtmejbfmhaoilmaaGreatW42
import Derived.Test.YtmejbfmhaoilmaaGreatW41
import Derived.Test.YtmejbfmhaoilmaaGreatW70
import Derived.Test.YtmejbfmhaoilmaaGreatBase2
namespace Go.Proofs.YtmejbfmhaoilmaaGreat
open Go Go.RowKit
set_option linter.unusedVariables false
set_option linter.unusedSimpArgs false
set_option maxHeartbeats 1000000
set_option maxRecDepth 20000
theorem aLo {w0:World}{S0:Bs}:
    Calls Tryz.prog 131 #[] w0 (aI w0 S0 (aGx (⟨[⟨2,0,0,[],[]⟩],List.replicate 20 []⟩:DFs))):=by
 refine Y.enter (N:=5) Tryz.func131 rfl rfl (by simp) [] (by simp) (l0:= []) trivial ?_
 refine Y.seq (Y.region ?_)
 refine Y.el rfl (bD rfl mQ rfl rfl) ?_
 rintro _ _ ⟨g1,rfl,rfl⟩
 refine Y.nt (Y.seq (Y.region (Y.ql rfl (aZ (cs:= [.int .i64 2,.int .i64 0,.int .i64 0,.slice none 0 0,.slice none 0 0]) rfl qJ (pv1 .c) rfl) ?_)))
 refine Y.el rfl (aO (cs:= [.int .i64 2,.int .i64 0,.int .i64 0,.slice none 0 0,.slice none 0 0]) rfl cI (inz lI) (by decide) (pv1 (.t .z)) rfl rfl (by decide) rfl rfl) ?_
 rintro _ _ ⟨g2,rfl,rfl⟩
 refine Y.el rfl (jH (n:=20) (x0:=([]:(List UInt8))) rfl lE vT rfl (fun w S=>aK w S none) .c .c (by omega) (by omega)) ?_
 rintro _ _ rfl
 refine Y.i (WS.a .z) ?_
 rintro⟨aa,ab,rfl,ac,ad,ae⟩
 refine Y.ql rfl (aZ (cs:= [.slice (some ⟨g2,0,none⟩) 1 1,.slice aa (List.replicate 20 ([]:(List UInt8))).length ab]) rfl aGc (pv2 (.t .g1) (.t .z)) rfl) ?_
 refine Y.es (aE rfl) rfl (esW rfl (.t .g4) (.t .z) .g2 aX rfl rfl) ?_
 refine Y.nt (Y.ret ?_)
 refine Y.add (c:=aG aY [] [.slice none 0 0]) (fun w S=>aK w S none) ?_
 refine Y.add (c:=aG dL [] [.slice none 0 0]) (fun w S=>aK w S none) ?_
 refine Y.ac (c:=aG cA (⟨2,0,0,[],[]⟩:aF) [.int .i64 2,.int .i64 0,.int .i64 0,.slice none 0 0,.slice none 0 0]) (.c .g1 (.c .z .n)) (fun w S h=>cP (⟨2,0,0,[],[]⟩:aF) h) ?_
 refine Y.ac (c:=aG aW [(⟨2,0,0,[],[]⟩:aF)] [.slice (some ⟨g2,0,none⟩) 1 1]) (.c .g3 (.c .z .n)) (aGq rfl rfl (by decide)) ?_
 refine Y.j (dA rfl .g4 bN .g1 aX) (.c .z (.c .g1 .n)) ?_
 exact⟨_,_,rfl,rfl⟩

theorem gX {w0:World}{S0:Bs}{f:DFs}{ai:List Value} (h0:eS.ro w0 (FF w0 S0) f ai) (c:Int):
    Calls Tryz.prog 172 #[.agg ai.toArray,.int .i64 c] w0 (aI w0 S0 (rI (⟨0,c,0,[],[],f⟩:eB))):=by
 obtain⟨aw,ax,rfl,aa,ab⟩:=cQ h0
 obtain⟨ac,ad,rfl,aj,ak,al,am⟩:=aD aa
 obtain⟨ae,af,rfl,an,ao,ap,aq⟩:=aD ab
 refine Y.enter (N:=9) Tryz.func172 rfl rfl (by simp) [(0,.agg #[.slice ac f.inodes.length ad,.slice ae f.data.length af]),(1,.int .i64 c)] (by simp) (l0:= []) trivial ?_
 refine Y.seq (Y.region ?_)
 refine Y.el rfl (fR (cs:= [.slice ac f.inodes.length ad,.slice ae f.data.length af]) (n:=2) rfl (.t .z) rfl rfl) ?_
 rintro _ _ ⟨g3,rfl,rfl⟩
 refine Y.el rfl (bD rfl tA rfl rfl) ?_
 rintro _ _ ⟨g4,rfl,rfl⟩
 refine Y.nt (Y.seq (Y.region (Y.mv rfl .g3 (Y.ql rfl (qW rfl bN (.t .g2) .g1 aX) ?_))))
 refine Y.cl rfl rfl Tryz.func67 rfl rfl (bH (.t .z)) .n (fun _ _ hs tr=>uY (aM f (tr.ctx aa) (tr.ctx ab))) ?_
 rintro _ _ ⟨v5,v7,rfl,rfl⟩
 refine Y.r (.c (.c .n)) ?_
 refine Y.i (WS.a .z) ?_
 rintro⟨ay,az,rfl,a0,a1,a2⟩
 refine Y.i (WS.a .g1) ?_
 rintro⟨ag,ah,rfl,ar,au,av⟩
 refine Y.ql rfl (aZ (cs:= [.int .i64 0,.int .i64 c,.int .i64 0,.slice none 0 0,.slice none 0 0,.slice ay f.inodes.length az,.slice ag f.data.length ah]) rfl mD (pv2 (.t .g2) (.t .z)) rfl) ?_
 refine Y.es (aE rfl) rfl (esW rfl (.t .g4) (.t .z) .g2 bA rfl rfl) ?_
 refine Y.nt (Y.ret ?_)
 refine Y.add (c:=aG bX [] [.slice none 0 0]) (fun w S=>aK w S none) ?_
 refine Y.add (c:=aG fJ [] [.slice none 0 0]) (fun w S=>aK w S none) ?_
 refine Y.j (dA rfl .g4 dO .g2 bA) (.c .g1 (.c .z (.c .g1 (.c .g1 .n)))) ?_
 exact⟨_,_,_,_,rfl,rfl⟩

end Go.Proofs.YtmejbfmhaoilmaaGreat

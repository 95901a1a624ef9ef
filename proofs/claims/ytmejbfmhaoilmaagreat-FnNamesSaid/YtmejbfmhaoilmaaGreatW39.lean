/- What is proved: contracts of functions, one a function. No condition. -/
import Derived.Test.YtmejbfmhaoilmaaGreatBase1
import Derived.Test.YtmejbfmhaoilmaaGreatW38
import Derived.Test.YtmejbfmhaoilmaaGreatW32
import Derived.Test.YtmejbfmhaoilmaaGreatBase2
namespace Go.Proofs.YtmejbfmhaoilmaaGreat
open Go Go.RowKit
set_option linter.unusedVariables false
set_option linter.unusedSimpArgs false
set_option maxHeartbeats 1000000
set_option maxRecDepth 20000
theorem aLn {w0:World}{S0:Bs}{f:DFs}{aa:Value}{ab:Value} (c:Int) (hs:cB [aG aP f.inodes [aa],aG cG f.data [ab]] w0 S0):
    Calls Tryz.prog 65 #[.agg #[aa,ab],.int .i64 c] w0 (aJ w0 S0 (vY (fsR f c))):=by
 refine Y.enter (N:=11) Tryz.func65 rfl rfl (by simp) [(0,.agg #[aa,ab]),(1,.int .i64 c)] (by simp) hs ?_
 refine Y.h (WS.a .z) ?_
 rintro⟨ac,ad,rfl,ag,ah,ai⟩
 refine Y.h (WS.a .g1) ?_
 rintro⟨ae,af,rfl,aj,ak,al⟩
 refine Y.seq (Y.region ?_)
 refine Y.el rfl (fT (cs:= [.slice ac f.inodes.length ad,.slice ae f.data.length af]) (n:=2) rfl (.t .z) rfl rfl) ?_
 rintro _ _ ⟨g3,rfl,rfl⟩
 refine Y.el rfl (bL rfl xC rfl rfl) ?_
 rintro _ _ ⟨g4,rfl,rfl⟩
 refine Y.nt (Y.seq (Y.seq (Y.region (Y.mv rfl .g3 (Y.ql rfl (cU rfl (.t .z) .c) (Y.nt ?_))))))
 refine Y.ad (.t .z) (fun b5=> ?_) (fun b5=> ?_)
 refine Y.seq (Y.region (Y.mv rfl .g5 (Y.ql rfl (aZ (cs:= [.int .i64 c,.slice none 0 0,.slice none 0 0]) rfl kW (pv1 (.t .z)) rfl) ?_)))
 refine Y.es (aD rfl) rfl (esW rfl (.t .g4) (.t .z) .z fC rfl rfl) ?_
 refine Y.nt (Y.ret (Y.r ?_))
 refine Y.add (c:=aG aP [] [.slice none 0 0]) (fun w S=>aN w S none) ?_
 refine Y.add (c:=aG cG [] [.slice none 0 0]) (fun w S=>aN w S none) ?_
 refine Y.i (dD rfl .g4 kE .g2 fC) (.c .g1 (.c .z .n)) ?_
 first |(rw [aBx (by assumption)];exact⟨_,_,rfl,rfl⟩) |(rw [aBu (by omega)];exact⟨_,_,rfl,rfl⟩)
 refine Y.skip (Y.g (Y.seq (Y.region (Y.ql rfl (qW rfl bI (.t .g3) .g1 aW) (Y.ql rfl (aZ (cs:= [.int .i64 0,.slice ac f.inodes.length ad,.slice ae f.data.length af]) rfl kW (pv1 (.t .z)) rfl) ?_)))))
 refine Y.es (aD rfl) rfl (esW rfl (.t .g4) (.t .z) .z fC rfl rfl) ?_
 refine Y.nt (Y.ret ?_)
 refine Y.i (dD rfl .g4 kE .z fC) (.c .g2 (.c .g2 .n)) ?_
 first |(rw [aBx (by assumption)];exact⟨_,_,rfl,rfl⟩) |(rw [aBu (by omega)];exact⟨_,_,rfl,rfl⟩)

theorem aNz {w0:World}{S0:Bs}{f:DFs}{ag:List Value} (h0:eU.ro w0 (FF w0 S0) f ag) (a:Int) (s:ByteArray) (bo:s.size≤140737488351232) (b:Int):
    Calls Tryz.prog 32 #[.agg ag.toArray,.int .i64 a,.string s,.int .i64 b] w0 (aJ w0 S0 (vY (dB f a s b))):=by
 obtain⟨a9,ba,rfl,aa,ab⟩:=cY h0
 obtain⟨ac,ad,rfl,ah,ai,aj,ak⟩:=aH aa
 obtain⟨ae,af,rfl,al,am,an,ao⟩:=aH ab
 refine Y.enter (N:=29) Tryz.func32 rfl rfl (by simp) [(0,.agg #[.slice ac f.inodes.length ad,.slice ae f.data.length af]),(1,.int .i64 a),(2,.string s),(3,.int .i64 b)] (by simp) (l0:= []) trivial ?_
 refine Y.seq (Y.region ?_)
 refine Y.el rfl (fT (cs:= [.slice ac f.inodes.length ad,.slice ae f.data.length af]) (n:=2) rfl (.t .z) rfl rfl) ?_
 rintro _ _ ⟨g3,rfl,rfl⟩
 refine Y.el rfl (bL rfl xC rfl rfl) ?_
 rintro _ _ ⟨g4,rfl,rfl⟩
 refine Y.nt (Y.seq (Y.seq (Y.region (Y.ql rfl (qW rfl bI (.t .g1) .g1 aW) (Y.mv rfl .g4 (Y.mv rfl .g6 ?_))))))
 refine Y.cl rfl rfl Tryz.func75 rfl rfl (dX (.t .g2) (.t .g1) (.t .z)) .n (fun _ _ hs tr=>aKo (aM f (tr.ctx aa) (tr.ctx ab)) _ _ (by first | assumption | omega)) ?_
 rintro _ _ ⟨rfl,rfl⟩
 refine Y.m .n ?_
 refine Y.as rfl .z (Y.nt (Y.seq (Y.region (Y.mv rfl .z (Y.ql rfl (cU rfl (.t .z) .c) (Y.nt ?_))))))
 refine Y.ad (.t .z) (fun b5=> ?_) (fun b5=> ?_)
 refine Y.seq (Y.region (Y.mv rfl .g2 (Y.ql rfl (aZ (cs:= [.int .i64 (eE f a s),.slice none 0 0,.slice none 0 0]) rfl kW (pv1 (.t .z)) rfl) ?_)))
 refine Y.es (aD rfl) rfl (esW rfl (.t .g9) (.t .z) .z fC rfl rfl) ?_
 refine Y.nt (Y.ret (Y.r ?_))
 refine Y.add (c:=aG aP [] [.slice none 0 0]) (fun w S=>aN w S none) ?_
 refine Y.add (c:=aG cG [] [.slice none 0 0]) (fun w S=>aN w S none) ?_
 refine Y.i (dD rfl .g9 kE .g2 fC) (.c .g1 (.c .z .n)) ?_
 first |(rw [mR (by assumption)];exact⟨_,_,rfl,rfl⟩) |(rw [nZ hnm];exact⟨_,_,rfl,rfl⟩) |(rw [lB hnm (by assumption)];exact⟨_,_,rfl,rfl⟩) |(rw [lH hnm (by omega)];exact⟨_,_,rfl,rfl⟩)
 have hnm:eE f a s=0:=b5
 obtain⟨ht,hp, -⟩:=qT (tM hnm)
 have h6:(aB f.inodes a).length≤6:=aB5 (iY ht) a
 obtain⟨bp,bq⟩:=hp
 refine Y.skip (Y.g (Y.seq (Y.region (Y.ql rfl (qW rfl bI (.t .g8) .g1 aW) ?_))))
 refine Y.cl rfl rfl Tryz.func63 rfl rfl (bT (.t .z)) .n (fun _ _ hs tr=>aMf (aM f (tr.ctx aa) (tr.ctx ab))) ?_
 rintro _ _ ⟨v8,br,rfl,rfl⟩
 refine Y.m (.c (.c .n)) ?_
 refine Y.h (WS.a .z) ?_
 rintro⟨bb,bc,rfl,ap,aq,ar⟩
 refine Y.h (WS.a .g1) ?_
 rintro⟨bd,be,rfl,au,av,aw⟩
 refine Y.el rfl (bL rfl nF rfl rfl) ?_
 rintro _ _ ⟨g14,rfl,rfl⟩
 refine Y.es (aD rfl) rfl (esW rfl (.t .z) (.t .g1) .z aW rfl rfl) ?_
 refine Y.nt (Y.seq (Y.region (Y.mv rfl .g13 (Y.mv rfl .g15 (Y.mv rfl (.s16 .g1) ?_)))))
 refine Y.cl rfl rfl Tryz.func76 rfl rfl (oT (.t .g3) (.t .g2) (.t .g1) (.t .z)) (.c .z (.c .z (.c .z .n))) (fun _ _ hs tr=>aOg (f:=f) _ _ (by first | assumption | omega) _ hs (by assumption) (by first | assumption |(constructor <;> omega)) (by first | omega | assumption)) ?_
 rintro _ _ ⟨bs,bt,rfl,rfl⟩
 refine Y.m (.c (.c (.c .n))) ?_
 refine Y.h (WS.a .g1) ?_
 rintro⟨bf,bg,rfl,ax,ay,az⟩
 refine Y.h (WS.a .g2) ?_
 rintro⟨bh,bi,rfl,a0,a1,a2⟩
 refine Y.as rfl .z (Y.nt (Y.seq (Y.region (Y.ql rfl (qW rfl bI (.t .g5) .z aW) (Y.mv rfl .g1 ?_)))))
 refine Y.cl rfl rfl Tryz.func65 rfl rfl (aX (.t .g1) (.t .z)) (.c .g1 (.c .g1 .n)) (fun _ _ hs tr=>aLn (f:=(iL f a s b)) _ hs) ?_
 rintro _ _ ⟨bu,bv,rfl,rfl⟩
 refine Y.m (.c (.c .n)) ?_
 refine Y.h (WS.a .z) ?_
 rintro⟨bj,bk,rfl,a3,a4,a5⟩
 refine Y.h (WS.a .g1) ?_
 rintro⟨bm,bn,rfl,a6,a7,a8⟩
 refine Y.es (aD rfl) rfl (esW rfl (.t (.s16 .g2)) (.t .z) .g3 fC rfl rfl) ?_
 refine Y.nt (Y.ret ?_)
 refine Y.i (dD rfl (.s16 .g2) kE .z fC) (.c .g1 (.c .g1 .n)) ?_
 first |(rw [mR (by assumption)];exact⟨_,_,rfl,rfl⟩) |(rw [nZ hnm];exact⟨_,_,rfl,rfl⟩) |(rw [lB hnm (by assumption)];exact⟨_,_,rfl,rfl⟩) |(rw [lH hnm (by omega)];exact⟨_,_,rfl,rfl⟩)

theorem aN4 {w0:World}{S0:Bs}{f:DFs}{ak:List Value} (h0:eU.ro w0 (FF w0 S0) f ak) (a:Int) (s:ByteArray) (be:s.size≤140737488351232) (b:Int):
    Calls Tryz.prog 33 #[.agg ak.toArray,.int .i64 a,.string s,.int .i64 b] w0 (aJ w0 S0 (vY (dB f a s b))):=by
 obtain⟨a7,a8,rfl,aa,ab⟩:=cY h0
 obtain⟨ac,ad,rfl,al,am,an,ao⟩:=aH aa
 obtain⟨ae,af,rfl,ap,aq,ar,au⟩:=aH ab
 refine Y.enter (N:=31) Tryz.func33 rfl rfl (by simp) [(0,.agg #[.slice ac f.inodes.length ad,.slice ae f.data.length af]),(1,.int .i64 a),(2,.string s),(3,.int .i64 b)] (by simp) (l0:= []) trivial ?_
 refine Y.seq (Y.region ?_)
 refine Y.el rfl (fT (cs:= [.slice ac f.inodes.length ad,.slice ae f.data.length af]) (n:=2) rfl (.t .z) rfl rfl) ?_
 rintro _ _ ⟨g3,rfl,rfl⟩
 refine Y.el rfl (bL rfl xC rfl rfl) ?_
 rintro _ _ ⟨g4,rfl,rfl⟩
 refine Y.nt (Y.seq (Y.seq (Y.region (Y.mv rfl .g3 (Y.mv rfl .g5 ?_)))))
 refine Y.cl rfl rfl Tryz.func77 rfl rfl (dX (.t .g3) (.t .g1) (.t .z)) .n (fun _ _ hs tr=>aNw (tr.ptr .g1 (aM f (tr.ctx aa) (tr.ctx ab))) _ _ (by first | assumption | omega)) ?_
 rintro _ _ ⟨rfl,rfl⟩
 refine Y.m .n ?_
 refine Y.as rfl .z (Y.nt (Y.seq (Y.region (Y.mv rfl .z (Y.ql rfl (cU rfl (.t .z) .c) (Y.nt ?_))))))
 refine Y.ad (.t .z) (fun b5=> ?_) (fun b5=> ?_)
 refine Y.seq (Y.region (Y.mv rfl .g2 (Y.ql rfl (aZ (cs:= [.int .i64 (eE f a s),.slice none 0 0,.slice none 0 0]) rfl kW (pv1 (.t .z)) rfl) ?_)))
 refine Y.es (aD rfl) rfl (esW rfl (.t .g8) (.t .z) .z fC rfl rfl) ?_
 refine Y.nt (Y.ret (Y.r ?_))
 refine Y.add (c:=aG aP [] [.slice none 0 0]) (fun w S=>aN w S none) ?_
 refine Y.add (c:=aG cG [] [.slice none 0 0]) (fun w S=>aN w S none) ?_
 refine Y.i (dD rfl .g8 kE .g2 fC) (.c .g1 (.c .z .n)) ?_
 first |(rw [mR (by assumption)];exact⟨_,_,rfl,rfl⟩) |(rw [nZ hnm];exact⟨_,_,rfl,rfl⟩) |(rw [lB hnm (by assumption)];exact⟨_,_,rfl,rfl⟩) |(rw [lH hnm (by omega)];exact⟨_,_,rfl,rfl⟩)
 have hnm:eE f a s=0:=b5
 obtain⟨ht,hp, -⟩:=qT (tM hnm)
 have h6:(aB f.inodes a).length≤6:=aB5 (iY ht) a
 obtain⟨bf,bg⟩:=hp
 refine Y.skip (Y.g (Y.seq (Y.region (Y.ql rfl (qW rfl bI (.t .g7) .g1 aW) ?_))))
 refine Y.cl rfl rfl Tryz.func67 rfl rfl (bT (.t .z)) .n (fun _ _ hs tr=>vJ (aM f (tr.ctx aa) (tr.ctx ab))) ?_
 rintro _ _ ⟨v8,bh,rfl,rfl⟩
 refine Y.m (.c (.c .n)) ?_
 refine Y.h (WS.a .z) ?_
 rintro⟨a9,ba,rfl,av,aw,ax⟩
 refine Y.h (WS.a .g1) ?_
 rintro⟨bb,bc,rfl,ay,az,a0⟩
 refine Y.el rfl (bL rfl nF rfl rfl) ?_
 rintro _ _ ⟨g14,rfl,rfl⟩
 refine Y.es (aD rfl) rfl (esW rfl (.t .z) (.t .g1) .z aW rfl rfl) ?_
 refine Y.nt (Y.seq (Y.seq (Y.region (Y.mv rfl .g12 (Y.mv rfl .g14 (Y.mv rfl .g16 ?_))))))
 refine Y.cl rfl rfl Tryz.func78 rfl rfl (oT (.t .g3) (.t .g2) (.t .g1) (.t .z)) (.c .z (.c .z (.c .z .n))) (fun _ _ hs tr=>aN5 (f:=f) _ _ (by first | assumption | omega) _ hs (by assumption) (by first | assumption |(constructor <;> omega)) (by first | omega | assumption)) ?_
 rintro _ _ ⟨bi,bj,rfl,rfl⟩
 refine Y.m (.c (.c (.c .n))) ?_
 refine Y.h (WS.a .g1) ?_
 rintro⟨ag,ah,rfl,a1,a2,a3⟩
 refine Y.h (WS.a .g2) ?_
 rintro⟨ai,aj,rfl,a4,a5,a6⟩
 refine Y.as rfl .z (Y.nt (Y.seq (Y.region (Y.mv rfl .z (Y.ql rfl (cU rfl (.t .z) .c) (Y.nt ?_))))))
 refine Y.ad (.t .z) (fun bd=> ?_) (fun bd=> ?_)
 refine Y.seq (Y.region (Y.mv rfl .g2 (Y.ql rfl (aZ (cs:= [.int .i64 (mL f a s b),.slice none 0 0,.slice none 0 0]) rfl kW (pv1 (.t .z)) rfl) ?_)))
 refine Y.es (aD rfl) rfl (esW rfl (.t (.s16 .g2)) (.t .z) .g3 fC rfl rfl) ?_
 refine Y.nt (Y.ret (Y.r ?_))
 refine Y.add (c:=aG aP [] [.slice none 0 0]) (fun w S=>aN w S none) ?_
 refine Y.add (c:=aG cG [] [.slice none 0 0]) (fun w S=>aN w S none) ?_
 refine Y.i (dD rfl (.s16 .g2) kE .g2 fC) (.c .g1 (.c .z .n)) ?_
 first |(rw [mR (by assumption)];exact⟨_,_,rfl,rfl⟩) |(rw [nZ hnm];exact⟨_,_,rfl,rfl⟩) |(rw [lB hnm (by assumption)];exact⟨_,_,rfl,rfl⟩) |(rw [lH hnm (by omega)];exact⟨_,_,rfl,rfl⟩)
 refine Y.skip (Y.g (Y.seq (Y.region (Y.ql rfl (qW rfl bI (.t .g7) .z aW) (Y.ql rfl (aZ (cs:= [.int .i64 0,.slice ag ((iL f a s b).inodes).length ah,.slice ai ((iL f a s b).data).length aj]) rfl kW (pv1 (.t .z)) rfl) ?_)))))
 refine Y.es (aD rfl) rfl (esW rfl (.t (.s16 .g2)) (.t .z) .g3 fC rfl rfl) ?_
 refine Y.nt (Y.ret ?_)
 refine Y.i (dD rfl (.s16 .g2) kE .z fC) (.c .g2 (.c .g2 .n)) ?_
 first |(rw [mR (by assumption)];exact⟨_,_,rfl,rfl⟩) |(rw [nZ hnm];exact⟨_,_,rfl,rfl⟩) |(rw [lB hnm (by assumption)];exact⟨_,_,rfl,rfl⟩) |(rw [lH hnm (by omega)];exact⟨_,_,rfl,rfl⟩)

end Go.Proofs.YtmejbfmhaoilmaaGreat

/- What is proved: contracts of functions, one a function. No condition. -/
import Derived.Test.YtmejbfmhaoilmaaGreatBase1
import Derived.Test.YtmejbfmhaoilmaaGreatW37
namespace Go.Proofs.YtmejbfmhaoilmaaGreat
open Go Go.RowKit
set_option linter.unusedVariables false
set_option linter.unusedSimpArgs false
set_option maxHeartbeats 1000000
set_option maxRecDepth 20000
theorem aOg {w0:World}{S0:Bs}{f:DFs}{g0 e0 s0:Nat}{a2:List Value}{bb:Value}{bc:Value} (a:Int) (s:ByteArray) (dj:s.size≤140737488351232) (b:Int) (hs:cB [cM g0 e0 s0 1 (bb :: bc :: a2),aG aP f.inodes [bb],aG cG f.data [bc]] w0 S0) (ht:bX f=0) (hp:bR f.inodes.length a) (h6:(aB f.inodes a).length≤6):
    Calls Tryz.prog 76 #[.pointer (some ⟨g0,0,none⟩),.int .i64 a,.string s,.int .i64 b] w0 (aJ w0 S0 (fun r l=>∃v0 v1,r= .int .i64 (mL f a s b)∧l= [cM g0 e0 s0 1 (v0 :: v1 :: a2),aG aP (iL f a s b).inodes [v0],aG cG (iL f a s b).data [v1]])):=by
 obtain⟨dp,ds⟩:=hp
 have hI:=iY ht
 refine Y.enter (N:=83) Tryz.func76 rfl rfl (by simp) [(0,.pointer (some ⟨g0,0,none⟩)),(1,.int .i64 a),(2,.string s),(3,.int .i64 b)] (by simp) hs ?_
 refine Y.h (WS.a .g1) ?_
 rintro⟨cv,a3,rfl,cw,cx,cy⟩
 refine Y.h (WS.a .g2) ?_
 rintro⟨cz,c0,rfl,c1,c2,c3⟩
 refine Y.seq (Y.region (Y.ql rfl (aA rfl .c) (Y.nt (Y.seq (Y.block (Y.seq (Y.region ?_)))))))
 refine Y.mv rfl .g1 (Y.mv rfl .g3 (Y.mv rfl .g5 ?_))
 refine Y.cl rfl rfl Tryz.func81 rfl rfl (dX (.t .g2) (.t .g1) (.t .z)) .n (fun _ _ hs tr=>aJf (tr.ptrpre .z (aM f (tr.own .g1) (tr.own .g2)) (xB (cs:= [.slice cv f.inodes.length a3,.slice cz f.data.length c0]) (k:=2) rfl rfl)) _ _ (by first | assumption | omega) (by first | assumption |(constructor <;> omega))) ?_
 rintro _ _ ⟨rfl,rfl⟩
 refine Y.m .n ?_
 refine Y.ql rfl (lU rfl (.t .z) .c) (Y.as rfl .z (Y.nt ?_))
 refine Y.u (.t .z) (fun b3=> ?_) (fun b3=> ?_)
 refine Y.seq (Y.region (Y.er .g6 (Y.ql rfl (aA rfl .c) (Y.nt (Y.ret (Y.y (Y.r ?_)))))))
 have hlk:aR f.inodes b=1∨bP f.inodes b=0:=by by_cases hk:aR f.inodes b=1;exact .inl hk;exact .inr (gM hI hk)
 refine Y.i (aY rfl .z) (.c .z (.c .z (.c .z .n))) ?_
 first |(have hc:=jB (f:=f) (a:=a) (s:=s) (b:=b) (by omega);exact⟨_,_,by rw [hc],by rw [dM (by rw [hc];decide)]⟩) |(have hc:=jD (f:=f) (a:=a) (s:=s) (b:=b) (by omega) (by rintro⟨⟨h1,h2⟩,h3⟩;first | omega |(simp_all;done) |(simp_all;omega));exact⟨_,_,by rw [hc],by rw [dM (by rw [hc];decide)]⟩) |(have hc:=jE (f:=f) (a:=a) (s:=s) (b:=b) (by omega) ⟨⟨by omega,by omega⟩,by omega⟩ (by omega);exact⟨_,_,by rw [hc],by rw [dM (by rw [hc];decide)]⟩) |(have hc:=eN (f:=f) (a:=a) (s:=s) (b:=b) (by omega) ⟨⟨by omega,by omega⟩,by omega⟩ (by omega);exact⟨_,_,by rw [hc],by rw [gJ hc (by omega)]⟩) |(have hc:=eN (f:=f) (a:=a) (s:=s) (b:=b) (by omega) ⟨⟨by omega,by omega⟩,by omega⟩ (by omega);exact⟨_,_,by rw [hc],by rw [gI hc (by omega)]⟩)
 refine Y.seq (Y.region (Y.mv rfl .g10 (Y.mv rfl .g8 (Y.nc rfl .z (Y.fa rfl .z aO (Y.ld rfl bK .z .z ?_))))))
 refine Y.cl rfl rfl Tryz.func85 rfl rfl (bT (.t .z)) .n (fun _ _ hs tr=>aJn (tr.own .g1)) ?_
 rintro _ _ ⟨rfl,rfl⟩
 refine Y.m .n ?_
 refine Y.ql rfl (jL (c:=(f.inodes.length:Int) - 1) rfl (.t .z) .c (wr (by omega) (by omega) (by omega))) ?_
 refine Y.cl rfl rfl Tryz.func84 rfl rfl (dX (.t .g6) .c (.t .z)) .n (fun _ _ hs tr=>yY _ _ _) ?_
 rintro _ _ ⟨rfl,rfl⟩
 refine Y.m .n ?_
 refine Y.ql rfl (fN rfl (.t .z)) (Y.mv rfl .z ?_)
 refine Y.ap .z (fun g4=> ?_) (fun g4=> ?_)
 refine Y.j rfl rfl .z rfl rfl (by decide) rfl ?_
 refine Y.j rfl rfl .g1 rfl rfl (by decide) rfl ?_
 refine Y.j rfl rfl .g2 rfl rfl (by decide) rfl ?_
 refine Y.j rfl rfl .g3 rfl rfl (by decide) rfl ?_
 refine Y.j rfl rfl .g4 rfl rfl (by decide) rfl ?_
 refine Y.j rfl rfl .g5 rfl rfl (by decide) rfl ?_
 refine Y.j rfl rfl .g6 rfl rfl (by decide) rfl ?_
 refine Y.j rfl rfl .g7 rfl rfl (by decide) rfl ?_
 refine Y.j rfl rfl .g8 rfl rfl (by decide) rfl ?_
 refine Y.ql rfl (bO rfl (.t .g9) .c) (Y.as rfl .z (Y.nt ?_))
 refine Y.ao (.t .z) ?_
 refine Y.seq (Y.region (Y.er (.s16 .g11) (Y.ql rfl (aA rfl .c) (Y.nt (Y.ret (Y.y (Y.r ?_)))))))
 have hlk:aR f.inodes b=1∨bP f.inodes b=0:=by by_cases hk:aR f.inodes b=1;exact .inl hk;exact .inr (gM hI hk)
 refine Y.i (aY rfl .z) (.c .z (.c .z (.c .z .n))) ?_
 first |(have hc:=jB (f:=f) (a:=a) (s:=s) (b:=b) (by omega);exact⟨_,_,by rw [hc],by rw [dM (by rw [hc];decide)]⟩) |(have hc:=jD (f:=f) (a:=a) (s:=s) (b:=b) (by omega) (by rintro⟨⟨h1,h2⟩,h3⟩;first | omega |(simp_all;done) |(simp_all;omega));exact⟨_,_,by rw [hc],by rw [dM (by rw [hc];decide)]⟩) |(have hc:=jE (f:=f) (a:=a) (s:=s) (b:=b) (by omega) ⟨⟨by omega,by omega⟩,by omega⟩ (by omega);exact⟨_,_,by rw [hc],by rw [dM (by rw [hc];decide)]⟩) |(have hc:=eN (f:=f) (a:=a) (s:=s) (b:=b) (by omega) ⟨⟨by omega,by omega⟩,by omega⟩ (by omega);exact⟨_,_,by rw [hc],by rw [gJ hc (by omega)]⟩) |(have hc:=eN (f:=f) (a:=a) (s:=s) (b:=b) (by omega) ⟨⟨by omega,by omega⟩,by omega⟩ (by omega);exact⟨_,_,by rw [hc],by rw [gI hc (by omega)]⟩)
 refine Y.qg rfl rfl .z rfl rfl rfl (aV rfl (.t (.s16 .g1))) ?_
 refine Y.qg rfl rfl .g1 rfl rfl rfl (eB rfl (.t .z)) ?_
 refine Y.qg rfl rfl .g2 rfl rfl rfl (aK rfl (.t .z) (fun _=>aO _ _)) ?_
 refine Y.qg rfl rfl .g3 rfl rfl rfl (aL rfl bK (.t .z) (WS.g .z rfl)) ?_
 refine Y.qg rfl rfl .g4 rfl rfl rfl (aV rfl (.t (.s16 .g8))) ?_
 refine Y.w (.c .g1 .n) eC ?_
 rintro c4 au
 obtain⟨y6,a4⟩:=aI (xs:=f.inodes) (j:=Int.toNat b) (by first | omega |(simp only [bH,bB,bN];omega))
 obtain⟨c7,br⟩:=aI (xs:=c4) (j:=Int.toNat b) (by rw [au];exact(List.getElem?_eq_some_iff.1 a4).1)
 refine Y.an .g1 (cW a4 br) ?_
 refine Y.w (.c .z .n) dR ?_
 rintro⟨v8,v9⟩ rfl
 refine Y.h (WS.a .z) ?_
 rintro⟨bd,be,rfl,bv,bw,bx⟩
 refine Y.h (WS.a .g1) ?_
 rintro⟨bf,bg,rfl,bz,b0,b1⟩
 have dt:=cH (i:=b) a4 (by omega)
 have av:=cI (a:=b) a4 (by omega)
 have du:=dC (a:=b) a4 (by omega)
 have c5:(aB f.inodes b).length=y6.ents.length:=by rw [av]
 refine Y.h (WS.i .g4 (by omega)) ?_
 rintro⟨ar,rfl⟩
 refine Y.qg rfl rfl .g5 rfl rfl rfl (aC (j:=Int.toNat b) rfl cE aU (.t .g1) (.t .z) (by omega) (by first | omega |(simp only [bH,bB,bN];omega))) ?_
 refine Y.qg rfl rfl .g6 rfl rfl rfl (aK rfl (.t .z) (fun _=>cV _ _)) ?_
 refine Y.qg rfl rfl .g7 rfl rfl rfl (aL rfl cF (.t .z) (WS.h .g4 br rfl)) ?_
 refine Y.qg rfl rfl .g8 rfl rfl rfl (bZ rfl (.t .z) .c) ?_
 refine Y.ql rfl (bW rfl (.t .g9) (.t .z)) (Y.as rfl .z (Y.nt ?_))
 refine Y.u (.t .z) (fun c6=> ?_) (fun c6=> ?_)
 refine Y.seq (Y.region (Y.er (.s16 .g11) (Y.ql rfl (aA rfl .c) (Y.nt (Y.ret (Y.y (Y.r ?_)))))))
 refine Y.v (c:=aG bD y6 [.int .i64 y6.kind,.int .i64 y6.links,.int .i64 y6.size,.slice bd y6.blocks.length be,.slice bf y6.ents.length bg]) (.c .z (.c .z .n)) (fun w S h=>bF y6 h) ?_
 refine Y.v (c:=aG aP f.inodes [.slice (some ar) f.inodes.length a3]) (.c .g3 (.c .z (.c .z (.c .z .n)))) (bU (K:=bD) au a4 br) ?_
 have ao:(aB f.inodes a).length=y6.ents.length∨True:= .inr trivial
 try have ap:(aB f.inodes a).length=y6.ents.length:=by rw [av]
 have aq:=eK (s:=s) ht av
 have hlk:aR f.inodes b=1∨bP f.inodes b=0:=by by_cases hk:aR f.inodes b=1;exact .inl hk;exact .inr (gM hI hk)
 refine Y.i (aY rfl .z) (.c .g1 (.c .z (.c .z .n))) ?_
 first |(have hc:=jB (f:=f) (a:=a) (s:=s) (b:=b) (by omega);exact⟨_,_,by rw [hc],by rw [dM (by rw [hc];decide)]⟩) |(have hc:=jD (f:=f) (a:=a) (s:=s) (b:=b) (by omega) (by rintro⟨⟨h1,h2⟩,h3⟩;first | omega |(simp_all;done) |(simp_all;omega));exact⟨_,_,by rw [hc],by rw [dM (by rw [hc];decide)]⟩) |(have hc:=jE (f:=f) (a:=a) (s:=s) (b:=b) (by omega) ⟨⟨by omega,by omega⟩,by omega⟩ (by omega);exact⟨_,_,by rw [hc],by rw [dM (by rw [hc];decide)]⟩) |(have hc:=eN (f:=f) (a:=a) (s:=s) (b:=b) (by omega) ⟨⟨by omega,by omega⟩,by omega⟩ (by omega);exact⟨_,_,by rw [hc],by rw [gJ hc (by omega)]⟩) |(have hc:=eN (f:=f) (a:=a) (s:=s) (b:=b) (by omega) ⟨⟨by omega,by omega⟩,by omega⟩ (by omega);exact⟨_,_,by rw [hc],by rw [gI hc (by omega)]⟩)
 refine Y.seq (Y.region (Y.mv rfl (.s16 .g12) (Y.nc rfl .z (Y.fa rfl .z aO (Y.ld rfl bK .z .g5 (Y.mv rfl (.s16 (.s16 .g1)) ?_))))))
 refine Y.v (c:=aG bD y6 [.int .i64 y6.kind,.int .i64 y6.links,.int .i64 y6.size,.slice bd y6.blocks.length be,.slice bf y6.ents.length bg]) (.c .z (.c .z .n)) (fun w S h=>bF y6 h) ?_
 refine Y.v (c:=aG aP f.inodes [.slice (some ar) f.inodes.length a3]) (.c .g3 (.c .z (.c .z (.c .z .n)))) (bU (K:=bD) au a4 br) ?_
 refine Y.w (.c .z .n) eC ?_
 rintro bs ae
 obtain⟨ab,af⟩:=aI (xs:=f.inodes) (j:=Int.toNat a) (by first | omega |(simp only [bH,bB,bN];omega))
 obtain⟨dv,a0⟩:=aI (xs:=bs) (j:=Int.toNat a) (by rw [ae];exact(List.getElem?_eq_some_iff.1 af).1)
 refine Y.an .g1 (cW af a0) ?_
 refine Y.w (.c .z .n) dR ?_
 rintro⟨dw,dx⟩ rfl
 refine Y.h (WS.a .z) ?_
 rintro⟨bh,bi,rfl,b2,b4,b5⟩
 refine Y.h (WS.a .g1) ?_
 rintro⟨bj,bk,rfl,b6,b7,b8⟩
 have c8:=cH (i:=a) af (by omega)
 have ad:=cI (a:=a) af (by omega)
 have c9:=dC (a:=a) af (by omega)
 have b9:(aB f.inodes a).length=ab.ents.length:=by rw [ad]
 refine Y.ql rfl (aC (j:=Int.toNat a) rfl cE aU (.t .g1) (.t .z) (by omega) (by first | omega |(simp only [bH,bB,bN];omega))) ?_
 refine Y.fa rfl .z bE (Y.ql rfl (aL rfl dP (.t .z) (WS.h .g4 a0 rfl)) (Y.ql rfl (bM rfl cZ (.t .z)) (Y.ql rfl (bZ rfl (.t .z) .c) (Y.mv rfl .z ?_))))
 refine Y.al .z (fun g29=> ?_) (fun g29=> ?_)
 refine Y.j rfl rfl .z rfl rfl (by decide) rfl ?_
 refine Y.j rfl rfl .g1 rfl rfl (by decide) rfl ?_
 refine Y.j rfl rfl .g2 rfl rfl (by decide) rfl ?_
 refine Y.j rfl rfl .g3 rfl rfl (by decide) rfl ?_
 refine Y.j rfl rfl .g4 rfl rfl (by decide) rfl ?_
 refine Y.j rfl rfl .g5 rfl rfl (by decide) rfl ?_
 refine Y.j rfl rfl .g6 rfl rfl (by decide) rfl ?_
 refine Y.j rfl rfl .g7 rfl rfl (by decide) rfl ?_
 refine Y.j rfl rfl .g8 rfl rfl (by decide) rfl ?_
 refine Y.ql rfl (bO rfl (.t .g9) .c) (Y.as rfl .z (Y.nt ?_))
 refine Y.ao (.t .z) ?_
 refine Y.seq (Y.region (Y.er (.s16 (.s16 (.s16 .g1))) (Y.ql rfl (aA rfl .c) (Y.nt (Y.ret (Y.y (Y.r ?_)))))))
 refine Y.v (c:=aG bD ab [.int .i64 ab.kind,.int .i64 ab.links,.int .i64 ab.size,.slice bh ab.blocks.length bi,.slice bj ab.ents.length bk]) (.c .z (.c .z .n)) (fun w S h=>bF ab h) ?_
 refine Y.v (c:=aG aP f.inodes [.slice (some ar) f.inodes.length a3]) (.c .g3 (.c .z (.c .z (.c .z .n)))) (bU (K:=bD) ae af a0) ?_
 have ao:(aB f.inodes a).length=y6.ents.length∨True:= .inr trivial
 try have ap:(aB f.inodes a).length=y6.ents.length:=by rw [av]
 have aq:=eK (s:=s) ht av
 have ag:(aB f.inodes a).length=ab.ents.length∨True:= .inr trivial
 try have ah:(aB f.inodes a).length=ab.ents.length:=by rw [ad]
 have ai:=eK (s:=s) ht ad
 have hlk:aR f.inodes b=1∨bP f.inodes b=0:=by by_cases hk:aR f.inodes b=1;exact .inl hk;exact .inr (gM hI hk)
 refine Y.i (aY rfl .z) (.c .g1 (.c .z (.c .z .n))) ?_
 first |(have hc:=jB (f:=f) (a:=a) (s:=s) (b:=b) (by omega);exact⟨_,_,by rw [hc],by rw [dM (by rw [hc];decide)]⟩) |(have hc:=jD (f:=f) (a:=a) (s:=s) (b:=b) (by omega) (by rintro⟨⟨h1,h2⟩,h3⟩;first | omega |(simp_all;done) |(simp_all;omega));exact⟨_,_,by rw [hc],by rw [dM (by rw [hc];decide)]⟩) |(have hc:=jE (f:=f) (a:=a) (s:=s) (b:=b) (by omega) ⟨⟨by omega,by omega⟩,by omega⟩ (by omega);exact⟨_,_,by rw [hc],by rw [dM (by rw [hc];decide)]⟩) |(have hc:=eN (f:=f) (a:=a) (s:=s) (b:=b) (by omega) ⟨⟨by omega,by omega⟩,by omega⟩ (by omega);exact⟨_,_,by rw [hc],by rw [gJ hc (by omega)]⟩) |(have hc:=eN (f:=f) (a:=a) (s:=s) (b:=b) (by omega) ⟨⟨by omega,by omega⟩,by omega⟩ (by omega);exact⟨_,_,by rw [hc],by rw [gI hc (by omega)]⟩)
 refine Y.qg rfl rfl .z rfl rfl rfl (aV rfl (.t (.s16 (.s16 .g7)))) ?_
 refine Y.qg rfl rfl .g1 rfl rfl rfl (eB rfl (.t .z)) ?_
 refine Y.qg rfl rfl .g2 rfl rfl rfl (aK rfl (.t .z) (fun _=>aO _ _)) ?_
 refine Y.qg rfl rfl .g3 rfl rfl rfl (aL rfl bK (.t .z) (WS.g .g5 rfl)) ?_
 refine Y.qg rfl rfl .g4 rfl rfl rfl (aV rfl (.t (.s16 (.s16 .g14)))) ?_
 refine Y.v (c:=aG bD ab [.int .i64 ab.kind,.int .i64 ab.links,.int .i64 ab.size,.slice bh ab.blocks.length bi,.slice bj ab.ents.length bk]) (.c .z (.c .z .n)) (fun w S h=>bF ab h) ?_
 refine Y.v (c:=aG aP f.inodes [.slice (some ar) f.inodes.length a3]) (.c .g3 (.c .z (.c .z (.c .z .n)))) (bU (K:=bD) ae af a0) ?_
 refine Y.w (.c .z .n) eC ?_
 rintro bt aj
 obtain⟨ac,ak⟩:=aI (xs:=f.inodes) (j:=Int.toNat b) (by first | omega |(simp only [bH,bB,bN];omega))
 obtain⟨dy,a1⟩:=aI (xs:=bt) (j:=Int.toNat b) (by rw [aj];exact(List.getElem?_eq_some_iff.1 ak).1)
 refine Y.an .g1 (cW ak a1) ?_
 refine Y.w (.c .z .n) dR ?_
 rintro⟨dz,d0⟩ rfl
 refine Y.h (WS.a .z) ?_
 rintro⟨bm,bn,rfl,ca,cb,cc⟩
 refine Y.h (WS.a .g1) ?_
 rintro⟨bo,bp,rfl,cd,ce,cf⟩
 have da:=cH (i:=b) ak (by omega)
 have al:=cI (a:=b) ak (by omega)
 have db:=dC (a:=b) ak (by omega)
 have cg:(aB f.inodes b).length=ac.ents.length:=by rw [al]
 refine Y.qg rfl rfl .g5 rfl rfl rfl (aC (j:=Int.toNat b) rfl cE aU (.t .g1) (.t .z) (by omega) (by first | omega |(simp only [bH,bB,bN];omega))) ?_
 refine Y.qg rfl rfl .g6 rfl rfl rfl (aK rfl (.t .z) (fun _=>gC _ _)) ?_
 refine Y.qg rfl rfl .g7 rfl rfl rfl (aL rfl cF (.t .z) (WS.h .g4 a1 rfl)) ?_
 refine Y.qg rfl rfl .g8 rfl rfl rfl (bZ rfl (.t .z) .c) ?_
 refine Y.ql rfl (bW rfl (.t .g9) (.t .z)) (Y.as rfl .z (Y.nt ?_))
 refine Y.u (.t .z) (fun dc=> ?_) (fun dc=> ?_)
 refine Y.seq (Y.region (Y.er (.s16 (.s16 (.s16 .g1))) (Y.ql rfl (aA rfl .c) (Y.nt (Y.ret (Y.y (Y.r ?_)))))))
 refine Y.v (c:=aG bD ac [.int .i64 ac.kind,.int .i64 ac.links,.int .i64 ac.size,.slice bm ac.blocks.length bn,.slice bo ac.ents.length bp]) (.c .z (.c .z .n)) (fun w S h=>bF ac h) ?_
 refine Y.v (c:=aG aP f.inodes [.slice (some ar) f.inodes.length a3]) (.c .g3 (.c .z (.c .z (.c .z .n)))) (bU (K:=bD) aj ak a1) ?_
 have ao:(aB f.inodes a).length=y6.ents.length∨True:= .inr trivial
 try have ap:(aB f.inodes a).length=y6.ents.length:=by rw [av]
 have aq:=eK (s:=s) ht av
 have ag:(aB f.inodes a).length=ab.ents.length∨True:= .inr trivial
 try have ah:(aB f.inodes a).length=ab.ents.length:=by rw [ad]
 have ai:=eK (s:=s) ht ad
 have aw:(aB f.inodes a).length=ac.ents.length∨True:= .inr trivial
 try have ax:(aB f.inodes a).length=ac.ents.length:=by rw [al]
 have ay:=eK (s:=s) ht al
 have hlk:aR f.inodes b=1∨bP f.inodes b=0:=by by_cases hk:aR f.inodes b=1;exact .inl hk;exact .inr (gM hI hk)
 refine Y.i (aY rfl .z) (.c .g1 (.c .z (.c .z .n))) ?_
 first |(have hc:=jB (f:=f) (a:=a) (s:=s) (b:=b) (by omega);exact⟨_,_,by rw [hc],by rw [dM (by rw [hc];decide)]⟩) |(have hc:=jD (f:=f) (a:=a) (s:=s) (b:=b) (by omega) (by rintro⟨⟨h1,h2⟩,h3⟩;first | omega |(simp_all;done) |(simp_all;omega));exact⟨_,_,by rw [hc],by rw [dM (by rw [hc];decide)]⟩) |(have hc:=jE (f:=f) (a:=a) (s:=s) (b:=b) (by omega) ⟨⟨by omega,by omega⟩,by omega⟩ (by omega);exact⟨_,_,by rw [hc],by rw [dM (by rw [hc];decide)]⟩) |(have hc:=eN (f:=f) (a:=a) (s:=s) (b:=b) (by omega) ⟨⟨by omega,by omega⟩,by omega⟩ (by omega);exact⟨_,_,by rw [hc],by rw [gJ hc (by omega)]⟩) |(have hc:=eN (f:=f) (a:=a) (s:=s) (b:=b) (by omega) ⟨⟨by omega,by omega⟩,by omega⟩ (by omega);exact⟨_,_,by rw [hc],by rw [gI hc (by omega)]⟩)
 refine Y.skip (Y.ac (Y.g (Y.seq (Y.region (Y.mv rfl (.s16 (.s16 (.s16 .g2))) (Y.mv rfl (.s16 (.s16 (.s16 .g4))) (Y.mv rfl (.s16 (.s16 (.s16 .g6))) (Y.mv rfl (.s16 (.s16 (.s16 .g8))) ?_))))))))
 refine Y.v (c:=aG bD ac [.int .i64 ac.kind,.int .i64 ac.links,.int .i64 ac.size,.slice bm ac.blocks.length bn,.slice bo ac.ents.length bp]) (.c .z (.c .z .n)) (fun w S h=>bF ac h) ?_
 refine Y.v (c:=aG aP f.inodes [.slice (some ar) f.inodes.length a3]) (.c .g3 (.c .z (.c .z (.c .z .n)))) (bU (K:=bD) aj ak a1) ?_
 refine Y.cl rfl rfl Tryz.func124 rfl rfl (oT (.t .g3) (.t .g2) (.t .g1) (.t .z)) (.c .g1 (.c .z (.c .z .n))) (fun _ _ hs tr=>aMv (f:=f) _ _ (by first | assumption | omega) _ hs (by first | assumption |(constructor <;> omega)) (by omega)) ?_
 rintro _ _ ⟨d1,d2,rfl,rfl⟩
 refine Y.m (.c (.c (.c .n))) ?_
 refine Y.af (x':=(bH f a (dL (aB (f).inodes a) ⟨s,b⟩)).inodes) .g1 rfl ?_
 refine Y.h (WS.a .z) ?_
 rintro⟨dd,a5,rfl,ch,ci,cj⟩
 refine Y.af (x':=(bH f a (dL (aB (f).inodes a) ⟨s,b⟩)).data) .g2 rfl ?_
 refine Y.h (WS.a .z) ?_
 rintro⟨dg,dh,rfl,ck,cm,cn⟩
 refine Y.nt (Y.seq (Y.seq (Y.region (Y.mv rfl (.s16 (.s16 (.s16 .g7))) (Y.nc rfl .z (Y.fa rfl .z aO (Y.ld rfl bK .z .g2 ?_)))))))
 refine Y.mv rfl (.s16 (.s16 (.s16 .g14))) ?_
 refine Y.w (.c .g1 .n) eC ?_
 rintro bq am
 obtain⟨aa,an⟩:=aI (xs:=(bH f a (dL (aB (f).inodes a) ⟨s,b⟩)).inodes) (j:=Int.toNat b) (by first | omega |(simp only [bH,bB,bN];omega))
 obtain⟨d3,az⟩:=aI (xs:=bq) (j:=Int.toNat b) (by rw [am];exact(List.getElem?_eq_some_iff.1 an).1)
 refine Y.an .g1 (cW an az) ?_
 refine Y.w (.c .z .n) dR ?_
 rintro⟨d4,d5⟩ rfl
 refine Y.h (WS.a .z) ?_
 rintro⟨a6,a7,rfl,co,cp,cq⟩
 refine Y.h (WS.a .g1) ?_
 rintro⟨a8,a9,rfl,cr,ct,cu⟩
 have hTl:((bH f a (dL (aB (f).inodes a) ⟨s,b⟩)).inodes).length=f.inodes.length:=bB
 have hTk:aR ((bH f a (dL (aB (f).inodes a) ⟨s,b⟩)).inodes) b=aR f.inodes b:=lE
 have hTn:bP ((bH f a (dL (aB (f).inodes a) ⟨s,b⟩)).inodes) b=bP f.inodes b:=oS
 have hLb:(0≤bP f.inodes b∧bP f.inodes b≤60)∨aR f.inodes b≠1:=by by_cases hk:aR f.inodes b=1;exact .inl (by have:=tN hI hk;omega);exact .inr hk
 have kT:=cH (i:=b) an (by omega)
 have lT:=dC (a:=b) an (by omega)
 refine Y.h (WS.i .g4 (by omega)) ?_
 rintro⟨ba,rfl⟩
 refine Y.ql rfl (aC (j:=Int.toNat b) rfl cE aU (.t .g1) (.t .z) (by omega) (by first | omega |(simp only [bH,bB,bN];omega))) ?_
 refine Y.fa rfl .z cV (Y.ql rfl (aL rfl cF (.t .z) (WS.h .g4 az rfl)) (Y.ql rfl (bZ rfl (.t .z) .c) (Y.nt ?_)))
 refine Y.u (.t .z) (fun di=> ?_) (fun di=> ?_)
 refine Y.region (Y.mv rfl (.s16 (.s16 (.s16 .g16))) (Y.nc rfl .z (Y.fa rfl .z aO (Y.ld rfl bK .z .g6 (Y.ql rfl (aV rfl (.t (.s16 (.s16 (.s16 (.s16 .g7)))))) ?_)))))
 refine Y.ql rfl (aC (j:=Int.toNat b) rfl cE aU (.t .g1) (.t .z) (by omega) (by first | omega |(simp only [bH,bB,bN];omega))) ?_
 refine Y.fa rfl .z gC (Y.ql rfl (aL rfl cF (.t .z) (WS.h .g4 az rfl)) ?_)
 refine Y.ql rfl (bQ (c:=aa.links+1) rfl (.t .z) .c (wr (by omega) (by omega) (by omega))) ?_
 refine Y.ql rfl (aC (j:=Int.toNat b) rfl cE aU (.t .g5) (.t .g4) (by omega) (by first | omega |(simp only [bH,bB,bN];omega))) ?_
 refine Y.fa rfl .z gC ?_
 refine Y.es (aD rfl) rfl (gY (j:=Int.toNat b) (off:=1) (cs:= [.int .i64 (aa.links+1)]) rfl jQ (.t .z) (gA _ _ _) (.t .g2) rfl (lZ rfl) .g4 az (Nat.le_of_ble_eq_true rfl)) ?_
 refine Y.af (x':=List.set bq (Int.toNat b) [.int .i64 aa.kind,.int .i64 (aa.links+1),.int .i64 aa.size,.slice a6 aa.blocks.length a7,.slice a8 aa.ents.length a9]) .z rfl ?_
 refine Y.nt (Y.seq (Y.region (Y.er (.s16 (.s16 (.s16 (.s16 .g10)))) (Y.ql rfl (aA rfl .c) (Y.nt (Y.ret ?_))))))
 refine Y.v (c:=aG bD (⟨aa.kind,aa.links+1,aa.size,aa.blocks,aa.ents⟩:aF) [.int .i64 aa.kind,.int .i64 (aa.links+1),.int .i64 aa.size,.slice a6 aa.blocks.length a7,.slice a8 aa.ents.length a9]) (.c .g1 (.c .g1 .n)) (fun w S h=>bF (⟨aa.kind,aa.links+1,aa.size,aa.blocks,aa.ents⟩:aF) h) ?_
 refine Y.v (c:=aG aP (List.set ((bH f a (dL (aB (f).inodes a) ⟨s,b⟩)).inodes) (Int.toNat b) (⟨aa.kind,aa.links+1,aa.size,aa.blocks,aa.ents⟩:aF)) [.slice (some ba) ((bH f a (dL (aB (f).inodes a) ⟨s,b⟩)).inodes).length a5]) (.c .g1 (.c .z (.c .z (.c .z .n)))) (dQ (K:=bD) am (List.getElem?_eq_some_iff.1 an).1 rfl) ?_
 have ao:(aB f.inodes a).length=y6.ents.length∨True:= .inr trivial
 try have ap:(aB f.inodes a).length=y6.ents.length:=by rw [av]
 have aq:=eK (s:=s) ht av
 have ag:(aB f.inodes a).length=ab.ents.length∨True:= .inr trivial
 try have ah:(aB f.inodes a).length=ab.ents.length:=by rw [ad]
 have ai:=eK (s:=s) ht ad
 have aw:(aB f.inodes a).length=ac.ents.length∨True:= .inr trivial
 try have ax:(aB f.inodes a).length=ac.ents.length:=by rw [al]
 have ay:=eK (s:=s) ht al
 have hlk:aR f.inodes b=1∨bP f.inodes b=0:=by by_cases hk:aR f.inodes b=1;exact .inl hk;exact .inr (gM hI hk)
 have bu:List.set ((bH f a (dL (aB (f).inodes a) ⟨s,b⟩)).inodes) (Int.toNat b) (⟨aa.kind,aa.links+1,aa.size,aa.blocks,aa.ents⟩:aF)=eO (eD f.inodes a (dL (aB f.inodes a) ⟨s,b⟩)) b (bP f.inodes b+1):=(by rw [←hTn,lT];exact oF an (by omega))
 refine Y.ak .z (congrArg (fun z_=>(aG aP (z_) [.slice (some ba) ((bH f a (dL (aB (f).inodes a) ⟨s,b⟩)).inodes).length a5]:Asn)) bu) ?_
 refine Y.i (aY rfl .z) (.c .g2 (.c .z (.c .z .n))) ?_
 first |(have hc:=jB (f:=f) (a:=a) (s:=s) (b:=b) (by omega);exact⟨_,_,by rw [hc],by rw [dM (by rw [hc];decide)]⟩) |(have hc:=jD (f:=f) (a:=a) (s:=s) (b:=b) (by omega) (by rintro⟨⟨h1,h2⟩,h3⟩;first | omega |(simp_all;done) |(simp_all;omega));exact⟨_,_,by rw [hc],by rw [dM (by rw [hc];decide)]⟩) |(have hc:=jE (f:=f) (a:=a) (s:=s) (b:=b) (by omega) ⟨⟨by omega,by omega⟩,by omega⟩ (by omega);exact⟨_,_,by rw [hc],by rw [dM (by rw [hc];decide)]⟩) |(have hc:=eN (f:=f) (a:=a) (s:=s) (b:=b) (by omega) ⟨⟨by omega,by omega⟩,by omega⟩ (by omega);exact⟨_,_,by rw [hc],by rw [gJ hc (by omega)]⟩) |(have hc:=eN (f:=f) (a:=a) (s:=s) (b:=b) (by omega) ⟨⟨by omega,by omega⟩,by omega⟩ (by omega);exact⟨_,_,by rw [hc],by rw [gI hc (by omega)]⟩)
 refine Y.skip (Y.g (Y.seq (Y.region (Y.er (.s16 (.s16 (.s16 .g15))) (Y.ql rfl (aA rfl .c) (Y.nt (Y.ret ?_)))))))
 refine Y.v (c:=aG bD aa [.int .i64 aa.kind,.int .i64 aa.links,.int .i64 aa.size,.slice a6 aa.blocks.length a7,.slice a8 aa.ents.length a9]) (.c .z (.c .z .n)) (fun w S h=>bF aa h) ?_
 refine Y.v (c:=aG aP ((bH f a (dL (aB (f).inodes a) ⟨s,b⟩)).inodes) [.slice (some ba) ((bH f a (dL (aB (f).inodes a) ⟨s,b⟩)).inodes).length a5]) (.c .g3 (.c .z (.c .z (.c .z .n)))) (bU (K:=bD) am an az) ?_
 have ao:(aB f.inodes a).length=y6.ents.length∨True:= .inr trivial
 try have ap:(aB f.inodes a).length=y6.ents.length:=by rw [av]
 have aq:=eK (s:=s) ht av
 have ag:(aB f.inodes a).length=ab.ents.length∨True:= .inr trivial
 try have ah:(aB f.inodes a).length=ab.ents.length:=by rw [ad]
 have ai:=eK (s:=s) ht ad
 have aw:(aB f.inodes a).length=ac.ents.length∨True:= .inr trivial
 try have ax:(aB f.inodes a).length=ac.ents.length:=by rw [al]
 have ay:=eK (s:=s) ht al
 have hlk:aR f.inodes b=1∨bP f.inodes b=0:=by by_cases hk:aR f.inodes b=1;exact .inl hk;exact .inr (gM hI hk)
 refine Y.i (aY rfl .z) (.c .g2 (.c .z (.c .z .n))) ?_
 first |(have hc:=jB (f:=f) (a:=a) (s:=s) (b:=b) (by omega);exact⟨_,_,by rw [hc],by rw [dM (by rw [hc];decide)]⟩) |(have hc:=jD (f:=f) (a:=a) (s:=s) (b:=b) (by omega) (by rintro⟨⟨h1,h2⟩,h3⟩;first | omega |(simp_all;done) |(simp_all;omega));exact⟨_,_,by rw [hc],by rw [dM (by rw [hc];decide)]⟩) |(have hc:=jE (f:=f) (a:=a) (s:=s) (b:=b) (by omega) ⟨⟨by omega,by omega⟩,by omega⟩ (by omega);exact⟨_,_,by rw [hc],by rw [dM (by rw [hc];decide)]⟩) |(have hc:=eN (f:=f) (a:=a) (s:=s) (b:=b) (by omega) ⟨⟨by omega,by omega⟩,by omega⟩ (by omega);exact⟨_,_,by rw [hc],by rw [gJ hc (by omega)]⟩) |(have hc:=eN (f:=f) (a:=a) (s:=s) (b:=b) (by omega) ⟨⟨by omega,by omega⟩,by omega⟩ (by omega);exact⟨_,_,by rw [hc],by rw [gI hc (by omega)]⟩)

theorem aN5 {w0:World}{S0:Bs}{f:DFs}{g0 e0 s0:Nat}{bh:List Value}{bw:Value}{bx:Value} (a:Int) (s:ByteArray) (fv:s.size≤140737488351232) (b:Int) (hs:cB [cM g0 e0 s0 1 (bw :: bx :: bh),aG aP f.inodes [bw],aG cG f.data [bx]] w0 S0) (ht:bX f=0) (hp:bR f.inodes.length a) (h6:(aB f.inodes a).length≤6):
    Calls Tryz.prog 78 #[.pointer (some ⟨g0,0,none⟩),.int .i64 a,.string s,.int .i64 b] w0 (aJ w0 S0 (fun r l=>∃v0 v1,r= .int .i64 (mL f a s b)∧l= [cM g0 e0 s0 1 (v0 :: v1 :: bh),aG aP (iL f a s b).inodes [v0],aG cG (iL f a s b).data [v1]])):=by
 obtain⟨fw,fx⟩:=hp
 have hI:=iY ht
 refine Y.enter (N:=100) Tryz.func78 rfl rfl (by simp) [(0,.pointer (some ⟨g0,0,none⟩)),(1,.int .i64 a),(2,.string s),(3,.int .i64 b)] (by simp) hs ?_
 refine Y.h (WS.a .g1) ?_
 rintro⟨fy,ar,rfl,ez,e1,e2⟩
 refine Y.h (WS.a .g2) ?_
 rintro⟨e3,e4,rfl,e5,e7,e8⟩
 refine Y.seq (Y.region (Y.ql rfl (aA rfl .c) (Y.nt (Y.seq (Y.seq (Y.region (Y.mv rfl .g1 ?_)))))))
 refine Y.nc rfl .z (Y.fa rfl .z aO (Y.ld rfl bK .z .z (Y.mv rfl .g6 ?_)))
 refine Y.w (.c .g1 .n) eC ?_
 rintro e9 a5
 obtain⟨y4,bi⟩:=aI (xs:=f.inodes) (j:=Int.toNat a) (by first | omega |(simp only [bH,bB,bN];omega))
 obtain⟨c5,co⟩:=aI (xs:=e9) (j:=Int.toNat a) (by rw [a5];exact(List.getElem?_eq_some_iff.1 bi).1)
 refine Y.an .g1 (cW bi co) ?_
 refine Y.w (.c .z .n) dR ?_
 rintro⟨v6,v7⟩ rfl
 refine Y.h (WS.a .z) ?_
 rintro⟨bz,b0,rfl,c6,c7,c8⟩
 refine Y.h (WS.a .g1) ?_
 rintro⟨b1,b2,rfl,c9,da,db⟩
 have fz:=cH (i:=a) bi (by omega)
 have au:=cI (a:=a) bi (by omega)
 have f0:=dC (a:=a) bi (by omega)
 have fb:(aB f.inodes a).length=y4.ents.length:=by rw [au]
 refine Y.h (WS.i .g4 (by omega)) ?_
 rintro⟨ac,rfl⟩
 refine Y.ql rfl (aC (j:=Int.toNat a) rfl cE aU (.t .g1) (.t .z) (by omega) (by first | omega |(simp only [bH,bB,bN];omega))) ?_
 refine Y.fa rfl .z bE (Y.ql rfl (aL rfl dP (.t .z) (WS.h .g4 co rfl)) (Y.mv rfl .g11 ?_))
 refine Y.cl rfl rfl Tryz.func127 rfl rfl (aX (.t .g1) (.t .z)) .n (fun _ _ hs tr=>rJ (tr.own .g1) _ (by first | assumption | omega)) ?_
 rintro _ _ ⟨rfl,rfl⟩
 refine Y.m .n ?_
 refine Y.ql rfl (lU rfl (.t .z) .c) (Y.nt ?_)
 refine Y.u (.t .z) (fun fc=> ?_) (fun fc=> ?_)
 refine Y.seq (Y.region (Y.er .g11 (Y.ql rfl (aA rfl .c) (Y.nt (Y.ret (Y.r ?_))))))
 refine Y.v (c:=aG bD y4 [.int .i64 y4.kind,.int .i64 y4.links,.int .i64 y4.size,.slice bz y4.blocks.length b0,.slice b1 y4.ents.length b2]) (.c .z (.c .z .n)) (fun w S h=>bF y4 h) ?_
 refine Y.v (c:=aG aP f.inodes [.slice (some ac) f.inodes.length ar]) (.c .g3 (.c .z (.c .z (.c .z .n)))) (bU (K:=bD) a5 bi co) ?_
 have ah:(aB f.inodes a).length=y4.ents.length∨True:= .inr trivial
 try have ai:(aB f.inodes a).length=y4.ents.length:=by rw [au]
 have aj:=eK (s:=s) ht au
 have hlk:aR f.inodes b=1∨bP f.inodes b=0:=by by_cases hk:aR f.inodes b=1;exact .inl hk;exact .inr (gM hI hk)
 refine Y.i (aY rfl .z) (.c .g1 (.c .z (.c .z .n))) ?_
 first |(have hc:=jB (f:=f) (a:=a) (s:=s) (b:=b) (by omega);exact⟨_,_,by rw [hc],by rw [dM (by rw [hc];decide)]⟩) |(have hc:=jD (f:=f) (a:=a) (s:=s) (b:=b) (by omega) (by rintro⟨⟨h1,h2⟩,h3⟩;first | omega |(simp_all;done) |(simp_all;omega));exact⟨_,_,by rw [hc],by rw [dM (by rw [hc];decide)]⟩) |(have hc:=jE (f:=f) (a:=a) (s:=s) (b:=b) (by omega) ⟨⟨by omega,by omega⟩,by omega⟩ (by omega);exact⟨_,_,by rw [hc],by rw [dM (by rw [hc];decide)]⟩) |(have hc:=eN (f:=f) (a:=a) (s:=s) (b:=b) (by omega) ⟨⟨by omega,by omega⟩,by omega⟩ (by omega);exact⟨_,_,by rw [hc],by rw [gJ hc (by omega)]⟩) |(have hc:=eN (f:=f) (a:=a) (s:=s) (b:=b) (by omega) ⟨⟨by omega,by omega⟩,by omega⟩ (by omega);exact⟨_,_,by rw [hc],by rw [gI hc (by omega)]⟩)
 refine Y.skip (Y.g (Y.seq (Y.seq (Y.region (Y.mv rfl .g12 (Y.mv rfl .g16 ?_))))))
 refine Y.v (c:=aG bD y4 [.int .i64 y4.kind,.int .i64 y4.links,.int .i64 y4.size,.slice bz y4.blocks.length b0,.slice b1 y4.ents.length b2]) (.c .z (.c .z .n)) (fun w S h=>bF y4 h) ?_
 refine Y.v (c:=aG aP f.inodes [.slice (some ac) f.inodes.length ar]) (.c .g3 (.c .z (.c .z (.c .z .n)))) (bU (K:=bD) a5 bi co) ?_
 refine Y.cl rfl rfl Tryz.func90 rfl rfl (aX (.t .g1) (.t .z)) .n (fun _ _ hs tr=>aIw (tr.ptrpre .g1 (aM f (tr.own .z) (tr.own .g2)) (xB (cs:= [.slice (some ac) f.inodes.length ar,.slice e3 f.data.length e4]) (k:=2) rfl rfl)) _) ?_
 rintro _ _ ⟨rfl,rfl⟩
 refine Y.m .n ?_
 refine Y.ql rfl (fN rfl (.t .z)) (Y.mv rfl .z ?_)
 refine Y.ap .z (fun g17=> ?_) (fun g17=> ?_)
 refine Y.j rfl rfl .z rfl rfl (by decide) rfl ?_
 refine Y.j rfl rfl .g1 rfl rfl (by decide) rfl ?_
 refine Y.j rfl rfl .g2 rfl rfl (by decide) rfl ?_
 refine Y.j rfl rfl .g3 rfl rfl (by decide) rfl ?_
 refine Y.j rfl rfl .g4 rfl rfl (by decide) rfl ?_
 refine Y.j rfl rfl .g5 rfl rfl (by decide) rfl ?_
 refine Y.j rfl rfl .g6 rfl rfl (by decide) rfl ?_
 refine Y.j rfl rfl .g7 rfl rfl (by decide) rfl ?_
 refine Y.j rfl rfl .g8 rfl rfl (by decide) rfl ?_
 refine Y.ql rfl (bO rfl (.t .g9) .c) (Y.nt ?_)
 refine Y.ao (.t .z) ?_
 refine Y.seq (Y.region (Y.er (.s16 .g10) (Y.ql rfl (aA rfl .c) (Y.nt (Y.ret (Y.r ?_))))))
 have ah:(aB f.inodes a).length=y4.ents.length∨True:= .inr trivial
 try have ai:(aB f.inodes a).length=y4.ents.length:=by rw [au]
 have aj:=eK (s:=s) ht au
 have hlk:aR f.inodes b=1∨bP f.inodes b=0:=by by_cases hk:aR f.inodes b=1;exact .inl hk;exact .inr (gM hI hk)
 refine Y.i (aY rfl .z) (.c .g1 (.c .z (.c .z .n))) ?_
 first |(have hc:=jB (f:=f) (a:=a) (s:=s) (b:=b) (by omega);exact⟨_,_,by rw [hc],by rw [dM (by rw [hc];decide)]⟩) |(have hc:=jD (f:=f) (a:=a) (s:=s) (b:=b) (by omega) (by rintro⟨⟨h1,h2⟩,h3⟩;first | omega |(simp_all;done) |(simp_all;omega));exact⟨_,_,by rw [hc],by rw [dM (by rw [hc];decide)]⟩) |(have hc:=jE (f:=f) (a:=a) (s:=s) (b:=b) (by omega) ⟨⟨by omega,by omega⟩,by omega⟩ (by omega);exact⟨_,_,by rw [hc],by rw [dM (by rw [hc];decide)]⟩) |(have hc:=eN (f:=f) (a:=a) (s:=s) (b:=b) (by omega) ⟨⟨by omega,by omega⟩,by omega⟩ (by omega);exact⟨_,_,by rw [hc],by rw [gJ hc (by omega)]⟩) |(have hc:=eN (f:=f) (a:=a) (s:=s) (b:=b) (by omega) ⟨⟨by omega,by omega⟩,by omega⟩ (by omega);exact⟨_,_,by rw [hc],by rw [gI hc (by omega)]⟩)
 refine Y.qg rfl rfl .z rfl rfl rfl (aV rfl (.t (.s16 .g1))) ?_
 refine Y.qg rfl rfl .g1 rfl rfl rfl (eB rfl (.t .z)) ?_
 refine Y.qg rfl rfl .g2 rfl rfl rfl (aK rfl (.t .z) (fun _=>aO _ _)) ?_
 refine Y.qg rfl rfl .g3 rfl rfl rfl (aL rfl bK (.t .z) (WS.g .g1 rfl)) ?_
 refine Y.qg rfl rfl .g4 rfl rfl rfl (aV rfl (.t (.s16 .g8))) ?_
 refine Y.w (.c .z .n) eC ?_
 rintro cp av
 obtain⟨af,aw⟩:=aI (xs:=f.inodes) (j:=Int.toNat b) (by first | omega |(simp only [bH,bB,bN];omega))
 obtain⟨f1,a6⟩:=aI (xs:=cp) (j:=Int.toNat b) (by rw [av];exact(List.getElem?_eq_some_iff.1 aw).1)
 refine Y.an .g1 (cW aw a6) ?_
 refine Y.w (.c .z .n) dR ?_
 rintro⟨f2,f3⟩ rfl
 refine Y.h (WS.a .z) ?_
 rintro⟨b3,b4,rfl,dc,dd,dg⟩
 refine Y.h (WS.a .g1) ?_
 rintro⟨b5,b6,rfl,dh,di,dj⟩
 have fd:=cH (i:=b) aw (by omega)
 have ag:=cI (a:=b) aw (by omega)
 have fe:=dC (a:=b) aw (by omega)
 have dp:(aB f.inodes b).length=af.ents.length:=by rw [ag]
 refine Y.qg rfl rfl .g5 rfl rfl rfl (aC (j:=Int.toNat b) rfl cE aU (.t .g1) (.t .z) (by omega) (by first | omega |(simp only [bH,bB,bN];omega))) ?_
 refine Y.qg rfl rfl .g6 rfl rfl rfl (aK rfl (.t .z) (fun _=>cV _ _)) ?_
 refine Y.qg rfl rfl .g7 rfl rfl rfl (aL rfl cF (.t .z) (WS.h .g4 a6 rfl)) ?_
 refine Y.qg rfl rfl .g8 rfl rfl rfl (bZ rfl (.t .z) .c) ?_
 refine Y.ql rfl (bW rfl (.t .g9) (.t .z)) (Y.nt ?_)
 refine Y.u (.t .z) (fun ff=> ?_) (fun ff=> ?_)
 refine Y.seq (Y.region (Y.er (.s16 .g10) (Y.ql rfl (aA rfl .c) (Y.nt (Y.ret (Y.r ?_))))))
 refine Y.v (c:=aG bD af [.int .i64 af.kind,.int .i64 af.links,.int .i64 af.size,.slice b3 af.blocks.length b4,.slice b5 af.ents.length b6]) (.c .z (.c .z .n)) (fun w S h=>bF af h) ?_
 refine Y.v (c:=aG aP f.inodes [.slice (some ac) f.inodes.length ar]) (.c .g3 (.c .z (.c .z (.c .z .n)))) (bU (K:=bD) av aw a6) ?_
 have ah:(aB f.inodes a).length=y4.ents.length∨True:= .inr trivial
 try have ai:(aB f.inodes a).length=y4.ents.length:=by rw [au]
 have aj:=eK (s:=s) ht au
 have ak:(aB f.inodes a).length=af.ents.length∨True:= .inr trivial
 try have al:(aB f.inodes a).length=af.ents.length:=by rw [ag]
 have am:=eK (s:=s) ht ag
 have hlk:aR f.inodes b=1∨bP f.inodes b=0:=by by_cases hk:aR f.inodes b=1;exact .inl hk;exact .inr (gM hI hk)
 refine Y.i (aY rfl .z) (.c .g1 (.c .z (.c .z .n))) ?_
 first |(have hc:=jB (f:=f) (a:=a) (s:=s) (b:=b) (by omega);exact⟨_,_,by rw [hc],by rw [dM (by rw [hc];decide)]⟩) |(have hc:=jD (f:=f) (a:=a) (s:=s) (b:=b) (by omega) (by rintro⟨⟨h1,h2⟩,h3⟩;first | omega |(simp_all;done) |(simp_all;omega));exact⟨_,_,by rw [hc],by rw [dM (by rw [hc];decide)]⟩) |(have hc:=jE (f:=f) (a:=a) (s:=s) (b:=b) (by omega) ⟨⟨by omega,by omega⟩,by omega⟩ (by omega);exact⟨_,_,by rw [hc],by rw [dM (by rw [hc];decide)]⟩) |(have hc:=eN (f:=f) (a:=a) (s:=s) (b:=b) (by omega) ⟨⟨by omega,by omega⟩,by omega⟩ (by omega);exact⟨_,_,by rw [hc],by rw [gJ hc (by omega)]⟩) |(have hc:=eN (f:=f) (a:=a) (s:=s) (b:=b) (by omega) ⟨⟨by omega,by omega⟩,by omega⟩ (by omega);exact⟨_,_,by rw [hc],by rw [gI hc (by omega)]⟩)
 refine Y.skip (Y.g (Y.seq (Y.region (Y.mv rfl (.s16 .g11) (Y.nc rfl .z (Y.fa rfl .z aO (Y.ld rfl bK .z .g5 (Y.mv rfl (.s16 (.s16 .g2)) ?_))))))))
 refine Y.ql rfl (aC (j:=Int.toNat b) rfl cE aU (.t .g1) (.t .z) (by omega) (by first | omega |(simp only [bH,bB,bN];omega))) ?_
 refine Y.fa rfl .z cV (Y.ql rfl (aL rfl cF (.t .z) (WS.h .g4 a6 rfl)) (Y.ql rfl (bZ rfl (.t .z) .c) (Y.as rfl .z (Y.nt (Y.seq (Y.seq (Y.region ?_)))))))
 refine Y.mv rfl (.s16 (.s16 .g5)) (Y.nc rfl .z (Y.fa rfl .z aO (Y.ld rfl bK .z .g5 (Y.mv rfl (.s16 (.s16 .g10)) ?_))))
 refine Y.v (c:=aG bD af [.int .i64 af.kind,.int .i64 af.links,.int .i64 af.size,.slice b3 af.blocks.length b4,.slice b5 af.ents.length b6]) (.c .z (.c .z .n)) (fun w S h=>bF af h) ?_
 refine Y.v (c:=aG aP f.inodes [.slice (some ac) f.inodes.length ar]) (.c .g3 (.c .z (.c .z (.c .z .n)))) (bU (K:=bD) av aw a6) ?_
 refine Y.w (.c .z .n) eC ?_
 rintro cq an
 obtain⟨ae,aq⟩:=aI (xs:=f.inodes) (j:=Int.toNat a) (by first | omega |(simp only [bH,bB,bN];omega))
 obtain⟨f4,a7⟩:=aI (xs:=cq) (j:=Int.toNat a) (by rw [an];exact(List.getElem?_eq_some_iff.1 aq).1)
 refine Y.an .g1 (cW aq a7) ?_
 refine Y.w (.c .z .n) dR ?_
 rintro⟨f5,f6⟩ rfl
 refine Y.h (WS.a .z) ?_
 rintro⟨bj,bk,rfl,ds,dt,du⟩
 refine Y.h (WS.a .g1) ?_
 rintro⟨bm,bn,rfl,dv,dw,dx⟩
 have fg:=cH (i:=a) aq (by omega)
 have ao:=cI (a:=a) aq (by omega)
 have fh:=dC (a:=a) aq (by omega)
 have dy:(aB f.inodes a).length=ae.ents.length:=by rw [ao]
 refine Y.ql rfl (aC (j:=Int.toNat a) rfl cE aU (.t .g1) (.t .z) (by omega) (by first | omega |(simp only [bH,bB,bN];omega))) ?_
 refine Y.fa rfl .z bE (Y.ql rfl (aL rfl dP (.t .z) (WS.h .g4 a7 rfl)) (Y.ql rfl (bM rfl cZ (.t .z)) (Y.ql rfl (lU rfl (.t .z) .c) (Y.mv rfl .z ?_))))
 refine Y.al .z (fun g42=> ?_) (fun g42=> ?_)
 refine Y.j rfl rfl .z rfl rfl (by decide) rfl ?_
 refine Y.j rfl rfl .g1 rfl rfl (by decide) rfl ?_
 refine Y.j rfl rfl .z rfl rfl (by decide) rfl ?_
 refine Y.j rfl rfl .g1 rfl rfl (by decide) rfl ?_
 refine Y.j rfl rfl .g2 rfl rfl (by decide) rfl ?_
 refine Y.j rfl rfl .g3 rfl rfl (by decide) rfl ?_
 refine Y.j rfl rfl .g4 rfl rfl (by decide) rfl ?_
 refine Y.j rfl rfl .g5 rfl rfl (by decide) rfl ?_
 refine Y.j rfl rfl .g6 rfl rfl (by decide) rfl ?_
 refine Y.j rfl rfl .g7 rfl rfl (by decide) rfl ?_
 refine Y.j rfl rfl .g8 rfl rfl (by decide) rfl ?_
 refine Y.j rfl rfl .g11 rfl rfl (by decide) rfl ?_
 refine Y.ql rfl (bO rfl (.t .g12) .c) (Y.nt ?_)
 refine Y.ao (.t .z) ?_
 refine Y.seq (Y.region (Y.er (.s16 (.s16 (.s16 .g12))) (Y.ql rfl (aA rfl .c) (Y.nt (Y.ret (Y.r ?_))))))
 refine Y.v (c:=aG bD ae [.int .i64 ae.kind,.int .i64 ae.links,.int .i64 ae.size,.slice bj ae.blocks.length bk,.slice bm ae.ents.length bn]) (.c .z (.c .z .n)) (fun w S h=>bF ae h) ?_
 refine Y.v (c:=aG aP f.inodes [.slice (some ac) f.inodes.length ar]) (.c .g3 (.c .z (.c .z (.c .z .n)))) (bU (K:=bD) an aq a7) ?_
 have ah:(aB f.inodes a).length=y4.ents.length∨True:= .inr trivial
 try have ai:(aB f.inodes a).length=y4.ents.length:=by rw [au]
 have aj:=eK (s:=s) ht au
 have ak:(aB f.inodes a).length=af.ents.length∨True:= .inr trivial
 try have al:(aB f.inodes a).length=af.ents.length:=by rw [ag]
 have am:=eK (s:=s) ht ag
 have ax:(aB f.inodes a).length=ae.ents.length∨True:= .inr trivial
 try have ay:(aB f.inodes a).length=ae.ents.length:=by rw [ao]
 have az:=eK (s:=s) ht ao
 have hlk:aR f.inodes b=1∨bP f.inodes b=0:=by by_cases hk:aR f.inodes b=1;exact .inl hk;exact .inr (gM hI hk)
 refine Y.i (aY rfl .z) (.c .g1 (.c .z (.c .z .n))) ?_
 first |(have hc:=jB (f:=f) (a:=a) (s:=s) (b:=b) (by omega);exact⟨_,_,by rw [hc],by rw [dM (by rw [hc];decide)]⟩) |(have hc:=jD (f:=f) (a:=a) (s:=s) (b:=b) (by omega) (by rintro⟨⟨h1,h2⟩,h3⟩;first | omega |(simp_all;done) |(simp_all;omega));exact⟨_,_,by rw [hc],by rw [dM (by rw [hc];decide)]⟩) |(have hc:=jE (f:=f) (a:=a) (s:=s) (b:=b) (by omega) ⟨⟨by omega,by omega⟩,by omega⟩ (by omega);exact⟨_,_,by rw [hc],by rw [dM (by rw [hc];decide)]⟩) |(have hc:=eN (f:=f) (a:=a) (s:=s) (b:=b) (by omega) ⟨⟨by omega,by omega⟩,by omega⟩ (by omega);exact⟨_,_,by rw [hc],by rw [gJ hc (by omega)]⟩) |(have hc:=eN (f:=f) (a:=a) (s:=s) (b:=b) (by omega) ⟨⟨by omega,by omega⟩,by omega⟩ (by omega);exact⟨_,_,by rw [hc],by rw [gI hc (by omega)]⟩)
 refine Y.qg rfl rfl .z rfl rfl rfl (aV rfl (.t .g11)) ?_
 refine Y.qg rfl rfl .g1 rfl rfl rfl (aV rfl (.t .z)) ?_
 refine Y.al .z (fun g44=> ?_) (fun g44=> ?_)
 refine Y.qg rfl rfl .z rfl rfl rfl (aV rfl (.t (.s16 (.s16 (.s16 .g2))))) ?_
 refine Y.qg rfl rfl .g1 rfl rfl rfl (eB rfl (.t .z)) ?_
 refine Y.qg rfl rfl .g2 rfl rfl rfl (aK rfl (.t .z) (fun _=>aO _ _)) ?_
 refine Y.qg rfl rfl .g3 rfl rfl rfl (aL rfl bK (.t .z) (WS.g .g5 rfl)) ?_
 refine Y.qg rfl rfl .g4 rfl rfl rfl (aV rfl (.t (.s16 (.s16 (.s16 .g9))))) ?_
 refine Y.v (c:=aG bD ae [.int .i64 ae.kind,.int .i64 ae.links,.int .i64 ae.size,.slice bj ae.blocks.length bk,.slice bm ae.ents.length bn]) (.c .z (.c .z .n)) (fun w S h=>bF ae h) ?_
 refine Y.v (c:=aG aP f.inodes [.slice (some ac) f.inodes.length ar]) (.c .g3 (.c .z (.c .z (.c .z .n)))) (bU (K:=bD) an aq a7) ?_
 refine Y.w (.c .z .n) eC ?_
 rintro cr a0
 obtain⟨ap,a1⟩:=aI (xs:=f.inodes) (j:=Int.toNat b) (by first | omega |(simp only [bH,bB,bN];omega))
 obtain⟨f7,be⟩:=aI (xs:=cr) (j:=Int.toNat b) (by rw [a0];exact(List.getElem?_eq_some_iff.1 a1).1)
 refine Y.an .g1 (cW a1 be) ?_
 refine Y.w (.c .z .n) dR ?_
 rintro⟨f8,f9⟩ rfl
 refine Y.h (WS.a .z) ?_
 rintro⟨b7,b8,rfl,dz,d0,d1⟩
 refine Y.h (WS.a .g1) ?_
 rintro⟨b9,ca,rfl,d2,d3,d4⟩
 have fi:=cH (i:=b) a1 (by omega)
 have a8:=cI (a:=b) a1 (by omega)
 have fj:=dC (a:=b) a1 (by omega)
 have d5:(aB f.inodes b).length=ap.ents.length:=by rw [a8]
 refine Y.qg rfl rfl .g5 rfl rfl rfl (aC (j:=Int.toNat b) rfl cE aU (.t .g1) (.t .z) (by omega) (by first | omega |(simp only [bH,bB,bN];omega))) ?_
 refine Y.qg rfl rfl .g6 rfl rfl rfl (aK rfl (.t .z) (fun _=>gC _ _)) ?_
 refine Y.qg rfl rfl .g7 rfl rfl rfl (aL rfl cF (.t .z) (WS.h .g4 be rfl)) ?_
 refine Y.qg rfl rfl .g8 rfl rfl rfl (lU rfl (.t .z) .c) ?_
 refine Y.qg rfl rfl .g11 rfl rfl rfl (bO rfl (.t .g9) (.t .z)) ?_
 refine Y.ql rfl (bW rfl (.t .g12) (.t .z)) (Y.nt ?_)
 refine Y.u (.t .z) (fun fk=> ?_) (fun fk=> ?_)
 refine Y.seq (Y.region (Y.er (.s16 (.s16 (.s16 .g12))) (Y.ql rfl (aA rfl .c) (Y.nt (Y.ret (Y.r ?_))))))
 refine Y.v (c:=aG bD ap [.int .i64 ap.kind,.int .i64 ap.links,.int .i64 ap.size,.slice b7 ap.blocks.length b8,.slice b9 ap.ents.length ca]) (.c .z (.c .z .n)) (fun w S h=>bF ap h) ?_
 refine Y.v (c:=aG aP f.inodes [.slice (some ac) f.inodes.length ar]) (.c .g3 (.c .z (.c .z (.c .z .n)))) (bU (K:=bD) a0 a1 be) ?_
 have ah:(aB f.inodes a).length=y4.ents.length∨True:= .inr trivial
 try have ai:(aB f.inodes a).length=y4.ents.length:=by rw [au]
 have aj:=eK (s:=s) ht au
 have ak:(aB f.inodes a).length=af.ents.length∨True:= .inr trivial
 try have al:(aB f.inodes a).length=af.ents.length:=by rw [ag]
 have am:=eK (s:=s) ht ag
 have ax:(aB f.inodes a).length=ae.ents.length∨True:= .inr trivial
 try have ay:(aB f.inodes a).length=ae.ents.length:=by rw [ao]
 have az:=eK (s:=s) ht ao
 have bo:(aB f.inodes a).length=ap.ents.length∨True:= .inr trivial
 try have bp:(aB f.inodes a).length=ap.ents.length:=by rw [a8]
 have bq:=eK (s:=s) ht a8
 have hlk:aR f.inodes b=1∨bP f.inodes b=0:=by by_cases hk:aR f.inodes b=1;exact .inl hk;exact .inr (gM hI hk)
 refine Y.i (aY rfl .z) (.c .g1 (.c .z (.c .z .n))) ?_
 first |(have hc:=jB (f:=f) (a:=a) (s:=s) (b:=b) (by omega);exact⟨_,_,by rw [hc],by rw [dM (by rw [hc];decide)]⟩) |(have hc:=jD (f:=f) (a:=a) (s:=s) (b:=b) (by omega) (by rintro⟨⟨h1,h2⟩,h3⟩;first | omega |(simp_all;done) |(simp_all;omega));exact⟨_,_,by rw [hc],by rw [dM (by rw [hc];decide)]⟩) |(have hc:=jE (f:=f) (a:=a) (s:=s) (b:=b) (by omega) ⟨⟨by omega,by omega⟩,by omega⟩ (by omega);exact⟨_,_,by rw [hc],by rw [dM (by rw [hc];decide)]⟩) |(have hc:=eN (f:=f) (a:=a) (s:=s) (b:=b) (by omega) ⟨⟨by omega,by omega⟩,by omega⟩ (by omega);exact⟨_,_,by rw [hc],by rw [gJ hc (by omega)]⟩) |(have hc:=eN (f:=f) (a:=a) (s:=s) (b:=b) (by omega) ⟨⟨by omega,by omega⟩,by omega⟩ (by omega);exact⟨_,_,by rw [hc],by rw [gI hc (by omega)]⟩)
 refine Y.skip (Y.g (Y.seq ?_))
 refine Y.v (c:=aG bD ap [.int .i64 ap.kind,.int .i64 ap.links,.int .i64 ap.size,.slice b7 ap.blocks.length b8,.slice b9 ap.ents.length ca]) (.c .z (.c .z .n)) (fun w S h=>bF ap h) ?_
 refine Y.v (c:=aG aP f.inodes [.slice (some ac) f.inodes.length ar]) (.c .g3 (.c .z (.c .z (.c .z .n)))) (bU (K:=bD) a0 a1 be) ?_
 refine Y.w (.c .z .n) eC ?_
 rintro cb a9
 obtain⟨aa,a2⟩:=aI (xs:=f.inodes) (j:=Int.toNat a) (by first | omega |(simp only [bH,bB,bN];omega))
 obtain⟨ga,br⟩:=aI (xs:=cb) (j:=Int.toNat a) (by rw [a9];exact(List.getElem?_eq_some_iff.1 a2).1)
 refine Y.an .g1 (cW a2 br) ?_
 refine Y.w (.c .z .n) dR ?_
 rintro⟨gb,gc⟩ rfl
 refine Y.h (WS.a .z) ?_
 rintro⟨cc,cd,rfl,d6,d7,d8⟩
 refine Y.h (WS.a .g1) ?_
 rintro⟨fl,fm,rfl,d9,ea,eb⟩
 have fn:=cH (i:=a) a2 (by omega)
 have bf:=cI (a:=a) a2 (by omega)
 have fo:=dC (a:=a) a2 (by omega)
 have ec:(aB f.inodes a).length=aa.ents.length:=by rw [bf]
 refine Y.sel (.c .z (.c .z (.c .g4 (.c .z (.c .z (.c .z (.c .z .n))))))) ?_
 refine Y.dr .g3 19 gG ?_
 refine Y.sc (qs 0 16++ [(16,false),(17,false),(18,true),(19,false)]) (by kernel_rfl) ?_
 refine Y.dm rfl rfl .g3 (.s16 (.s16 (.s16 .g13))) (Y.dn rfl rfl .g3 .z (Y.df rfl rfl .g3 .z aO (Y.dl rfl rfl .g3 bK .z .g3 (Y.dk rfl rfl .g3 (aV rfl (.t (.s16 (.s16 (.s16 (.s16 .g2)))))) (Y.dk rfl rfl .g3 (aV rfl (.t (.s16 (.s16 (.s16 (.s16 .g2)))))) (Y.dn rfl rfl .g3 .z (Y.df rfl rfl .g3 .z aO (Y.dl rfl rfl .g3 bK .z .g3 ?_))))))))
 refine Y.dk rfl rfl .g3 (aV rfl (.t (.s16 (.s16 (.s16 (.s16 .g7)))))) ?_
 refine Y.dk rfl rfl .g3 (aC (j:=Int.toNat a) rfl cE aU (.t .g1) (.t .z) (by omega) (by first | omega |(simp only [bH,bB,bN];omega))) ?_
 refine Y.df rfl rfl .g3 .z bE (Y.dk rfl rfl .g3 (aL rfl dP (.t .z) (WS.h .g2 br rfl)) (Y.dk rfl rfl .g3 (aV rfl (.t (.s16 (.s16 (.s16 (.s16 .g12)))))) (Y.dk rfl rfl .g3 (aV rfl (.t (.s16 (.s16 (.s16 (.s16 .g14)))))) (Y.dk rfl rfl .g3 (aZ (cs:= [.string s,.int .i64 b]) rfl pI (pv2 (.t .g1) (.t .z)) rfl) ?_))))
 refine Y.call (aE rfl rfl) rfl (by decide) rfl (bS rfl Tryz.func128 rfl rfl (aX (.t .g3) (.t .z))) .n (fun _ _ hs tr=>yZ (tr.own .g1) (nU (⟨s,b⟩:aQ) (by assumption)) (by omega)) ?_
 rintro _ _ rfl
 refine Y.m (.c .n) ?_
 refine Y.h (WS.a .z) ?_
 rintro⟨bs,bt,rfl,ed,ee,ef⟩
 refine Y.sk .g4 ?_
 refine Y.q (aE rfl rfl) rfl (by decide) rfl (aC (j:=Int.toNat a) rfl cE aU (.t .g13) (.t .g12) (by omega) (by first | omega |(simp only [bH,bB,bN];omega))) ?_
 refine Y.sk .g4 ?_
 refine Y.df rfl rfl .g4 .z bE ?_
 refine Y.es (aE rfl rfl) rfl (gY (j:=Int.toNat a) (off:=4) (cs:= [.slice bs (dL aa.ents (⟨s,b⟩:aQ)).length bt]) rfl nC (.t .z) (gA _ _ _) (.t .g2) rfl (lZ rfl) .g6 br (Nat.le_of_ble_eq_true rfl)) ?_
 refine Y.af (x':=List.set cb (Int.toNat a) [.int .i64 aa.kind,.int .i64 aa.links,.int .i64 aa.size,.slice cc aa.blocks.length cd,.slice bs (dL aa.ents (⟨s,b⟩:aQ)).length bt]) .z rfl ?_
 refine Y.sl rfl ?_
 refine Y.aa ?_
 refine Y.ag (by kernel_rfl) ?_
 refine Y.g (Y.seq (Y.seq (Y.region (Y.mv rfl (.s16 (.s16 .g11)) (Y.nt ?_)))))
 refine Y.u (.t .z) (fun fp=> ?_) (fun fp=> ?_)
 refine Y.region (Y.ql rfl (aV rfl (.t (.s16 (.s16 (.s16 (.s16 (.s16 .g1))))))) (Y.nc rfl .z (Y.fa rfl .z aO (Y.ld rfl bK .z .g7 (Y.ql rfl (aV rfl (.t (.s16 (.s16 (.s16 (.s16 (.s16 .g8))))))) ?_)))))
 refine Y.v (c:=aG bD (⟨aa.kind,aa.links,aa.size,aa.blocks,dL aa.ents (⟨s,b⟩:aQ)⟩:aF) [.int .i64 aa.kind,.int .i64 aa.links,.int .i64 aa.size,.slice cc aa.blocks.length cd,.slice bs (dL aa.ents (⟨s,b⟩:aQ)).length bt]) (.c .g2 (.c .g1 .n)) (fun w S h=>bF (⟨aa.kind,aa.links,aa.size,aa.blocks,dL aa.ents (⟨s,b⟩:aQ)⟩:aF) h) ?_
 refine Y.v (c:=aG aP (List.set f.inodes (Int.toNat a) (⟨aa.kind,aa.links,aa.size,aa.blocks,dL aa.ents (⟨s,b⟩:aQ)⟩:aF)) [.slice (some ac) f.inodes.length ar]) (.c .g1 (.c .z (.c .g2 (.c .g2 .n)))) (dQ (K:=bD) a9 (List.getElem?_eq_some_iff.1 a2).1 rfl) ?_
 have ct:List.set f.inodes (Int.toNat a) (⟨aa.kind,aa.links,aa.size,aa.blocks,dL aa.ents (⟨s,b⟩:aQ)⟩:aF)=eD f.inodes a (dL (aB f.inodes a) ⟨s,b⟩):=(by rw [bf];exact nD a2 (by omega))
 refine Y.ak .z (congrArg (fun z_=>(aG aP (z_) [.slice (some ac) f.inodes.length ar]:Asn)) ct) ?_
 refine Y.w (.c .z .n) eC ?_
 rintro ce ba
 obtain⟨ad,a4⟩:=aI (xs:=eD f.inodes a (dL (aB f.inodes a) ⟨s,b⟩)) (j:=Int.toNat b) (by first | omega |(simp only [bH,bB,bN];omega))
 obtain⟨gd,bu⟩:=aI (xs:=ce) (j:=Int.toNat b) (by rw [ba];exact(List.getElem?_eq_some_iff.1 a4).1)
 refine Y.an .g1 (cW a4 bu) ?_
 refine Y.w (.c .z .n) dR ?_
 rintro⟨ge,gf⟩ rfl
 refine Y.h (WS.a .z) ?_
 rintro⟨cf,cg,rfl,eg,eh,ei⟩
 refine Y.h (WS.a .g1) ?_
 rintro⟨ch,ci,rfl,ej,ek,em⟩
 have hTl:(eD f.inodes a (dL (aB f.inodes a) ⟨s,b⟩)).length=f.inodes.length:=bB
 have hTk:aR (eD f.inodes a (dL (aB f.inodes a) ⟨s,b⟩)) b=aR f.inodes b:=lE
 have hTn:bP (eD f.inodes a (dL (aB f.inodes a) ⟨s,b⟩)) b=bP f.inodes b:=oS
 have hLb:(0≤bP f.inodes b∧bP f.inodes b≤60)∨aR f.inodes b≠1:=by by_cases hk:aR f.inodes b=1;exact .inl (by have:=tN hI hk;omega);exact .inr hk
 have kT:=cH (i:=b) a4 (by omega)
 have lT:=dC (a:=b) a4 (by omega)
 refine Y.ql rfl (aC (j:=Int.toNat b) rfl cE aU (.t .g1) (.t .z) (by omega) (by first | omega |(simp only [bH,bB,bN];omega))) ?_
 refine Y.fa rfl .z gC (Y.ql rfl (aL rfl cF (.t .z) (WS.h .g4 bu rfl)) ?_)
 refine Y.ql rfl (bQ (c:=ad.links+1) rfl (.t .z) .c (wr (by omega) (by omega) (by omega))) ?_
 refine Y.ql rfl (aC (j:=Int.toNat b) rfl cE aU (.t .g5) (.t .g4) (by omega) (by first | omega |(simp only [bH,bB,bN];omega))) ?_
 refine Y.fa rfl .z gC ?_
 refine Y.es (aD rfl) rfl (gY (j:=Int.toNat b) (off:=1) (cs:= [.int .i64 (ad.links+1)]) rfl jQ (.t .z) (gA _ _ _) (.t .g2) rfl (lZ rfl) .g4 bu (Nat.le_of_ble_eq_true rfl)) ?_
 refine Y.af (x':=List.set ce (Int.toNat b) [.int .i64 ad.kind,.int .i64 (ad.links+1),.int .i64 ad.size,.slice cf ad.blocks.length cg,.slice ch ad.ents.length ci]) .z rfl ?_
 refine Y.nt (Y.seq (Y.region (Y.er (.s16 (.s16 (.s16 (.s16 (.s16 .g11))))) (Y.ql rfl (aA rfl .c) (Y.nt (Y.ret ?_))))))
 refine Y.v (c:=aG bD (⟨ad.kind,ad.links+1,ad.size,ad.blocks,ad.ents⟩:aF) [.int .i64 ad.kind,.int .i64 (ad.links+1),.int .i64 ad.size,.slice cf ad.blocks.length cg,.slice ch ad.ents.length ci]) (.c .g1 (.c .g1 .n)) (fun w S h=>bF (⟨ad.kind,ad.links+1,ad.size,ad.blocks,ad.ents⟩:aF) h) ?_
 refine Y.v (c:=aG aP (List.set (eD f.inodes a (dL (aB f.inodes a) ⟨s,b⟩)) (Int.toNat b) (⟨ad.kind,ad.links+1,ad.size,ad.blocks,ad.ents⟩:aF)) [.slice (some ac) f.inodes.length ar]) (.c .g1 (.c .z (.c .z (.c .z .n)))) (dQ (K:=bD) ba (List.getElem?_eq_some_iff.1 a4).1 rfl) ?_
 have ah:(aB f.inodes a).length=y4.ents.length∨True:= .inr trivial
 try have ai:(aB f.inodes a).length=y4.ents.length:=by rw [au]
 have aj:=eK (s:=s) ht au
 have ak:(aB f.inodes a).length=af.ents.length∨True:= .inr trivial
 try have al:(aB f.inodes a).length=af.ents.length:=by rw [ag]
 have am:=eK (s:=s) ht ag
 have ax:(aB f.inodes a).length=ae.ents.length∨True:= .inr trivial
 try have ay:(aB f.inodes a).length=ae.ents.length:=by rw [ao]
 have az:=eK (s:=s) ht ao
 have bo:(aB f.inodes a).length=ap.ents.length∨True:= .inr trivial
 try have bp:(aB f.inodes a).length=ap.ents.length:=by rw [a8]
 have bq:=eK (s:=s) ht a8
 have cu:(aB f.inodes a).length=aa.ents.length∨True:= .inr trivial
 try have cv:(aB f.inodes a).length=aa.ents.length:=by rw [bf]
 have cw:=eK (s:=s) ht bf
 have hlk:aR f.inodes b=1∨bP f.inodes b=0:=by by_cases hk:aR f.inodes b=1;exact .inl hk;exact .inr (gM hI hk)
 have cx:List.set (eD f.inodes a (dL (aB f.inodes a) ⟨s,b⟩)) (Int.toNat b) (⟨ad.kind,ad.links+1,ad.size,ad.blocks,ad.ents⟩:aF)=eO (eD f.inodes a (dL (aB f.inodes a) ⟨s,b⟩)) b (bP f.inodes b+1):=(by rw [←hTn,lT];exact oF a4 (by omega))
 refine Y.ak .z (congrArg (fun z_=>(aG aP (z_) [.slice (some ac) f.inodes.length ar]:Asn)) cx) ?_
 refine Y.i (aY rfl .z) (.c .g3 (.c .z (.c .g1 .n))) ?_
 first |(have hc:=jB (f:=f) (a:=a) (s:=s) (b:=b) (by omega);exact⟨_,_,by rw [hc],by rw [dM (by rw [hc];decide)]⟩) |(have hc:=jD (f:=f) (a:=a) (s:=s) (b:=b) (by omega) (by rintro⟨⟨h1,h2⟩,h3⟩;first | omega |(simp_all;done) |(simp_all;omega));exact⟨_,_,by rw [hc],by rw [dM (by rw [hc];decide)]⟩) |(have hc:=jE (f:=f) (a:=a) (s:=s) (b:=b) (by omega) ⟨⟨by omega,by omega⟩,by omega⟩ (by omega);exact⟨_,_,by rw [hc],by rw [dM (by rw [hc];decide)]⟩) |(have hc:=eN (f:=f) (a:=a) (s:=s) (b:=b) (by omega) ⟨⟨by omega,by omega⟩,by omega⟩ (by omega);exact⟨_,_,by rw [hc],by rw [gJ hc (by omega)]⟩) |(have hc:=eN (f:=f) (a:=a) (s:=s) (b:=b) (by omega) ⟨⟨by omega,by omega⟩,by omega⟩ (by omega);exact⟨_,_,by rw [hc],by rw [gI hc (by omega)]⟩)
 exfalso;first | omega | contradiction
 refine Y.j rfl rfl .z rfl rfl (by decide) rfl ?_
 refine Y.j rfl rfl .g1 rfl rfl (by decide) rfl ?_
 refine Y.j rfl rfl .g2 rfl rfl (by decide) rfl ?_
 refine Y.j rfl rfl .g3 rfl rfl (by decide) rfl ?_
 refine Y.j rfl rfl .g4 rfl rfl (by decide) rfl ?_
 refine Y.j rfl rfl .g5 rfl rfl (by decide) rfl ?_
 refine Y.j rfl rfl .g6 rfl rfl (by decide) rfl ?_
 refine Y.j rfl rfl .g7 rfl rfl (by decide) rfl ?_
 refine Y.j rfl rfl .g8 rfl rfl (by decide) rfl ?_
 refine Y.qg rfl rfl .g11 rfl rfl rfl (bW rfl (.t .g9) .c) ?_
 refine Y.ql rfl (bW rfl (.t .g12) (.t .z)) (Y.nt ?_)
 refine Y.ar (.t .z) ?_
 refine Y.skip (Y.g (Y.seq ?_))
 refine Y.v (c:=aG bD ae [.int .i64 ae.kind,.int .i64 ae.links,.int .i64 ae.size,.slice bj ae.blocks.length bk,.slice bm ae.ents.length bn]) (.c .z (.c .z .n)) (fun w S h=>bF ae h) ?_
 refine Y.v (c:=aG aP f.inodes [.slice (some ac) f.inodes.length ar]) (.c .g3 (.c .z (.c .z (.c .z .n)))) (bU (K:=bD) an aq a7) ?_
 refine Y.w (.c .z .n) eC ?_
 rintro cj bb
 obtain⟨ab,a3⟩:=aI (xs:=f.inodes) (j:=Int.toNat a) (by first | omega |(simp only [bH,bB,bN];omega))
 obtain⟨gg,bv⟩:=aI (xs:=cj) (j:=Int.toNat a) (by rw [bb];exact(List.getElem?_eq_some_iff.1 a3).1)
 refine Y.an .g1 (cW a3 bv) ?_
 refine Y.w (.c .z .n) dR ?_
 rintro⟨gh,gi⟩ rfl
 refine Y.h (WS.a .z) ?_
 rintro⟨ck,cm,rfl,en,eo,ep⟩
 refine Y.h (WS.a .g1) ?_
 rintro⟨fq,fr,rfl,et,eu,ew⟩
 have ft:=cH (i:=a) a3 (by omega)
 have bg:=cI (a:=a) a3 (by omega)
 have fu:=dC (a:=a) a3 (by omega)
 have ey:(aB f.inodes a).length=ab.ents.length:=by rw [bg]
 refine Y.sel (.c .z (.c .z (.c .g4 (.c .z (.c .z (.c .z (.c .z .n))))))) ?_
 refine Y.dr .g3 19 gG ?_
 refine Y.sc (qs 0 16++ [(16,false),(17,false),(18,true),(19,false)]) (by kernel_rfl) ?_
 refine Y.dm rfl rfl .g3 (.s16 (.s16 (.s16 .g13))) (Y.dn rfl rfl .g3 .z (Y.df rfl rfl .g3 .z aO (Y.dl rfl rfl .g3 bK .z .g3 (Y.dk rfl rfl .g3 (aV rfl (.t (.s16 (.s16 (.s16 (.s16 .g2)))))) (Y.dk rfl rfl .g3 (aV rfl (.t (.s16 (.s16 (.s16 (.s16 .g2)))))) (Y.dn rfl rfl .g3 .z (Y.df rfl rfl .g3 .z aO (Y.dl rfl rfl .g3 bK .z .g3 ?_))))))))
 refine Y.dk rfl rfl .g3 (aV rfl (.t (.s16 (.s16 (.s16 (.s16 .g7)))))) ?_
 refine Y.dk rfl rfl .g3 (aC (j:=Int.toNat a) rfl cE aU (.t .g1) (.t .z) (by omega) (by first | omega |(simp only [bH,bB,bN];omega))) ?_
 refine Y.df rfl rfl .g3 .z bE (Y.dk rfl rfl .g3 (aL rfl dP (.t .z) (WS.h .g2 bv rfl)) (Y.dk rfl rfl .g3 (aV rfl (.t (.s16 (.s16 (.s16 (.s16 .g12)))))) (Y.dk rfl rfl .g3 (aV rfl (.t (.s16 (.s16 (.s16 (.s16 .g14)))))) (Y.dk rfl rfl .g3 (aZ (cs:= [.string s,.int .i64 b]) rfl pI (pv2 (.t .g1) (.t .z)) rfl) ?_))))
 refine Y.call (aE rfl rfl) rfl (by decide) rfl (bS rfl Tryz.func128 rfl rfl (aX (.t .g3) (.t .z))) .n (fun _ _ hs tr=>yZ (tr.own .g1) (nU (⟨s,b⟩:aQ) (by assumption)) (by omega)) ?_
 rintro _ _ rfl
 refine Y.m (.c .n) ?_
 refine Y.h (WS.a .z) ?_
 rintro⟨bc,bd,rfl,cy,cz,c0⟩
 refine Y.sk .g4 ?_
 refine Y.q (aE rfl rfl) rfl (by decide) rfl (aC (j:=Int.toNat a) rfl cE aU (.t .g13) (.t .g12) (by omega) (by first | omega |(simp only [bH,bB,bN];omega))) ?_
 refine Y.sk .g4 ?_
 refine Y.df rfl rfl .g4 .z bE ?_
 refine Y.es (aE rfl rfl) rfl (gY (j:=Int.toNat a) (off:=4) (cs:= [.slice bc (dL ab.ents (⟨s,b⟩:aQ)).length bd]) rfl nC (.t .z) (gA _ _ _) (.t .g2) rfl (lZ rfl) .g6 bv (Nat.le_of_ble_eq_true rfl)) ?_
 refine Y.af (x':=List.set cj (Int.toNat a) [.int .i64 ab.kind,.int .i64 ab.links,.int .i64 ab.size,.slice ck ab.blocks.length cm,.slice bc (dL ab.ents (⟨s,b⟩:aQ)).length bd]) .z rfl ?_
 refine Y.sl rfl ?_
 refine Y.aa ?_
 refine Y.ag (by kernel_rfl) ?_
 refine Y.g (Y.seq (Y.seq (Y.region (Y.mv rfl (.s16 (.s16 .g11)) (Y.nt ?_)))))
 refine Y.u (.t .z) (fun c1=> ?_) (fun c1=> ?_)
 exfalso;first | omega | contradiction
 refine Y.skip (Y.g (Y.seq (Y.region (Y.er (.s16 (.s16 (.s16 (.s16 .g16)))) (Y.ql rfl (aA rfl .c) (Y.nt (Y.ret ?_)))))))
 refine Y.v (c:=aG bD (⟨ab.kind,ab.links,ab.size,ab.blocks,dL ab.ents (⟨s,b⟩:aQ)⟩:aF) [.int .i64 ab.kind,.int .i64 ab.links,.int .i64 ab.size,.slice ck ab.blocks.length cm,.slice bc (dL ab.ents (⟨s,b⟩:aQ)).length bd]) (.c .g2 (.c .g1 .n)) (fun w S h=>bF (⟨ab.kind,ab.links,ab.size,ab.blocks,dL ab.ents (⟨s,b⟩:aQ)⟩:aF) h) ?_
 refine Y.v (c:=aG aP (List.set f.inodes (Int.toNat a) (⟨ab.kind,ab.links,ab.size,ab.blocks,dL ab.ents (⟨s,b⟩:aQ)⟩:aF)) [.slice (some ac) f.inodes.length ar]) (.c .g1 (.c .z (.c .g2 (.c .g2 .n)))) (dQ (K:=bD) bb (List.getElem?_eq_some_iff.1 a3).1 rfl) ?_
 have cn:List.set f.inodes (Int.toNat a) (⟨ab.kind,ab.links,ab.size,ab.blocks,dL ab.ents (⟨s,b⟩:aQ)⟩:aF)=eD f.inodes a (dL (aB f.inodes a) ⟨s,b⟩):=(by rw [bg];exact nD a3 (by omega))
 refine Y.ak .z (congrArg (fun z_=>(aG aP (z_) [.slice (some ac) f.inodes.length ar]:Asn)) cn) ?_
 have ah:(aB f.inodes a).length=y4.ents.length∨True:= .inr trivial
 try have ai:(aB f.inodes a).length=y4.ents.length:=by rw [au]
 have aj:=eK (s:=s) ht au
 have ak:(aB f.inodes a).length=af.ents.length∨True:= .inr trivial
 try have al:(aB f.inodes a).length=af.ents.length:=by rw [ag]
 have am:=eK (s:=s) ht ag
 have ax:(aB f.inodes a).length=ae.ents.length∨True:= .inr trivial
 try have ay:(aB f.inodes a).length=ae.ents.length:=by rw [ao]
 have az:=eK (s:=s) ht ao
 have c2:(aB f.inodes a).length=ab.ents.length∨True:= .inr trivial
 try have c3:(aB f.inodes a).length=ab.ents.length:=by rw [bg]
 have c4:=eK (s:=s) ht bg
 have hlk:aR f.inodes b=1∨bP f.inodes b=0:=by by_cases hk:aR f.inodes b=1;exact .inl hk;exact .inr (gM hI hk)
 refine Y.i (aY rfl .z) (.c .g3 (.c .z (.c .g1 .n))) ?_
 first |(have hc:=jB (f:=f) (a:=a) (s:=s) (b:=b) (by omega);exact⟨_,_,by rw [hc],by rw [dM (by rw [hc];decide)]⟩) |(have hc:=jD (f:=f) (a:=a) (s:=s) (b:=b) (by omega) (by rintro⟨⟨h1,h2⟩,h3⟩;first | omega |(simp_all;done) |(simp_all;omega));exact⟨_,_,by rw [hc],by rw [dM (by rw [hc];decide)]⟩) |(have hc:=jE (f:=f) (a:=a) (s:=s) (b:=b) (by omega) ⟨⟨by omega,by omega⟩,by omega⟩ (by omega);exact⟨_,_,by rw [hc],by rw [dM (by rw [hc];decide)]⟩) |(have hc:=eN (f:=f) (a:=a) (s:=s) (b:=b) (by omega) ⟨⟨by omega,by omega⟩,by omega⟩ (by omega);exact⟨_,_,by rw [hc],by rw [gJ hc (by omega)]⟩) |(have hc:=eN (f:=f) (a:=a) (s:=s) (b:=b) (by omega) ⟨⟨by omega,by omega⟩,by omega⟩ (by omega);exact⟨_,_,by rw [hc],by rw [gI hc (by omega)]⟩)

end Go.Proofs.YtmejbfmhaoilmaaGreat

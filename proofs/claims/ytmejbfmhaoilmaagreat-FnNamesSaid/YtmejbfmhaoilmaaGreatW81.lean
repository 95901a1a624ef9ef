/- What is proved: contracts of functions, one a function. No condition. -/
import Derived.Test.YtmejbfmhaoilmaaGreatBase1
import Derived.Test.YtmejbfmhaoilmaaGreatW70
import Derived.Test.YtmejbfmhaoilmaaGreatW38
import Derived.Test.YtmejbfmhaoilmaaGreatW9
import Derived.Test.YtmejbfmhaoilmaaGreatBase2
namespace Go.Proofs.YtmejbfmhaoilmaaGreat
open Go Go.RowKit
set_option linter.unusedVariables false
set_option linter.unusedSimpArgs false
set_option maxHeartbeats 1000000
set_option maxRecDepth 20000
theorem aK6 {w0:World}{S0:Bs}{xs:(List aF)}{v0:Value} (h0:aP.ro w0 (FF w0 S0) xs [v0]) (hb:xs.length≤10):
    Calls Tryz.prog 173 #[v0] w0 (aJ w0 S0 (fun r l=>r= .int .i64 (dH xs)∧l= [])):=by
 obtain⟨A0,c0,rfl,a0,a1,a2,ay⟩:=aH h0
 refine Y.enter (N:=22) Tryz.func173 rfl rfl (by simp) [(0,.slice A0 xs.length c0)] (by simp) (l0:= []) trivial ?_
 refine Y.seq (Y.region (Y.ql rfl (aA rfl .c) (Y.nt (Y.seq (Y.seq (Y.region (Y.ql rfl (aA rfl .c) ?_)))))))
 refine Y.nt (Y.block ?_)
 refine Y.aj (γ:=Nat) (fun k=> [(3,.int .i64 (k:Int)),(0,.slice A0 xs.length c0)]) (fun k=> []) (fun k=>k≤xs.length∧∀j y,j<k→xs[j]? =some y→¬aF.kind y=0) (fun k=>xs.length - k) 0 ⟨Nat.zero_le _,eV (q:=fun _ y=>¬aF.kind y=0)⟩ (.c .z (.c .g2 .n)) (fun _ h=>h) ?_
 rintro k ⟨hk,hallk⟩
 refine Y.seq (Y.seq (Y.region (Y.mv rfl .z (Y.mv rfl .g2 (Y.ql rfl (bM rfl cE (.t .z)) (Y.ql rfl (dJ rfl (.t .g2) (.t .z)) (Y.nt ?_)))))))
 refine Y.u (.t .z) (fun b2=> ?_) (fun b2=> ?_)
 refine Y.skip (Y.g (Y.seq (Y.block (Y.seq (Y.region (Y.mv rfl .g5 (Y.mv rfl .g5 ?_)))))))
 obtain⟨a3,aa,ab⟩:=ay (by omega)
 subst aa
 obtain⟨x4,ae⟩:=aI (xs:=xs) (j:=k) (by omega)
 obtain⟨az,af,ag,ah⟩:=ab.elem ae
 obtain⟨aq,ar,rfl,ac,ad⟩:=cK af
 obtain⟨au,av,rfl,ai,aj,ak,al⟩:=aH ac
 obtain⟨aw,ax,rfl,am,an,ao,ap⟩:=aH ad
 refine Y.ql rfl (aC (j:=k) rfl cE aU (.t .g1) (.t .z) rfl (by omega)) ?_
 refine Y.fa rfl .z cV (Y.le rfl cF .z ag ah (Y.ql rfl (bZ rfl (.t .z) .c) (Y.nt ?_)))
 refine Y.u (.t .z) (fun b8=> ?_) (fun b8=> ?_)
 refine Y.seq (Y.region (Y.mv rfl .g10 (Y.as rfl .z (Y.nt (Y.ret (Y.y (Y.r ?_)))))))
 refine Y.r (Y.y (Y.r ?_))
 refine Y.i (aY rfl .z) .n ?_
 exact⟨by first |(rw [aIf ae (by assumption) hallk];done) |(rw [xD (q:=k) (by omega) hallk (by assumption)];done) |(rw [xH (q:=k) (by omega) hallk (by assumption) hb];done),rfl⟩
 refine Y.skip (Y.ac (Y.g (Y.region (Y.mv rfl .g10 ?_))))
 refine Y.ql rfl (bQ (c:=((k+1:Nat):Int)) rfl (.t .z) .c (wr (by omega) (by omega) (by omega))) ?_
 refine Y.er .g12 (Y.as rfl .z (Y.nil ?_))
 refine Y.ae (k+1) ⟨by omega,eM (q:=fun _ y=>¬aF.kind y=0) hallk ae (by assumption)⟩ (by first | omega |(dsimp only;omega)) (.c .z (.c .g13 .n)) (fun _ h=>h)
 refine Y.exit (Y.ab (Y.ab (Y.ai (Y.g (Y.seq (Y.seq (Y.region (Y.mv rfl .g5 ?_))))))))
 refine Y.ql rfl (bM rfl cE (.t .z)) (Y.ql rfl (dJ rfl (.t .z) .c) (Y.nt ?_))
 refine Y.u (.t .z) (fun b9=> ?_) (fun b9=> ?_)
 refine Y.seq (Y.region (Y.mv rfl .g8 (Y.ql rfl (bM rfl cE (.t .z)) (Y.as rfl .z (Y.nt (Y.ret (Y.r ?_)))))))
 refine Y.i (aY rfl .z) .n ?_
 exact⟨by first |(rw [xD (q:=k) (by omega) hallk (by assumption)];done) |(rw [xH (q:=k) (by omega) hallk (by assumption) hb];done),rfl⟩
 refine Y.skip (Y.g (Y.seq (Y.region (Y.ql rfl (aA rfl .c) (Y.nt (Y.ret ?_))))))
 refine Y.i (aY rfl .z) .n ?_
 exact⟨by first |(rw [xD (q:=k) (by omega) hallk (by assumption)];done) |(rw [xH (q:=k) (by omega) hallk (by assumption) hb];done),rfl⟩

theorem aGs {w0:World}{S0:Bs}{f:DFs}{g0 e0 s0:Nat}{bh:List Value}{bw:Value}{bx:Value} (a:Int) (s:ByteArray) (fv:s.size≤140737488351232) (b:Int) (hs:cB [cM g0 e0 s0 1 (bw :: bx :: bh),aG aP f.inodes [bw],aG cG f.data [bx]] w0 S0) (ht:J0 f) (hp:bR f.inodes.length a) (h6:(aB f.inodes a).length≤6):
    Calls Tryz.prog 78 #[.pointer (some ⟨g0,0,none⟩),.int .i64 a,.string s,.int .i64 b] w0 (aJ w0 S0 (fun r l=>∃v0 v1,r= .int .i64 (mL f a s b)∧l= [cM g0 e0 s0 1 (v0 :: v1 :: bh),aG aP (iL f a s b).inodes [v0],aG cG (iL f a s b).data [v1]])):=by
 obtain⟨fw,fx⟩:=hp
 have hI:=ht
 refine Y.enter (N:=100) Tryz.func78 rfl rfl (by simp) [(0,.pointer (some ⟨g0,0,none⟩)),(1,.int .i64 a),(2,.string s),(3,.int .i64 b)] (by simp) hs ?_
 refine Y.h (WS.a .g1) ?_
 rintro⟨fy,ar,rfl,ez,e1,e2⟩
 refine Y.h (WS.a .g2) ?_
 rintro⟨e3,e4,rfl,e5,e7,e8⟩
 refine Y.seq (Y.region (Y.ql rfl (aA rfl .c) (Y.nt (Y.seq (Y.seq (Y.region (Y.mv rfl .g1 ?_)))))))
 refine Y.nc rfl .z (Y.fa rfl .z aO (Y.ld rfl bK .z .z (Y.mv rfl .g6 ?_)))
 refine Y.w (.c .g1 .n) eC ?_
 rintro e9 a5
 obtain⟨y4,bi⟩:=aI (xs:=f.inodes) (j:=Int.toNat a) (by first | omega |(simp only [bH,bB,bN];omega))
 obtain⟨c5,co⟩:=aI (xs:=e9) (j:=Int.toNat a) (by rw [a5];exact(List.getElem?_eq_some_iff.1 bi).1)
 refine Y.an .g1 (cW bi co) ?_
 refine Y.w (.c .z .n) dR ?_
 rintro⟨v6,v7⟩ rfl
 refine Y.h (WS.a .z) ?_
 rintro⟨bz,b0,rfl,c6,c7,c8⟩
 refine Y.h (WS.a .g1) ?_
 rintro⟨b1,b2,rfl,c9,da,db⟩
 have fz:=cH (i:=a) bi (by omega)
 have au:=cI (a:=a) bi (by omega)
 have f0:=dC (a:=a) bi (by omega)
 have fb:(aB f.inodes a).length=y4.ents.length:=by rw [au]
 refine Y.h (WS.i .g4 (by omega)) ?_
 rintro⟨ac,rfl⟩
 refine Y.ql rfl (aC (j:=Int.toNat a) rfl cE aU (.t .g1) (.t .z) (by omega) (by first | omega |(simp only [bH,bB,bN];omega))) ?_
 refine Y.fa rfl .z bE (Y.ql rfl (aL rfl dP (.t .z) (WS.h .g4 co rfl)) (Y.mv rfl .g11 ?_))
 refine Y.cl rfl rfl Tryz.func127 rfl rfl (aX (.t .g1) (.t .z)) .n (fun _ _ hs tr=>rJ (tr.own .g1) _ (by first | assumption | omega)) ?_
 rintro _ _ ⟨rfl,rfl⟩
 refine Y.m .n ?_
 refine Y.ql rfl (lU rfl (.t .z) .c) (Y.nt ?_)
 refine Y.u (.t .z) (fun fc=> ?_) (fun fc=> ?_)
 refine Y.seq (Y.region (Y.er .g11 (Y.ql rfl (aA rfl .c) (Y.nt (Y.ret (Y.r ?_))))))
 refine Y.v (c:=aG bD y4 [.int .i64 y4.kind,.int .i64 y4.links,.int .i64 y4.size,.slice bz y4.blocks.length b0,.slice b1 y4.ents.length b2]) (.c .z (.c .z .n)) (fun w S h=>bF y4 h) ?_
 refine Y.v (c:=aG aP f.inodes [.slice (some ac) f.inodes.length ar]) (.c .g3 (.c .z (.c .z (.c .z .n)))) (bU (K:=bD) a5 bi co) ?_
 have ah:(aB f.inodes a).length=y4.ents.length∨True:= .inr trivial
 try have ai:(aB f.inodes a).length=y4.ents.length:=by rw [au]
 have aj:=fE (s:=s) ht au
 have hlk:aR f.inodes b=1∨bP f.inodes b=0:=by by_cases hk:aR f.inodes b=1;exact .inl hk;exact .inr (kI hI hk)
 refine Y.i (aY rfl .z) (.c .g1 (.c .z (.c .z .n))) ?_
 first |(have hc:=jB (f:=f) (a:=a) (s:=s) (b:=b) (by omega);exact⟨_,_,by rw [hc],by rw [dM (by rw [hc];decide)]⟩) |(have hc:=jD (f:=f) (a:=a) (s:=s) (b:=b) (by omega) (by rintro⟨⟨h1,h2⟩,h3⟩;first | omega |(simp_all;done) |(simp_all;omega));exact⟨_,_,by rw [hc],by rw [dM (by rw [hc];decide)]⟩) |(have hc:=jE (f:=f) (a:=a) (s:=s) (b:=b) (by omega) ⟨⟨by omega,by omega⟩,by omega⟩ (by omega);exact⟨_,_,by rw [hc],by rw [dM (by rw [hc];decide)]⟩) |(have hc:=eN (f:=f) (a:=a) (s:=s) (b:=b) (by omega) ⟨⟨by omega,by omega⟩,by omega⟩ (by omega);exact⟨_,_,by rw [hc],by rw [gJ hc (by omega)]⟩) |(have hc:=eN (f:=f) (a:=a) (s:=s) (b:=b) (by omega) ⟨⟨by omega,by omega⟩,by omega⟩ (by omega);exact⟨_,_,by rw [hc],by rw [gI hc (by omega)]⟩)
 refine Y.skip (Y.g (Y.seq (Y.seq (Y.region (Y.mv rfl .g12 (Y.mv rfl .g16 ?_))))))
 refine Y.v (c:=aG bD y4 [.int .i64 y4.kind,.int .i64 y4.links,.int .i64 y4.size,.slice bz y4.blocks.length b0,.slice b1 y4.ents.length b2]) (.c .z (.c .z .n)) (fun w S h=>bF y4 h) ?_
 refine Y.v (c:=aG aP f.inodes [.slice (some ac) f.inodes.length ar]) (.c .g3 (.c .z (.c .z (.c .z .n)))) (bU (K:=bD) a5 bi co) ?_
 refine Y.cl rfl rfl Tryz.func90 rfl rfl (aX (.t .g1) (.t .z)) .n (fun _ _ hs tr=>aIw (tr.ptrpre .g1 (aM f (tr.own .z) (tr.own .g2)) (xB (cs:= [.slice (some ac) f.inodes.length ar,.slice e3 f.data.length e4]) (k:=2) rfl rfl)) _) ?_
 rintro _ _ ⟨rfl,rfl⟩
 refine Y.m .n ?_
 refine Y.ql rfl (fN rfl (.t .z)) (Y.mv rfl .z ?_)
 refine Y.ap .z (fun g17=> ?_) (fun g17=> ?_)
 refine Y.j rfl rfl .z rfl rfl (by decide) rfl ?_
 refine Y.j rfl rfl .g1 rfl rfl (by decide) rfl ?_
 refine Y.j rfl rfl .g2 rfl rfl (by decide) rfl ?_
 refine Y.j rfl rfl .g3 rfl rfl (by decide) rfl ?_
 refine Y.j rfl rfl .g4 rfl rfl (by decide) rfl ?_
 refine Y.j rfl rfl .g5 rfl rfl (by decide) rfl ?_
 refine Y.j rfl rfl .g6 rfl rfl (by decide) rfl ?_
 refine Y.j rfl rfl .g7 rfl rfl (by decide) rfl ?_
 refine Y.j rfl rfl .g8 rfl rfl (by decide) rfl ?_
 refine Y.ql rfl (bO rfl (.t .g9) .c) (Y.nt ?_)
 refine Y.ao (.t .z) ?_
 refine Y.seq (Y.region (Y.er (.s16 .g10) (Y.ql rfl (aA rfl .c) (Y.nt (Y.ret (Y.r ?_))))))
 have ah:(aB f.inodes a).length=y4.ents.length∨True:= .inr trivial
 try have ai:(aB f.inodes a).length=y4.ents.length:=by rw [au]
 have aj:=fE (s:=s) ht au
 have hlk:aR f.inodes b=1∨bP f.inodes b=0:=by by_cases hk:aR f.inodes b=1;exact .inl hk;exact .inr (kI hI hk)
 refine Y.i (aY rfl .z) (.c .g1 (.c .z (.c .z .n))) ?_
 first |(have hc:=jB (f:=f) (a:=a) (s:=s) (b:=b) (by omega);exact⟨_,_,by rw [hc],by rw [dM (by rw [hc];decide)]⟩) |(have hc:=jD (f:=f) (a:=a) (s:=s) (b:=b) (by omega) (by rintro⟨⟨h1,h2⟩,h3⟩;first | omega |(simp_all;done) |(simp_all;omega));exact⟨_,_,by rw [hc],by rw [dM (by rw [hc];decide)]⟩) |(have hc:=jE (f:=f) (a:=a) (s:=s) (b:=b) (by omega) ⟨⟨by omega,by omega⟩,by omega⟩ (by omega);exact⟨_,_,by rw [hc],by rw [dM (by rw [hc];decide)]⟩) |(have hc:=eN (f:=f) (a:=a) (s:=s) (b:=b) (by omega) ⟨⟨by omega,by omega⟩,by omega⟩ (by omega);exact⟨_,_,by rw [hc],by rw [gJ hc (by omega)]⟩) |(have hc:=eN (f:=f) (a:=a) (s:=s) (b:=b) (by omega) ⟨⟨by omega,by omega⟩,by omega⟩ (by omega);exact⟨_,_,by rw [hc],by rw [gI hc (by omega)]⟩)
 refine Y.qg rfl rfl .z rfl rfl rfl (aV rfl (.t (.s16 .g1))) ?_
 refine Y.qg rfl rfl .g1 rfl rfl rfl (eB rfl (.t .z)) ?_
 refine Y.qg rfl rfl .g2 rfl rfl rfl (aK rfl (.t .z) (fun _=>aO _ _)) ?_
 refine Y.qg rfl rfl .g3 rfl rfl rfl (aL rfl bK (.t .z) (WS.g .g1 rfl)) ?_
 refine Y.qg rfl rfl .g4 rfl rfl rfl (aV rfl (.t (.s16 .g8))) ?_
 refine Y.w (.c .z .n) eC ?_
 rintro cp av
 obtain⟨af,aw⟩:=aI (xs:=f.inodes) (j:=Int.toNat b) (by first | omega |(simp only [bH,bB,bN];omega))
 obtain⟨f1,a6⟩:=aI (xs:=cp) (j:=Int.toNat b) (by rw [av];exact(List.getElem?_eq_some_iff.1 aw).1)
 refine Y.an .g1 (cW aw a6) ?_
 refine Y.w (.c .z .n) dR ?_
 rintro⟨f2,f3⟩ rfl
 refine Y.h (WS.a .z) ?_
 rintro⟨b3,b4,rfl,dc,dd,dg⟩
 refine Y.h (WS.a .g1) ?_
 rintro⟨b5,b6,rfl,dh,di,dj⟩
 have fd:=cH (i:=b) aw (by omega)
 have ag:=cI (a:=b) aw (by omega)
 have fe:=dC (a:=b) aw (by omega)
 have dp:(aB f.inodes b).length=af.ents.length:=by rw [ag]
 refine Y.qg rfl rfl .g5 rfl rfl rfl (aC (j:=Int.toNat b) rfl cE aU (.t .g1) (.t .z) (by omega) (by first | omega |(simp only [bH,bB,bN];omega))) ?_
 refine Y.qg rfl rfl .g6 rfl rfl rfl (aK rfl (.t .z) (fun _=>cV _ _)) ?_
 refine Y.qg rfl rfl .g7 rfl rfl rfl (aL rfl cF (.t .z) (WS.h .g4 a6 rfl)) ?_
 refine Y.qg rfl rfl .g8 rfl rfl rfl (bZ rfl (.t .z) .c) ?_
 refine Y.ql rfl (bW rfl (.t .g9) (.t .z)) (Y.nt ?_)
 refine Y.u (.t .z) (fun ff=> ?_) (fun ff=> ?_)
 refine Y.seq (Y.region (Y.er (.s16 .g10) (Y.ql rfl (aA rfl .c) (Y.nt (Y.ret (Y.r ?_))))))
 refine Y.v (c:=aG bD af [.int .i64 af.kind,.int .i64 af.links,.int .i64 af.size,.slice b3 af.blocks.length b4,.slice b5 af.ents.length b6]) (.c .z (.c .z .n)) (fun w S h=>bF af h) ?_
 refine Y.v (c:=aG aP f.inodes [.slice (some ac) f.inodes.length ar]) (.c .g3 (.c .z (.c .z (.c .z .n)))) (bU (K:=bD) av aw a6) ?_
 have ah:(aB f.inodes a).length=y4.ents.length∨True:= .inr trivial
 try have ai:(aB f.inodes a).length=y4.ents.length:=by rw [au]
 have aj:=fE (s:=s) ht au
 have ak:(aB f.inodes a).length=af.ents.length∨True:= .inr trivial
 try have al:(aB f.inodes a).length=af.ents.length:=by rw [ag]
 have am:=fE (s:=s) ht ag
 have hlk:aR f.inodes b=1∨bP f.inodes b=0:=by by_cases hk:aR f.inodes b=1;exact .inl hk;exact .inr (kI hI hk)
 refine Y.i (aY rfl .z) (.c .g1 (.c .z (.c .z .n))) ?_
 first |(have hc:=jB (f:=f) (a:=a) (s:=s) (b:=b) (by omega);exact⟨_,_,by rw [hc],by rw [dM (by rw [hc];decide)]⟩) |(have hc:=jD (f:=f) (a:=a) (s:=s) (b:=b) (by omega) (by rintro⟨⟨h1,h2⟩,h3⟩;first | omega |(simp_all;done) |(simp_all;omega));exact⟨_,_,by rw [hc],by rw [dM (by rw [hc];decide)]⟩) |(have hc:=jE (f:=f) (a:=a) (s:=s) (b:=b) (by omega) ⟨⟨by omega,by omega⟩,by omega⟩ (by omega);exact⟨_,_,by rw [hc],by rw [dM (by rw [hc];decide)]⟩) |(have hc:=eN (f:=f) (a:=a) (s:=s) (b:=b) (by omega) ⟨⟨by omega,by omega⟩,by omega⟩ (by omega);exact⟨_,_,by rw [hc],by rw [gJ hc (by omega)]⟩) |(have hc:=eN (f:=f) (a:=a) (s:=s) (b:=b) (by omega) ⟨⟨by omega,by omega⟩,by omega⟩ (by omega);exact⟨_,_,by rw [hc],by rw [gI hc (by omega)]⟩)
 refine Y.skip (Y.g (Y.seq (Y.region (Y.mv rfl (.s16 .g11) (Y.nc rfl .z (Y.fa rfl .z aO (Y.ld rfl bK .z .g5 (Y.mv rfl (.s16 (.s16 .g2)) ?_))))))))
 refine Y.ql rfl (aC (j:=Int.toNat b) rfl cE aU (.t .g1) (.t .z) (by omega) (by first | omega |(simp only [bH,bB,bN];omega))) ?_
 refine Y.fa rfl .z cV (Y.ql rfl (aL rfl cF (.t .z) (WS.h .g4 a6 rfl)) (Y.ql rfl (bZ rfl (.t .z) .c) (Y.as rfl .z (Y.nt (Y.seq (Y.seq (Y.region ?_)))))))
 refine Y.mv rfl (.s16 (.s16 .g5)) (Y.nc rfl .z (Y.fa rfl .z aO (Y.ld rfl bK .z .g5 (Y.mv rfl (.s16 (.s16 .g10)) ?_))))
 refine Y.v (c:=aG bD af [.int .i64 af.kind,.int .i64 af.links,.int .i64 af.size,.slice b3 af.blocks.length b4,.slice b5 af.ents.length b6]) (.c .z (.c .z .n)) (fun w S h=>bF af h) ?_
 refine Y.v (c:=aG aP f.inodes [.slice (some ac) f.inodes.length ar]) (.c .g3 (.c .z (.c .z (.c .z .n)))) (bU (K:=bD) av aw a6) ?_
 refine Y.w (.c .z .n) eC ?_
 rintro cq an
 obtain⟨ae,aq⟩:=aI (xs:=f.inodes) (j:=Int.toNat a) (by first | omega |(simp only [bH,bB,bN];omega))
 obtain⟨f4,a7⟩:=aI (xs:=cq) (j:=Int.toNat a) (by rw [an];exact(List.getElem?_eq_some_iff.1 aq).1)
 refine Y.an .g1 (cW aq a7) ?_
 refine Y.w (.c .z .n) dR ?_
 rintro⟨f5,f6⟩ rfl
 refine Y.h (WS.a .z) ?_
 rintro⟨bj,bk,rfl,ds,dt,du⟩
 refine Y.h (WS.a .g1) ?_
 rintro⟨bm,bn,rfl,dv,dw,dx⟩
 have fg:=cH (i:=a) aq (by omega)
 have ao:=cI (a:=a) aq (by omega)
 have fh:=dC (a:=a) aq (by omega)
 have dy:(aB f.inodes a).length=ae.ents.length:=by rw [ao]
 refine Y.ql rfl (aC (j:=Int.toNat a) rfl cE aU (.t .g1) (.t .z) (by omega) (by first | omega |(simp only [bH,bB,bN];omega))) ?_
 refine Y.fa rfl .z bE (Y.ql rfl (aL rfl dP (.t .z) (WS.h .g4 a7 rfl)) (Y.ql rfl (bM rfl cZ (.t .z)) (Y.ql rfl (lU rfl (.t .z) .c) (Y.mv rfl .z ?_))))
 refine Y.al .z (fun g42=> ?_) (fun g42=> ?_)
 refine Y.j rfl rfl .z rfl rfl (by decide) rfl ?_
 refine Y.j rfl rfl .g1 rfl rfl (by decide) rfl ?_
 refine Y.j rfl rfl .z rfl rfl (by decide) rfl ?_
 refine Y.j rfl rfl .g1 rfl rfl (by decide) rfl ?_
 refine Y.j rfl rfl .g2 rfl rfl (by decide) rfl ?_
 refine Y.j rfl rfl .g3 rfl rfl (by decide) rfl ?_
 refine Y.j rfl rfl .g4 rfl rfl (by decide) rfl ?_
 refine Y.j rfl rfl .g5 rfl rfl (by decide) rfl ?_
 refine Y.j rfl rfl .g6 rfl rfl (by decide) rfl ?_
 refine Y.j rfl rfl .g7 rfl rfl (by decide) rfl ?_
 refine Y.j rfl rfl .g8 rfl rfl (by decide) rfl ?_
 refine Y.j rfl rfl .g11 rfl rfl (by decide) rfl ?_
 refine Y.ql rfl (bO rfl (.t .g12) .c) (Y.nt ?_)
 refine Y.ao (.t .z) ?_
 refine Y.seq (Y.region (Y.er (.s16 (.s16 (.s16 .g12))) (Y.ql rfl (aA rfl .c) (Y.nt (Y.ret (Y.r ?_))))))
 refine Y.v (c:=aG bD ae [.int .i64 ae.kind,.int .i64 ae.links,.int .i64 ae.size,.slice bj ae.blocks.length bk,.slice bm ae.ents.length bn]) (.c .z (.c .z .n)) (fun w S h=>bF ae h) ?_
 refine Y.v (c:=aG aP f.inodes [.slice (some ac) f.inodes.length ar]) (.c .g3 (.c .z (.c .z (.c .z .n)))) (bU (K:=bD) an aq a7) ?_
 have ah:(aB f.inodes a).length=y4.ents.length∨True:= .inr trivial
 try have ai:(aB f.inodes a).length=y4.ents.length:=by rw [au]
 have aj:=fE (s:=s) ht au
 have ak:(aB f.inodes a).length=af.ents.length∨True:= .inr trivial
 try have al:(aB f.inodes a).length=af.ents.length:=by rw [ag]
 have am:=fE (s:=s) ht ag
 have ax:(aB f.inodes a).length=ae.ents.length∨True:= .inr trivial
 try have ay:(aB f.inodes a).length=ae.ents.length:=by rw [ao]
 have az:=fE (s:=s) ht ao
 have hlk:aR f.inodes b=1∨bP f.inodes b=0:=by by_cases hk:aR f.inodes b=1;exact .inl hk;exact .inr (kI hI hk)
 refine Y.i (aY rfl .z) (.c .g1 (.c .z (.c .z .n))) ?_
 first |(have hc:=jB (f:=f) (a:=a) (s:=s) (b:=b) (by omega);exact⟨_,_,by rw [hc],by rw [dM (by rw [hc];decide)]⟩) |(have hc:=jD (f:=f) (a:=a) (s:=s) (b:=b) (by omega) (by rintro⟨⟨h1,h2⟩,h3⟩;first | omega |(simp_all;done) |(simp_all;omega));exact⟨_,_,by rw [hc],by rw [dM (by rw [hc];decide)]⟩) |(have hc:=jE (f:=f) (a:=a) (s:=s) (b:=b) (by omega) ⟨⟨by omega,by omega⟩,by omega⟩ (by omega);exact⟨_,_,by rw [hc],by rw [dM (by rw [hc];decide)]⟩) |(have hc:=eN (f:=f) (a:=a) (s:=s) (b:=b) (by omega) ⟨⟨by omega,by omega⟩,by omega⟩ (by omega);exact⟨_,_,by rw [hc],by rw [gJ hc (by omega)]⟩) |(have hc:=eN (f:=f) (a:=a) (s:=s) (b:=b) (by omega) ⟨⟨by omega,by omega⟩,by omega⟩ (by omega);exact⟨_,_,by rw [hc],by rw [gI hc (by omega)]⟩)
 refine Y.qg rfl rfl .z rfl rfl rfl (aV rfl (.t .g11)) ?_
 refine Y.qg rfl rfl .g1 rfl rfl rfl (aV rfl (.t .z)) ?_
 refine Y.al .z (fun g44=> ?_) (fun g44=> ?_)
 refine Y.qg rfl rfl .z rfl rfl rfl (aV rfl (.t (.s16 (.s16 (.s16 .g2))))) ?_
 refine Y.qg rfl rfl .g1 rfl rfl rfl (eB rfl (.t .z)) ?_
 refine Y.qg rfl rfl .g2 rfl rfl rfl (aK rfl (.t .z) (fun _=>aO _ _)) ?_
 refine Y.qg rfl rfl .g3 rfl rfl rfl (aL rfl bK (.t .z) (WS.g .g5 rfl)) ?_
 refine Y.qg rfl rfl .g4 rfl rfl rfl (aV rfl (.t (.s16 (.s16 (.s16 .g9))))) ?_
 refine Y.v (c:=aG bD ae [.int .i64 ae.kind,.int .i64 ae.links,.int .i64 ae.size,.slice bj ae.blocks.length bk,.slice bm ae.ents.length bn]) (.c .z (.c .z .n)) (fun w S h=>bF ae h) ?_
 refine Y.v (c:=aG aP f.inodes [.slice (some ac) f.inodes.length ar]) (.c .g3 (.c .z (.c .z (.c .z .n)))) (bU (K:=bD) an aq a7) ?_
 refine Y.w (.c .z .n) eC ?_
 rintro cr a0
 obtain⟨ap,a1⟩:=aI (xs:=f.inodes) (j:=Int.toNat b) (by first | omega |(simp only [bH,bB,bN];omega))
 obtain⟨f7,be⟩:=aI (xs:=cr) (j:=Int.toNat b) (by rw [a0];exact(List.getElem?_eq_some_iff.1 a1).1)
 refine Y.an .g1 (cW a1 be) ?_
 refine Y.w (.c .z .n) dR ?_
 rintro⟨f8,f9⟩ rfl
 refine Y.h (WS.a .z) ?_
 rintro⟨b7,b8,rfl,dz,d0,d1⟩
 refine Y.h (WS.a .g1) ?_
 rintro⟨b9,ca,rfl,d2,d3,d4⟩
 have fi:=cH (i:=b) a1 (by omega)
 have a8:=cI (a:=b) a1 (by omega)
 have fj:=dC (a:=b) a1 (by omega)
 have d5:(aB f.inodes b).length=ap.ents.length:=by rw [a8]
 refine Y.qg rfl rfl .g5 rfl rfl rfl (aC (j:=Int.toNat b) rfl cE aU (.t .g1) (.t .z) (by omega) (by first | omega |(simp only [bH,bB,bN];omega))) ?_
 refine Y.qg rfl rfl .g6 rfl rfl rfl (aK rfl (.t .z) (fun _=>gC _ _)) ?_
 refine Y.qg rfl rfl .g7 rfl rfl rfl (aL rfl cF (.t .z) (WS.h .g4 be rfl)) ?_
 refine Y.qg rfl rfl .g8 rfl rfl rfl (lU rfl (.t .z) .c) ?_
 refine Y.qg rfl rfl .g11 rfl rfl rfl (bO rfl (.t .g9) (.t .z)) ?_
 refine Y.ql rfl (bW rfl (.t .g12) (.t .z)) (Y.nt ?_)
 refine Y.u (.t .z) (fun fk=> ?_) (fun fk=> ?_)
 refine Y.seq (Y.region (Y.er (.s16 (.s16 (.s16 .g12))) (Y.ql rfl (aA rfl .c) (Y.nt (Y.ret (Y.r ?_))))))
 refine Y.v (c:=aG bD ap [.int .i64 ap.kind,.int .i64 ap.links,.int .i64 ap.size,.slice b7 ap.blocks.length b8,.slice b9 ap.ents.length ca]) (.c .z (.c .z .n)) (fun w S h=>bF ap h) ?_
 refine Y.v (c:=aG aP f.inodes [.slice (some ac) f.inodes.length ar]) (.c .g3 (.c .z (.c .z (.c .z .n)))) (bU (K:=bD) a0 a1 be) ?_
 have ah:(aB f.inodes a).length=y4.ents.length∨True:= .inr trivial
 try have ai:(aB f.inodes a).length=y4.ents.length:=by rw [au]
 have aj:=fE (s:=s) ht au
 have ak:(aB f.inodes a).length=af.ents.length∨True:= .inr trivial
 try have al:(aB f.inodes a).length=af.ents.length:=by rw [ag]
 have am:=fE (s:=s) ht ag
 have ax:(aB f.inodes a).length=ae.ents.length∨True:= .inr trivial
 try have ay:(aB f.inodes a).length=ae.ents.length:=by rw [ao]
 have az:=fE (s:=s) ht ao
 have bo:(aB f.inodes a).length=ap.ents.length∨True:= .inr trivial
 try have bp:(aB f.inodes a).length=ap.ents.length:=by rw [a8]
 have bq:=fE (s:=s) ht a8
 have hlk:aR f.inodes b=1∨bP f.inodes b=0:=by by_cases hk:aR f.inodes b=1;exact .inl hk;exact .inr (kI hI hk)
 refine Y.i (aY rfl .z) (.c .g1 (.c .z (.c .z .n))) ?_
 first |(have hc:=jB (f:=f) (a:=a) (s:=s) (b:=b) (by omega);exact⟨_,_,by rw [hc],by rw [dM (by rw [hc];decide)]⟩) |(have hc:=jD (f:=f) (a:=a) (s:=s) (b:=b) (by omega) (by rintro⟨⟨h1,h2⟩,h3⟩;first | omega |(simp_all;done) |(simp_all;omega));exact⟨_,_,by rw [hc],by rw [dM (by rw [hc];decide)]⟩) |(have hc:=jE (f:=f) (a:=a) (s:=s) (b:=b) (by omega) ⟨⟨by omega,by omega⟩,by omega⟩ (by omega);exact⟨_,_,by rw [hc],by rw [dM (by rw [hc];decide)]⟩) |(have hc:=eN (f:=f) (a:=a) (s:=s) (b:=b) (by omega) ⟨⟨by omega,by omega⟩,by omega⟩ (by omega);exact⟨_,_,by rw [hc],by rw [gJ hc (by omega)]⟩) |(have hc:=eN (f:=f) (a:=a) (s:=s) (b:=b) (by omega) ⟨⟨by omega,by omega⟩,by omega⟩ (by omega);exact⟨_,_,by rw [hc],by rw [gI hc (by omega)]⟩)
 refine Y.skip (Y.g (Y.seq ?_))
 refine Y.v (c:=aG bD ap [.int .i64 ap.kind,.int .i64 ap.links,.int .i64 ap.size,.slice b7 ap.blocks.length b8,.slice b9 ap.ents.length ca]) (.c .z (.c .z .n)) (fun w S h=>bF ap h) ?_
 refine Y.v (c:=aG aP f.inodes [.slice (some ac) f.inodes.length ar]) (.c .g3 (.c .z (.c .z (.c .z .n)))) (bU (K:=bD) a0 a1 be) ?_
 refine Y.w (.c .z .n) eC ?_
 rintro cb a9
 obtain⟨aa,a2⟩:=aI (xs:=f.inodes) (j:=Int.toNat a) (by first | omega |(simp only [bH,bB,bN];omega))
 obtain⟨ga,br⟩:=aI (xs:=cb) (j:=Int.toNat a) (by rw [a9];exact(List.getElem?_eq_some_iff.1 a2).1)
 refine Y.an .g1 (cW a2 br) ?_
 refine Y.w (.c .z .n) dR ?_
 rintro⟨gb,gc⟩ rfl
 refine Y.h (WS.a .z) ?_
 rintro⟨cc,cd,rfl,d6,d7,d8⟩
 refine Y.h (WS.a .g1) ?_
 rintro⟨fl,fm,rfl,d9,ea,eb⟩
 have fn:=cH (i:=a) a2 (by omega)
 have bf:=cI (a:=a) a2 (by omega)
 have fo:=dC (a:=a) a2 (by omega)
 have ec:(aB f.inodes a).length=aa.ents.length:=by rw [bf]
 refine Y.sel (.c .z (.c .z (.c .g4 (.c .z (.c .z (.c .z (.c .z .n))))))) ?_
 refine Y.dr .g3 19 gG ?_
 refine Y.sc (qs 0 16++ [(16,false),(17,false),(18,true),(19,false)]) (by kernel_rfl) ?_
 refine Y.dm rfl rfl .g3 (.s16 (.s16 (.s16 .g13))) (Y.dn rfl rfl .g3 .z (Y.df rfl rfl .g3 .z aO (Y.dl rfl rfl .g3 bK .z .g3 (Y.dk rfl rfl .g3 (aV rfl (.t (.s16 (.s16 (.s16 (.s16 .g2)))))) (Y.dk rfl rfl .g3 (aV rfl (.t (.s16 (.s16 (.s16 (.s16 .g2)))))) (Y.dn rfl rfl .g3 .z (Y.df rfl rfl .g3 .z aO (Y.dl rfl rfl .g3 bK .z .g3 ?_))))))))
 refine Y.dk rfl rfl .g3 (aV rfl (.t (.s16 (.s16 (.s16 (.s16 .g7)))))) ?_
 refine Y.dk rfl rfl .g3 (aC (j:=Int.toNat a) rfl cE aU (.t .g1) (.t .z) (by omega) (by first | omega |(simp only [bH,bB,bN];omega))) ?_
 refine Y.df rfl rfl .g3 .z bE (Y.dk rfl rfl .g3 (aL rfl dP (.t .z) (WS.h .g2 br rfl)) (Y.dk rfl rfl .g3 (aV rfl (.t (.s16 (.s16 (.s16 (.s16 .g12)))))) (Y.dk rfl rfl .g3 (aV rfl (.t (.s16 (.s16 (.s16 (.s16 .g14)))))) (Y.dk rfl rfl .g3 (aZ (cs:= [.string s,.int .i64 b]) rfl pI (pv2 (.t .g1) (.t .z)) rfl) ?_))))
 refine Y.call (aE rfl rfl) rfl (by decide) rfl (bS rfl Tryz.func128 rfl rfl (aX (.t .g3) (.t .z))) .n (fun _ _ hs tr=>yZ (tr.own .g1) (nU (⟨s,b⟩:aQ) (by assumption)) (by omega)) ?_
 rintro _ _ rfl
 refine Y.m (.c .n) ?_
 refine Y.h (WS.a .z) ?_
 rintro⟨bs,bt,rfl,ed,ee,ef⟩
 refine Y.sk .g4 ?_
 refine Y.q (aE rfl rfl) rfl (by decide) rfl (aC (j:=Int.toNat a) rfl cE aU (.t .g13) (.t .g12) (by omega) (by first | omega |(simp only [bH,bB,bN];omega))) ?_
 refine Y.sk .g4 ?_
 refine Y.df rfl rfl .g4 .z bE ?_
 refine Y.es (aE rfl rfl) rfl (gY (j:=Int.toNat a) (off:=4) (cs:= [.slice bs (dL aa.ents (⟨s,b⟩:aQ)).length bt]) rfl nC (.t .z) (gA _ _ _) (.t .g2) rfl (lZ rfl) .g6 br (Nat.le_of_ble_eq_true rfl)) ?_
 refine Y.af (x':=List.set cb (Int.toNat a) [.int .i64 aa.kind,.int .i64 aa.links,.int .i64 aa.size,.slice cc aa.blocks.length cd,.slice bs (dL aa.ents (⟨s,b⟩:aQ)).length bt]) .z rfl ?_
 refine Y.sl rfl ?_
 refine Y.aa ?_
 refine Y.ag (by kernel_rfl) ?_
 refine Y.g (Y.seq (Y.seq (Y.region (Y.mv rfl (.s16 (.s16 .g11)) (Y.nt ?_)))))
 refine Y.u (.t .z) (fun fp=> ?_) (fun fp=> ?_)
 refine Y.region (Y.ql rfl (aV rfl (.t (.s16 (.s16 (.s16 (.s16 (.s16 .g1))))))) (Y.nc rfl .z (Y.fa rfl .z aO (Y.ld rfl bK .z .g7 (Y.ql rfl (aV rfl (.t (.s16 (.s16 (.s16 (.s16 (.s16 .g8))))))) ?_)))))
 refine Y.v (c:=aG bD (⟨aa.kind,aa.links,aa.size,aa.blocks,dL aa.ents (⟨s,b⟩:aQ)⟩:aF) [.int .i64 aa.kind,.int .i64 aa.links,.int .i64 aa.size,.slice cc aa.blocks.length cd,.slice bs (dL aa.ents (⟨s,b⟩:aQ)).length bt]) (.c .g2 (.c .g1 .n)) (fun w S h=>bF (⟨aa.kind,aa.links,aa.size,aa.blocks,dL aa.ents (⟨s,b⟩:aQ)⟩:aF) h) ?_
 refine Y.v (c:=aG aP (List.set f.inodes (Int.toNat a) (⟨aa.kind,aa.links,aa.size,aa.blocks,dL aa.ents (⟨s,b⟩:aQ)⟩:aF)) [.slice (some ac) f.inodes.length ar]) (.c .g1 (.c .z (.c .g2 (.c .g2 .n)))) (dQ (K:=bD) a9 (List.getElem?_eq_some_iff.1 a2).1 rfl) ?_
 have ct:List.set f.inodes (Int.toNat a) (⟨aa.kind,aa.links,aa.size,aa.blocks,dL aa.ents (⟨s,b⟩:aQ)⟩:aF)=eD f.inodes a (dL (aB f.inodes a) ⟨s,b⟩):=(by rw [bf];exact nD a2 (by omega))
 refine Y.ak .z (congrArg (fun z_=>(aG aP (z_) [.slice (some ac) f.inodes.length ar]:Asn)) ct) ?_
 refine Y.w (.c .z .n) eC ?_
 rintro ce ba
 obtain⟨ad,a4⟩:=aI (xs:=eD f.inodes a (dL (aB f.inodes a) ⟨s,b⟩)) (j:=Int.toNat b) (by first | omega |(simp only [bH,bB,bN];omega))
 obtain⟨gd,bu⟩:=aI (xs:=ce) (j:=Int.toNat b) (by rw [ba];exact(List.getElem?_eq_some_iff.1 a4).1)
 refine Y.an .g1 (cW a4 bu) ?_
 refine Y.w (.c .z .n) dR ?_
 rintro⟨ge,gf⟩ rfl
 refine Y.h (WS.a .z) ?_
 rintro⟨cf,cg,rfl,eg,eh,ei⟩
 refine Y.h (WS.a .g1) ?_
 rintro⟨ch,ci,rfl,ej,ek,em⟩
 have hTl:(eD f.inodes a (dL (aB f.inodes a) ⟨s,b⟩)).length=f.inodes.length:=bB
 have hTk:aR (eD f.inodes a (dL (aB f.inodes a) ⟨s,b⟩)) b=aR f.inodes b:=lE
 have hTn:bP (eD f.inodes a (dL (aB f.inodes a) ⟨s,b⟩)) b=bP f.inodes b:=oS
 have hLb:(0≤bP f.inodes b∧bP f.inodes b≤60)∨aR f.inodes b≠1:=by by_cases hk:aR f.inodes b=1;exact .inl (by have:=aCu hI hk;omega);exact .inr hk
 have kT:=cH (i:=b) a4 (by omega)
 have lT:=dC (a:=b) a4 (by omega)
 refine Y.ql rfl (aC (j:=Int.toNat b) rfl cE aU (.t .g1) (.t .z) (by omega) (by first | omega |(simp only [bH,bB,bN];omega))) ?_
 refine Y.fa rfl .z gC (Y.ql rfl (aL rfl cF (.t .z) (WS.h .g4 bu rfl)) ?_)
 refine Y.ql rfl (bQ (c:=ad.links+1) rfl (.t .z) .c (wr (by omega) (by omega) (by omega))) ?_
 refine Y.ql rfl (aC (j:=Int.toNat b) rfl cE aU (.t .g5) (.t .g4) (by omega) (by first | omega |(simp only [bH,bB,bN];omega))) ?_
 refine Y.fa rfl .z gC ?_
 refine Y.es (aD rfl) rfl (gY (j:=Int.toNat b) (off:=1) (cs:= [.int .i64 (ad.links+1)]) rfl jQ (.t .z) (gA _ _ _) (.t .g2) rfl (lZ rfl) .g4 bu (Nat.le_of_ble_eq_true rfl)) ?_
 refine Y.af (x':=List.set ce (Int.toNat b) [.int .i64 ad.kind,.int .i64 (ad.links+1),.int .i64 ad.size,.slice cf ad.blocks.length cg,.slice ch ad.ents.length ci]) .z rfl ?_
 refine Y.nt (Y.seq (Y.region (Y.er (.s16 (.s16 (.s16 (.s16 (.s16 .g11))))) (Y.ql rfl (aA rfl .c) (Y.nt (Y.ret ?_))))))
 refine Y.v (c:=aG bD (⟨ad.kind,ad.links+1,ad.size,ad.blocks,ad.ents⟩:aF) [.int .i64 ad.kind,.int .i64 (ad.links+1),.int .i64 ad.size,.slice cf ad.blocks.length cg,.slice ch ad.ents.length ci]) (.c .g1 (.c .g1 .n)) (fun w S h=>bF (⟨ad.kind,ad.links+1,ad.size,ad.blocks,ad.ents⟩:aF) h) ?_
 refine Y.v (c:=aG aP (List.set (eD f.inodes a (dL (aB f.inodes a) ⟨s,b⟩)) (Int.toNat b) (⟨ad.kind,ad.links+1,ad.size,ad.blocks,ad.ents⟩:aF)) [.slice (some ac) f.inodes.length ar]) (.c .g1 (.c .z (.c .z (.c .z .n)))) (dQ (K:=bD) ba (List.getElem?_eq_some_iff.1 a4).1 rfl) ?_
 have ah:(aB f.inodes a).length=y4.ents.length∨True:= .inr trivial
 try have ai:(aB f.inodes a).length=y4.ents.length:=by rw [au]
 have aj:=fE (s:=s) ht au
 have ak:(aB f.inodes a).length=af.ents.length∨True:= .inr trivial
 try have al:(aB f.inodes a).length=af.ents.length:=by rw [ag]
 have am:=fE (s:=s) ht ag
 have ax:(aB f.inodes a).length=ae.ents.length∨True:= .inr trivial
 try have ay:(aB f.inodes a).length=ae.ents.length:=by rw [ao]
 have az:=fE (s:=s) ht ao
 have bo:(aB f.inodes a).length=ap.ents.length∨True:= .inr trivial
 try have bp:(aB f.inodes a).length=ap.ents.length:=by rw [a8]
 have bq:=fE (s:=s) ht a8
 have cu:(aB f.inodes a).length=aa.ents.length∨True:= .inr trivial
 try have cv:(aB f.inodes a).length=aa.ents.length:=by rw [bf]
 have cw:=fE (s:=s) ht bf
 have hlk:aR f.inodes b=1∨bP f.inodes b=0:=by by_cases hk:aR f.inodes b=1;exact .inl hk;exact .inr (kI hI hk)
 have cx:List.set (eD f.inodes a (dL (aB f.inodes a) ⟨s,b⟩)) (Int.toNat b) (⟨ad.kind,ad.links+1,ad.size,ad.blocks,ad.ents⟩:aF)=eO (eD f.inodes a (dL (aB f.inodes a) ⟨s,b⟩)) b (bP f.inodes b+1):=(by rw [←hTn,lT];exact oF a4 (by omega))
 refine Y.ak .z (congrArg (fun z_=>(aG aP (z_) [.slice (some ac) f.inodes.length ar]:Asn)) cx) ?_
 refine Y.i (aY rfl .z) (.c .g3 (.c .z (.c .g1 .n))) ?_
 first |(have hc:=jB (f:=f) (a:=a) (s:=s) (b:=b) (by omega);exact⟨_,_,by rw [hc],by rw [dM (by rw [hc];decide)]⟩) |(have hc:=jD (f:=f) (a:=a) (s:=s) (b:=b) (by omega) (by rintro⟨⟨h1,h2⟩,h3⟩;first | omega |(simp_all;done) |(simp_all;omega));exact⟨_,_,by rw [hc],by rw [dM (by rw [hc];decide)]⟩) |(have hc:=jE (f:=f) (a:=a) (s:=s) (b:=b) (by omega) ⟨⟨by omega,by omega⟩,by omega⟩ (by omega);exact⟨_,_,by rw [hc],by rw [dM (by rw [hc];decide)]⟩) |(have hc:=eN (f:=f) (a:=a) (s:=s) (b:=b) (by omega) ⟨⟨by omega,by omega⟩,by omega⟩ (by omega);exact⟨_,_,by rw [hc],by rw [gJ hc (by omega)]⟩) |(have hc:=eN (f:=f) (a:=a) (s:=s) (b:=b) (by omega) ⟨⟨by omega,by omega⟩,by omega⟩ (by omega);exact⟨_,_,by rw [hc],by rw [gI hc (by omega)]⟩)
 exfalso;first | omega | contradiction
 refine Y.j rfl rfl .z rfl rfl (by decide) rfl ?_
 refine Y.j rfl rfl .g1 rfl rfl (by decide) rfl ?_
 refine Y.j rfl rfl .g2 rfl rfl (by decide) rfl ?_
 refine Y.j rfl rfl .g3 rfl rfl (by decide) rfl ?_
 refine Y.j rfl rfl .g4 rfl rfl (by decide) rfl ?_
 refine Y.j rfl rfl .g5 rfl rfl (by decide) rfl ?_
 refine Y.j rfl rfl .g6 rfl rfl (by decide) rfl ?_
 refine Y.j rfl rfl .g7 rfl rfl (by decide) rfl ?_
 refine Y.j rfl rfl .g8 rfl rfl (by decide) rfl ?_
 refine Y.qg rfl rfl .g11 rfl rfl rfl (bW rfl (.t .g9) .c) ?_
 refine Y.ql rfl (bW rfl (.t .g12) (.t .z)) (Y.nt ?_)
 refine Y.ar (.t .z) ?_
 refine Y.skip (Y.g (Y.seq ?_))
 refine Y.v (c:=aG bD ae [.int .i64 ae.kind,.int .i64 ae.links,.int .i64 ae.size,.slice bj ae.blocks.length bk,.slice bm ae.ents.length bn]) (.c .z (.c .z .n)) (fun w S h=>bF ae h) ?_
 refine Y.v (c:=aG aP f.inodes [.slice (some ac) f.inodes.length ar]) (.c .g3 (.c .z (.c .z (.c .z .n)))) (bU (K:=bD) an aq a7) ?_
 refine Y.w (.c .z .n) eC ?_
 rintro cj bb
 obtain⟨ab,a3⟩:=aI (xs:=f.inodes) (j:=Int.toNat a) (by first | omega |(simp only [bH,bB,bN];omega))
 obtain⟨gg,bv⟩:=aI (xs:=cj) (j:=Int.toNat a) (by rw [bb];exact(List.getElem?_eq_some_iff.1 a3).1)
 refine Y.an .g1 (cW a3 bv) ?_
 refine Y.w (.c .z .n) dR ?_
 rintro⟨gh,gi⟩ rfl
 refine Y.h (WS.a .z) ?_
 rintro⟨ck,cm,rfl,en,eo,ep⟩
 refine Y.h (WS.a .g1) ?_
 rintro⟨fq,fr,rfl,et,eu,ew⟩
 have ft:=cH (i:=a) a3 (by omega)
 have bg:=cI (a:=a) a3 (by omega)
 have fu:=dC (a:=a) a3 (by omega)
 have ey:(aB f.inodes a).length=ab.ents.length:=by rw [bg]
 refine Y.sel (.c .z (.c .z (.c .g4 (.c .z (.c .z (.c .z (.c .z .n))))))) ?_
 refine Y.dr .g3 19 gG ?_
 refine Y.sc (qs 0 16++ [(16,false),(17,false),(18,true),(19,false)]) (by kernel_rfl) ?_
 refine Y.dm rfl rfl .g3 (.s16 (.s16 (.s16 .g13))) (Y.dn rfl rfl .g3 .z (Y.df rfl rfl .g3 .z aO (Y.dl rfl rfl .g3 bK .z .g3 (Y.dk rfl rfl .g3 (aV rfl (.t (.s16 (.s16 (.s16 (.s16 .g2)))))) (Y.dk rfl rfl .g3 (aV rfl (.t (.s16 (.s16 (.s16 (.s16 .g2)))))) (Y.dn rfl rfl .g3 .z (Y.df rfl rfl .g3 .z aO (Y.dl rfl rfl .g3 bK .z .g3 ?_))))))))
 refine Y.dk rfl rfl .g3 (aV rfl (.t (.s16 (.s16 (.s16 (.s16 .g7)))))) ?_
 refine Y.dk rfl rfl .g3 (aC (j:=Int.toNat a) rfl cE aU (.t .g1) (.t .z) (by omega) (by first | omega |(simp only [bH,bB,bN];omega))) ?_
 refine Y.df rfl rfl .g3 .z bE (Y.dk rfl rfl .g3 (aL rfl dP (.t .z) (WS.h .g2 bv rfl)) (Y.dk rfl rfl .g3 (aV rfl (.t (.s16 (.s16 (.s16 (.s16 .g12)))))) (Y.dk rfl rfl .g3 (aV rfl (.t (.s16 (.s16 (.s16 (.s16 .g14)))))) (Y.dk rfl rfl .g3 (aZ (cs:= [.string s,.int .i64 b]) rfl pI (pv2 (.t .g1) (.t .z)) rfl) ?_))))
 refine Y.call (aE rfl rfl) rfl (by decide) rfl (bS rfl Tryz.func128 rfl rfl (aX (.t .g3) (.t .z))) .n (fun _ _ hs tr=>yZ (tr.own .g1) (nU (⟨s,b⟩:aQ) (by assumption)) (by omega)) ?_
 rintro _ _ rfl
 refine Y.m (.c .n) ?_
 refine Y.h (WS.a .z) ?_
 rintro⟨bc,bd,rfl,cy,cz,c0⟩
 refine Y.sk .g4 ?_
 refine Y.q (aE rfl rfl) rfl (by decide) rfl (aC (j:=Int.toNat a) rfl cE aU (.t .g13) (.t .g12) (by omega) (by first | omega |(simp only [bH,bB,bN];omega))) ?_
 refine Y.sk .g4 ?_
 refine Y.df rfl rfl .g4 .z bE ?_
 refine Y.es (aE rfl rfl) rfl (gY (j:=Int.toNat a) (off:=4) (cs:= [.slice bc (dL ab.ents (⟨s,b⟩:aQ)).length bd]) rfl nC (.t .z) (gA _ _ _) (.t .g2) rfl (lZ rfl) .g6 bv (Nat.le_of_ble_eq_true rfl)) ?_
 refine Y.af (x':=List.set cj (Int.toNat a) [.int .i64 ab.kind,.int .i64 ab.links,.int .i64 ab.size,.slice ck ab.blocks.length cm,.slice bc (dL ab.ents (⟨s,b⟩:aQ)).length bd]) .z rfl ?_
 refine Y.sl rfl ?_
 refine Y.aa ?_
 refine Y.ag (by kernel_rfl) ?_
 refine Y.g (Y.seq (Y.seq (Y.region (Y.mv rfl (.s16 (.s16 .g11)) (Y.nt ?_)))))
 refine Y.u (.t .z) (fun c1=> ?_) (fun c1=> ?_)
 exfalso;first | omega | contradiction
 refine Y.skip (Y.g (Y.seq (Y.region (Y.er (.s16 (.s16 (.s16 (.s16 .g16)))) (Y.ql rfl (aA rfl .c) (Y.nt (Y.ret ?_)))))))
 refine Y.v (c:=aG bD (⟨ab.kind,ab.links,ab.size,ab.blocks,dL ab.ents (⟨s,b⟩:aQ)⟩:aF) [.int .i64 ab.kind,.int .i64 ab.links,.int .i64 ab.size,.slice ck ab.blocks.length cm,.slice bc (dL ab.ents (⟨s,b⟩:aQ)).length bd]) (.c .g2 (.c .g1 .n)) (fun w S h=>bF (⟨ab.kind,ab.links,ab.size,ab.blocks,dL ab.ents (⟨s,b⟩:aQ)⟩:aF) h) ?_
 refine Y.v (c:=aG aP (List.set f.inodes (Int.toNat a) (⟨ab.kind,ab.links,ab.size,ab.blocks,dL ab.ents (⟨s,b⟩:aQ)⟩:aF)) [.slice (some ac) f.inodes.length ar]) (.c .g1 (.c .z (.c .g2 (.c .g2 .n)))) (dQ (K:=bD) bb (List.getElem?_eq_some_iff.1 a3).1 rfl) ?_
 have cn:List.set f.inodes (Int.toNat a) (⟨ab.kind,ab.links,ab.size,ab.blocks,dL ab.ents (⟨s,b⟩:aQ)⟩:aF)=eD f.inodes a (dL (aB f.inodes a) ⟨s,b⟩):=(by rw [bg];exact nD a3 (by omega))
 refine Y.ak .z (congrArg (fun z_=>(aG aP (z_) [.slice (some ac) f.inodes.length ar]:Asn)) cn) ?_
 have ah:(aB f.inodes a).length=y4.ents.length∨True:= .inr trivial
 try have ai:(aB f.inodes a).length=y4.ents.length:=by rw [au]
 have aj:=fE (s:=s) ht au
 have ak:(aB f.inodes a).length=af.ents.length∨True:= .inr trivial
 try have al:(aB f.inodes a).length=af.ents.length:=by rw [ag]
 have am:=fE (s:=s) ht ag
 have ax:(aB f.inodes a).length=ae.ents.length∨True:= .inr trivial
 try have ay:(aB f.inodes a).length=ae.ents.length:=by rw [ao]
 have az:=fE (s:=s) ht ao
 have c2:(aB f.inodes a).length=ab.ents.length∨True:= .inr trivial
 try have c3:(aB f.inodes a).length=ab.ents.length:=by rw [bg]
 have c4:=fE (s:=s) ht bg
 have hlk:aR f.inodes b=1∨bP f.inodes b=0:=by by_cases hk:aR f.inodes b=1;exact .inl hk;exact .inr (kI hI hk)
 refine Y.i (aY rfl .z) (.c .g3 (.c .z (.c .g1 .n))) ?_
 first |(have hc:=jB (f:=f) (a:=a) (s:=s) (b:=b) (by omega);exact⟨_,_,by rw [hc],by rw [dM (by rw [hc];decide)]⟩) |(have hc:=jD (f:=f) (a:=a) (s:=s) (b:=b) (by omega) (by rintro⟨⟨h1,h2⟩,h3⟩;first | omega |(simp_all;done) |(simp_all;omega));exact⟨_,_,by rw [hc],by rw [dM (by rw [hc];decide)]⟩) |(have hc:=jE (f:=f) (a:=a) (s:=s) (b:=b) (by omega) ⟨⟨by omega,by omega⟩,by omega⟩ (by omega);exact⟨_,_,by rw [hc],by rw [dM (by rw [hc];decide)]⟩) |(have hc:=eN (f:=f) (a:=a) (s:=s) (b:=b) (by omega) ⟨⟨by omega,by omega⟩,by omega⟩ (by omega);exact⟨_,_,by rw [hc],by rw [gJ hc (by omega)]⟩) |(have hc:=eN (f:=f) (a:=a) (s:=s) (b:=b) (by omega) ⟨⟨by omega,by omega⟩,by omega⟩ (by omega);exact⟨_,_,by rw [hc],by rw [gI hc (by omega)]⟩)

theorem aH6 {w0:World}{S0:Bs}{f:DFs}{a1:Addr} (h0:gP eU w0 (FF w0 S0) a1 f) {x:(List ByteArray)}{v1:Value} (h1:fB.ro w0 (FF w0 S0) x [v1]) (ht:J0 f):
    Calls Tryz.prog 195 #[.pointer (some a1),v1] w0 (aJ w0 S0 (fun r l=>r= .tuple #[.int .i64 (wkC f.inodes 0 x).1,.int .i64 (wkC f.inodes 0 x).2]∧l= [])):=by
 obtain⟨cc,a2,bv,a3⟩:=id h0
 obtain⟨bw,bx,rfl,a4,a5⟩:=cY bv
 obtain⟨bz,b0,rfl,bf,bg,bh,al⟩:=aH a4
 obtain⟨b1,b2,rfl,bi,bj,bk,bm⟩:=aH a5
 obtain⟨A1,c1,rfl,cd,ce,cf,b3⟩:=aH h1
 have hI:=ht
 have cg:=jV ht
 refine Y.enter (N:=52) Tryz.func195 rfl rfl (by simp) [(0,.pointer (some a1)),(1,.slice A1 x.length c1)] (by simp) (l0:= []) trivial ?_
 refine Y.seq (Y.region (Y.ql rfl (aA rfl .c) (Y.ql rfl (aA rfl .c) (Y.nt (Y.seq (Y.region (Y.ql rfl (aA rfl .c) ?_)))))))
 refine Y.nt (Y.seq (Y.seq (Y.region (Y.ql rfl (aA rfl .c) (Y.nt (Y.block ?_))))))
 refine Y.aj (γ:=Nat×Int) (fun⟨k,a⟩=> [(7,.int .i64 (k:Int)),(6,.int .i64 a),(0,.pointer (some a1)),(1,.slice A1 x.length c1)]) (fun⟨k,a⟩=> []) (fun⟨k,a⟩=>k≤x.length∧bR f.inodes.length a∧wkC f.inodes 0 x=wkC f.inodes a (x.drop k)) (fun⟨k,a⟩=>x.length - k) (0,0) ⟨Nat.zero_le _,jV ht,rfl⟩ (.c .z (.c .g1 (.c .g4 (.c .g5 .n)))) (fun _ h=>h) ?_
 rintro⟨k,a⟩ ⟨hk,hpa,hwk⟩
 obtain⟨ch,ci⟩:=hpa
 have hor:=fun s:ByteArray=>fE (s:=s) (a:=a) ht rfl
 refine Y.seq (Y.seq (Y.region (Y.mv rfl .z (Y.mv rfl .g4 (Y.ql rfl (bM rfl hZ (.t .z)) (Y.ql rfl (dJ rfl (.t .g2) (.t .z)) (Y.nt ?_)))))))
 refine Y.u (.t .z) (fun b4=> ?_) (fun b4=> ?_)
 refine Y.skip (Y.g (Y.seq (Y.block (Y.seq (Y.seq (Y.region (Y.mv rfl .g6 (Y.nc rfl .z ?_))))))))
 refine Y.fa rfl .z aO (Y.le rfl bK .z a2 a3 (Y.mv rfl .g9 ?_))
 obtain⟨cj,am,an⟩:=al (by omega)
 subst am
 obtain⟨x6,ao⟩:=aI (xs:=f.inodes) (j:=Int.toNat a) (by first | omega)
 obtain⟨b5,a6,ac,ad⟩:=an.elem ao
 obtain⟨bn,bo,rfl,ap,aa⟩:=cK a6
 obtain⟨bp,bq,rfl,a7,a8,a9,ba⟩:=aH ap
 obtain⟨br,bs,rfl,bb,bc,bd,ae⟩:=aH aa
 have ck:=cH (i:=a) ao (by omega)
 have aq:=cI (a:=a) ao (by omega)
 have cm:=dC (a:=a) ao (by omega)
 have cn:=wH (a:=a) ao (by omega)
 refine Y.ql rfl (aC (j:=Int.toNat a) rfl cE aU (.t .g1) (.t .z) (by omega) (by first | omega)) ?_
 refine Y.fa rfl .z cV (Y.le rfl cF .z ac ad (Y.ql rfl (cU rfl (.t .z) .c) (Y.nt ?_)))
 refine Y.ad (.t .z) (fun b6=> ?_) (fun b6=> ?_)
 refine Y.seq (Y.region (Y.ql rfl (aA rfl .c) (Y.ql rfl (aA rfl .c) (Y.nt (Y.ret (Y.r (Y.y ?_)))))))
 refine Y.r (Y.r (Y.y (Y.r ?_)))
 refine Y.i (qB rfl .g1 .z) .n ?_
 obtain⟨zn,hzn⟩:=aI (xs:=x) (j:=k) (by omega);rw [hwk,aLy hzn (by omega)];exact⟨rfl,rfl⟩
 refine Y.skip (Y.g (Y.seq ?_))
 refine Y.dr .z 13 gG ?_
 refine Y.sc (qs 0 12++ [(12,false),(13,false)]) (by kernel_rfl) ?_
 refine Y.dm rfl rfl .z .g15 (Y.dn rfl rfl .z .z (Y.df rfl rfl .z .z aO (Y.de rfl rfl .z bK .z a2 a3 (Y.dm rfl rfl .z (.s16 .g2) ?_))))
 refine Y.dk rfl rfl .z (aC (j:=Int.toNat a) rfl cE aU (.t .g1) (.t .z) (by omega) (by first | omega)) ?_
 refine Y.df rfl rfl .z .z bE (Y.de rfl rfl .z dP .z ac ad (Y.dm rfl rfl .z (.s16 .g8) (Y.dm rfl rfl .z (.s16 .g6) ?_)))
 obtain⟨b7,af,ag⟩:=b3 (by omega)
 subst af
 obtain⟨ab,ah⟩:=aI (xs:=x) (j:=k) (by first | omega)
 obtain⟨bt,ar,au,av⟩:=ag.elem ah
 obtain⟨rfl,b8⟩:=ar
 refine Y.dk rfl rfl .z (aC (j:=k) rfl hZ tF (.t .g1) (.t .z) rfl (by first | omega)) ?_
 refine Y.dk rfl rfl .z (aL rfl iR (.t .z) (WS.j au av rfl)) ?_
 refine Y.call (aE rfl rfl) rfl (by decide) rfl (bS rfl Tryz.func127 rfl rfl (aX (.t .g4) (.t .z))) .n (fun _ _ hs tr=>rJ (tr.ctx aa) _ (by first | assumption | omega)) ?_
 rintro _ _ ⟨rfl,rfl⟩
 refine Y.m .n ?_
 refine Y.sk .z ?_
 refine Y.q (aE rfl rfl) rfl (by decide) rfl (aA rfl (.t .z)) ?_
 refine Y.sl rfl ?_
 refine Y.aa ?_
 refine Y.ag (by kernel_rfl) ?_
 refine Y.g (Y.seq (Y.seq (Y.region (Y.mv rfl .z (Y.ql rfl (dJ rfl (.t .z) .c) (Y.nt ?_))))))
 refine Y.u (.t .z) (fun b9=> ?_) (fun b9=> ?_)
 have aw:=fE (s:=ab) (a:=a) ht aq
 have ax:=gN (cA ab) x6.ents
 refine Y.seq (Y.region (Y.ql rfl (aA rfl .c) (Y.ql rfl (aA rfl .c) (Y.nt (Y.ret (Y.r (Y.y ?_)))))))
 refine Y.r (Y.r (Y.y (Y.r ?_)))
 refine Y.i (qB rfl .g1 .z) .n ?_
 have h9:=fE (s:=ab) (a:=a) ht aq;have h8:=hor ab;rw [hwk,aMp ah (by omega) (by omega)];exact⟨rfl,rfl⟩
 have aw:=fE (s:=ab) (a:=a) ht aq
 have ax:=gN (cA ab) x6.ents
 refine Y.skip (Y.g (Y.region (Y.mv rfl (.s16 .g15) (Y.nc rfl .z (Y.fa rfl .z aO (Y.le rfl bK .z a2 a3 (Y.mv rfl (.s16 (.s16 .g2)) ?_)))))))
 refine Y.ql rfl (aC (j:=Int.toNat a) rfl cE aU (.t .g1) (.t .z) (by omega) (by first | omega)) ?_
 refine Y.fa rfl .z bE (Y.le rfl dP .z ac ad (Y.mv rfl .g10 ?_))
 obtain⟨ca,ai,aj⟩:=ae (by omega)
 subst ai
 obtain⟨cb,ak⟩:=aI (xs:=x6.ents) (j:=Int.toNat (eS (cA ab) x6.ents)) (by first | omega)
 obtain⟨bu,ay,az,a0⟩:=aj.elem ak
 obtain⟨rfl,be⟩:=eR ay
 refine Y.ql rfl (aC (j:=Int.toNat (eS (cA ab) x6.ents)) rfl cZ dV (.t .g1) (.t .z) (by omega) (by first | omega)) ?_
 refine Y.fa rfl .z iX (Y.le rfl cF .z az a0 (Y.er (.s16 (.s16 .g10)) (Y.as rfl .z (Y.nil (Y.ac (Y.g (Y.region (Y.mv rfl (.s16 (.s16 .g10)) ?_))))))))
 refine Y.ql rfl (bQ (c:=((k+1:Nat):Int)) rfl (.t .z) .c (wr (by omega) (by omega) (by omega))) ?_
 refine Y.er (.s16 (.s16 .g12)) (Y.as rfl .z (Y.nil ?_))
 refine Y.ae ((k+1),cb.ino) ⟨by omega,(by have h9:=uY (by assumption) ak;rw [←aq] at h9;rw [←h9];exact vP ht (by omega)),(by have h9:=uY (by assumption) ak;rw [←aq] at h9;rw [←h9];have h8:=aNd ah (show aR f.inodes a=2 by omega) (by omega);rw [hwk,h8])⟩ (by first | omega |(dsimp only;omega)) (.c .z (.c .g3 (.c (.s16 (.s16 .g13)) (.c (.s16 (.s16 .g14)) .n)))) (fun _ h=>h)
 refine Y.exit (Y.ab (Y.ab (Y.ai (Y.g (Y.seq (Y.region (Y.mv rfl .g5 (Y.as rfl .z ?_))))))))
 refine Y.ql rfl (aA rfl .c) (Y.nt (Y.ret ?_))
 refine Y.i (qB rfl .g1 .z) .n ?_
 rw [hwk,aGu (by omega)];exact⟨rfl,rfl⟩

theorem aC4 {w0:World}{S0:Bs}{f:DFs}{aa:Addr} (h0:gP eU w0 (FF w0 S0) aa f) (s:ByteArray) (a1:s.size≤140737488351232) (ht:J0 f):
    Calls Tryz.prog 174 #[.pointer (some aa),.string s] w0 (aJ w0 S0 (fun r l=>r= .tuple #[.int .i64 (dA f s).1,.int .i64 (dA f s).2]∧l= [])):=by
 obtain⟨a2,a3,an,a4⟩:=id h0
 obtain⟨ao,ap,rfl,ab,ac⟩:=cY an
 obtain⟨aq,ar,rfl,ad,ae,af,ag⟩:=aH ab
 obtain⟨au,av,rfl,ah,ai,aj,ak⟩:=aH ac
 refine Y.enter (N:=21) Tryz.func174 rfl rfl (by simp) [(0,.pointer (some aa)),(1,.string s)] (by simp) (l0:= []) trivial ?_
 refine Y.seq (Y.region (Y.ql rfl (aA rfl .c) (Y.ql rfl (aA rfl .c) (Y.nt (Y.seq (Y.region (Y.mv rfl .g3 ?_)))))))
 refine Y.cl rfl rfl Tryz.func196 rfl rfl (bT (.t .z)) .n (fun _ _ hs tr=>aGl _ (by first | assumption | omega)) ?_
 rintro _ _ ⟨v3,rfl,rfl⟩
 refine Y.m (.c .n) ?_
 refine Y.h (WS.a .z) ?_
 rintro⟨aw,ax,rfl,ay,az,a0⟩
 have al:=(pJ s).1
 refine Y.mv rfl .z (Y.ql rfl (cC (v:= .slice aw (dY s).length ax) rfl (.t .z) rfl) (Y.ql rfl (cC (v:= .int .i64 (fV s)) rfl (.t .g1) rfl) (Y.as rfl .g1 (Y.as rfl .g1 (Y.nt (Y.seq (Y.seq ?_)))))))
 refine Y.region (Y.mv rfl .z (Y.ql rfl (cU rfl (.t .z) .c) (Y.nt ?_)))
 refine Y.ad (.t .z) (fun b6=> ?_) (fun b6=> ?_)
 refine Y.seq (Y.region (Y.mv rfl .g2 (Y.er .g11 (Y.ql rfl (aA rfl .c) (Y.er .g11 (Y.as rfl .g1 (Y.nt ?_)))))))
 refine Y.ret (Y.r ?_)
 refine Y.i (qB rfl .g1 .z) .n ?_
 rw [aD5 (by assumption)];exact⟨rfl,rfl⟩
 refine Y.skip (Y.g (Y.seq (Y.region (Y.mv rfl .g11 (Y.mv rfl .g4 ?_)))))
 refine Y.cl rfl rfl Tryz.func195 rfl rfl (aX (.t .g1) (.t .z)) .n (fun _ _ hs tr=>aH6 (tr.ctxP h0) (tr.own .z) (by assumption)) ?_
 rintro _ _ ⟨rfl,rfl⟩
 refine Y.m .n ?_
 have am:=pK ht (dY s) 0 (jV ht)
 refine Y.ql rfl (cC (v:= .int .i64 ((wkC (f).inodes 0 (dY s)).1)) rfl (.t .z) rfl) (Y.ql rfl (cC (v:= .int .i64 ((wkC (f).inodes 0 (dY s)).2)) rfl (.t .g1) rfl) (Y.er .g15 (Y.as rfl .g1 (Y.er .g15 (Y.as rfl .g1 (Y.nt (Y.ret ?_)))))))
 refine Y.i (qB rfl .g1 .z) .n ?_
 rw [aD4 (by assumption)];exact⟨rfl,rfl⟩

theorem yP {w0:World}{S0:Bs}{f:DFs}{au:Addr} (h0:gP eU w0 (FF w0 S0) au f) (s:ByteArray) (bx:s.size≤140737488351232) (ht:J0 f):
    Calls Tryz.prog 171 #[.pointer (some au),.string s] w0 (aJ w0 S0 (fun r l=>r= .tuple #[.int .i64 (aT f s).1,.string (aT f s).2.1,.int .i64 (aT f s).2.2]∧l= [])):=by
 obtain⟨bz,be,bf,bg⟩:=id h0
 obtain⟨bh,bi,rfl,av,aw⟩:=cY bf
 obtain⟨bj,bk,rfl,a3,a4,a5,ad⟩:=aH av
 obtain⟨bm,bn,rfl,a6,a7,a8,a9⟩:=aH aw
 refine Y.enter (N:=40) Tryz.func171 rfl rfl (by simp) [(0,.pointer (some au)),(1,.string s)] (by simp) (l0:= []) trivial ?_
 refine Y.seq (Y.region (Y.ql rfl (aA rfl .c) (Y.ql rfl (aA rfl .c) (Y.ql rfl (aA rfl .c) (Y.nt (Y.seq (Y.region ?_)))))))
 refine Y.mv rfl .g4 ?_
 refine Y.cl rfl rfl Tryz.func194 rfl rfl (bT (.t .z)) .n (fun _ _ hs tr=>aMu _ (by first | assumption | omega)) ?_
 rintro _ _ ⟨v3,rfl,rfl⟩
 refine Y.m (.c .n) ?_
 refine Y.h (WS.a .z) ?_
 rintro⟨bo,bp,rfl,bq,br,bs⟩
 have ba:=xO s
 have bb:=aGk s
 refine Y.mv rfl .z (Y.ql rfl (cC (v:= .slice bo (gS s).length bp) rfl (.t .z) rfl) (Y.ql rfl (cC (v:= .string (qS s)) rfl (.t .g1) rfl) (Y.ql rfl (cC (v:= .int .i64 (kS s)) rfl (.t .g2) rfl) (Y.as rfl .g2 (Y.as rfl .g2 (Y.as rfl .g2 (Y.nt ?_)))))))
 refine Y.seq (Y.seq (Y.region (Y.mv rfl .z (Y.ql rfl (cU rfl (.t .z) .c) (Y.nt ?_)))))
 refine Y.ad (.t .z) (fun b6=> ?_) (fun b6=> ?_)
 refine Y.seq (Y.region (Y.mv rfl .g2 (Y.er .g14 (Y.ql rfl (aA rfl .c) (Y.er .g14 (Y.ql rfl (aA rfl .c) (Y.er .g14 (Y.as rfl .g2 ?_))))))))
 refine Y.nt (Y.ret (Y.r ?_))
 refine Y.i (aC8 rfl .g2 .g1 .z) .n ?_
 rw [aAw (by assumption)];exact⟨rfl,rfl⟩
 refine Y.skip (Y.g (Y.seq (Y.region (Y.mv rfl .g14 (Y.mv rfl .g5 ?_)))))
 refine Y.cl rfl rfl Tryz.func195 rfl rfl (aX (.t .g1) (.t .z)) .n (fun _ _ hs tr=>aH6 (tr.ctxP h0) (tr.own .z) (by assumption)) ?_
 rintro _ _ ⟨rfl,rfl⟩
 refine Y.m .n ?_
 have bc:=pK ht (gS s) 0 (jV ht)
 refine Y.mv rfl .z (Y.ql rfl (cC (v:= .int .i64 ((wkC (f).inodes 0 (gS s)).1)) rfl (.t .z) rfl) (Y.ql rfl (cC (v:= .int .i64 ((wkC (f).inodes 0 (gS s)).2)) rfl (.t .g1) rfl) (Y.as rfl .g1 (Y.er .g9 (Y.as rfl .g1 (Y.nt (Y.seq ?_)))))))
 refine Y.seq (Y.region (Y.mv rfl .z (Y.ql rfl (cU rfl (.t .z) .c) (Y.nt ?_))))
 refine Y.ad (.t .z) (fun b8=> ?_) (fun b8=> ?_)
 refine Y.seq (Y.region (Y.mv rfl .g2 (Y.er (.s16 .g7) (Y.ql rfl (aA rfl .c) (Y.er (.s16 .g7) (Y.ql rfl (aA rfl .c) (Y.er (.s16 .g7) (Y.as rfl .g2 ?_))))))))
 refine Y.nt (Y.ret (Y.r ?_))
 refine Y.i (aC8 rfl .g2 .g1 .z) .n ?_
 rw [aA8 (by assumption) (by assumption)];exact⟨rfl,rfl⟩
 refine Y.skip (Y.g (Y.seq (Y.seq (Y.region (Y.mv rfl (.s16 .g7) (Y.nc rfl .z (Y.fa rfl .z aO (Y.le rfl bK .z be bg ?_))))))))
 refine Y.mv rfl .g7 ?_
 obtain⟨b0,ae,af⟩:=ad (by omega)
 subst ae
 obtain⟨b1,aa⟩:=aI (xs:=f.inodes) (j:=Int.toNat ((wkC (f).inodes 0 (gS s)).1)) (by omega)
 obtain⟨bd,ag,ah,ai⟩:=af.elem aa
 obtain⟨ax,ay,rfl,ab,ac⟩:=cK ag
 obtain⟨az,a0,rfl,ak,al,am,an⟩:=aH ab
 obtain⟨a1,a2,rfl,ao,ap,aq,ar⟩:=aH ac
 have aj:=cH (i:=((wkC (f).inodes 0 (gS s)).1)) aa (by omega)
 have bt:=cI (a:=((wkC (f).inodes 0 (gS s)).1)) aa (by omega)
 have bu:=dC (a:=((wkC (f).inodes 0 (gS s)).1)) aa (by omega)
 have bv:=wH (a:=((wkC (f).inodes 0 (gS s)).1)) aa (by omega)
 refine Y.ql rfl (aC (j:=Int.toNat ((wkC (f).inodes 0 (gS s)).1)) rfl cE aU (.t .g1) (.t .z) (by omega) (by omega)) ?_
 refine Y.fa rfl .z cV (Y.le rfl cF .z ah ai (Y.ql rfl (cU rfl (.t .z) .c) (Y.nt ?_)))
 refine Y.ad (.t .z) (fun bw=> ?_) (fun bw=> ?_)
 refine Y.seq (Y.region (Y.er (.s16 .g15) (Y.ql rfl (aA rfl .c) (Y.er (.s16 .g15) (Y.ql rfl (aA rfl .c) (Y.er (.s16 .g15) (Y.ql rfl (aA rfl .c) (Y.nil ?_))))))))
 refine Y.g (Y.ret (Y.r ?_))
 refine Y.i (aC8 rfl .g2 .g1 .z) .n ?_
 rw [aAt (by assumption) (by assumption) (by rw [aj];assumption)];exact⟨rfl,rfl⟩
 refine Y.skip (Y.g (Y.seq (Y.region (Y.mv rfl .g12 (Y.mv rfl (.s16 .g6) (Y.er (.s16 (.s16 .g1)) (Y.as rfl .g1 (Y.er (.s16 (.s16 .g1)) ?_))))))))
 refine Y.as rfl .g1 (Y.er (.s16 (.s16 .g1)) (Y.ql rfl (aA rfl .c) (Y.nt (Y.ret ?_))))
 refine Y.i (aC8 rfl .g2 .g1 .z) .n ?_
 rw [aAn (by assumption) (by assumption) (by rw [aj];assumption)];exact⟨rfl,rfl⟩

theorem aIk {w0:World}{S0:Bs}{f:DFs}{ab:Addr} (h0:gP eU w0 (FF w0 S0) ab f) (a:Int) (b:Int) (m:Int) (ht:J0 f) (hp:bR f.inodes.length b) (n:Nat) (hm:m=(n:Int)) (hn:n≤10) (ih:∀(n':Nat),n'<n→∀{w0:World}{S0:Bs}{f:DFs}{ab:Addr} (h0:gP eU w0 (FF w0 S0) ab f) (a b m:Int) (ht:J0 f) (hp:bR f.inodes.length b) (hm:m=(n':Int)) (hn:n'≤10),Calls Tryz.prog 176 #[.pointer (some ab),.int .i64 a,.int .i64 b,.int .i64 m] w0 (aJ w0 S0 (fun r l=>r= .bool (wi f.inodes a n' b)∧l= []))):
    Calls Tryz.prog 176 #[.pointer (some ab),.int .i64 a,.int .i64 b,.int .i64 m] w0 (aJ w0 S0 (fun r l=>r= .bool (wi f.inodes a n b)∧l= [])):=by
 obtain⟨b0,a5,bo,a6⟩:=id h0
 obtain⟨bp,bq,rfl,ar,au⟩:=cY bo
 obtain⟨br,bs,rfl,a7,a8,a9,af⟩:=aH ar
 obtain⟨bt,bu,rfl,ba,bb,bc,bd⟩:=aH au
 have hI:=ht
 have hG:=jG ht
 obtain⟨b1,b2⟩:=hp
 refine Y.enter (N:=47) Tryz.func176 rfl rfl (by simp) [(0,.pointer (some ab)),(1,.int .i64 a),(2,.int .i64 b),(3,.int .i64 m)] (by simp) (l0:= []) trivial ?_
 refine Y.seq (Y.region (Y.ql rfl (aA rfl .c) (Y.nt (Y.seq (Y.seq (Y.region (Y.mv rfl .g2 ?_)))))))
 refine Y.mv rfl .g4 (Y.ql rfl (bZ rfl (.t .g1) (.t .z)) (Y.nt ?_))
 refine Y.u (.t .z) (fun b3=> ?_) (fun b3=> ?_)
 refine Y.seq (Y.region (Y.er .g3 (Y.ql rfl (aA rfl .c) (Y.nt (Y.ret (Y.r ?_))))))
 refine Y.i (aY rfl .z) .n ?_
 exact⟨by first |(rw [aEq (by omega)];done),rfl⟩
 refine Y.skip (Y.g (Y.seq (Y.seq (Y.region (Y.ql rfl (aA rfl .c) (Y.nt (Y.block ?_)))))))
 obtain⟨b4,ag,ah⟩:=af (by omega)
 subst ag
 obtain⟨x5,ai⟩:=aI (xs:=f.inodes) (j:=Int.toNat b) (by omega)
 obtain⟨bv,av,aj,ak⟩:=ah.elem ai
 obtain⟨be,bf,rfl,al,am⟩:=cK av
 obtain⟨bg,bh,rfl,aw,ax,ay,az⟩:=aH al
 obtain⟨bi,bj,rfl,a0,a1,a2,ac⟩:=aH am
 have b5:=cH (i:=b) ai (by omega)
 have aq:=cI (a:=b) ai (by omega)
 have a3:=J0.x hI _ (List.mem_of_getElem? ai)
 refine Y.aj (γ:=Nat) (fun k=> [(9,.int .i64 (k:Int)),(0,.pointer (some ab)),(1,.int .i64 a),(2,.int .i64 b),(3,.int .i64 m)]) (fun k=> []) (fun k=>k≤x5.ents.length∧∀(j:Nat) (e:aQ),j<k→x5.ents[j]? =some e→wi f.inodes a (n - 1) e.ino=false) (fun k=>x5.ents.length - k) 0 ⟨Nat.zero_le _,eV (q:=fun _ (e:aQ)=>wi f.inodes a (n - 1) e.ino=false)⟩ (.c .z (.c .g5 (.c .g6 (.c .g7 (.c .g8 .n))))) (fun _ h=>h) ?_
 rintro k ⟨hk,hallk⟩
 refine Y.seq (Y.seq (Y.region (Y.mv rfl .g4 (Y.ql rfl (gO rfl (.t .z) .c) (Y.mv rfl .z ?_)))))
 refine Y.al .z (fun g9=> ?_) (fun g9=> ?_)
 refine Y.qg rfl rfl .z rfl rfl rfl (aV rfl (.t .g3)) ?_
 refine Y.qg rfl rfl .g1 rfl rfl rfl (aV rfl (.t .g5)) ?_
 refine Y.qg rfl rfl .g2 rfl rfl rfl (eB rfl (.t .z)) ?_
 refine Y.qg rfl rfl .g3 rfl rfl rfl (aK rfl (.t .z) (fun _=>aO _ _)) ?_
 refine Y.qg rfl rfl .g4 rfl rfl rfl (aL rfl bK (.t .z) (WS.el a5 a6 rfl)) ?_
 refine Y.qg rfl rfl .g5 rfl rfl rfl (aV rfl (.t .g11)) ?_
 refine Y.qg rfl rfl .g6 rfl rfl rfl (aC (j:=Int.toNat b) rfl cE aU (.t .g1) (.t .z) (by omega) (by omega)) ?_
 refine Y.qg rfl rfl .g7 rfl rfl rfl (aK rfl (.t .z) (fun _=>bE _ _)) ?_
 refine Y.qg rfl rfl .g8 rfl rfl rfl (aL rfl dP (.t .z) (WS.el aj ak rfl)) ?_
 refine Y.qg rfl rfl .g9 rfl rfl rfl (bM rfl cZ (.t .z)) ?_
 refine Y.qg rfl rfl .g10 rfl rfl rfl (dJ rfl (.t .g9) (.t .z)) ?_
 refine Y.ql rfl (bO rfl (.t .g11) (.t .z)) (Y.nt ?_)
 refine Y.u (.t .z) (fun bw=> ?_) (fun bw=> ?_)
 refine Y.skip (Y.g (Y.seq (Y.block (Y.seq (Y.region (Y.mv rfl .g16 (Y.mv rfl (.s16 .g2) (Y.mv rfl (.s16 .g2) ?_))))))))
 refine Y.nc rfl .z (Y.fa rfl .z aO (Y.le rfl bK .z a5 a6 (Y.mv rfl (.s16 .g8) ?_)))
 refine Y.ql rfl (aC (j:=Int.toNat b) rfl cE aU (.t .g1) (.t .z) (by omega) (by omega)) ?_
 refine Y.fa rfl .z bE (Y.le rfl dP .z aj ak (Y.mv rfl (.s16 .g9) ?_))
 obtain⟨bx,ad,ae⟩:=ac (by omega)
 subst ad
 obtain⟨b6,aa⟩:=aI (xs:=x5.ents) (j:=k) (by omega)
 obtain⟨bk,an,ao,ap⟩:=ae.elem aa
 obtain⟨rfl,a4⟩:=eR an
 have bm:=id (hG _ _ ai _ _ aa)
 have bn:=rZ a3 _ _ aa
 refine Y.ql rfl (aC (j:=k) rfl cZ dV (.t .g1) (.t .z) rfl (by omega)) ?_
 refine Y.fa rfl .z iX (Y.le rfl cF .z ao ap (Y.mv rfl (.s16 (.s16 .g1)) ?_))
 refine Y.ql rfl (jL (c:=m - 1) rfl (.t .z) .c (wr (by omega) (by omega) (by omega))) ?_
 refine Y.cl rfl rfl Tryz.func176 rfl rfl (oT (.t .g15) (.t .g14) (.t .g2) (.t .z)) .n (fun _ _ hs tr=>ih (n - 1) (by omega) (tr.ctxP h0) _ _ _ (by assumption) (by first | assumption |(constructor <;> omega)) (by omega) (by omega)) ?_
 rintro _ _ ⟨rfl,rfl⟩
 refine Y.m .n ?_
 refine Y.nt ?_
 refine Y.cond (.t .z) (fun bz=> ?_) (fun bz=> ?_)
 refine Y.seq (Y.region (Y.ql rfl (aA rfl .c) (Y.nt (Y.ret (Y.y (Y.r (Y.r ?_)))))))
 refine Y.y (Y.r ?_)
 refine Y.i (aY rfl .z) .n ?_
 exact⟨by first |(rw [aEq (by omega)];done) |(rw [aK4 (k:=k) (by omega) (by rw [aq];exact aa) (by assumption)];done) |(rw [zV (by omega) (.inl (by omega))];done) |(rw [zV (by omega) (.inr (fun j e he=>by rw [aq] at he;exact hallk j e (by have:=(List.getElem?_eq_some_iff.1 he).1;omega) he))];done),rfl⟩
 refine Y.skip (Y.ac (Y.g (Y.region (Y.mv rfl (.s16 .g16) ?_))))
 refine Y.ql rfl (bQ (c:=((k+1:Nat):Int)) rfl (.t .z) .c (wr (by omega) (by omega) (by omega))) ?_
 refine Y.er (.s16 (.s16 .g2)) (Y.as rfl .z (Y.nil ?_))
 refine Y.ae (k+1) ⟨by omega,eM (q:=fun _ (e:aQ)=>wi f.inodes a (n - 1) e.ino=false) hallk aa (by assumption)⟩ (by first | omega |(dsimp only;omega)) (.c .z (.c (.s16 (.s16 .g3)) (.c (.s16 (.s16 .g4)) (.c (.s16 (.s16 .g5)) (.c (.s16 (.s16 .g6)) .n))))) (fun _ h=>h)
 refine Y.exit (Y.ab (Y.ab (Y.ai (Y.g (Y.seq (Y.region (Y.ql rfl (aA rfl .c) (Y.nil ?_))))))))
 refine Y.g (Y.ret ?_)
 refine Y.i (aY rfl .z) .n ?_
 exact⟨by first |(rw [aEq (by omega)];done) |(rw [zV (by omega) (.inl (by omega))];done) |(rw [zV (by omega) (.inr (fun j e he=>by rw [aq] at he;exact hallk j e (by have:=(List.getElem?_eq_some_iff.1 he).1;omega) he))];done),rfl⟩
 refine Y.j rfl rfl .z rfl rfl (by decide) rfl ?_
 refine Y.j rfl rfl .g1 rfl rfl (by decide) rfl ?_
 refine Y.j rfl rfl .g2 rfl rfl (by decide) rfl ?_
 refine Y.j rfl rfl .g3 rfl rfl (by decide) rfl ?_
 refine Y.j rfl rfl .g4 rfl rfl (by decide) rfl ?_
 refine Y.j rfl rfl .g5 rfl rfl (by decide) rfl ?_
 refine Y.j rfl rfl .g6 rfl rfl (by decide) rfl ?_
 refine Y.j rfl rfl .g7 rfl rfl (by decide) rfl ?_
 refine Y.j rfl rfl .g8 rfl rfl (by decide) rfl ?_
 refine Y.j rfl rfl .g9 rfl rfl (by decide) rfl ?_
 refine Y.j rfl rfl .g10 rfl rfl (by decide) rfl ?_
 refine Y.ql rfl (bW rfl (.t .g11) .c) (Y.nt ?_)
 refine Y.ar (.t .z) ?_
 refine Y.exit (Y.ab (Y.ab (Y.ai (Y.g (Y.seq (Y.region (Y.ql rfl (aA rfl .c) (Y.nil ?_))))))))
 refine Y.g (Y.ret ?_)
 refine Y.i (aY rfl .z) .n ?_
 exact⟨by first |(rw [aEq (by omega)];done) |(rw [zV (by omega) (.inl (by omega))];done) |(rw [zV (by omega) (.inr (fun j e he=>by rw [aq] at he;exact hallk j e (by have:=(List.getElem?_eq_some_iff.1 he).1;omega) he))];done),rfl⟩
theorem aKy {w0:World}{S0:Bs}{f:DFs}{ad0:Addr} (h0:gP eU w0 (FF w0 S0) ad0 f) (a b m:Int) (ht:J0 f) (hp:bR f.inodes.length b) (n:Nat) (hm:m=(n:Int)) (hn:n≤10):Calls Tryz.prog 176 #[.pointer (some ad0),.int .i64 a,.int .i64 b,.int .i64 m] w0 (aJ w0 S0 (fun r l=>r= .bool (wi f.inodes a n b)∧l= [])):=by
 have key:∀n:Nat,∀{w0:World}{S0:Bs}{f:DFs}{ad0:Addr} (h0:gP eU w0 (FF w0 S0) ad0 f) (a b m:Int) (ht:J0 f) (hp:bR f.inodes.length b) (hm:m=(n:Int)) (hn:n≤10),Calls Tryz.prog 176 #[.pointer (some ad0),.int .i64 a,.int .i64 b,.int .i64 m] w0 (aJ w0 S0 (fun r l=>r= .bool (wi f.inodes a n b)∧l= [])):=fun n=>by
  induction n using Nat.strongRecOn with
  | _ n ih=>exact fun h0 a b m ht hp hm hn=>aIk h0 a b m ht hp n hm hn ih
 exact key n h0 a b m ht hp hm hn

end Go.Proofs.YtmejbfmhaoilmaaGreat

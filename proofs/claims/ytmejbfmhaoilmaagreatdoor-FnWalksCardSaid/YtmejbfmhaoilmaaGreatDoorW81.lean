/- What is proved: contracts of functions, one a function. No condition. -/
import Derived.Test.YtmejbfmhaoilmaaGreatDoorBase1
import Derived.Test.YtmejbfmhaoilmaaGreatDoorPart3
import Derived.Test.YtmejbfmhaoilmaaGreatDoorPart4
import Derived.Test.YtmejbfmhaoilmaaGreatDoorW9
import Derived.Test.YtmejbfmhaoilmaaGreatDoorBase2
namespace Go.Proofs.YtmejbfmhaoilmaaGreatDoor
open Go Go.RowKit
set_option linter.unusedVariables false
set_option linter.unusedSimpArgs false
set_option maxHeartbeats 1000000
set_option maxRecDepth 20000
theorem aKy {w0:World}{S0:Bs}{xs:(List aF)}{v0:Value} (h0:bJ.ro w0 (FF w0 S0) xs [v0]) (hb:xs.length≤10):
    Calls Tryz.prog 103 #[v0] w0 (aI w0 S0 (fun r l=>r= .int .i64 (dB xs)∧l= [])):=by
 obtain⟨A0,c0,rfl,a0,a1,a2,ay⟩:=aD h0
 refine Y.enter (N:=22) Tryz.func103 rfl rfl (by simp) [(0,.slice A0 xs.length c0)] (by simp) (l0:= []) trivial ?_
 refine Y.seq (Y.region (Y.ql rfl (aA rfl .c) (Y.nt (Y.seq (Y.seq (Y.region (Y.ql rfl (aA rfl .c) ?_)))))))
 refine Y.nt (Y.block ?_)
 refine Y.ai (γ:=Nat) (fun k=> [(3,.int .i64 (k:Int)),(0,.slice A0 xs.length c0)]) (fun k=> []) (fun k=>k≤xs.length∧∀j y,j<k→xs[j]? =some y→¬aF.kind y=0) (fun k=>xs.length - k) 0 ⟨Nat.zero_le _,eN (q:=fun _ y=>¬aF.kind y=0)⟩ (.c .z (.c .g2 .n)) (fun _ h=>h) ?_
 rintro k ⟨hk,hallk⟩
 refine Y.seq (Y.seq (Y.region (Y.mv rfl .z (Y.mv rfl .g2 (Y.ql rfl (bD rfl cQ (.t .z)) (Y.ql rfl (dA rfl (.t .g2) (.t .z)) (Y.nt ?_)))))))
 refine Y.u (.t .z) (fun b2=> ?_) (fun b2=> ?_)
 refine Y.skip (Y.g (Y.seq (Y.block (Y.seq (Y.region (Y.mv rfl .g5 (Y.mv rfl .g5 ?_)))))))
 obtain⟨a3,aa,ab⟩:=ay (by omega)
 subst aa
 obtain⟨x4,ae⟩:=aK (xs:=xs) (j:=k) (by omega)
 obtain⟨az,af,ag,ah⟩:=ab.elem ae
 obtain⟨aq,ar,rfl,ac,ad⟩:=bY af
 obtain⟨au,av,rfl,ai,aj,ak,al⟩:=aD ac
 obtain⟨aw,ax,rfl,am,an,ao,ap⟩:=aD ad
 refine Y.ql rfl (aB (j:=k) rfl cQ aT (.t .g1) (.t .z) rfl (by omega)) ?_
 refine Y.fa rfl .z bS (Y.le rfl bP .z ag ah (Y.ql rfl (bU rfl (.t .z) .c) (Y.nt ?_)))
 refine Y.u (.t .z) (fun b8=> ?_) (fun b8=> ?_)
 refine Y.seq (Y.region (Y.mv rfl .g10 (Y.as rfl .z (Y.nt (Y.ret (Y.v (Y.j ?_)))))))
 refine Y.j (Y.v (Y.j ?_))
 refine Y.i (aU rfl .z) .n ?_
 exact⟨by first |(rw [aG9 ae (by assumption) hallk];done) |(rw [wW (q:=k) (by omega) hallk (by assumption)];done) |(rw [yJ (q:=k) (by omega) hallk (by assumption) hb];done),rfl⟩
 refine Y.skip (Y.ab (Y.g (Y.region (Y.mv rfl .g10 ?_))))
 refine Y.ql rfl (bN (c:=((k+1:Nat):Int)) rfl (.t .z) .c (wr (by omega) (by omega) (by omega))) ?_
 refine Y.er .g12 (Y.as rfl .z (Y.nil ?_))
 refine Y.ae (k+1) ⟨by omega,dS (q:=fun _ y=>¬aF.kind y=0) hallk ae (by assumption)⟩ (by first | omega |(dsimp only;omega)) (.c .z (.c .g13 .n)) (fun _ h=>h)
 refine Y.exit (Y.y (Y.y (Y.ag (Y.g (Y.seq (Y.seq (Y.region (Y.mv rfl .g5 ?_))))))))
 refine Y.ql rfl (bD rfl cQ (.t .z)) (Y.ql rfl (dA rfl (.t .z) .c) (Y.nt ?_))
 refine Y.u (.t .z) (fun b9=> ?_) (fun b9=> ?_)
 refine Y.seq (Y.region (Y.mv rfl .g8 (Y.ql rfl (bD rfl cQ (.t .z)) (Y.as rfl .z (Y.nt (Y.ret (Y.j ?_)))))))
 refine Y.i (aU rfl .z) .n ?_
 exact⟨by first |(rw [wW (q:=k) (by omega) hallk (by assumption)];done) |(rw [yJ (q:=k) (by omega) hallk (by assumption) hb];done),rfl⟩
 refine Y.skip (Y.g (Y.seq (Y.region (Y.ql rfl (aA rfl .c) (Y.nt (Y.ret ?_))))))
 refine Y.i (aU rfl .z) .n ?_
 exact⟨by first |(rw [wW (q:=k) (by omega) hallk (by assumption)];done) |(rw [yJ (q:=k) (by omega) hallk (by assumption) hb];done),rfl⟩

theorem aDh {w0:World}{S0:Bs}{f:DFs}{g0 e0 s0:Nat}{bh:List Value}{bw:Value}{bx:Value} (a:Int) (s:ByteArray) (fu:s.size≤140737488351232) (b:Int) (hs:cI [bV g0 e0 s0 1 (bw :: bx :: bh),aH bJ f.inodes [bw],aH eH f.data [bx]] w0 S0) (ht:J0 f) (hp:bQ f.inodes.length a) (h6:(aG f.inodes a).length≤6):
    Calls Tryz.prog 105 #[.pointer (some ⟨g0,0,none⟩),.int .i64 a,.string s,.int .i64 b] w0 (aI w0 S0 (fun r l=>∃v0 v1,r= .int .i64 (rD f a s b)∧l= [bV g0 e0 s0 1 (v0 :: v1 :: bh),aH bJ (nS f a s b).inodes [v0],aH eH (nS f a s b).data [v1]])):=by
 obtain⟨fv,fw⟩:=hp
 have hI:=ht
 refine Y.enter (N:=100) Tryz.func105 rfl rfl (by simp) [(0,.pointer (some ⟨g0,0,none⟩)),(1,.int .i64 a),(2,.string s),(3,.int .i64 b)] (by simp) hs ?_
 refine Y.h (WS.a .g1) ?_
 rintro⟨fx,ar,rfl,ey,ez,e1⟩
 refine Y.h (WS.a .g2) ?_
 rintro⟨e2,e3,rfl,e4,e5,e7⟩
 refine Y.seq (Y.region (Y.ql rfl (aA rfl .c) (Y.nt (Y.seq (Y.seq (Y.region (Y.mv rfl .g1 ?_)))))))
 refine Y.nc rfl .z (Y.fa rfl .z aP (Y.ld rfl bR .z .z (Y.mv rfl .g6 ?_)))
 refine Y.aa (.c .g1 .n) fP ?_
 rintro e8 a5
 obtain⟨y4,bi⟩:=aK (xs:=f.inodes) (j:=Int.toNat a) (by first | omega |(simp only [dG,dF,dT];omega))
 obtain⟨c5,co⟩:=aK (xs:=e8) (j:=Int.toNat a) (by rw [a5];exact(List.getElem?_eq_some_iff.1 bi).1)
 refine Y.au .g1 (eJ bi co) ?_
 refine Y.aa (.c .z .n) fC ?_
 rintro⟨v6,v7⟩ rfl
 refine Y.h (WS.a .z) ?_
 rintro⟨bz,b0,rfl,c6,c7,c8⟩
 refine Y.h (WS.a .g1) ?_
 rintro⟨b1,b2,rfl,c9,da,db⟩
 have fy:=cO (i:=a) bi (by omega)
 have au:=cP (a:=a) bi (by omega)
 have f0:=dL (a:=a) bi (by omega)
 have e9:(aG f.inodes a).length=y4.ents.length:=by rw [au]
 refine Y.h (WS.h .g4 (by omega)) ?_
 rintro⟨ac,rfl⟩
 refine Y.ql rfl (aB (j:=Int.toNat a) rfl cQ aT (.t .g1) (.t .z) (by omega) (by first | omega |(simp only [dG,dF,dT];omega))) ?_
 refine Y.fa rfl .z bL (Y.ql rfl (aM rfl dX (.t .z) (WS.j .g4 co rfl)) (Y.mv rfl .g11 ?_))
 refine Y.cl rfl rfl Tryz.func102 rfl rfl (aS (.t .g1) (.t .z)) .n (fun _ _ hs tr=>sD (tr.own .g1) _ (by first | assumption | omega)) ?_
 rintro _ _ ⟨rfl,rfl⟩
 refine Y.m .n ?_
 refine Y.ql rfl (nH rfl (.t .z) .c) (Y.nt ?_)
 refine Y.u (.t .z) (fun fb=> ?_) (fun fb=> ?_)
 refine Y.seq (Y.region (Y.er .g11 (Y.ql rfl (aA rfl .c) (Y.nt (Y.ret (Y.j ?_))))))
 refine Y.ad (c:=aH cR y4 [.int .i64 y4.kind,.int .i64 y4.links,.int .i64 y4.size,.slice bz y4.blocks.length b0,.slice b1 y4.ents.length b2]) (.c .z (.c .z .n)) (fun w S h=>cZ y4 h) ?_
 refine Y.ad (c:=aH bJ f.inodes [.slice (some ac) f.inodes.length ar]) (.c .g3 (.c .z (.c .z (.c .z .n)))) (eM (K:=cR) a5 bi co) ?_
 have ah:(aG f.inodes a).length=y4.ents.length∨True:= .inr trivial
 try have ai:(aG f.inodes a).length=y4.ents.length:=by rw [au]
 have aj:=eW (s:=s) ht au
 have hlk:aY f.inodes b=1∨dJ f.inodes b=0:=by by_cases hk:aY f.inodes b=1;exact .inl hk;exact .inr (kG hI hk)
 refine Y.i (aU rfl .z) (.c .g1 (.c .z (.c .z .n))) ?_
 first |(have hc:=sS (f:=f) (a:=a) (s:=s) (b:=b) (by omega);exact⟨_,_,by rw [hc],by rw [iL (by rw [hc];decide)]⟩) |(have hc:=sZ (f:=f) (a:=a) (s:=s) (b:=b) (by omega) (by rintro⟨⟨h1,h2⟩,h3⟩;first | omega |(simp_all;done) |(simp_all;omega));exact⟨_,_,by rw [hc],by rw [iL (by rw [hc];decide)]⟩) |(have hc:=sN (f:=f) (a:=a) (s:=s) (b:=b) (by omega) ⟨⟨by omega,by omega⟩,by omega⟩ (by omega);exact⟨_,_,by rw [hc],by rw [iL (by rw [hc];decide)]⟩) |(have hc:=lH (f:=f) (a:=a) (s:=s) (b:=b) (by omega) ⟨⟨by omega,by omega⟩,by omega⟩ (by omega);exact⟨_,_,by rw [hc],by rw [rL hc (by omega)]⟩) |(have hc:=lH (f:=f) (a:=a) (s:=s) (b:=b) (by omega) ⟨⟨by omega,by omega⟩,by omega⟩ (by omega);exact⟨_,_,by rw [hc],by rw [rI hc (by omega)]⟩)
 refine Y.skip (Y.g (Y.seq (Y.seq (Y.region (Y.mv rfl .g12 (Y.mv rfl .g16 ?_))))))
 refine Y.ad (c:=aH cR y4 [.int .i64 y4.kind,.int .i64 y4.links,.int .i64 y4.size,.slice bz y4.blocks.length b0,.slice b1 y4.ents.length b2]) (.c .z (.c .z .n)) (fun w S h=>cZ y4 h) ?_
 refine Y.ad (c:=aH bJ f.inodes [.slice (some ac) f.inodes.length ar]) (.c .g3 (.c .z (.c .z (.c .z .n)))) (eM (K:=cR) a5 bi co) ?_
 refine Y.cl rfl rfl Tryz.func133 rfl rfl (aS (.t .g1) (.t .z)) .n (fun _ _ hs tr=>aH6 (tr.ptrpre .g1 (aJ f (tr.own .z) (tr.own .g2)) (aLq (cs:= [.slice (some ac) f.inodes.length ar,.slice e2 f.data.length e3]) (k:=2) rfl rfl)) _) ?_
 rintro _ _ ⟨rfl,rfl⟩
 refine Y.m .n ?_
 refine Y.ql rfl (fF rfl (.t .z)) (Y.mv rfl .z ?_)
 refine Y.an .z (fun g17=> ?_) (fun g17=> ?_)
 refine Y.r rfl rfl .z rfl rfl (by decide) rfl ?_
 refine Y.r rfl rfl .g1 rfl rfl (by decide) rfl ?_
 refine Y.r rfl rfl .g2 rfl rfl (by decide) rfl ?_
 refine Y.r rfl rfl .g3 rfl rfl (by decide) rfl ?_
 refine Y.r rfl rfl .g4 rfl rfl (by decide) rfl ?_
 refine Y.r rfl rfl .g5 rfl rfl (by decide) rfl ?_
 refine Y.r rfl rfl .g6 rfl rfl (by decide) rfl ?_
 refine Y.r rfl rfl .g7 rfl rfl (by decide) rfl ?_
 refine Y.r rfl rfl .g8 rfl rfl (by decide) rfl ?_
 refine Y.ql rfl (bI rfl (.t .g9) .c) (Y.nt ?_)
 refine Y.aq (.t .z) ?_
 refine Y.seq (Y.region (Y.er (.s16 .g10) (Y.ql rfl (aA rfl .c) (Y.nt (Y.ret (Y.j ?_))))))
 have ah:(aG f.inodes a).length=y4.ents.length∨True:= .inr trivial
 try have ai:(aG f.inodes a).length=y4.ents.length:=by rw [au]
 have aj:=eW (s:=s) ht au
 have hlk:aY f.inodes b=1∨dJ f.inodes b=0:=by by_cases hk:aY f.inodes b=1;exact .inl hk;exact .inr (kG hI hk)
 refine Y.i (aU rfl .z) (.c .g1 (.c .z (.c .z .n))) ?_
 first |(have hc:=sS (f:=f) (a:=a) (s:=s) (b:=b) (by omega);exact⟨_,_,by rw [hc],by rw [iL (by rw [hc];decide)]⟩) |(have hc:=sZ (f:=f) (a:=a) (s:=s) (b:=b) (by omega) (by rintro⟨⟨h1,h2⟩,h3⟩;first | omega |(simp_all;done) |(simp_all;omega));exact⟨_,_,by rw [hc],by rw [iL (by rw [hc];decide)]⟩) |(have hc:=sN (f:=f) (a:=a) (s:=s) (b:=b) (by omega) ⟨⟨by omega,by omega⟩,by omega⟩ (by omega);exact⟨_,_,by rw [hc],by rw [iL (by rw [hc];decide)]⟩) |(have hc:=lH (f:=f) (a:=a) (s:=s) (b:=b) (by omega) ⟨⟨by omega,by omega⟩,by omega⟩ (by omega);exact⟨_,_,by rw [hc],by rw [rL hc (by omega)]⟩) |(have hc:=lH (f:=f) (a:=a) (s:=s) (b:=b) (by omega) ⟨⟨by omega,by omega⟩,by omega⟩ (by omega);exact⟨_,_,by rw [hc],by rw [rI hc (by omega)]⟩)
 refine Y.qg rfl rfl .z rfl rfl rfl (aR rfl (.t (.s16 .g1))) ?_
 refine Y.qg rfl rfl .g1 rfl rfl rfl (dZ rfl (.t .z)) ?_
 refine Y.qg rfl rfl .g2 rfl rfl rfl (aN rfl (.t .z) (fun _=>aP _ _)) ?_
 refine Y.qg rfl rfl .g3 rfl rfl rfl (aM rfl bR (.t .z) (WS.g .g1 rfl)) ?_
 refine Y.qg rfl rfl .g4 rfl rfl rfl (aR rfl (.t (.s16 .g8))) ?_
 refine Y.aa (.c .z .n) fP ?_
 rintro cp av
 obtain⟨af,aw⟩:=aK (xs:=f.inodes) (j:=Int.toNat b) (by first | omega |(simp only [dG,dF,dT];omega))
 obtain⟨f1,a6⟩:=aK (xs:=cp) (j:=Int.toNat b) (by rw [av];exact(List.getElem?_eq_some_iff.1 aw).1)
 refine Y.au .g1 (eJ aw a6) ?_
 refine Y.aa (.c .z .n) fC ?_
 rintro⟨f2,f3⟩ rfl
 refine Y.h (WS.a .z) ?_
 rintro⟨b3,b4,rfl,dc,dd,dg⟩
 refine Y.h (WS.a .g1) ?_
 rintro⟨b5,b6,rfl,dh,di,dj⟩
 have fc:=cO (i:=b) aw (by omega)
 have ag:=cP (a:=b) aw (by omega)
 have fd:=dL (a:=b) aw (by omega)
 have dp:(aG f.inodes b).length=af.ents.length:=by rw [ag]
 refine Y.qg rfl rfl .g5 rfl rfl rfl (aB (j:=Int.toNat b) rfl cQ aT (.t .g1) (.t .z) (by omega) (by first | omega |(simp only [dG,dF,dT];omega))) ?_
 refine Y.qg rfl rfl .g6 rfl rfl rfl (aN rfl (.t .z) (fun _=>bS _ _)) ?_
 refine Y.qg rfl rfl .g7 rfl rfl rfl (aM rfl bP (.t .z) (WS.j .g4 a6 rfl)) ?_
 refine Y.qg rfl rfl .g8 rfl rfl rfl (bU rfl (.t .z) .c) ?_
 refine Y.ql rfl (bH rfl (.t .g9) (.t .z)) (Y.nt ?_)
 refine Y.u (.t .z) (fun fe=> ?_) (fun fe=> ?_)
 refine Y.seq (Y.region (Y.er (.s16 .g10) (Y.ql rfl (aA rfl .c) (Y.nt (Y.ret (Y.j ?_))))))
 refine Y.ad (c:=aH cR af [.int .i64 af.kind,.int .i64 af.links,.int .i64 af.size,.slice b3 af.blocks.length b4,.slice b5 af.ents.length b6]) (.c .z (.c .z .n)) (fun w S h=>cZ af h) ?_
 refine Y.ad (c:=aH bJ f.inodes [.slice (some ac) f.inodes.length ar]) (.c .g3 (.c .z (.c .z (.c .z .n)))) (eM (K:=cR) av aw a6) ?_
 have ah:(aG f.inodes a).length=y4.ents.length∨True:= .inr trivial
 try have ai:(aG f.inodes a).length=y4.ents.length:=by rw [au]
 have aj:=eW (s:=s) ht au
 have ak:(aG f.inodes a).length=af.ents.length∨True:= .inr trivial
 try have al:(aG f.inodes a).length=af.ents.length:=by rw [ag]
 have am:=eW (s:=s) ht ag
 have hlk:aY f.inodes b=1∨dJ f.inodes b=0:=by by_cases hk:aY f.inodes b=1;exact .inl hk;exact .inr (kG hI hk)
 refine Y.i (aU rfl .z) (.c .g1 (.c .z (.c .z .n))) ?_
 first |(have hc:=sS (f:=f) (a:=a) (s:=s) (b:=b) (by omega);exact⟨_,_,by rw [hc],by rw [iL (by rw [hc];decide)]⟩) |(have hc:=sZ (f:=f) (a:=a) (s:=s) (b:=b) (by omega) (by rintro⟨⟨h1,h2⟩,h3⟩;first | omega |(simp_all;done) |(simp_all;omega));exact⟨_,_,by rw [hc],by rw [iL (by rw [hc];decide)]⟩) |(have hc:=sN (f:=f) (a:=a) (s:=s) (b:=b) (by omega) ⟨⟨by omega,by omega⟩,by omega⟩ (by omega);exact⟨_,_,by rw [hc],by rw [iL (by rw [hc];decide)]⟩) |(have hc:=lH (f:=f) (a:=a) (s:=s) (b:=b) (by omega) ⟨⟨by omega,by omega⟩,by omega⟩ (by omega);exact⟨_,_,by rw [hc],by rw [rL hc (by omega)]⟩) |(have hc:=lH (f:=f) (a:=a) (s:=s) (b:=b) (by omega) ⟨⟨by omega,by omega⟩,by omega⟩ (by omega);exact⟨_,_,by rw [hc],by rw [rI hc (by omega)]⟩)
 refine Y.skip (Y.g (Y.seq (Y.region (Y.mv rfl (.s16 .g11) (Y.nc rfl .z (Y.fa rfl .z aP (Y.ld rfl bR .z .g5 (Y.mv rfl (.s16 (.s16 .g2)) ?_))))))))
 refine Y.ql rfl (aB (j:=Int.toNat b) rfl cQ aT (.t .g1) (.t .z) (by omega) (by first | omega |(simp only [dG,dF,dT];omega))) ?_
 refine Y.fa rfl .z bS (Y.ql rfl (aM rfl bP (.t .z) (WS.j .g4 a6 rfl)) (Y.ql rfl (bU rfl (.t .z) .c) (Y.as rfl .z (Y.nt (Y.seq (Y.seq (Y.region ?_)))))))
 refine Y.mv rfl (.s16 (.s16 .g5)) (Y.nc rfl .z (Y.fa rfl .z aP (Y.ld rfl bR .z .g5 (Y.mv rfl (.s16 (.s16 .g10)) ?_))))
 refine Y.ad (c:=aH cR af [.int .i64 af.kind,.int .i64 af.links,.int .i64 af.size,.slice b3 af.blocks.length b4,.slice b5 af.ents.length b6]) (.c .z (.c .z .n)) (fun w S h=>cZ af h) ?_
 refine Y.ad (c:=aH bJ f.inodes [.slice (some ac) f.inodes.length ar]) (.c .g3 (.c .z (.c .z (.c .z .n)))) (eM (K:=cR) av aw a6) ?_
 refine Y.aa (.c .z .n) fP ?_
 rintro cq an
 obtain⟨ae,aq⟩:=aK (xs:=f.inodes) (j:=Int.toNat a) (by first | omega |(simp only [dG,dF,dT];omega))
 obtain⟨f4,a7⟩:=aK (xs:=cq) (j:=Int.toNat a) (by rw [an];exact(List.getElem?_eq_some_iff.1 aq).1)
 refine Y.au .g1 (eJ aq a7) ?_
 refine Y.aa (.c .z .n) fC ?_
 rintro⟨f5,f6⟩ rfl
 refine Y.h (WS.a .z) ?_
 rintro⟨bj,bk,rfl,ds,dt,du⟩
 refine Y.h (WS.a .g1) ?_
 rintro⟨bm,bn,rfl,dv,dw,dx⟩
 have ff:=cO (i:=a) aq (by omega)
 have ao:=cP (a:=a) aq (by omega)
 have fg:=dL (a:=a) aq (by omega)
 have dy:(aG f.inodes a).length=ae.ents.length:=by rw [ao]
 refine Y.ql rfl (aB (j:=Int.toNat a) rfl cQ aT (.t .g1) (.t .z) (by omega) (by first | omega |(simp only [dG,dF,dT];omega))) ?_
 refine Y.fa rfl .z bL (Y.ql rfl (aM rfl dX (.t .z) (WS.j .g4 a7 rfl)) (Y.ql rfl (bD rfl dP (.t .z)) (Y.ql rfl (nH rfl (.t .z) .c) (Y.mv rfl .z ?_))))
 refine Y.al .z (fun g42=> ?_) (fun g42=> ?_)
 refine Y.r rfl rfl .z rfl rfl (by decide) rfl ?_
 refine Y.r rfl rfl .g1 rfl rfl (by decide) rfl ?_
 refine Y.r rfl rfl .z rfl rfl (by decide) rfl ?_
 refine Y.r rfl rfl .g1 rfl rfl (by decide) rfl ?_
 refine Y.r rfl rfl .g2 rfl rfl (by decide) rfl ?_
 refine Y.r rfl rfl .g3 rfl rfl (by decide) rfl ?_
 refine Y.r rfl rfl .g4 rfl rfl (by decide) rfl ?_
 refine Y.r rfl rfl .g5 rfl rfl (by decide) rfl ?_
 refine Y.r rfl rfl .g6 rfl rfl (by decide) rfl ?_
 refine Y.r rfl rfl .g7 rfl rfl (by decide) rfl ?_
 refine Y.r rfl rfl .g8 rfl rfl (by decide) rfl ?_
 refine Y.r rfl rfl .g11 rfl rfl (by decide) rfl ?_
 refine Y.ql rfl (bI rfl (.t .g12) .c) (Y.nt ?_)
 refine Y.aq (.t .z) ?_
 refine Y.seq (Y.region (Y.er (.s16 (.s16 (.s16 .g12))) (Y.ql rfl (aA rfl .c) (Y.nt (Y.ret (Y.j ?_))))))
 refine Y.ad (c:=aH cR ae [.int .i64 ae.kind,.int .i64 ae.links,.int .i64 ae.size,.slice bj ae.blocks.length bk,.slice bm ae.ents.length bn]) (.c .z (.c .z .n)) (fun w S h=>cZ ae h) ?_
 refine Y.ad (c:=aH bJ f.inodes [.slice (some ac) f.inodes.length ar]) (.c .g3 (.c .z (.c .z (.c .z .n)))) (eM (K:=cR) an aq a7) ?_
 have ah:(aG f.inodes a).length=y4.ents.length∨True:= .inr trivial
 try have ai:(aG f.inodes a).length=y4.ents.length:=by rw [au]
 have aj:=eW (s:=s) ht au
 have ak:(aG f.inodes a).length=af.ents.length∨True:= .inr trivial
 try have al:(aG f.inodes a).length=af.ents.length:=by rw [ag]
 have am:=eW (s:=s) ht ag
 have ax:(aG f.inodes a).length=ae.ents.length∨True:= .inr trivial
 try have ay:(aG f.inodes a).length=ae.ents.length:=by rw [ao]
 have az:=eW (s:=s) ht ao
 have hlk:aY f.inodes b=1∨dJ f.inodes b=0:=by by_cases hk:aY f.inodes b=1;exact .inl hk;exact .inr (kG hI hk)
 refine Y.i (aU rfl .z) (.c .g1 (.c .z (.c .z .n))) ?_
 first |(have hc:=sS (f:=f) (a:=a) (s:=s) (b:=b) (by omega);exact⟨_,_,by rw [hc],by rw [iL (by rw [hc];decide)]⟩) |(have hc:=sZ (f:=f) (a:=a) (s:=s) (b:=b) (by omega) (by rintro⟨⟨h1,h2⟩,h3⟩;first | omega |(simp_all;done) |(simp_all;omega));exact⟨_,_,by rw [hc],by rw [iL (by rw [hc];decide)]⟩) |(have hc:=sN (f:=f) (a:=a) (s:=s) (b:=b) (by omega) ⟨⟨by omega,by omega⟩,by omega⟩ (by omega);exact⟨_,_,by rw [hc],by rw [iL (by rw [hc];decide)]⟩) |(have hc:=lH (f:=f) (a:=a) (s:=s) (b:=b) (by omega) ⟨⟨by omega,by omega⟩,by omega⟩ (by omega);exact⟨_,_,by rw [hc],by rw [rL hc (by omega)]⟩) |(have hc:=lH (f:=f) (a:=a) (s:=s) (b:=b) (by omega) ⟨⟨by omega,by omega⟩,by omega⟩ (by omega);exact⟨_,_,by rw [hc],by rw [rI hc (by omega)]⟩)
 refine Y.qg rfl rfl .z rfl rfl rfl (aR rfl (.t .g11)) ?_
 refine Y.qg rfl rfl .g1 rfl rfl rfl (aR rfl (.t .z)) ?_
 refine Y.al .z (fun g44=> ?_) (fun g44=> ?_)
 refine Y.qg rfl rfl .z rfl rfl rfl (aR rfl (.t (.s16 (.s16 (.s16 .g2))))) ?_
 refine Y.qg rfl rfl .g1 rfl rfl rfl (dZ rfl (.t .z)) ?_
 refine Y.qg rfl rfl .g2 rfl rfl rfl (aN rfl (.t .z) (fun _=>aP _ _)) ?_
 refine Y.qg rfl rfl .g3 rfl rfl rfl (aM rfl bR (.t .z) (WS.g .g5 rfl)) ?_
 refine Y.qg rfl rfl .g4 rfl rfl rfl (aR rfl (.t (.s16 (.s16 (.s16 .g9))))) ?_
 refine Y.ad (c:=aH cR ae [.int .i64 ae.kind,.int .i64 ae.links,.int .i64 ae.size,.slice bj ae.blocks.length bk,.slice bm ae.ents.length bn]) (.c .z (.c .z .n)) (fun w S h=>cZ ae h) ?_
 refine Y.ad (c:=aH bJ f.inodes [.slice (some ac) f.inodes.length ar]) (.c .g3 (.c .z (.c .z (.c .z .n)))) (eM (K:=cR) an aq a7) ?_
 refine Y.aa (.c .z .n) fP ?_
 rintro cr a0
 obtain⟨ap,a1⟩:=aK (xs:=f.inodes) (j:=Int.toNat b) (by first | omega |(simp only [dG,dF,dT];omega))
 obtain⟨f7,be⟩:=aK (xs:=cr) (j:=Int.toNat b) (by rw [a0];exact(List.getElem?_eq_some_iff.1 a1).1)
 refine Y.au .g1 (eJ a1 be) ?_
 refine Y.aa (.c .z .n) fC ?_
 rintro⟨f8,f9⟩ rfl
 refine Y.h (WS.a .z) ?_
 rintro⟨b7,b8,rfl,dz,d0,d1⟩
 refine Y.h (WS.a .g1) ?_
 rintro⟨b9,ca,rfl,d2,d3,d4⟩
 have fh:=cO (i:=b) a1 (by omega)
 have a8:=cP (a:=b) a1 (by omega)
 have fi:=dL (a:=b) a1 (by omega)
 have d5:(aG f.inodes b).length=ap.ents.length:=by rw [a8]
 refine Y.qg rfl rfl .g5 rfl rfl rfl (aB (j:=Int.toNat b) rfl cQ aT (.t .g1) (.t .z) (by omega) (by first | omega |(simp only [dG,dF,dT];omega))) ?_
 refine Y.qg rfl rfl .g6 rfl rfl rfl (aN rfl (.t .z) (fun _=>iZ _ _)) ?_
 refine Y.qg rfl rfl .g7 rfl rfl rfl (aM rfl bP (.t .z) (WS.j .g4 be rfl)) ?_
 refine Y.qg rfl rfl .g8 rfl rfl rfl (nH rfl (.t .z) .c) ?_
 refine Y.qg rfl rfl .g11 rfl rfl rfl (bI rfl (.t .g9) (.t .z)) ?_
 refine Y.ql rfl (bH rfl (.t .g12) (.t .z)) (Y.nt ?_)
 refine Y.u (.t .z) (fun fj=> ?_) (fun fj=> ?_)
 refine Y.seq (Y.region (Y.er (.s16 (.s16 (.s16 .g12))) (Y.ql rfl (aA rfl .c) (Y.nt (Y.ret (Y.j ?_))))))
 refine Y.ad (c:=aH cR ap [.int .i64 ap.kind,.int .i64 ap.links,.int .i64 ap.size,.slice b7 ap.blocks.length b8,.slice b9 ap.ents.length ca]) (.c .z (.c .z .n)) (fun w S h=>cZ ap h) ?_
 refine Y.ad (c:=aH bJ f.inodes [.slice (some ac) f.inodes.length ar]) (.c .g3 (.c .z (.c .z (.c .z .n)))) (eM (K:=cR) a0 a1 be) ?_
 have ah:(aG f.inodes a).length=y4.ents.length∨True:= .inr trivial
 try have ai:(aG f.inodes a).length=y4.ents.length:=by rw [au]
 have aj:=eW (s:=s) ht au
 have ak:(aG f.inodes a).length=af.ents.length∨True:= .inr trivial
 try have al:(aG f.inodes a).length=af.ents.length:=by rw [ag]
 have am:=eW (s:=s) ht ag
 have ax:(aG f.inodes a).length=ae.ents.length∨True:= .inr trivial
 try have ay:(aG f.inodes a).length=ae.ents.length:=by rw [ao]
 have az:=eW (s:=s) ht ao
 have bo:(aG f.inodes a).length=ap.ents.length∨True:= .inr trivial
 try have bp:(aG f.inodes a).length=ap.ents.length:=by rw [a8]
 have bq:=eW (s:=s) ht a8
 have hlk:aY f.inodes b=1∨dJ f.inodes b=0:=by by_cases hk:aY f.inodes b=1;exact .inl hk;exact .inr (kG hI hk)
 refine Y.i (aU rfl .z) (.c .g1 (.c .z (.c .z .n))) ?_
 first |(have hc:=sS (f:=f) (a:=a) (s:=s) (b:=b) (by omega);exact⟨_,_,by rw [hc],by rw [iL (by rw [hc];decide)]⟩) |(have hc:=sZ (f:=f) (a:=a) (s:=s) (b:=b) (by omega) (by rintro⟨⟨h1,h2⟩,h3⟩;first | omega |(simp_all;done) |(simp_all;omega));exact⟨_,_,by rw [hc],by rw [iL (by rw [hc];decide)]⟩) |(have hc:=sN (f:=f) (a:=a) (s:=s) (b:=b) (by omega) ⟨⟨by omega,by omega⟩,by omega⟩ (by omega);exact⟨_,_,by rw [hc],by rw [iL (by rw [hc];decide)]⟩) |(have hc:=lH (f:=f) (a:=a) (s:=s) (b:=b) (by omega) ⟨⟨by omega,by omega⟩,by omega⟩ (by omega);exact⟨_,_,by rw [hc],by rw [rL hc (by omega)]⟩) |(have hc:=lH (f:=f) (a:=a) (s:=s) (b:=b) (by omega) ⟨⟨by omega,by omega⟩,by omega⟩ (by omega);exact⟨_,_,by rw [hc],by rw [rI hc (by omega)]⟩)
 refine Y.skip (Y.g (Y.seq ?_))
 refine Y.ad (c:=aH cR ap [.int .i64 ap.kind,.int .i64 ap.links,.int .i64 ap.size,.slice b7 ap.blocks.length b8,.slice b9 ap.ents.length ca]) (.c .z (.c .z .n)) (fun w S h=>cZ ap h) ?_
 refine Y.ad (c:=aH bJ f.inodes [.slice (some ac) f.inodes.length ar]) (.c .g3 (.c .z (.c .z (.c .z .n)))) (eM (K:=cR) a0 a1 be) ?_
 refine Y.aa (.c .z .n) fP ?_
 rintro cb a9
 obtain⟨aa,a2⟩:=aK (xs:=f.inodes) (j:=Int.toNat a) (by first | omega |(simp only [dG,dF,dT];omega))
 obtain⟨ga,br⟩:=aK (xs:=cb) (j:=Int.toNat a) (by rw [a9];exact(List.getElem?_eq_some_iff.1 a2).1)
 refine Y.au .g1 (eJ a2 br) ?_
 refine Y.aa (.c .z .n) fC ?_
 rintro⟨gb,gc⟩ rfl
 refine Y.h (WS.a .z) ?_
 rintro⟨cc,cd,rfl,d6,d7,d8⟩
 refine Y.h (WS.a .g1) ?_
 rintro⟨fk,fl,rfl,d9,ea,eb⟩
 have fm:=cO (i:=a) a2 (by omega)
 have bf:=cP (a:=a) a2 (by omega)
 have fn:=dL (a:=a) a2 (by omega)
 have ec:(aG f.inodes a).length=aa.ents.length:=by rw [bf]
 refine Y.sel (.c .z (.c .z (.c .g4 (.c .z (.c .z (.c .z (.c .z .n))))))) ?_
 refine Y.dr .g3 19 fR ?_
 refine Y.sc (qs 0 16++ [(16,false),(17,false),(18,true),(19,false)]) (by kernel_rfl) ?_
 refine Y.dm rfl rfl .g3 (.s16 (.s16 (.s16 .g13))) (Y.dn rfl rfl .g3 .z (Y.df rfl rfl .g3 .z aP (Y.dl rfl rfl .g3 bR .z .g3 (Y.dk rfl rfl .g3 (aR rfl (.t (.s16 (.s16 (.s16 (.s16 .g2)))))) (Y.dk rfl rfl .g3 (aR rfl (.t (.s16 (.s16 (.s16 (.s16 .g2)))))) (Y.dn rfl rfl .g3 .z (Y.df rfl rfl .g3 .z aP (Y.dl rfl rfl .g3 bR .z .g3 ?_))))))))
 refine Y.dk rfl rfl .g3 (aR rfl (.t (.s16 (.s16 (.s16 (.s16 .g7)))))) ?_
 refine Y.dk rfl rfl .g3 (aB (j:=Int.toNat a) rfl cQ aT (.t .g1) (.t .z) (by omega) (by first | omega |(simp only [dG,dF,dT];omega))) ?_
 refine Y.df rfl rfl .g3 .z bL (Y.dk rfl rfl .g3 (aM rfl dX (.t .z) (WS.j .g2 br rfl)) (Y.dk rfl rfl .g3 (aR rfl (.t (.s16 (.s16 (.s16 (.s16 .g12)))))) (Y.dk rfl rfl .g3 (aR rfl (.t (.s16 (.s16 (.s16 (.s16 .g14)))))) (Y.dk rfl rfl .g3 (aW (cs:= [.string s,.int .i64 b]) rfl uJ (pv2 (.t .g1) (.t .z)) rfl) ?_))))
 refine Y.call (aC rfl rfl) rfl (by decide) rfl (bE rfl Tryz.func114 rfl rfl (aS (.t .g3) (.t .z))) .n (fun _ _ hs tr=>aEd (tr.own .g1) (uW (⟨s,b⟩:bO) (by assumption)) (by omega)) ?_
 rintro _ _ rfl
 refine Y.m (.c .n) ?_
 refine Y.h (WS.a .z) ?_
 rintro⟨bs,bt,rfl,ed,ee,ef⟩
 refine Y.sk .g4 ?_
 refine Y.q (aC rfl rfl) rfl (by decide) rfl (aB (j:=Int.toNat a) rfl cQ aT (.t .g13) (.t .g12) (by omega) (by first | omega |(simp only [dG,dF,dT];omega))) ?_
 refine Y.sk .g4 ?_
 refine Y.df rfl rfl .g4 .z bL ?_
 refine Y.es (aC rfl rfl) rfl (kU (j:=Int.toNat a) (off:=4) (cs:= [.slice bs (fZ aa.ents (⟨s,b⟩:bO)).length bt]) rfl qO (.t .z) (jA _ _ _) (.t .g2) rfl (pX rfl) .g6 br (Nat.le_of_ble_eq_true rfl)) ?_
 refine Y.ah (x':=List.set cb (Int.toNat a) [.int .i64 aa.kind,.int .i64 aa.links,.int .i64 aa.size,.slice cc aa.blocks.length cd,.slice bs (fZ aa.ents (⟨s,b⟩:bO)).length bt]) .z rfl ?_
 refine Y.sl rfl ?_
 refine Y.w ?_
 refine Y.af (by kernel_rfl) ?_
 refine Y.g (Y.seq (Y.seq (Y.region (Y.mv rfl (.s16 (.s16 .g11)) (Y.nt ?_)))))
 refine Y.u (.t .z) (fun fo=> ?_) (fun fo=> ?_)
 refine Y.region (Y.ql rfl (aR rfl (.t (.s16 (.s16 (.s16 (.s16 (.s16 .g1))))))) (Y.nc rfl .z (Y.fa rfl .z aP (Y.ld rfl bR .z .g7 (Y.ql rfl (aR rfl (.t (.s16 (.s16 (.s16 (.s16 (.s16 .g8))))))) ?_)))))
 refine Y.ad (c:=aH cR (⟨aa.kind,aa.links,aa.size,aa.blocks,fZ aa.ents (⟨s,b⟩:bO)⟩:aF) [.int .i64 aa.kind,.int .i64 aa.links,.int .i64 aa.size,.slice cc aa.blocks.length cd,.slice bs (fZ aa.ents (⟨s,b⟩:bO)).length bt]) (.c .g2 (.c .g1 .n)) (fun w S h=>cZ (⟨aa.kind,aa.links,aa.size,aa.blocks,fZ aa.ents (⟨s,b⟩:bO)⟩:aF) h) ?_
 refine Y.ad (c:=aH bJ (List.set f.inodes (Int.toNat a) (⟨aa.kind,aa.links,aa.size,aa.blocks,fZ aa.ents (⟨s,b⟩:bO)⟩:aF)) [.slice (some ac) f.inodes.length ar]) (.c .g1 (.c .z (.c .g2 (.c .g2 .n)))) (eU (K:=cR) a9 (List.getElem?_eq_some_iff.1 a2).1 rfl) ?_
 have ct:List.set f.inodes (Int.toNat a) (⟨aa.kind,aa.links,aa.size,aa.blocks,fZ aa.ents (⟨s,b⟩:bO)⟩:aF)=gL f.inodes a (fZ (aG f.inodes a) ⟨s,b⟩):=(by rw [bf];exact xF a2 (by omega))
 refine Y.ak .z (congrArg (fun z_=>(aH bJ (z_) [.slice (some ac) f.inodes.length ar]:Asn)) ct) ?_
 refine Y.aa (.c .z .n) fP ?_
 rintro ce ba
 obtain⟨ad,a4⟩:=aK (xs:=gL f.inodes a (fZ (aG f.inodes a) ⟨s,b⟩)) (j:=Int.toNat b) (by first | omega |(simp only [dG,dF,dT];omega))
 obtain⟨gd,bu⟩:=aK (xs:=ce) (j:=Int.toNat b) (by rw [ba];exact(List.getElem?_eq_some_iff.1 a4).1)
 refine Y.au .g1 (eJ a4 bu) ?_
 refine Y.aa (.c .z .n) fC ?_
 rintro⟨ge,gf⟩ rfl
 refine Y.h (WS.a .z) ?_
 rintro⟨cf,cg,rfl,eg,eh,ei⟩
 refine Y.h (WS.a .g1) ?_
 rintro⟨ch,ci,rfl,ej,ek,em⟩
 have hTl:(gL f.inodes a (fZ (aG f.inodes a) ⟨s,b⟩)).length=f.inodes.length:=dF
 have hTk:aY (gL f.inodes a (fZ (aG f.inodes a) ⟨s,b⟩)) b=aY f.inodes b:=xG
 have hTn:dJ (gL f.inodes a (fZ (aG f.inodes a) ⟨s,b⟩)) b=dJ f.inodes b:=aCs
 have hLb:(0≤dJ f.inodes b∧dJ f.inodes b≤60)∨aY f.inodes b≠1:=by by_cases hk:aY f.inodes b=1;exact .inl (by have:=aCn hI hk;omega);exact .inr hk
 have kT:=cO (i:=b) a4 (by omega)
 have lT:=dL (a:=b) a4 (by omega)
 refine Y.ql rfl (aB (j:=Int.toNat b) rfl cQ aT (.t .g1) (.t .z) (by omega) (by first | omega |(simp only [dG,dF,dT];omega))) ?_
 refine Y.fa rfl .z iZ (Y.ql rfl (aM rfl bP (.t .z) (WS.j .g4 bu rfl)) ?_)
 refine Y.ql rfl (bN (c:=ad.links+1) rfl (.t .z) .c (wr (by omega) (by omega) (by omega))) ?_
 refine Y.ql rfl (aB (j:=Int.toNat b) rfl cQ aT (.t .g5) (.t .g4) (by omega) (by first | omega |(simp only [dG,dF,dT];omega))) ?_
 refine Y.fa rfl .z iZ ?_
 refine Y.es (aE rfl) rfl (kU (j:=Int.toNat b) (off:=1) (cs:= [.int .i64 (ad.links+1)]) rfl jO (.t .z) (jA _ _ _) (.t .g2) rfl (pX rfl) .g4 bu (Nat.le_of_ble_eq_true rfl)) ?_
 refine Y.ah (x':=List.set ce (Int.toNat b) [.int .i64 ad.kind,.int .i64 (ad.links+1),.int .i64 ad.size,.slice cf ad.blocks.length cg,.slice ch ad.ents.length ci]) .z rfl ?_
 refine Y.nt (Y.seq (Y.region (Y.er (.s16 (.s16 (.s16 (.s16 (.s16 .g11))))) (Y.ql rfl (aA rfl .c) (Y.nt (Y.ret ?_))))))
 refine Y.ad (c:=aH cR (⟨ad.kind,ad.links+1,ad.size,ad.blocks,ad.ents⟩:aF) [.int .i64 ad.kind,.int .i64 (ad.links+1),.int .i64 ad.size,.slice cf ad.blocks.length cg,.slice ch ad.ents.length ci]) (.c .g1 (.c .g1 .n)) (fun w S h=>cZ (⟨ad.kind,ad.links+1,ad.size,ad.blocks,ad.ents⟩:aF) h) ?_
 refine Y.ad (c:=aH bJ (List.set (gL f.inodes a (fZ (aG f.inodes a) ⟨s,b⟩)) (Int.toNat b) (⟨ad.kind,ad.links+1,ad.size,ad.blocks,ad.ents⟩:aF)) [.slice (some ac) f.inodes.length ar]) (.c .g1 (.c .z (.c .z (.c .z .n)))) (eU (K:=cR) ba (List.getElem?_eq_some_iff.1 a4).1 rfl) ?_
 have ah:(aG f.inodes a).length=y4.ents.length∨True:= .inr trivial
 try have ai:(aG f.inodes a).length=y4.ents.length:=by rw [au]
 have aj:=eW (s:=s) ht au
 have ak:(aG f.inodes a).length=af.ents.length∨True:= .inr trivial
 try have al:(aG f.inodes a).length=af.ents.length:=by rw [ag]
 have am:=eW (s:=s) ht ag
 have ax:(aG f.inodes a).length=ae.ents.length∨True:= .inr trivial
 try have ay:(aG f.inodes a).length=ae.ents.length:=by rw [ao]
 have az:=eW (s:=s) ht ao
 have bo:(aG f.inodes a).length=ap.ents.length∨True:= .inr trivial
 try have bp:(aG f.inodes a).length=ap.ents.length:=by rw [a8]
 have bq:=eW (s:=s) ht a8
 have cu:(aG f.inodes a).length=aa.ents.length∨True:= .inr trivial
 try have cv:(aG f.inodes a).length=aa.ents.length:=by rw [bf]
 have cw:=eW (s:=s) ht bf
 have hlk:aY f.inodes b=1∨dJ f.inodes b=0:=by by_cases hk:aY f.inodes b=1;exact .inl hk;exact .inr (kG hI hk)
 have cx:List.set (gL f.inodes a (fZ (aG f.inodes a) ⟨s,b⟩)) (Int.toNat b) (⟨ad.kind,ad.links+1,ad.size,ad.blocks,ad.ents⟩:aF)=fL (gL f.inodes a (fZ (aG f.inodes a) ⟨s,b⟩)) b (dJ f.inodes b+1):=(by rw [←hTn,lT];exact uQ a4 (by omega))
 refine Y.ak .z (congrArg (fun z_=>(aH bJ (z_) [.slice (some ac) f.inodes.length ar]:Asn)) cx) ?_
 refine Y.i (aU rfl .z) (.c .g3 (.c .z (.c .g1 .n))) ?_
 first |(have hc:=sS (f:=f) (a:=a) (s:=s) (b:=b) (by omega);exact⟨_,_,by rw [hc],by rw [iL (by rw [hc];decide)]⟩) |(have hc:=sZ (f:=f) (a:=a) (s:=s) (b:=b) (by omega) (by rintro⟨⟨h1,h2⟩,h3⟩;first | omega |(simp_all;done) |(simp_all;omega));exact⟨_,_,by rw [hc],by rw [iL (by rw [hc];decide)]⟩) |(have hc:=sN (f:=f) (a:=a) (s:=s) (b:=b) (by omega) ⟨⟨by omega,by omega⟩,by omega⟩ (by omega);exact⟨_,_,by rw [hc],by rw [iL (by rw [hc];decide)]⟩) |(have hc:=lH (f:=f) (a:=a) (s:=s) (b:=b) (by omega) ⟨⟨by omega,by omega⟩,by omega⟩ (by omega);exact⟨_,_,by rw [hc],by rw [rL hc (by omega)]⟩) |(have hc:=lH (f:=f) (a:=a) (s:=s) (b:=b) (by omega) ⟨⟨by omega,by omega⟩,by omega⟩ (by omega);exact⟨_,_,by rw [hc],by rw [rI hc (by omega)]⟩)
 exfalso;first | omega | contradiction
 refine Y.r rfl rfl .z rfl rfl (by decide) rfl ?_
 refine Y.r rfl rfl .g1 rfl rfl (by decide) rfl ?_
 refine Y.r rfl rfl .g2 rfl rfl (by decide) rfl ?_
 refine Y.r rfl rfl .g3 rfl rfl (by decide) rfl ?_
 refine Y.r rfl rfl .g4 rfl rfl (by decide) rfl ?_
 refine Y.r rfl rfl .g5 rfl rfl (by decide) rfl ?_
 refine Y.r rfl rfl .g6 rfl rfl (by decide) rfl ?_
 refine Y.r rfl rfl .g7 rfl rfl (by decide) rfl ?_
 refine Y.r rfl rfl .g8 rfl rfl (by decide) rfl ?_
 refine Y.qg rfl rfl .g11 rfl rfl rfl (bH rfl (.t .g9) .c) ?_
 refine Y.ql rfl (bH rfl (.t .g12) (.t .z)) (Y.nt ?_)
 refine Y.ap (.t .z) ?_
 refine Y.skip (Y.g (Y.seq ?_))
 refine Y.ad (c:=aH cR ae [.int .i64 ae.kind,.int .i64 ae.links,.int .i64 ae.size,.slice bj ae.blocks.length bk,.slice bm ae.ents.length bn]) (.c .z (.c .z .n)) (fun w S h=>cZ ae h) ?_
 refine Y.ad (c:=aH bJ f.inodes [.slice (some ac) f.inodes.length ar]) (.c .g3 (.c .z (.c .z (.c .z .n)))) (eM (K:=cR) an aq a7) ?_
 refine Y.aa (.c .z .n) fP ?_
 rintro cj bb
 obtain⟨ab,a3⟩:=aK (xs:=f.inodes) (j:=Int.toNat a) (by first | omega |(simp only [dG,dF,dT];omega))
 obtain⟨gg,bv⟩:=aK (xs:=cj) (j:=Int.toNat a) (by rw [bb];exact(List.getElem?_eq_some_iff.1 a3).1)
 refine Y.au .g1 (eJ a3 bv) ?_
 refine Y.aa (.c .z .n) fC ?_
 rintro⟨gh,gi⟩ rfl
 refine Y.h (WS.a .z) ?_
 rintro⟨ck,cm,rfl,en,eo,ep⟩
 refine Y.h (WS.a .g1) ?_
 rintro⟨fp,fq,rfl,et,eu,ev⟩
 have fr:=cO (i:=a) a3 (by omega)
 have bg:=cP (a:=a) a3 (by omega)
 have ft:=dL (a:=a) a3 (by omega)
 have ew:(aG f.inodes a).length=ab.ents.length:=by rw [bg]
 refine Y.sel (.c .z (.c .z (.c .g4 (.c .z (.c .z (.c .z (.c .z .n))))))) ?_
 refine Y.dr .g3 19 fR ?_
 refine Y.sc (qs 0 16++ [(16,false),(17,false),(18,true),(19,false)]) (by kernel_rfl) ?_
 refine Y.dm rfl rfl .g3 (.s16 (.s16 (.s16 .g13))) (Y.dn rfl rfl .g3 .z (Y.df rfl rfl .g3 .z aP (Y.dl rfl rfl .g3 bR .z .g3 (Y.dk rfl rfl .g3 (aR rfl (.t (.s16 (.s16 (.s16 (.s16 .g2)))))) (Y.dk rfl rfl .g3 (aR rfl (.t (.s16 (.s16 (.s16 (.s16 .g2)))))) (Y.dn rfl rfl .g3 .z (Y.df rfl rfl .g3 .z aP (Y.dl rfl rfl .g3 bR .z .g3 ?_))))))))
 refine Y.dk rfl rfl .g3 (aR rfl (.t (.s16 (.s16 (.s16 (.s16 .g7)))))) ?_
 refine Y.dk rfl rfl .g3 (aB (j:=Int.toNat a) rfl cQ aT (.t .g1) (.t .z) (by omega) (by first | omega |(simp only [dG,dF,dT];omega))) ?_
 refine Y.df rfl rfl .g3 .z bL (Y.dk rfl rfl .g3 (aM rfl dX (.t .z) (WS.j .g2 bv rfl)) (Y.dk rfl rfl .g3 (aR rfl (.t (.s16 (.s16 (.s16 (.s16 .g12)))))) (Y.dk rfl rfl .g3 (aR rfl (.t (.s16 (.s16 (.s16 (.s16 .g14)))))) (Y.dk rfl rfl .g3 (aW (cs:= [.string s,.int .i64 b]) rfl uJ (pv2 (.t .g1) (.t .z)) rfl) ?_))))
 refine Y.call (aC rfl rfl) rfl (by decide) rfl (bE rfl Tryz.func114 rfl rfl (aS (.t .g3) (.t .z))) .n (fun _ _ hs tr=>aEd (tr.own .g1) (uW (⟨s,b⟩:bO) (by assumption)) (by omega)) ?_
 rintro _ _ rfl
 refine Y.m (.c .n) ?_
 refine Y.h (WS.a .z) ?_
 rintro⟨bc,bd,rfl,cy,cz,c0⟩
 refine Y.sk .g4 ?_
 refine Y.q (aC rfl rfl) rfl (by decide) rfl (aB (j:=Int.toNat a) rfl cQ aT (.t .g13) (.t .g12) (by omega) (by first | omega |(simp only [dG,dF,dT];omega))) ?_
 refine Y.sk .g4 ?_
 refine Y.df rfl rfl .g4 .z bL ?_
 refine Y.es (aC rfl rfl) rfl (kU (j:=Int.toNat a) (off:=4) (cs:= [.slice bc (fZ ab.ents (⟨s,b⟩:bO)).length bd]) rfl qO (.t .z) (jA _ _ _) (.t .g2) rfl (pX rfl) .g6 bv (Nat.le_of_ble_eq_true rfl)) ?_
 refine Y.ah (x':=List.set cj (Int.toNat a) [.int .i64 ab.kind,.int .i64 ab.links,.int .i64 ab.size,.slice ck ab.blocks.length cm,.slice bc (fZ ab.ents (⟨s,b⟩:bO)).length bd]) .z rfl ?_
 refine Y.sl rfl ?_
 refine Y.w ?_
 refine Y.af (by kernel_rfl) ?_
 refine Y.g (Y.seq (Y.seq (Y.region (Y.mv rfl (.s16 (.s16 .g11)) (Y.nt ?_)))))
 refine Y.u (.t .z) (fun c1=> ?_) (fun c1=> ?_)
 exfalso;first | omega | contradiction
 refine Y.skip (Y.g (Y.seq (Y.region (Y.er (.s16 (.s16 (.s16 (.s16 .g16)))) (Y.ql rfl (aA rfl .c) (Y.nt (Y.ret ?_)))))))
 refine Y.ad (c:=aH cR (⟨ab.kind,ab.links,ab.size,ab.blocks,fZ ab.ents (⟨s,b⟩:bO)⟩:aF) [.int .i64 ab.kind,.int .i64 ab.links,.int .i64 ab.size,.slice ck ab.blocks.length cm,.slice bc (fZ ab.ents (⟨s,b⟩:bO)).length bd]) (.c .g2 (.c .g1 .n)) (fun w S h=>cZ (⟨ab.kind,ab.links,ab.size,ab.blocks,fZ ab.ents (⟨s,b⟩:bO)⟩:aF) h) ?_
 refine Y.ad (c:=aH bJ (List.set f.inodes (Int.toNat a) (⟨ab.kind,ab.links,ab.size,ab.blocks,fZ ab.ents (⟨s,b⟩:bO)⟩:aF)) [.slice (some ac) f.inodes.length ar]) (.c .g1 (.c .z (.c .g2 (.c .g2 .n)))) (eU (K:=cR) bb (List.getElem?_eq_some_iff.1 a3).1 rfl) ?_
 have cn:List.set f.inodes (Int.toNat a) (⟨ab.kind,ab.links,ab.size,ab.blocks,fZ ab.ents (⟨s,b⟩:bO)⟩:aF)=gL f.inodes a (fZ (aG f.inodes a) ⟨s,b⟩):=(by rw [bg];exact xF a3 (by omega))
 refine Y.ak .z (congrArg (fun z_=>(aH bJ (z_) [.slice (some ac) f.inodes.length ar]:Asn)) cn) ?_
 have ah:(aG f.inodes a).length=y4.ents.length∨True:= .inr trivial
 try have ai:(aG f.inodes a).length=y4.ents.length:=by rw [au]
 have aj:=eW (s:=s) ht au
 have ak:(aG f.inodes a).length=af.ents.length∨True:= .inr trivial
 try have al:(aG f.inodes a).length=af.ents.length:=by rw [ag]
 have am:=eW (s:=s) ht ag
 have ax:(aG f.inodes a).length=ae.ents.length∨True:= .inr trivial
 try have ay:(aG f.inodes a).length=ae.ents.length:=by rw [ao]
 have az:=eW (s:=s) ht ao
 have c2:(aG f.inodes a).length=ab.ents.length∨True:= .inr trivial
 try have c3:(aG f.inodes a).length=ab.ents.length:=by rw [bg]
 have c4:=eW (s:=s) ht bg
 have hlk:aY f.inodes b=1∨dJ f.inodes b=0:=by by_cases hk:aY f.inodes b=1;exact .inl hk;exact .inr (kG hI hk)
 refine Y.i (aU rfl .z) (.c .g3 (.c .z (.c .g1 .n))) ?_
 first |(have hc:=sS (f:=f) (a:=a) (s:=s) (b:=b) (by omega);exact⟨_,_,by rw [hc],by rw [iL (by rw [hc];decide)]⟩) |(have hc:=sZ (f:=f) (a:=a) (s:=s) (b:=b) (by omega) (by rintro⟨⟨h1,h2⟩,h3⟩;first | omega |(simp_all;done) |(simp_all;omega));exact⟨_,_,by rw [hc],by rw [iL (by rw [hc];decide)]⟩) |(have hc:=sN (f:=f) (a:=a) (s:=s) (b:=b) (by omega) ⟨⟨by omega,by omega⟩,by omega⟩ (by omega);exact⟨_,_,by rw [hc],by rw [iL (by rw [hc];decide)]⟩) |(have hc:=lH (f:=f) (a:=a) (s:=s) (b:=b) (by omega) ⟨⟨by omega,by omega⟩,by omega⟩ (by omega);exact⟨_,_,by rw [hc],by rw [rL hc (by omega)]⟩) |(have hc:=lH (f:=f) (a:=a) (s:=s) (b:=b) (by omega) ⟨⟨by omega,by omega⟩,by omega⟩ (by omega);exact⟨_,_,by rw [hc],by rw [rI hc (by omega)]⟩)

theorem aHl {w0:World}{S0:Bs}{f:DFs}{a1:Addr} (h0:eV dV w0 (FF w0 S0) a1 f) {x:(List ByteArray)}{v1:Value} (h1:cT.ro w0 (FF w0 S0) x [v1]) (ht:J0 f):
    Calls Tryz.prog 131 #[.pointer (some a1),v1] w0 (aI w0 S0 (fun r l=>r= .tuple #[.int .i64 (wkC f.inodes 0 x).1,.int .i64 (wkC f.inodes 0 x).2]∧l= [])):=by
 obtain⟨cc,a2,bv,a3⟩:=id h0
 obtain⟨bw,bx,rfl,a4,a5⟩:=bZ bv
 obtain⟨bz,b0,rfl,bf,bg,bh,al⟩:=aD a4
 obtain⟨b1,b2,rfl,bi,bj,bk,bm⟩:=aD a5
 obtain⟨A1,c1,rfl,cd,ce,cf,b3⟩:=aD h1
 have hI:=ht
 have cg:=jV ht
 refine Y.enter (N:=52) Tryz.func131 rfl rfl (by simp) [(0,.pointer (some a1)),(1,.slice A1 x.length c1)] (by simp) (l0:= []) trivial ?_
 refine Y.seq (Y.region (Y.ql rfl (aA rfl .c) (Y.ql rfl (aA rfl .c) (Y.nt (Y.seq (Y.region (Y.ql rfl (aA rfl .c) ?_)))))))
 refine Y.nt (Y.seq (Y.seq (Y.region (Y.ql rfl (aA rfl .c) (Y.nt (Y.block ?_))))))
 refine Y.ai (γ:=Nat×Int) (fun⟨k,a⟩=> [(7,.int .i64 (k:Int)),(6,.int .i64 a),(0,.pointer (some a1)),(1,.slice A1 x.length c1)]) (fun⟨k,a⟩=> []) (fun⟨k,a⟩=>k≤x.length∧bQ f.inodes.length a∧wkC f.inodes 0 x=wkC f.inodes a (x.drop k)) (fun⟨k,a⟩=>x.length - k) (0,0) ⟨Nat.zero_le _,jV ht,rfl⟩ (.c .z (.c .g1 (.c .g4 (.c .g5 .n)))) (fun _ h=>h) ?_
 rintro⟨k,a⟩ ⟨hk,hpa,hwk⟩
 obtain⟨ch,ci⟩:=hpa
 have hor:=fun s:ByteArray=>eW (s:=s) (a:=a) ht rfl
 refine Y.seq (Y.seq (Y.region (Y.mv rfl .z (Y.mv rfl .g4 (Y.ql rfl (bD rfl eQ (.t .z)) (Y.ql rfl (dA rfl (.t .g2) (.t .z)) (Y.nt ?_)))))))
 refine Y.u (.t .z) (fun b4=> ?_) (fun b4=> ?_)
 refine Y.skip (Y.g (Y.seq (Y.block (Y.seq (Y.seq (Y.region (Y.mv rfl .g6 (Y.nc rfl .z ?_))))))))
 refine Y.fa rfl .z aP (Y.le rfl bR .z a2 a3 (Y.mv rfl .g9 ?_))
 obtain⟨cj,am,an⟩:=al (by omega)
 subst am
 obtain⟨x6,ao⟩:=aK (xs:=f.inodes) (j:=Int.toNat a) (by first | omega)
 obtain⟨b5,a6,ac,ad⟩:=an.elem ao
 obtain⟨bn,bo,rfl,ap,aa⟩:=bY a6
 obtain⟨bp,bq,rfl,a7,a8,a9,ba⟩:=aD ap
 obtain⟨br,bs,rfl,bb,bc,bd,ae⟩:=aD aa
 have ck:=cO (i:=a) ao (by omega)
 have aq:=cP (a:=a) ao (by omega)
 have cm:=dL (a:=a) ao (by omega)
 have cn:=mR (a:=a) ao (by omega)
 refine Y.ql rfl (aB (j:=Int.toNat a) rfl cQ aT (.t .g1) (.t .z) (by omega) (by first | omega)) ?_
 refine Y.fa rfl .z bS (Y.le rfl bP .z ac ad (Y.ql rfl (bW rfl (.t .z) .c) (Y.nt ?_)))
 refine Y.ac (.t .z) (fun b6=> ?_) (fun b6=> ?_)
 refine Y.seq (Y.region (Y.ql rfl (aA rfl .c) (Y.ql rfl (aA rfl .c) (Y.nt (Y.ret (Y.j (Y.v ?_)))))))
 refine Y.j (Y.j (Y.v (Y.j ?_)))
 refine Y.i (lA rfl .g1 .z) .n ?_
 obtain⟨zn,hzn⟩:=aK (xs:=x) (j:=k) (by omega);rw [hwk,aLb hzn (by omega)];exact⟨rfl,rfl⟩
 refine Y.skip (Y.g (Y.seq ?_))
 refine Y.dr .z 13 fR ?_
 refine Y.sc (qs 0 12++ [(12,false),(13,false)]) (by kernel_rfl) ?_
 refine Y.dm rfl rfl .z .g15 (Y.dn rfl rfl .z .z (Y.df rfl rfl .z .z aP (Y.de rfl rfl .z bR .z a2 a3 (Y.dm rfl rfl .z (.s16 .g2) ?_))))
 refine Y.dk rfl rfl .z (aB (j:=Int.toNat a) rfl cQ aT (.t .g1) (.t .z) (by omega) (by first | omega)) ?_
 refine Y.df rfl rfl .z .z bL (Y.de rfl rfl .z dX .z ac ad (Y.dm rfl rfl .z (.s16 .g8) (Y.dm rfl rfl .z (.s16 .g6) ?_)))
 obtain⟨b7,af,ag⟩:=b3 (by omega)
 subst af
 obtain⟨ab,ah⟩:=aK (xs:=x) (j:=k) (by first | omega)
 obtain⟨bt,ar,au,av⟩:=ag.elem ah
 obtain⟨rfl,b8⟩:=ar
 refine Y.dk rfl rfl .z (aB (j:=k) rfl eQ mU (.t .g1) (.t .z) rfl (by first | omega)) ?_
 refine Y.dk rfl rfl .z (aM rfl iH (.t .z) (WS.i au av rfl)) ?_
 refine Y.call (aC rfl rfl) rfl (by decide) rfl (bE rfl Tryz.func102 rfl rfl (aS (.t .g4) (.t .z))) .n (fun _ _ hs tr=>sD (tr.ctx aa) _ (by first | assumption | omega)) ?_
 rintro _ _ ⟨rfl,rfl⟩
 refine Y.m .n ?_
 refine Y.sk .z ?_
 refine Y.q (aC rfl rfl) rfl (by decide) rfl (aA rfl (.t .z)) ?_
 refine Y.sl rfl ?_
 refine Y.w ?_
 refine Y.af (by kernel_rfl) ?_
 refine Y.g (Y.seq (Y.seq (Y.region (Y.mv rfl .z (Y.ql rfl (dA rfl (.t .z) .c) (Y.nt ?_))))))
 refine Y.u (.t .z) (fun b9=> ?_) (fun b9=> ?_)
 have aw:=eW (s:=ab) (a:=a) ht aq
 have ax:=gB (dE ab) x6.ents
 refine Y.seq (Y.region (Y.ql rfl (aA rfl .c) (Y.ql rfl (aA rfl .c) (Y.nt (Y.ret (Y.j (Y.v ?_)))))))
 refine Y.j (Y.j (Y.v (Y.j ?_)))
 refine Y.i (lA rfl .g1 .z) .n ?_
 have h9:=eW (s:=ab) (a:=a) ht aq;have h8:=hor ab;rw [hwk,aKm ah (by omega) (by omega)];exact⟨rfl,rfl⟩
 have aw:=eW (s:=ab) (a:=a) ht aq
 have ax:=gB (dE ab) x6.ents
 refine Y.skip (Y.g (Y.region (Y.mv rfl (.s16 .g15) (Y.nc rfl .z (Y.fa rfl .z aP (Y.le rfl bR .z a2 a3 (Y.mv rfl (.s16 (.s16 .g2)) ?_)))))))
 refine Y.ql rfl (aB (j:=Int.toNat a) rfl cQ aT (.t .g1) (.t .z) (by omega) (by first | omega)) ?_
 refine Y.fa rfl .z bL (Y.le rfl dX .z ac ad (Y.mv rfl .g10 ?_))
 obtain⟨ca,ai,aj⟩:=ae (by omega)
 subst ai
 obtain⟨cb,ak⟩:=aK (xs:=x6.ents) (j:=Int.toNat (eX (dE ab) x6.ents)) (by first | omega)
 obtain⟨bu,ay,az,a0⟩:=aj.elem ak
 obtain⟨rfl,be⟩:=eY ay
 refine Y.ql rfl (aB (j:=Int.toNat (eX (dE ab) x6.ents)) rfl dP fA (.t .g1) (.t .z) (by omega) (by first | omega)) ?_
 refine Y.fa rfl .z gG (Y.le rfl bP .z az a0 (Y.er (.s16 (.s16 .g10)) (Y.as rfl .z (Y.nil (Y.ab (Y.g (Y.region (Y.mv rfl (.s16 (.s16 .g10)) ?_))))))))
 refine Y.ql rfl (bN (c:=((k+1:Nat):Int)) rfl (.t .z) .c (wr (by omega) (by omega) (by omega))) ?_
 refine Y.er (.s16 (.s16 .g12)) (Y.as rfl .z (Y.nil ?_))
 refine Y.ae ((k+1),cb.ino) ⟨by omega,(by have h9:=uR (by assumption) ak;rw [←aq] at h9;rw [←h9];exact vN ht (by omega)),(by have h9:=uR (by assumption) ak;rw [←aq] at h9;rw [←h9];have h8:=aLi ah (show aY f.inodes a=2 by omega) (by omega);rw [hwk,h8])⟩ (by first | omega |(dsimp only;omega)) (.c .z (.c .g3 (.c (.s16 (.s16 .g13)) (.c (.s16 (.s16 .g14)) .n)))) (fun _ h=>h)
 refine Y.exit (Y.y (Y.y (Y.ag (Y.g (Y.seq (Y.region (Y.mv rfl .g5 (Y.as rfl .z ?_))))))))
 refine Y.ql rfl (aA rfl .c) (Y.nt (Y.ret ?_))
 refine Y.i (lA rfl .g1 .z) .n ?_
 rw [hwk,aD0 (by omega)];exact⟨rfl,rfl⟩

theorem aD6 {w0:World}{S0:Bs}{f:DFs}{aa:Addr} (h0:eV dV w0 (FF w0 S0) aa f) (s:ByteArray) (a1:s.size≤140737488351232) (ht:J0 f):
    Calls Tryz.prog 106 #[.pointer (some aa),.string s] w0 (aI w0 S0 (fun r l=>r= .tuple #[.int .i64 (cC f s).1,.int .i64 (cC f s).2]∧l= [])):=by
 obtain⟨a2,a3,an,a4⟩:=id h0
 obtain⟨ao,ap,rfl,ab,ac⟩:=bZ an
 obtain⟨aq,ar,rfl,ad,ae,af,ag⟩:=aD ab
 obtain⟨au,av,rfl,ah,ai,aj,ak⟩:=aD ac
 refine Y.enter (N:=21) Tryz.func106 rfl rfl (by simp) [(0,.pointer (some aa)),(1,.string s)] (by simp) (l0:= []) trivial ?_
 refine Y.seq (Y.region (Y.ql rfl (aA rfl .c) (Y.ql rfl (aA rfl .c) (Y.nt (Y.seq (Y.region (Y.mv rfl .g3 ?_)))))))
 refine Y.cl rfl rfl Tryz.func134 rfl rfl (bG (.t .z)) .n (fun _ _ hs tr=>aH5 _ (by first | assumption | omega)) ?_
 rintro _ _ ⟨v3,rfl,rfl⟩
 refine Y.m (.c .n) ?_
 refine Y.h (WS.a .z) ?_
 rintro⟨aw,ax,rfl,ay,az,a0⟩
 have al:=(lI s).1
 refine Y.mv rfl .z (Y.ql rfl (bF (v:= .slice aw (bC s).length ax) rfl (.t .z) rfl) (Y.ql rfl (bF (v:= .int .i64 (eS s)) rfl (.t .g1) rfl) (Y.as rfl .g1 (Y.as rfl .g1 (Y.nt (Y.seq (Y.seq ?_)))))))
 refine Y.region (Y.mv rfl .z (Y.ql rfl (bW rfl (.t .z) .c) (Y.nt ?_)))
 refine Y.ac (.t .z) (fun b6=> ?_) (fun b6=> ?_)
 refine Y.seq (Y.region (Y.mv rfl .g2 (Y.er .g11 (Y.ql rfl (aA rfl .c) (Y.er .g11 (Y.as rfl .g1 (Y.nt ?_)))))))
 refine Y.ret (Y.j ?_)
 refine Y.i (lA rfl .g1 .z) .n ?_
 rw [aAf (by assumption)];exact⟨rfl,rfl⟩
 refine Y.skip (Y.g (Y.seq (Y.region (Y.mv rfl .g11 (Y.mv rfl .g4 ?_)))))
 refine Y.cl rfl rfl Tryz.func131 rfl rfl (aS (.t .g1) (.t .z)) .n (fun _ _ hs tr=>aHl (tr.ctxP h0) (tr.own .z) (by assumption)) ?_
 rintro _ _ ⟨rfl,rfl⟩
 refine Y.m .n ?_
 have am:=pE ht (bC s) 0 (jV ht)
 refine Y.ql rfl (bF (v:= .int .i64 ((wkC (f).inodes 0 (bC s)).1)) rfl (.t .z) rfl) (Y.ql rfl (bF (v:= .int .i64 ((wkC (f).inodes 0 (bC s)).2)) rfl (.t .g1) rfl) (Y.er .g15 (Y.as rfl .g1 (Y.er .g15 (Y.as rfl .g1 (Y.nt (Y.ret ?_)))))))
 refine Y.i (lA rfl .g1 .z) .n ?_
 rw [tJ (by assumption)];exact⟨rfl,rfl⟩

theorem xM {w0:World}{S0:Bs}{f:DFs}{au:Addr} (h0:eV dV w0 (FF w0 S0) au f) (s:ByteArray) (bx:s.size≤140737488351232) (ht:J0 f):
    Calls Tryz.prog 100 #[.pointer (some au),.string s] w0 (aI w0 S0 (fun r l=>r= .tuple #[.int .i64 (aO f s).1,.string (aO f s).2.1,.int .i64 (aO f s).2.2]∧l= [])):=by
 obtain⟨bz,be,bf,bg⟩:=id h0
 obtain⟨bh,bi,rfl,av,aw⟩:=bZ bf
 obtain⟨bj,bk,rfl,a3,a4,a5,ad⟩:=aD av
 obtain⟨bm,bn,rfl,a6,a7,a8,a9⟩:=aD aw
 refine Y.enter (N:=40) Tryz.func100 rfl rfl (by simp) [(0,.pointer (some au)),(1,.string s)] (by simp) (l0:= []) trivial ?_
 refine Y.seq (Y.region (Y.ql rfl (aA rfl .c) (Y.ql rfl (aA rfl .c) (Y.ql rfl (aA rfl .c) (Y.nt (Y.seq (Y.region ?_)))))))
 refine Y.mv rfl .g4 ?_
 refine Y.cl rfl rfl Tryz.func130 rfl rfl (bG (.t .z)) .n (fun _ _ hs tr=>aL3 _ (by first | assumption | omega)) ?_
 rintro _ _ ⟨v3,rfl,rfl⟩
 refine Y.m (.c .n) ?_
 refine Y.h (WS.a .z) ?_
 rintro⟨bo,bp,rfl,bq,br,bs⟩
 have ba:=sL s
 have bb:=aGo s
 refine Y.mv rfl .z (Y.ql rfl (bF (v:= .slice bo (fO s).length bp) rfl (.t .z) rfl) (Y.ql rfl (bF (v:= .string (nI s)) rfl (.t .g1) rfl) (Y.ql rfl (bF (v:= .int .i64 (jF s)) rfl (.t .g2) rfl) (Y.as rfl .g2 (Y.as rfl .g2 (Y.as rfl .g2 (Y.nt ?_)))))))
 refine Y.seq (Y.seq (Y.region (Y.mv rfl .z (Y.ql rfl (bW rfl (.t .z) .c) (Y.nt ?_)))))
 refine Y.ac (.t .z) (fun b6=> ?_) (fun b6=> ?_)
 refine Y.seq (Y.region (Y.mv rfl .g2 (Y.er .g14 (Y.ql rfl (aA rfl .c) (Y.er .g14 (Y.ql rfl (aA rfl .c) (Y.er .g14 (Y.as rfl .g2 ?_))))))))
 refine Y.nt (Y.ret (Y.j ?_))
 refine Y.i (wC rfl .g2 .g1 .z) .n ?_
 rw [vM (by assumption)];exact⟨rfl,rfl⟩
 refine Y.skip (Y.g (Y.seq (Y.region (Y.mv rfl .g14 (Y.mv rfl .g5 ?_)))))
 refine Y.cl rfl rfl Tryz.func131 rfl rfl (aS (.t .g1) (.t .z)) .n (fun _ _ hs tr=>aHl (tr.ctxP h0) (tr.own .z) (by assumption)) ?_
 rintro _ _ ⟨rfl,rfl⟩
 refine Y.m .n ?_
 have bc:=pE ht (fO s) 0 (jV ht)
 refine Y.mv rfl .z (Y.ql rfl (bF (v:= .int .i64 ((wkC (f).inodes 0 (fO s)).1)) rfl (.t .z) rfl) (Y.ql rfl (bF (v:= .int .i64 ((wkC (f).inodes 0 (fO s)).2)) rfl (.t .g1) rfl) (Y.as rfl .g1 (Y.er .g9 (Y.as rfl .g1 (Y.nt (Y.seq ?_)))))))
 refine Y.seq (Y.region (Y.mv rfl .z (Y.ql rfl (bW rfl (.t .z) .c) (Y.nt ?_))))
 refine Y.ac (.t .z) (fun b8=> ?_) (fun b8=> ?_)
 refine Y.seq (Y.region (Y.mv rfl .g2 (Y.er (.s16 .g7) (Y.ql rfl (aA rfl .c) (Y.er (.s16 .g7) (Y.ql rfl (aA rfl .c) (Y.er (.s16 .g7) (Y.as rfl .g2 ?_))))))))
 refine Y.nt (Y.ret (Y.j ?_))
 refine Y.i (wC rfl .g2 .g1 .z) .n ?_
 rw [xV (by assumption) (by assumption)];exact⟨rfl,rfl⟩
 refine Y.skip (Y.g (Y.seq (Y.seq (Y.region (Y.mv rfl (.s16 .g7) (Y.nc rfl .z (Y.fa rfl .z aP (Y.le rfl bR .z be bg ?_))))))))
 refine Y.mv rfl .g7 ?_
 obtain⟨b0,ae,af⟩:=ad (by omega)
 subst ae
 obtain⟨b1,aa⟩:=aK (xs:=f.inodes) (j:=Int.toNat ((wkC (f).inodes 0 (fO s)).1)) (by omega)
 obtain⟨bd,ag,ah,ai⟩:=af.elem aa
 obtain⟨ax,ay,rfl,ab,ac⟩:=bY ag
 obtain⟨az,a0,rfl,ak,al,am,an⟩:=aD ab
 obtain⟨a1,a2,rfl,ao,ap,aq,ar⟩:=aD ac
 have aj:=cO (i:=((wkC (f).inodes 0 (fO s)).1)) aa (by omega)
 have bt:=cP (a:=((wkC (f).inodes 0 (fO s)).1)) aa (by omega)
 have bu:=dL (a:=((wkC (f).inodes 0 (fO s)).1)) aa (by omega)
 have bv:=mR (a:=((wkC (f).inodes 0 (fO s)).1)) aa (by omega)
 refine Y.ql rfl (aB (j:=Int.toNat ((wkC (f).inodes 0 (fO s)).1)) rfl cQ aT (.t .g1) (.t .z) (by omega) (by omega)) ?_
 refine Y.fa rfl .z bS (Y.le rfl bP .z ah ai (Y.ql rfl (bW rfl (.t .z) .c) (Y.nt ?_)))
 refine Y.ac (.t .z) (fun bw=> ?_) (fun bw=> ?_)
 refine Y.seq (Y.region (Y.er (.s16 .g15) (Y.ql rfl (aA rfl .c) (Y.er (.s16 .g15) (Y.ql rfl (aA rfl .c) (Y.er (.s16 .g15) (Y.ql rfl (aA rfl .c) (Y.nil ?_))))))))
 refine Y.g (Y.ret (Y.j ?_))
 refine Y.i (wC rfl .g2 .g1 .z) .n ?_
 rw [xW (by assumption) (by assumption) (by rw [aj];assumption)];exact⟨rfl,rfl⟩
 refine Y.skip (Y.g (Y.seq (Y.region (Y.mv rfl .g12 (Y.mv rfl (.s16 .g6) (Y.er (.s16 (.s16 .g1)) (Y.as rfl .g1 (Y.er (.s16 (.s16 .g1)) ?_))))))))
 refine Y.as rfl .g1 (Y.er (.s16 (.s16 .g1)) (Y.ql rfl (aA rfl .c) (Y.nt (Y.ret ?_))))
 refine Y.i (wC rfl .g2 .g1 .z) .n ?_
 rw [vB (by assumption) (by assumption) (by rw [aj];assumption)];exact⟨rfl,rfl⟩

theorem aJa {w0:World}{S0:Bs}{f:DFs}{ab:Addr} (h0:eV dV w0 (FF w0 S0) ab f) (a:Int) (b:Int) (m:Int) (ht:J0 f) (hp:bQ f.inodes.length b) (n:Nat) (hm:m=(n:Int)) (hn:n≤10) (ih:∀(n':Nat),n'<n→∀{w0:World}{S0:Bs}{f:DFs}{ab:Addr} (h0:eV dV w0 (FF w0 S0) ab f) (a b m:Int) (ht:J0 f) (hp:bQ f.inodes.length b) (hm:m=(n':Int)) (hn:n'≤10),Calls Tryz.prog 111 #[.pointer (some ab),.int .i64 a,.int .i64 b,.int .i64 m] w0 (aI w0 S0 (fun r l=>r= .bool (wi f.inodes a n' b)∧l= []))):
    Calls Tryz.prog 111 #[.pointer (some ab),.int .i64 a,.int .i64 b,.int .i64 m] w0 (aI w0 S0 (fun r l=>r= .bool (wi f.inodes a n b)∧l= [])):=by
 obtain⟨b0,a5,bo,a6⟩:=id h0
 obtain⟨bp,bq,rfl,ar,au⟩:=bZ bo
 obtain⟨br,bs,rfl,a7,a8,a9,af⟩:=aD ar
 obtain⟨bt,bu,rfl,ba,bb,bc,bd⟩:=aD au
 have hI:=ht
 have hG:=jG ht
 obtain⟨b1,b2⟩:=hp
 refine Y.enter (N:=47) Tryz.func111 rfl rfl (by simp) [(0,.pointer (some ab)),(1,.int .i64 a),(2,.int .i64 b),(3,.int .i64 m)] (by simp) (l0:= []) trivial ?_
 refine Y.seq (Y.region (Y.ql rfl (aA rfl .c) (Y.nt (Y.seq (Y.seq (Y.region (Y.mv rfl .g2 ?_)))))))
 refine Y.mv rfl .g4 (Y.ql rfl (bU rfl (.t .g1) (.t .z)) (Y.nt ?_))
 refine Y.u (.t .z) (fun b3=> ?_) (fun b3=> ?_)
 refine Y.seq (Y.region (Y.er .g3 (Y.ql rfl (aA rfl .c) (Y.nt (Y.ret (Y.j ?_))))))
 refine Y.i (aU rfl .z) .n ?_
 exact⟨by first |(rw [aE4 (by omega)];done),rfl⟩
 refine Y.skip (Y.g (Y.seq (Y.seq (Y.region (Y.ql rfl (aA rfl .c) (Y.nt (Y.block ?_)))))))
 obtain⟨b4,ag,ah⟩:=af (by omega)
 subst ag
 obtain⟨x5,ai⟩:=aK (xs:=f.inodes) (j:=Int.toNat b) (by omega)
 obtain⟨bv,av,aj,ak⟩:=ah.elem ai
 obtain⟨be,bf,rfl,al,am⟩:=bY av
 obtain⟨bg,bh,rfl,aw,ax,ay,az⟩:=aD al
 obtain⟨bi,bj,rfl,a0,a1,a2,ac⟩:=aD am
 have b5:=cO (i:=b) ai (by omega)
 have aq:=cP (a:=b) ai (by omega)
 have a3:=J0.x hI _ (List.mem_of_getElem? ai)
 refine Y.ai (γ:=Nat) (fun k=> [(9,.int .i64 (k:Int)),(0,.pointer (some ab)),(1,.int .i64 a),(2,.int .i64 b),(3,.int .i64 m)]) (fun k=> []) (fun k=>k≤x5.ents.length∧∀(j:Nat) (e:bO),j<k→x5.ents[j]? =some e→wi f.inodes a (n - 1) e.ino=false) (fun k=>x5.ents.length - k) 0 ⟨Nat.zero_le _,eN (q:=fun _ (e:bO)=>wi f.inodes a (n - 1) e.ino=false)⟩ (.c .z (.c .g5 (.c .g6 (.c .g7 (.c .g8 .n))))) (fun _ h=>h) ?_
 rintro k ⟨hk,hallk⟩
 refine Y.seq (Y.seq (Y.region (Y.mv rfl .g4 (Y.ql rfl (fI rfl (.t .z) .c) (Y.mv rfl .z ?_)))))
 refine Y.al .z (fun g9=> ?_) (fun g9=> ?_)
 refine Y.qg rfl rfl .z rfl rfl rfl (aR rfl (.t .g3)) ?_
 refine Y.qg rfl rfl .g1 rfl rfl rfl (aR rfl (.t .g5)) ?_
 refine Y.qg rfl rfl .g2 rfl rfl rfl (dZ rfl (.t .z)) ?_
 refine Y.qg rfl rfl .g3 rfl rfl rfl (aN rfl (.t .z) (fun _=>aP _ _)) ?_
 refine Y.qg rfl rfl .g4 rfl rfl rfl (aM rfl bR (.t .z) (WS.el a5 a6 rfl)) ?_
 refine Y.qg rfl rfl .g5 rfl rfl rfl (aR rfl (.t .g11)) ?_
 refine Y.qg rfl rfl .g6 rfl rfl rfl (aB (j:=Int.toNat b) rfl cQ aT (.t .g1) (.t .z) (by omega) (by omega)) ?_
 refine Y.qg rfl rfl .g7 rfl rfl rfl (aN rfl (.t .z) (fun _=>bL _ _)) ?_
 refine Y.qg rfl rfl .g8 rfl rfl rfl (aM rfl dX (.t .z) (WS.el aj ak rfl)) ?_
 refine Y.qg rfl rfl .g9 rfl rfl rfl (bD rfl dP (.t .z)) ?_
 refine Y.qg rfl rfl .g10 rfl rfl rfl (dA rfl (.t .g9) (.t .z)) ?_
 refine Y.ql rfl (bI rfl (.t .g11) (.t .z)) (Y.nt ?_)
 refine Y.u (.t .z) (fun bw=> ?_) (fun bw=> ?_)
 refine Y.skip (Y.g (Y.seq (Y.block (Y.seq (Y.region (Y.mv rfl .g16 (Y.mv rfl (.s16 .g2) (Y.mv rfl (.s16 .g2) ?_))))))))
 refine Y.nc rfl .z (Y.fa rfl .z aP (Y.le rfl bR .z a5 a6 (Y.mv rfl (.s16 .g8) ?_)))
 refine Y.ql rfl (aB (j:=Int.toNat b) rfl cQ aT (.t .g1) (.t .z) (by omega) (by omega)) ?_
 refine Y.fa rfl .z bL (Y.le rfl dX .z aj ak (Y.mv rfl (.s16 .g9) ?_))
 obtain⟨bx,ad,ae⟩:=ac (by omega)
 subst ad
 obtain⟨b6,aa⟩:=aK (xs:=x5.ents) (j:=k) (by omega)
 obtain⟨bk,an,ao,ap⟩:=ae.elem aa
 obtain⟨rfl,a4⟩:=eY an
 have bm:=id (hG _ _ ai _ _ aa)
 have bn:=qP a3 _ _ aa
 refine Y.ql rfl (aB (j:=k) rfl dP fA (.t .g1) (.t .z) rfl (by omega)) ?_
 refine Y.fa rfl .z gG (Y.le rfl bP .z ao ap (Y.mv rfl (.s16 (.s16 .g1)) ?_))
 refine Y.ql rfl (iT (c:=m - 1) rfl (.t .z) .c (wr (by omega) (by omega) (by omega))) ?_
 refine Y.cl rfl rfl Tryz.func111 rfl rfl (pD (.t .g15) (.t .g14) (.t .g2) (.t .z)) .n (fun _ _ hs tr=>ih (n - 1) (by omega) (tr.ctxP h0) _ _ _ (by assumption) (by first | assumption |(constructor <;> omega)) (by omega) (by omega)) ?_
 rintro _ _ ⟨rfl,rfl⟩
 refine Y.m .n ?_
 refine Y.nt ?_
 refine Y.cond (.t .z) (fun bz=> ?_) (fun bz=> ?_)
 refine Y.seq (Y.region (Y.ql rfl (aA rfl .c) (Y.nt (Y.ret (Y.v (Y.j (Y.j ?_)))))))
 refine Y.v (Y.j ?_)
 refine Y.i (aU rfl .z) .n ?_
 exact⟨by first |(rw [aE4 (by omega)];done) |(rw [aLo (k:=k) (by omega) (by rw [aq];exact aa) (by assumption)];done) |(rw [yZ (by omega) (.inl (by omega))];done) |(rw [yZ (by omega) (.inr (fun j e he=>by rw [aq] at he;exact hallk j e (by have:=(List.getElem?_eq_some_iff.1 he).1;omega) he))];done),rfl⟩
 refine Y.skip (Y.ab (Y.g (Y.region (Y.mv rfl (.s16 .g16) ?_))))
 refine Y.ql rfl (bN (c:=((k+1:Nat):Int)) rfl (.t .z) .c (wr (by omega) (by omega) (by omega))) ?_
 refine Y.er (.s16 (.s16 .g2)) (Y.as rfl .z (Y.nil ?_))
 refine Y.ae (k+1) ⟨by omega,dS (q:=fun _ (e:bO)=>wi f.inodes a (n - 1) e.ino=false) hallk aa (by assumption)⟩ (by first | omega |(dsimp only;omega)) (.c .z (.c (.s16 (.s16 .g3)) (.c (.s16 (.s16 .g4)) (.c (.s16 (.s16 .g5)) (.c (.s16 (.s16 .g6)) .n))))) (fun _ h=>h)
 refine Y.exit (Y.y (Y.y (Y.ag (Y.g (Y.seq (Y.region (Y.ql rfl (aA rfl .c) (Y.nil ?_))))))))
 refine Y.g (Y.ret ?_)
 refine Y.i (aU rfl .z) .n ?_
 exact⟨by first |(rw [aE4 (by omega)];done) |(rw [yZ (by omega) (.inl (by omega))];done) |(rw [yZ (by omega) (.inr (fun j e he=>by rw [aq] at he;exact hallk j e (by have:=(List.getElem?_eq_some_iff.1 he).1;omega) he))];done),rfl⟩
 refine Y.r rfl rfl .z rfl rfl (by decide) rfl ?_
 refine Y.r rfl rfl .g1 rfl rfl (by decide) rfl ?_
 refine Y.r rfl rfl .g2 rfl rfl (by decide) rfl ?_
 refine Y.r rfl rfl .g3 rfl rfl (by decide) rfl ?_
 refine Y.r rfl rfl .g4 rfl rfl (by decide) rfl ?_
 refine Y.r rfl rfl .g5 rfl rfl (by decide) rfl ?_
 refine Y.r rfl rfl .g6 rfl rfl (by decide) rfl ?_
 refine Y.r rfl rfl .g7 rfl rfl (by decide) rfl ?_
 refine Y.r rfl rfl .g8 rfl rfl (by decide) rfl ?_
 refine Y.r rfl rfl .g9 rfl rfl (by decide) rfl ?_
 refine Y.r rfl rfl .g10 rfl rfl (by decide) rfl ?_
 refine Y.ql rfl (bH rfl (.t .g11) .c) (Y.nt ?_)
 refine Y.ap (.t .z) ?_
 refine Y.exit (Y.y (Y.y (Y.ag (Y.g (Y.seq (Y.region (Y.ql rfl (aA rfl .c) (Y.nil ?_))))))))
 refine Y.g (Y.ret ?_)
 refine Y.i (aU rfl .z) .n ?_
 exact⟨by first |(rw [aE4 (by omega)];done) |(rw [yZ (by omega) (.inl (by omega))];done) |(rw [yZ (by omega) (.inr (fun j e he=>by rw [aq] at he;exact hallk j e (by have:=(List.getElem?_eq_some_iff.1 he).1;omega) he))];done),rfl⟩
theorem aKs {w0:World}{S0:Bs}{f:DFs}{ad0:Addr} (h0:eV dV w0 (FF w0 S0) ad0 f) (a b m:Int) (ht:J0 f) (hp:bQ f.inodes.length b) (n:Nat) (hm:m=(n:Int)) (hn:n≤10):Calls Tryz.prog 111 #[.pointer (some ad0),.int .i64 a,.int .i64 b,.int .i64 m] w0 (aI w0 S0 (fun r l=>r= .bool (wi f.inodes a n b)∧l= [])):=by
 have key:∀n:Nat,∀{w0:World}{S0:Bs}{f:DFs}{ad0:Addr} (h0:eV dV w0 (FF w0 S0) ad0 f) (a b m:Int) (ht:J0 f) (hp:bQ f.inodes.length b) (hm:m=(n:Int)) (hn:n≤10),Calls Tryz.prog 111 #[.pointer (some ad0),.int .i64 a,.int .i64 b,.int .i64 m] w0 (aI w0 S0 (fun r l=>r= .bool (wi f.inodes a n b)∧l= [])):=fun n=>by
  induction n using Nat.strongRecOn with
  | _ n ih=>exact fun h0 a b m ht hp hm hn=>aJa h0 a b m ht hp n hm hn ih
 exact key n h0 a b m ht hp hm hn

end Go.Proofs.YtmejbfmhaoilmaaGreatDoor

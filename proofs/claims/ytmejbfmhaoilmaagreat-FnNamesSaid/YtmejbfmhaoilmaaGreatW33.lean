/- What is proved: contracts of functions, one a function. No condition. -/
import Derived.Test.YtmejbfmhaoilmaaGreatBase1
import Derived.Test.YtmejbfmhaoilmaaGreatW31
namespace Go.Proofs.YtmejbfmhaoilmaaGreat
open Go Go.RowKit
set_option linter.unusedVariables false
set_option linter.unusedSimpArgs false
set_option maxHeartbeats 1000000
set_option maxRecDepth 20000
theorem aKz {w0:World}{S0:Bs}{f:DFs}{a0:List Value} (h0:eU.ro w0 (FF w0 S0) f a0) (a:Int):
    Calls Tryz.prog 79 #[.agg a0.toArray,.int .i64 a] w0 (aJ w0 S0 (fun r l=>r= .int .i64 (fI f a)∧l= [])):=by
 obtain⟨be,bf,rfl,aa,ab⟩:=cY h0
 obtain⟨ac,ad,rfl,a1,a2,a3,ae⟩:=aH aa
 obtain⟨af,ag,rfl,a4,a5,a6,a7⟩:=aH ab
 refine Y.enter (N:=28) Tryz.func79 rfl rfl (by simp) [(0,.agg #[.slice ac f.inodes.length ad,.slice af f.data.length ag]),(1,.int .i64 a)] (by simp) (l0:= []) trivial ?_
 refine Y.seq (Y.region ?_)
 refine Y.el rfl (fT (cs:= [.slice ac f.inodes.length ad,.slice af f.data.length ag]) (n:=2) rfl (.t .z) rfl rfl) ?_
 rintro _ _ ⟨g3,rfl,rfl⟩
 refine Y.ql rfl (aA rfl .c) (Y.nt (Y.seq (Y.region (Y.ql rfl (qW rfl bI (.t .g1) .z aW) ?_))))
 refine Y.cl rfl rfl Tryz.func50 rfl rfl (bT (.t .z)) .n (fun _ _ hs tr=>aNv (aM f (tr.ctx aa) (tr.ctx ab))) ?_
 rintro _ _ ⟨rfl,rfl⟩
 refine Y.m .n ?_
 refine Y.as rfl .z (Y.nt (Y.seq (Y.block (Y.seq (Y.region (Y.mv rfl .z (Y.ql rfl (cU rfl (.t .z) .c) ?_)))))))
 refine Y.as rfl .z (Y.nt ?_)
 refine Y.ad (.t .z) (fun b4=> ?_) (fun b4=> ?_)
 refine Y.seq (Y.region (Y.mv rfl .g3 (Y.er .g7 (Y.as rfl .z (Y.nt (Y.ret (Y.y ?_)))))))
 refine Y.r ?_
 refine Y.i (aY rfl .z) .n ?_
 exact⟨by first |(rw [lS (by assumption)];done) |(rw [lV (by assumption) (by assumption)];done) |(rw [lP (by assumption) (by assumption) (by omega)];done) |(rw [kR (by assumption) (by assumption) (by omega)];done),rfl⟩
 have am:=iY b4
 refine Y.seq (Y.region (Y.mv rfl .g9 (Y.fa rfl .g8 aO (Y.ld rfl bK .z .z ?_))))
 refine Y.cl rfl rfl Tryz.func85 rfl rfl (bT (.t .z)) .n (fun _ _ hs tr=>aJn (tr.ctx aa)) ?_
 rintro _ _ ⟨rfl,rfl⟩
 refine Y.m .n ?_
 refine Y.ql rfl (jL (c:=(f.inodes.length:Int) - 1) rfl (.t .z) .c (wr (by omega) (by omega) (by omega))) ?_
 refine Y.cl rfl rfl Tryz.func84 rfl rfl (dX (.t .g4) .c (.t .z)) .n (fun _ _ hs tr=>yY _ _ _) ?_
 rintro _ _ ⟨rfl,rfl⟩
 refine Y.m .n ?_
 refine Y.ql rfl (fN rfl (.t .z)) (Y.as rfl .z (Y.nt ?_))
 refine Y.ad (.t .z) (fun b6=> ?_) (fun b6=> ?_)
 refine Y.seq (Y.region (Y.er .g14 (Y.ql rfl (aA rfl .c) (Y.nt (Y.ret (Y.y (Y.r ?_)))))))
 refine Y.i (aY rfl .z) .n ?_
 exact⟨by first |(rw [lS (by assumption)];done) |(rw [lV (by assumption) (by assumption)];done) |(rw [lP (by assumption) (by assumption) (by omega)];done) |(rw [kR (by assumption) (by assumption) (by omega)];done),rfl⟩
 refine Y.seq (Y.region (Y.fa rfl .g15 aO (Y.ld rfl bK .z .z (Y.mv rfl (.s16 .g3) ?_))))
 obtain⟨bj,ah,ai⟩:=ae (by omega)
 subst ah
 obtain⟨x8,al⟩:=aI (xs:=f.inodes) (j:=Int.toNat a) (by omega)
 obtain⟨bg,an,ao,ap⟩:=ai.elem al
 obtain⟨a8,a9,rfl,aj,ak⟩:=cK an
 obtain⟨ba,bb,rfl,aq,ar,au,av⟩:=aH aj
 obtain⟨bc,bd,rfl,aw,ax,ay,az⟩:=aH ak
 have bk:=cH (i:=a) al (by omega)
 have bm:=cI (a:=a) al (by omega)
 have bh:=dT am _ (List.mem_of_getElem? al)
 refine Y.ql rfl (aC (j:=Int.toNat a) rfl cE aU (.t .g1) (.t .z) (by omega) (by omega)) ?_
 refine Y.fa rfl .z cV (Y.le rfl cF .z ao ap (Y.ql rfl (cU rfl (.t .z) .c) (Y.as rfl .z (Y.nt ?_))))
 refine Y.ad (.t .z) (fun bi=> ?_) (fun bi=> ?_)
 refine Y.seq (Y.region (Y.er (.s16 .g6) (Y.ql rfl (aA rfl .c) (Y.nt (Y.ret (Y.y (Y.r ?_)))))))
 refine Y.i (aY rfl .z) .n ?_
 exact⟨by first |(rw [lS (by assumption)];done) |(rw [lV (by assumption) (by assumption)];done) |(rw [lP (by assumption) (by assumption) (by omega)];done) |(rw [kR (by assumption) (by assumption) (by omega)];done),rfl⟩
 refine Y.skip (Y.ac (Y.g (Y.seq (Y.region (Y.er (.s16 .g6) (Y.ql rfl (aA rfl .c) (Y.nt ?_)))))))
 refine Y.ret ?_
 refine Y.i (aY rfl .z) .n ?_
 exact⟨by first |(rw [lS (by assumption)];done) |(rw [lV (by assumption) (by assumption)];done) |(rw [lP (by assumption) (by assumption) (by omega)];done) |(rw [kR (by assumption) (by assumption) (by omega)];done),rfl⟩

theorem aJ7 {w0:World}{S0:Bs}{f:DFs}{ag:Addr} (h0:gP eU w0 (FF w0 S0) ag f) (a:Int):
    Calls Tryz.prog 125 #[.pointer (some ag),.int .i64 a] w0 (aJ w0 S0 (fun r l=>r= .int .i64 (fI f a)∧l= [])):=by
 obtain⟨bn,ba,bb,bc⟩:=id h0
 obtain⟨bd,be,rfl,ah,ai⟩:=cY bb
 obtain⟨bf,bg,rfl,ax,ay,az,aa⟩:=aH ah
 obtain⟨bh,bi,rfl,a0,a1,a2,a3⟩:=aH ai
 refine Y.enter (N:=24) Tryz.func125 rfl rfl (by simp) [(0,.pointer (some ag)),(1,.int .i64 a)] (by simp) (l0:= []) trivial ?_
 refine Y.seq (Y.region (Y.ql rfl (aA rfl .c) (Y.nt (Y.seq (Y.seq (Y.region (Y.mv rfl .g1 ?_)))))))
 refine Y.cl rfl rfl Tryz.func52 rfl rfl (bT (.t .z)) .n (fun _ _ hs tr=>aNg (tr.ctxP h0)) ?_
 rintro _ _ ⟨rfl,rfl⟩
 refine Y.m .n ?_
 refine Y.as rfl .z (Y.nt (Y.seq (Y.region (Y.mv rfl .z (Y.ql rfl (cU rfl (.t .z) .c) (Y.nt ?_))))))
 refine Y.ad (.t .z) (fun b3=> ?_) (fun b3=> ?_)
 refine Y.seq (Y.region (Y.mv rfl .g2 (Y.er .g6 (Y.as rfl .z (Y.nt (Y.ret (Y.r ?_)))))))
 refine Y.i (aY rfl .z) .n ?_
 exact⟨by first |(rw [lS (by assumption)];done) |(rw [lV (by assumption) (by assumption)];done) |(rw [lP (by assumption) (by assumption) (by omega)];done) |(rw [kR (by assumption) (by assumption) (by omega)];done),rfl⟩
 have aj:=iY b3
 refine Y.skip (Y.g (Y.seq (Y.seq (Y.region (Y.mv rfl .g6 (Y.mv rfl .g8 ?_))))))
 refine Y.cl rfl rfl Tryz.func90 rfl rfl (aX (.t .g1) (.t .z)) .n (fun _ _ hs tr=>aIw (tr.ctxP h0) _) ?_
 rintro _ _ ⟨rfl,rfl⟩
 refine Y.m .n ?_
 refine Y.ql rfl (fN rfl (.t .z)) (Y.nt ?_)
 refine Y.ad (.t .z) (fun b5=> ?_) (fun b5=> ?_)
 refine Y.seq (Y.region (Y.er .g9 (Y.ql rfl (aA rfl .c) (Y.nt (Y.ret (Y.r ?_))))))
 refine Y.i (aY rfl .z) .n ?_
 exact⟨by first |(rw [lS (by assumption)];done) |(rw [lV (by assumption) (by assumption)];done) |(rw [lP (by assumption) (by assumption) (by omega)];done) |(rw [kR (by assumption) (by assumption) (by omega)];done),rfl⟩
 refine Y.skip (Y.g (Y.seq (Y.seq (Y.region (Y.mv rfl .g10 (Y.nc rfl .z (Y.fa rfl .z aO (Y.le rfl bK .z ba bc ?_))))))))
 refine Y.mv rfl .g15 ?_
 obtain⟨bo,ab,ac⟩:=aa (by omega)
 subst ab
 obtain⟨x7,af⟩:=aI (xs:=f.inodes) (j:=Int.toNat a) (by omega)
 obtain⟨bj,ak,al,am⟩:=ac.elem af
 obtain⟨a4,a5,rfl,ad,ae⟩:=cK ak
 obtain⟨a6,a7,rfl,an,ao,ap,aq⟩:=aH ad
 obtain⟨a8,a9,rfl,ar,au,av,aw⟩:=aH ae
 have bp:=cH (i:=a) af (by omega)
 have bq:=cI (a:=a) af (by omega)
 have bk:=dT aj _ (List.mem_of_getElem? af)
 refine Y.ql rfl (aC (j:=Int.toNat a) rfl cE aU (.t .g1) (.t .z) (by omega) (by omega)) ?_
 refine Y.fa rfl .z cV (Y.le rfl cF .z al am (Y.ql rfl (cU rfl (.t .z) .c) (Y.nt ?_)))
 refine Y.ad (.t .z) (fun bm=> ?_) (fun bm=> ?_)
 refine Y.seq (Y.region (Y.er (.s16 .g2) (Y.ql rfl (aA rfl .c) (Y.nt (Y.ret (Y.r ?_))))))
 refine Y.i (aY rfl .z) .n ?_
 exact⟨by first |(rw [lS (by assumption)];done) |(rw [lV (by assumption) (by assumption)];done) |(rw [lP (by assumption) (by assumption) (by omega)];done) |(rw [kR (by assumption) (by assumption) (by omega)];done),rfl⟩
 refine Y.skip (Y.g (Y.seq (Y.region (Y.er (.s16 .g2) (Y.ql rfl (aA rfl .c) (Y.nt (Y.ret ?_)))))))
 refine Y.i (aY rfl .z) .n ?_
 exact⟨by first |(rw [lS (by assumption)];done) |(rw [lV (by assumption) (by assumption)];done) |(rw [lP (by assumption) (by assumption) (by omega)];done) |(rw [kR (by assumption) (by assumption) (by omega)];done),rfl⟩

theorem aKo {w0:World}{S0:Bs}{f:DFs}{ah:List Value} (h0:eU.ro w0 (FF w0 S0) f ah) (a:Int) (s:ByteArray) (ax:s.size≤140737488351232):
    Calls Tryz.prog 75 #[.agg ah.toArray,.int .i64 a,.string s] w0 (aJ w0 S0 (fun r l=>r= .int .i64 (eE f a s)∧l= [])):=by
 obtain⟨aq,ar,rfl,aa,ab⟩:=cY h0
 obtain⟨ac,ad,rfl,ai,aj,ak,al⟩:=aH aa
 obtain⟨ae,af,rfl,am,an,ao,ap⟩:=aH ab
 refine Y.enter (N:=16) Tryz.func75 rfl rfl (by simp) [(0,.agg #[.slice ac f.inodes.length ad,.slice ae f.data.length af]),(1,.int .i64 a),(2,.string s)] (by simp) (l0:= []) trivial ?_
 refine Y.seq (Y.region ?_)
 refine Y.el rfl (fT (cs:= [.slice ac f.inodes.length ad,.slice ae f.data.length af]) (n:=2) rfl (.t .z) rfl rfl) ?_
 rintro _ _ ⟨g3,rfl,rfl⟩
 refine Y.ql rfl (aA rfl .c) (Y.nt (Y.seq (Y.seq (Y.region (Y.ql rfl (qW rfl bI (.t .g1) .z aW) (Y.mv rfl .g4 ?_))))))
 refine Y.cl rfl rfl Tryz.func79 rfl rfl (aX (.t .g1) (.t .z)) .n (fun _ _ hs tr=>aKz (aM f (tr.ctx aa) (tr.ctx ab)) _) ?_
 rintro _ _ ⟨rfl,rfl⟩
 refine Y.m .n ?_
 refine Y.as rfl .z (Y.nt (Y.seq (Y.region (Y.mv rfl .z (Y.ql rfl (cU rfl (.t .z) .c) (Y.nt ?_))))))
 refine Y.ad (.t .z) (fun b4=> ?_) (fun b4=> ?_)
 refine Y.seq (Y.region (Y.mv rfl .g2 (Y.er .g7 (Y.as rfl .z (Y.nt (Y.ret (Y.r ?_)))))))
 refine Y.i (aY rfl .z) .n ?_
 exact⟨by first |(rw [qG (by assumption)];done) |(rw [kF (by assumption)];done),rfl⟩
 have ag:=qT b4
 have au:=iY ag.1
 obtain⟨av,aw⟩:=ag.2.1
 refine Y.skip (Y.g (Y.seq (Y.region (Y.mv rfl .g10 ?_))))
 refine Y.cl rfl rfl Tryz.func123 rfl rfl (bT (.t .z)) .n (fun _ _ hs tr=>aJ8 _ (by first | assumption | omega)) ?_
 rintro _ _ ⟨rfl,rfl⟩
 refine Y.m .n ?_
 refine Y.er .g8 (Y.as rfl .z (Y.nt (Y.ret ?_)))
 refine Y.i (aY rfl .z) .n ?_
 exact⟨by first |(rw [qG (by assumption)];done) |(rw [kF (by assumption)];done),rfl⟩

theorem aNw {w0:World}{S0:Bs}{f:DFs}{ab:Addr} (h0:gP eU w0 (FF w0 S0) ab f) (a:Int) (s:ByteArray) (ay:s.size≤140737488351232):
    Calls Tryz.prog 77 #[.pointer (some ab),.int .i64 a,.string s] w0 (aJ w0 S0 (fun r l=>r= .int .i64 (eE f a s)∧l= [])):=by
 obtain⟨az,a0,am,a1⟩:=id h0
 obtain⟨an,ao,rfl,ac,ad⟩:=cY am
 obtain⟨ap,aq,rfl,ae,af,ag,ah⟩:=aH ac
 obtain⟨ar,au,rfl,ai,aj,ak,al⟩:=aH ad
 refine Y.enter (N:=16) Tryz.func77 rfl rfl (by simp) [(0,.pointer (some ab)),(1,.int .i64 a),(2,.string s)] (by simp) (l0:= []) trivial ?_
 refine Y.seq (Y.region (Y.ql rfl (aA rfl .c) (Y.nt (Y.seq (Y.seq (Y.region (Y.mv rfl .g1 ?_)))))))
 refine Y.mv rfl .g3 ?_
 refine Y.cl rfl rfl Tryz.func125 rfl rfl (aX (.t .g1) (.t .z)) .n (fun _ _ hs tr=>aJ7 (tr.ctxP h0) _) ?_
 rintro _ _ ⟨rfl,rfl⟩
 refine Y.m .n ?_
 refine Y.as rfl .z (Y.nt (Y.seq (Y.region (Y.mv rfl .z (Y.ql rfl (cU rfl (.t .z) .c) (Y.nt ?_))))))
 refine Y.ad (.t .z) (fun b3=> ?_) (fun b3=> ?_)
 refine Y.seq (Y.region (Y.mv rfl .g2 (Y.er .g7 (Y.as rfl .z (Y.nt (Y.ret (Y.r ?_)))))))
 refine Y.i (aY rfl .z) .n ?_
 exact⟨by first |(rw [qG (by assumption)];done) |(rw [kF (by assumption)];done),rfl⟩
 have aa:=qT b3
 have av:=iY aa.1
 obtain⟨aw,ax⟩:=aa.2.1
 refine Y.skip (Y.g (Y.seq (Y.region (Y.mv rfl .g9 ?_))))
 refine Y.cl rfl rfl Tryz.func126 rfl rfl (bT (.t .z)) .n (fun _ _ hs tr=>aGh _ (by first | assumption | omega)) ?_
 rintro _ _ ⟨rfl,rfl⟩
 refine Y.m .n ?_
 refine Y.er .g8 (Y.as rfl .z (Y.nt (Y.ret ?_)))
 refine Y.i (aY rfl .z) .n ?_
 exact⟨by first |(rw [qG (by assumption)];done) |(rw [kF (by assumption)];done),rfl⟩

theorem aJf {w0:World}{S0:Bs}{f:DFs}{ao:Addr} (h0:gP eU w0 (FF w0 S0) ao f) (a:Int) (s:ByteArray) (bu:s.size≤140737488351232) (hp:bR f.inodes.length a):
    Calls Tryz.prog 81 #[.pointer (some ao),.int .i64 a,.string s] w0 (aJ w0 S0 (fun r l=>r= .int .i64 (eI (aB f.inodes a) s)∧l= [])):=by
 obtain⟨bv,bi,bj,bk⟩:=id h0
 obtain⟨bm,bn,rfl,ap,aq⟩:=cY bj
 obtain⟨bo,bp,rfl,a5,a6,a7,ac⟩:=aH ap
 obtain⟨bq,br,rfl,a8,a9,ba,bb⟩:=aH aq
 obtain⟨bw,bx⟩:=hp
 refine Y.enter (N:=29) Tryz.func81 rfl rfl (by simp) [(0,.pointer (some ao)),(1,.int .i64 a),(2,.string s)] (by simp) (l0:= []) trivial ?_
 refine Y.seq (Y.region (Y.ql rfl (aA rfl .c) (Y.nt (Y.seq (Y.seq (Y.region (Y.mv rfl .g1 ?_)))))))
 refine Y.nc rfl .z (Y.fa rfl .z aO (Y.le rfl bK .z bi bk (Y.mv rfl .g6 ?_)))
 obtain⟨bz,ad,ae⟩:=ac (by omega)
 subst ad
 obtain⟨x4,ar⟩:=aI (xs:=f.inodes) (j:=Int.toNat a) (by omega)
 obtain⟨bs,au,av,aw⟩:=ae.elem ar
 obtain⟨bc,bd,rfl,af,ag⟩:=cK au
 obtain⟨be,bf,rfl,ax,ay,az,a0⟩:=aH af
 obtain⟨ah,ai,rfl,a1,a2,a3,aa⟩:=aH ag
 have b0:=cH (i:=a) ar (by omega)
 have bg:=cI (a:=a) ar (by omega)
 refine Y.ql rfl (aC (j:=Int.toNat a) rfl cE aU (.t .g1) (.t .z) (by omega) (by omega)) ?_
 refine Y.fa rfl .z bE (Y.le rfl dP .z av aw (Y.ql rfl (bM rfl cZ (.t .z)) (Y.ql rfl (aV rfl .c) (Y.nt (Y.block ?_)))))
 refine Y.aj (γ:=Nat) (fun k=> [(18,.int .i64 (k:Int)),(17,.int .i64 (x4.ents.length:Int)),(16,.slice ah x4.ents.length ai),(2,.string s)]) (fun k=> []) (fun k=>k≤x4.ents.length∧∀j e,j<k→x4.ents[j]? =some e→¬e.name=s) (fun k=>x4.ents.length - k) 0 ⟨Nat.zero_le _,eV (q:=fun _ e=>¬aQ.name e=s)⟩ (.c .z (.c .g1 (.c .g2 (.c .g13 .n)))) (fun _ h=>h) ?_
 rintro k ⟨hk,hallk⟩
 refine Y.seq (Y.region (Y.ql rfl (dJ rfl (.t .z) (.t .g1)) (Y.nt (Y.seq ?_))))
 refine Y.u (.t .z) (fun b8=> ?_) (fun b8=> ?_)
 refine Y.skip (Y.g (Y.seq (Y.block (Y.seq (Y.region ?_)))))
 obtain⟨b1,aj,ak⟩:=aa (by omega)
 subst aj
 obtain⟨b2,ab⟩:=aI (xs:=x4.ents) (j:=k) (by omega)
 obtain⟨bh,al,am,an⟩:=ak.elem ab
 obtain⟨rfl,a4⟩:=eR al
 refine Y.ql rfl (aC (j:=k) rfl cZ dV (.t .g3) (.t .g1) rfl (by omega)) ?_
 refine Y.ql rfl (qE rfl pU (.t .z) am an dV) ?_
 refine Y.el rfl (bL rfl aFx rfl rfl) ?_
 rintro _ _ ⟨g12,rfl,rfl⟩
 refine Y.es (aD rfl) rfl (esW rfl (.t .z) (.t .g1) .z dV rfl rfl) ?_
 refine Y.nt (Y.seq (Y.region (Y.fa rfl .z jP (Y.ld rfl iR .z .z (Y.mv rfl .g9 (Y.ql rfl (rM rfl (.t .g1) (.t .z)) (Y.nil ?_)))))))
 refine Y.g ?_
 refine Y.u (.t .z) (fun bt=> ?_) (fun bt=> ?_)
 refine Y.seq (Y.region (Y.fa rfl .g4 iX (Y.ld rfl cF .z .z (Y.as rfl .z (Y.nt (Y.ret (Y.y ?_)))))))
 refine Y.r (Y.r (Y.y (Y.r ?_)))
 refine Y.i (aY rfl .z) .n ?_
 exact⟨by rw [bg,vA ab (by assumption) hallk],rfl⟩
 refine Y.skip (Y.ac (Y.g (Y.region ?_)))
 refine Y.ql rfl (bQ (c:=((k+1:Nat):Int)) rfl (.t .g8) .c (wr (by omega) (by omega) (by omega))) ?_
 refine Y.er .g9 (Y.mv rfl .z (Y.nil ?_))
 refine Y.ae (k+1) ⟨by omega,eM (q:=fun _ e=>¬aQ.name e=s) hallk ab (by assumption)⟩ (by first | omega |(dsimp only;omega)) (.c .z (.c .g10 (.c .g11 (.c .g12 .n)))) (fun _ h=>h.sel .n)
 refine Y.exit (Y.ab (Y.ab (Y.ai (Y.g (Y.seq (Y.region (Y.ql rfl (aA rfl .c) (Y.nil ?_))))))))
 refine Y.g (Y.ret ?_)
 refine Y.i (aY rfl .z) .n ?_
 exact⟨by rw [bg,aGv (k:=k) (by omega) hallk],rfl⟩

theorem rJ {w0:World}{S0:Bs}{es:(List aQ)}{v0:Value} (h0:cP.ro w0 (FF w0 S0) es [v0]) (s:ByteArray) (aj:s.size≤140737488351232):
    Calls Tryz.prog 127 #[v0,.string s] w0 (aJ w0 S0 (fun r l=>r= .int .i64 (eS (cA s) es)∧l= [])):=by
 obtain⟨A0,c0,rfl,ak,al,am,ah⟩:=aH h0
 refine Y.enter (N:=20) Tryz.func127 rfl rfl (by simp) [(0,.slice A0 es.length c0),(1,.string s)] (by simp) (l0:= []) trivial ?_
 refine Y.seq (Y.region (Y.ql rfl (aA rfl .c) (Y.nt (Y.seq (Y.seq (Y.region (Y.ql rfl (aA rfl .c) ?_)))))))
 refine Y.nt (Y.block ?_)
 refine Y.aj (γ:=Nat) (fun k=> [(5,.int .i64 (k:Int)),(0,.slice A0 es.length c0),(1,.string s)]) (fun k=> []) (fun k=>k≤es.length∧∀j e,j<k→es[j]? =some e→cA s e=false) (fun k=>es.length - k) 0 ⟨Nat.zero_le _,eV (q:=fun _ e=>cA s e=false)⟩ (.c .z (.c .g2 (.c .g3 .n))) (fun _ h=>h) ?_
 rintro k ⟨hk,hallk⟩
 refine Y.seq (Y.seq (Y.region (Y.mv rfl .z (Y.mv rfl .g2 (Y.ql rfl (bM rfl cZ (.t .z)) (Y.ql rfl (dJ rfl (.t .g2) (.t .z)) (Y.nt ?_)))))))
 refine Y.u (.t .z) (fun b2=> ?_) (fun b2=> ?_)
 refine Y.skip (Y.g (Y.seq (Y.block (Y.seq (Y.region (Y.mv rfl .g5 (Y.mv rfl .g5 ?_)))))))
 obtain⟨an,aa,ab⟩:=ah (by omega)
 subst aa
 obtain⟨x4,ac⟩:=aI (xs:=es) (j:=k) (by omega)
 obtain⟨ai,ad,ae,af⟩:=ab.elem ac
 obtain⟨rfl,ag⟩:=eR ad
 refine Y.ql rfl (aC (j:=k) rfl cZ dV (.t .g1) (.t .z) rfl (by omega)) ?_
 refine Y.fa rfl .z jP (Y.le rfl iR .z ae af (Y.mv rfl .g11 (Y.ql rfl (rM rfl (.t .g1) (.t .z)) (Y.nt ?_))))
 refine Y.u (.t .z) (fun b6=> ?_) (fun b6=> ?_)
 refine Y.seq (Y.region (Y.mv rfl .g11 (Y.as rfl .z (Y.nt (Y.ret (Y.y (Y.r ?_)))))))
 refine Y.r (Y.y (Y.r ?_))
 refine Y.i (aY rfl .z) .n ?_
 exact⟨by rw [pL ac (decide_eq_true (by assumption)) hallk],rfl⟩
 refine Y.skip (Y.ac (Y.g (Y.region (Y.mv rfl .g11 ?_))))
 refine Y.ql rfl (bQ (c:=((k+1:Nat):Int)) rfl (.t .z) .c (wr (by omega) (by omega) (by omega))) ?_
 refine Y.er .g13 (Y.as rfl .z (Y.nil ?_))
 refine Y.ae (k+1) ⟨by omega,eM (q:=fun _ e=>cA s e=false) hallk ac (decide_eq_false (by assumption))⟩ (by first | omega |(dsimp only;omega)) (.c .z (.c .g14 (.c .g15 .n))) (fun _ h=>h)
 refine Y.exit (Y.ab (Y.ab (Y.ai (Y.g (Y.seq (Y.region (Y.ql rfl (aA rfl .c) (Y.nil ?_))))))))
 refine Y.g (Y.ret ?_)
 refine Y.i (aY rfl .z) .n ?_
 exact⟨by rw [pN (fun j x hx=>hallk j x (by have:=(List.getElem?_eq_some_iff.1 hx).1;omega) hx)],rfl⟩

theorem aDb {w0:World}{S0:Bs}{f:DFs}{ai:List Value} (h0:eU.ro w0 (FF w0 S0) f ai) (a:Int) (s:ByteArray) (ay:s.size≤140737488351232):
    Calls Tryz.prog 35 #[.agg ai.toArray,.int .i64 a,.string s] w0 (aJ w0 S0 (aJt (oE f a s))):=by
 obtain⟨ar,au,rfl,aa,ab⟩:=cY h0
 obtain⟨ac,ad,rfl,aj,ak,al,am⟩:=aH aa
 obtain⟨ae,af,rfl,an,ao,ap,aq⟩:=aH ab
 refine Y.enter (N:=25) Tryz.func35 rfl rfl (by simp) [(0,.agg #[.slice ac f.inodes.length ad,.slice ae f.data.length af]),(1,.int .i64 a),(2,.string s)] (by simp) (l0:= []) trivial ?_
 refine Y.seq (Y.region ?_)
 refine Y.el rfl (fT (cs:= [.slice ac f.inodes.length ad,.slice ae f.data.length af]) (n:=2) rfl (.t .z) rfl rfl) ?_
 rintro _ _ ⟨g3,rfl,rfl⟩
 refine Y.el rfl (bL rfl aKv rfl rfl) ?_
 rintro _ _ ⟨g4,rfl,rfl⟩
 refine Y.nt (Y.seq (Y.seq (Y.region (Y.ql rfl (qW rfl bI (.t .g1) .g1 aW) (Y.mv rfl .g4 (Y.mv rfl .g6 ?_))))))
 refine Y.cl rfl rfl Tryz.func75 rfl rfl (dX (.t .g2) (.t .g1) (.t .z)) .n (fun _ _ hs tr=>aKo (aM f (tr.ctx aa) (tr.ctx ab)) _ _ (by first | assumption | omega)) ?_
 rintro _ _ ⟨rfl,rfl⟩
 refine Y.m .n ?_
 refine Y.as rfl .z (Y.nt (Y.seq (Y.region (Y.mv rfl .z (Y.ql rfl (cU rfl (.t .z) .c) (Y.nt ?_))))))
 refine Y.ad (.t .z) (fun b5=> ?_) (fun b5=> ?_)
 refine Y.seq (Y.region (Y.mv rfl .g2 (Y.ql rfl (aZ (cs:= [.int .i64 (eE f a s),.int .i64 0]) rfl zG (pv1 (.t .z)) rfl) ?_)))
 refine Y.es (aD rfl) rfl (esW rfl (.t .g9) (.t .z) .z pZ rfl rfl) ?_
 refine Y.nt (Y.ret (Y.r ?_))
 refine Y.i (dD rfl .g9 zD .z pZ) .n ?_
 first |(rw [aA5 (by assumption)];exact⟨rfl,rfl⟩) |(rw [aAm (by assumption) (by assumption)];exact⟨rfl,rfl⟩) |(rw [sB (by assumption) (by assumption)];exact⟨rfl,rfl⟩)
 have ah:=tM b5
 have ag:=qT ah
 have av:=iY ag.1
 obtain⟨aw,ax⟩:=ag.2.1
 refine Y.skip (Y.g (Y.seq (Y.region (Y.mv rfl .g10 (Y.mv rfl .g12 ?_)))))
 refine Y.cl rfl rfl Tryz.func81 rfl rfl (dX (.t .g10) (.t .g1) (.t .z)) .n (fun _ _ hs tr=>aJf (tr.ptr .g1 (aM f (tr.ctx aa) (tr.ctx ab))) _ _ (by first | assumption | omega) (by first | assumption |(constructor <;> omega))) ?_
 rintro _ _ ⟨rfl,rfl⟩
 refine Y.m .n ?_
 refine Y.as rfl .z (Y.nt (Y.seq (Y.seq (Y.region (Y.mv rfl .z (Y.ql rfl (dJ rfl (.t .z) .c) (Y.nil ?_)))))))
 refine Y.g ?_
 refine Y.u (.t .z) (fun b7=> ?_) (fun b7=> ?_)
 refine Y.seq (Y.region (Y.ql rfl (aZ (cs:= [.int .i64 4,.int .i64 0]) rfl zG (pv1 .c) rfl) ?_))
 refine Y.es (aD rfl) rfl (esW rfl (.t .g14) (.t .z) .z pZ rfl rfl) ?_
 refine Y.nt (Y.ret (Y.r ?_))
 refine Y.i (dD rfl .g14 zD .z pZ) .n ?_
 first |(rw [aA5 (by assumption)];exact⟨rfl,rfl⟩) |(rw [aAm (by assumption) (by assumption)];exact⟨rfl,rfl⟩) |(rw [sB (by assumption) (by assumption)];exact⟨rfl,rfl⟩)
 refine Y.skip (Y.g (Y.seq (Y.region (Y.mv rfl .g2 (Y.ql rfl (aZ (cs:= [.int .i64 0,.int .i64 (eI (aB (f).inodes a) s)]) rfl zG (pv1 (.t .z)) rfl) ?_)))))
 refine Y.es (aD rfl) rfl (esW rfl (.t .g15) (.t .z) .z pZ rfl rfl) ?_
 refine Y.nt (Y.ret ?_)
 refine Y.i (dD rfl .g15 zD .z pZ) .n ?_
 first |(rw [aA5 (by assumption)];exact⟨rfl,rfl⟩) |(rw [aAm (by assumption) (by assumption)];exact⟨rfl,rfl⟩) |(rw [sB (by assumption) (by assumption)];exact⟨rfl,rfl⟩)

theorem aMh {w0:World}{S0:Bs}{f:DFs}{a1:List Value} (h0:eU.ro w0 (FF w0 S0) f a1) (a:Int):
    Calls Tryz.prog 37 #[.agg a1.toArray,.int .i64 a] w0 (aJ w0 S0 (fun r l=>r= .bool (decide (oG f a))∧l= [])):=by
 obtain⟨bg,bh,rfl,aa,ab⟩:=cY h0
 obtain⟨ac,ad,rfl,a2,a3,a4,ae⟩:=aH aa
 obtain⟨af,ag,rfl,a5,a6,a7,a8⟩:=aH ab
 refine Y.enter (N:=19) Tryz.func37 rfl rfl (by simp) [(0,.agg #[.slice ac f.inodes.length ad,.slice af f.data.length ag]),(1,.int .i64 a)] (by simp) (l0:= []) trivial ?_
 refine Y.seq (Y.region ?_)
 refine Y.el rfl (fT (cs:= [.slice ac f.inodes.length ad,.slice af f.data.length ag]) (n:=2) rfl (.t .z) rfl rfl) ?_
 rintro _ _ ⟨g3,rfl,rfl⟩
 refine Y.ql rfl (aA rfl .c) (Y.nt (Y.seq (Y.region (Y.ql rfl (qW rfl bI (.t .g1) .z aW) (Y.mv rfl .g4 ?_)))))
 refine Y.cl rfl rfl Tryz.func79 rfl rfl (aX (.t .g1) (.t .z)) .n (fun _ _ hs tr=>aKz (aM f (tr.ctx aa) (tr.ctx ab)) _) ?_
 rintro _ _ ⟨rfl,rfl⟩
 refine Y.m .n ?_
 refine Y.ql rfl (bZ rfl (.t .z) .c) (Y.mv rfl .z ?_)
 refine Y.al .z (fun g4=> ?_) (fun g4=> ?_)
 have ah:=qT g4
 have an:=iY ah.1
 obtain⟨bi,bj⟩:=ah.2.1
 refine Y.qg rfl rfl .z rfl rfl rfl (aK rfl (.t .g6) (fun _=>aO _ _)) ?_
 refine Y.qg rfl rfl .g1 rfl rfl rfl (aL rfl bK (.t .z) (WS.g .z rfl)) ?_
 refine Y.qg rfl rfl .g2 rfl rfl rfl (aV rfl (.t .g10)) ?_
 obtain⟨bn,ai,aj⟩:=ae (by omega)
 subst ai
 obtain⟨x7,am⟩:=aI (xs:=f.inodes) (j:=Int.toNat a) (by omega)
 obtain⟨bk,ao,ap,aq⟩:=aj.elem am
 obtain⟨a9,ba,rfl,ak,al⟩:=cK ao
 obtain⟨bb,bc,rfl,ar,au,av,aw⟩:=aH ak
 obtain⟨bd,be,rfl,ax,ay,az,a0⟩:=aH al
 have bo:=cH (i:=a) am (by omega)
 have bf:=cI (a:=a) am (by omega)
 have bm:=dT an _ (List.mem_of_getElem? am)
 refine Y.qg rfl rfl .g3 rfl rfl rfl (aC (j:=Int.toNat a) rfl cE aU (.t .g1) (.t .z) (by omega) (by omega)) ?_
 refine Y.qg rfl rfl .g4 rfl rfl rfl (aK rfl (.t .z) (fun _=>bE _ _)) ?_
 refine Y.qg rfl rfl .g5 rfl rfl rfl (aL rfl dP (.t .z) (WS.el ap aq rfl)) ?_
 refine Y.qg rfl rfl .g6 rfl rfl rfl (bM rfl cZ (.t .z)) ?_
 refine Y.qg rfl rfl .g7 rfl rfl rfl (bZ rfl (.t .z) .c) ?_
 refine Y.ql rfl (bO rfl (.t .g8) (.t .z)) (Y.er .g14 (Y.as rfl .z (Y.nt (Y.ret ?_))))
 refine Y.i (aY rfl .z) .n ?_
 exact⟨by first |(rw [decide_eq_false (fun hh=>absurd hh.1 (by assumption))];done) |(exact congrArg Value.bool (decide_eq_decide.2 ⟨fun hh=>⟨by assumption,by rw [bf];omega⟩,fun hh=>by have h2:=hh.2;rw [bf] at h2;omega⟩)),rfl⟩
 refine Y.j rfl rfl .z rfl rfl (by decide) rfl ?_
 refine Y.j rfl rfl .g1 rfl rfl (by decide) rfl ?_
 refine Y.j rfl rfl .g2 rfl rfl (by decide) rfl ?_
 refine Y.j rfl rfl .g3 rfl rfl (by decide) rfl ?_
 refine Y.j rfl rfl .g4 rfl rfl (by decide) rfl ?_
 refine Y.j rfl rfl .g5 rfl rfl (by decide) rfl ?_
 refine Y.j rfl rfl .g6 rfl rfl (by decide) rfl ?_
 refine Y.j rfl rfl .g7 rfl rfl (by decide) rfl ?_
 refine Y.ql rfl (bW rfl (.t .g8) .c) (Y.er .g14 (Y.as rfl .z (Y.nt (Y.ret ?_))))
 refine Y.i (aY rfl .z) .n ?_
 exact⟨by first |(rw [decide_eq_false (fun hh=>absurd hh.1 (by assumption))];done),rfl⟩

theorem aN9 {w0:World}{S0:Bs}{f:DFs}{aq:Addr} (h0:gP eU w0 (FF w0 S0) aq f) (a:Int) (hp:bR f.inodes.length a):
    Calls Tryz.prog 80 #[.pointer (some aq),.int .i64 a] w0 (aJ w0 S0 (fun r l=>l= [aG fB (iC (aB f.inodes a)) [r]])):=by
 obtain⟨b3,bq,br,bs⟩:=id h0
 obtain⟨bt,bu,rfl,ar,au⟩:=cY br
 obtain⟨bv,bw,rfl,ba,bb,bc,af⟩:=aH ar
 obtain⟨bx,bz,rfl,bd,be,bf,bg⟩:=aH au
 obtain⟨b4,b5⟩:=hp
 refine Y.enter (N:=28) Tryz.func80 rfl rfl (by simp) [(0,.pointer (some aq)),(1,.int .i64 a)] (by simp) (l0:= []) trivial ?_
 refine Y.seq (Y.region (Y.ql rfl (aA rfl .c) (Y.nt (Y.seq (Y.region (Y.ql rfl (aA rfl .c) (Y.nil ?_)))))))
 refine Y.g (Y.seq (Y.seq (Y.region (Y.mv rfl .g2 (Y.nc rfl .z (Y.fa rfl .z aO (Y.le rfl bK .z bq bs (Y.mv rfl .g7 ?_))))))))
 obtain⟨b6,ag,ah⟩:=af (by omega)
 subst ag
 obtain⟨x4,av⟩:=aI (xs:=f.inodes) (j:=Int.toNat a) (by omega)
 obtain⟨b0,aw,ax,ay⟩:=ah.elem av
 obtain⟨bh,bi,rfl,ai,aj⟩:=cK aw
 obtain⟨bj,bk,rfl,az,a0,a1,a2⟩:=aH ai
 obtain⟨ak,al,rfl,a3,a4,a5,ac⟩:=aH aj
 have b7:=cH (i:=a) av (by omega)
 have b1:=cI (a:=a) av (by omega)
 refine Y.ql rfl (aC (j:=Int.toNat a) rfl cE aU (.t .g1) (.t .z) (by omega) (by omega)) ?_
 refine Y.fa rfl .z bE (Y.le rfl dP .z ax ay (Y.ql rfl (bM rfl cZ (.t .z)) (Y.ql rfl (aV rfl .c) (Y.nt (Y.block ?_)))))
 refine Y.add (c:=aG fB [] [.slice none 0 0]) (fun w S=>aN w S none) ?_
 refine Y.aj (γ:=Nat×(Option Addr)×Nat) (fun⟨k,aa,ab⟩=> [(17,.int .i64 (k:Int)),(16,.int .i64 (x4.ents.length:Int)),(15,.slice ak x4.ents.length al),(5,.slice aa (kQ x4.ents k).length ab),(4,.slice none 0 0)]) (fun⟨k,aa,ab⟩=> [aG fB (kQ x4.ents k) [.slice aa (kQ x4.ents k).length ab]]) (fun⟨k,aa,ab⟩=>k≤x4.ents.length) (fun⟨k,aa,ab⟩=>x4.ents.length - k) (0,none,0) (Nat.zero_le _) (.c .z (.c .g1 (.c .g2 (.c .g10 (.c .g11 .n))))) (fun _ h=>h.sel (.c .z .n)) ?_
 rintro⟨k,aa,ab⟩ hk
 have hnl:=vX (es:=x4.ents) (k:=k)
 refine Y.seq (Y.region (Y.ql rfl (dJ rfl (.t .z) (.t .g1)) (Y.nt (Y.seq ?_))))
 refine Y.u (.t .z) (fun b9=> ?_) (fun b9=> ?_)
 refine Y.skip (Y.g (Y.seq (Y.block (Y.seq (Y.region ?_)))))
 obtain⟨b2,ad,ae⟩:=ac (by omega)
 subst ad
 obtain⟨a6,am⟩:=aI (xs:=x4.ents) (j:=k) (by omega)
 obtain⟨bm,an,ao,ap⟩:=ae.elem am
 obtain⟨rfl,a7⟩:=eR an
 refine Y.ql rfl (aC (j:=k) rfl cZ dV (.t .g3) (.t .g1) rfl (by omega)) ?_
 refine Y.ql rfl (qE rfl pU (.t .z) ao ap dV) ?_
 refine Y.el rfl (bL rfl aFx rfl rfl) ?_
 rintro _ _ ⟨g13,rfl,rfl⟩
 refine Y.es (aD rfl) rfl (esW rfl (.t .z) (.t .g1) .z dV rfl rfl) ?_
 refine Y.nt (Y.region (Y.mv rfl .g7 (Y.fa rfl .g1 jP (Y.ld rfl iR .z .z ?_))))
 refine Y.el rfl (aS (cs:= [.string a6.name]) rfl hZ (inz lQ) (by decide) (pv1 (.t .z)) rfl rfl (by decide) rfl rfl) ?_
 rintro _ _ ⟨g14,rfl,rfl⟩
 refine Y.add (c:=aG uM a6.name [.string a6.name]) (fun _ _=>⟨rfl,by assumption⟩) ?_
 refine Y.el rfl (dU rfl hZ lQ rfl (.t .g3) (.t .z) (.c .g3 (.c .g1 (.c .z .n))) (by first | omega |(simp only [List.length_append,List.length_take,List.length_nil,List.length_cons];omega)) (by first | omega |(simp only [List.length_append,List.length_take,List.length_nil,List.length_cons];omega))) ?_
 rintro _ _ rfl
 refine Y.af .z (zJ am) ?_
 refine Y.h (WS.a .z) ?_
 rintro⟨a8,a9,rfl,bn,bo,bp⟩
 refine Y.er .g12 (Y.as rfl .z (Y.nil (Y.ac (Y.g (Y.region ?_)))))
 refine Y.ql rfl (bQ (c:=((k+1:Nat):Int)) rfl (.t .g10) .c (wr (by omega) (by omega) (by omega))) ?_
 refine Y.er .g11 (Y.mv rfl .z (Y.nil ?_))
 refine Y.ae ((k+1),a8,a9) (by omega) (by first | omega |(dsimp only;omega)) (.c .z (.c .g12 (.c .g13 (.c .g2 (.c .g14 .n))))) (fun _ h=>h.sel (.c .z .n))
 refine Y.exit (Y.ab (Y.ab (Y.ai (Y.g (Y.seq (Y.region (Y.mv rfl .g4 (Y.er .g6 ?_))))))))
 refine Y.as rfl .z (Y.nt (Y.ret ?_))
 refine Y.af (x':=iC (aB f.inodes a)) .z (by rw [b1];exact vT (by omega)) ?_
 refine Y.i (aY rfl .z) (.c .z .n) ?_
 rfl

theorem aLt {w0:World}{S0:Bs}{f:DFs}{ah:List Value} (h0:eU.ro w0 (FF w0 S0) f ah) (a:Int):
    Calls Tryz.prog 34 #[.agg ah.toArray,.int .i64 a] w0 (aJ w0 S0 (aJw (gT f a))):=by
 obtain⟨aq,ar,rfl,aa,ab⟩:=cY h0
 obtain⟨ac,ad,rfl,ai,aj,ak,al⟩:=aH aa
 obtain⟨ae,af,rfl,am,an,ao,ap⟩:=aH ab
 refine Y.enter (N:=16) Tryz.func34 rfl rfl (by simp) [(0,.agg #[.slice ac f.inodes.length ad,.slice ae f.data.length af]),(1,.int .i64 a)] (by simp) (l0:= []) trivial ?_
 refine Y.seq (Y.region ?_)
 refine Y.el rfl (fT (cs:= [.slice ac f.inodes.length ad,.slice ae f.data.length af]) (n:=2) rfl (.t .z) rfl rfl) ?_
 rintro _ _ ⟨g3,rfl,rfl⟩
 refine Y.el rfl (bL rfl aHo rfl rfl) ?_
 rintro _ _ ⟨g4,rfl,rfl⟩
 refine Y.nt (Y.seq (Y.seq (Y.region (Y.ql rfl (qW rfl bI (.t .g1) .g1 aW) (Y.mv rfl .g4 ?_)))))
 refine Y.cl rfl rfl Tryz.func79 rfl rfl (aX (.t .g1) (.t .z)) .n (fun _ _ hs tr=>aKz (aM f (tr.ctx aa) (tr.ctx ab)) _) ?_
 rintro _ _ ⟨rfl,rfl⟩
 refine Y.m .n ?_
 refine Y.as rfl .z (Y.nt (Y.seq (Y.region (Y.mv rfl .z (Y.ql rfl (cU rfl (.t .z) .c) (Y.nt ?_))))))
 refine Y.ad (.t .z) (fun b5=> ?_) (fun b5=> ?_)
 refine Y.seq (Y.region (Y.mv rfl .g2 (Y.ql rfl (aZ (cs:= [.int .i64 (fI f a),.slice none 0 0]) rfl aEw (pv1 (.t .z)) rfl) ?_)))
 refine Y.es (aD rfl) rfl (esW rfl (.t .g8) (.t .z) .z qU rfl rfl) ?_
 refine Y.nt (Y.ret (Y.r ?_))
 refine Y.add (c:=aG fB [] [.slice none 0 0]) (fun w S=>aN w S none) ?_
 refine Y.i (dD rfl .g8 aBz .g1 qU) (.c .z .n) ?_
 first |(rw [uC (by assumption)];exact⟨_,rfl,rfl⟩) |(rw [kU (by assumption)];exact⟨_,rfl,rfl⟩)
 have ag:=qT b5
 have au:=iY ag.1
 obtain⟨av,aw⟩:=ag.2.1
 refine Y.skip (Y.g (Y.seq (Y.region (Y.mv rfl .g9 ?_))))
 refine Y.cl rfl rfl Tryz.func80 rfl rfl (aX (.t .g8) (.t .z)) .n (fun _ _ hs tr=>aN9 (tr.ptr .g1 (aM f (tr.ctx aa) (tr.ctx ab))) _ (by first | assumption |(constructor <;> omega))) ?_
 rintro _ _ rfl
 refine Y.m (.c .n) ?_
 refine Y.h (WS.a .z) ?_
 rintro⟨ax,ay,rfl,az,a0,a1⟩
 refine Y.ql rfl (aZ (cs:= [.int .i64 0,.slice ax (iC (aB (f).inodes a)).length ay]) rfl aEw (pv1 (.t .z)) rfl) ?_
 refine Y.es (aD rfl) rfl (esW rfl (.t .g9) (.t .z) .g1 qU rfl rfl) ?_
 refine Y.nt (Y.ret ?_)
 refine Y.i (dD rfl .g9 aBz .z qU) (.c .g1 .n) ?_
 first |(rw [uC (by assumption)];exact⟨_,rfl,rfl⟩) |(rw [kU (by assumption)];exact⟨_,rfl,rfl⟩)

theorem aM1 {w0:World}{S0:Bs}{f:DFs}{bo:List Value} (h0:eU.ro w0 (FF w0 S0) f bo) (a:Int):
    Calls Tryz.prog 180 #[.agg bo.toArray,.int .i64 a] w0 (aJ w0 S0 (aJw (gT f a))):=by
 obtain⟨b3,b4,rfl,ar,au⟩:=cY h0
 obtain⟨av,ag,rfl,bp,bq,br,aw⟩:=aH ar
 obtain⟨ah,ai,rfl,bs,bt,bu,bv⟩:=aH au
 refine Y.enter (N:=42) Tryz.func180 rfl rfl (by simp) [(0,.agg #[.slice av f.inodes.length ag,.slice ah f.data.length ai]),(1,.int .i64 a)] (by simp) (l0:= []) trivial ?_
 refine Y.seq (Y.region ?_)
 refine Y.el rfl (fT (cs:= [.slice av f.inodes.length ag,.slice ah f.data.length ai]) (n:=2) rfl (.t .z) rfl rfl) ?_
 rintro _ _ ⟨g3,rfl,rfl⟩
 refine Y.el rfl (bL rfl aHo rfl rfl) ?_
 rintro _ _ ⟨g4,rfl,rfl⟩
 refine Y.nt (Y.seq (Y.seq (Y.region (Y.mv rfl .g3 ?_))))
 refine Y.cl rfl rfl Tryz.func125 rfl rfl (aX (.t .g2) (.t .z)) .n (fun _ _ hs tr=>aJ7 (tr.ptr .g1 (aM f (tr.ctx ar) (tr.ctx au))) _) ?_
 rintro _ _ ⟨rfl,rfl⟩
 refine Y.m .n ?_
 refine Y.as rfl .z (Y.nt (Y.seq (Y.region (Y.mv rfl .z (Y.ql rfl (cU rfl (.t .z) .c) (Y.nt ?_))))))
 refine Y.ad (.t .z) (fun b5=> ?_) (fun b5=> ?_)
 refine Y.seq (Y.region (Y.mv rfl .g2 (Y.ql rfl (aZ (cs:= [.int .i64 (fI f a),.slice none 0 0]) rfl aEw (pv1 (.t .z)) rfl) ?_)))
 refine Y.es (aD rfl) rfl (esW rfl (.t .g7) (.t .z) .z qU rfl rfl) ?_
 refine Y.nt (Y.ret (Y.r ?_))
 refine Y.add (c:=aG fB [] [.slice none 0 0]) (fun w S=>aN w S none) ?_
 refine Y.i (dD rfl .g7 aBz .g1 qU) (.c .z .n) ?_
 first |(rw [uC (by assumption)];exact⟨_,rfl,rfl⟩) |(rw [kU (by assumption)];exact⟨_,rfl,rfl⟩)
 have ax:=qT b5
 have ba:=iY ax.1
 obtain⟨b6,b7⟩:=ax.2.1
 refine Y.skip (Y.g (Y.seq (Y.region (Y.ql rfl (aZ (cs:= [.int .i64 0,.slice none 0 0]) rfl aEw pv0 rfl) ?_))))
 refine Y.el rfl (bL rfl aHo rfl rfl) ?_
 rintro _ _ ⟨g8,rfl,rfl⟩
 refine Y.es (aD rfl) rfl (esW rfl (.t .z) (.t .g1) .z qU rfl rfl) ?_
 refine Y.nt (Y.seq (Y.seq (Y.region (Y.ql rfl (aA rfl .c) (Y.nt (Y.block ?_))))))
 refine Y.add (c:=aG fB [] [.slice none 0 0]) (fun w S=>aN w S none) ?_
 obtain⟨bb,aj,ak⟩:=aw (by omega)
 subst aj
 obtain⟨al,ac⟩:=aI (xs:=f.inodes) (j:=Int.toNat a) (by omega)
 obtain⟨bw,ay,ae,af⟩:=ak.elem ac
 obtain⟨bc,bd,rfl,am,an⟩:=cK ay
 obtain⟨be,bf,rfl,a3,a4,a5,a6⟩:=aH am
 obtain⟨bg,bh,rfl,a7,a8,a9,ad⟩:=aH an
 have b8:=cH (i:=a) ac (by omega)
 have bi:=cI (a:=a) ac (by omega)
 have az:=dT ba _ (List.mem_of_getElem? ac)
 refine Y.aj (γ:=Nat×(Option Addr)×Nat) (fun⟨k,aa,ab⟩=> [(7,.int .i64 (k:Int)),(6,.pointer (some ⟨g8,0,none⟩)),(4,.pointer (some ⟨g4,0,none⟩)),(2,.pointer (some ⟨g3,0,none⟩)),(1,.int .i64 a)]) (fun⟨k,aa,ab⟩=> [aG fB (kQ al.ents k) [.slice aa (kQ al.ents k).length ab],cM g8 65 2 1 [.int .i64 0,.slice aa (kQ al.ents k).length ab],cM g4 65 2 1 [.int .i64 0,.slice none 0 0],cM g3 27 2 1 [.slice (some bb) f.inodes.length ag,.slice ah f.data.length ai]]) (fun⟨k,aa,ab⟩=>k≤al.ents.length) (fun⟨k,aa,ab⟩=>al.ents.length - k) (0,none,0) (Nat.zero_le _) (.c .z (.c .g1 (.c .g8 (.c .g9 (.c .g11 .n))))) (fun _ h=>h.sel (.c .z (.c .z (.c .z (.c .z .n))))) ?_
 rintro⟨k,aa,ab⟩ hk
 have hnl:=vX (es:=al.ents) (k:=k)
 refine Y.seq (Y.seq (Y.region (Y.mv rfl .z (Y.fa rfl .g4 aO (Y.ld rfl bK .z .g3 (Y.mv rfl .g7 ?_))))))
 refine Y.ql rfl (aC (j:=Int.toNat a) rfl cE aU (.t .g1) (.t .z) (by omega) (by omega)) ?_
 refine Y.fa rfl .z bE (Y.le rfl dP .z ae af (Y.ql rfl (bM rfl cZ (.t .z)) (Y.ql rfl (dJ rfl (.t .g7) (.t .z)) (Y.nt ?_))))
 refine Y.u (.t .z) (fun b9=> ?_) (fun b9=> ?_)
 refine Y.skip (Y.g (Y.seq (Y.block ?_)))
 refine Y.dr .g1 15 gG ?_
 refine Y.sc (qs 0 12++ [(12,false),(13,false),(14,true),(15,false)]) (by kernel_rfl) ?_
 refine Y.df rfl rfl .g1 .g10 oN (Y.dl rfl rfl .g1 xV .z .z (Y.df rfl rfl .g1 .g14 aO (Y.dl rfl rfl .g1 bK .z .g2 (Y.dm rfl rfl .g1 (.s16 .g1) ?_))))
 refine Y.dk rfl rfl .g1 (aC (j:=Int.toNat a) rfl cE aU (.t .g1) (.t .z) (by omega) (by omega)) ?_
 refine Y.df rfl rfl .g1 .z bE (Y.de rfl rfl .g1 dP .z ae af (Y.dm rfl rfl .g1 (.s16 .g1) ?_))
 obtain⟨ca,ao,ap⟩:=ad (by omega)
 subst ao
 obtain⟨bj,aq⟩:=aI (xs:=al.ents) (j:=k) (by omega)
 obtain⟨bx,a0,a1,a2⟩:=ap.elem aq
 obtain⟨rfl,bk⟩:=eR a0
 have bz:=nN az _ _ aq
 refine Y.dk rfl rfl .g1 (aC (j:=k) rfl cZ dV (.t .g1) (.t .z) rfl (by omega)) ?_
 refine Y.df rfl rfl .g1 .z jP (Y.de rfl rfl .g1 iR .z a1 a2 ?_)
 refine Y.e (aE rfl rfl) rfl (by decide) rfl (aS (cs:= [.string bj.name]) rfl hZ (inz lQ) (by decide) (pv1 (.t .z)) rfl rfl (by decide) rfl rfl) ?_
 rintro _ _ ⟨g19,rfl,rfl⟩
 refine Y.sk .g2 ?_
 refine Y.add (c:=aG uM bj.name [.string bj.name]) (fun _ _=>⟨rfl,by assumption⟩) ?_
 refine Y.e (aE rfl rfl) rfl (by decide) rfl (dU rfl hZ lQ rfl (.t .g11) (.t .z) (.c .g2 (.c .g1 (.c .z .n))) (by first | omega |(simp only [List.length_append,List.length_take,List.length_nil,List.length_cons];omega)) (by first | omega |(simp only [List.length_append,List.length_take,List.length_nil,List.length_cons];omega))) ?_
 rintro _ _ rfl
 refine Y.af .z (zJ aq) ?_
 refine Y.h (WS.a .z) ?_
 rintro⟨bm,bn,rfl,b0,b1,b2⟩
 refine Y.sk .g1 ?_
 refine Y.df rfl rfl .g1 (.s16 .g8) oN ?_
 refine Y.es (aE rfl rfl) rfl (es1 (off:=1) rfl aNa (.t .z) (.t .g1) rfl rfl .g1 rfl .g1) ?_
 refine Y.sl rfl ?_
 refine Y.aa ?_
 refine Y.ag (by kernel_rfl) ?_
 refine Y.ac (Y.g (Y.region (Y.mv rfl (.s16 .g8) ?_)))
 refine Y.ql rfl (bQ (c:=((k+1:Nat):Int)) rfl (.t .z) .c (wr (by omega) (by omega) (by omega))) ?_
 refine Y.er (.s16 .g10) (Y.as rfl .z (Y.nil ?_))
 refine Y.ae ((k+1),bm,bn) (by omega) (by first | omega |(dsimp only;omega)) (.c .z (.c (.s16 .g11) (.c (.s16 .g12) (.c (.s16 .g13) (.c (.s16 .g14) .n))))) (fun _ h=>h.sel (.c .g1 (.c .z (.c .z (.c .z .n)))))
 refine Y.exit (Y.ab (Y.ab (Y.ai (Y.g (Y.seq (Y.region (Y.ql rfl (qW rfl aBz (.t .g10) .g1 qU) ?_)))))))
 refine Y.es (aD rfl) rfl (esW rfl (.t .g12) (.t .z) .g2 qU rfl rfl) ?_
 refine Y.nt (Y.ret ?_)
 refine Y.af (x':=iC (aB f.inodes a)) .g1 (by rw [bi];exact vT (by omega)) ?_
 refine Y.i (dD rfl .g12 aBz .g1 qU) (.c .z .n) ?_
 first |(rw [uC (by assumption)];exact⟨_,rfl,rfl⟩) |(rw [kU (by assumption)];exact⟨_,rfl,rfl⟩)

end Go.Proofs.YtmejbfmhaoilmaaGreat

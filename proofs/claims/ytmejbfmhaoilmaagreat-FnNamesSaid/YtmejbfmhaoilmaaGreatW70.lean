/- What is proved: contracts of functions, one a function. No condition. -/
import Derived.Test.YtmejbfmhaoilmaaGreatBase1
import Derived.Test.YtmejbfmhaoilmaaGreatW33
import Derived.Test.YtmejbfmhaoilmaaGreatW62
import Derived.Test.YtmejbfmhaoilmaaGreatBase2
namespace Go.Proofs.YtmejbfmhaoilmaaGreat
open Go Go.RowKit
set_option linter.unusedVariables false
set_option linter.unusedSimpArgs false
set_option maxHeartbeats 1000000
set_option maxRecDepth 20000
theorem aM4 {w0:World}{S0:Bs}{f:DFs}{a1:Addr} (h0:gP eU w0 (FF w0 S0) a1 f) {x:(List ByteArray)}{v1:Value} (h1:fB.ro w0 (FF w0 S0) x [v1]) (ht:bX f=0):
    Calls Tryz.prog 195 #[.pointer (some a1),v1] w0 (aJ w0 S0 (fun r l=>r= .tuple #[.int .i64 (wkC f.inodes 0 x).1,.int .i64 (wkC f.inodes 0 x).2]∧l= [])):=by
 obtain⟨cc,a2,bv,a3⟩:=id h0
 obtain⟨bw,bx,rfl,a4,a5⟩:=cY bv
 obtain⟨bz,b0,rfl,bf,bg,bh,al⟩:=aH a4
 obtain⟨b1,b2,rfl,bi,bj,bk,bm⟩:=aH a5
 obtain⟨A1,c1,rfl,cd,ce,cf,b3⟩:=aH h1
 have hI:=iY ht
 have cg:=tU ht
 refine Y.enter (N:=52) Tryz.func195 rfl rfl (by simp) [(0,.pointer (some a1)),(1,.slice A1 x.length c1)] (by simp) (l0:= []) trivial ?_
 refine Y.seq (Y.region (Y.ql rfl (aA rfl .c) (Y.ql rfl (aA rfl .c) (Y.nt (Y.seq (Y.region (Y.ql rfl (aA rfl .c) ?_)))))))
 refine Y.nt (Y.seq (Y.seq (Y.region (Y.ql rfl (aA rfl .c) (Y.nt (Y.block ?_))))))
 refine Y.aj (γ:=Nat×Int) (fun⟨k,a⟩=> [(7,.int .i64 (k:Int)),(6,.int .i64 a),(0,.pointer (some a1)),(1,.slice A1 x.length c1)]) (fun⟨k,a⟩=> []) (fun⟨k,a⟩=>k≤x.length∧bR f.inodes.length a∧wkC f.inodes 0 x=wkC f.inodes a (x.drop k)) (fun⟨k,a⟩=>x.length - k) (0,0) ⟨Nat.zero_le _,tU ht,rfl⟩ (.c .z (.c .g1 (.c .g4 (.c .g5 .n)))) (fun _ h=>h) ?_
 rintro⟨k,a⟩ ⟨hk,hpa,hwk⟩
 obtain⟨ch,ci⟩:=hpa
 have hor:=fun s:ByteArray=>eK (s:=s) (a:=a) ht rfl
 refine Y.seq (Y.seq (Y.region (Y.mv rfl .z (Y.mv rfl .g4 (Y.ql rfl (bM rfl hZ (.t .z)) (Y.ql rfl (dJ rfl (.t .g2) (.t .z)) (Y.nt ?_)))))))
 refine Y.u (.t .z) (fun b4=> ?_) (fun b4=> ?_)
 refine Y.skip (Y.g (Y.seq (Y.block (Y.seq (Y.seq (Y.region (Y.mv rfl .g6 (Y.nc rfl .z ?_))))))))
 refine Y.fa rfl .z aO (Y.le rfl bK .z a2 a3 (Y.mv rfl .g9 ?_))
 obtain⟨cj,am,an⟩:=al (by omega)
 subst am
 obtain⟨x6,ao⟩:=aI (xs:=f.inodes) (j:=Int.toNat a) (by first | omega)
 obtain⟨b5,a6,ac,ad⟩:=an.elem ao
 obtain⟨bn,bo,rfl,ap,aa⟩:=cK a6
 obtain⟨bp,bq,rfl,a7,a8,a9,ba⟩:=aH ap
 obtain⟨br,bs,rfl,bb,bc,bd,ae⟩:=aH aa
 have ck:=cH (i:=a) ao (by omega)
 have aq:=cI (a:=a) ao (by omega)
 have cm:=dC (a:=a) ao (by omega)
 have cn:=wH (a:=a) ao (by omega)
 refine Y.ql rfl (aC (j:=Int.toNat a) rfl cE aU (.t .g1) (.t .z) (by omega) (by first | omega)) ?_
 refine Y.fa rfl .z cV (Y.le rfl cF .z ac ad (Y.ql rfl (cU rfl (.t .z) .c) (Y.nt ?_)))
 refine Y.ad (.t .z) (fun b6=> ?_) (fun b6=> ?_)
 refine Y.seq (Y.region (Y.ql rfl (aA rfl .c) (Y.ql rfl (aA rfl .c) (Y.nt (Y.ret (Y.r (Y.y ?_)))))))
 refine Y.r (Y.r (Y.y (Y.r ?_)))
 refine Y.i (qB rfl .g1 .z) .n ?_
 obtain⟨zn,hzn⟩:=aI (xs:=x) (j:=k) (by omega);rw [hwk,aLy hzn (by omega)];exact⟨rfl,rfl⟩
 refine Y.skip (Y.g (Y.seq ?_))
 refine Y.dr .z 13 gG ?_
 refine Y.sc (qs 0 12++ [(12,false),(13,false)]) (by kernel_rfl) ?_
 refine Y.dm rfl rfl .z .g15 (Y.dn rfl rfl .z .z (Y.df rfl rfl .z .z aO (Y.de rfl rfl .z bK .z a2 a3 (Y.dm rfl rfl .z (.s16 .g2) ?_))))
 refine Y.dk rfl rfl .z (aC (j:=Int.toNat a) rfl cE aU (.t .g1) (.t .z) (by omega) (by first | omega)) ?_
 refine Y.df rfl rfl .z .z bE (Y.de rfl rfl .z dP .z ac ad (Y.dm rfl rfl .z (.s16 .g8) (Y.dm rfl rfl .z (.s16 .g6) ?_)))
 obtain⟨b7,af,ag⟩:=b3 (by omega)
 subst af
 obtain⟨ab,ah⟩:=aI (xs:=x) (j:=k) (by first | omega)
 obtain⟨bt,ar,au,av⟩:=ag.elem ah
 obtain⟨rfl,b8⟩:=ar
 refine Y.dk rfl rfl .z (aC (j:=k) rfl hZ tF (.t .g1) (.t .z) rfl (by first | omega)) ?_
 refine Y.dk rfl rfl .z (aL rfl iR (.t .z) (WS.j au av rfl)) ?_
 refine Y.call (aE rfl rfl) rfl (by decide) rfl (bS rfl Tryz.func127 rfl rfl (aX (.t .g4) (.t .z))) .n (fun _ _ hs tr=>rJ (tr.ctx aa) _ (by first | assumption | omega)) ?_
 rintro _ _ ⟨rfl,rfl⟩
 refine Y.m .n ?_
 refine Y.sk .z ?_
 refine Y.q (aE rfl rfl) rfl (by decide) rfl (aA rfl (.t .z)) ?_
 refine Y.sl rfl ?_
 refine Y.aa ?_
 refine Y.ag (by kernel_rfl) ?_
 refine Y.g (Y.seq (Y.seq (Y.region (Y.mv rfl .z (Y.ql rfl (dJ rfl (.t .z) .c) (Y.nt ?_))))))
 refine Y.u (.t .z) (fun b9=> ?_) (fun b9=> ?_)
 have aw:=eK (s:=ab) (a:=a) ht aq
 have ax:=gN (cA ab) x6.ents
 refine Y.seq (Y.region (Y.ql rfl (aA rfl .c) (Y.ql rfl (aA rfl .c) (Y.nt (Y.ret (Y.r (Y.y ?_)))))))
 refine Y.r (Y.r (Y.y (Y.r ?_)))
 refine Y.i (qB rfl .g1 .z) .n ?_
 have h9:=eK (s:=ab) (a:=a) ht aq;have h8:=hor ab;rw [hwk,aMp ah (by omega) (by omega)];exact⟨rfl,rfl⟩
 have aw:=eK (s:=ab) (a:=a) ht aq
 have ax:=gN (cA ab) x6.ents
 refine Y.skip (Y.g (Y.region (Y.mv rfl (.s16 .g15) (Y.nc rfl .z (Y.fa rfl .z aO (Y.le rfl bK .z a2 a3 (Y.mv rfl (.s16 (.s16 .g2)) ?_)))))))
 refine Y.ql rfl (aC (j:=Int.toNat a) rfl cE aU (.t .g1) (.t .z) (by omega) (by first | omega)) ?_
 refine Y.fa rfl .z bE (Y.le rfl dP .z ac ad (Y.mv rfl .g10 ?_))
 obtain⟨ca,ai,aj⟩:=ae (by omega)
 subst ai
 obtain⟨cb,ak⟩:=aI (xs:=x6.ents) (j:=Int.toNat (eS (cA ab) x6.ents)) (by first | omega)
 obtain⟨bu,ay,az,a0⟩:=aj.elem ak
 obtain⟨rfl,be⟩:=eR ay
 refine Y.ql rfl (aC (j:=Int.toNat (eS (cA ab) x6.ents)) rfl cZ dV (.t .g1) (.t .z) (by omega) (by first | omega)) ?_
 refine Y.fa rfl .z iX (Y.le rfl cF .z az a0 (Y.er (.s16 (.s16 .g10)) (Y.as rfl .z (Y.nil (Y.ac (Y.g (Y.region (Y.mv rfl (.s16 (.s16 .g10)) ?_))))))))
 refine Y.ql rfl (bQ (c:=((k+1:Nat):Int)) rfl (.t .z) .c (wr (by omega) (by omega) (by omega))) ?_
 refine Y.er (.s16 (.s16 .g12)) (Y.as rfl .z (Y.nil ?_))
 refine Y.ae ((k+1),cb.ino) ⟨by omega,(by have h9:=uY (by assumption) ak;rw [←aq] at h9;rw [←h9];exact tD ht (by omega)),(by have h9:=uY (by assumption) ak;rw [←aq] at h9;rw [←h9];have h8:=aNd ah (show aR f.inodes a=2 by omega) (by omega);rw [hwk,h8])⟩ (by first | omega |(dsimp only;omega)) (.c .z (.c .g3 (.c (.s16 (.s16 .g13)) (.c (.s16 (.s16 .g14)) .n)))) (fun _ h=>h)
 refine Y.exit (Y.ab (Y.ab (Y.ai (Y.g (Y.seq (Y.region (Y.mv rfl .g5 (Y.as rfl .z ?_))))))))
 refine Y.ql rfl (aA rfl .c) (Y.nt (Y.ret ?_))
 refine Y.i (qB rfl .g1 .z) .n ?_
 rw [hwk,aGu (by omega)];exact⟨rfl,rfl⟩

theorem aL2 {w0:World}{S0:Bs}{f:DFs}{aa:Addr} (h0:gP eU w0 (FF w0 S0) aa f) (s:ByteArray) (a1:s.size≤140737488351232) (ht:bX f=0):
    Calls Tryz.prog 174 #[.pointer (some aa),.string s] w0 (aJ w0 S0 (fun r l=>r= .tuple #[.int .i64 (dA f s).1,.int .i64 (dA f s).2]∧l= [])):=by
 obtain⟨a2,a3,an,a4⟩:=id h0
 obtain⟨ao,ap,rfl,ab,ac⟩:=cY an
 obtain⟨aq,ar,rfl,ad,ae,af,ag⟩:=aH ab
 obtain⟨au,av,rfl,ah,ai,aj,ak⟩:=aH ac
 refine Y.enter (N:=21) Tryz.func174 rfl rfl (by simp) [(0,.pointer (some aa)),(1,.string s)] (by simp) (l0:= []) trivial ?_
 refine Y.seq (Y.region (Y.ql rfl (aA rfl .c) (Y.ql rfl (aA rfl .c) (Y.nt (Y.seq (Y.region (Y.mv rfl .g3 ?_)))))))
 refine Y.cl rfl rfl Tryz.func196 rfl rfl (bT (.t .z)) .n (fun _ _ hs tr=>aGl _ (by first | assumption | omega)) ?_
 rintro _ _ ⟨v3,rfl,rfl⟩
 refine Y.m (.c .n) ?_
 refine Y.h (WS.a .z) ?_
 rintro⟨aw,ax,rfl,ay,az,a0⟩
 have al:=(pJ s).1
 refine Y.mv rfl .z (Y.ql rfl (cC (v:= .slice aw (dY s).length ax) rfl (.t .z) rfl) (Y.ql rfl (cC (v:= .int .i64 (fV s)) rfl (.t .g1) rfl) (Y.as rfl .g1 (Y.as rfl .g1 (Y.nt (Y.seq (Y.seq ?_)))))))
 refine Y.region (Y.mv rfl .z (Y.ql rfl (cU rfl (.t .z) .c) (Y.nt ?_)))
 refine Y.ad (.t .z) (fun b6=> ?_) (fun b6=> ?_)
 refine Y.seq (Y.region (Y.mv rfl .g2 (Y.er .g11 (Y.ql rfl (aA rfl .c) (Y.er .g11 (Y.as rfl .g1 (Y.nt ?_)))))))
 refine Y.ret (Y.r ?_)
 refine Y.i (qB rfl .g1 .z) .n ?_
 rw [aD5 (by assumption)];exact⟨rfl,rfl⟩
 refine Y.skip (Y.g (Y.seq (Y.region (Y.mv rfl .g11 (Y.mv rfl .g4 ?_)))))
 refine Y.cl rfl rfl Tryz.func195 rfl rfl (aX (.t .g1) (.t .z)) .n (fun _ _ hs tr=>aM4 (tr.ctxP h0) (tr.own .z) (by assumption)) ?_
 rintro _ _ ⟨rfl,rfl⟩
 refine Y.m .n ?_
 have am:=yG ht (dY s) 0 (tU ht)
 refine Y.ql rfl (cC (v:= .int .i64 ((wkC (f).inodes 0 (dY s)).1)) rfl (.t .z) rfl) (Y.ql rfl (cC (v:= .int .i64 ((wkC (f).inodes 0 (dY s)).2)) rfl (.t .g1) rfl) (Y.er .g15 (Y.as rfl .g1 (Y.er .g15 (Y.as rfl .g1 (Y.nt (Y.ret ?_)))))))
 refine Y.i (qB rfl .g1 .z) .n ?_
 rw [aD4 (by assumption)];exact⟨rfl,rfl⟩

theorem aLg {w0:World}{S0:Bs}{f:DFs}{a6:List Value} (h0:eU.ro w0 (FF w0 S0) f a6) (s:ByteArray) (bn:s.size≤140737488351232):
    Calls Tryz.prog 179 #[.agg a6.toArray,.string s] w0 (aJ w0 S0 (aKf (kA f s))):=by
 obtain⟨bj,bk,rfl,ac,ad⟩:=cY h0
 obtain⟨ag,ah,rfl,a7,a8,a9,ai⟩:=aH ac
 obtain⟨aj,ak,rfl,ba,bb,bc,bd⟩:=aH ad
 refine Y.enter (N:=57) Tryz.func179 rfl rfl (by simp) [(0,.agg #[.slice ag f.inodes.length ah,.slice aj f.data.length ak]),(1,.string s)] (by simp) (l0:= []) trivial ?_
 refine Y.seq (Y.region ?_)
 refine Y.el rfl (fT (cs:= [.slice ag f.inodes.length ah,.slice aj f.data.length ak]) (n:=2) rfl (.t .z) rfl rfl) ?_
 rintro _ _ ⟨g3,rfl,rfl⟩
 refine Y.el rfl (bL rfl aJu rfl rfl) ?_
 rintro _ _ ⟨g4,rfl,rfl⟩
 refine Y.nt (Y.seq (Y.seq (Y.region ?_)))
 refine Y.cl rfl rfl Tryz.func56 rfl rfl (bT (.t .g1)) .n (fun _ _ hs tr=>aNm (tr.ptr .g1 (aM f (tr.ctx ac) (tr.ctx ad)))) ?_
 rintro _ _ ⟨rfl,rfl⟩
 refine Y.m .n ?_
 refine Y.as rfl .z (Y.nt (Y.seq (Y.region (Y.mv rfl .z (Y.ql rfl (cU rfl (.t .z) .c) (Y.nt ?_))))))
 refine Y.ad (.t .z) (fun b5=> ?_) (fun b5=> ?_)
 refine Y.seq (Y.region (Y.mv rfl .g2 (Y.ql rfl (aZ (cs:= [.int .i64 (fJ f),.int .i64 0,.int .i64 0,.int .i64 0,.int .i64 0]) rfl aBc (pv1 (.t .z)) rfl) ?_)))
 refine Y.es (aD rfl) rfl (esW rfl (.t .g6) (.t .z) .z qD rfl rfl) ?_
 refine Y.nt (Y.ret (Y.r ?_))
 refine Y.i (dD rfl .g6 aAc .z qD) .n ?_
 first |(rw [wJ (by assumption)];exact⟨rfl,rfl⟩) |(rw [wN hF (by assumption)];exact⟨rfl,rfl⟩)
 have hF:fJ f=0:=b5
 have ht:=xF hF
 refine Y.skip (Y.g (Y.seq (Y.region (Y.mv rfl .g7 ?_))))
 refine Y.cl rfl rfl Tryz.func174 rfl rfl (aX (.t .g6) (.t .z)) .n (fun _ _ hs tr=>aL2 (tr.ptr .g1 (aM f (tr.ctx ac) (tr.ctx ad))) _ (by first | assumption | omega) (by assumption)) ?_
 rintro _ _ ⟨rfl,rfl⟩
 refine Y.m .n ?_
 have be:=aCr ht s
 refine Y.mv rfl .z (Y.ql rfl (cC (v:= .int .i64 ((dA f s).1)) rfl (.t .z) rfl) (Y.ql rfl (cC (v:= .int .i64 ((dA f s).2)) rfl (.t .g1) rfl) (Y.as rfl .g1 (Y.as rfl .g1 (Y.nt (Y.seq (Y.seq ?_)))))))
 refine Y.region (Y.mv rfl .z (Y.ql rfl (cU rfl (.t .z) .c) (Y.nt ?_)))
 refine Y.ad (.t .z) (fun b7=> ?_) (fun b7=> ?_)
 refine Y.seq (Y.region (Y.mv rfl .g2 (Y.ql rfl (aZ (cs:= [.int .i64 ((dA f s).2),.int .i64 0,.int .i64 0,.int .i64 0,.int .i64 0]) rfl aBc (pv1 (.t .z)) rfl) ?_)))
 refine Y.es (aD rfl) rfl (esW rfl (.t .g15) (.t .z) .z qD rfl rfl) ?_
 refine Y.nt (Y.ret (Y.r ?_))
 refine Y.i (dD rfl .g15 aAc .z qD) .n ?_
 first |(rw [wJ (by assumption)];exact⟨rfl,rfl⟩) |(rw [wN hF (by assumption)];exact⟨rfl,rfl⟩)
 refine Y.skip (Y.g (Y.seq (Y.region (Y.fa rfl .g14 aO (Y.ld rfl bK .z .g1 (Y.mv rfl .g5 ?_))))))
 obtain⟨bo,al,am⟩:=ai (by omega)
 subst al
 obtain⟨x9,an⟩:=aI (xs:=f.inodes) (j:=Int.toNat ((dA f s).1)) (by omega)
 obtain⟨bf,ao,aa,ab⟩:=am.elem an
 obtain⟨a0,a1,rfl,ae,af⟩:=cK ao
 obtain⟨a2,a3,rfl,ap,aq,ar,au⟩:=aH ae
 obtain⟨a4,a5,rfl,av,aw,ax,ay⟩:=aH af
 have az:=cH (i:=((dA f s).1)) an (by omega)
 have bg:=cI (a:=((dA f s).1)) an (by omega)
 have bh:=dC (a:=((dA f s).1)) an (by omega)
 have bi:=wH (a:=((dA f s).1)) an (by omega)
 refine Y.ql rfl (aC (j:=Int.toNat ((dA f s).1)) rfl cE aU (.t .g1) (.t .z) (by omega) (by omega)) ?_
 refine Y.as rfl .z (Y.nt (Y.seq (Y.seq (Y.region (Y.mv rfl .z (Y.nc rfl .z (Y.fa rfl .z cV ?_)))))))
 refine Y.le rfl cF .z aa ab (Y.ql rfl (bZ rfl (.t .z) .c) (Y.nt ?_))
 refine Y.u (.t .z) (fun bm=> ?_) (fun bm=> ?_)
 refine Y.seq ?_
 refine Y.dr .z 11 gG ?_
 refine Y.sc (qs 0 11++ [(11,false)]) (by kernel_rfl) ?_
 refine Y.dm rfl rfl .z .g13 (Y.dm rfl rfl .z .g6 (Y.dn rfl rfl .z .z (Y.df rfl rfl .z .z cV (Y.de rfl rfl .z cF .z aa ab (Y.dm rfl rfl .z .g10 (Y.dn rfl rfl .z .z (Y.df rfl rfl .z .z bE (Y.de rfl rfl .z dP .z aa ab ?_))))))))
 refine Y.dk rfl rfl .z (bM rfl cZ (.t .z)) (Y.dk rfl rfl .z (aZ (cs:= [.int .i64 0,.int .i64 ((dA f s).1),.int .i64 x9.kind,.int .i64 1,.int .i64 (x9.ents.length:Int)]) rfl aBc (pv4 (.t .g9) (.t .g5) .c (.t .z)) rfl) ?_)
 refine Y.es (aE rfl rfl) rfl (esW rfl (.t (.s16 (.s16 .g2))) (.t .z) .z qD rfl rfl) ?_
 refine Y.sl rfl ?_
 refine Y.aa ?_
 refine Y.ag (by kernel_rfl) ?_
 refine Y.g (Y.ret (Y.r ?_))
 refine Y.i (dD rfl (.s16 (.s16 .g2)) aAc .z qD) .n ?_
 first |(rw [wJ (by assumption)];exact⟨rfl,rfl⟩) |(rw [wN hF (by assumption)];exact⟨rfl,rfl⟩) |(rw [wM hF (by assumption),aEz (by omega),az,bg];exact⟨rfl,rfl⟩) |(rw [wM hF (by assumption),aEm (by omega),az,bh,bi];exact⟨rfl,rfl⟩)
 refine Y.skip (Y.g (Y.seq ?_))
 refine Y.dr .z 14 gG ?_
 refine Y.sc (qs 0 14++ [(14,false)]) (by kernel_rfl) ?_
 refine Y.dm rfl rfl .z .g13 (Y.dm rfl rfl .z .g6 (Y.dn rfl rfl .z .z (Y.df rfl rfl .z .z cV (Y.de rfl rfl .z cF .z aa ab (Y.dm rfl rfl .z .g10 (Y.dn rfl rfl .z .z (Y.df rfl rfl .z .z gC (Y.de rfl rfl .z cF .z aa ab ?_))))))))
 refine Y.dm rfl rfl .z .g14 (Y.dn rfl rfl .z .z (Y.df rfl rfl .z .z hX (Y.de rfl rfl .z cF .z aa ab (Y.dk rfl rfl .z (aZ (cs:= [.int .i64 0,.int .i64 ((dA f s).1),.int .i64 x9.kind,.int .i64 x9.links,.int .i64 x9.size]) rfl aBc (pv4 (.t .g12) (.t .g8) (.t .g4) (.t .z)) rfl) ?_))))
 refine Y.es (aE rfl rfl) rfl (esW rfl (.t (.s16 (.s16 .g5))) (.t .z) .z qD rfl rfl) ?_
 refine Y.sl rfl ?_
 refine Y.aa ?_
 refine Y.ag (by kernel_rfl) ?_
 refine Y.g (Y.ret ?_)
 refine Y.i (dD rfl (.s16 (.s16 .g5)) aAc .z qD) .n ?_
 first |(rw [wJ (by assumption)];exact⟨rfl,rfl⟩) |(rw [wN hF (by assumption)];exact⟨rfl,rfl⟩) |(rw [wM hF (by assumption),aEz (by omega),az,bg];exact⟨rfl,rfl⟩) |(rw [wM hF (by assumption),aEm (by omega),az,bh,bi];exact⟨rfl,rfl⟩)

end Go.Proofs.YtmejbfmhaoilmaaGreat

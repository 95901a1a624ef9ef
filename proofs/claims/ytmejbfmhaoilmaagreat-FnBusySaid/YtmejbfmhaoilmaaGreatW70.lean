/- What is proved: contracts of functions, one a function. No condition. -/
import Derived.Test.YtmejbfmhaoilmaaGreatBase1
import Derived.Test.YtmejbfmhaoilmaaGreatW33
import Derived.Test.YtmejbfmhaoilmaaGreatW62
import Derived.Test.YtmejbfmhaoilmaaGreatBase2
namespace Go.Proofs.YtmejbfmhaoilmaaGreat
open Go Go.RowKit
set_option linter.unusedVariables false
set_option linter.unusedSimpArgs false
set_option maxHeartbeats 1000000
set_option maxRecDepth 20000
theorem aLr {w0:World}{S0:Bs}{f:DFs}{a1:Addr} (h0:gJ eS w0 (FF w0 S0) a1 f) {x:(List ByteArray)}{v1:Value} (h1:fJ.ro w0 (FF w0 S0) x [v1]) (ht:bK f=0):
    Calls Tryz.prog 195 #[.pointer (some a1),v1] w0 (aI w0 S0 (fun r l=>r= .tuple #[.int .i64 (wkC f.inodes 0 x).1,.int .i64 (wkC f.inodes 0 x).2]∧l= [])):=by
 obtain⟨cc,a2,bv,a3⟩:=id h0
 obtain⟨bw,bx,rfl,a4,a5⟩:=cQ bv
 obtain⟨bz,b0,rfl,bf,bg,bh,al⟩:=aD a4
 obtain⟨b1,b2,rfl,bi,bj,bk,bm⟩:=aD a5
 obtain⟨A1,c1,rfl,cd,ce,cf,b3⟩:=aD h1
 have hI:=kC ht
 have cg:=tK ht
 refine Y.enter (N:=52) Tryz.func195 rfl rfl (by simp) [(0,.pointer (some a1)),(1,.slice A1 x.length c1)] (by simp) (l0:= []) trivial ?_
 refine Y.seq (Y.region (Y.ql rfl (aA rfl .c) (Y.ql rfl (aA rfl .c) (Y.nt (Y.seq (Y.region (Y.ql rfl (aA rfl .c) ?_)))))))
 refine Y.nt (Y.seq (Y.seq (Y.region (Y.ql rfl (aA rfl .c) (Y.nt (Y.block ?_))))))
 refine Y.ah (γ:=Nat×Int) (fun⟨k,a⟩=> [(7,.int .i64 (k:Int)),(6,.int .i64 a),(0,.pointer (some a1)),(1,.slice A1 x.length c1)]) (fun⟨k,a⟩=> []) (fun⟨k,a⟩=>k≤x.length∧bY f.inodes.length a∧wkC f.inodes 0 x=wkC f.inodes a (x.drop k)) (fun⟨k,a⟩=>x.length - k) (0,0) ⟨Nat.zero_le _,tK ht,rfl⟩ (.c .z (.c .g1 (.c .g4 (.c .g5 .n)))) (fun _ h=>h) ?_
 rintro⟨k,a⟩ ⟨hk,hpa,hwk⟩
 obtain⟨ch,ci⟩:=hpa
 have hor:=fun s:ByteArray=>vL (s:=s) (a:=a) ht rfl
 refine Y.seq (Y.seq (Y.region (Y.mv rfl .z (Y.mv rfl .g4 (Y.ql rfl (bE rfl jJ (.t .z)) (Y.ql rfl (cU rfl (.t .g2) (.t .z)) (Y.nt ?_)))))))
 refine Y.u (.t .z) (fun b4=> ?_) (fun b4=> ?_)
 refine Y.skip (Y.g (Y.seq (Y.block (Y.seq (Y.seq (Y.region (Y.mv rfl .g6 (Y.nc rfl .z ?_))))))))
 refine Y.fa rfl .z aP (Y.le rfl bO .z a2 a3 (Y.mv rfl .g9 ?_))
 obtain⟨cj,am,an⟩:=al (by omega)
 subst am
 obtain⟨x6,ao⟩:=aJ (xs:=f.inodes) (j:=Int.toNat a) (by first | omega)
 obtain⟨b5,a6,ac,ad⟩:=an.elem ao
 obtain⟨bn,bo,rfl,ap,aa⟩:=bV a6
 obtain⟨bp,bq,rfl,a7,a8,a9,ba⟩:=aD ap
 obtain⟨br,bs,rfl,bb,bc,bd,ae⟩:=aD aa
 have ck:=cZ (i:=a) ao (by omega)
 have aq:=dD (a:=a) ao (by omega)
 have cm:=dZ (a:=a) ao (by omega)
 have cn:=vO (a:=a) ao (by omega)
 refine Y.ql rfl (aB (j:=Int.toNat a) rfl cI aU (.t .g1) (.t .z) (by omega) (by first | omega)) ?_
 refine Y.fa rfl .z bW (Y.le rfl bR .z ac ad (Y.ql rfl (cC rfl (.t .z) .c) (Y.nt ?_)))
 refine Y.ad (.t .z) (fun b6=> ?_) (fun b6=> ?_)
 refine Y.seq (Y.region (Y.ql rfl (aA rfl .c) (Y.ql rfl (aA rfl .c) (Y.nt (Y.ret (Y.m (Y.v ?_)))))))
 refine Y.m (Y.m (Y.v (Y.m ?_)))
 refine Y.j (oE rfl .g1 .z) .n ?_
 obtain⟨zn,hzn⟩:=aJ (xs:=x) (j:=k) (by omega);rw [hwk,aKu hzn (by omega)];exact⟨rfl,rfl⟩
 refine Y.skip (Y.g (Y.seq ?_))
 refine Y.dr .z 13 gB ?_
 refine Y.sc (qs 0 12++ [(12,false),(13,false)]) (by kernel_rfl) ?_
 refine Y.dm rfl rfl .z .g15 (Y.dn rfl rfl .z .z (Y.df rfl rfl .z .z aP (Y.de rfl rfl .z bO .z a2 a3 (Y.dm rfl rfl .z (.s16 .g2) ?_))))
 refine Y.dk rfl rfl .z (aB (j:=Int.toNat a) rfl cI aU (.t .g1) (.t .z) (by omega) (by first | omega)) ?_
 refine Y.df rfl rfl .z .z bM (Y.de rfl rfl .z eA .z ac ad (Y.dm rfl rfl .z (.s16 .g8) (Y.dm rfl rfl .z (.s16 .g6) ?_)))
 obtain⟨b7,af,ag⟩:=b3 (by omega)
 subst af
 obtain⟨ab,ah⟩:=aJ (xs:=x) (j:=k) (by first | omega)
 obtain⟨bt,ar,au,av⟩:=ag.elem ah
 obtain⟨rfl,b8⟩:=ar
 refine Y.dk rfl rfl .z (aB (j:=k) rfl jJ uW (.t .g1) (.t .z) rfl (by first | omega)) ?_
 refine Y.dk rfl rfl .z (aN rfl kP (.t .z) (WS.i au av rfl)) ?_
 refine Y.call (aC rfl rfl) rfl (by decide) rfl (bF rfl Tryz.func127 rfl rfl (aR (.t .g4) (.t .z))) .n (fun _ _ hs tr=>sD (tr.ctx aa) _ (by first | assumption | omega)) ?_
 rintro _ _ ⟨rfl,rfl⟩
 refine Y.r .n ?_
 refine Y.sk .z ?_
 refine Y.q (aC rfl rfl) rfl (by decide) rfl (aA rfl (.t .z)) ?_
 refine Y.sl rfl ?_
 refine Y.aa ?_
 refine Y.ai (by kernel_rfl) ?_
 refine Y.g (Y.seq (Y.seq (Y.region (Y.mv rfl .z (Y.ql rfl (cU rfl (.t .z) .c) (Y.nt ?_))))))
 refine Y.u (.t .z) (fun b9=> ?_) (fun b9=> ?_)
 have aw:=vL (s:=ab) (a:=a) ht aq
 have ax:=gM (dG ab) x6.ents
 refine Y.seq (Y.region (Y.ql rfl (aA rfl .c) (Y.ql rfl (aA rfl .c) (Y.nt (Y.ret (Y.m (Y.v ?_)))))))
 refine Y.m (Y.m (Y.v (Y.m ?_)))
 refine Y.j (oE rfl .g1 .z) .n ?_
 have h9:=vL (s:=ab) (a:=a) ht aq;have h8:=hor ab;rw [hwk,aKi ah (by omega) (by omega)];exact⟨rfl,rfl⟩
 have aw:=vL (s:=ab) (a:=a) ht aq
 have ax:=gM (dG ab) x6.ents
 refine Y.skip (Y.g (Y.region (Y.mv rfl (.s16 .g15) (Y.nc rfl .z (Y.fa rfl .z aP (Y.le rfl bO .z a2 a3 (Y.mv rfl (.s16 (.s16 .g2)) ?_)))))))
 refine Y.ql rfl (aB (j:=Int.toNat a) rfl cI aU (.t .g1) (.t .z) (by omega) (by first | omega)) ?_
 refine Y.fa rfl .z bM (Y.le rfl eA .z ac ad (Y.mv rfl .g10 ?_))
 obtain⟨ca,ai,aj⟩:=ae (by omega)
 subst ai
 obtain⟨cb,ak⟩:=aJ (xs:=x6.ents) (j:=Int.toNat (fC (dG ab) x6.ents)) (by first | omega)
 obtain⟨bu,ay,az,a0⟩:=aj.elem ak
 obtain⟨rfl,be⟩:=fF ay
 refine Y.ql rfl (aB (j:=Int.toNat (fC (dG ab) x6.ents)) rfl dQ fS (.t .g1) (.t .z) (by omega) (by first | omega)) ?_
 refine Y.fa rfl .z iU (Y.le rfl bR .z az a0 (Y.er (.s16 (.s16 .g10)) (Y.as rfl .z (Y.nil (Y.y (Y.g (Y.region (Y.mv rfl (.s16 (.s16 .g10)) ?_))))))))
 refine Y.ql rfl (bG (c:=((k+1:Nat):Int)) rfl (.t .z) .c (wr (by omega) (by omega) (by omega))) ?_
 refine Y.er (.s16 (.s16 .g12)) (Y.as rfl .z (Y.nil ?_))
 refine Y.ae ((k+1),cb.ino) ⟨by omega,(by have h9:=sW (by assumption) ak;rw [←aq] at h9;rw [←h9];exact xL ht (by omega)),(by have h9:=sW (by assumption) ak;rw [←aq] at h9;rw [←h9];have h8:=aLn ah (show bC f.inodes a=2 by omega) (by omega);rw [hwk,h8])⟩ (by first | omega |(dsimp only;omega)) (.c .z (.c .g3 (.c (.s16 (.s16 .g13)) (.c (.s16 (.s16 .g14)) .n)))) (fun _ h=>h)
 refine Y.exit (Y.w (Y.w (Y.ag (Y.g (Y.seq (Y.region (Y.mv rfl .g5 (Y.as rfl .z ?_))))))))
 refine Y.ql rfl (aA rfl .c) (Y.nt (Y.ret ?_))
 refine Y.j (oE rfl .g1 .z) .n ?_
 rw [hwk,aFj (by omega)];exact⟨rfl,rfl⟩

theorem aLj {w0:World}{S0:Bs}{f:DFs}{aa:Addr} (h0:gJ eS w0 (FF w0 S0) aa f) (s:ByteArray) (a1:s.size≤140737488351232) (ht:bK f=0):
    Calls Tryz.prog 174 #[.pointer (some aa),.string s] w0 (aI w0 S0 (fun r l=>r= .tuple #[.int .i64 (cR f s).1,.int .i64 (cR f s).2]∧l= [])):=by
 obtain⟨a2,a3,an,a4⟩:=id h0
 obtain⟨ao,ap,rfl,ab,ac⟩:=cQ an
 obtain⟨aq,ar,rfl,ad,ae,af,ag⟩:=aD ab
 obtain⟨au,av,rfl,ah,ai,aj,ak⟩:=aD ac
 refine Y.enter (N:=21) Tryz.func174 rfl rfl (by simp) [(0,.pointer (some aa)),(1,.string s)] (by simp) (l0:= []) trivial ?_
 refine Y.seq (Y.region (Y.ql rfl (aA rfl .c) (Y.ql rfl (aA rfl .c) (Y.nt (Y.seq (Y.region (Y.mv rfl .g3 ?_)))))))
 refine Y.cl rfl rfl Tryz.func196 rfl rfl (bH (.t .z)) .n (fun _ _ hs tr=>aFv _ (by first | assumption | omega)) ?_
 rintro _ _ ⟨v3,rfl,rfl⟩
 refine Y.r (.c .n) ?_
 refine Y.i (WS.a .z) ?_
 rintro⟨aw,ax,rfl,ay,az,a0⟩
 have al:=(pH s).1
 refine Y.mv rfl .z (Y.ql rfl (bL (v:= .slice aw (dR s).length ax) rfl (.t .z) rfl) (Y.ql rfl (bL (v:= .int .i64 (fL s)) rfl (.t .g1) rfl) (Y.as rfl .g1 (Y.as rfl .g1 (Y.nt (Y.seq (Y.seq ?_)))))))
 refine Y.region (Y.mv rfl .z (Y.ql rfl (cC rfl (.t .z) .c) (Y.nt ?_)))
 refine Y.ad (.t .z) (fun b6=> ?_) (fun b6=> ?_)
 refine Y.seq (Y.region (Y.mv rfl .g2 (Y.er .g11 (Y.ql rfl (aA rfl .c) (Y.er .g11 (Y.as rfl .g1 (Y.nt ?_)))))))
 refine Y.ret (Y.m ?_)
 refine Y.j (oE rfl .g1 .z) .n ?_
 rw [aDb (by assumption)];exact⟨rfl,rfl⟩
 refine Y.skip (Y.g (Y.seq (Y.region (Y.mv rfl .g11 (Y.mv rfl .g4 ?_)))))
 refine Y.cl rfl rfl Tryz.func195 rfl rfl (aR (.t .g1) (.t .z)) .n (fun _ _ hs tr=>aLr (tr.ctxP h0) (tr.own .z) (by assumption)) ?_
 rintro _ _ ⟨rfl,rfl⟩
 refine Y.r .n ?_
 have am:=wQ ht (dR s) 0 (tK ht)
 refine Y.ql rfl (bL (v:= .int .i64 ((wkC (f).inodes 0 (dR s)).1)) rfl (.t .z) rfl) (Y.ql rfl (bL (v:= .int .i64 ((wkC (f).inodes 0 (dR s)).2)) rfl (.t .g1) rfl) (Y.er .g15 (Y.as rfl .g1 (Y.er .g15 (Y.as rfl .g1 (Y.nt (Y.ret ?_)))))))
 refine Y.j (oE rfl .g1 .z) .n ?_
 rw [aDm (by assumption)];exact⟨rfl,rfl⟩

theorem aL8 {w0:World}{S0:Bs}{f:DFs}{a6:List Value} (h0:eS.ro w0 (FF w0 S0) f a6) (s:ByteArray) (bn:s.size≤140737488351232):
    Calls Tryz.prog 179 #[.agg a6.toArray,.string s] w0 (aI w0 S0 (aJf (kF f s))):=by
 obtain⟨bj,bk,rfl,ac,ad⟩:=cQ h0
 obtain⟨ag,ah,rfl,a7,a8,a9,ai⟩:=aD ac
 obtain⟨aj,ak,rfl,ba,bb,bc,bd⟩:=aD ad
 refine Y.enter (N:=57) Tryz.func179 rfl rfl (by simp) [(0,.agg #[.slice ag f.inodes.length ah,.slice aj f.data.length ak]),(1,.string s)] (by simp) (l0:= []) trivial ?_
 refine Y.seq (Y.region ?_)
 refine Y.el rfl (fR (cs:= [.slice ag f.inodes.length ah,.slice aj f.data.length ak]) (n:=2) rfl (.t .z) rfl rfl) ?_
 rintro _ _ ⟨g3,rfl,rfl⟩
 refine Y.el rfl (bD rfl aIo rfl rfl) ?_
 rintro _ _ ⟨g4,rfl,rfl⟩
 refine Y.nt (Y.seq (Y.seq (Y.region ?_)))
 refine Y.cl rfl rfl Tryz.func56 rfl rfl (bH (.t .g1)) .n (fun _ _ hs tr=>aMm (tr.ptr .g1 (aM f (tr.ctx ac) (tr.ctx ad)))) ?_
 rintro _ _ ⟨rfl,rfl⟩
 refine Y.r .n ?_
 refine Y.as rfl .z (Y.nt (Y.seq (Y.region (Y.mv rfl .z (Y.ql rfl (cC rfl (.t .z) .c) (Y.nt ?_))))))
 refine Y.ad (.t .z) (fun b5=> ?_) (fun b5=> ?_)
 refine Y.seq (Y.region (Y.mv rfl .g2 (Y.ql rfl (aZ (cs:= [.int .i64 (eO f),.int .i64 0,.int .i64 0,.int .i64 0,.int .i64 0]) rfl zO (pv1 (.t .z)) rfl) ?_)))
 refine Y.es (aE rfl) rfl (esW rfl (.t .g6) (.t .z) .z pL rfl rfl) ?_
 refine Y.nt (Y.ret (Y.m ?_))
 refine Y.j (dA rfl .g6 zV .z pL) .n ?_
 first |(rw [vI (by assumption)];exact⟨rfl,rfl⟩) |(rw [vM hF (by assumption)];exact⟨rfl,rfl⟩)
 have hF:eO f=0:=b5
 have ht:=mR hF
 refine Y.skip (Y.g (Y.seq (Y.region (Y.mv rfl .g7 ?_))))
 refine Y.cl rfl rfl Tryz.func174 rfl rfl (aR (.t .g6) (.t .z)) .n (fun _ _ hs tr=>aLj (tr.ptr .g1 (aM f (tr.ctx ac) (tr.ctx ad))) _ (by first | assumption | omega) (by assumption)) ?_
 rintro _ _ ⟨rfl,rfl⟩
 refine Y.r .n ?_
 have be:=aBr ht s
 refine Y.mv rfl .z (Y.ql rfl (bL (v:= .int .i64 ((cR f s).1)) rfl (.t .z) rfl) (Y.ql rfl (bL (v:= .int .i64 ((cR f s).2)) rfl (.t .g1) rfl) (Y.as rfl .g1 (Y.as rfl .g1 (Y.nt (Y.seq (Y.seq ?_)))))))
 refine Y.region (Y.mv rfl .z (Y.ql rfl (cC rfl (.t .z) .c) (Y.nt ?_)))
 refine Y.ad (.t .z) (fun b7=> ?_) (fun b7=> ?_)
 refine Y.seq (Y.region (Y.mv rfl .g2 (Y.ql rfl (aZ (cs:= [.int .i64 ((cR f s).2),.int .i64 0,.int .i64 0,.int .i64 0,.int .i64 0]) rfl zO (pv1 (.t .z)) rfl) ?_)))
 refine Y.es (aE rfl) rfl (esW rfl (.t .g15) (.t .z) .z pL rfl rfl) ?_
 refine Y.nt (Y.ret (Y.m ?_))
 refine Y.j (dA rfl .g15 zV .z pL) .n ?_
 first |(rw [vI (by assumption)];exact⟨rfl,rfl⟩) |(rw [vM hF (by assumption)];exact⟨rfl,rfl⟩)
 refine Y.skip (Y.g (Y.seq (Y.region (Y.fa rfl .g14 aP (Y.ld rfl bO .z .g1 (Y.mv rfl .g5 ?_))))))
 obtain⟨bo,al,am⟩:=ai (by omega)
 subst al
 obtain⟨x9,an⟩:=aJ (xs:=f.inodes) (j:=Int.toNat ((cR f s).1)) (by omega)
 obtain⟨bf,ao,aa,ab⟩:=am.elem an
 obtain⟨a0,a1,rfl,ae,af⟩:=bV ao
 obtain⟨a2,a3,rfl,ap,aq,ar,au⟩:=aD ae
 obtain⟨a4,a5,rfl,av,aw,ax,ay⟩:=aD af
 have az:=cZ (i:=((cR f s).1)) an (by omega)
 have bg:=dD (a:=((cR f s).1)) an (by omega)
 have bh:=dZ (a:=((cR f s).1)) an (by omega)
 have bi:=vO (a:=((cR f s).1)) an (by omega)
 refine Y.ql rfl (aB (j:=Int.toNat ((cR f s).1)) rfl cI aU (.t .g1) (.t .z) (by omega) (by omega)) ?_
 refine Y.as rfl .z (Y.nt (Y.seq (Y.seq (Y.region (Y.mv rfl .z (Y.nc rfl .z (Y.fa rfl .z bW ?_)))))))
 refine Y.le rfl bR .z aa ab (Y.ql rfl (bP rfl (.t .z) .c) (Y.nt ?_))
 refine Y.u (.t .z) (fun bm=> ?_) (fun bm=> ?_)
 refine Y.seq ?_
 refine Y.dr .z 11 gB ?_
 refine Y.sc (qs 0 11++ [(11,false)]) (by kernel_rfl) ?_
 refine Y.dm rfl rfl .z .g13 (Y.dm rfl rfl .z .g6 (Y.dn rfl rfl .z .z (Y.df rfl rfl .z .z bW (Y.de rfl rfl .z bR .z aa ab (Y.dm rfl rfl .z .g10 (Y.dn rfl rfl .z .z (Y.df rfl rfl .z .z bM (Y.de rfl rfl .z eA .z aa ab ?_))))))))
 refine Y.dk rfl rfl .z (bE rfl dQ (.t .z)) (Y.dk rfl rfl .z (aZ (cs:= [.int .i64 0,.int .i64 ((cR f s).1),.int .i64 x9.kind,.int .i64 1,.int .i64 (x9.ents.length:Int)]) rfl zO (pv4 (.t .g9) (.t .g5) .c (.t .z)) rfl) ?_)
 refine Y.es (aC rfl rfl) rfl (esW rfl (.t (.s16 (.s16 .g2))) (.t .z) .z pL rfl rfl) ?_
 refine Y.sl rfl ?_
 refine Y.aa ?_
 refine Y.ai (by kernel_rfl) ?_
 refine Y.g (Y.ret (Y.m ?_))
 refine Y.j (dA rfl (.s16 (.s16 .g2)) zV .z pL) .n ?_
 first |(rw [vI (by assumption)];exact⟨rfl,rfl⟩) |(rw [vM hF (by assumption)];exact⟨rfl,rfl⟩) |(rw [vE hF (by assumption),aEf (by omega),az,bg];exact⟨rfl,rfl⟩) |(rw [vE hF (by assumption),aDw (by omega),az,bh,bi];exact⟨rfl,rfl⟩)
 refine Y.skip (Y.g (Y.seq ?_))
 refine Y.dr .z 14 gB ?_
 refine Y.sc (qs 0 14++ [(14,false)]) (by kernel_rfl) ?_
 refine Y.dm rfl rfl .z .g13 (Y.dm rfl rfl .z .g6 (Y.dn rfl rfl .z .z (Y.df rfl rfl .z .z bW (Y.de rfl rfl .z bR .z aa ab (Y.dm rfl rfl .z .g10 (Y.dn rfl rfl .z .z (Y.df rfl rfl .z .z iR (Y.de rfl rfl .z bR .z aa ab ?_))))))))
 refine Y.dm rfl rfl .z .g14 (Y.dn rfl rfl .z .z (Y.df rfl rfl .z .z gH (Y.de rfl rfl .z bR .z aa ab (Y.dk rfl rfl .z (aZ (cs:= [.int .i64 0,.int .i64 ((cR f s).1),.int .i64 x9.kind,.int .i64 x9.links,.int .i64 x9.size]) rfl zO (pv4 (.t .g12) (.t .g8) (.t .g4) (.t .z)) rfl) ?_))))
 refine Y.es (aC rfl rfl) rfl (esW rfl (.t (.s16 (.s16 .g5))) (.t .z) .z pL rfl rfl) ?_
 refine Y.sl rfl ?_
 refine Y.aa ?_
 refine Y.ai (by kernel_rfl) ?_
 refine Y.g (Y.ret ?_)
 refine Y.j (dA rfl (.s16 (.s16 .g5)) zV .z pL) .n ?_
 first |(rw [vI (by assumption)];exact⟨rfl,rfl⟩) |(rw [vM hF (by assumption)];exact⟨rfl,rfl⟩) |(rw [vE hF (by assumption),aEf (by omega),az,bg];exact⟨rfl,rfl⟩) |(rw [vE hF (by assumption),aDw (by omega),az,bh,bi];exact⟨rfl,rfl⟩)

end Go.Proofs.YtmejbfmhaoilmaaGreat

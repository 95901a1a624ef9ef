/- What is proved: contracts of functions, one a function. No condition. -/
import Derived.Test.YtmejbfmhaoilmaaGreatBase1
import Derived.Test.YtmejbfmhaoilmaaGreatW80
import Derived.Test.YtmejbfmhaoilmaaGreatW81
import Derived.Test.YtmejbfmhaoilmaaGreatW35
namespace Go.Proofs.YtmejbfmhaoilmaaGreat
open Go Go.RowKit
set_option linter.unusedVariables false
set_option linter.unusedSimpArgs false
set_option maxHeartbeats 1000000
set_option maxRecDepth 20000
theorem aBm {w0:World}{S0:Bs}{f:DFs}{g0 e0 s0:Nat}{ad:List Value}{af:Value}{ag:Value} (a:Int) (i:Nat) (hs:cH [bW g0 e0 s0 1 (af :: ag :: ad),aG aW f.inodes [af],aG dA f.data [ag]] w0 S0) (hj:Jf f) (hp:bZ f.inodes.length a) (hi:i<(aH f.inodes a).length):
    Calls Tryz.prog 175 #[.pointer (some ⟨g0,0,none⟩),.int .i64 a,.int .i64 (i:Int)] w0 (aJ w0 S0 (aHc g0 e0 s0 ad (jF f a i))):=by
 have ht:J0 f:=hj.toJ0
 have bm:=hj.n.2
 have bn:=hj.n.1
 obtain⟨bo,bp⟩:=hp
 refine Y.enter (N:=30) Tryz.func175 rfl rfl (by simp) [(0,.pointer (some ⟨g0,0,none⟩)),(1,.int .i64 a),(2,.int .i64 (i:Int))] (by simp) hs ?_
 refine Y.h (WS.a .g1) ?_
 rintro⟨bq,br,rfl,a2,a3,a4⟩
 refine Y.h (WS.a .g2) ?_
 rintro⟨bs,bt,rfl,a5,a6,a7⟩
 refine Y.seq (Y.region (Y.mv rfl .z (Y.mv rfl .g2 (Y.mv rfl .g4 ?_))))
 refine Y.cl rfl rfl Tryz.func178 rfl rfl (eS (.t .g2) (.t .g1) (.t .z)) (.c .z (.c .z (.c .z .n))) (fun _ _ hs tr=>aG6 (f:=f) _ _ hs (by first | assumption |(constructor <;> omega)) (by omega)) ?_
 rintro _ _ ⟨v3,v5,rfl,rfl⟩
 refine Y.m (.c (.c (.c .n))) ?_
 refine Y.h (WS.a .g1) ?_
 rintro⟨bu,bv,rfl,a8,a9,ba⟩
 refine Y.h (WS.a .g2) ?_
 rintro⟨bw,bx,rfl,bb,bc,bd⟩
 refine Y.as rfl .z (Y.nt (Y.seq (Y.region (Y.mv rfl .g5 (Y.mv rfl .g1 ?_)))))
 have hkp:=pY ht hi
 have hlp:vJ (dJ f a (List.eraseIdx (aH f.inodes a) i)) (eX (aH f.inodes a) i):=aEp (vW hj) (by show bZ (gT _ _ _).length _;rw [dI];exact hkp)
 have hLl:(iF (dJ f a (List.eraseIdx (aH f.inodes a) i)) (eX (aH f.inodes a) i)).inodes.length=f.inodes.length:=wM.trans dI
 obtain⟨bz,b0⟩:=hkp
 refine Y.cl rfl rfl Tryz.func197 rfl rfl (aR (.t .g1) (.t .z)) (.c .z (.c .z (.c .z .n))) (fun _ _ hs tr=>aK7 (f:=(dJ f a (List.eraseIdx (aH (f).inodes a) i))) _ hs hlp) ?_
 rintro _ _ ⟨v9,b1,rfl,rfl⟩
 refine Y.m (.c (.c (.c .n))) ?_
 refine Y.h (WS.a .g1) ?_
 rintro⟨be,ah,rfl,ao,ap,aq⟩
 refine Y.h (WS.a .g2) ?_
 rintro⟨bf,bg,rfl,ar,au,av⟩
 refine Y.nt (Y.seq (Y.region (Y.mv rfl .g8 (Y.nc rfl .z (Y.fa rfl .z aO (Y.ld rfl bT .z .z (Y.mv rfl .g7 ?_)))))))
 refine Y.ab (.c .g1 .n) fP ?_
 rintro ai aa
 obtain⟨ae,ab⟩:=aI (xs:=(iF (dJ f a (List.eraseIdx (aH (f).inodes a) i)) (eX (aH (f).inodes a) i)).inodes) (j:=Int.toNat (eX (aH (f).inodes a) i)) (by first | omega |(simp <;> omega))
 obtain⟨b2,ac⟩:=aI (xs:=ai) (j:=Int.toNat (eX (aH (f).inodes a) i)) (by rw [aa];exact(List.getElem?_eq_some_iff.1 ab).1)
 refine Y.aq .g1 (eG ab ac) ?_
 refine Y.ab (.c .z .n) fC ?_
 rintro⟨b3,b4⟩ rfl
 refine Y.h (WS.a .z) ?_
 rintro⟨ak,al,rfl,aw,ax,ay⟩
 refine Y.h (WS.a .g1) ?_
 rintro⟨am,an,rfl,az,a0,a1⟩
 have bh:=dC (i:=(eX (aH (f).inodes a) i)) ab (by omega)
 have bi:=dE (a:=(eX (aH (f).inodes a) i)) ab (by omega)
 have bj:=eB (a:=(eX (aH (f).inodes a) i)) ab (by omega)
 refine Y.h (WS.g .g4 (by first | omega |(simp <;> omega) |(simp only [List.length_append,List.length_cons,List.length_nil,List.length_set] at *;omega))) ?_
 rintro⟨aj,rfl⟩
 refine Y.ql rfl (aB (j:=Int.toNat (eX (aH (f).inodes a) i)) rfl cQ aV (.t .g1) (.t .z) (by omega) (by first | omega |(simp <;> omega))) ?_
 refine Y.fa rfl .z cA (Y.ql rfl (aP rfl cB (.t .z) (WS.j .g4 ac rfl)) (Y.ql rfl (bU rfl (.t .z) .c) (Y.nt ?_)))
 refine Y.u (.t .z) (fun bk=> ?_) (fun bk=> ?_)
 refine Y.region (Y.mv rfl (.s16 .g1) (Y.nc rfl .z (Y.fa rfl .z aO (Y.ld rfl bT .z .g5 (Y.mv rfl .g16 (Y.ql rfl (bC (cs:= [.int .i64 0,.int .i64 0,.int .i64 0,.slice none 0 0,.slice none 0 0]) rfl sF pv0 rfl) ?_))))))
 refine Y.ql rfl (aB (j:=Int.toNat (eX (aH (f).inodes a) i)) rfl cQ aV (.t .g2) (.t .g1) (by omega) (by first | omega |(simp <;> omega))) ?_
 refine Y.es (aE rfl) rfl (kE (j:=Int.toNat (eX (aH (f).inodes a) i)) (off:=0) (cs:= [.int .i64 0,.int .i64 0,.int .i64 0,.slice none 0 0,.slice none 0 0]) rfl aV (.t .z) rfl (.t .g1) rfl (oM rfl) .g4 ac (Nat.le_of_ble_eq_true rfl)) ?_
 refine Y.ah (x':=List.set ai (Int.toNat (eX (aH (f).inodes a) i)) [.int .i64 0,.int .i64 0,.int .i64 0,.slice none 0 0,.slice none 0 0]) .z rfl ?_
 refine Y.nil ?_
 refine Y.add (c:=aG aY [] [.slice none 0 0]) (fun w S=>aL w S none) ?_
 refine Y.add (c:=aG dR [] [.slice none 0 0]) (fun w S=>aL w S none) ?_
 refine Y.af (c:=aG cD (⟨0,0,0,[],[]⟩:aF) [.int .i64 0,.int .i64 0,.int .i64 0,.slice none 0 0,.slice none 0 0]) (.c .g1 (.c .z .n)) (fun w S h=>cS (⟨0,0,0,[],[]⟩:aF) h) ?_
 refine Y.af (c:=aG aW (List.set ((iF (dJ f a (List.eraseIdx (aH (f).inodes a) i)) (eX (aH (f).inodes a) i)).inodes) (Int.toNat (eX (aH (f).inodes a) i)) (⟨0,0,0,[],[]⟩:aF)) [.slice (some aj) ((iF (dJ f a (List.eraseIdx (aH (f).inodes a) i)) (eX (aH (f).inodes a) i)).inodes).length ah]) (.c .g1 (.c .z (.c .g2 (.c .g2 .n)))) (eT (K:=cD) aa (List.getElem?_eq_some_iff.1 ab).1 rfl) ?_
 refine Y.ay (aA4 rfl) (.c .g3 (.c .z (.c .g2 .n))) ?_
 exact⟨_,_,rfl,by first |(rw [aEd (by omega)];done) |(rw [aDv (by omega)];done)⟩
 refine Y.skip ?_
 refine Y.af (c:=aG cD ae [.int .i64 ae.kind,.int .i64 ae.links,.int .i64 ae.size,.slice ak ae.blocks.length al,.slice am ae.ents.length an]) (.c .z (.c .z .n)) (fun w S h=>cS ae h) ?_
 refine Y.af (c:=aG aW ((iF (dJ f a (List.eraseIdx (aH (f).inodes a) i)) (eX (aH (f).inodes a) i)).inodes) [.slice (some aj) ((iF (dJ f a (List.eraseIdx (aH (f).inodes a) i)) (eX (aH (f).inodes a) i)).inodes).length ah]) (.c .g3 (.c .z (.c .z (.c .z .n)))) (eM (K:=cD) aa ab ac) ?_
 refine Y.ay (aA4 rfl) (.c .g1 (.c .z (.c .z .n))) ?_
 exact⟨_,_,rfl,by first |(rw [aEd (by omega)];done) |(rw [aDv (by omega)];done)⟩

theorem aIo {w0:World}{S0:Bs}{f:DFs}{aj:Addr} (h0:gK fD w0 (FF w0 S0) aj f) (a:Int) (b:Int) (hp:bZ f.inodes.length a) (hq:bZ f.inodes.length b):
    Calls Tryz.prog 177 #[.pointer (some aj),.int .i64 a,.int .i64 b] w0 (aJ w0 S0 (fun r l=>∃c:Int,(c=0→(aH f.inodes b).length=0)∧r= .int .i64 c∧l= [])):=by
 obtain⟨ca,ak,bz,al⟩:=id h0
 obtain⟨b0,b1,rfl,am,an⟩:=cV bz
 obtain⟨b2,b3,rfl,bc,bd,be,ab⟩:=aD am
 obtain⟨b4,b5,rfl,bf,bg,bh,bi⟩:=aD an
 obtain⟨cb,cc⟩:=hp
 obtain⟨cd,ce⟩:=hq
 refine Y.enter (N:=36) Tryz.func177 rfl rfl (by simp) [(0,.pointer (some aj)),(1,.int .i64 a),(2,.int .i64 b)] (by simp) (l0:= []) trivial ?_
 refine Y.seq (Y.region (Y.ql rfl (aA rfl .c) (Y.nt (Y.seq (Y.seq ?_)))))
 refine Y.dr .z 19 gE ?_
 refine Y.sc (qs 0 19) (by kernel_rfl) ?_
 refine Y.dm rfl rfl .z .g1 (Y.dn rfl rfl .z .z (Y.df rfl rfl .z .z aO (Y.de rfl rfl .z bT .z ak al (Y.dm rfl rfl .z .g6 ?_))))
 obtain⟨cf,ac,aa⟩:=ab (by omega)
 subst ac
 obtain⟨x4,bj⟩:=aI (xs:=f.inodes) (j:=Int.toNat a) (by omega)
 obtain⟨b6,ao,ap,aq⟩:=aa.elem bj
 obtain⟨bk,bm,rfl,ad,ae⟩:=cM ao
 obtain⟨bn,bo,rfl,ar,au,av,aw⟩:=aD ad
 obtain⟨bp,bq,rfl,ax,ay,az,a0⟩:=aD ae
 have a1:=dE (a:=a) bj (by omega)
 refine Y.dk rfl rfl .z (aB (j:=Int.toNat a) rfl cQ aV (.t .g1) (.t .z) (by omega) (by omega)) ?_
 refine Y.df rfl rfl .z .z cA (Y.de rfl rfl .z cB .z ap aq (Y.dk rfl rfl .z (bU rfl (.t .z) .c) (Y.dm rfl rfl .z .g10 (Y.dn rfl rfl .z .z (Y.df rfl rfl .z .z aO (Y.de rfl rfl .z bT .z ak al (Y.dm rfl rfl .z .g16 ?_)))))))
 obtain⟨x8,br⟩:=aI (xs:=f.inodes) (j:=Int.toNat b) (by omega)
 obtain⟨b7,a2,af,ag⟩:=aa.elem br
 obtain⟨bs,bt,rfl,ah,ai⟩:=cM a2
 obtain⟨bu,bv,rfl,a3,a4,a5,a6⟩:=aD ah
 obtain⟨bw,bx,rfl,a7,a8,a9,ba⟩:=aD ai
 have bb:=dE (a:=b) br (by omega)
 refine Y.dk rfl rfl .z (aB (j:=Int.toNat b) rfl cQ aV (.t .g1) (.t .z) (by omega) (by omega)) ?_
 refine Y.df rfl rfl .z .z cA (Y.de rfl rfl .z cB .z af ag (Y.dk rfl rfl .z (bU rfl (.t .z) .c) (Y.dk rfl rfl .z (aJ0 rfl u_4 (.t .g9) (.t .z)) (Y.aa ?_))))
 refine Y.ai (by kernel_rfl) ?_
 refine Y.g ?_
 refine Y.cond (.t .z) (fun b8=> ?_) (fun b8=> ?_)
 refine Y.seq (Y.region (Y.er (.s16 .g3) (Y.ql rfl (aA rfl .c) (Y.nt (Y.ret (Y.j ?_))))))
 refine Y.i (aT rfl .z) .n ?_
 exact⟨_,(by intro hz;first | exact absurd hz (by decide) |(rw [a1];omega) |(rw [bb];omega)),rfl,rfl⟩
 refine Y.skip (Y.g (Y.seq (Y.seq (Y.region (Y.mv rfl (.s16 .g4) (Y.nc rfl .z (Y.fa rfl .z aO (Y.le rfl bT .z ak al ?_))))))))
 refine Y.mv rfl (.s16 .g10) ?_
 refine Y.ql rfl (aB (j:=Int.toNat b) rfl cQ aV (.t .g1) (.t .z) (by omega) (by omega)) ?_
 refine Y.fa rfl .z bS (Y.le rfl eE .z af ag (Y.ql rfl (bE rfl eA (.t .z)) (Y.ql rfl (fT rfl (.t .z) .c) (Y.nt ?_))))
 refine Y.u (.t .z) (fun b9=> ?_) (fun b9=> ?_)
 refine Y.seq (Y.region (Y.er (.s16 .g13) (Y.ql rfl (aA rfl .c) (Y.nt (Y.ret (Y.j ?_))))))
 refine Y.i (aT rfl .z) .n ?_
 exact⟨_,(by intro hz;first | exact absurd hz (by decide) |(rw [a1];omega) |(rw [bb];omega)),rfl,rfl⟩
 refine Y.skip (Y.g (Y.seq (Y.region (Y.er (.s16 .g13) (Y.ql rfl (aA rfl .c) (Y.nt (Y.ret ?_)))))))
 refine Y.i (aT rfl .z) .n ?_
 exact⟨_,(by intro hz;first | exact absurd hz (by decide) |(rw [a1];omega) |(rw [bb];omega)),rfl,rfl⟩

theorem aIw {w0:World}{S0:Bs}{f:DFs}{b8:List Value} (h0:fD.ro w0 (FF w0 S0) f b8) (p:ByteArray) (gz:p.size≤140737488351232) (k:Int) (hj:Jf f) (hk:1≤k∧k≤2):
    Calls Tryz.prog 155 #[.agg b8.toArray,.string p,.int .i64 k] w0 (aJ w0 S0 (fun r l=>∃x:eD,Jf x.fs∧qK x r l)):=by
 obtain⟨e8,e9,rfl,ab,ac⟩:=cV h0
 obtain⟨ar,au,rfl,b9,ca,cb,av⟩:=aD ab
 obtain⟨aw,ax,rfl,cc,cd,ce,cf⟩:=aD ac
 have ht:J0 f:=hj.toJ0
 have g0:=hj.n.2
 have ha:=hj.n.1
 have hfr:=aBw f.inodes
 refine Y.enter (N:=77) Tryz.func155 rfl rfl (by simp) [(0,.agg #[.slice ar f.inodes.length au,.slice aw f.data.length ax]),(1,.string p),(2,.int .i64 k)] (by simp) (l0:= []) trivial ?_
 refine Y.seq (Y.region ?_)
 refine Y.el rfl (gL (cs:= [.slice ar f.inodes.length au,.slice aw f.data.length ax]) (n:=2) rfl (.t .z) rfl rfl) ?_
 rintro _ _ ⟨g3,rfl,rfl⟩
 refine Y.el rfl (bP rfl tE rfl rfl) ?_
 rintro _ _ ⟨g4,rfl,rfl⟩
 refine Y.nt (Y.seq (Y.region (Y.mv rfl .g3 ?_)))
 refine Y.cl rfl rfl Tryz.func171 rfl rfl (aR (.t .g2) (.t .z)) .n (fun _ _ hs tr=>xA (tr.ptr .g1 (aK f (tr.ctx ab) (tr.ctx ac))) _ (by first | assumption | omega) (by assumption)) ?_
 rintro _ _ ⟨rfl,rfl⟩
 refine Y.m .n ?_
 have cg:=nQ (f:=f) (s:=p)
 have ch:=lR ht p
 refine Y.mv rfl .z (Y.ql rfl (bK (v:= .int .i64 ((aQ f p).1)) rfl (.t .z) rfl) (Y.ql rfl (bK (v:= .string ((aQ f p).2.1)) rfl (.t .g1) rfl) (Y.ql rfl (bK (v:= .int .i64 ((aQ f p).2.2)) rfl (.t .g2) rfl) (Y.as rfl .g2 (Y.as rfl .g2 (Y.as rfl .g2 (Y.nt ?_)))))))
 refine Y.seq (Y.seq (Y.region (Y.mv rfl .z (Y.ql rfl (bY rfl (.t .z) .c) (Y.nt ?_)))))
 refine Y.ac (.t .z) (fun b7=> ?_) (fun b7=> ?_)
 refine Y.seq (Y.region (Y.ql rfl (qW rfl bR (.t .g12) .g1 aX) (Y.mv rfl .g3 ?_)))
 refine Y.cl rfl rfl Tryz.func172 rfl rfl (aR (.t .g1) (.t .z)) .n (fun _ _ hs tr=>gY (aK f (tr.ctx ab) (tr.ctx ac)) _) ?_
 rintro _ _ ⟨v8,hb,hc,hd,rfl,rfl⟩
 refine Y.m (.c (.c (.c (.c .n)))) ?_
 refine Y.h (WS.a .z) ?_
 rintro⟨fb,fc,rfl,ci,cj,ck⟩
 refine Y.h (WS.a .g1) ?_
 rintro⟨fd,fe,rfl,cm,cn,co⟩
 refine Y.h (WS.a .g2) ?_
 rintro⟨ff,fg,rfl,cp,cq,cr⟩
 refine Y.h (WS.a .g3) ?_
 rintro⟨fh,fi,rfl,ct,cu,cv⟩
 refine Y.es (aE rfl) rfl (esW rfl (.t .g14) (.t .z) .g4 bD rfl rfl) ?_
 refine Y.nt (Y.ret (Y.j ?_))
 refine Y.i (dF rfl .g14 dO .z bD) (.c .g1 (.c .g1 (.c .g1 (.c .g1 .n)))) ?_
 exact⟨(⟨0,((aQ f p).2.2),0,[],[],(⟨f.inodes,f.data⟩:DFs)⟩:eD),(by first | exact hj | assumption | exact an),_,_,_,_,rfl,rfl⟩
 refine Y.skip (Y.g (Y.seq (Y.seq (Y.region (Y.fa rfl .g12 aO (Y.ld rfl bT .z .g1 (Y.mv rfl .g6 ?_)))))))
 obtain⟨fj,ao,ap⟩:=av (by omega)
 subst ao
 obtain⟨cw,af⟩:=aI (xs:=f.inodes) (j:=Int.toNat ((aQ f p).1)) (by first | omega |(simp <;> omega))
 obtain⟨cx,ay,aj,ak⟩:=ap.elem af
 obtain⟨be,bf,rfl,aq,ag⟩:=cM ay
 obtain⟨bg,bh,rfl,a6,a7,a8,a9⟩:=aD aq
 obtain⟨bi,bj,rfl,ba,bb,bc,bd⟩:=aD ag
 have fk:=dC (i:=((aQ f p).1)) af (by omega)
 have ai:=dE (a:=((aQ f p).1)) af (by omega)
 have fl:=eB (a:=((aQ f p).1)) af (by omega)
 have cy:=ht.get af
 refine Y.ql rfl (aB (j:=Int.toNat ((aQ f p).1)) rfl cQ aV (.t .g1) (.t .z) (by omega) (by first | omega |(simp <;> omega))) ?_
 refine Y.fa rfl .z bS (Y.le rfl eE .z aj ak (Y.mv rfl .g9 ?_))
 refine Y.cl rfl rfl Tryz.func127 rfl rfl (aR (.t .g1) (.t .z)) .n (fun _ _ hs tr=>sE (tr.ctx ag) _ (by first | assumption | omega)) ?_
 rintro _ _ ⟨rfl,rfl⟩
 refine Y.m .n ?_
 refine Y.ql rfl (mB rfl (.t .z) .c) (Y.nt ?_)
 refine Y.u (.t .z) (fun fm=> ?_) (fun fm=> ?_)
 have cz:=gP (dH ((aQ f p).2.1)) cw.ents
 refine Y.seq (Y.region (Y.ql rfl (qW rfl bR (.t (.s16 .g5)) .g1 aX) ?_))
 refine Y.cl rfl rfl Tryz.func172 rfl rfl (aR (.t .z) .c) .n (fun _ _ hs tr=>gY (aK f (tr.ctx ab) (tr.ctx ac)) _) ?_
 rintro _ _ ⟨he,hf,hg,hh,rfl,rfl⟩
 refine Y.m (.c (.c (.c (.c .n)))) ?_
 refine Y.h (WS.a .z) ?_
 rintro⟨fn,fo,rfl,c0,c1,c2⟩
 refine Y.h (WS.a .g1) ?_
 rintro⟨fp,fq,rfl,c3,c4,c5⟩
 refine Y.h (WS.a .g2) ?_
 rintro⟨fr,ft,rfl,c6,c7,c8⟩
 refine Y.h (WS.a .g3) ?_
 rintro⟨fu,fv,rfl,c9,da,db⟩
 refine Y.es (aE rfl) rfl (esW rfl (.t (.s16 .g6)) (.t .z) .g4 bD rfl rfl) ?_
 refine Y.nt (Y.ret (Y.j ?_))
 refine Y.i (dF rfl (.s16 .g6) dO .z bD) (.c .g1 (.c .g1 (.c .g1 (.c .g1 .n)))) ?_
 exact⟨(⟨0,7,0,[],[],(⟨f.inodes,f.data⟩:DFs)⟩:eD),(by first | exact hj | assumption | exact an),_,_,_,_,rfl,rfl⟩
 have dc:=gP (dH ((aQ f p).2.1)) cw.ents
 refine Y.skip (Y.g (Y.seq (Y.seq (Y.region (Y.fa rfl (.s16 .g5) aO (Y.ld rfl bT .z .g1 (Y.mv rfl .g15 ?_)))))))
 refine Y.ql rfl (aB (j:=Int.toNat ((aQ f p).1)) rfl cQ aV (.t .g1) (.t .z) (by omega) (by first | omega |(simp <;> omega))) ?_
 refine Y.fa rfl .z bS (Y.le rfl eE .z aj ak (Y.ql rfl (bE rfl eA (.t .z)) (Y.ql rfl (mB rfl (.t .z) .c) (Y.nt ?_))))
 refine Y.u (.t .z) (fun fw=> ?_) (fun fw=> ?_)
 refine Y.seq (Y.region (Y.ql rfl (qW rfl bR (.t (.s16 .g13)) .g1 aX) ?_))
 refine Y.cl rfl rfl Tryz.func172 rfl rfl (aR (.t .z) .c) .n (fun _ _ hs tr=>gY (aK f (tr.ctx ab) (tr.ctx ac)) _) ?_
 rintro _ _ ⟨hi,hl,hm,hn,rfl,rfl⟩
 refine Y.m (.c (.c (.c (.c .n)))) ?_
 refine Y.h (WS.a .z) ?_
 rintro⟨fx,fy,rfl,dd,dg,dh⟩
 refine Y.h (WS.a .g1) ?_
 rintro⟨fz,f0,rfl,di,dj,dp⟩
 refine Y.h (WS.a .g2) ?_
 rintro⟨f1,f2,rfl,ds,dt,du⟩
 refine Y.h (WS.a .g3) ?_
 rintro⟨f3,f4,rfl,dv,dw,dx⟩
 refine Y.es (aE rfl) rfl (esW rfl (.t (.s16 .g14)) (.t .z) .g4 bD rfl rfl) ?_
 refine Y.nt (Y.ret (Y.j ?_))
 refine Y.i (dF rfl (.s16 .g14) dO .z bD) (.c .g1 (.c .g1 (.c .g1 (.c .g1 .n)))) ?_
 exact⟨(⟨0,2,0,[],[],(⟨f.inodes,f.data⟩:DFs)⟩:eD),(by first | exact hj | assumption | exact an),_,_,_,_,rfl,rfl⟩
 refine Y.skip (Y.g (Y.seq (Y.region (Y.fa rfl (.s16 .g13) aO (Y.ld rfl bT .z .g1 ?_)))))
 refine Y.cl rfl rfl Tryz.func173 rfl rfl (bH (.t .z)) .n (fun _ _ hs tr=>aJ7 (tr.ctx ab) (by assumption)) ?_
 rintro _ _ ⟨rfl,rfl⟩
 refine Y.m .n ?_
 refine Y.as rfl .z (Y.nt (Y.seq (Y.seq (Y.region (Y.mv rfl .z (Y.ql rfl (cR rfl (.t .z) .c) (Y.nil ?_)))))))
 refine Y.g ?_
 refine Y.u (.t .z) (fun f5=> ?_) (fun f5=> ?_)
 refine Y.seq (Y.region (Y.ql rfl (qW rfl bR (.t (.s16 (.s16 .g3))) .g1 aX) ?_))
 refine Y.cl rfl rfl Tryz.func172 rfl rfl (aR (.t .z) .c) .n (fun _ _ hs tr=>gY (aK f (tr.ctx ab) (tr.ctx ac)) _) ?_
 rintro _ _ ⟨ho,hp,hq,hr,rfl,rfl⟩
 refine Y.m (.c (.c (.c (.c .n)))) ?_
 refine Y.h (WS.a .z) ?_
 rintro⟨f6,f7,rfl,dy,dz,d0⟩
 refine Y.h (WS.a .g1) ?_
 rintro⟨f8,f9,rfl,d1,d2,d3⟩
 refine Y.h (WS.a .g2) ?_
 rintro⟨ga,gb,rfl,d4,d5,d6⟩
 refine Y.h (WS.a .g3) ?_
 rintro⟨gc,gd,rfl,d7,d8,d9⟩
 refine Y.es (aE rfl) rfl (esW rfl (.t (.s16 (.s16 .g4))) (.t .z) .g4 bD rfl rfl) ?_
 refine Y.nt (Y.ret (Y.j ?_))
 refine Y.i (dF rfl (.s16 (.s16 .g4)) dO .z bD) (.c .g1 (.c .g1 (.c .g1 (.c .g1 .n)))) ?_
 exact⟨(⟨0,8,0,[],[],(⟨f.inodes,f.data⟩:DFs)⟩:eD),(by first | exact hj | assumption | exact an),_,_,_,_,rfl,rfl⟩
 refine Y.skip (Y.g (Y.seq (Y.region (Y.ql rfl (qW rfl bR (.t (.s16 (.s16 .g3))) .g1 aX) ?_))))
 refine Y.cl rfl rfl Tryz.func67 rfl rfl (bH (.t .z)) .n (fun _ _ hs tr=>uY (aK f (tr.ctx ab) (tr.ctx ac))) ?_
 rintro _ _ ⟨hu,hv,rfl,rfl⟩
 refine Y.m (.c (.c .n)) ?_
 refine Y.h (WS.a .z) ?_
 rintro⟨ge,bk,rfl,ea,eb,ec⟩
 refine Y.h (WS.a .g1) ?_
 rintro⟨gf,gg,rfl,ed,ee,ef⟩
 refine Y.el rfl (bP rfl nK rfl rfl) ?_
 rintro _ _ ⟨g72,rfl,rfl⟩
 refine Y.es (aE rfl) rfl (esW rfl (.t .z) (.t .g1) .z aX rfl rfl) ?_
 refine Y.nt (Y.seq (Y.seq (Y.region (Y.mv rfl .g5 (Y.fa rfl .g1 aO (Y.ld rfl bT .z .z (Y.ql rfl (bE rfl cQ (.t .z)) ?_)))))))
 refine Y.ql rfl (bU rfl (.t .g3) (.t .z)) (Y.nt ?_)
 refine Y.u (.t .z) (fun gh=> ?_) (fun gh=> ?_)
 refine Y.region (Y.fa rfl .g5 aO (Y.ld rfl bT .z .z (Y.ql rfl (bC (cs:= [.int .i64 0,.int .i64 0,.int .i64 0,.slice none 0 0,.slice none 0 0]) rfl sF pv0 rfl) ?_)))
 refine Y.el rfl (aM (cs:= [.int .i64 0,.int .i64 0,.int .i64 0,.slice none 0 0,.slice none 0 0]) rfl cQ (inz lM) (by decide) (pv1 (.t .z)) rfl rfl (by decide) rfl rfl) ?_
 rintro _ _ ⟨g74,rfl,rfl⟩
 refine Y.add (c:=aG aY [] [.slice none 0 0]) (fun w S=>aL w S none) ?_
 refine Y.add (c:=aG dR [] [.slice none 0 0]) (fun w S=>aL w S none) ?_
 refine Y.af (c:=aG cD (⟨0,0,0,[],[]⟩:aF) [.int .i64 0,.int .i64 0,.int .i64 0,.slice none 0 0,.slice none 0 0]) (.c .g1 (.c .z .n)) (fun w S h=>cS (⟨0,0,0,[],[]⟩:aF) h) ?_
 refine Y.el rfl (dD rfl cQ lM rfl (.t .g2) (.t .z) (.c .g3 (.c .g1 (.c .z .n))) (by first | omega |(simp <;> omega)) (by first | omega |(simp <;> omega))) ?_
 rintro _ _ rfl
 refine Y.h (WS.a .z) ?_
 rintro⟨gi,bm,rfl,eg,eh,ei⟩
 refine Y.fa rfl .g10 aO ?_
 refine Y.es (aE rfl) rfl (es1 (off:=0) rfl aDr (.t .z) (.t .g1) rfl rfl .g1 rfl .z) ?_
 refine Y.nt (Y.seq (Y.region (Y.fa rfl .g11 aO (Y.ld rfl bT .z .z (Y.mv rfl (.s16 .g2) (Y.mv rfl (.s16 (.s16 (.s16 .g7))) (Y.ql rfl (bC (cs:= [.int .i64 k,.int .i64 0,.int .i64 0,.slice none 0 0,.slice none 0 0]) rfl sF (pv1 (.t .z)) rfl) ?_)))))))
 refine Y.ab (.c .g1 .n) fP ?_
 rintro az ah
 obtain⟨hw,ae⟩:=aI (xs:=f.inodes++ [(⟨0,0,0,[],[]⟩:aF)]) (j:=Int.toNat (cZ f.inodes)) (by first | omega |(simp <;> omega))
 obtain⟨hx,a0⟩:=aI (xs:=az) (j:=Int.toNat (cZ f.inodes)) (by rw [ah];exact(List.getElem?_eq_some_iff.1 ae).1)
 refine Y.aq .g1 (eG ae a0) ?_
 refine Y.ab (.c .z .n) fC ?_
 rintro⟨hy,hz⟩ rfl
 refine Y.h (WS.a .z) ?_
 rintro⟨gj,gk,rfl,ej,ek,em⟩
 refine Y.h (WS.a .g1) ?_
 rintro⟨gl,gm,rfl,en,eo,ep⟩
 have gn:=dC (i:=(cZ f.inodes)) ae (by omega)
 have go:=dE (a:=(cZ f.inodes)) ae (by omega)
 have gp:=eB (a:=(cZ f.inodes)) ae (by omega)
 refine Y.h (WS.g .g4 (by first | omega |(simp <;> omega) |(simp only [List.length_append,List.length_cons,List.length_nil,List.length_set] at *;omega))) ?_
 rintro⟨bn,rfl⟩
 refine Y.ql rfl (aB (j:=Int.toNat (cZ f.inodes)) rfl cQ aV (.t .g3) (.t .g2) (by omega) (by first | omega |(simp <;> omega))) ?_
 refine Y.es (aE rfl) rfl (kE (j:=Int.toNat (cZ f.inodes)) (off:=0) (cs:= [.int .i64 k,.int .i64 0,.int .i64 0,.slice none 0 0,.slice none 0 0]) rfl aV (.t .z) rfl (.t .g1) rfl (oM rfl) .g4 a0 (Nat.le_of_ble_eq_true rfl)) ?_
 refine Y.ah (x':=List.set az (Int.toNat (cZ f.inodes)) [.int .i64 k,.int .i64 0,.int .i64 0,.slice none 0 0,.slice none 0 0]) .z rfl ?_
 refine Y.nt (Y.seq (Y.region (Y.mv rfl (.s16 (.s16 .g15)) (Y.mv rfl (.s16 (.s16 .g15)) (Y.mv rfl (.s16 .g8) ?_)))))
 refine Y.add (c:=aG aY [] [.slice none 0 0]) (fun w S=>aL w S none) ?_
 refine Y.add (c:=aG dR [] [.slice none 0 0]) (fun w S=>aL w S none) ?_
 refine Y.af (c:=aG cD (⟨k,0,0,[],[]⟩:aF) [.int .i64 k,.int .i64 0,.int .i64 0,.slice none 0 0,.slice none 0 0]) (.c .g1 (.c .z .n)) (fun w S h=>cS (⟨k,0,0,[],[]⟩:aF) h) ?_
 refine Y.af (c:=aG aW (List.set (f.inodes++ [(⟨0,0,0,[],[]⟩:aF)]) (Int.toNat (cZ f.inodes)) (⟨k,0,0,[],[]⟩:aF)) [.slice (some bn) (f.inodes++ [(⟨0,0,0,[],[]⟩:aF)]).length bm]) (.c .g1 (.c .z (.c .g2 (.c .g2 .n)))) (eT (K:=cD) ah (List.getElem?_eq_some_iff.1 ae).1 rfl) ?_
 have hid:fG (dH (aQ f p).2.1) (aH f.inodes (aQ f p).1)<0:=by rw [ai];omega
 have bo:(aH f.inodes (aQ f p).1).length<6:=by rw [ai];omega
 obtain⟨gq,an,gr,gs⟩:=aMf hj (xs:=f.inodes++ [⟨0,0,0,[],[]⟩]) hk (by omega) hid bo (by omega) (.inr ⟨by first | assumption | omega,rfl⟩)
 refine Y.cl rfl rfl Tryz.func78 rfl rfl (pK (.t (.s16 .g4)) (.t .g2) (.t .g1) (.t .z)) (.c .g3 (.c .z (.c .g2 .n))) (fun _ _ hs tr=>aGm (f:=(⟨List.set (f.inodes++ [(⟨0,0,0,[],[]⟩:aF)]) (Int.toNat (cZ f.inodes)) (⟨k,0,0,[],[]⟩:aF),f.data⟩:DFs)) _ _ (by first | assumption | omega) _ hs (by assumption) (by first | assumption |(constructor <;> omega)) (by first | omega | assumption)) ?_
 rintro _ _ ⟨h1,h2,rfl,rfl⟩
 refine Y.m (.c (.c (.c .n))) ?_
 refine Y.h (WS.a .g1) ?_
 rintro⟨bp,bq,rfl,et,eu,ev⟩
 refine Y.h (WS.a .g2) ?_
 rintro⟨br,bs,rfl,ew,ey,ez⟩
 refine Y.nt (Y.seq (Y.region (Y.mv rfl (.s16 .g10) (Y.ql rfl (qW rfl bR (.t (.s16 .g6)) .z aX) (Y.ql rfl (bC (cs:= [.int .i64 0,.int .i64 0,.int .i64 (cZ f.inodes),.slice none 0 0,.slice none 0 0,.slice bp ((oL (⟨List.set (f.inodes++ [(⟨0,0,0,[],[]⟩:aF)]) (Int.toNat (cZ f.inodes)) (⟨k,0,0,[],[]⟩:aF),f.data⟩:DFs) ((aQ f p).1) ((aQ f p).2.1) (cZ f.inodes)).inodes).length bq,.slice br ((oL (⟨List.set (f.inodes++ [(⟨0,0,0,[],[]⟩:aF)]) (Int.toNat (cZ f.inodes)) (⟨k,0,0,[],[]⟩:aF),f.data⟩:DFs) ((aQ f p).1) ((aQ f p).2.1) (cZ f.inodes)).data).length bs]) rfl mR (pv2 (.t .g1) (.t .z)) rfl) ?_)))))
 refine Y.es (aE rfl) rfl (esW rfl (.t (.s16 (.s16 (.s16 .g13)))) (.t .z) .g5 bD rfl rfl) ?_
 refine Y.nt (Y.ret ?_)
 refine Y.add (c:=aG bQ [] [.slice none 0 0]) (fun w S=>aL w S none) ?_
 refine Y.add (c:=aG fM [] [.slice none 0 0]) (fun w S=>aL w S none) ?_
 refine Y.i (dF rfl (.s16 (.s16 (.s16 .g13))) dO .g2 bD) (.c .g1 (.c .z (.c .g2 (.c .g2 .n)))) ?_
 exact⟨(⟨0,0,cZ f.inodes,[],[],(⟨(oL (⟨List.set (f.inodes++ [(⟨0,0,0,[],[]⟩:aF)]) (Int.toNat (cZ f.inodes)) (⟨k,0,0,[],[]⟩:aF),f.data⟩:DFs) ((aQ f p).1) ((aQ f p).2.1) (cZ f.inodes)).inodes,(oL (⟨List.set (f.inodes++ [(⟨0,0,0,[],[]⟩:aF)]) (Int.toNat (cZ f.inodes)) (⟨k,0,0,[],[]⟩:aF),f.data⟩:DFs) ((aQ f p).1) ((aQ f p).2.1) (cZ f.inodes)).data⟩:DFs)⟩:eD),(by first | exact hj | assumption | exact an),_,_,_,_,rfl,rfl⟩
 refine Y.skip (Y.g (Y.seq (Y.region (Y.fa rfl .g5 aO (Y.ld rfl bT .z .z (Y.mv rfl .g12 (Y.mv rfl (.s16 (.s16 (.s16 .g1))) (Y.ql rfl (bC (cs:= [.int .i64 k,.int .i64 0,.int .i64 0,.slice none 0 0,.slice none 0 0]) rfl sF (pv1 (.t .z)) rfl) ?_))))))))
 refine Y.ab (.c .g1 .n) fP ?_
 rintro al ad
 obtain⟨gt,aa⟩:=aI (xs:=f.inodes) (j:=Int.toNat (cZ f.inodes)) (by first | omega |(simp <;> omega))
 obtain⟨gu,am⟩:=aI (xs:=al) (j:=Int.toNat (cZ f.inodes)) (by rw [ad];exact(List.getElem?_eq_some_iff.1 aa).1)
 refine Y.aq .g1 (eG aa am) ?_
 refine Y.ab (.c .z .n) fC ?_
 rintro⟨gv,gw⟩ rfl
 refine Y.h (WS.a .z) ?_
 rintro⟨e0,e1,rfl,bt,bu,bv⟩
 refine Y.h (WS.a .g1) ?_
 rintro⟨e2,e3,rfl,bw,bx,bz⟩
 have e4:=dC (i:=(cZ f.inodes)) aa (by omega)
 have e5:=dE (a:=(cZ f.inodes)) aa (by omega)
 have e7:=eB (a:=(cZ f.inodes)) aa (by omega)
 have b0:=ht.get aa
 refine Y.h (WS.g .g4 (by first | omega |(simp <;> omega) |(simp only [List.length_append,List.length_cons,List.length_nil,List.length_set] at *;omega))) ?_
 rintro⟨a1,rfl⟩
 refine Y.ql rfl (aB (j:=Int.toNat (cZ f.inodes)) rfl cQ aV (.t .g3) (.t .g2) (by omega) (by first | omega |(simp <;> omega))) ?_
 refine Y.es (aE rfl) rfl (kE (j:=Int.toNat (cZ f.inodes)) (off:=0) (cs:= [.int .i64 k,.int .i64 0,.int .i64 0,.slice none 0 0,.slice none 0 0]) rfl aV (.t .z) rfl (.t .g1) rfl (oM rfl) .g4 am (Nat.le_of_ble_eq_true rfl)) ?_
 refine Y.ah (x':=List.set al (Int.toNat (cZ f.inodes)) [.int .i64 k,.int .i64 0,.int .i64 0,.slice none 0 0,.slice none 0 0]) .z rfl ?_
 refine Y.nt (Y.seq (Y.region (Y.mv rfl (.s16 (.s16 .g9)) (Y.mv rfl (.s16 (.s16 .g9)) (Y.mv rfl (.s16 .g2) ?_)))))
 refine Y.add (c:=aG aY [] [.slice none 0 0]) (fun w S=>aL w S none) ?_
 refine Y.add (c:=aG dR [] [.slice none 0 0]) (fun w S=>aL w S none) ?_
 refine Y.af (c:=aG cD (⟨k,0,0,[],[]⟩:aF) [.int .i64 k,.int .i64 0,.int .i64 0,.slice none 0 0,.slice none 0 0]) (.c .g1 (.c .z .n)) (fun w S h=>cS (⟨k,0,0,[],[]⟩:aF) h) ?_
 refine Y.af (c:=aG aW (List.set f.inodes (Int.toNat (cZ f.inodes)) (⟨k,0,0,[],[]⟩:aF)) [.slice (some a1) f.inodes.length bk]) (.c .g1 (.c .z (.c .g2 (.c .g2 .n)))) (eT (K:=cD) ad (List.getElem?_eq_some_iff.1 aa).1 rfl) ?_
 have hid:fG (dH (aQ f p).2.1) (aH f.inodes (aQ f p).1)<0:=by rw [ai];omega
 have bo:(aH f.inodes (aQ f p).1).length<6:=by rw [ai];omega
 obtain⟨gq,an,gr,gs⟩:=aMf hj (xs:=f.inodes) hk (by omega) hid bo (by omega) (.inl ⟨by first | assumption | omega,rfl⟩)
 refine Y.cl rfl rfl Tryz.func78 rfl rfl (pK (.t .g14) (.t .g2) (.t .g1) (.t .z)) (.c .g3 (.c .z (.c .g2 .n))) (fun _ _ hs tr=>aGm (f:=(⟨List.set f.inodes (Int.toNat (cZ f.inodes)) (⟨k,0,0,[],[]⟩:aF),f.data⟩:DFs)) _ _ (by first | assumption | omega) _ hs (by assumption) (by first | assumption |(constructor <;> omega)) (by first | omega | assumption)) ?_
 rintro _ _ ⟨gx,gy,rfl,rfl⟩
 refine Y.m (.c (.c (.c .n))) ?_
 refine Y.h (WS.a .g1) ?_
 rintro⟨a2,a3,rfl,b1,b2,b3⟩
 refine Y.h (WS.a .g2) ?_
 rintro⟨a4,a5,rfl,b4,b5,b6⟩
 refine Y.nt (Y.seq (Y.region (Y.mv rfl (.s16 .g4) (Y.ql rfl (qW rfl bR (.t .g16) .z aX) (Y.ql rfl (bC (cs:= [.int .i64 0,.int .i64 0,.int .i64 (cZ f.inodes),.slice none 0 0,.slice none 0 0,.slice a2 ((oL (⟨List.set f.inodes (Int.toNat (cZ f.inodes)) (⟨k,0,0,[],[]⟩:aF),f.data⟩:DFs) ((aQ f p).1) ((aQ f p).2.1) (cZ f.inodes)).inodes).length a3,.slice a4 ((oL (⟨List.set f.inodes (Int.toNat (cZ f.inodes)) (⟨k,0,0,[],[]⟩:aF),f.data⟩:DFs) ((aQ f p).1) ((aQ f p).2.1) (cZ f.inodes)).data).length a5]) rfl mR (pv2 (.t .g1) (.t .z)) rfl) ?_)))))
 refine Y.es (aE rfl) rfl (esW rfl (.t (.s16 (.s16 (.s16 .g7)))) (.t .z) .g5 bD rfl rfl) ?_
 refine Y.nt (Y.ret ?_)
 refine Y.add (c:=aG bQ [] [.slice none 0 0]) (fun w S=>aL w S none) ?_
 refine Y.add (c:=aG fM [] [.slice none 0 0]) (fun w S=>aL w S none) ?_
 refine Y.i (dF rfl (.s16 (.s16 (.s16 .g7))) dO .g2 bD) (.c .g1 (.c .z (.c .g2 (.c .g2 .n)))) ?_
 exact⟨(⟨0,0,cZ f.inodes,[],[],(⟨(oL (⟨List.set f.inodes (Int.toNat (cZ f.inodes)) (⟨k,0,0,[],[]⟩:aF),f.data⟩:DFs) ((aQ f p).1) ((aQ f p).2.1) (cZ f.inodes)).inodes,(oL (⟨List.set f.inodes (Int.toNat (cZ f.inodes)) (⟨k,0,0,[],[]⟩:aF),f.data⟩:DFs) ((aQ f p).1) ((aQ f p).2.1) (cZ f.inodes)).data⟩:DFs)⟩:eD),(by first | exact hj | assumption | exact an),_,_,_,_,rfl,rfl⟩

theorem aLn {w0:World}{S0:Bs}{f:DFs}{bb:List Value} (h0:fD.ro w0 (FF w0 S0) f bb) (p:ByteArray) (e2:p.size≤140737488351232) (q:ByteArray) (e3:q.size≤140737488351232) (hj:Jf f):
    Calls Tryz.prog 158 #[.agg bb.toArray,.string p,.string q] w0 (aJ w0 S0 (fun r l=>∃x:eD,Jf x.fs∧qK x r l)):=by
 obtain⟨dh,di,rfl,aa,ab⟩:=cV h0
 obtain⟨ah,ai,rfl,bc,bd,be,aj⟩:=aD aa
 obtain⟨ak,al,rfl,bf,bg,bh,bi⟩:=aD ab
 have ht:J0 f:=hj.toJ0
 have e4:=hj.n.2
 have e5:=hj.n.1
 refine Y.enter (N:=56) Tryz.func158 rfl rfl (by simp) [(0,.agg #[.slice ah f.inodes.length ai,.slice ak f.data.length al]),(1,.string p),(2,.string q)] (by simp) (l0:= []) trivial ?_
 refine Y.seq (Y.region ?_)
 refine Y.el rfl (gL (cs:= [.slice ah f.inodes.length ai,.slice ak f.data.length al]) (n:=2) rfl (.t .z) rfl rfl) ?_
 rintro _ _ ⟨g3,rfl,rfl⟩
 refine Y.el rfl (bP rfl tE rfl rfl) ?_
 rintro _ _ ⟨g4,rfl,rfl⟩
 refine Y.nt (Y.seq (Y.region (Y.mv rfl .g3 ?_)))
 refine Y.cl rfl rfl Tryz.func174 rfl rfl (aR (.t .g2) (.t .z)) .n (fun _ _ hs tr=>aC0 (tr.ptr .g1 (aK f (tr.ctx aa) (tr.ctx ab))) _ (by first | assumption | omega) (by assumption)) ?_
 rintro _ _ ⟨rfl,rfl⟩
 refine Y.m .n ?_
 have bj:=qA ht p
 refine Y.mv rfl .z (Y.ql rfl (bK (v:= .int .i64 ((cT f p).1)) rfl (.t .z) rfl) (Y.ql rfl (bK (v:= .int .i64 ((cT f p).2)) rfl (.t .g1) rfl) (Y.as rfl .g1 (Y.as rfl .g1 (Y.nt (Y.seq (Y.seq ?_)))))))
 refine Y.region (Y.mv rfl .z (Y.ql rfl (bY rfl (.t .z) .c) (Y.nt ?_)))
 refine Y.ac (.t .z) (fun b6=> ?_) (fun b6=> ?_)
 refine Y.seq (Y.region (Y.ql rfl (qW rfl bR (.t .g10) .g1 aX) (Y.mv rfl .g3 ?_)))
 refine Y.cl rfl rfl Tryz.func172 rfl rfl (aR (.t .g1) (.t .z)) .n (fun _ _ hs tr=>gY (aK f (tr.ctx aa) (tr.ctx ab)) _) ?_
 rintro _ _ ⟨v7,v9,e7,e8,rfl,rfl⟩
 refine Y.m (.c (.c (.c (.c .n)))) ?_
 refine Y.h (WS.a .z) ?_
 rintro⟨dj,dp,rfl,bk,bm,bn⟩
 refine Y.h (WS.a .g1) ?_
 rintro⟨ds,dt,rfl,bo,bp,bq⟩
 refine Y.h (WS.a .g2) ?_
 rintro⟨du,dv,rfl,br,bs,bt⟩
 refine Y.h (WS.a .g3) ?_
 rintro⟨dw,dx,rfl,bu,bv,bw⟩
 refine Y.es (aE rfl) rfl (esW rfl (.t .g12) (.t .z) .g4 bD rfl rfl) ?_
 refine Y.nt (Y.ret (Y.j ?_))
 refine Y.i (dF rfl .g12 dO .z bD) (.c .g1 (.c .g1 (.c .g1 (.c .g1 .n)))) ?_
 exact⟨(⟨0,((cT f p).2),0,[],[],(⟨f.inodes,f.data⟩:DFs)⟩:eD),(by first | exact hj | assumption | exact xE hj (by omega)),_,_,_,_,rfl,rfl⟩
 refine Y.skip (Y.g (Y.seq (Y.seq (Y.region (Y.fa rfl .g10 aO (Y.ld rfl bT .z .g1 (Y.mv rfl .g5 ?_)))))))
 obtain⟨dy,ad,ae⟩:=aj (by omega)
 subst ad
 obtain⟨e9,ac⟩:=aI (xs:=f.inodes) (j:=Int.toNat ((cT f p).1)) (by first | omega |(simp <;> omega))
 obtain⟨bx,am,an,ao⟩:=ae.elem ac
 obtain⟨az,a0,rfl,af,ag⟩:=cM am
 obtain⟨a1,a2,rfl,ap,aq,ar,au⟩:=aD af
 obtain⟨a3,a4,rfl,av,aw,ax,ay⟩:=aD ag
 have dz:=dC (i:=((cT f p).1)) ac (by omega)
 have d0:=dE (a:=((cT f p).1)) ac (by omega)
 have d1:=eB (a:=((cT f p).1)) ac (by omega)
 have bz:=ht.get ac
 refine Y.ql rfl (aB (j:=Int.toNat ((cT f p).1)) rfl cQ aV (.t .g1) (.t .z) (by omega) (by first | omega |(simp <;> omega))) ?_
 refine Y.fa rfl .z cA (Y.le rfl cB .z an ao (Y.ql rfl (bU rfl (.t .z) .c) (Y.nt ?_)))
 refine Y.u (.t .z) (fun d2=> ?_) (fun d2=> ?_)
 refine Y.seq (Y.region (Y.ql rfl (qW rfl bR (.t (.s16 .g1)) .g1 aX) ?_))
 refine Y.cl rfl rfl Tryz.func172 rfl rfl (aR (.t .z) .c) .n (fun _ _ hs tr=>gY (aK f (tr.ctx aa) (tr.ctx ab)) _) ?_
 rintro _ _ ⟨fb,fc,fd,fe,rfl,rfl⟩
 refine Y.m (.c (.c (.c (.c .n)))) ?_
 refine Y.h (WS.a .z) ?_
 rintro⟨d3,d4,rfl,b0,b1,b2⟩
 refine Y.h (WS.a .g1) ?_
 rintro⟨d5,d6,rfl,b3,b4,b5⟩
 refine Y.h (WS.a .g2) ?_
 rintro⟨d7,d8,rfl,b7,b8,b9⟩
 refine Y.h (WS.a .g3) ?_
 rintro⟨d9,ea,rfl,ca,cb,cc⟩
 refine Y.es (aE rfl) rfl (esW rfl (.t (.s16 .g2)) (.t .z) .g4 bD rfl rfl) ?_
 refine Y.nt (Y.ret (Y.j ?_))
 refine Y.i (dF rfl (.s16 .g2) dO .z bD) (.c .g1 (.c .g1 (.c .g1 (.c .g1 .n)))) ?_
 exact⟨(⟨0,9,0,[],[],(⟨f.inodes,f.data⟩:DFs)⟩:eD),(by first | exact hj | assumption | exact xE hj (by omega)),_,_,_,_,rfl,rfl⟩
 refine Y.skip (Y.g (Y.seq (Y.region (Y.mv rfl (.s16 .g4) ?_))))
 refine Y.cl rfl rfl Tryz.func171 rfl rfl (aR (.t (.s16 .g2)) (.t .z)) .n (fun _ _ hs tr=>xA (tr.ptr .g1 (aK f (tr.ctx aa) (tr.ctx ab))) _ (by first | assumption | omega) (by assumption)) ?_
 rintro _ _ ⟨rfl,rfl⟩
 refine Y.m .n ?_
 have a5:=nQ (f:=f) (s:=q)
 have a6:=lR ht q
 refine Y.mv rfl .z (Y.ql rfl (bK (v:= .int .i64 ((aQ f q).1)) rfl (.t .z) rfl) (Y.ql rfl (bK (v:= .string ((aQ f q).2.1)) rfl (.t .g1) rfl) (Y.ql rfl (bK (v:= .int .i64 ((aQ f q).2.2)) rfl (.t .g2) rfl) (Y.as rfl .g2 (Y.as rfl .g2 (Y.er (.s16 .g1) (Y.as rfl .g2 (Y.nil ?_))))))))
 refine Y.g (Y.seq (Y.seq (Y.region (Y.mv rfl .z (Y.ql rfl (bY rfl (.t .z) .c) (Y.nt ?_))))))
 refine Y.ac (.t .z) (fun eb=> ?_) (fun eb=> ?_)
 refine Y.seq (Y.region (Y.ql rfl (qW rfl bR (.t (.s16 .g11)) .g1 aX) (Y.mv rfl .g3 ?_)))
 refine Y.cl rfl rfl Tryz.func172 rfl rfl (aR (.t .g1) (.t .z)) .n (fun _ _ hs tr=>gY (aK f (tr.ctx aa) (tr.ctx ab)) _) ?_
 rintro _ _ ⟨ff,fg,fh,fi,rfl,rfl⟩
 refine Y.m (.c (.c (.c (.c .n)))) ?_
 refine Y.h (WS.a .z) ?_
 rintro⟨ec,ed,rfl,cd,ce,cf⟩
 refine Y.h (WS.a .g1) ?_
 rintro⟨ee,ef,rfl,cg,ch,ci⟩
 refine Y.h (WS.a .g2) ?_
 rintro⟨eg,eh,rfl,cj,ck,cm⟩
 refine Y.h (WS.a .g3) ?_
 rintro⟨ei,ej,rfl,cn,co,cp⟩
 refine Y.es (aE rfl) rfl (esW rfl (.t (.s16 .g13)) (.t .z) .g4 bD rfl rfl) ?_
 refine Y.nt (Y.ret (Y.j ?_))
 refine Y.i (dF rfl (.s16 .g13) dO .z bD) (.c .g1 (.c .g1 (.c .g1 (.c .g1 .n)))) ?_
 exact⟨(⟨0,((aQ f q).2.2),0,[],[],(⟨f.inodes,f.data⟩:DFs)⟩:eD),(by first | exact hj | assumption | exact xE hj (by omega)),_,_,_,_,rfl,rfl⟩
 refine Y.skip (Y.g (Y.seq (Y.region (Y.ql rfl (qW rfl bR (.t (.s16 .g11)) .g1 aX) ?_))))
 refine Y.cl rfl rfl Tryz.func67 rfl rfl (bH (.t .z)) .n (fun _ _ hs tr=>uY (aK f (tr.ctx aa) (tr.ctx ab))) ?_
 rintro _ _ ⟨fj,fk,rfl,rfl⟩
 refine Y.m (.c (.c .n)) ?_
 refine Y.h (WS.a .z) ?_
 rintro⟨ek,em,rfl,cq,cr,ct⟩
 refine Y.h (WS.a .g1) ?_
 rintro⟨en,eo,rfl,cu,cv,cw⟩
 refine Y.el rfl (bP rfl nK rfl rfl) ?_
 rintro _ _ ⟨g58,rfl,rfl⟩
 refine Y.es (aE rfl) rfl (esW rfl (.t .z) (.t .g1) .z aX rfl rfl) ?_
 refine Y.nt (Y.seq (Y.seq (Y.region (Y.mv rfl .g7 (Y.mv rfl .g7 (Y.mv rfl (.s16 .g9) ?_))))))
 have fl:=kV ht (aQ f q).1
 refine Y.cl rfl rfl Tryz.func78 rfl rfl (pK (.t .g3) (.t .g2) (.t .g1) (.t .z)) (.c .z (.c .z (.c .z .n))) (fun _ _ hs tr=>aGm (f:=f) _ _ (by first | assumption | omega) _ hs (by assumption) (by first | assumption |(constructor <;> omega)) (by first | omega | assumption)) ?_
 rintro _ _ ⟨fm,fn,rfl,rfl⟩
 refine Y.m (.c (.c (.c .n))) ?_
 refine Y.h (WS.a .g1) ?_
 rintro⟨a7,a8,rfl,cx,cy,cz⟩
 refine Y.h (WS.a .g2) ?_
 rintro⟨a9,ba,rfl,c0,c1,c2⟩
 refine Y.as rfl .z (Y.nt (Y.seq (Y.region (Y.mv rfl .z (Y.ql rfl (bY rfl (.t .z) .c) (Y.nt ?_))))))
 refine Y.ac (.t .z) (fun ep=> ?_) (fun ep=> ?_)
 refine Y.seq (Y.region (Y.ql rfl (qW rfl bR (.t (.s16 (.s16 .g5))) .g4 aX) (Y.mv rfl .g3 ?_)))
 refine Y.cl rfl rfl Tryz.func172 rfl rfl (aR (.t .g1) (.t .z)) .n (fun _ _ hs tr=>gY (aK f (tr.ctx aa) (tr.ctx ab)) _) ?_
 rintro _ _ ⟨fo,fp,fq,fr,rfl,rfl⟩
 refine Y.m (.c (.c (.c (.c .n)))) ?_
 refine Y.h (WS.a .z) ?_
 rintro⟨et,eu,rfl,c3,c4,c5⟩
 refine Y.h (WS.a .g1) ?_
 rintro⟨ev,ew,rfl,c6,c7,c8⟩
 refine Y.h (WS.a .g2) ?_
 rintro⟨ey,ez,rfl,c9,da,db⟩
 refine Y.h (WS.a .g3) ?_
 rintro⟨e0,e1,rfl,dc,dd,dg⟩
 refine Y.es (aE rfl) rfl (esW rfl (.t (.s16 (.s16 .g7))) (.t .z) .g7 bD rfl rfl) ?_
 refine Y.nt (Y.ret (Y.j ?_))
 refine Y.i (dF rfl (.s16 (.s16 .g7)) dO .z bD) (.c .g1 (.c .g1 (.c .g1 (.c .g1 .n)))) ?_
 exact⟨(⟨0,(qO f ((aQ f q).1) ((aQ f q).2.1) ((cT f p).1)),0,[],[],(⟨f.inodes,f.data⟩:DFs)⟩:eD),(by first | exact hj | assumption | exact xE hj (by omega)),_,_,_,_,rfl,rfl⟩
 refine Y.skip (Y.g (Y.seq (Y.region (Y.ql rfl (qW rfl bR (.t .g7) .z aX) (Y.ql rfl (bC (cs:= [.int .i64 0,.int .i64 0,.int .i64 0,.slice none 0 0,.slice none 0 0,.slice a7 ((oL f ((aQ f q).1) ((aQ f q).2.1) ((cT f p).1)).inodes).length a8,.slice a9 ((oL f ((aQ f q).1) ((aQ f q).2.1) ((cT f p).1)).data).length ba]) rfl mR (pv1 (.t .z)) rfl) ?_)))))
 refine Y.es (aE rfl) rfl (esW rfl (.t (.s16 (.s16 .g6))) (.t .z) .g3 bD rfl rfl) ?_
 refine Y.nt (Y.ret ?_)
 refine Y.add (c:=aG bQ [] [.slice none 0 0]) (fun w S=>aL w S none) ?_
 refine Y.add (c:=aG fM [] [.slice none 0 0]) (fun w S=>aL w S none) ?_
 refine Y.i (dF rfl (.s16 (.s16 .g6)) dO .g2 bD) (.c .g1 (.c .z (.c .g2 (.c .g2 .n)))) ?_
 exact⟨(⟨0,0,0,[],[],(⟨(oL f ((aQ f q).1) ((aQ f q).2.1) ((cT f p).1)).inodes,(oL f ((aQ f q).1) ((aQ f q).2.1) ((cT f p).1)).data⟩:DFs)⟩:eD),(by first | exact hj | assumption | exact xE hj (by omega)),_,_,_,_,rfl,rfl⟩

theorem aIn {w0:World}{S0:Bs}{f:DFs}{e0:List Value} (h0:fD.ro w0 (FF w0 S0) f e0) {c:oR}{e1:List Value} (h1:uJ.ro w0 (FF w0 S0) c e1) (hj:Jf f):
    Calls Tryz.prog 157 #[.agg e0.toArray,.agg e1.toArray] w0 (aJ w0 S0 (fun r l=>∃x:eD,Jf x.fs∧qK x r l)):=by
 obtain⟨ip,iq,rfl,aa,ab⟩:=cV h0
 obtain⟨a3,a4,rfl,e2,e3,e4,a5⟩:=aD aa
 obtain⟨a6,a7,rfl,e5,e7,e8,e9⟩:=aD ab
 obtain⟨ir,rfl,cc,it,iu⟩:=rP h1
 obtain⟨a8,a9,rfl,fb,fc,fd,fe⟩:=aD cc
 have ht:J0 f:=hj.toJ0
 have kn:=hj.n.2
 have ko:=hj.n.1
 refine Y.enter (N:=87) Tryz.func157 rfl rfl (by simp) [(0,.agg #[.slice a3 f.inodes.length a4,.slice a6 f.data.length a7]),(1,.agg #[.int .i64 c.kind,.string c.path,.string c.to,.int .i64 c.frm,.int .i64 c.size,.slice a8 c.data.length a9])] (by simp) (l0:= []) trivial ?_
 refine Y.seq (Y.region ?_)
 refine Y.el rfl (gL (cs:= [.slice a3 f.inodes.length a4,.slice a6 f.data.length a7]) (n:=2) rfl (.t .z) rfl rfl) ?_
 rintro _ _ ⟨g4,rfl,rfl⟩
 refine Y.el rfl (gL (cs:= [.int .i64 c.kind,.string c.path,.string c.to,.int .i64 c.frm,.int .i64 c.size,.slice a8 c.data.length a9]) (n:=6) rfl (.t .g2) rfl rfl) ?_
 rintro _ _ ⟨g5,rfl,rfl⟩
 refine Y.el rfl (bP rfl tE rfl rfl) ?_
 rintro _ _ ⟨g6,rfl,rfl⟩
 refine Y.nt (Y.seq (Y.region (Y.fa rfl .g1 nG (Y.ld rfl kY .z .g1 ?_))))
 refine Y.cl rfl rfl Tryz.func171 rfl rfl (aR (.t .g4) (.t .z)) .n (fun _ _ hs tr=>xA (tr.ptr .g2 (aK f (tr.ctx aa) (tr.ctx ab))) _ (by first | assumption | omega) (by assumption)) ?_
 rintro _ _ ⟨rfl,rfl⟩
 refine Y.m .n ?_
 have ff:=nQ (f:=f) (s:=c.path)
 have fg:=lR ht c.path
 refine Y.mv rfl .z (Y.ql rfl (bK (v:= .int .i64 ((aQ f c.path).1)) rfl (.t .z) rfl) (Y.ql rfl (bK (v:= .string ((aQ f c.path).2.1)) rfl (.t .g1) rfl) (Y.ql rfl (bK (v:= .int .i64 ((aQ f c.path).2.2)) rfl (.t .g2) rfl) (Y.as rfl .g2 (Y.as rfl .g2 (Y.as rfl .g2 (Y.nt ?_)))))))
 refine Y.seq (Y.seq (Y.region (Y.mv rfl .z (Y.ql rfl (bY rfl (.t .z) .c) (Y.nt ?_)))))
 refine Y.ac (.t .z) (fun b9=> ?_) (fun b9=> ?_)
 refine Y.seq (Y.region (Y.ql rfl (qW rfl bR (.t .g14) .g2 aX) (Y.mv rfl .g3 ?_)))
 refine Y.cl rfl rfl Tryz.func172 rfl rfl (aR (.t .g1) (.t .z)) .n (fun _ _ hs tr=>gY (aK f (tr.ctx aa) (tr.ctx ab)) _) ?_
 rintro _ _ ⟨kp,kq,kr,ks,rfl,rfl⟩
 refine Y.m (.c (.c (.c (.c .n)))) ?_
 refine Y.h (WS.a .z) ?_
 rintro⟨iv,iw,rfl,fh,fi,fj⟩
 refine Y.h (WS.a .g1) ?_
 rintro⟨ix,iy,rfl,fk,fl,fm⟩
 refine Y.h (WS.a .g2) ?_
 rintro⟨iz,i0,rfl,fn,fo,fp⟩
 refine Y.h (WS.a .g3) ?_
 rintro⟨i1,i2,rfl,fq,fr,ft⟩
 refine Y.es (aE rfl) rfl (esW rfl (.t .g15) (.t .z) .g4 bD rfl rfl) ?_
 refine Y.nt (Y.ret (Y.j ?_))
 refine Y.i (dF rfl .g15 dO .z bD) (.c .g1 (.c .g1 (.c .g1 (.c .g1 .n)))) ?_
 exact⟨(⟨0,((aQ f c.path).2.2),0,[],[],(⟨f.inodes,f.data⟩:DFs)⟩:eD),(by first | exact hj | assumption | exact jI hj _ _),_,_,_,_,rfl,rfl⟩
 refine Y.skip (Y.g (Y.seq (Y.region (Y.fa rfl .g14 aO (Y.ld rfl bT .z .g2 (Y.mv rfl .g6 ?_))))))
 obtain⟨i3,ar,ag⟩:=a5 (by omega)
 subst ar
 obtain⟨ao,ah⟩:=aI (xs:=f.inodes) (j:=Int.toNat ((aQ f c.path).1)) (by first | omega |(simp <;> omega))
 obtain⟨fu,ba,ap,aq⟩:=ag.elem ah
 obtain⟨cd,ce,rfl,au,ai⟩:=cM ba
 obtain⟨cf,cg,rfl,bu,bv,bw,bx⟩:=aD au
 obtain⟨ch,ci,rfl,bz,b0,b1,al⟩:=aD ai
 have i4:=dC (i:=((aQ f c.path).1)) ah (by omega)
 have av:=dE (a:=((aQ f c.path).1)) ah (by omega)
 have i5:=eB (a:=((aQ f c.path).1)) ah (by omega)
 have bb:=ht.get ah
 refine Y.ql rfl (aB (j:=Int.toNat ((aQ f c.path).1)) rfl cQ aV (.t .g1) (.t .z) (by omega) (by first | omega |(simp <;> omega))) ?_
 refine Y.fa rfl .z bS (Y.le rfl eE .z ap aq (Y.mv rfl .g9 ?_))
 refine Y.cl rfl rfl Tryz.func127 rfl rfl (aR (.t .g1) (.t .z)) .n (fun _ _ hs tr=>sE (tr.ctx ai) _ (by first | assumption | omega)) ?_
 rintro _ _ ⟨rfl,rfl⟩
 refine Y.m .n ?_
 refine Y.as rfl .z (Y.nt (Y.seq (Y.seq (Y.region (Y.mv rfl .z (Y.ql rfl (cR rfl (.t .z) .c) (Y.nil ?_)))))))
 refine Y.g ?_
 refine Y.u (.t .z) (fun i6=> ?_) (fun i6=> ?_)
 have fv:=gP (dH ((aQ f c.path).2.1)) ao.ents
 refine Y.seq (Y.region (Y.ql rfl (qW rfl bR (.t (.s16 .g9)) .g2 aX) ?_))
 refine Y.cl rfl rfl Tryz.func172 rfl rfl (aR (.t .z) .c) .n (fun _ _ hs tr=>gY (aK f (tr.ctx aa) (tr.ctx ab)) _) ?_
 rintro _ _ ⟨kt,ku,kv,kw,rfl,rfl⟩
 refine Y.m (.c (.c (.c (.c .n)))) ?_
 refine Y.h (WS.a .z) ?_
 rintro⟨i7,i8,rfl,fw,fx,fy⟩
 refine Y.h (WS.a .g1) ?_
 rintro⟨i9,ja,rfl,fz,f0,f1⟩
 refine Y.h (WS.a .g2) ?_
 rintro⟨jb,jc,rfl,f2,f3,f4⟩
 refine Y.h (WS.a .g3) ?_
 rintro⟨jd,je,rfl,f5,f6,f7⟩
 refine Y.es (aE rfl) rfl (esW rfl (.t (.s16 .g9)) (.t .z) .g4 bD rfl rfl) ?_
 refine Y.nt (Y.ret (Y.j ?_))
 refine Y.i (dF rfl (.s16 .g9) dO .z bD) (.c .g1 (.c .g1 (.c .g1 (.c .g1 .n)))) ?_
 exact⟨(⟨0,4,0,[],[],(⟨f.inodes,f.data⟩:DFs)⟩:eD),(by first | exact hj | assumption | exact jI hj _ _),_,_,_,_,rfl,rfl⟩
 have f8:=gP (dH ((aQ f c.path).2.1)) ao.ents
 refine Y.skip (Y.g (Y.seq ?_))
 refine Y.dr .z 13 gE ?_
 refine Y.sc (qs 0 13++ [(13,false)]) (by kernel_rfl) ?_
 refine Y.df rfl rfl .z (.s16 .g9) aO (Y.dl rfl rfl .z bT .z .g2 (Y.df rfl rfl .z (.s16 .g11) aO (Y.dl rfl rfl .z bT .z .g2 (Y.dm rfl rfl .z (.s16 .g3) ?_))))
 refine Y.dk rfl rfl .z (aB (j:=Int.toNat ((aQ f c.path).1)) rfl cQ aV (.t .g1) (.t .z) (by omega) (by first | omega |(simp <;> omega))) ?_
 refine Y.df rfl rfl .z .z bS (Y.de rfl rfl .z eE .z ap aq (Y.dm rfl rfl .z .g10 ?_))
 obtain⟨jf,aw,ax⟩:=al (by omega)
 subst aw
 obtain⟨bc,bd⟩:=aI (xs:=ao.ents) (j:=Int.toNat (fG (dH ((aQ f c.path).2.1)) ao.ents)) (by first | omega |(simp <;> omega))
 obtain⟨f9,be,bf,bg⟩:=ax.elem bd
 obtain⟨rfl,cj⟩:=fV be
 have ga:=qN bb _ _ bd
 refine Y.dk rfl rfl .z (aB (j:=Int.toNat (fG (dH ((aQ f c.path).2.1)) ao.ents)) rfl eA gH (.t .g1) (.t .z) (by omega) (by first | omega |(simp <;> omega))) ?_
 refine Y.df rfl rfl .z .z iY (Y.de rfl rfl .z cB .z bf bg ?_)
 obtain⟨kx,aj⟩:=aI (xs:=f.inodes) (j:=Int.toNat bc.ino) (by first | omega |(simp <;> omega))
 obtain⟨gb,bh,ac,ad⟩:=ag.elem aj
 obtain⟨ck,cm,rfl,ay,az⟩:=cM bh
 obtain⟨cn,co,rfl,b2,b3,b4,b5⟩:=aD ay
 obtain⟨cp,cq,rfl,b6,b7,b8,ca⟩:=aD az
 have jg:=dC (i:=bc.ino) aj (by omega)
 have jh:=dE (a:=bc.ino) aj (by omega)
 have ji:=eB (a:=bc.ino) aj (by omega)
 have gc:=ht.get aj
 refine Y.dk rfl rfl .z (aB (j:=Int.toNat bc.ino) rfl cQ aV (.t .g10) (.t .z) (by omega) (by first | omega |(simp <;> omega))) ?_
 refine Y.q (aC rfl rfl) rfl (by decide) rfl (aA rfl (.t .z)) ?_
 refine Y.sl rfl ?_
 refine Y.aa ?_
 refine Y.ai (by kernel_rfl) ?_
 refine Y.g (Y.seq (Y.seq (Y.region (Y.fa rfl (.s16 (.s16 .g6)) pN (Y.ld rfl cB .z .g1 (Y.ql rfl (bU rfl (.t .z) .c) (Y.mv rfl .z ?_)))))))
 refine Y.am .z (fun g49=> ?_) (fun g49=> ?_)
 refine Y.qg rfl rfl .z rfl rfl rfl (aN rfl (.t .g4)) ?_
 refine Y.qg rfl rfl .g1 rfl rfl rfl (eP rfl (.t .z)) ?_
 refine Y.qg rfl rfl .g2 rfl rfl rfl (aS rfl (.t .z) (fun _=>cA _ _)) ?_
 refine Y.qg rfl rfl .g3 rfl rfl rfl (aP rfl cB (.t .z) (WS.el ac ad rfl)) ?_
 refine Y.qg rfl rfl .g4 rfl rfl rfl (bU rfl (.t .z) .c) ?_
 refine Y.ql rfl (aZ rfl (.t .g5) (.t .z)) (Y.nt ?_)
 refine Y.u (.t .z) (fun jj=> ?_) (fun jj=> ?_)
 refine Y.seq (Y.region (Y.ql rfl (qW rfl bR (.t (.s16 (.s16 (.s16 .g1)))) .g2 aX) ?_))
 refine Y.cl rfl rfl Tryz.func172 rfl rfl (aR (.t .z) .c) .n (fun _ _ hs tr=>gY (aK f (tr.ctx aa) (tr.ctx ab)) _) ?_
 rintro _ _ ⟨ky,kz,k0,k1,rfl,rfl⟩
 refine Y.m (.c (.c (.c (.c .n)))) ?_
 refine Y.h (WS.a .z) ?_
 rintro⟨jk,jl,rfl,gd,ge,gf⟩
 refine Y.h (WS.a .g1) ?_
 rintro⟨jm,jn,rfl,gg,gh,gi⟩
 refine Y.h (WS.a .g2) ?_
 rintro⟨jo,jp,rfl,gj,gk,gl⟩
 refine Y.h (WS.a .g3) ?_
 rintro⟨jq,jr,rfl,gm,gn,go⟩
 refine Y.es (aE rfl) rfl (esW rfl (.t (.s16 (.s16 (.s16 .g1)))) (.t .z) .g4 bD rfl rfl) ?_
 refine Y.nt (Y.ret (Y.j ?_))
 refine Y.i (dF rfl (.s16 (.s16 (.s16 .g1))) dO .z bD) (.c .g1 (.c .g1 (.c .g1 (.c .g1 .n)))) ?_
 exact⟨(⟨0,9,0,[],[],(⟨f.inodes,f.data⟩:DFs)⟩:eD),(by first | exact hj | assumption | exact jI hj _ _),_,_,_,_,rfl,rfl⟩
 refine Y.skip (Y.g (Y.seq (Y.seq (Y.region (Y.fa rfl (.s16 (.s16 .g16)) pN (Y.ld rfl cB .z .g1 (Y.ql rfl (bU rfl (.t .z) .c) (Y.mv rfl .z ?_))))))))
 refine Y.am .z (fun g63=> ?_) (fun g63=> ?_)
 exfalso;first | omega | contradiction
 refine Y.r rfl rfl .z rfl rfl (by decide) rfl ?_
 refine Y.r rfl rfl .g1 rfl rfl (by decide) rfl ?_
 refine Y.r rfl rfl .g2 rfl rfl (by decide) rfl ?_
 refine Y.r rfl rfl .g3 rfl rfl (by decide) rfl ?_
 refine Y.r rfl rfl .g4 rfl rfl (by decide) rfl ?_
 refine Y.ql rfl (bJ rfl (.t .g5) .c) (Y.nt ?_)
 refine Y.an (.t .z) ?_
 refine Y.skip (Y.g (Y.seq (Y.seq (Y.region (Y.mv rfl (.s16 .g4) (Y.nc rfl .z (Y.fa rfl .z bS (Y.le rfl eE .z ac ad ?_))))))))
 refine Y.ql rfl (bE rfl eA (.t .z)) (Y.ql rfl (fT rfl (.t .z) .c) (Y.nt ?_))
 refine Y.u (.t .z) (fun js=> ?_) (fun js=> ?_)
 refine Y.seq (Y.region (Y.ql rfl (qW rfl bR (.t (.s16 (.s16 (.s16 (.s16 .g1))))) .g2 aX) ?_))
 refine Y.cl rfl rfl Tryz.func172 rfl rfl (aR (.t .z) .c) .n (fun _ _ hs tr=>gY (aK f (tr.ctx aa) (tr.ctx ab)) _) ?_
 rintro _ _ ⟨k2,k3,k4,k5,rfl,rfl⟩
 refine Y.m (.c (.c (.c (.c .n)))) ?_
 refine Y.h (WS.a .z) ?_
 rintro⟨jt,ju,rfl,gp,gq,gr⟩
 refine Y.h (WS.a .g1) ?_
 rintro⟨jv,jw,rfl,gs,gt,gu⟩
 refine Y.h (WS.a .g2) ?_
 rintro⟨jx,jy,rfl,gv,gw,gx⟩
 refine Y.h (WS.a .g3) ?_
 rintro⟨jz,j0,rfl,gy,gz,g0⟩
 refine Y.es (aE rfl) rfl (esW rfl (.t (.s16 (.s16 (.s16 (.s16 .g1))))) (.t .z) .g4 bD rfl rfl) ?_
 refine Y.nt (Y.ret (Y.j ?_))
 refine Y.i (dF rfl (.s16 (.s16 (.s16 (.s16 .g1)))) dO .z bD) (.c .g1 (.c .g1 (.c .g1 (.c .g1 .n)))) ?_
 exact⟨(⟨0,8,0,[],[],(⟨f.inodes,f.data⟩:DFs)⟩:eD),(by first | exact hj | assumption | exact jI hj _ _),_,_,_,_,rfl,rfl⟩
 refine Y.skip (Y.g (Y.seq (Y.region (Y.ql rfl (qW rfl bR (.t (.s16 (.s16 (.s16 (.s16 .g1))))) .g2 aX) ?_))))
 refine Y.cl rfl rfl Tryz.func67 rfl rfl (bH (.t .z)) .n (fun _ _ hs tr=>uY (aK f (tr.ctx aa) (tr.ctx ab))) ?_
 rintro _ _ ⟨k6,k7,rfl,rfl⟩
 refine Y.m (.c (.c .n)) ?_
 refine Y.h (WS.a .z) ?_
 rintro⟨j1,j2,rfl,ha,hb,hc⟩
 refine Y.h (WS.a .g1) ?_
 rintro⟨j3,j4,rfl,hd,he,hf⟩
 refine Y.el rfl (bP rfl nK rfl rfl) ?_
 rintro _ _ ⟨g83,rfl,rfl⟩
 refine Y.es (aE rfl) rfl (esW rfl (.t .z) (.t .g1) .z aX rfl rfl) ?_
 refine Y.nt (Y.seq (Y.region (Y.mv rfl (.s16 (.s16 (.s16 .g10))) (Y.mv rfl (.s16 (.s16 .g14)) ?_))))
 obtain⟨ak,bi,a0, -⟩:=lU (show¬fG (dH ((aQ f c.path).2.1)) ao.ents= -1 by omega)
 refine Y.eq .z (congrArg (Value.int .i64) bi) ?_
 have cb:ak<(aH f.inodes (aQ f c.path).1).length:=by rw [av];exact a0
 refine Y.cl rfl rfl Tryz.func175 rfl rfl (eS (.t .g2) (.t .g1) (.t .z)) (.c .z (.c .z (.c .z .n))) (fun _ _ hs tr=>aBm (f:=f) _ _ hs (by assumption) (by first | assumption |(constructor <;> omega)) (by first | omega | assumption)) ?_
 rintro _ _ ⟨k8,k9,rfl,rfl⟩
 refine Y.m (.c (.c (.c .n))) ?_
 refine Y.h (WS.a .g1) ?_
 rintro⟨cr,ct,rfl,hg,hh,hi⟩
 refine Y.h (WS.a .g2) ?_
 rintro⟨cu,cv,rfl,hk,hl,hm⟩
 refine Y.nt (Y.seq (Y.region (Y.ql rfl (qW rfl bR (.t .g3) .z aX) (Y.ql rfl (bC (cs:= [.int .i64 0,.int .i64 0,.int .i64 0,.slice none 0 0,.slice none 0 0,.slice cr ((jF f ((aQ f c.path).1) ak).inodes).length ct,.slice cu ((jF f ((aQ f c.path).1) ak).data).length cv]) rfl mR (pv1 (.t .z)) rfl) ?_))))
 refine Y.es (aE rfl) rfl (esW rfl (.t (.s16 (.s16 (.s16 (.s16 .g7))))) (.t .z) .g3 bD rfl rfl) ?_
 refine Y.nt (Y.ret ?_)
 refine Y.add (c:=aG bQ [] [.slice none 0 0]) (fun w S=>aL w S none) ?_
 refine Y.add (c:=aG fM [] [.slice none 0 0]) (fun w S=>aL w S none) ?_
 refine Y.i (dF rfl (.s16 (.s16 (.s16 (.s16 .g7)))) dO .g2 bD) (.c .g1 (.c .z (.c .g2 (.c .g2 .n)))) ?_
 exact⟨(⟨0,0,0,[],[],(⟨(jF f ((aQ f c.path).1) ak).inodes,(jF f ((aQ f c.path).1) ak).data⟩:DFs)⟩:eD),(by first | exact hj | assumption | exact jI hj _ _),_,_,_,_,rfl,rfl⟩
 refine Y.r rfl rfl .z rfl rfl (by decide) rfl ?_
 refine Y.r rfl rfl .g1 rfl rfl (by decide) rfl ?_
 refine Y.r rfl rfl .g2 rfl rfl (by decide) rfl ?_
 refine Y.r rfl rfl .g3 rfl rfl (by decide) rfl ?_
 refine Y.r rfl rfl .g4 rfl rfl (by decide) rfl ?_
 refine Y.ql rfl (bJ rfl (.t .g5) .c) (Y.nt ?_)
 refine Y.an (.t .z) ?_
 refine Y.skip (Y.g (Y.seq (Y.seq (Y.region (Y.fa rfl (.s16 (.s16 .g16)) pN (Y.ld rfl cB .z .g1 (Y.ql rfl (bU rfl (.t .z) .c) (Y.mv rfl .z ?_))))))))
 refine Y.am .z (fun g93=> ?_) (fun g93=> ?_)
 refine Y.qg rfl rfl .z rfl rfl rfl (aN rfl (.t .g14)) ?_
 refine Y.qg rfl rfl .g1 rfl rfl rfl (eP rfl (.t .z)) ?_
 refine Y.qg rfl rfl .g2 rfl rfl rfl (aS rfl (.t .z) (fun _=>cA _ _)) ?_
 refine Y.qg rfl rfl .g3 rfl rfl rfl (aP rfl cB (.t .z) (WS.el ac ad rfl)) ?_
 refine Y.qg rfl rfl .g4 rfl rfl rfl (bY rfl (.t .z) .c) ?_
 refine Y.ql rfl (aZ rfl (.t .g5) (.t .z)) (Y.nt ?_)
 refine Y.ac (.t .z) (fun j5=> ?_) (fun j5=> ?_)
 refine Y.seq (Y.region (Y.ql rfl (qW rfl bR (.t (.s16 (.s16 (.s16 .g11)))) .g2 aX) ?_))
 refine Y.cl rfl rfl Tryz.func172 rfl rfl (aR (.t .z) .c) .n (fun _ _ hs tr=>gY (aK f (tr.ctx aa) (tr.ctx ab)) _) ?_
 rintro _ _ ⟨la,lb,lc,j6,rfl,rfl⟩
 refine Y.m (.c (.c (.c (.c .n)))) ?_
 refine Y.h (WS.a .z) ?_
 rintro⟨hn,ho,rfl,cw,cx,cy⟩
 refine Y.h (WS.a .g1) ?_
 rintro⟨hp,hq,rfl,cz,c0,c1⟩
 refine Y.h (WS.a .g2) ?_
 rintro⟨hr,hu,rfl,c2,c3,c4⟩
 refine Y.h (WS.a .g3) ?_
 rintro⟨hv,hw,rfl,c5,c6,c7⟩
 refine Y.es (aE rfl) rfl (esW rfl (.t (.s16 (.s16 (.s16 .g11)))) (.t .z) .g4 bD rfl rfl) ?_
 refine Y.nt (Y.ret (Y.j ?_))
 refine Y.i (dF rfl (.s16 (.s16 (.s16 .g11))) dO .z bD) (.c .g1 (.c .g1 (.c .g1 (.c .g1 .n)))) ?_
 exact⟨(⟨0,1,0,[],[],(⟨f.inodes,f.data⟩:DFs)⟩:eD),(by first | exact hj | assumption | exact jI hj _ _),_,_,_,_,rfl,rfl⟩
 refine Y.skip (Y.g (Y.seq (Y.seq (Y.region (Y.mv rfl (.s16 .g4) (Y.nc rfl .z (Y.fa rfl .z bS (Y.le rfl eE .z ac ad ?_))))))))
 refine Y.ql rfl (bE rfl eA (.t .z)) (Y.ql rfl (fT rfl (.t .z) .c) (Y.nt ?_))
 refine Y.u (.t .z) (fun c8=> ?_) (fun c8=> ?_)
 refine Y.seq (Y.region (Y.ql rfl (qW rfl bR (.t (.s16 (.s16 (.s16 (.s16 .g1))))) .g2 aX) ?_))
 refine Y.cl rfl rfl Tryz.func172 rfl rfl (aR (.t .z) .c) .n (fun _ _ hs tr=>gY (aK f (tr.ctx aa) (tr.ctx ab)) _) ?_
 rintro _ _ ⟨j7,j8,j9,ka,rfl,rfl⟩
 refine Y.m (.c (.c (.c (.c .n)))) ?_
 refine Y.h (WS.a .z) ?_
 rintro⟨hx,hy,rfl,c9,da,db⟩
 refine Y.h (WS.a .g1) ?_
 rintro⟨hz,h2,rfl,dc,dd,dg⟩
 refine Y.h (WS.a .g2) ?_
 rintro⟨h3,h4,rfl,dh,di,dj⟩
 refine Y.h (WS.a .g3) ?_
 rintro⟨h5,h6,rfl,dp,ds,dt⟩
 refine Y.es (aE rfl) rfl (esW rfl (.t (.s16 (.s16 (.s16 (.s16 .g1))))) (.t .z) .g4 bD rfl rfl) ?_
 refine Y.nt (Y.ret (Y.j ?_))
 refine Y.i (dF rfl (.s16 (.s16 (.s16 (.s16 .g1)))) dO .z bD) (.c .g1 (.c .g1 (.c .g1 (.c .g1 .n)))) ?_
 exact⟨(⟨0,8,0,[],[],(⟨f.inodes,f.data⟩:DFs)⟩:eD),(by first | exact hj | assumption | exact jI hj _ _),_,_,_,_,rfl,rfl⟩
 refine Y.skip (Y.g (Y.seq (Y.region (Y.ql rfl (qW rfl bR (.t (.s16 (.s16 (.s16 (.s16 .g1))))) .g2 aX) ?_))))
 refine Y.cl rfl rfl Tryz.func67 rfl rfl (bH (.t .z)) .n (fun _ _ hs tr=>uY (aK f (tr.ctx aa) (tr.ctx ab))) ?_
 rintro _ _ ⟨kb,kc,rfl,rfl⟩
 refine Y.m (.c (.c .n)) ?_
 refine Y.h (WS.a .z) ?_
 rintro⟨h7,h8,rfl,du,dv,dw⟩
 refine Y.h (WS.a .g1) ?_
 rintro⟨h9,ia,rfl,dx,dy,dz⟩
 refine Y.el rfl (bP rfl nK rfl rfl) ?_
 rintro _ _ ⟨g126,rfl,rfl⟩
 refine Y.es (aE rfl) rfl (esW rfl (.t .z) (.t .g1) .z aX rfl rfl) ?_
 refine Y.nt (Y.seq (Y.region (Y.mv rfl (.s16 (.s16 (.s16 .g10))) (Y.mv rfl (.s16 (.s16 .g14)) ?_))))
 obtain⟨ae,a1,am, -⟩:=lU (show¬fG (dH ((aQ f c.path).2.1)) ao.ents= -1 by omega)
 refine Y.eq .z (congrArg (Value.int .i64) a1) ?_
 have bj:ae<(aH f.inodes (aQ f c.path).1).length:=by rw [av];exact am
 refine Y.cl rfl rfl Tryz.func175 rfl rfl (eS (.t .g2) (.t .g1) (.t .z)) (.c .z (.c .z (.c .z .n))) (fun _ _ hs tr=>aBm (f:=f) _ _ hs (by assumption) (by first | assumption |(constructor <;> omega)) (by first | omega | assumption)) ?_
 rintro _ _ ⟨kd,ke,rfl,rfl⟩
 refine Y.m (.c (.c (.c .n))) ?_
 refine Y.h (WS.a .g1) ?_
 rintro⟨bk,bm,rfl,d0,d1,d2⟩
 refine Y.h (WS.a .g2) ?_
 rintro⟨bn,bo,rfl,d3,d4,d5⟩
 refine Y.nt (Y.seq (Y.region (Y.ql rfl (qW rfl bR (.t .g3) .z aX) (Y.ql rfl (bC (cs:= [.int .i64 0,.int .i64 0,.int .i64 0,.slice none 0 0,.slice none 0 0,.slice bk ((jF f ((aQ f c.path).1) ae).inodes).length bm,.slice bn ((jF f ((aQ f c.path).1) ae).data).length bo]) rfl mR (pv1 (.t .z)) rfl) ?_))))
 refine Y.es (aE rfl) rfl (esW rfl (.t (.s16 (.s16 (.s16 (.s16 .g7))))) (.t .z) .g3 bD rfl rfl) ?_
 refine Y.nt (Y.ret ?_)
 refine Y.add (c:=aG bQ [] [.slice none 0 0]) (fun w S=>aL w S none) ?_
 refine Y.add (c:=aG fM [] [.slice none 0 0]) (fun w S=>aL w S none) ?_
 refine Y.i (dF rfl (.s16 (.s16 (.s16 (.s16 .g7)))) dO .g2 bD) (.c .g1 (.c .z (.c .g2 (.c .g2 .n)))) ?_
 exact⟨(⟨0,0,0,[],[],(⟨(jF f ((aQ f c.path).1) ae).inodes,(jF f ((aQ f c.path).1) ae).data⟩:DFs)⟩:eD),(by first | exact hj | assumption | exact jI hj _ _),_,_,_,_,rfl,rfl⟩
 refine Y.r rfl rfl .z rfl rfl (by decide) rfl ?_
 refine Y.r rfl rfl .g1 rfl rfl (by decide) rfl ?_
 refine Y.r rfl rfl .g2 rfl rfl (by decide) rfl ?_
 refine Y.r rfl rfl .g3 rfl rfl (by decide) rfl ?_
 refine Y.r rfl rfl .g4 rfl rfl (by decide) rfl ?_
 refine Y.ql rfl (bJ rfl (.t .g5) .c) (Y.nt ?_)
 refine Y.an (.t .z) ?_
 refine Y.skip (Y.g (Y.seq (Y.seq (Y.region (Y.mv rfl (.s16 .g4) (Y.nc rfl .z (Y.fa rfl .z bS (Y.le rfl eE .z ac ad ?_))))))))
 refine Y.ql rfl (bE rfl eA (.t .z)) (Y.ql rfl (fT rfl (.t .z) .c) (Y.nt ?_))
 refine Y.u (.t .z) (fun d6=> ?_) (fun d6=> ?_)
 refine Y.seq (Y.region (Y.ql rfl (qW rfl bR (.t (.s16 (.s16 (.s16 (.s16 .g1))))) .g2 aX) ?_))
 refine Y.cl rfl rfl Tryz.func172 rfl rfl (aR (.t .z) .c) .n (fun _ _ hs tr=>gY (aK f (tr.ctx aa) (tr.ctx ab)) _) ?_
 rintro _ _ ⟨kf,kg,kh,ki,rfl,rfl⟩
 refine Y.m (.c (.c (.c (.c .n)))) ?_
 refine Y.h (WS.a .z) ?_
 rintro⟨ib,ic,rfl,d7,d8,d9⟩
 refine Y.h (WS.a .g1) ?_
 rintro⟨id,ie,rfl,ea,eb,ec⟩
 refine Y.h (WS.a .g2) ?_
 rintro⟨ig,ih,rfl,ed,ee,ef⟩
 refine Y.h (WS.a .g3) ?_
 rintro⟨ii,ij,rfl,eg,eh,ei⟩
 refine Y.es (aE rfl) rfl (esW rfl (.t (.s16 (.s16 (.s16 (.s16 .g1))))) (.t .z) .g4 bD rfl rfl) ?_
 refine Y.nt (Y.ret (Y.j ?_))
 refine Y.i (dF rfl (.s16 (.s16 (.s16 (.s16 .g1)))) dO .z bD) (.c .g1 (.c .g1 (.c .g1 (.c .g1 .n)))) ?_
 exact⟨(⟨0,8,0,[],[],(⟨f.inodes,f.data⟩:DFs)⟩:eD),(by first | exact hj | assumption | exact jI hj _ _),_,_,_,_,rfl,rfl⟩
 refine Y.skip (Y.g (Y.seq (Y.region (Y.ql rfl (qW rfl bR (.t (.s16 (.s16 (.s16 (.s16 .g1))))) .g2 aX) ?_))))
 refine Y.cl rfl rfl Tryz.func67 rfl rfl (bH (.t .z)) .n (fun _ _ hs tr=>uY (aK f (tr.ctx aa) (tr.ctx ab))) ?_
 rintro _ _ ⟨kj,kk,rfl,rfl⟩
 refine Y.m (.c (.c .n)) ?_
 refine Y.h (WS.a .z) ?_
 rintro⟨ik,il,rfl,ej,ek,em⟩
 refine Y.h (WS.a .g1) ?_
 rintro⟨im,io,rfl,en,eo,ep⟩
 refine Y.el rfl (bP rfl nK rfl rfl) ?_
 rintro _ _ ⟨g155,rfl,rfl⟩
 refine Y.es (aE rfl) rfl (esW rfl (.t .z) (.t .g1) .z aX rfl rfl) ?_
 refine Y.nt (Y.seq (Y.region (Y.mv rfl (.s16 (.s16 (.s16 .g10))) (Y.mv rfl (.s16 (.s16 .g14)) ?_))))
 obtain⟨af,a2,an, -⟩:=lU (show¬fG (dH ((aQ f c.path).2.1)) ao.ents= -1 by omega)
 refine Y.eq .z (congrArg (Value.int .i64) a2) ?_
 have bp:af<(aH f.inodes (aQ f c.path).1).length:=by rw [av];exact an
 refine Y.cl rfl rfl Tryz.func175 rfl rfl (eS (.t .g2) (.t .g1) (.t .z)) (.c .z (.c .z (.c .z .n))) (fun _ _ hs tr=>aBm (f:=f) _ _ hs (by assumption) (by first | assumption |(constructor <;> omega)) (by first | omega | assumption)) ?_
 rintro _ _ ⟨kl,km,rfl,rfl⟩
 refine Y.m (.c (.c (.c .n))) ?_
 refine Y.h (WS.a .g1) ?_
 rintro⟨bq,br,rfl,et,eu,ev⟩
 refine Y.h (WS.a .g2) ?_
 rintro⟨bs,bt,rfl,ew,ey,ez⟩
 refine Y.nt (Y.seq (Y.region (Y.ql rfl (qW rfl bR (.t .g3) .z aX) (Y.ql rfl (bC (cs:= [.int .i64 0,.int .i64 0,.int .i64 0,.slice none 0 0,.slice none 0 0,.slice bq ((jF f ((aQ f c.path).1) af).inodes).length br,.slice bs ((jF f ((aQ f c.path).1) af).data).length bt]) rfl mR (pv1 (.t .z)) rfl) ?_))))
 refine Y.es (aE rfl) rfl (esW rfl (.t (.s16 (.s16 (.s16 (.s16 .g7))))) (.t .z) .g3 bD rfl rfl) ?_
 refine Y.nt (Y.ret ?_)
 refine Y.add (c:=aG bQ [] [.slice none 0 0]) (fun w S=>aL w S none) ?_
 refine Y.add (c:=aG fM [] [.slice none 0 0]) (fun w S=>aL w S none) ?_
 refine Y.i (dF rfl (.s16 (.s16 (.s16 (.s16 .g7)))) dO .g2 bD) (.c .g1 (.c .z (.c .g2 (.c .g2 .n)))) ?_
 exact⟨(⟨0,0,0,[],[],(⟨(jF f ((aQ f c.path).1) af).inodes,(jF f ((aQ f c.path).1) af).data⟩:DFs)⟩:eD),(by first | exact hj | assumption | exact jI hj _ _),_,_,_,_,rfl,rfl⟩

theorem aKm {w0:World}{S0:Bs}{f:DFs}{aq:List Value} (h0:fD.ro w0 (FF w0 S0) f aq) {c:oR}{ar:List Value} (h1:uJ.ro w0 (FF w0 S0) c ar) (hj:Jf f):
    Calls Tryz.prog 160 #[.agg aq.toArray,.agg ar.toArray] w0 (aJ w0 S0 (fun r l=>∃x:eD,Jf x.fs∧qK x r l)):=by
 obtain⟨ci,cj,rfl,aa,ab⟩:=cV h0
 obtain⟨ac,ad,rfl,au,av,aw,ax⟩:=aD aa
 obtain⟨ae,af,rfl,ay,az,a0,a1⟩:=aD ab
 obtain⟨ck,rfl,ai,cm,cn⟩:=rP h1
 obtain⟨ag,ah,rfl,a2,a3,a4,a5⟩:=aD ai
 have ht:J0 f:=hj.toJ0
 have dh:=hj.n.2
 have di:=hj.n.1
 refine Y.enter (N:=59) Tryz.func160 rfl rfl (by simp) [(0,.agg #[.slice ac f.inodes.length ad,.slice ae f.data.length af]),(1,.agg #[.int .i64 c.kind,.string c.path,.string c.to,.int .i64 c.frm,.int .i64 c.size,.slice ag c.data.length ah])] (by simp) (l0:= []) trivial ?_
 refine Y.seq (Y.region ?_)
 refine Y.el rfl (gL (cs:= [.slice ac f.inodes.length ad,.slice ae f.data.length af]) (n:=2) rfl (.t .z) rfl rfl) ?_
 rintro _ _ ⟨g4,rfl,rfl⟩
 refine Y.el rfl (gL (cs:= [.int .i64 c.kind,.string c.path,.string c.to,.int .i64 c.frm,.int .i64 c.size,.slice ag c.data.length ah]) (n:=6) rfl (.t .g2) rfl rfl) ?_
 rintro _ _ ⟨g5,rfl,rfl⟩
 refine Y.el rfl (bP rfl tE rfl rfl) ?_
 rintro _ _ ⟨g6,rfl,rfl⟩
 refine Y.nt (Y.seq (Y.seq (Y.region (Y.fa rfl .g1 pN (Y.ld rfl cB .z .g1 (Y.ql rfl (bU rfl (.t .z) .c) (Y.nil ?_)))))))
 refine Y.g ?_
 refine Y.u (.t .z) (fun b7=> ?_) (fun b7=> ?_)
 refine Y.seq (Y.region (Y.ql rfl (qW rfl bR (.t .g5) .g2 aX) (Y.fa rfl .g5 nG (Y.ld rfl kY .z .g1 ?_))))
 refine Y.cl rfl rfl Tryz.func179 rfl rfl (aR (.t .g2) (.t .z)) .n (fun _ _ hs tr=>aLx (aK f (tr.ctx aa) (tr.ctx ab)) _ (by first | assumption | omega)) ?_
 rintro _ _ ⟨rfl,rfl⟩
 refine Y.m .n ?_
 refine Y.el rfl (bP rfl aIl rfl rfl) ?_
 rintro _ _ ⟨g8,rfl,rfl⟩
 refine Y.es (aE rfl) rfl (esW rfl (.t .z) (.t .g1) .z pW rfl rfl) ?_
 refine Y.nt (Y.seq (Y.region (Y.ql rfl (qW rfl bR (.t .g10) .g3 aX) (Y.fa rfl .g1 aF4 (Y.ld rfl cB .z .z ?_)))))
 obtain⟨⟨hsa,hsb⟩,⟨hsc,hsd⟩,hse,hsf⟩:=aFm ht c.path
 refine Y.cl rfl rfl Tryz.func172 rfl rfl (aR (.t .g2) (.t .z)) .n (fun _ _ hs tr=>gY (aK f (tr.ctx aa) (tr.ctx ab)) _) ?_
 rintro _ _ ⟨v9,dj,dp,ds,rfl,rfl⟩
 refine Y.m (.c (.c (.c (.c .n)))) ?_
 refine Y.h (WS.a .z) ?_
 rintro⟨co,cp,rfl,a6,a7,a8⟩
 refine Y.h (WS.a .g1) ?_
 rintro⟨cq,cr,rfl,a9,ba,bb⟩
 refine Y.h (WS.a .g2) ?_
 rintro⟨ct,cu,rfl,bc,bd,be⟩
 refine Y.h (WS.a .g3) ?_
 rintro⟨cv,cw,rfl,bf,bg,bh⟩
 refine Y.el rfl (bP rfl tE rfl rfl) ?_
 rintro _ _ ⟨g21,rfl,rfl⟩
 refine Y.es (aE rfl) rfl (esW rfl (.t .z) (.t .g1) .z bD rfl rfl) ?_
 refine Y.nt (Y.seq (Y.region (Y.fa rfl .g5 aG1 (Y.ld rfl cB .z .g5 ?_))))
 refine Y.ql rfl (pH (c:=((kG f c.path).kind) * 1000) rfl (.t .z) .c (wr (by omega) (by omega) (by omega))) ?_
 refine Y.fa rfl .g8 aFn (Y.ld rfl cB .z .g5 ?_)
 refine Y.ql rfl (pH (c:=((kG f c.path).links) * 100) rfl (.t .z) .c (wr (by omega) (by omega) (by omega))) ?_
 refine Y.ql rfl (bA (c:=(((kG f c.path).kind) * 1000)+(((kG f c.path).links) * 100)) rfl (.t .g3) (.t .z) (wr (by omega) (by omega) (by omega))) ?_
 refine Y.fa rfl .g12 aGr (Y.ld rfl cB .z .g5 ?_)
 refine Y.ql rfl (bA (c:=((((kG f c.path).kind) * 1000)+(((kG f c.path).links) * 100))+((kG f c.path).size)) rfl (.t .g2) (.t .z) (wr (by omega) (by omega) (by omega))) ?_
 refine Y.fa rfl .g10 aG0 ?_
 refine Y.es (aE rfl) rfl (es1 (off:=2) rfl jC (.t .z) (.t .g1) rfl rfl .z rfl .g2) ?_
 refine Y.nt (Y.seq (Y.region (Y.ql rfl (qW rfl dO (.t .g11) .z bD) ?_)))
 refine Y.es (aE rfl) rfl (esW rfl (.t (.s16 .g9)) (.t .z) .g6 bD rfl rfl) ?_
 refine Y.nt (Y.ret (Y.j ?_))
 refine Y.i (dF rfl (.s16 .g9) dO .z bD) (.c .g2 (.c .g2 (.c .g2 (.c .g2 .n)))) ?_
 exact⟨(⟨0,((kG f c.path).code),((((kG f c.path).kind) * 1000)+(((kG f c.path).links) * 100))+((kG f c.path).size),[],[],(⟨f.inodes,f.data⟩:DFs)⟩:eD),(by first | exact hj | assumption),_,_,_,_,rfl,rfl⟩
 refine Y.skip (Y.g (Y.seq (Y.region (Y.fa rfl .g4 nG (Y.ld rfl kY .z .g1 ?_)))))
 refine Y.cl rfl rfl Tryz.func174 rfl rfl (aR (.t .g7) (.t .z)) .n (fun _ _ hs tr=>aC0 (tr.ptr .g2 (aK f (tr.ctx aa) (tr.ctx ab))) _ (by first | assumption | omega) (by assumption)) ?_
 rintro _ _ ⟨rfl,rfl⟩
 refine Y.m .n ?_
 have aj:=qA ht c.path
 refine Y.mv rfl .z (Y.ql rfl (bK (v:= .int .i64 ((cT f c.path).1)) rfl (.t .z) rfl) (Y.ql rfl (bK (v:= .int .i64 ((cT f c.path).2)) rfl (.t .g1) rfl) (Y.as rfl .g1 (Y.as rfl .g1 (Y.nt (Y.seq (Y.seq ?_)))))))
 refine Y.region (Y.mv rfl .z (Y.ql rfl (bY rfl (.t .z) .c) (Y.nt ?_)))
 refine Y.ac (.t .z) (fun cx=> ?_) (fun cx=> ?_)
 refine Y.seq (Y.region (Y.ql rfl (qW rfl bR (.t .g15) .g2 aX) (Y.mv rfl .g3 ?_)))
 obtain⟨⟨hsa,hsb⟩,⟨hsc,hsd⟩,hse,hsf⟩:=aFm ht c.path
 refine Y.cl rfl rfl Tryz.func172 rfl rfl (aR (.t .g1) (.t .z)) .n (fun _ _ hs tr=>gY (aK f (tr.ctx aa) (tr.ctx ab)) _) ?_
 rintro _ _ ⟨dt,du,dv,dw,rfl,rfl⟩
 refine Y.m (.c (.c (.c (.c .n)))) ?_
 refine Y.h (WS.a .z) ?_
 rintro⟨cy,cz,rfl,bi,bj,bk⟩
 refine Y.h (WS.a .g1) ?_
 rintro⟨c0,c1,rfl,bm,bn,bo⟩
 refine Y.h (WS.a .g2) ?_
 rintro⟨c2,c3,rfl,bp,bq,br⟩
 refine Y.h (WS.a .g3) ?_
 rintro⟨c4,c5,rfl,bs,bt,bu⟩
 refine Y.es (aE rfl) rfl (esW rfl (.t .g16) (.t .z) .g4 bD rfl rfl) ?_
 refine Y.nt (Y.ret (Y.j ?_))
 refine Y.i (dF rfl .g16 dO .z bD) (.c .g1 (.c .g1 (.c .g1 (.c .g1 .n)))) ?_
 exact⟨(⟨0,((cT f c.path).2),0,[],[],(⟨f.inodes,f.data⟩:DFs)⟩:eD),(by first | exact hj | assumption),_,_,_,_,rfl,rfl⟩
 refine Y.skip (Y.g (Y.seq (Y.region (Y.ql rfl (qW rfl bR (.t .g15) .g2 aX) (Y.mv rfl .g4 ?_)))))
 refine Y.cl rfl rfl Tryz.func180 rfl rfl (aR (.t .g1) (.t .z)) .n (fun _ _ hs tr=>aLm (aK f (tr.ctx aa) (tr.ctx ab)) _) ?_
 rintro _ _ ⟨dx,rfl,rfl⟩
 refine Y.m (.c .n) ?_
 refine Y.h (WS.a .z) ?_
 rintro⟨ak,al,rfl,bv,bw,bx⟩
 refine Y.el rfl (bP rfl aJm rfl rfl) ?_
 rintro _ _ ⟨g39,rfl,rfl⟩
 refine Y.es (aE rfl) rfl (esW rfl (.t .z) (.t .g1) .z wB rfl rfl) ?_
 refine Y.nt (Y.seq (Y.seq (Y.region (Y.fa rfl .z aEn (Y.ld rfl cB .z .z (Y.ql rfl (bY rfl (.t .z) .c) (Y.nil ?_)))))))
 refine Y.g ?_
 refine Y.ac (.t .z) (fun c6=> ?_) (fun c6=> ?_)
 refine Y.seq (Y.region (Y.ql rfl (qW rfl bR (.t (.s16 .g6)) .g4 aX) (Y.fa rfl .g4 aEn (Y.ld rfl cB .z .z ?_))))
 obtain⟨⟨hsa,hsb⟩,⟨hsc,hsd⟩,hse,hsf⟩:=aFm ht c.path
 refine Y.cl rfl rfl Tryz.func172 rfl rfl (aR (.t .g2) (.t .z)) .n (fun _ _ hs tr=>gY (aK f (tr.ctx aa) (tr.ctx ab)) _) ?_
 rintro _ _ ⟨dy,dz,d0,d1,rfl,rfl⟩
 refine Y.m (.c (.c (.c (.c .n)))) ?_
 refine Y.h (WS.a .z) ?_
 rintro⟨c7,c8,rfl,bz,b0,b1⟩
 refine Y.h (WS.a .g1) ?_
 rintro⟨c9,da,rfl,b2,b3,b4⟩
 refine Y.h (WS.a .g2) ?_
 rintro⟨db,dc,rfl,b5,b6,b8⟩
 refine Y.h (WS.a .g3) ?_
 rintro⟨dd,dg,rfl,b9,ca,cb⟩
 refine Y.es (aE rfl) rfl (esW rfl (.t (.s16 .g8)) (.t .z) .g6 bD rfl rfl) ?_
 refine Y.nt (Y.ret (Y.j ?_))
 refine Y.i (dF rfl (.s16 .g8) dO .z bD) (.c .g1 (.c .g1 (.c .g1 (.c .g1 .n)))) ?_
 exact⟨(⟨0,((uE f ((cT f c.path).1)).code),0,[],[],(⟨f.inodes,f.data⟩:DFs)⟩:eD),(by first | exact hj | assumption),_,_,_,_,rfl,rfl⟩
 refine Y.skip (Y.g (Y.seq ?_))
 refine Y.sel (.c .g1 (.c .z (.c .z (.c .z (.c .z .n))))) ?_
 refine Y.dr .g1 5 gE ?_
 refine Y.sc (qs 0 3++ [(3,false),(4,true),(5,false)]) (by kernel_rfl) ?_
 refine Y.df rfl rfl .g1 .g3 zF (Y.dl rfl rfl .g1 aIr .z .z (Y.dk rfl rfl .g1 (qW rfl bR (.t (.s16 .g8)) .g3 aX) ?_))
 refine Y.call (aC rfl rfl) rfl (by decide) rfl (bG rfl Tryz.func67 rfl rfl (bH (.t .z))) .n (fun _ _ hs tr=>uY (aK f (tr.ctx aa) (tr.ctx ab))) ?_
 rintro _ _ ⟨d2,d3,rfl,rfl⟩
 refine Y.m (.c (.c .n)) ?_
 refine Y.h (WS.a .z) ?_
 rintro⟨am,an,rfl,cc,cd,ce⟩
 refine Y.h (WS.a .g1) ?_
 rintro⟨ao,ap,rfl,cf,cg,ch⟩
 refine Y.sk .g3 ?_
 refine Y.dk rfl rfl .g3 (bC (cs:= [.int .i64 0,.int .i64 0,.int .i64 0,.slice none 0 0,.slice ak ((uE f ((cT f c.path).1)).names).length al,.slice am f.inodes.length an,.slice ao f.data.length ap]) rfl mR (pv2 (.t .g2) (.t .z)) rfl) ?_
 refine Y.es (aC rfl rfl) rfl (esW rfl (.t (.s16 .g9)) (.t .z) .g4 bD rfl rfl) ?_
 refine Y.sl rfl ?_
 refine Y.aa ?_
 refine Y.ai (by kernel_rfl) ?_
 refine Y.g (Y.ret ?_)
 refine Y.add (c:=aG bQ [] [.slice none 0 0]) (fun w S=>aL w S none) ?_
 refine Y.i (dF rfl (.s16 .g9) dO .g1 bD) (.c .z (.c .g3 (.c .g1 (.c .g1 .n)))) ?_
 exact⟨(⟨0,0,0,[],(uE f ((cT f c.path).1)).names,(⟨f.inodes,f.data⟩:DFs)⟩:eD),(by first | exact hj | assumption),_,_,_,_,rfl,rfl⟩

end Go.Proofs.YtmejbfmhaoilmaaGreat

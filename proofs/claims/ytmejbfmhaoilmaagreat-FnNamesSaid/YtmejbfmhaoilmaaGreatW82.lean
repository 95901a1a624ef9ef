/- What is proved: contracts of functions, one a function. No condition. -/
import Derived.Test.YtmejbfmhaoilmaaGreatBase1
import Derived.Test.YtmejbfmhaoilmaaGreatW80
import Derived.Test.YtmejbfmhaoilmaaGreatW81
import Derived.Test.YtmejbfmhaoilmaaGreatW35
namespace Go.Proofs.YtmejbfmhaoilmaaGreat
open Go Go.RowKit
set_option linter.unusedVariables false
set_option linter.unusedSimpArgs false
set_option maxHeartbeats 1000000
set_option maxRecDepth 20000
theorem aB2 {w0:World}{S0:Bs}{f:DFs}{g0 e0 s0:Nat}{ad:List Value}{af:Value}{ag:Value} (a:Int) (i:Nat) (hs:cB [cM g0 e0 s0 1 (af :: ag :: ad),aG aP f.inodes [af],aG cG f.data [ag]] w0 S0) (hj:Jf f) (hp:bR f.inodes.length a) (hi:i<(aB f.inodes a).length):
    Calls Tryz.prog 175 #[.pointer (some ⟨g0,0,none⟩),.int .i64 a,.int .i64 (i:Int)] w0 (aJ w0 S0 (yE g0 e0 s0 ad (jF f a i))):=by
 have ht:J0 f:=hj.toJ0
 have bm:=hj.n.2
 have bn:=hj.n.1
 obtain⟨bo,bp⟩:=hp
 refine Y.enter (N:=30) Tryz.func175 rfl rfl (by simp) [(0,.pointer (some ⟨g0,0,none⟩)),(1,.int .i64 a),(2,.int .i64 (i:Int))] (by simp) hs ?_
 refine Y.h (WS.a .g1) ?_
 rintro⟨bq,br,rfl,a2,a3,a4⟩
 refine Y.h (WS.a .g2) ?_
 rintro⟨bs,bt,rfl,a5,a6,a7⟩
 refine Y.seq (Y.region (Y.mv rfl .z (Y.mv rfl .g2 (Y.mv rfl .g4 ?_))))
 refine Y.cl rfl rfl Tryz.func178 rfl rfl (dX (.t .g2) (.t .g1) (.t .z)) (.c .z (.c .z (.c .z .n))) (fun _ _ hs tr=>aHz (f:=f) _ _ hs (by first | assumption |(constructor <;> omega)) (by omega)) ?_
 rintro _ _ ⟨v3,v5,rfl,rfl⟩
 refine Y.m (.c (.c (.c .n))) ?_
 refine Y.h (WS.a .g1) ?_
 rintro⟨bu,bv,rfl,a8,a9,ba⟩
 refine Y.h (WS.a .g2) ?_
 rintro⟨bw,bx,rfl,bb,bc,bd⟩
 refine Y.as rfl .z (Y.nt (Y.seq (Y.region (Y.mv rfl .g5 (Y.mv rfl .g1 ?_)))))
 have hkp:=qP ht hi
 have hlp:tQ (bH f a (List.eraseIdx (aB f.inodes a) i)) (eY (aB f.inodes a) i):=aFm (wK hj) (by show bR (eD _ _ _).length _;rw [bB];exact hkp)
 have hLl:(gQ (bH f a (List.eraseIdx (aB f.inodes a) i)) (eY (aB f.inodes a) i)).inodes.length=f.inodes.length:=xN.trans bB
 obtain⟨bz,b0⟩:=hkp
 refine Y.cl rfl rfl Tryz.func197 rfl rfl (aX (.t .g1) (.t .z)) (.c .z (.c .z (.c .z .n))) (fun _ _ hs tr=>aMo (f:=(bH f a (List.eraseIdx (aB (f).inodes a) i))) _ hs hlp) ?_
 rintro _ _ ⟨v9,b1,rfl,rfl⟩
 refine Y.m (.c (.c (.c .n))) ?_
 refine Y.h (WS.a .g1) ?_
 rintro⟨be,ah,rfl,ao,ap,aq⟩
 refine Y.h (WS.a .g2) ?_
 rintro⟨bf,bg,rfl,ar,au,av⟩
 refine Y.nt (Y.seq (Y.region (Y.mv rfl .g8 (Y.nc rfl .z (Y.fa rfl .z aO (Y.ld rfl bK .z .z (Y.mv rfl .g7 ?_)))))))
 refine Y.w (.c .g1 .n) eC ?_
 rintro ai aa
 obtain⟨ae,ab⟩:=aI (xs:=(gQ (bH f a (List.eraseIdx (aB (f).inodes a) i)) (eY (aB (f).inodes a) i)).inodes) (j:=Int.toNat (eY (aB (f).inodes a) i)) (by first | omega |(simp <;> omega))
 obtain⟨b2,ac⟩:=aI (xs:=ai) (j:=Int.toNat (eY (aB (f).inodes a) i)) (by rw [aa];exact(List.getElem?_eq_some_iff.1 ab).1)
 refine Y.an .g1 (cW ab ac) ?_
 refine Y.w (.c .z .n) dR ?_
 rintro⟨b3,b4⟩ rfl
 refine Y.h (WS.a .z) ?_
 rintro⟨ak,al,rfl,aw,ax,ay⟩
 refine Y.h (WS.a .g1) ?_
 rintro⟨am,an,rfl,az,a0,a1⟩
 have bh:=cH (i:=(eY (aB (f).inodes a) i)) ab (by omega)
 have bi:=cI (a:=(eY (aB (f).inodes a) i)) ab (by omega)
 have bj:=dC (a:=(eY (aB (f).inodes a) i)) ab (by omega)
 refine Y.h (WS.i .g4 (by first | omega |(simp <;> omega) |(simp only [List.length_append,List.length_cons,List.length_nil,List.length_set] at *;omega))) ?_
 rintro⟨aj,rfl⟩
 refine Y.ql rfl (aC (j:=Int.toNat (eY (aB (f).inodes a) i)) rfl cE aU (.t .g1) (.t .z) (by omega) (by first | omega |(simp <;> omega))) ?_
 refine Y.fa rfl .z cV (Y.ql rfl (aL rfl cF (.t .z) (WS.h .g4 ac rfl)) (Y.ql rfl (bZ rfl (.t .z) .c) (Y.nt ?_)))
 refine Y.u (.t .z) (fun bk=> ?_) (fun bk=> ?_)
 refine Y.region (Y.mv rfl (.s16 .g1) (Y.nc rfl .z (Y.fa rfl .z aO (Y.ld rfl bK .z .g5 (Y.mv rfl .g16 (Y.ql rfl (aZ (cs:= [.int .i64 0,.int .i64 0,.int .i64 0,.slice none 0 0,.slice none 0 0]) rfl rX pv0 rfl) ?_))))))
 refine Y.ql rfl (aC (j:=Int.toNat (eY (aB (f).inodes a) i)) rfl cE aU (.t .g2) (.t .g1) (by omega) (by first | omega |(simp <;> omega))) ?_
 refine Y.es (aD rfl) rfl (gY (j:=Int.toNat (eY (aB (f).inodes a) i)) (off:=0) (cs:= [.int .i64 0,.int .i64 0,.int .i64 0,.slice none 0 0,.slice none 0 0]) rfl aU (.t .z) rfl (.t .g1) rfl (lZ rfl) .g4 ac (Nat.le_of_ble_eq_true rfl)) ?_
 refine Y.af (x':=List.set ai (Int.toNat (eY (aB (f).inodes a) i)) [.int .i64 0,.int .i64 0,.int .i64 0,.slice none 0 0,.slice none 0 0]) .z rfl ?_
 refine Y.nil ?_
 refine Y.add (c:=aG bY [] [.slice none 0 0]) (fun w S=>aN w S none) ?_
 refine Y.add (c:=aG cP [] [.slice none 0 0]) (fun w S=>aN w S none) ?_
 refine Y.v (c:=aG bD (⟨0,0,0,[],[]⟩:aF) [.int .i64 0,.int .i64 0,.int .i64 0,.slice none 0 0,.slice none 0 0]) (.c .g1 (.c .z .n)) (fun w S h=>bF (⟨0,0,0,[],[]⟩:aF) h) ?_
 refine Y.v (c:=aG aP (List.set ((gQ (bH f a (List.eraseIdx (aB (f).inodes a) i)) (eY (aB (f).inodes a) i)).inodes) (Int.toNat (eY (aB (f).inodes a) i)) (⟨0,0,0,[],[]⟩:aF)) [.slice (some aj) ((gQ (bH f a (List.eraseIdx (aB (f).inodes a) i)) (eY (aB (f).inodes a) i)).inodes).length ah]) (.c .g1 (.c .z (.c .g2 (.c .g2 .n)))) (dQ (K:=bD) aa (List.getElem?_eq_some_iff.1 ab).1 rfl) ?_
 refine Y.aw (sP rfl) (.c .g3 (.c .z (.c .g2 .n))) ?_
 exact⟨_,_,rfl,by first |(rw [aD6 (by omega)];done) |(rw [aEd (by omega)];done)⟩
 refine Y.skip ?_
 refine Y.v (c:=aG bD ae [.int .i64 ae.kind,.int .i64 ae.links,.int .i64 ae.size,.slice ak ae.blocks.length al,.slice am ae.ents.length an]) (.c .z (.c .z .n)) (fun w S h=>bF ae h) ?_
 refine Y.v (c:=aG aP ((gQ (bH f a (List.eraseIdx (aB (f).inodes a) i)) (eY (aB (f).inodes a) i)).inodes) [.slice (some aj) ((gQ (bH f a (List.eraseIdx (aB (f).inodes a) i)) (eY (aB (f).inodes a) i)).inodes).length ah]) (.c .g3 (.c .z (.c .z (.c .z .n)))) (bU (K:=bD) aa ab ac) ?_
 refine Y.aw (sP rfl) (.c .g1 (.c .z (.c .z .n))) ?_
 exact⟨_,_,rfl,by first |(rw [aD6 (by omega)];done) |(rw [aEd (by omega)];done)⟩

theorem aJv {w0:World}{S0:Bs}{f:DFs}{aj:Addr} (h0:gP eU w0 (FF w0 S0) aj f) (a:Int) (b:Int) (hp:bR f.inodes.length a) (hq:bR f.inodes.length b):
    Calls Tryz.prog 177 #[.pointer (some aj),.int .i64 a,.int .i64 b] w0 (aJ w0 S0 (fun r l=>∃c:Int,(c=0→(aB f.inodes b).length=0)∧r= .int .i64 c∧l= [])):=by
 obtain⟨ca,ak,bz,al⟩:=id h0
 obtain⟨b0,b1,rfl,am,an⟩:=cY bz
 obtain⟨b2,b3,rfl,bc,bd,be,ab⟩:=aH am
 obtain⟨b4,b5,rfl,bf,bg,bh,bi⟩:=aH an
 obtain⟨cb,cc⟩:=hp
 obtain⟨cd,ce⟩:=hq
 refine Y.enter (N:=36) Tryz.func177 rfl rfl (by simp) [(0,.pointer (some aj)),(1,.int .i64 a),(2,.int .i64 b)] (by simp) (l0:= []) trivial ?_
 refine Y.seq (Y.region (Y.ql rfl (aA rfl .c) (Y.nt (Y.seq (Y.seq ?_)))))
 refine Y.dr .z 19 gG ?_
 refine Y.sc (qs 0 19) (by kernel_rfl) ?_
 refine Y.dm rfl rfl .z .g1 (Y.dn rfl rfl .z .z (Y.df rfl rfl .z .z aO (Y.de rfl rfl .z bK .z ak al (Y.dm rfl rfl .z .g6 ?_))))
 obtain⟨cf,ac,aa⟩:=ab (by omega)
 subst ac
 obtain⟨x4,bj⟩:=aI (xs:=f.inodes) (j:=Int.toNat a) (by omega)
 obtain⟨b6,ao,ap,aq⟩:=aa.elem bj
 obtain⟨bk,bm,rfl,ad,ae⟩:=cK ao
 obtain⟨bn,bo,rfl,ar,au,av,aw⟩:=aH ad
 obtain⟨bp,bq,rfl,ax,ay,az,a0⟩:=aH ae
 have a1:=cI (a:=a) bj (by omega)
 refine Y.dk rfl rfl .z (aC (j:=Int.toNat a) rfl cE aU (.t .g1) (.t .z) (by omega) (by omega)) ?_
 refine Y.df rfl rfl .z .z cV (Y.de rfl rfl .z cF .z ap aq (Y.dk rfl rfl .z (bZ rfl (.t .z) .c) (Y.dm rfl rfl .z .g10 (Y.dn rfl rfl .z .z (Y.df rfl rfl .z .z aO (Y.de rfl rfl .z bK .z ak al (Y.dm rfl rfl .z .g16 ?_)))))))
 obtain⟨x8,br⟩:=aI (xs:=f.inodes) (j:=Int.toNat b) (by omega)
 obtain⟨b7,a2,af,ag⟩:=aa.elem br
 obtain⟨bs,bt,rfl,ah,ai⟩:=cK a2
 obtain⟨bu,bv,rfl,a3,a4,a5,a6⟩:=aH ah
 obtain⟨bw,bx,rfl,a7,a8,a9,ba⟩:=aH ai
 have bb:=cI (a:=b) br (by omega)
 refine Y.dk rfl rfl .z (aC (j:=Int.toNat b) rfl cE aU (.t .g1) (.t .z) (by omega) (by omega)) ?_
 refine Y.df rfl rfl .z .z cV (Y.de rfl rfl .z cF .z af ag (Y.dk rfl rfl .z (bZ rfl (.t .z) .c) (Y.dk rfl rfl .z (aKg rfl u_4 (.t .g9) (.t .z)) (Y.aa ?_))))
 refine Y.ag (by kernel_rfl) ?_
 refine Y.g ?_
 refine Y.cond (.t .z) (fun b8=> ?_) (fun b8=> ?_)
 refine Y.seq (Y.region (Y.er (.s16 .g3) (Y.ql rfl (aA rfl .c) (Y.nt (Y.ret (Y.r ?_))))))
 refine Y.i (aY rfl .z) .n ?_
 exact⟨_,(by intro hz;first | exact absurd hz (by decide) |(rw [a1];omega) |(rw [bb];omega)),rfl,rfl⟩
 refine Y.skip (Y.g (Y.seq (Y.seq (Y.region (Y.mv rfl (.s16 .g4) (Y.nc rfl .z (Y.fa rfl .z aO (Y.le rfl bK .z ak al ?_))))))))
 refine Y.mv rfl (.s16 .g10) ?_
 refine Y.ql rfl (aC (j:=Int.toNat b) rfl cE aU (.t .g1) (.t .z) (by omega) (by omega)) ?_
 refine Y.fa rfl .z bE (Y.le rfl dP .z af ag (Y.ql rfl (bM rfl cZ (.t .z)) (Y.ql rfl (gO rfl (.t .z) .c) (Y.nt ?_))))
 refine Y.u (.t .z) (fun b9=> ?_) (fun b9=> ?_)
 refine Y.seq (Y.region (Y.er (.s16 .g13) (Y.ql rfl (aA rfl .c) (Y.nt (Y.ret (Y.r ?_))))))
 refine Y.i (aY rfl .z) .n ?_
 exact⟨_,(by intro hz;first | exact absurd hz (by decide) |(rw [a1];omega) |(rw [bb];omega)),rfl,rfl⟩
 refine Y.skip (Y.g (Y.seq (Y.region (Y.er (.s16 .g13) (Y.ql rfl (aA rfl .c) (Y.nt (Y.ret ?_)))))))
 refine Y.i (aY rfl .z) .n ?_
 exact⟨_,(by intro hz;first | exact absurd hz (by decide) |(rw [a1];omega) |(rw [bb];omega)),rfl,rfl⟩

theorem aKa {w0:World}{S0:Bs}{f:DFs}{b8:List Value} (h0:eU.ro w0 (FF w0 S0) f b8) (p:ByteArray) (g0:p.size≤140737488351232) (k:Int) (hj:Jf f) (hk:1≤k∧k≤2):
    Calls Tryz.prog 155 #[.agg b8.toArray,.string p,.int .i64 k] w0 (aJ w0 S0 (fun r l=>∃x:eJ,Jf x.fs∧sA x r l)):=by
 obtain⟨e9,fb,rfl,ab,ac⟩:=cY h0
 obtain⟨ar,au,rfl,b9,ca,cb,av⟩:=aH ab
 obtain⟨aw,ax,rfl,cc,cd,ce,cf⟩:=aH ac
 have ht:J0 f:=hj.toJ0
 have ha:=hj.n.2
 have hb:=hj.n.1
 have hfr:=aCe f.inodes
 refine Y.enter (N:=77) Tryz.func155 rfl rfl (by simp) [(0,.agg #[.slice ar f.inodes.length au,.slice aw f.data.length ax]),(1,.string p),(2,.int .i64 k)] (by simp) (l0:= []) trivial ?_
 refine Y.seq (Y.region ?_)
 refine Y.el rfl (fT (cs:= [.slice ar f.inodes.length au,.slice aw f.data.length ax]) (n:=2) rfl (.t .z) rfl rfl) ?_
 rintro _ _ ⟨g3,rfl,rfl⟩
 refine Y.el rfl (bL rfl tP rfl rfl) ?_
 rintro _ _ ⟨g4,rfl,rfl⟩
 refine Y.nt (Y.seq (Y.region (Y.mv rfl .g3 ?_)))
 refine Y.cl rfl rfl Tryz.func171 rfl rfl (aX (.t .g2) (.t .z)) .n (fun _ _ hs tr=>yP (tr.ptr .g1 (aM f (tr.ctx ab) (tr.ctx ac))) _ (by first | assumption | omega) (by assumption)) ?_
 rintro _ _ ⟨rfl,rfl⟩
 refine Y.m .n ?_
 have cg:=nR (f:=f) (s:=p)
 have ch:=lN ht p
 refine Y.mv rfl .z (Y.ql rfl (cC (v:= .int .i64 ((aT f p).1)) rfl (.t .z) rfl) (Y.ql rfl (cC (v:= .string ((aT f p).2.1)) rfl (.t .g1) rfl) (Y.ql rfl (cC (v:= .int .i64 ((aT f p).2.2)) rfl (.t .g2) rfl) (Y.as rfl .g2 (Y.as rfl .g2 (Y.as rfl .g2 (Y.nt ?_)))))))
 refine Y.seq (Y.seq (Y.region (Y.mv rfl .z (Y.ql rfl (cU rfl (.t .z) .c) (Y.nt ?_)))))
 refine Y.ad (.t .z) (fun b7=> ?_) (fun b7=> ?_)
 refine Y.seq (Y.region (Y.ql rfl (qW rfl bI (.t .g12) .g1 aW) (Y.mv rfl .g3 ?_)))
 refine Y.cl rfl rfl Tryz.func172 rfl rfl (aX (.t .g1) (.t .z)) .n (fun _ _ hs tr=>hU (aM f (tr.ctx ab) (tr.ctx ac)) _) ?_
 rintro _ _ ⟨v8,hc,hd,he,rfl,rfl⟩
 refine Y.m (.c (.c (.c (.c .n)))) ?_
 refine Y.h (WS.a .z) ?_
 rintro⟨fc,fd,rfl,ci,cj,ck⟩
 refine Y.h (WS.a .g1) ?_
 rintro⟨fe,ff,rfl,cm,cn,co⟩
 refine Y.h (WS.a .g2) ?_
 rintro⟨fg,fh,rfl,cp,cq,cr⟩
 refine Y.h (WS.a .g3) ?_
 rintro⟨fi,fj,rfl,ct,cu,cv⟩
 refine Y.es (aD rfl) rfl (esW rfl (.t .g14) (.t .z) .g4 bG rfl rfl) ?_
 refine Y.nt (Y.ret (Y.r ?_))
 refine Y.i (dD rfl .g14 dS .z bG) (.c .g1 (.c .g1 (.c .g1 (.c .g1 .n)))) ?_
 exact⟨(⟨0,((aT f p).2.2),0,[],[],(⟨f.inodes,f.data⟩:DFs)⟩:eJ),(by first | exact hj | assumption | exact an),_,_,_,_,rfl,rfl⟩
 refine Y.skip (Y.g (Y.seq (Y.seq (Y.region (Y.fa rfl .g12 aO (Y.ld rfl bK .z .g1 (Y.mv rfl .g6 ?_)))))))
 obtain⟨fk,ao,ap⟩:=av (by omega)
 subst ao
 obtain⟨cw,af⟩:=aI (xs:=f.inodes) (j:=Int.toNat ((aT f p).1)) (by first | omega |(simp <;> omega))
 obtain⟨cx,ay,aj,ak⟩:=ap.elem af
 obtain⟨be,bf,rfl,aq,ag⟩:=cK ay
 obtain⟨bg,bh,rfl,a6,a7,a8,a9⟩:=aH aq
 obtain⟨bi,bj,rfl,ba,bb,bc,bd⟩:=aH ag
 have fl:=cH (i:=((aT f p).1)) af (by omega)
 have ai:=cI (a:=((aT f p).1)) af (by omega)
 have fm:=dC (a:=((aT f p).1)) af (by omega)
 have cy:=ht.get af
 refine Y.ql rfl (aC (j:=Int.toNat ((aT f p).1)) rfl cE aU (.t .g1) (.t .z) (by omega) (by first | omega |(simp <;> omega))) ?_
 refine Y.fa rfl .z bE (Y.le rfl dP .z aj ak (Y.mv rfl .g9 ?_))
 refine Y.cl rfl rfl Tryz.func127 rfl rfl (aX (.t .g1) (.t .z)) .n (fun _ _ hs tr=>rJ (tr.ctx ag) _ (by first | assumption | omega)) ?_
 rintro _ _ ⟨rfl,rfl⟩
 refine Y.m .n ?_
 refine Y.ql rfl (lU rfl (.t .z) .c) (Y.nt ?_)
 refine Y.u (.t .z) (fun fn=> ?_) (fun fn=> ?_)
 have cz:=gN (cA ((aT f p).2.1)) cw.ents
 refine Y.seq (Y.region (Y.ql rfl (qW rfl bI (.t (.s16 .g5)) .g1 aW) ?_))
 refine Y.cl rfl rfl Tryz.func172 rfl rfl (aX (.t .z) .c) .n (fun _ _ hs tr=>hU (aM f (tr.ctx ab) (tr.ctx ac)) _) ?_
 rintro _ _ ⟨hf,hg,hh,hi,rfl,rfl⟩
 refine Y.m (.c (.c (.c (.c .n)))) ?_
 refine Y.h (WS.a .z) ?_
 rintro⟨fo,fp,rfl,c0,c1,c2⟩
 refine Y.h (WS.a .g1) ?_
 rintro⟨fq,fr,rfl,c3,c4,c5⟩
 refine Y.h (WS.a .g2) ?_
 rintro⟨ft,fu,rfl,c6,c7,c8⟩
 refine Y.h (WS.a .g3) ?_
 rintro⟨fv,fw,rfl,c9,da,db⟩
 refine Y.es (aD rfl) rfl (esW rfl (.t (.s16 .g6)) (.t .z) .g4 bG rfl rfl) ?_
 refine Y.nt (Y.ret (Y.r ?_))
 refine Y.i (dD rfl (.s16 .g6) dS .z bG) (.c .g1 (.c .g1 (.c .g1 (.c .g1 .n)))) ?_
 exact⟨(⟨0,7,0,[],[],(⟨f.inodes,f.data⟩:DFs)⟩:eJ),(by first | exact hj | assumption | exact an),_,_,_,_,rfl,rfl⟩
 have dc:=gN (cA ((aT f p).2.1)) cw.ents
 refine Y.skip (Y.g (Y.seq (Y.seq (Y.region (Y.fa rfl (.s16 .g5) aO (Y.ld rfl bK .z .g1 (Y.mv rfl .g15 ?_)))))))
 refine Y.ql rfl (aC (j:=Int.toNat ((aT f p).1)) rfl cE aU (.t .g1) (.t .z) (by omega) (by first | omega |(simp <;> omega))) ?_
 refine Y.fa rfl .z bE (Y.le rfl dP .z aj ak (Y.ql rfl (bM rfl cZ (.t .z)) (Y.ql rfl (lU rfl (.t .z) .c) (Y.nt ?_))))
 refine Y.u (.t .z) (fun fx=> ?_) (fun fx=> ?_)
 refine Y.seq (Y.region (Y.ql rfl (qW rfl bI (.t (.s16 .g13)) .g1 aW) ?_))
 refine Y.cl rfl rfl Tryz.func172 rfl rfl (aX (.t .z) .c) .n (fun _ _ hs tr=>hU (aM f (tr.ctx ab) (tr.ctx ac)) _) ?_
 rintro _ _ ⟨hl,hm,hn,ho,rfl,rfl⟩
 refine Y.m (.c (.c (.c (.c .n)))) ?_
 refine Y.h (WS.a .z) ?_
 rintro⟨fy,fz,rfl,dd,dg,dh⟩
 refine Y.h (WS.a .g1) ?_
 rintro⟨f0,f1,rfl,di,dj,dp⟩
 refine Y.h (WS.a .g2) ?_
 rintro⟨f2,f3,rfl,ds,dt,du⟩
 refine Y.h (WS.a .g3) ?_
 rintro⟨f4,f5,rfl,dv,dw,dx⟩
 refine Y.es (aD rfl) rfl (esW rfl (.t (.s16 .g14)) (.t .z) .g4 bG rfl rfl) ?_
 refine Y.nt (Y.ret (Y.r ?_))
 refine Y.i (dD rfl (.s16 .g14) dS .z bG) (.c .g1 (.c .g1 (.c .g1 (.c .g1 .n)))) ?_
 exact⟨(⟨0,2,0,[],[],(⟨f.inodes,f.data⟩:DFs)⟩:eJ),(by first | exact hj | assumption | exact an),_,_,_,_,rfl,rfl⟩
 refine Y.skip (Y.g (Y.seq (Y.region (Y.fa rfl (.s16 .g13) aO (Y.ld rfl bK .z .g1 ?_)))))
 refine Y.cl rfl rfl Tryz.func173 rfl rfl (bT (.t .z)) .n (fun _ _ hs tr=>aK6 (tr.ctx ab) (by assumption)) ?_
 rintro _ _ ⟨rfl,rfl⟩
 refine Y.m .n ?_
 refine Y.as rfl .z (Y.nt (Y.seq (Y.seq (Y.region (Y.mv rfl .z (Y.ql rfl (dJ rfl (.t .z) .c) (Y.nil ?_)))))))
 refine Y.g ?_
 refine Y.u (.t .z) (fun f6=> ?_) (fun f6=> ?_)
 refine Y.seq (Y.region (Y.ql rfl (qW rfl bI (.t (.s16 (.s16 .g3))) .g1 aW) ?_))
 refine Y.cl rfl rfl Tryz.func172 rfl rfl (aX (.t .z) .c) .n (fun _ _ hs tr=>hU (aM f (tr.ctx ab) (tr.ctx ac)) _) ?_
 rintro _ _ ⟨hp,hq,hr,hu,rfl,rfl⟩
 refine Y.m (.c (.c (.c (.c .n)))) ?_
 refine Y.h (WS.a .z) ?_
 rintro⟨f7,f8,rfl,dy,dz,d0⟩
 refine Y.h (WS.a .g1) ?_
 rintro⟨f9,ga,rfl,d1,d2,d3⟩
 refine Y.h (WS.a .g2) ?_
 rintro⟨gb,gc,rfl,d4,d5,d6⟩
 refine Y.h (WS.a .g3) ?_
 rintro⟨gd,ge,rfl,d7,d8,d9⟩
 refine Y.es (aD rfl) rfl (esW rfl (.t (.s16 (.s16 .g4))) (.t .z) .g4 bG rfl rfl) ?_
 refine Y.nt (Y.ret (Y.r ?_))
 refine Y.i (dD rfl (.s16 (.s16 .g4)) dS .z bG) (.c .g1 (.c .g1 (.c .g1 (.c .g1 .n)))) ?_
 exact⟨(⟨0,8,0,[],[],(⟨f.inodes,f.data⟩:DFs)⟩:eJ),(by first | exact hj | assumption | exact an),_,_,_,_,rfl,rfl⟩
 refine Y.skip (Y.g (Y.seq (Y.region (Y.ql rfl (qW rfl bI (.t (.s16 (.s16 .g3))) .g1 aW) ?_))))
 refine Y.cl rfl rfl Tryz.func67 rfl rfl (bT (.t .z)) .n (fun _ _ hs tr=>vJ (aM f (tr.ctx ab) (tr.ctx ac))) ?_
 rintro _ _ ⟨hv,hw,rfl,rfl⟩
 refine Y.m (.c (.c .n)) ?_
 refine Y.h (WS.a .z) ?_
 rintro⟨gf,bk,rfl,ea,eb,ec⟩
 refine Y.h (WS.a .g1) ?_
 rintro⟨gg,gh,rfl,ed,ee,ef⟩
 refine Y.el rfl (bL rfl nF rfl rfl) ?_
 rintro _ _ ⟨g72,rfl,rfl⟩
 refine Y.es (aD rfl) rfl (esW rfl (.t .z) (.t .g1) .z aW rfl rfl) ?_
 refine Y.nt (Y.seq (Y.seq (Y.region (Y.mv rfl .g5 (Y.fa rfl .g1 aO (Y.ld rfl bK .z .z (Y.ql rfl (bM rfl cE (.t .z)) ?_)))))))
 refine Y.ql rfl (bZ rfl (.t .g3) (.t .z)) (Y.nt ?_)
 refine Y.u (.t .z) (fun gi=> ?_) (fun gi=> ?_)
 refine Y.region (Y.fa rfl .g5 aO (Y.ld rfl bK .z .z (Y.ql rfl (aZ (cs:= [.int .i64 0,.int .i64 0,.int .i64 0,.slice none 0 0,.slice none 0 0]) rfl rX pv0 rfl) ?_)))
 refine Y.el rfl (aS (cs:= [.int .i64 0,.int .i64 0,.int .i64 0,.slice none 0 0,.slice none 0 0]) rfl cE (inz lF) (by decide) (pv1 (.t .z)) rfl rfl (by decide) rfl rfl) ?_
 rintro _ _ ⟨g74,rfl,rfl⟩
 refine Y.add (c:=aG bY [] [.slice none 0 0]) (fun w S=>aN w S none) ?_
 refine Y.add (c:=aG cP [] [.slice none 0 0]) (fun w S=>aN w S none) ?_
 refine Y.v (c:=aG bD (⟨0,0,0,[],[]⟩:aF) [.int .i64 0,.int .i64 0,.int .i64 0,.slice none 0 0,.slice none 0 0]) (.c .g1 (.c .z .n)) (fun w S h=>bF (⟨0,0,0,[],[]⟩:aF) h) ?_
 refine Y.el rfl (dU rfl cE lF rfl (.t .g2) (.t .z) (.c .g3 (.c .g1 (.c .z .n))) (by first | omega |(simp <;> omega)) (by first | omega |(simp <;> omega))) ?_
 rintro _ _ rfl
 refine Y.h (WS.a .z) ?_
 rintro⟨gj,bm,rfl,eg,eh,ei⟩
 refine Y.fa rfl .g10 aO ?_
 refine Y.es (aD rfl) rfl (es1 (off:=0) rfl aEy (.t .z) (.t .g1) rfl rfl .g1 rfl .z) ?_
 refine Y.nt (Y.seq (Y.region (Y.fa rfl .g11 aO (Y.ld rfl bK .z .z (Y.mv rfl (.s16 .g2) (Y.mv rfl (.s16 (.s16 (.s16 .g7))) (Y.ql rfl (aZ (cs:= [.int .i64 k,.int .i64 0,.int .i64 0,.slice none 0 0,.slice none 0 0]) rfl rX (pv1 (.t .z)) rfl) ?_)))))))
 refine Y.w (.c .g1 .n) eC ?_
 rintro az ah
 obtain⟨hx,ae⟩:=aI (xs:=f.inodes++ [(⟨0,0,0,[],[]⟩:aF)]) (j:=Int.toNat (dH f.inodes)) (by first | omega |(simp <;> omega))
 obtain⟨hy,a0⟩:=aI (xs:=az) (j:=Int.toNat (dH f.inodes)) (by rw [ah];exact(List.getElem?_eq_some_iff.1 ae).1)
 refine Y.an .g1 (cW ae a0) ?_
 refine Y.w (.c .z .n) dR ?_
 rintro⟨hz,h1⟩ rfl
 refine Y.h (WS.a .z) ?_
 rintro⟨gk,gl,rfl,ej,ek,em⟩
 refine Y.h (WS.a .g1) ?_
 rintro⟨gm,gn,rfl,en,eo,ep⟩
 have go:=cH (i:=(dH f.inodes)) ae (by omega)
 have gp:=cI (a:=(dH f.inodes)) ae (by omega)
 have gq:=dC (a:=(dH f.inodes)) ae (by omega)
 refine Y.h (WS.i .g4 (by first | omega |(simp <;> omega) |(simp only [List.length_append,List.length_cons,List.length_nil,List.length_set] at *;omega))) ?_
 rintro⟨bn,rfl⟩
 refine Y.ql rfl (aC (j:=Int.toNat (dH f.inodes)) rfl cE aU (.t .g3) (.t .g2) (by omega) (by first | omega |(simp <;> omega))) ?_
 refine Y.es (aD rfl) rfl (gY (j:=Int.toNat (dH f.inodes)) (off:=0) (cs:= [.int .i64 k,.int .i64 0,.int .i64 0,.slice none 0 0,.slice none 0 0]) rfl aU (.t .z) rfl (.t .g1) rfl (lZ rfl) .g4 a0 (Nat.le_of_ble_eq_true rfl)) ?_
 refine Y.af (x':=List.set az (Int.toNat (dH f.inodes)) [.int .i64 k,.int .i64 0,.int .i64 0,.slice none 0 0,.slice none 0 0]) .z rfl ?_
 refine Y.nt (Y.seq (Y.region (Y.mv rfl (.s16 (.s16 .g15)) (Y.mv rfl (.s16 (.s16 .g15)) (Y.mv rfl (.s16 .g8) ?_)))))
 refine Y.add (c:=aG bY [] [.slice none 0 0]) (fun w S=>aN w S none) ?_
 refine Y.add (c:=aG cP [] [.slice none 0 0]) (fun w S=>aN w S none) ?_
 refine Y.v (c:=aG bD (⟨k,0,0,[],[]⟩:aF) [.int .i64 k,.int .i64 0,.int .i64 0,.slice none 0 0,.slice none 0 0]) (.c .g1 (.c .z .n)) (fun w S h=>bF (⟨k,0,0,[],[]⟩:aF) h) ?_
 refine Y.v (c:=aG aP (List.set (f.inodes++ [(⟨0,0,0,[],[]⟩:aF)]) (Int.toNat (dH f.inodes)) (⟨k,0,0,[],[]⟩:aF)) [.slice (some bn) (f.inodes++ [(⟨0,0,0,[],[]⟩:aF)]).length bm]) (.c .g1 (.c .z (.c .g2 (.c .g2 .n)))) (dQ (K:=bD) ah (List.getElem?_eq_some_iff.1 ae).1 rfl) ?_
 have hid:eS (cA (aT f p).2.1) (aB f.inodes (aT f p).1)<0:=by rw [ai];omega
 have bo:(aB f.inodes (aT f p).1).length<6:=by rw [ai];omega
 obtain⟨gr,an,gs,gt⟩:=aMk hj (xs:=f.inodes++ [⟨0,0,0,[],[]⟩]) hk (by omega) hid bo (by omega) (.inr ⟨by first | assumption | omega,rfl⟩)
 refine Y.cl rfl rfl Tryz.func78 rfl rfl (oT (.t (.s16 .g4)) (.t .g2) (.t .g1) (.t .z)) (.c .g3 (.c .z (.c .g2 .n))) (fun _ _ hs tr=>aGs (f:=(⟨List.set (f.inodes++ [(⟨0,0,0,[],[]⟩:aF)]) (Int.toNat (dH f.inodes)) (⟨k,0,0,[],[]⟩:aF),f.data⟩:DFs)) _ _ (by first | assumption | omega) _ hs (by assumption) (by first | assumption |(constructor <;> omega)) (by first | omega | assumption)) ?_
 rintro _ _ ⟨h2,h3,rfl,rfl⟩
 refine Y.m (.c (.c (.c .n))) ?_
 refine Y.h (WS.a .g1) ?_
 rintro⟨bp,bq,rfl,et,eu,ew⟩
 refine Y.h (WS.a .g2) ?_
 rintro⟨br,bs,rfl,ey,ez,e0⟩
 refine Y.nt (Y.seq (Y.region (Y.mv rfl (.s16 .g10) (Y.ql rfl (qW rfl bI (.t (.s16 .g6)) .z aW) (Y.ql rfl (aZ (cs:= [.int .i64 0,.int .i64 0,.int .i64 (dH f.inodes),.slice none 0 0,.slice none 0 0,.slice bp ((iL (⟨List.set (f.inodes++ [(⟨0,0,0,[],[]⟩:aF)]) (Int.toNat (dH f.inodes)) (⟨k,0,0,[],[]⟩:aF),f.data⟩:DFs) ((aT f p).1) ((aT f p).2.1) (dH f.inodes)).inodes).length bq,.slice br ((iL (⟨List.set (f.inodes++ [(⟨0,0,0,[],[]⟩:aF)]) (Int.toNat (dH f.inodes)) (⟨k,0,0,[],[]⟩:aF),f.data⟩:DFs) ((aT f p).1) ((aT f p).2.1) (dH f.inodes)).data).length bs]) rfl mO (pv2 (.t .g1) (.t .z)) rfl) ?_)))))
 refine Y.es (aD rfl) rfl (esW rfl (.t (.s16 (.s16 (.s16 .g13)))) (.t .z) .g5 bG rfl rfl) ?_
 refine Y.nt (Y.ret ?_)
 refine Y.add (c:=aG cX [] [.slice none 0 0]) (fun w S=>aN w S none) ?_
 refine Y.add (c:=aG fB [] [.slice none 0 0]) (fun w S=>aN w S none) ?_
 refine Y.i (dD rfl (.s16 (.s16 (.s16 .g13))) dS .g2 bG) (.c .g1 (.c .z (.c .g2 (.c .g2 .n)))) ?_
 exact⟨(⟨0,0,dH f.inodes,[],[],(⟨(iL (⟨List.set (f.inodes++ [(⟨0,0,0,[],[]⟩:aF)]) (Int.toNat (dH f.inodes)) (⟨k,0,0,[],[]⟩:aF),f.data⟩:DFs) ((aT f p).1) ((aT f p).2.1) (dH f.inodes)).inodes,(iL (⟨List.set (f.inodes++ [(⟨0,0,0,[],[]⟩:aF)]) (Int.toNat (dH f.inodes)) (⟨k,0,0,[],[]⟩:aF),f.data⟩:DFs) ((aT f p).1) ((aT f p).2.1) (dH f.inodes)).data⟩:DFs)⟩:eJ),(by first | exact hj | assumption | exact an),_,_,_,_,rfl,rfl⟩
 refine Y.skip (Y.g (Y.seq (Y.region (Y.fa rfl .g5 aO (Y.ld rfl bK .z .z (Y.mv rfl .g12 (Y.mv rfl (.s16 (.s16 (.s16 .g1))) (Y.ql rfl (aZ (cs:= [.int .i64 k,.int .i64 0,.int .i64 0,.slice none 0 0,.slice none 0 0]) rfl rX (pv1 (.t .z)) rfl) ?_))))))))
 refine Y.w (.c .g1 .n) eC ?_
 rintro al ad
 obtain⟨gu,aa⟩:=aI (xs:=f.inodes) (j:=Int.toNat (dH f.inodes)) (by first | omega |(simp <;> omega))
 obtain⟨gv,am⟩:=aI (xs:=al) (j:=Int.toNat (dH f.inodes)) (by rw [ad];exact(List.getElem?_eq_some_iff.1 aa).1)
 refine Y.an .g1 (cW aa am) ?_
 refine Y.w (.c .z .n) dR ?_
 rintro⟨gw,gx⟩ rfl
 refine Y.h (WS.a .z) ?_
 rintro⟨e1,e2,rfl,bt,bu,bv⟩
 refine Y.h (WS.a .g1) ?_
 rintro⟨e3,e4,rfl,bw,bx,bz⟩
 have e5:=cH (i:=(dH f.inodes)) aa (by omega)
 have e7:=cI (a:=(dH f.inodes)) aa (by omega)
 have e8:=dC (a:=(dH f.inodes)) aa (by omega)
 have b0:=ht.get aa
 refine Y.h (WS.i .g4 (by first | omega |(simp <;> omega) |(simp only [List.length_append,List.length_cons,List.length_nil,List.length_set] at *;omega))) ?_
 rintro⟨a1,rfl⟩
 refine Y.ql rfl (aC (j:=Int.toNat (dH f.inodes)) rfl cE aU (.t .g3) (.t .g2) (by omega) (by first | omega |(simp <;> omega))) ?_
 refine Y.es (aD rfl) rfl (gY (j:=Int.toNat (dH f.inodes)) (off:=0) (cs:= [.int .i64 k,.int .i64 0,.int .i64 0,.slice none 0 0,.slice none 0 0]) rfl aU (.t .z) rfl (.t .g1) rfl (lZ rfl) .g4 am (Nat.le_of_ble_eq_true rfl)) ?_
 refine Y.af (x':=List.set al (Int.toNat (dH f.inodes)) [.int .i64 k,.int .i64 0,.int .i64 0,.slice none 0 0,.slice none 0 0]) .z rfl ?_
 refine Y.nt (Y.seq (Y.region (Y.mv rfl (.s16 (.s16 .g9)) (Y.mv rfl (.s16 (.s16 .g9)) (Y.mv rfl (.s16 .g2) ?_)))))
 refine Y.add (c:=aG bY [] [.slice none 0 0]) (fun w S=>aN w S none) ?_
 refine Y.add (c:=aG cP [] [.slice none 0 0]) (fun w S=>aN w S none) ?_
 refine Y.v (c:=aG bD (⟨k,0,0,[],[]⟩:aF) [.int .i64 k,.int .i64 0,.int .i64 0,.slice none 0 0,.slice none 0 0]) (.c .g1 (.c .z .n)) (fun w S h=>bF (⟨k,0,0,[],[]⟩:aF) h) ?_
 refine Y.v (c:=aG aP (List.set f.inodes (Int.toNat (dH f.inodes)) (⟨k,0,0,[],[]⟩:aF)) [.slice (some a1) f.inodes.length bk]) (.c .g1 (.c .z (.c .g2 (.c .g2 .n)))) (dQ (K:=bD) ad (List.getElem?_eq_some_iff.1 aa).1 rfl) ?_
 have hid:eS (cA (aT f p).2.1) (aB f.inodes (aT f p).1)<0:=by rw [ai];omega
 have bo:(aB f.inodes (aT f p).1).length<6:=by rw [ai];omega
 obtain⟨gr,an,gs,gt⟩:=aMk hj (xs:=f.inodes) hk (by omega) hid bo (by omega) (.inl ⟨by first | assumption | omega,rfl⟩)
 refine Y.cl rfl rfl Tryz.func78 rfl rfl (oT (.t .g14) (.t .g2) (.t .g1) (.t .z)) (.c .g3 (.c .z (.c .g2 .n))) (fun _ _ hs tr=>aGs (f:=(⟨List.set f.inodes (Int.toNat (dH f.inodes)) (⟨k,0,0,[],[]⟩:aF),f.data⟩:DFs)) _ _ (by first | assumption | omega) _ hs (by assumption) (by first | assumption |(constructor <;> omega)) (by first | omega | assumption)) ?_
 rintro _ _ ⟨gy,gz,rfl,rfl⟩
 refine Y.m (.c (.c (.c .n))) ?_
 refine Y.h (WS.a .g1) ?_
 rintro⟨a2,a3,rfl,b1,b2,b3⟩
 refine Y.h (WS.a .g2) ?_
 rintro⟨a4,a5,rfl,b4,b5,b6⟩
 refine Y.nt (Y.seq (Y.region (Y.mv rfl (.s16 .g4) (Y.ql rfl (qW rfl bI (.t .g16) .z aW) (Y.ql rfl (aZ (cs:= [.int .i64 0,.int .i64 0,.int .i64 (dH f.inodes),.slice none 0 0,.slice none 0 0,.slice a2 ((iL (⟨List.set f.inodes (Int.toNat (dH f.inodes)) (⟨k,0,0,[],[]⟩:aF),f.data⟩:DFs) ((aT f p).1) ((aT f p).2.1) (dH f.inodes)).inodes).length a3,.slice a4 ((iL (⟨List.set f.inodes (Int.toNat (dH f.inodes)) (⟨k,0,0,[],[]⟩:aF),f.data⟩:DFs) ((aT f p).1) ((aT f p).2.1) (dH f.inodes)).data).length a5]) rfl mO (pv2 (.t .g1) (.t .z)) rfl) ?_)))))
 refine Y.es (aD rfl) rfl (esW rfl (.t (.s16 (.s16 (.s16 .g7)))) (.t .z) .g5 bG rfl rfl) ?_
 refine Y.nt (Y.ret ?_)
 refine Y.add (c:=aG cX [] [.slice none 0 0]) (fun w S=>aN w S none) ?_
 refine Y.add (c:=aG fB [] [.slice none 0 0]) (fun w S=>aN w S none) ?_
 refine Y.i (dD rfl (.s16 (.s16 (.s16 .g7))) dS .g2 bG) (.c .g1 (.c .z (.c .g2 (.c .g2 .n)))) ?_
 exact⟨(⟨0,0,dH f.inodes,[],[],(⟨(iL (⟨List.set f.inodes (Int.toNat (dH f.inodes)) (⟨k,0,0,[],[]⟩:aF),f.data⟩:DFs) ((aT f p).1) ((aT f p).2.1) (dH f.inodes)).inodes,(iL (⟨List.set f.inodes (Int.toNat (dH f.inodes)) (⟨k,0,0,[],[]⟩:aF),f.data⟩:DFs) ((aT f p).1) ((aT f p).2.1) (dH f.inodes)).data⟩:DFs)⟩:eJ),(by first | exact hj | assumption | exact an),_,_,_,_,rfl,rfl⟩

theorem aMl {w0:World}{S0:Bs}{f:DFs}{bb:List Value} (h0:eU.ro w0 (FF w0 S0) f bb) (p:ByteArray) (e3:p.size≤140737488351232) (q:ByteArray) (e4:q.size≤140737488351232) (hj:Jf f):
    Calls Tryz.prog 158 #[.agg bb.toArray,.string p,.string q] w0 (aJ w0 S0 (fun r l=>∃x:eJ,Jf x.fs∧sA x r l)):=by
 obtain⟨dh,di,rfl,aa,ab⟩:=cY h0
 obtain⟨ah,ai,rfl,bc,bd,be,aj⟩:=aH aa
 obtain⟨ak,al,rfl,bf,bg,bh,bi⟩:=aH ab
 have ht:J0 f:=hj.toJ0
 have e5:=hj.n.2
 have e7:=hj.n.1
 refine Y.enter (N:=56) Tryz.func158 rfl rfl (by simp) [(0,.agg #[.slice ah f.inodes.length ai,.slice ak f.data.length al]),(1,.string p),(2,.string q)] (by simp) (l0:= []) trivial ?_
 refine Y.seq (Y.region ?_)
 refine Y.el rfl (fT (cs:= [.slice ah f.inodes.length ai,.slice ak f.data.length al]) (n:=2) rfl (.t .z) rfl rfl) ?_
 rintro _ _ ⟨g3,rfl,rfl⟩
 refine Y.el rfl (bL rfl tP rfl rfl) ?_
 rintro _ _ ⟨g4,rfl,rfl⟩
 refine Y.nt (Y.seq (Y.region (Y.mv rfl .g3 ?_)))
 refine Y.cl rfl rfl Tryz.func174 rfl rfl (aX (.t .g2) (.t .z)) .n (fun _ _ hs tr=>aC4 (tr.ptr .g1 (aM f (tr.ctx aa) (tr.ctx ab))) _ (by first | assumption | omega) (by assumption)) ?_
 rintro _ _ ⟨rfl,rfl⟩
 refine Y.m .n ?_
 have bj:=qH ht p
 refine Y.mv rfl .z (Y.ql rfl (cC (v:= .int .i64 ((dA f p).1)) rfl (.t .z) rfl) (Y.ql rfl (cC (v:= .int .i64 ((dA f p).2)) rfl (.t .g1) rfl) (Y.as rfl .g1 (Y.as rfl .g1 (Y.nt (Y.seq (Y.seq ?_)))))))
 refine Y.region (Y.mv rfl .z (Y.ql rfl (cU rfl (.t .z) .c) (Y.nt ?_)))
 refine Y.ad (.t .z) (fun b6=> ?_) (fun b6=> ?_)
 refine Y.seq (Y.region (Y.ql rfl (qW rfl bI (.t .g10) .g1 aW) (Y.mv rfl .g3 ?_)))
 refine Y.cl rfl rfl Tryz.func172 rfl rfl (aX (.t .g1) (.t .z)) .n (fun _ _ hs tr=>hU (aM f (tr.ctx aa) (tr.ctx ab)) _) ?_
 rintro _ _ ⟨v7,v9,e8,e9,rfl,rfl⟩
 refine Y.m (.c (.c (.c (.c .n)))) ?_
 refine Y.h (WS.a .z) ?_
 rintro⟨dj,dp,rfl,bk,bm,bn⟩
 refine Y.h (WS.a .g1) ?_
 rintro⟨ds,dt,rfl,bo,bp,bq⟩
 refine Y.h (WS.a .g2) ?_
 rintro⟨du,dv,rfl,br,bs,bt⟩
 refine Y.h (WS.a .g3) ?_
 rintro⟨dw,dx,rfl,bu,bv,bw⟩
 refine Y.es (aD rfl) rfl (esW rfl (.t .g12) (.t .z) .g4 bG rfl rfl) ?_
 refine Y.nt (Y.ret (Y.r ?_))
 refine Y.i (dD rfl .g12 dS .z bG) (.c .g1 (.c .g1 (.c .g1 (.c .g1 .n)))) ?_
 exact⟨(⟨0,((dA f p).2),0,[],[],(⟨f.inodes,f.data⟩:DFs)⟩:eJ),(by first | exact hj | assumption | exact xS hj (by omega)),_,_,_,_,rfl,rfl⟩
 refine Y.skip (Y.g (Y.seq (Y.seq (Y.region (Y.fa rfl .g10 aO (Y.ld rfl bK .z .g1 (Y.mv rfl .g5 ?_)))))))
 obtain⟨dy,ad,ae⟩:=aj (by omega)
 subst ad
 obtain⟨fb,ac⟩:=aI (xs:=f.inodes) (j:=Int.toNat ((dA f p).1)) (by first | omega |(simp <;> omega))
 obtain⟨bx,am,an,ao⟩:=ae.elem ac
 obtain⟨az,a0,rfl,af,ag⟩:=cK am
 obtain⟨a1,a2,rfl,ap,aq,ar,au⟩:=aH af
 obtain⟨a3,a4,rfl,av,aw,ax,ay⟩:=aH ag
 have dz:=cH (i:=((dA f p).1)) ac (by omega)
 have d0:=cI (a:=((dA f p).1)) ac (by omega)
 have d1:=dC (a:=((dA f p).1)) ac (by omega)
 have bz:=ht.get ac
 refine Y.ql rfl (aC (j:=Int.toNat ((dA f p).1)) rfl cE aU (.t .g1) (.t .z) (by omega) (by first | omega |(simp <;> omega))) ?_
 refine Y.fa rfl .z cV (Y.le rfl cF .z an ao (Y.ql rfl (bZ rfl (.t .z) .c) (Y.nt ?_)))
 refine Y.u (.t .z) (fun d2=> ?_) (fun d2=> ?_)
 refine Y.seq (Y.region (Y.ql rfl (qW rfl bI (.t (.s16 .g1)) .g1 aW) ?_))
 refine Y.cl rfl rfl Tryz.func172 rfl rfl (aX (.t .z) .c) .n (fun _ _ hs tr=>hU (aM f (tr.ctx aa) (tr.ctx ab)) _) ?_
 rintro _ _ ⟨fc,fd,fe,ff,rfl,rfl⟩
 refine Y.m (.c (.c (.c (.c .n)))) ?_
 refine Y.h (WS.a .z) ?_
 rintro⟨d3,d4,rfl,b0,b1,b2⟩
 refine Y.h (WS.a .g1) ?_
 rintro⟨d5,d6,rfl,b3,b4,b5⟩
 refine Y.h (WS.a .g2) ?_
 rintro⟨d7,d8,rfl,b7,b8,b9⟩
 refine Y.h (WS.a .g3) ?_
 rintro⟨d9,ea,rfl,ca,cb,cc⟩
 refine Y.es (aD rfl) rfl (esW rfl (.t (.s16 .g2)) (.t .z) .g4 bG rfl rfl) ?_
 refine Y.nt (Y.ret (Y.r ?_))
 refine Y.i (dD rfl (.s16 .g2) dS .z bG) (.c .g1 (.c .g1 (.c .g1 (.c .g1 .n)))) ?_
 exact⟨(⟨0,9,0,[],[],(⟨f.inodes,f.data⟩:DFs)⟩:eJ),(by first | exact hj | assumption | exact xS hj (by omega)),_,_,_,_,rfl,rfl⟩
 refine Y.skip (Y.g (Y.seq (Y.region (Y.mv rfl (.s16 .g4) ?_))))
 refine Y.cl rfl rfl Tryz.func171 rfl rfl (aX (.t (.s16 .g2)) (.t .z)) .n (fun _ _ hs tr=>yP (tr.ptr .g1 (aM f (tr.ctx aa) (tr.ctx ab))) _ (by first | assumption | omega) (by assumption)) ?_
 rintro _ _ ⟨rfl,rfl⟩
 refine Y.m .n ?_
 have a5:=nR (f:=f) (s:=q)
 have a6:=lN ht q
 refine Y.mv rfl .z (Y.ql rfl (cC (v:= .int .i64 ((aT f q).1)) rfl (.t .z) rfl) (Y.ql rfl (cC (v:= .string ((aT f q).2.1)) rfl (.t .g1) rfl) (Y.ql rfl (cC (v:= .int .i64 ((aT f q).2.2)) rfl (.t .g2) rfl) (Y.as rfl .g2 (Y.as rfl .g2 (Y.er (.s16 .g1) (Y.as rfl .g2 (Y.nil ?_))))))))
 refine Y.g (Y.seq (Y.seq (Y.region (Y.mv rfl .z (Y.ql rfl (cU rfl (.t .z) .c) (Y.nt ?_))))))
 refine Y.ad (.t .z) (fun eb=> ?_) (fun eb=> ?_)
 refine Y.seq (Y.region (Y.ql rfl (qW rfl bI (.t (.s16 .g11)) .g1 aW) (Y.mv rfl .g3 ?_)))
 refine Y.cl rfl rfl Tryz.func172 rfl rfl (aX (.t .g1) (.t .z)) .n (fun _ _ hs tr=>hU (aM f (tr.ctx aa) (tr.ctx ab)) _) ?_
 rintro _ _ ⟨fg,fh,fi,fj,rfl,rfl⟩
 refine Y.m (.c (.c (.c (.c .n)))) ?_
 refine Y.h (WS.a .z) ?_
 rintro⟨ec,ed,rfl,cd,ce,cf⟩
 refine Y.h (WS.a .g1) ?_
 rintro⟨ee,ef,rfl,cg,ch,ci⟩
 refine Y.h (WS.a .g2) ?_
 rintro⟨eg,eh,rfl,cj,ck,cm⟩
 refine Y.h (WS.a .g3) ?_
 rintro⟨ei,ej,rfl,cn,co,cp⟩
 refine Y.es (aD rfl) rfl (esW rfl (.t (.s16 .g13)) (.t .z) .g4 bG rfl rfl) ?_
 refine Y.nt (Y.ret (Y.r ?_))
 refine Y.i (dD rfl (.s16 .g13) dS .z bG) (.c .g1 (.c .g1 (.c .g1 (.c .g1 .n)))) ?_
 exact⟨(⟨0,((aT f q).2.2),0,[],[],(⟨f.inodes,f.data⟩:DFs)⟩:eJ),(by first | exact hj | assumption | exact xS hj (by omega)),_,_,_,_,rfl,rfl⟩
 refine Y.skip (Y.g (Y.seq (Y.region (Y.ql rfl (qW rfl bI (.t (.s16 .g11)) .g1 aW) ?_))))
 refine Y.cl rfl rfl Tryz.func67 rfl rfl (bT (.t .z)) .n (fun _ _ hs tr=>vJ (aM f (tr.ctx aa) (tr.ctx ab))) ?_
 rintro _ _ ⟨fk,fl,rfl,rfl⟩
 refine Y.m (.c (.c .n)) ?_
 refine Y.h (WS.a .z) ?_
 rintro⟨ek,em,rfl,cq,cr,ct⟩
 refine Y.h (WS.a .g1) ?_
 rintro⟨en,eo,rfl,cu,cv,cw⟩
 refine Y.el rfl (bL rfl nF rfl rfl) ?_
 rintro _ _ ⟨g58,rfl,rfl⟩
 refine Y.es (aD rfl) rfl (esW rfl (.t .z) (.t .g1) .z aW rfl rfl) ?_
 refine Y.nt (Y.seq (Y.seq (Y.region (Y.mv rfl .g7 (Y.mv rfl .g7 (Y.mv rfl (.s16 .g9) ?_))))))
 have fm:=kJ ht (aT f q).1
 refine Y.cl rfl rfl Tryz.func78 rfl rfl (oT (.t .g3) (.t .g2) (.t .g1) (.t .z)) (.c .z (.c .z (.c .z .n))) (fun _ _ hs tr=>aGs (f:=f) _ _ (by first | assumption | omega) _ hs (by assumption) (by first | assumption |(constructor <;> omega)) (by first | omega | assumption)) ?_
 rintro _ _ ⟨fn,fo,rfl,rfl⟩
 refine Y.m (.c (.c (.c .n))) ?_
 refine Y.h (WS.a .g1) ?_
 rintro⟨a7,a8,rfl,cx,cy,cz⟩
 refine Y.h (WS.a .g2) ?_
 rintro⟨a9,ba,rfl,c0,c1,c2⟩
 refine Y.as rfl .z (Y.nt (Y.seq (Y.region (Y.mv rfl .z (Y.ql rfl (cU rfl (.t .z) .c) (Y.nt ?_))))))
 refine Y.ad (.t .z) (fun ep=> ?_) (fun ep=> ?_)
 refine Y.seq (Y.region (Y.ql rfl (qW rfl bI (.t (.s16 (.s16 .g5))) .g4 aW) (Y.mv rfl .g3 ?_)))
 refine Y.cl rfl rfl Tryz.func172 rfl rfl (aX (.t .g1) (.t .z)) .n (fun _ _ hs tr=>hU (aM f (tr.ctx aa) (tr.ctx ab)) _) ?_
 rintro _ _ ⟨fp,fq,fr,ft,rfl,rfl⟩
 refine Y.m (.c (.c (.c (.c .n)))) ?_
 refine Y.h (WS.a .z) ?_
 rintro⟨et,eu,rfl,c3,c4,c5⟩
 refine Y.h (WS.a .g1) ?_
 rintro⟨ew,ey,rfl,c6,c7,c8⟩
 refine Y.h (WS.a .g2) ?_
 rintro⟨ez,e0,rfl,c9,da,db⟩
 refine Y.h (WS.a .g3) ?_
 rintro⟨e1,e2,rfl,dc,dd,dg⟩
 refine Y.es (aD rfl) rfl (esW rfl (.t (.s16 (.s16 .g7))) (.t .z) .g7 bG rfl rfl) ?_
 refine Y.nt (Y.ret (Y.r ?_))
 refine Y.i (dD rfl (.s16 (.s16 .g7)) dS .z bG) (.c .g1 (.c .g1 (.c .g1 (.c .g1 .n)))) ?_
 exact⟨(⟨0,(mL f ((aT f q).1) ((aT f q).2.1) ((dA f p).1)),0,[],[],(⟨f.inodes,f.data⟩:DFs)⟩:eJ),(by first | exact hj | assumption | exact xS hj (by omega)),_,_,_,_,rfl,rfl⟩
 refine Y.skip (Y.g (Y.seq (Y.region (Y.ql rfl (qW rfl bI (.t .g7) .z aW) (Y.ql rfl (aZ (cs:= [.int .i64 0,.int .i64 0,.int .i64 0,.slice none 0 0,.slice none 0 0,.slice a7 ((iL f ((aT f q).1) ((aT f q).2.1) ((dA f p).1)).inodes).length a8,.slice a9 ((iL f ((aT f q).1) ((aT f q).2.1) ((dA f p).1)).data).length ba]) rfl mO (pv1 (.t .z)) rfl) ?_)))))
 refine Y.es (aD rfl) rfl (esW rfl (.t (.s16 (.s16 .g6))) (.t .z) .g3 bG rfl rfl) ?_
 refine Y.nt (Y.ret ?_)
 refine Y.add (c:=aG cX [] [.slice none 0 0]) (fun w S=>aN w S none) ?_
 refine Y.add (c:=aG fB [] [.slice none 0 0]) (fun w S=>aN w S none) ?_
 refine Y.i (dD rfl (.s16 (.s16 .g6)) dS .g2 bG) (.c .g1 (.c .z (.c .g2 (.c .g2 .n)))) ?_
 exact⟨(⟨0,0,0,[],[],(⟨(iL f ((aT f q).1) ((aT f q).2.1) ((dA f p).1)).inodes,(iL f ((aT f q).1) ((aT f q).2.1) ((dA f p).1)).data⟩:DFs)⟩:eJ),(by first | exact hj | assumption | exact xS hj (by omega)),_,_,_,_,rfl,rfl⟩

theorem aJ4 {w0:World}{S0:Bs}{f:DFs}{e1:List Value} (h0:eU.ro w0 (FF w0 S0) f e1) {c:oW}{e2:List Value} (h1:vK.ro w0 (FF w0 S0) c e2) (hj:Jf f):
    Calls Tryz.prog 157 #[.agg e1.toArray,.agg e2.toArray] w0 (aJ w0 S0 (fun r l=>∃x:eJ,Jf x.fs∧sA x r l)):=by
 obtain⟨iq,ir,rfl,aa,ab⟩:=cY h0
 obtain⟨a3,a4,rfl,e3,e4,e5,a5⟩:=aH aa
 obtain⟨a6,a7,rfl,e7,e8,e9,fb⟩:=aH ab
 obtain⟨it,rfl,cc,iu,iv⟩:=sK h1
 obtain⟨a8,a9,rfl,fc,fd,fe,ff⟩:=aH cc
 have ht:J0 f:=hj.toJ0
 have ko:=hj.n.2
 have kp:=hj.n.1
 refine Y.enter (N:=87) Tryz.func157 rfl rfl (by simp) [(0,.agg #[.slice a3 f.inodes.length a4,.slice a6 f.data.length a7]),(1,.agg #[.int .i64 c.kind,.string c.path,.string c.to,.int .i64 c.frm,.int .i64 c.size,.slice a8 c.data.length a9])] (by simp) (l0:= []) trivial ?_
 refine Y.seq (Y.region ?_)
 refine Y.el rfl (fT (cs:= [.slice a3 f.inodes.length a4,.slice a6 f.data.length a7]) (n:=2) rfl (.t .z) rfl rfl) ?_
 rintro _ _ ⟨g4,rfl,rfl⟩
 refine Y.el rfl (fT (cs:= [.int .i64 c.kind,.string c.path,.string c.to,.int .i64 c.frm,.int .i64 c.size,.slice a8 c.data.length a9]) (n:=6) rfl (.t .g2) rfl rfl) ?_
 rintro _ _ ⟨g5,rfl,rfl⟩
 refine Y.el rfl (bL rfl tP rfl rfl) ?_
 rintro _ _ ⟨g6,rfl,rfl⟩
 refine Y.nt (Y.seq (Y.region (Y.fa rfl .g1 nB (Y.ld rfl iR .z .g1 ?_))))
 refine Y.cl rfl rfl Tryz.func171 rfl rfl (aX (.t .g4) (.t .z)) .n (fun _ _ hs tr=>yP (tr.ptr .g2 (aM f (tr.ctx aa) (tr.ctx ab))) _ (by first | assumption | omega) (by assumption)) ?_
 rintro _ _ ⟨rfl,rfl⟩
 refine Y.m .n ?_
 have fg:=nR (f:=f) (s:=c.path)
 have fh:=lN ht c.path
 refine Y.mv rfl .z (Y.ql rfl (cC (v:= .int .i64 ((aT f c.path).1)) rfl (.t .z) rfl) (Y.ql rfl (cC (v:= .string ((aT f c.path).2.1)) rfl (.t .g1) rfl) (Y.ql rfl (cC (v:= .int .i64 ((aT f c.path).2.2)) rfl (.t .g2) rfl) (Y.as rfl .g2 (Y.as rfl .g2 (Y.as rfl .g2 (Y.nt ?_)))))))
 refine Y.seq (Y.seq (Y.region (Y.mv rfl .z (Y.ql rfl (cU rfl (.t .z) .c) (Y.nt ?_)))))
 refine Y.ad (.t .z) (fun b9=> ?_) (fun b9=> ?_)
 refine Y.seq (Y.region (Y.ql rfl (qW rfl bI (.t .g14) .g2 aW) (Y.mv rfl .g3 ?_)))
 refine Y.cl rfl rfl Tryz.func172 rfl rfl (aX (.t .g1) (.t .z)) .n (fun _ _ hs tr=>hU (aM f (tr.ctx aa) (tr.ctx ab)) _) ?_
 rintro _ _ ⟨kq,kr,ks,kt,rfl,rfl⟩
 refine Y.m (.c (.c (.c (.c .n)))) ?_
 refine Y.h (WS.a .z) ?_
 rintro⟨iw,ix,rfl,fi,fj,fk⟩
 refine Y.h (WS.a .g1) ?_
 rintro⟨iy,iz,rfl,fl,fm,fn⟩
 refine Y.h (WS.a .g2) ?_
 rintro⟨i0,i1,rfl,fo,fp,fq⟩
 refine Y.h (WS.a .g3) ?_
 rintro⟨i2,i3,rfl,fr,ft,fu⟩
 refine Y.es (aD rfl) rfl (esW rfl (.t .g15) (.t .z) .g4 bG rfl rfl) ?_
 refine Y.nt (Y.ret (Y.r ?_))
 refine Y.i (dD rfl .g15 dS .z bG) (.c .g1 (.c .g1 (.c .g1 (.c .g1 .n)))) ?_
 exact⟨(⟨0,((aT f c.path).2.2),0,[],[],(⟨f.inodes,f.data⟩:DFs)⟩:eJ),(by first | exact hj | assumption | exact jH hj _ _),_,_,_,_,rfl,rfl⟩
 refine Y.skip (Y.g (Y.seq (Y.region (Y.fa rfl .g14 aO (Y.ld rfl bK .z .g2 (Y.mv rfl .g6 ?_))))))
 obtain⟨i4,ar,ag⟩:=a5 (by omega)
 subst ar
 obtain⟨ao,ah⟩:=aI (xs:=f.inodes) (j:=Int.toNat ((aT f c.path).1)) (by first | omega |(simp <;> omega))
 obtain⟨fv,ba,ap,aq⟩:=ag.elem ah
 obtain⟨cd,ce,rfl,au,ai⟩:=cK ba
 obtain⟨cf,cg,rfl,bu,bv,bw,bx⟩:=aH au
 obtain⟨ch,ci,rfl,bz,b0,b1,al⟩:=aH ai
 have i5:=cH (i:=((aT f c.path).1)) ah (by omega)
 have av:=cI (a:=((aT f c.path).1)) ah (by omega)
 have i6:=dC (a:=((aT f c.path).1)) ah (by omega)
 have bb:=ht.get ah
 refine Y.ql rfl (aC (j:=Int.toNat ((aT f c.path).1)) rfl cE aU (.t .g1) (.t .z) (by omega) (by first | omega |(simp <;> omega))) ?_
 refine Y.fa rfl .z bE (Y.le rfl dP .z ap aq (Y.mv rfl .g9 ?_))
 refine Y.cl rfl rfl Tryz.func127 rfl rfl (aX (.t .g1) (.t .z)) .n (fun _ _ hs tr=>rJ (tr.ctx ai) _ (by first | assumption | omega)) ?_
 rintro _ _ ⟨rfl,rfl⟩
 refine Y.m .n ?_
 refine Y.as rfl .z (Y.nt (Y.seq (Y.seq (Y.region (Y.mv rfl .z (Y.ql rfl (dJ rfl (.t .z) .c) (Y.nil ?_)))))))
 refine Y.g ?_
 refine Y.u (.t .z) (fun i7=> ?_) (fun i7=> ?_)
 have fw:=gN (cA ((aT f c.path).2.1)) ao.ents
 refine Y.seq (Y.region (Y.ql rfl (qW rfl bI (.t (.s16 .g9)) .g2 aW) ?_))
 refine Y.cl rfl rfl Tryz.func172 rfl rfl (aX (.t .z) .c) .n (fun _ _ hs tr=>hU (aM f (tr.ctx aa) (tr.ctx ab)) _) ?_
 rintro _ _ ⟨ku,kv,kw,kx,rfl,rfl⟩
 refine Y.m (.c (.c (.c (.c .n)))) ?_
 refine Y.h (WS.a .z) ?_
 rintro⟨i8,i9,rfl,fx,fy,fz⟩
 refine Y.h (WS.a .g1) ?_
 rintro⟨ja,jb,rfl,f0,f1,f2⟩
 refine Y.h (WS.a .g2) ?_
 rintro⟨jc,jd,rfl,f3,f4,f5⟩
 refine Y.h (WS.a .g3) ?_
 rintro⟨je,jf,rfl,f6,f7,f8⟩
 refine Y.es (aD rfl) rfl (esW rfl (.t (.s16 .g9)) (.t .z) .g4 bG rfl rfl) ?_
 refine Y.nt (Y.ret (Y.r ?_))
 refine Y.i (dD rfl (.s16 .g9) dS .z bG) (.c .g1 (.c .g1 (.c .g1 (.c .g1 .n)))) ?_
 exact⟨(⟨0,4,0,[],[],(⟨f.inodes,f.data⟩:DFs)⟩:eJ),(by first | exact hj | assumption | exact jH hj _ _),_,_,_,_,rfl,rfl⟩
 have f9:=gN (cA ((aT f c.path).2.1)) ao.ents
 refine Y.skip (Y.g (Y.seq ?_))
 refine Y.dr .z 13 gG ?_
 refine Y.sc (qs 0 13++ [(13,false)]) (by kernel_rfl) ?_
 refine Y.df rfl rfl .z (.s16 .g9) aO (Y.dl rfl rfl .z bK .z .g2 (Y.df rfl rfl .z (.s16 .g11) aO (Y.dl rfl rfl .z bK .z .g2 (Y.dm rfl rfl .z (.s16 .g3) ?_))))
 refine Y.dk rfl rfl .z (aC (j:=Int.toNat ((aT f c.path).1)) rfl cE aU (.t .g1) (.t .z) (by omega) (by first | omega |(simp <;> omega))) ?_
 refine Y.df rfl rfl .z .z bE (Y.de rfl rfl .z dP .z ap aq (Y.dm rfl rfl .z .g10 ?_))
 obtain⟨jg,aw,ax⟩:=al (by omega)
 subst aw
 obtain⟨bc,bd⟩:=aI (xs:=ao.ents) (j:=Int.toNat (eS (cA ((aT f c.path).2.1)) ao.ents)) (by first | omega |(simp <;> omega))
 obtain⟨ga,be,bf,bg⟩:=ax.elem bd
 obtain⟨rfl,cj⟩:=eR be
 have gb:=rZ bb _ _ bd
 refine Y.dk rfl rfl .z (aC (j:=Int.toNat (eS (cA ((aT f c.path).2.1)) ao.ents)) rfl cZ dV (.t .g1) (.t .z) (by omega) (by first | omega |(simp <;> omega))) ?_
 refine Y.df rfl rfl .z .z iX (Y.de rfl rfl .z cF .z bf bg ?_)
 obtain⟨ky,aj⟩:=aI (xs:=f.inodes) (j:=Int.toNat bc.ino) (by first | omega |(simp <;> omega))
 obtain⟨gc,bh,ac,ad⟩:=ag.elem aj
 obtain⟨ck,cm,rfl,ay,az⟩:=cK bh
 obtain⟨cn,co,rfl,b2,b3,b4,b5⟩:=aH ay
 obtain⟨cp,cq,rfl,b6,b7,b8,ca⟩:=aH az
 have jh:=cH (i:=bc.ino) aj (by omega)
 have ji:=cI (a:=bc.ino) aj (by omega)
 have jj:=dC (a:=bc.ino) aj (by omega)
 have gd:=ht.get aj
 refine Y.dk rfl rfl .z (aC (j:=Int.toNat bc.ino) rfl cE aU (.t .g10) (.t .z) (by omega) (by first | omega |(simp <;> omega))) ?_
 refine Y.q (aE rfl rfl) rfl (by decide) rfl (aA rfl (.t .z)) ?_
 refine Y.sl rfl ?_
 refine Y.aa ?_
 refine Y.ag (by kernel_rfl) ?_
 refine Y.g (Y.seq (Y.seq (Y.region (Y.fa rfl (.s16 (.s16 .g6)) pX (Y.ld rfl cF .z .g1 (Y.ql rfl (bZ rfl (.t .z) .c) (Y.mv rfl .z ?_)))))))
 refine Y.al .z (fun g49=> ?_) (fun g49=> ?_)
 refine Y.qg rfl rfl .z rfl rfl rfl (aV rfl (.t .g4)) ?_
 refine Y.qg rfl rfl .g1 rfl rfl rfl (eB rfl (.t .z)) ?_
 refine Y.qg rfl rfl .g2 rfl rfl rfl (aK rfl (.t .z) (fun _=>cV _ _)) ?_
 refine Y.qg rfl rfl .g3 rfl rfl rfl (aL rfl cF (.t .z) (WS.el ac ad rfl)) ?_
 refine Y.qg rfl rfl .g4 rfl rfl rfl (bZ rfl (.t .z) .c) ?_
 refine Y.ql rfl (bO rfl (.t .g5) (.t .z)) (Y.nt ?_)
 refine Y.u (.t .z) (fun jk=> ?_) (fun jk=> ?_)
 refine Y.seq (Y.region (Y.ql rfl (qW rfl bI (.t (.s16 (.s16 (.s16 .g1)))) .g2 aW) ?_))
 refine Y.cl rfl rfl Tryz.func172 rfl rfl (aX (.t .z) .c) .n (fun _ _ hs tr=>hU (aM f (tr.ctx aa) (tr.ctx ab)) _) ?_
 rintro _ _ ⟨kz,k0,k1,k2,rfl,rfl⟩
 refine Y.m (.c (.c (.c (.c .n)))) ?_
 refine Y.h (WS.a .z) ?_
 rintro⟨jl,jm,rfl,ge,gf,gg⟩
 refine Y.h (WS.a .g1) ?_
 rintro⟨jn,jo,rfl,gh,gi,gj⟩
 refine Y.h (WS.a .g2) ?_
 rintro⟨jp,jq,rfl,gk,gl,gm⟩
 refine Y.h (WS.a .g3) ?_
 rintro⟨jr,js,rfl,gn,go,gp⟩
 refine Y.es (aD rfl) rfl (esW rfl (.t (.s16 (.s16 (.s16 .g1)))) (.t .z) .g4 bG rfl rfl) ?_
 refine Y.nt (Y.ret (Y.r ?_))
 refine Y.i (dD rfl (.s16 (.s16 (.s16 .g1))) dS .z bG) (.c .g1 (.c .g1 (.c .g1 (.c .g1 .n)))) ?_
 exact⟨(⟨0,9,0,[],[],(⟨f.inodes,f.data⟩:DFs)⟩:eJ),(by first | exact hj | assumption | exact jH hj _ _),_,_,_,_,rfl,rfl⟩
 refine Y.skip (Y.g (Y.seq (Y.seq (Y.region (Y.fa rfl (.s16 (.s16 .g16)) pX (Y.ld rfl cF .z .g1 (Y.ql rfl (bZ rfl (.t .z) .c) (Y.mv rfl .z ?_))))))))
 refine Y.al .z (fun g63=> ?_) (fun g63=> ?_)
 exfalso;first | omega | contradiction
 refine Y.j rfl rfl .z rfl rfl (by decide) rfl ?_
 refine Y.j rfl rfl .g1 rfl rfl (by decide) rfl ?_
 refine Y.j rfl rfl .g2 rfl rfl (by decide) rfl ?_
 refine Y.j rfl rfl .g3 rfl rfl (by decide) rfl ?_
 refine Y.j rfl rfl .g4 rfl rfl (by decide) rfl ?_
 refine Y.ql rfl (bW rfl (.t .g5) .c) (Y.nt ?_)
 refine Y.ar (.t .z) ?_
 refine Y.skip (Y.g (Y.seq (Y.seq (Y.region (Y.mv rfl (.s16 .g4) (Y.nc rfl .z (Y.fa rfl .z bE (Y.le rfl dP .z ac ad ?_))))))))
 refine Y.ql rfl (bM rfl cZ (.t .z)) (Y.ql rfl (gO rfl (.t .z) .c) (Y.nt ?_))
 refine Y.u (.t .z) (fun jt=> ?_) (fun jt=> ?_)
 refine Y.seq (Y.region (Y.ql rfl (qW rfl bI (.t (.s16 (.s16 (.s16 (.s16 .g1))))) .g2 aW) ?_))
 refine Y.cl rfl rfl Tryz.func172 rfl rfl (aX (.t .z) .c) .n (fun _ _ hs tr=>hU (aM f (tr.ctx aa) (tr.ctx ab)) _) ?_
 rintro _ _ ⟨k3,k4,k5,k6,rfl,rfl⟩
 refine Y.m (.c (.c (.c (.c .n)))) ?_
 refine Y.h (WS.a .z) ?_
 rintro⟨ju,jv,rfl,gq,gr,gs⟩
 refine Y.h (WS.a .g1) ?_
 rintro⟨jw,jx,rfl,gt,gu,gv⟩
 refine Y.h (WS.a .g2) ?_
 rintro⟨jy,jz,rfl,gw,gx,gy⟩
 refine Y.h (WS.a .g3) ?_
 rintro⟨j0,j1,rfl,gz,g0,ha⟩
 refine Y.es (aD rfl) rfl (esW rfl (.t (.s16 (.s16 (.s16 (.s16 .g1))))) (.t .z) .g4 bG rfl rfl) ?_
 refine Y.nt (Y.ret (Y.r ?_))
 refine Y.i (dD rfl (.s16 (.s16 (.s16 (.s16 .g1)))) dS .z bG) (.c .g1 (.c .g1 (.c .g1 (.c .g1 .n)))) ?_
 exact⟨(⟨0,8,0,[],[],(⟨f.inodes,f.data⟩:DFs)⟩:eJ),(by first | exact hj | assumption | exact jH hj _ _),_,_,_,_,rfl,rfl⟩
 refine Y.skip (Y.g (Y.seq (Y.region (Y.ql rfl (qW rfl bI (.t (.s16 (.s16 (.s16 (.s16 .g1))))) .g2 aW) ?_))))
 refine Y.cl rfl rfl Tryz.func67 rfl rfl (bT (.t .z)) .n (fun _ _ hs tr=>vJ (aM f (tr.ctx aa) (tr.ctx ab))) ?_
 rintro _ _ ⟨k7,k8,rfl,rfl⟩
 refine Y.m (.c (.c .n)) ?_
 refine Y.h (WS.a .z) ?_
 rintro⟨j2,j3,rfl,hb,hc,hd⟩
 refine Y.h (WS.a .g1) ?_
 rintro⟨j4,j5,rfl,he,hf,hg⟩
 refine Y.el rfl (bL rfl nF rfl rfl) ?_
 rintro _ _ ⟨g83,rfl,rfl⟩
 refine Y.es (aD rfl) rfl (esW rfl (.t .z) (.t .g1) .z aW rfl rfl) ?_
 refine Y.nt (Y.seq (Y.region (Y.mv rfl (.s16 (.s16 (.s16 .g10))) (Y.mv rfl (.s16 (.s16 .g14)) ?_))))
 obtain⟨ak,bi,a0, -⟩:=kN (show¬eS (cA ((aT f c.path).2.1)) ao.ents= -1 by omega)
 refine Y.eq .z (congrArg (Value.int .i64) bi) ?_
 have cb:ak<(aB f.inodes (aT f c.path).1).length:=by rw [av];exact a0
 refine Y.cl rfl rfl Tryz.func175 rfl rfl (dX (.t .g2) (.t .g1) (.t .z)) (.c .z (.c .z (.c .z .n))) (fun _ _ hs tr=>aB2 (f:=f) _ _ hs (by assumption) (by first | assumption |(constructor <;> omega)) (by first | omega | assumption)) ?_
 rintro _ _ ⟨k9,la,rfl,rfl⟩
 refine Y.m (.c (.c (.c .n))) ?_
 refine Y.h (WS.a .g1) ?_
 rintro⟨cr,ct,rfl,hh,hi,hk⟩
 refine Y.h (WS.a .g2) ?_
 rintro⟨cu,cv,rfl,hl,hm,hn⟩
 refine Y.nt (Y.seq (Y.region (Y.ql rfl (qW rfl bI (.t .g3) .z aW) (Y.ql rfl (aZ (cs:= [.int .i64 0,.int .i64 0,.int .i64 0,.slice none 0 0,.slice none 0 0,.slice cr ((jF f ((aT f c.path).1) ak).inodes).length ct,.slice cu ((jF f ((aT f c.path).1) ak).data).length cv]) rfl mO (pv1 (.t .z)) rfl) ?_))))
 refine Y.es (aD rfl) rfl (esW rfl (.t (.s16 (.s16 (.s16 (.s16 .g7))))) (.t .z) .g3 bG rfl rfl) ?_
 refine Y.nt (Y.ret ?_)
 refine Y.add (c:=aG cX [] [.slice none 0 0]) (fun w S=>aN w S none) ?_
 refine Y.add (c:=aG fB [] [.slice none 0 0]) (fun w S=>aN w S none) ?_
 refine Y.i (dD rfl (.s16 (.s16 (.s16 (.s16 .g7)))) dS .g2 bG) (.c .g1 (.c .z (.c .g2 (.c .g2 .n)))) ?_
 exact⟨(⟨0,0,0,[],[],(⟨(jF f ((aT f c.path).1) ak).inodes,(jF f ((aT f c.path).1) ak).data⟩:DFs)⟩:eJ),(by first | exact hj | assumption | exact jH hj _ _),_,_,_,_,rfl,rfl⟩
 refine Y.j rfl rfl .z rfl rfl (by decide) rfl ?_
 refine Y.j rfl rfl .g1 rfl rfl (by decide) rfl ?_
 refine Y.j rfl rfl .g2 rfl rfl (by decide) rfl ?_
 refine Y.j rfl rfl .g3 rfl rfl (by decide) rfl ?_
 refine Y.j rfl rfl .g4 rfl rfl (by decide) rfl ?_
 refine Y.ql rfl (bW rfl (.t .g5) .c) (Y.nt ?_)
 refine Y.ar (.t .z) ?_
 refine Y.skip (Y.g (Y.seq (Y.seq (Y.region (Y.fa rfl (.s16 (.s16 .g16)) pX (Y.ld rfl cF .z .g1 (Y.ql rfl (bZ rfl (.t .z) .c) (Y.mv rfl .z ?_))))))))
 refine Y.al .z (fun g93=> ?_) (fun g93=> ?_)
 refine Y.qg rfl rfl .z rfl rfl rfl (aV rfl (.t .g14)) ?_
 refine Y.qg rfl rfl .g1 rfl rfl rfl (eB rfl (.t .z)) ?_
 refine Y.qg rfl rfl .g2 rfl rfl rfl (aK rfl (.t .z) (fun _=>cV _ _)) ?_
 refine Y.qg rfl rfl .g3 rfl rfl rfl (aL rfl cF (.t .z) (WS.el ac ad rfl)) ?_
 refine Y.qg rfl rfl .g4 rfl rfl rfl (cU rfl (.t .z) .c) ?_
 refine Y.ql rfl (bO rfl (.t .g5) (.t .z)) (Y.nt ?_)
 refine Y.ad (.t .z) (fun j6=> ?_) (fun j6=> ?_)
 refine Y.seq (Y.region (Y.ql rfl (qW rfl bI (.t (.s16 (.s16 (.s16 .g11)))) .g2 aW) ?_))
 refine Y.cl rfl rfl Tryz.func172 rfl rfl (aX (.t .z) .c) .n (fun _ _ hs tr=>hU (aM f (tr.ctx aa) (tr.ctx ab)) _) ?_
 rintro _ _ ⟨lc,lf,lg,j7,rfl,rfl⟩
 refine Y.m (.c (.c (.c (.c .n)))) ?_
 refine Y.h (WS.a .z) ?_
 rintro⟨ho,hp,rfl,cw,cx,cy⟩
 refine Y.h (WS.a .g1) ?_
 rintro⟨hq,hr,rfl,cz,c0,c1⟩
 refine Y.h (WS.a .g2) ?_
 rintro⟨hu,hv,rfl,c2,c3,c4⟩
 refine Y.h (WS.a .g3) ?_
 rintro⟨hw,hx,rfl,c5,c6,c7⟩
 refine Y.es (aD rfl) rfl (esW rfl (.t (.s16 (.s16 (.s16 .g11)))) (.t .z) .g4 bG rfl rfl) ?_
 refine Y.nt (Y.ret (Y.r ?_))
 refine Y.i (dD rfl (.s16 (.s16 (.s16 .g11))) dS .z bG) (.c .g1 (.c .g1 (.c .g1 (.c .g1 .n)))) ?_
 exact⟨(⟨0,1,0,[],[],(⟨f.inodes,f.data⟩:DFs)⟩:eJ),(by first | exact hj | assumption | exact jH hj _ _),_,_,_,_,rfl,rfl⟩
 refine Y.skip (Y.g (Y.seq (Y.seq (Y.region (Y.mv rfl (.s16 .g4) (Y.nc rfl .z (Y.fa rfl .z bE (Y.le rfl dP .z ac ad ?_))))))))
 refine Y.ql rfl (bM rfl cZ (.t .z)) (Y.ql rfl (gO rfl (.t .z) .c) (Y.nt ?_))
 refine Y.u (.t .z) (fun c8=> ?_) (fun c8=> ?_)
 refine Y.seq (Y.region (Y.ql rfl (qW rfl bI (.t (.s16 (.s16 (.s16 (.s16 .g1))))) .g2 aW) ?_))
 refine Y.cl rfl rfl Tryz.func172 rfl rfl (aX (.t .z) .c) .n (fun _ _ hs tr=>hU (aM f (tr.ctx aa) (tr.ctx ab)) _) ?_
 rintro _ _ ⟨j8,j9,ka,kb,rfl,rfl⟩
 refine Y.m (.c (.c (.c (.c .n)))) ?_
 refine Y.h (WS.a .z) ?_
 rintro⟨hy,hz,rfl,c9,da,db⟩
 refine Y.h (WS.a .g1) ?_
 rintro⟨h2,h3,rfl,dc,dd,dg⟩
 refine Y.h (WS.a .g2) ?_
 rintro⟨h4,h5,rfl,dh,di,dj⟩
 refine Y.h (WS.a .g3) ?_
 rintro⟨h6,h7,rfl,dp,ds,dt⟩
 refine Y.es (aD rfl) rfl (esW rfl (.t (.s16 (.s16 (.s16 (.s16 .g1))))) (.t .z) .g4 bG rfl rfl) ?_
 refine Y.nt (Y.ret (Y.r ?_))
 refine Y.i (dD rfl (.s16 (.s16 (.s16 (.s16 .g1)))) dS .z bG) (.c .g1 (.c .g1 (.c .g1 (.c .g1 .n)))) ?_
 exact⟨(⟨0,8,0,[],[],(⟨f.inodes,f.data⟩:DFs)⟩:eJ),(by first | exact hj | assumption | exact jH hj _ _),_,_,_,_,rfl,rfl⟩
 refine Y.skip (Y.g (Y.seq (Y.region (Y.ql rfl (qW rfl bI (.t (.s16 (.s16 (.s16 (.s16 .g1))))) .g2 aW) ?_))))
 refine Y.cl rfl rfl Tryz.func67 rfl rfl (bT (.t .z)) .n (fun _ _ hs tr=>vJ (aM f (tr.ctx aa) (tr.ctx ab))) ?_
 rintro _ _ ⟨kc,kd,rfl,rfl⟩
 refine Y.m (.c (.c .n)) ?_
 refine Y.h (WS.a .z) ?_
 rintro⟨h8,h9,rfl,du,dv,dw⟩
 refine Y.h (WS.a .g1) ?_
 rintro⟨ia,ib,rfl,dx,dy,dz⟩
 refine Y.el rfl (bL rfl nF rfl rfl) ?_
 rintro _ _ ⟨g126,rfl,rfl⟩
 refine Y.es (aD rfl) rfl (esW rfl (.t .z) (.t .g1) .z aW rfl rfl) ?_
 refine Y.nt (Y.seq (Y.region (Y.mv rfl (.s16 (.s16 (.s16 .g10))) (Y.mv rfl (.s16 (.s16 .g14)) ?_))))
 obtain⟨ae,a1,am, -⟩:=kN (show¬eS (cA ((aT f c.path).2.1)) ao.ents= -1 by omega)
 refine Y.eq .z (congrArg (Value.int .i64) a1) ?_
 have bj:ae<(aB f.inodes (aT f c.path).1).length:=by rw [av];exact am
 refine Y.cl rfl rfl Tryz.func175 rfl rfl (dX (.t .g2) (.t .g1) (.t .z)) (.c .z (.c .z (.c .z .n))) (fun _ _ hs tr=>aB2 (f:=f) _ _ hs (by assumption) (by first | assumption |(constructor <;> omega)) (by first | omega | assumption)) ?_
 rintro _ _ ⟨ke,kf,rfl,rfl⟩
 refine Y.m (.c (.c (.c .n))) ?_
 refine Y.h (WS.a .g1) ?_
 rintro⟨bk,bm,rfl,d0,d1,d2⟩
 refine Y.h (WS.a .g2) ?_
 rintro⟨bn,bo,rfl,d3,d4,d5⟩
 refine Y.nt (Y.seq (Y.region (Y.ql rfl (qW rfl bI (.t .g3) .z aW) (Y.ql rfl (aZ (cs:= [.int .i64 0,.int .i64 0,.int .i64 0,.slice none 0 0,.slice none 0 0,.slice bk ((jF f ((aT f c.path).1) ae).inodes).length bm,.slice bn ((jF f ((aT f c.path).1) ae).data).length bo]) rfl mO (pv1 (.t .z)) rfl) ?_))))
 refine Y.es (aD rfl) rfl (esW rfl (.t (.s16 (.s16 (.s16 (.s16 .g7))))) (.t .z) .g3 bG rfl rfl) ?_
 refine Y.nt (Y.ret ?_)
 refine Y.add (c:=aG cX [] [.slice none 0 0]) (fun w S=>aN w S none) ?_
 refine Y.add (c:=aG fB [] [.slice none 0 0]) (fun w S=>aN w S none) ?_
 refine Y.i (dD rfl (.s16 (.s16 (.s16 (.s16 .g7)))) dS .g2 bG) (.c .g1 (.c .z (.c .g2 (.c .g2 .n)))) ?_
 exact⟨(⟨0,0,0,[],[],(⟨(jF f ((aT f c.path).1) ae).inodes,(jF f ((aT f c.path).1) ae).data⟩:DFs)⟩:eJ),(by first | exact hj | assumption | exact jH hj _ _),_,_,_,_,rfl,rfl⟩
 refine Y.j rfl rfl .z rfl rfl (by decide) rfl ?_
 refine Y.j rfl rfl .g1 rfl rfl (by decide) rfl ?_
 refine Y.j rfl rfl .g2 rfl rfl (by decide) rfl ?_
 refine Y.j rfl rfl .g3 rfl rfl (by decide) rfl ?_
 refine Y.j rfl rfl .g4 rfl rfl (by decide) rfl ?_
 refine Y.ql rfl (bW rfl (.t .g5) .c) (Y.nt ?_)
 refine Y.ar (.t .z) ?_
 refine Y.skip (Y.g (Y.seq (Y.seq (Y.region (Y.mv rfl (.s16 .g4) (Y.nc rfl .z (Y.fa rfl .z bE (Y.le rfl dP .z ac ad ?_))))))))
 refine Y.ql rfl (bM rfl cZ (.t .z)) (Y.ql rfl (gO rfl (.t .z) .c) (Y.nt ?_))
 refine Y.u (.t .z) (fun d6=> ?_) (fun d6=> ?_)
 refine Y.seq (Y.region (Y.ql rfl (qW rfl bI (.t (.s16 (.s16 (.s16 (.s16 .g1))))) .g2 aW) ?_))
 refine Y.cl rfl rfl Tryz.func172 rfl rfl (aX (.t .z) .c) .n (fun _ _ hs tr=>hU (aM f (tr.ctx aa) (tr.ctx ab)) _) ?_
 rintro _ _ ⟨kg,kh,ki,kj,rfl,rfl⟩
 refine Y.m (.c (.c (.c (.c .n)))) ?_
 refine Y.h (WS.a .z) ?_
 rintro⟨ic,id,rfl,d7,d8,d9⟩
 refine Y.h (WS.a .g1) ?_
 rintro⟨ie,ig,rfl,ea,eb,ec⟩
 refine Y.h (WS.a .g2) ?_
 rintro⟨ih,ii,rfl,ed,ee,ef⟩
 refine Y.h (WS.a .g3) ?_
 rintro⟨ij,ik,rfl,eg,eh,ei⟩
 refine Y.es (aD rfl) rfl (esW rfl (.t (.s16 (.s16 (.s16 (.s16 .g1))))) (.t .z) .g4 bG rfl rfl) ?_
 refine Y.nt (Y.ret (Y.r ?_))
 refine Y.i (dD rfl (.s16 (.s16 (.s16 (.s16 .g1)))) dS .z bG) (.c .g1 (.c .g1 (.c .g1 (.c .g1 .n)))) ?_
 exact⟨(⟨0,8,0,[],[],(⟨f.inodes,f.data⟩:DFs)⟩:eJ),(by first | exact hj | assumption | exact jH hj _ _),_,_,_,_,rfl,rfl⟩
 refine Y.skip (Y.g (Y.seq (Y.region (Y.ql rfl (qW rfl bI (.t (.s16 (.s16 (.s16 (.s16 .g1))))) .g2 aW) ?_))))
 refine Y.cl rfl rfl Tryz.func67 rfl rfl (bT (.t .z)) .n (fun _ _ hs tr=>vJ (aM f (tr.ctx aa) (tr.ctx ab))) ?_
 rintro _ _ ⟨kk,kl,rfl,rfl⟩
 refine Y.m (.c (.c .n)) ?_
 refine Y.h (WS.a .z) ?_
 rintro⟨il,im,rfl,ej,ek,em⟩
 refine Y.h (WS.a .g1) ?_
 rintro⟨io,ip,rfl,en,eo,ep⟩
 refine Y.el rfl (bL rfl nF rfl rfl) ?_
 rintro _ _ ⟨g155,rfl,rfl⟩
 refine Y.es (aD rfl) rfl (esW rfl (.t .z) (.t .g1) .z aW rfl rfl) ?_
 refine Y.nt (Y.seq (Y.region (Y.mv rfl (.s16 (.s16 (.s16 .g10))) (Y.mv rfl (.s16 (.s16 .g14)) ?_))))
 obtain⟨af,a2,an, -⟩:=kN (show¬eS (cA ((aT f c.path).2.1)) ao.ents= -1 by omega)
 refine Y.eq .z (congrArg (Value.int .i64) a2) ?_
 have bp:af<(aB f.inodes (aT f c.path).1).length:=by rw [av];exact an
 refine Y.cl rfl rfl Tryz.func175 rfl rfl (dX (.t .g2) (.t .g1) (.t .z)) (.c .z (.c .z (.c .z .n))) (fun _ _ hs tr=>aB2 (f:=f) _ _ hs (by assumption) (by first | assumption |(constructor <;> omega)) (by first | omega | assumption)) ?_
 rintro _ _ ⟨km,kn,rfl,rfl⟩
 refine Y.m (.c (.c (.c .n))) ?_
 refine Y.h (WS.a .g1) ?_
 rintro⟨bq,br,rfl,et,eu,ew⟩
 refine Y.h (WS.a .g2) ?_
 rintro⟨bs,bt,rfl,ey,ez,e0⟩
 refine Y.nt (Y.seq (Y.region (Y.ql rfl (qW rfl bI (.t .g3) .z aW) (Y.ql rfl (aZ (cs:= [.int .i64 0,.int .i64 0,.int .i64 0,.slice none 0 0,.slice none 0 0,.slice bq ((jF f ((aT f c.path).1) af).inodes).length br,.slice bs ((jF f ((aT f c.path).1) af).data).length bt]) rfl mO (pv1 (.t .z)) rfl) ?_))))
 refine Y.es (aD rfl) rfl (esW rfl (.t (.s16 (.s16 (.s16 (.s16 .g7))))) (.t .z) .g3 bG rfl rfl) ?_
 refine Y.nt (Y.ret ?_)
 refine Y.add (c:=aG cX [] [.slice none 0 0]) (fun w S=>aN w S none) ?_
 refine Y.add (c:=aG fB [] [.slice none 0 0]) (fun w S=>aN w S none) ?_
 refine Y.i (dD rfl (.s16 (.s16 (.s16 (.s16 .g7)))) dS .g2 bG) (.c .g1 (.c .z (.c .g2 (.c .g2 .n)))) ?_
 exact⟨(⟨0,0,0,[],[],(⟨(jF f ((aT f c.path).1) af).inodes,(jF f ((aT f c.path).1) af).data⟩:DFs)⟩:eJ),(by first | exact hj | assumption | exact jH hj _ _),_,_,_,_,rfl,rfl⟩

theorem aM9 {w0:World}{S0:Bs}{f:DFs}{aq:List Value} (h0:eU.ro w0 (FF w0 S0) f aq) {c:oW}{ar:List Value} (h1:vK.ro w0 (FF w0 S0) c ar) (hj:Jf f):
    Calls Tryz.prog 160 #[.agg aq.toArray,.agg ar.toArray] w0 (aJ w0 S0 (fun r l=>∃x:eJ,Jf x.fs∧sA x r l)):=by
 obtain⟨ci,cj,rfl,aa,ab⟩:=cY h0
 obtain⟨ac,ad,rfl,au,av,aw,ax⟩:=aH aa
 obtain⟨ae,af,rfl,ay,az,a0,a1⟩:=aH ab
 obtain⟨ck,rfl,ai,cm,cn⟩:=sK h1
 obtain⟨ag,ah,rfl,a2,a3,a4,a5⟩:=aH ai
 have ht:J0 f:=hj.toJ0
 have dh:=hj.n.2
 have di:=hj.n.1
 refine Y.enter (N:=59) Tryz.func160 rfl rfl (by simp) [(0,.agg #[.slice ac f.inodes.length ad,.slice ae f.data.length af]),(1,.agg #[.int .i64 c.kind,.string c.path,.string c.to,.int .i64 c.frm,.int .i64 c.size,.slice ag c.data.length ah])] (by simp) (l0:= []) trivial ?_
 refine Y.seq (Y.region ?_)
 refine Y.el rfl (fT (cs:= [.slice ac f.inodes.length ad,.slice ae f.data.length af]) (n:=2) rfl (.t .z) rfl rfl) ?_
 rintro _ _ ⟨g4,rfl,rfl⟩
 refine Y.el rfl (fT (cs:= [.int .i64 c.kind,.string c.path,.string c.to,.int .i64 c.frm,.int .i64 c.size,.slice ag c.data.length ah]) (n:=6) rfl (.t .g2) rfl rfl) ?_
 rintro _ _ ⟨g5,rfl,rfl⟩
 refine Y.el rfl (bL rfl tP rfl rfl) ?_
 rintro _ _ ⟨g6,rfl,rfl⟩
 refine Y.nt (Y.seq (Y.seq (Y.region (Y.fa rfl .g1 pX (Y.ld rfl cF .z .g1 (Y.ql rfl (bZ rfl (.t .z) .c) (Y.nil ?_)))))))
 refine Y.g ?_
 refine Y.u (.t .z) (fun b7=> ?_) (fun b7=> ?_)
 refine Y.seq (Y.region (Y.ql rfl (qW rfl bI (.t .g5) .g2 aW) (Y.fa rfl .g5 nB (Y.ld rfl iR .z .g1 ?_))))
 refine Y.cl rfl rfl Tryz.func179 rfl rfl (aX (.t .g2) (.t .z)) .n (fun _ _ hs tr=>aLg (aM f (tr.ctx aa) (tr.ctx ab)) _ (by first | assumption | omega)) ?_
 rintro _ _ ⟨rfl,rfl⟩
 refine Y.m .n ?_
 refine Y.el rfl (bL rfl aJu rfl rfl) ?_
 rintro _ _ ⟨g8,rfl,rfl⟩
 refine Y.es (aD rfl) rfl (esW rfl (.t .z) (.t .g1) .z qD rfl rfl) ?_
 refine Y.nt (Y.seq (Y.region (Y.ql rfl (qW rfl bI (.t .g10) .g3 aW) (Y.fa rfl .g1 aGe (Y.ld rfl cF .z .z ?_)))))
 obtain⟨⟨hsa,hsb⟩,⟨hsc,hsd⟩,hse,hsf⟩:=aF7 ht c.path
 refine Y.cl rfl rfl Tryz.func172 rfl rfl (aX (.t .g2) (.t .z)) .n (fun _ _ hs tr=>hU (aM f (tr.ctx aa) (tr.ctx ab)) _) ?_
 rintro _ _ ⟨v9,dj,dp,ds,rfl,rfl⟩
 refine Y.m (.c (.c (.c (.c .n)))) ?_
 refine Y.h (WS.a .z) ?_
 rintro⟨co,cp,rfl,a6,a7,a8⟩
 refine Y.h (WS.a .g1) ?_
 rintro⟨cq,cr,rfl,a9,ba,bb⟩
 refine Y.h (WS.a .g2) ?_
 rintro⟨ct,cu,rfl,bc,bd,be⟩
 refine Y.h (WS.a .g3) ?_
 rintro⟨cv,cw,rfl,bf,bg,bh⟩
 refine Y.el rfl (bL rfl tP rfl rfl) ?_
 rintro _ _ ⟨g21,rfl,rfl⟩
 refine Y.es (aD rfl) rfl (esW rfl (.t .z) (.t .g1) .z bG rfl rfl) ?_
 refine Y.nt (Y.seq (Y.region (Y.fa rfl .g5 aG9 (Y.ld rfl cF .z .g5 ?_))))
 refine Y.ql rfl (sU (c:=((kA f c.path).kind) * 1000) rfl (.t .z) .c (wr (by omega) (by omega) (by omega))) ?_
 refine Y.fa rfl .g8 aIb (Y.ld rfl cF .z .g5 ?_)
 refine Y.ql rfl (sU (c:=((kA f c.path).links) * 100) rfl (.t .z) .c (wr (by omega) (by omega) (by omega))) ?_
 refine Y.ql rfl (bQ (c:=(((kA f c.path).kind) * 1000)+(((kA f c.path).links) * 100)) rfl (.t .g3) (.t .z) (wr (by omega) (by omega) (by omega))) ?_
 refine Y.fa rfl .g12 aH8 (Y.ld rfl cF .z .g5 ?_)
 refine Y.ql rfl (bQ (c:=((((kA f c.path).kind) * 1000)+(((kA f c.path).links) * 100))+((kA f c.path).size)) rfl (.t .g2) (.t .z) (wr (by omega) (by omega) (by omega))) ?_
 refine Y.fa rfl .g10 aG6 ?_
 refine Y.es (aD rfl) rfl (es1 (off:=2) rfl jQ (.t .z) (.t .g1) rfl rfl .z rfl .g2) ?_
 refine Y.nt (Y.seq (Y.region (Y.ql rfl (qW rfl dS (.t .g11) .z bG) ?_)))
 refine Y.es (aD rfl) rfl (esW rfl (.t (.s16 .g9)) (.t .z) .g6 bG rfl rfl) ?_
 refine Y.nt (Y.ret (Y.r ?_))
 refine Y.i (dD rfl (.s16 .g9) dS .z bG) (.c .g2 (.c .g2 (.c .g2 (.c .g2 .n)))) ?_
 exact⟨(⟨0,((kA f c.path).code),((((kA f c.path).kind) * 1000)+(((kA f c.path).links) * 100))+((kA f c.path).size),[],[],(⟨f.inodes,f.data⟩:DFs)⟩:eJ),(by first | exact hj | assumption),_,_,_,_,rfl,rfl⟩
 refine Y.skip (Y.g (Y.seq (Y.region (Y.fa rfl .g4 nB (Y.ld rfl iR .z .g1 ?_)))))
 refine Y.cl rfl rfl Tryz.func174 rfl rfl (aX (.t .g7) (.t .z)) .n (fun _ _ hs tr=>aC4 (tr.ptr .g2 (aM f (tr.ctx aa) (tr.ctx ab))) _ (by first | assumption | omega) (by assumption)) ?_
 rintro _ _ ⟨rfl,rfl⟩
 refine Y.m .n ?_
 have aj:=qH ht c.path
 refine Y.mv rfl .z (Y.ql rfl (cC (v:= .int .i64 ((dA f c.path).1)) rfl (.t .z) rfl) (Y.ql rfl (cC (v:= .int .i64 ((dA f c.path).2)) rfl (.t .g1) rfl) (Y.as rfl .g1 (Y.as rfl .g1 (Y.nt (Y.seq (Y.seq ?_)))))))
 refine Y.region (Y.mv rfl .z (Y.ql rfl (cU rfl (.t .z) .c) (Y.nt ?_)))
 refine Y.ad (.t .z) (fun cx=> ?_) (fun cx=> ?_)
 refine Y.seq (Y.region (Y.ql rfl (qW rfl bI (.t .g15) .g2 aW) (Y.mv rfl .g3 ?_)))
 obtain⟨⟨hsa,hsb⟩,⟨hsc,hsd⟩,hse,hsf⟩:=aF7 ht c.path
 refine Y.cl rfl rfl Tryz.func172 rfl rfl (aX (.t .g1) (.t .z)) .n (fun _ _ hs tr=>hU (aM f (tr.ctx aa) (tr.ctx ab)) _) ?_
 rintro _ _ ⟨dt,du,dv,dw,rfl,rfl⟩
 refine Y.m (.c (.c (.c (.c .n)))) ?_
 refine Y.h (WS.a .z) ?_
 rintro⟨cy,cz,rfl,bi,bj,bk⟩
 refine Y.h (WS.a .g1) ?_
 rintro⟨c0,c1,rfl,bm,bn,bo⟩
 refine Y.h (WS.a .g2) ?_
 rintro⟨c2,c3,rfl,bp,bq,br⟩
 refine Y.h (WS.a .g3) ?_
 rintro⟨c4,c5,rfl,bs,bt,bu⟩
 refine Y.es (aD rfl) rfl (esW rfl (.t .g16) (.t .z) .g4 bG rfl rfl) ?_
 refine Y.nt (Y.ret (Y.r ?_))
 refine Y.i (dD rfl .g16 dS .z bG) (.c .g1 (.c .g1 (.c .g1 (.c .g1 .n)))) ?_
 exact⟨(⟨0,((dA f c.path).2),0,[],[],(⟨f.inodes,f.data⟩:DFs)⟩:eJ),(by first | exact hj | assumption),_,_,_,_,rfl,rfl⟩
 refine Y.skip (Y.g (Y.seq (Y.region (Y.ql rfl (qW rfl bI (.t .g15) .g2 aW) (Y.mv rfl .g4 ?_)))))
 refine Y.cl rfl rfl Tryz.func180 rfl rfl (aX (.t .g1) (.t .z)) .n (fun _ _ hs tr=>aM1 (aM f (tr.ctx aa) (tr.ctx ab)) _) ?_
 rintro _ _ ⟨dx,rfl,rfl⟩
 refine Y.m (.c .n) ?_
 refine Y.h (WS.a .z) ?_
 rintro⟨ak,al,rfl,bv,bw,bx⟩
 refine Y.el rfl (bL rfl aHo rfl rfl) ?_
 rintro _ _ ⟨g39,rfl,rfl⟩
 refine Y.es (aD rfl) rfl (esW rfl (.t .z) (.t .g1) .z qU rfl rfl) ?_
 refine Y.nt (Y.seq (Y.seq (Y.region (Y.fa rfl .z aEx (Y.ld rfl cF .z .z (Y.ql rfl (cU rfl (.t .z) .c) (Y.nil ?_)))))))
 refine Y.g ?_
 refine Y.ad (.t .z) (fun c6=> ?_) (fun c6=> ?_)
 refine Y.seq (Y.region (Y.ql rfl (qW rfl bI (.t (.s16 .g6)) .g4 aW) (Y.fa rfl .g4 aEx (Y.ld rfl cF .z .z ?_))))
 obtain⟨⟨hsa,hsb⟩,⟨hsc,hsd⟩,hse,hsf⟩:=aF7 ht c.path
 refine Y.cl rfl rfl Tryz.func172 rfl rfl (aX (.t .g2) (.t .z)) .n (fun _ _ hs tr=>hU (aM f (tr.ctx aa) (tr.ctx ab)) _) ?_
 rintro _ _ ⟨dy,dz,d0,d1,rfl,rfl⟩
 refine Y.m (.c (.c (.c (.c .n)))) ?_
 refine Y.h (WS.a .z) ?_
 rintro⟨c7,c8,rfl,bz,b0,b1⟩
 refine Y.h (WS.a .g1) ?_
 rintro⟨c9,da,rfl,b2,b3,b4⟩
 refine Y.h (WS.a .g2) ?_
 rintro⟨db,dc,rfl,b5,b6,b8⟩
 refine Y.h (WS.a .g3) ?_
 rintro⟨dd,dg,rfl,b9,ca,cb⟩
 refine Y.es (aD rfl) rfl (esW rfl (.t (.s16 .g8)) (.t .z) .g6 bG rfl rfl) ?_
 refine Y.nt (Y.ret (Y.r ?_))
 refine Y.i (dD rfl (.s16 .g8) dS .z bG) (.c .g1 (.c .g1 (.c .g1 (.c .g1 .n)))) ?_
 exact⟨(⟨0,((gT f ((dA f c.path).1)).code),0,[],[],(⟨f.inodes,f.data⟩:DFs)⟩:eJ),(by first | exact hj | assumption),_,_,_,_,rfl,rfl⟩
 refine Y.skip (Y.g (Y.seq ?_))
 refine Y.sel (.c .g1 (.c .z (.c .z (.c .z (.c .z .n))))) ?_
 refine Y.dr .g1 5 gG ?_
 refine Y.sc (qs 0 3++ [(3,false),(4,true),(5,false)]) (by kernel_rfl) ?_
 refine Y.df rfl rfl .g1 .g3 oN (Y.dl rfl rfl .g1 xV .z .z (Y.dk rfl rfl .g1 (qW rfl bI (.t (.s16 .g8)) .g3 aW) ?_))
 refine Y.call (aE rfl rfl) rfl (by decide) rfl (bS rfl Tryz.func67 rfl rfl (bT (.t .z))) .n (fun _ _ hs tr=>vJ (aM f (tr.ctx aa) (tr.ctx ab))) ?_
 rintro _ _ ⟨d2,d3,rfl,rfl⟩
 refine Y.m (.c (.c .n)) ?_
 refine Y.h (WS.a .z) ?_
 rintro⟨am,an,rfl,cc,cd,ce⟩
 refine Y.h (WS.a .g1) ?_
 rintro⟨ao,ap,rfl,cf,cg,ch⟩
 refine Y.sk .g3 ?_
 refine Y.dk rfl rfl .g3 (aZ (cs:= [.int .i64 0,.int .i64 0,.int .i64 0,.slice none 0 0,.slice ak ((gT f ((dA f c.path).1)).names).length al,.slice am f.inodes.length an,.slice ao f.data.length ap]) rfl mO (pv2 (.t .g2) (.t .z)) rfl) ?_
 refine Y.es (aE rfl rfl) rfl (esW rfl (.t (.s16 .g9)) (.t .z) .g4 bG rfl rfl) ?_
 refine Y.sl rfl ?_
 refine Y.aa ?_
 refine Y.ag (by kernel_rfl) ?_
 refine Y.g (Y.ret ?_)
 refine Y.add (c:=aG cX [] [.slice none 0 0]) (fun w S=>aN w S none) ?_
 refine Y.i (dD rfl (.s16 .g9) dS .g1 bG) (.c .z (.c .g3 (.c .g1 (.c .g1 .n)))) ?_
 exact⟨(⟨0,0,0,[],(gT f ((dA f c.path).1)).names,(⟨f.inodes,f.data⟩:DFs)⟩:eJ),(by first | exact hj | assumption),_,_,_,_,rfl,rfl⟩

end Go.Proofs.YtmejbfmhaoilmaaGreat

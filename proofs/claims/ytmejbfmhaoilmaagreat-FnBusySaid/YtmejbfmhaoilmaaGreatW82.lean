/- What is proved: contracts of functions, one a function. No condition. -/
import Derived.Test.YtmejbfmhaoilmaaGreatBase1
import Derived.Test.YtmejbfmhaoilmaaGreatW80
import Derived.Test.YtmejbfmhaoilmaaGreatW81
import Derived.Test.YtmejbfmhaoilmaaGreatW35
namespace Go.Proofs.YtmejbfmhaoilmaaGreat
open Go Go.RowKit
set_option linter.unusedVariables false
set_option linter.unusedSimpArgs false
set_option maxHeartbeats 1000000
set_option maxRecDepth 20000
theorem aBs {w0:World}{S0:Bs}{f:DFs}{g0 e0 s0:Nat}{ad:List Value}{af:Value}{ag:Value} (a:Int) (i:Nat) (hs:cJ [bZ g0 e0 s0 1 (af :: ag :: ad),aG aW f.inodes [af],aG cV f.data [ag]] w0 S0) (hj:Jf f) (hp:bY f.inodes.length a) (hi:i<(aH f.inodes a).length):
    Calls Tryz.prog 175 #[.pointer (some ⟨g0,0,none⟩),.int .i64 a,.int .i64 (i:Int)] w0 (aI w0 S0 (aDj g0 e0 s0 ad (iZ f a i))):=by
 have ht:J0 f:=hj.toJ0
 have bm:=hj.n.2
 have bn:=hj.n.1
 obtain⟨bo,bp⟩:=hp
 refine Y.enter (N:=30) Tryz.func175 rfl rfl (by simp) [(0,.pointer (some ⟨g0,0,none⟩)),(1,.int .i64 a),(2,.int .i64 (i:Int))] (by simp) hs ?_
 refine Y.i (WS.a .g1) ?_
 rintro⟨bq,br,rfl,a2,a3,a4⟩
 refine Y.i (WS.a .g2) ?_
 rintro⟨bs,bt,rfl,a5,a6,a7⟩
 refine Y.seq (Y.region (Y.mv rfl .z (Y.mv rfl .g2 (Y.mv rfl .g4 ?_))))
 refine Y.cl rfl rfl Tryz.func178 rfl rfl (eQ (.t .g2) (.t .g1) (.t .z)) (.c .z (.c .z (.c .z .n))) (fun _ _ hs tr=>aHf (f:=f) _ _ hs (by first | assumption |(constructor <;> omega)) (by omega)) ?_
 rintro _ _ ⟨v3,v5,rfl,rfl⟩
 refine Y.r (.c (.c (.c .n))) ?_
 refine Y.i (WS.a .g1) ?_
 rintro⟨bu,bv,rfl,a8,a9,ba⟩
 refine Y.i (WS.a .g2) ?_
 rintro⟨bw,bx,rfl,bb,bc,bd⟩
 refine Y.as rfl .z (Y.nt (Y.seq (Y.region (Y.mv rfl .g5 (Y.mv rfl .g1 ?_)))))
 have hkp:=pP ht hi
 have hlp:vH (dH f a (List.eraseIdx (aH f.inodes a) i)) (eV (aH f.inodes a) i):=aE9 (vR hj) (by show bY (gU _ _ _).length _;rw [dF];exact hkp)
 have hLl:(iG (dH f a (List.eraseIdx (aH f.inodes a) i)) (eV (aH f.inodes a) i)).inodes.length=f.inodes.length:=vY.trans dF
 obtain⟨bz,b0⟩:=hkp
 refine Y.cl rfl rfl Tryz.func197 rfl rfl (aR (.t .g1) (.t .z)) (.c .z (.c .z (.c .z .n))) (fun _ _ hs tr=>aKs (f:=(dH f a (List.eraseIdx (aH (f).inodes a) i))) _ hs hlp) ?_
 rintro _ _ ⟨v9,b1,rfl,rfl⟩
 refine Y.r (.c (.c (.c .n))) ?_
 refine Y.i (WS.a .g1) ?_
 rintro⟨be,ah,rfl,ao,ap,aq⟩
 refine Y.i (WS.a .g2) ?_
 rintro⟨bf,bg,rfl,ar,au,av⟩
 refine Y.nt (Y.seq (Y.region (Y.mv rfl .g8 (Y.nc rfl .z (Y.fa rfl .z aP (Y.ld rfl bO .z .z (Y.mv rfl .g7 ?_)))))))
 refine Y.ab (.c .g1 .n) fN ?_
 rintro ai aa
 obtain⟨ae,ab⟩:=aJ (xs:=(iG (dH f a (List.eraseIdx (aH (f).inodes a) i)) (eV (aH (f).inodes a) i)).inodes) (j:=Int.toNat (eV (aH (f).inodes a) i)) (by first | omega |(simp <;> omega))
 obtain⟨b2,ac⟩:=aJ (xs:=ai) (j:=Int.toNat (eV (aH (f).inodes a) i)) (by rw [aa];exact(List.getElem?_eq_some_iff.1 ab).1)
 refine Y.aq .g1 (eD ab ac) ?_
 refine Y.ab (.c .z .n) eZ ?_
 rintro⟨b3,b4⟩ rfl
 refine Y.i (WS.a .z) ?_
 rintro⟨ak,al,rfl,aw,ax,ay⟩
 refine Y.i (WS.a .g1) ?_
 rintro⟨am,an,rfl,az,a0,a1⟩
 have bh:=cZ (i:=(eV (aH (f).inodes a) i)) ab (by omega)
 have bi:=dD (a:=(eV (aH (f).inodes a) i)) ab (by omega)
 have bj:=dZ (a:=(eV (aH (f).inodes a) i)) ab (by omega)
 refine Y.i (WS.h .g4 (by first | omega |(simp <;> omega) |(simp only [List.length_append,List.length_cons,List.length_nil,List.length_set] at *;omega))) ?_
 rintro⟨aj,rfl⟩
 refine Y.ql rfl (aB (j:=Int.toNat (eV (aH (f).inodes a) i)) rfl cI aU (.t .g1) (.t .z) (by omega) (by first | omega |(simp <;> omega))) ?_
 refine Y.fa rfl .z bW (Y.ql rfl (aN rfl bR (.t .z) (WS.j .g4 ac rfl)) (Y.ql rfl (bP rfl (.t .z) .c) (Y.nt ?_)))
 refine Y.u (.t .z) (fun bk=> ?_) (fun bk=> ?_)
 refine Y.region (Y.mv rfl (.s16 .g1) (Y.nc rfl .z (Y.fa rfl .z aP (Y.ld rfl bO .z .g5 (Y.mv rfl .g16 (Y.ql rfl (aZ (cs:= [.int .i64 0,.int .i64 0,.int .i64 0,.slice none 0 0,.slice none 0 0]) rfl qJ pv0 rfl) ?_))))))
 refine Y.ql rfl (aB (j:=Int.toNat (eV (aH (f).inodes a) i)) rfl cI aU (.t .g2) (.t .g1) (by omega) (by first | omega |(simp <;> omega))) ?_
 refine Y.es (aE rfl) rfl (jZ (j:=Int.toNat (eV (aH (f).inodes a) i)) (off:=0) (cs:= [.int .i64 0,.int .i64 0,.int .i64 0,.slice none 0 0,.slice none 0 0]) rfl aU (.t .z) rfl (.t .g1) rfl (nJ rfl) .g4 ac (Nat.le_of_ble_eq_true rfl)) ?_
 refine Y.af (x':=List.set ai (Int.toNat (eV (aH (f).inodes a) i)) [.int .i64 0,.int .i64 0,.int .i64 0,.slice none 0 0,.slice none 0 0]) .z rfl ?_
 refine Y.nil ?_
 refine Y.add (c:=aG aY [] [.slice none 0 0]) (fun w S=>aK w S none) ?_
 refine Y.add (c:=aG dL [] [.slice none 0 0]) (fun w S=>aK w S none) ?_
 refine Y.ac (c:=aG cA (⟨0,0,0,[],[]⟩:aF) [.int .i64 0,.int .i64 0,.int .i64 0,.slice none 0 0,.slice none 0 0]) (.c .g1 (.c .z .n)) (fun w S h=>cP (⟨0,0,0,[],[]⟩:aF) h) ?_
 refine Y.ac (c:=aG aW (List.set ((iG (dH f a (List.eraseIdx (aH (f).inodes a) i)) (eV (aH (f).inodes a) i)).inodes) (Int.toNat (eV (aH (f).inodes a) i)) (⟨0,0,0,[],[]⟩:aF)) [.slice (some aj) ((iG (dH f a (List.eraseIdx (aH (f).inodes a) i)) (eV (aH (f).inodes a) i)).inodes).length ah]) (.c .g1 (.c .z (.c .g2 (.c .g2 .n)))) (eU (K:=cA) aa (List.getElem?_eq_some_iff.1 ab).1 rfl) ?_
 refine Y.ay (zD rfl) (.c .g3 (.c .z (.c .g2 .n))) ?_
 exact⟨_,_,rfl,by first |(rw [aDf (by omega)];done) |(rw [aDa (by omega)];done)⟩
 refine Y.skip ?_
 refine Y.ac (c:=aG cA ae [.int .i64 ae.kind,.int .i64 ae.links,.int .i64 ae.size,.slice ak ae.blocks.length al,.slice am ae.ents.length an]) (.c .z (.c .z .n)) (fun w S h=>cP ae h) ?_
 refine Y.ac (c:=aG aW ((iG (dH f a (List.eraseIdx (aH (f).inodes a) i)) (eV (aH (f).inodes a) i)).inodes) [.slice (some aj) ((iG (dH f a (List.eraseIdx (aH (f).inodes a) i)) (eV (aH (f).inodes a) i)).inodes).length ah]) (.c .g3 (.c .z (.c .z (.c .z .n)))) (eH (K:=cA) aa ab ac) ?_
 refine Y.ay (zD rfl) (.c .g1 (.c .z (.c .z .n))) ?_
 exact⟨_,_,rfl,by first |(rw [aDf (by omega)];done) |(rw [aDa (by omega)];done)⟩

theorem aIn {w0:World}{S0:Bs}{f:DFs}{aj:Addr} (h0:gJ eS w0 (FF w0 S0) aj f) (a:Int) (b:Int) (hp:bY f.inodes.length a) (hq:bY f.inodes.length b):
    Calls Tryz.prog 177 #[.pointer (some aj),.int .i64 a,.int .i64 b] w0 (aI w0 S0 (fun r l=>∃c:Int,(c=0→(aH f.inodes b).length=0)∧r= .int .i64 c∧l= [])):=by
 obtain⟨ca,ak,bz,al⟩:=id h0
 obtain⟨b0,b1,rfl,am,an⟩:=cQ bz
 obtain⟨b2,b3,rfl,bc,bd,be,ab⟩:=aD am
 obtain⟨b4,b5,rfl,bf,bg,bh,bi⟩:=aD an
 obtain⟨cb,cc⟩:=hp
 obtain⟨cd,ce⟩:=hq
 refine Y.enter (N:=36) Tryz.func177 rfl rfl (by simp) [(0,.pointer (some aj)),(1,.int .i64 a),(2,.int .i64 b)] (by simp) (l0:= []) trivial ?_
 refine Y.seq (Y.region (Y.ql rfl (aA rfl .c) (Y.nt (Y.seq (Y.seq ?_)))))
 refine Y.dr .z 19 gB ?_
 refine Y.sc (qs 0 19) (by kernel_rfl) ?_
 refine Y.dm rfl rfl .z .g1 (Y.dn rfl rfl .z .z (Y.df rfl rfl .z .z aP (Y.de rfl rfl .z bO .z ak al (Y.dm rfl rfl .z .g6 ?_))))
 obtain⟨cf,ac,aa⟩:=ab (by omega)
 subst ac
 obtain⟨x4,bj⟩:=aJ (xs:=f.inodes) (j:=Int.toNat a) (by omega)
 obtain⟨b6,ao,ap,aq⟩:=aa.elem bj
 obtain⟨bk,bm,rfl,ad,ae⟩:=bV ao
 obtain⟨bn,bo,rfl,ar,au,av,aw⟩:=aD ad
 obtain⟨bp,bq,rfl,ax,ay,az,a0⟩:=aD ae
 have a1:=dD (a:=a) bj (by omega)
 refine Y.dk rfl rfl .z (aB (j:=Int.toNat a) rfl cI aU (.t .g1) (.t .z) (by omega) (by omega)) ?_
 refine Y.df rfl rfl .z .z bW (Y.de rfl rfl .z bR .z ap aq (Y.dk rfl rfl .z (bP rfl (.t .z) .c) (Y.dm rfl rfl .z .g10 (Y.dn rfl rfl .z .z (Y.df rfl rfl .z .z aP (Y.de rfl rfl .z bO .z ak al (Y.dm rfl rfl .z .g16 ?_)))))))
 obtain⟨x8,br⟩:=aJ (xs:=f.inodes) (j:=Int.toNat b) (by omega)
 obtain⟨b7,a2,af,ag⟩:=aa.elem br
 obtain⟨bs,bt,rfl,ah,ai⟩:=bV a2
 obtain⟨bu,bv,rfl,a3,a4,a5,a6⟩:=aD ah
 obtain⟨bw,bx,rfl,a7,a8,a9,ba⟩:=aD ai
 have bb:=dD (a:=b) br (by omega)
 refine Y.dk rfl rfl .z (aB (j:=Int.toNat b) rfl cI aU (.t .g1) (.t .z) (by omega) (by omega)) ?_
 refine Y.df rfl rfl .z .z bW (Y.de rfl rfl .z bR .z af ag (Y.dk rfl rfl .z (bP rfl (.t .z) .c) (Y.dk rfl rfl .z (aJq rfl u_4 (.t .g9) (.t .z)) (Y.aa ?_))))
 refine Y.ai (by kernel_rfl) ?_
 refine Y.g ?_
 refine Y.cond (.t .z) (fun b8=> ?_) (fun b8=> ?_)
 refine Y.seq (Y.region (Y.er (.s16 .g3) (Y.ql rfl (aA rfl .c) (Y.nt (Y.ret (Y.m ?_))))))
 refine Y.j (aT rfl .z) .n ?_
 exact⟨_,(by intro hz;first | exact absurd hz (by decide) |(rw [a1];omega) |(rw [bb];omega)),rfl,rfl⟩
 refine Y.skip (Y.g (Y.seq (Y.seq (Y.region (Y.mv rfl (.s16 .g4) (Y.nc rfl .z (Y.fa rfl .z aP (Y.le rfl bO .z ak al ?_))))))))
 refine Y.mv rfl (.s16 .g10) ?_
 refine Y.ql rfl (aB (j:=Int.toNat b) rfl cI aU (.t .g1) (.t .z) (by omega) (by omega)) ?_
 refine Y.fa rfl .z bM (Y.le rfl eA .z af ag (Y.ql rfl (bE rfl dQ (.t .z)) (Y.ql rfl (gA rfl (.t .z) .c) (Y.nt ?_))))
 refine Y.u (.t .z) (fun b9=> ?_) (fun b9=> ?_)
 refine Y.seq (Y.region (Y.er (.s16 .g13) (Y.ql rfl (aA rfl .c) (Y.nt (Y.ret (Y.m ?_))))))
 refine Y.j (aT rfl .z) .n ?_
 exact⟨_,(by intro hz;first | exact absurd hz (by decide) |(rw [a1];omega) |(rw [bb];omega)),rfl,rfl⟩
 refine Y.skip (Y.g (Y.seq (Y.region (Y.er (.s16 .g13) (Y.ql rfl (aA rfl .c) (Y.nt (Y.ret ?_)))))))
 refine Y.j (aT rfl .z) .n ?_
 exact⟨_,(by intro hz;first | exact absurd hz (by decide) |(rw [a1];omega) |(rw [bb];omega)),rfl,rfl⟩

theorem aI3 {w0:World}{S0:Bs}{f:DFs}{b8:List Value} (h0:eS.ro w0 (FF w0 S0) f b8) (p:ByteArray) (gz:p.size≤140737488351232) (k:Int) (hj:Jf f) (hk:1≤k∧k≤2):
    Calls Tryz.prog 155 #[.agg b8.toArray,.string p,.int .i64 k] w0 (aI w0 S0 (fun r l=>∃x:eB,Jf x.fs∧rI x r l)):=by
 obtain⟨e8,e9,rfl,ab,ac⟩:=cQ h0
 obtain⟨ar,au,rfl,b9,ca,cb,av⟩:=aD ab
 obtain⟨aw,ax,rfl,cc,cd,ce,cf⟩:=aD ac
 have ht:J0 f:=hj.toJ0
 have g0:=hj.n.2
 have ha:=hj.n.1
 have hfr:=aBt f.inodes
 refine Y.enter (N:=77) Tryz.func155 rfl rfl (by simp) [(0,.agg #[.slice ar f.inodes.length au,.slice aw f.data.length ax]),(1,.string p),(2,.int .i64 k)] (by simp) (l0:= []) trivial ?_
 refine Y.seq (Y.region ?_)
 refine Y.el rfl (fR (cs:= [.slice ar f.inodes.length au,.slice aw f.data.length ax]) (n:=2) rfl (.t .z) rfl rfl) ?_
 rintro _ _ ⟨g3,rfl,rfl⟩
 refine Y.el rfl (bD rfl tA rfl rfl) ?_
 rintro _ _ ⟨g4,rfl,rfl⟩
 refine Y.nt (Y.seq (Y.region (Y.mv rfl .g3 ?_)))
 refine Y.cl rfl rfl Tryz.func171 rfl rfl (aR (.t .g2) (.t .z)) .n (fun _ _ hs tr=>wR (tr.ptr .g1 (aM f (tr.ctx ab) (tr.ctx ac))) _ (by first | assumption | omega) (by assumption)) ?_
 rintro _ _ ⟨rfl,rfl⟩
 refine Y.r .n ?_
 have cg:=nM (f:=f) (s:=p)
 have ch:=lS ht p
 refine Y.mv rfl .z (Y.ql rfl (bL (v:= .int .i64 ((aQ f p).1)) rfl (.t .z) rfl) (Y.ql rfl (bL (v:= .string ((aQ f p).2.1)) rfl (.t .g1) rfl) (Y.ql rfl (bL (v:= .int .i64 ((aQ f p).2.2)) rfl (.t .g2) rfl) (Y.as rfl .g2 (Y.as rfl .g2 (Y.as rfl .g2 (Y.nt ?_)))))))
 refine Y.seq (Y.seq (Y.region (Y.mv rfl .z (Y.ql rfl (cC rfl (.t .z) .c) (Y.nt ?_)))))
 refine Y.ad (.t .z) (fun b7=> ?_) (fun b7=> ?_)
 refine Y.seq (Y.region (Y.ql rfl (qW rfl bN (.t .g12) .g1 aX) (Y.mv rfl .g3 ?_)))
 refine Y.cl rfl rfl Tryz.func172 rfl rfl (aR (.t .g1) (.t .z)) .n (fun _ _ hs tr=>gX (aM f (tr.ctx ab) (tr.ctx ac)) _) ?_
 rintro _ _ ⟨v8,hb,hc,hd,rfl,rfl⟩
 refine Y.r (.c (.c (.c (.c .n)))) ?_
 refine Y.i (WS.a .z) ?_
 rintro⟨fb,fc,rfl,ci,cj,ck⟩
 refine Y.i (WS.a .g1) ?_
 rintro⟨fd,fe,rfl,cm,cn,co⟩
 refine Y.i (WS.a .g2) ?_
 rintro⟨ff,fg,rfl,cp,cq,cr⟩
 refine Y.i (WS.a .g3) ?_
 rintro⟨fh,fi,rfl,ct,cu,cv⟩
 refine Y.es (aE rfl) rfl (esW rfl (.t .g14) (.t .z) .g4 bA rfl rfl) ?_
 refine Y.nt (Y.ret (Y.m ?_))
 refine Y.j (dA rfl .g14 dO .z bA) (.c .g1 (.c .g1 (.c .g1 (.c .g1 .n)))) ?_
 exact⟨(⟨0,((aQ f p).2.2),0,[],[],(⟨f.inodes,f.data⟩:DFs)⟩:eB),(by first | exact hj | assumption | exact an),_,_,_,_,rfl,rfl⟩
 refine Y.skip (Y.g (Y.seq (Y.seq (Y.region (Y.fa rfl .g12 aP (Y.ld rfl bO .z .g1 (Y.mv rfl .g6 ?_)))))))
 obtain⟨fj,ao,ap⟩:=av (by omega)
 subst ao
 obtain⟨cw,af⟩:=aJ (xs:=f.inodes) (j:=Int.toNat ((aQ f p).1)) (by first | omega |(simp <;> omega))
 obtain⟨cx,ay,aj,ak⟩:=ap.elem af
 obtain⟨be,bf,rfl,aq,ag⟩:=bV ay
 obtain⟨bg,bh,rfl,a6,a7,a8,a9⟩:=aD aq
 obtain⟨bi,bj,rfl,ba,bb,bc,bd⟩:=aD ag
 have fk:=cZ (i:=((aQ f p).1)) af (by omega)
 have ai:=dD (a:=((aQ f p).1)) af (by omega)
 have fl:=dZ (a:=((aQ f p).1)) af (by omega)
 have cy:=ht.get af
 refine Y.ql rfl (aB (j:=Int.toNat ((aQ f p).1)) rfl cI aU (.t .g1) (.t .z) (by omega) (by first | omega |(simp <;> omega))) ?_
 refine Y.fa rfl .z bM (Y.le rfl eA .z aj ak (Y.mv rfl .g9 ?_))
 refine Y.cl rfl rfl Tryz.func127 rfl rfl (aR (.t .g1) (.t .z)) .n (fun _ _ hs tr=>sD (tr.ctx ag) _ (by first | assumption | omega)) ?_
 rintro _ _ ⟨rfl,rfl⟩
 refine Y.r .n ?_
 refine Y.ql rfl (nE rfl (.t .z) .c) (Y.nt ?_)
 refine Y.u (.t .z) (fun fm=> ?_) (fun fm=> ?_)
 have cz:=gM (dG ((aQ f p).2.1)) cw.ents
 refine Y.seq (Y.region (Y.ql rfl (qW rfl bN (.t (.s16 .g5)) .g1 aX) ?_))
 refine Y.cl rfl rfl Tryz.func172 rfl rfl (aR (.t .z) .c) .n (fun _ _ hs tr=>gX (aM f (tr.ctx ab) (tr.ctx ac)) _) ?_
 rintro _ _ ⟨he,hf,hg,hh,rfl,rfl⟩
 refine Y.r (.c (.c (.c (.c .n)))) ?_
 refine Y.i (WS.a .z) ?_
 rintro⟨fn,fo,rfl,c0,c1,c2⟩
 refine Y.i (WS.a .g1) ?_
 rintro⟨fp,fq,rfl,c3,c4,c5⟩
 refine Y.i (WS.a .g2) ?_
 rintro⟨fr,ft,rfl,c6,c7,c8⟩
 refine Y.i (WS.a .g3) ?_
 rintro⟨fu,fv,rfl,c9,da,db⟩
 refine Y.es (aE rfl) rfl (esW rfl (.t (.s16 .g6)) (.t .z) .g4 bA rfl rfl) ?_
 refine Y.nt (Y.ret (Y.m ?_))
 refine Y.j (dA rfl (.s16 .g6) dO .z bA) (.c .g1 (.c .g1 (.c .g1 (.c .g1 .n)))) ?_
 exact⟨(⟨0,7,0,[],[],(⟨f.inodes,f.data⟩:DFs)⟩:eB),(by first | exact hj | assumption | exact an),_,_,_,_,rfl,rfl⟩
 have dc:=gM (dG ((aQ f p).2.1)) cw.ents
 refine Y.skip (Y.g (Y.seq (Y.seq (Y.region (Y.fa rfl (.s16 .g5) aP (Y.ld rfl bO .z .g1 (Y.mv rfl .g15 ?_)))))))
 refine Y.ql rfl (aB (j:=Int.toNat ((aQ f p).1)) rfl cI aU (.t .g1) (.t .z) (by omega) (by first | omega |(simp <;> omega))) ?_
 refine Y.fa rfl .z bM (Y.le rfl eA .z aj ak (Y.ql rfl (bE rfl dQ (.t .z)) (Y.ql rfl (nE rfl (.t .z) .c) (Y.nt ?_))))
 refine Y.u (.t .z) (fun fw=> ?_) (fun fw=> ?_)
 refine Y.seq (Y.region (Y.ql rfl (qW rfl bN (.t (.s16 .g13)) .g1 aX) ?_))
 refine Y.cl rfl rfl Tryz.func172 rfl rfl (aR (.t .z) .c) .n (fun _ _ hs tr=>gX (aM f (tr.ctx ab) (tr.ctx ac)) _) ?_
 rintro _ _ ⟨hi,hl,hm,hn,rfl,rfl⟩
 refine Y.r (.c (.c (.c (.c .n)))) ?_
 refine Y.i (WS.a .z) ?_
 rintro⟨fx,fy,rfl,dd,dg,dh⟩
 refine Y.i (WS.a .g1) ?_
 rintro⟨fz,f0,rfl,di,dj,dp⟩
 refine Y.i (WS.a .g2) ?_
 rintro⟨f1,f2,rfl,ds,dt,du⟩
 refine Y.i (WS.a .g3) ?_
 rintro⟨f3,f4,rfl,dv,dw,dx⟩
 refine Y.es (aE rfl) rfl (esW rfl (.t (.s16 .g14)) (.t .z) .g4 bA rfl rfl) ?_
 refine Y.nt (Y.ret (Y.m ?_))
 refine Y.j (dA rfl (.s16 .g14) dO .z bA) (.c .g1 (.c .g1 (.c .g1 (.c .g1 .n)))) ?_
 exact⟨(⟨0,2,0,[],[],(⟨f.inodes,f.data⟩:DFs)⟩:eB),(by first | exact hj | assumption | exact an),_,_,_,_,rfl,rfl⟩
 refine Y.skip (Y.g (Y.seq (Y.region (Y.fa rfl (.s16 .g13) aP (Y.ld rfl bO .z .g1 ?_)))))
 refine Y.cl rfl rfl Tryz.func173 rfl rfl (bH (.t .z)) .n (fun _ _ hs tr=>aJk (tr.ctx ab) (by assumption)) ?_
 rintro _ _ ⟨rfl,rfl⟩
 refine Y.r .n ?_
 refine Y.as rfl .z (Y.nt (Y.seq (Y.seq (Y.region (Y.mv rfl .z (Y.ql rfl (cU rfl (.t .z) .c) (Y.nil ?_)))))))
 refine Y.g ?_
 refine Y.u (.t .z) (fun f5=> ?_) (fun f5=> ?_)
 refine Y.seq (Y.region (Y.ql rfl (qW rfl bN (.t (.s16 (.s16 .g3))) .g1 aX) ?_))
 refine Y.cl rfl rfl Tryz.func172 rfl rfl (aR (.t .z) .c) .n (fun _ _ hs tr=>gX (aM f (tr.ctx ab) (tr.ctx ac)) _) ?_
 rintro _ _ ⟨ho,hp,hq,hr,rfl,rfl⟩
 refine Y.r (.c (.c (.c (.c .n)))) ?_
 refine Y.i (WS.a .z) ?_
 rintro⟨f6,f7,rfl,dy,dz,d0⟩
 refine Y.i (WS.a .g1) ?_
 rintro⟨f8,f9,rfl,d1,d2,d3⟩
 refine Y.i (WS.a .g2) ?_
 rintro⟨ga,gb,rfl,d4,d5,d6⟩
 refine Y.i (WS.a .g3) ?_
 rintro⟨gc,gd,rfl,d7,d8,d9⟩
 refine Y.es (aE rfl) rfl (esW rfl (.t (.s16 (.s16 .g4))) (.t .z) .g4 bA rfl rfl) ?_
 refine Y.nt (Y.ret (Y.m ?_))
 refine Y.j (dA rfl (.s16 (.s16 .g4)) dO .z bA) (.c .g1 (.c .g1 (.c .g1 (.c .g1 .n)))) ?_
 exact⟨(⟨0,8,0,[],[],(⟨f.inodes,f.data⟩:DFs)⟩:eB),(by first | exact hj | assumption | exact an),_,_,_,_,rfl,rfl⟩
 refine Y.skip (Y.g (Y.seq (Y.region (Y.ql rfl (qW rfl bN (.t (.s16 (.s16 .g3))) .g1 aX) ?_))))
 refine Y.cl rfl rfl Tryz.func67 rfl rfl (bH (.t .z)) .n (fun _ _ hs tr=>uY (aM f (tr.ctx ab) (tr.ctx ac))) ?_
 rintro _ _ ⟨hu,hv,rfl,rfl⟩
 refine Y.r (.c (.c .n)) ?_
 refine Y.i (WS.a .z) ?_
 rintro⟨ge,bk,rfl,ea,eb,ec⟩
 refine Y.i (WS.a .g1) ?_
 rintro⟨gf,gg,rfl,ed,ee,ef⟩
 refine Y.el rfl (bD rfl mQ rfl rfl) ?_
 rintro _ _ ⟨g72,rfl,rfl⟩
 refine Y.es (aE rfl) rfl (esW rfl (.t .z) (.t .g1) .z aX rfl rfl) ?_
 refine Y.nt (Y.seq (Y.seq (Y.region (Y.mv rfl .g5 (Y.fa rfl .g1 aP (Y.ld rfl bO .z .z (Y.ql rfl (bE rfl cI (.t .z)) ?_)))))))
 refine Y.ql rfl (bP rfl (.t .g3) (.t .z)) (Y.nt ?_)
 refine Y.u (.t .z) (fun gh=> ?_) (fun gh=> ?_)
 refine Y.region (Y.fa rfl .g5 aP (Y.ld rfl bO .z .z (Y.ql rfl (aZ (cs:= [.int .i64 0,.int .i64 0,.int .i64 0,.slice none 0 0,.slice none 0 0]) rfl qJ pv0 rfl) ?_)))
 refine Y.el rfl (aO (cs:= [.int .i64 0,.int .i64 0,.int .i64 0,.slice none 0 0,.slice none 0 0]) rfl cI (inz lI) (by decide) (pv1 (.t .z)) rfl rfl (by decide) rfl rfl) ?_
 rintro _ _ ⟨g74,rfl,rfl⟩
 refine Y.add (c:=aG aY [] [.slice none 0 0]) (fun w S=>aK w S none) ?_
 refine Y.add (c:=aG dL [] [.slice none 0 0]) (fun w S=>aK w S none) ?_
 refine Y.ac (c:=aG cA (⟨0,0,0,[],[]⟩:aF) [.int .i64 0,.int .i64 0,.int .i64 0,.slice none 0 0,.slice none 0 0]) (.c .g1 (.c .z .n)) (fun w S h=>cP (⟨0,0,0,[],[]⟩:aF) h) ?_
 refine Y.el rfl (dC rfl cI lI rfl (.t .g2) (.t .z) (.c .g3 (.c .g1 (.c .z .n))) (by first | omega |(simp <;> omega)) (by first | omega |(simp <;> omega))) ?_
 rintro _ _ rfl
 refine Y.i (WS.a .z) ?_
 rintro⟨gi,bm,rfl,eg,eh,ei⟩
 refine Y.fa rfl .g10 aP ?_
 refine Y.es (aE rfl) rfl (es1 (off:=0) rfl aC7 (.t .z) (.t .g1) rfl rfl .g1 rfl .z) ?_
 refine Y.nt (Y.seq (Y.region (Y.fa rfl .g11 aP (Y.ld rfl bO .z .z (Y.mv rfl (.s16 .g2) (Y.mv rfl (.s16 (.s16 (.s16 .g7))) (Y.ql rfl (aZ (cs:= [.int .i64 k,.int .i64 0,.int .i64 0,.slice none 0 0,.slice none 0 0]) rfl qJ (pv1 (.t .z)) rfl) ?_)))))))
 refine Y.ab (.c .g1 .n) fN ?_
 rintro az ah
 obtain⟨hw,ae⟩:=aJ (xs:=f.inodes++ [(⟨0,0,0,[],[]⟩:aF)]) (j:=Int.toNat (cY f.inodes)) (by first | omega |(simp <;> omega))
 obtain⟨hx,a0⟩:=aJ (xs:=az) (j:=Int.toNat (cY f.inodes)) (by rw [ah];exact(List.getElem?_eq_some_iff.1 ae).1)
 refine Y.aq .g1 (eD ae a0) ?_
 refine Y.ab (.c .z .n) eZ ?_
 rintro⟨hy,hz⟩ rfl
 refine Y.i (WS.a .z) ?_
 rintro⟨gj,gk,rfl,ej,ek,em⟩
 refine Y.i (WS.a .g1) ?_
 rintro⟨gl,gm,rfl,en,eo,ep⟩
 have gn:=cZ (i:=(cY f.inodes)) ae (by omega)
 have go:=dD (a:=(cY f.inodes)) ae (by omega)
 have gp:=dZ (a:=(cY f.inodes)) ae (by omega)
 refine Y.i (WS.h .g4 (by first | omega |(simp <;> omega) |(simp only [List.length_append,List.length_cons,List.length_nil,List.length_set] at *;omega))) ?_
 rintro⟨bn,rfl⟩
 refine Y.ql rfl (aB (j:=Int.toNat (cY f.inodes)) rfl cI aU (.t .g3) (.t .g2) (by omega) (by first | omega |(simp <;> omega))) ?_
 refine Y.es (aE rfl) rfl (jZ (j:=Int.toNat (cY f.inodes)) (off:=0) (cs:= [.int .i64 k,.int .i64 0,.int .i64 0,.slice none 0 0,.slice none 0 0]) rfl aU (.t .z) rfl (.t .g1) rfl (nJ rfl) .g4 a0 (Nat.le_of_ble_eq_true rfl)) ?_
 refine Y.af (x':=List.set az (Int.toNat (cY f.inodes)) [.int .i64 k,.int .i64 0,.int .i64 0,.slice none 0 0,.slice none 0 0]) .z rfl ?_
 refine Y.nt (Y.seq (Y.region (Y.mv rfl (.s16 (.s16 .g15)) (Y.mv rfl (.s16 (.s16 .g15)) (Y.mv rfl (.s16 .g8) ?_)))))
 refine Y.add (c:=aG aY [] [.slice none 0 0]) (fun w S=>aK w S none) ?_
 refine Y.add (c:=aG dL [] [.slice none 0 0]) (fun w S=>aK w S none) ?_
 refine Y.ac (c:=aG cA (⟨k,0,0,[],[]⟩:aF) [.int .i64 k,.int .i64 0,.int .i64 0,.slice none 0 0,.slice none 0 0]) (.c .g1 (.c .z .n)) (fun w S h=>cP (⟨k,0,0,[],[]⟩:aF) h) ?_
 refine Y.ac (c:=aG aW (List.set (f.inodes++ [(⟨0,0,0,[],[]⟩:aF)]) (Int.toNat (cY f.inodes)) (⟨k,0,0,[],[]⟩:aF)) [.slice (some bn) (f.inodes++ [(⟨0,0,0,[],[]⟩:aF)]).length bm]) (.c .g1 (.c .z (.c .g2 (.c .g2 .n)))) (eU (K:=cA) ah (List.getElem?_eq_some_iff.1 ae).1 rfl) ?_
 have hid:fC (dG (aQ f p).2.1) (aH f.inodes (aQ f p).1)<0:=by rw [ai];omega
 have bo:(aH f.inodes (aQ f p).1).length<6:=by rw [ai];omega
 obtain⟨gq,an,gr,gs⟩:=aMf hj (xs:=f.inodes++ [⟨0,0,0,[],[]⟩]) hk (by omega) hid bo (by omega) (.inr ⟨by first | assumption | omega,rfl⟩)
 refine Y.cl rfl rfl Tryz.func78 rfl rfl (nO (.t (.s16 .g4)) (.t .g2) (.t .g1) (.t .z)) (.c .g3 (.c .z (.c .g2 .n))) (fun _ _ hs tr=>aFr (f:=(⟨List.set (f.inodes++ [(⟨0,0,0,[],[]⟩:aF)]) (Int.toNat (cY f.inodes)) (⟨k,0,0,[],[]⟩:aF),f.data⟩:DFs)) _ _ (by first | assumption | omega) _ hs (by assumption) (by first | assumption |(constructor <;> omega)) (by first | omega | assumption)) ?_
 rintro _ _ ⟨h1,h2,rfl,rfl⟩
 refine Y.r (.c (.c (.c .n))) ?_
 refine Y.i (WS.a .g1) ?_
 rintro⟨bp,bq,rfl,et,eu,ev⟩
 refine Y.i (WS.a .g2) ?_
 rintro⟨br,bs,rfl,ew,ey,ez⟩
 refine Y.nt (Y.seq (Y.region (Y.mv rfl (.s16 .g10) (Y.ql rfl (qW rfl bN (.t (.s16 .g6)) .z aX) (Y.ql rfl (aZ (cs:= [.int .i64 0,.int .i64 0,.int .i64 (cY f.inodes),.slice none 0 0,.slice none 0 0,.slice bp ((nU (⟨List.set (f.inodes++ [(⟨0,0,0,[],[]⟩:aF)]) (Int.toNat (cY f.inodes)) (⟨k,0,0,[],[]⟩:aF),f.data⟩:DFs) ((aQ f p).1) ((aQ f p).2.1) (cY f.inodes)).inodes).length bq,.slice br ((nU (⟨List.set (f.inodes++ [(⟨0,0,0,[],[]⟩:aF)]) (Int.toNat (cY f.inodes)) (⟨k,0,0,[],[]⟩:aF),f.data⟩:DFs) ((aQ f p).1) ((aQ f p).2.1) (cY f.inodes)).data).length bs]) rfl mD (pv2 (.t .g1) (.t .z)) rfl) ?_)))))
 refine Y.es (aE rfl) rfl (esW rfl (.t (.s16 (.s16 (.s16 .g13)))) (.t .z) .g5 bA rfl rfl) ?_
 refine Y.nt (Y.ret ?_)
 refine Y.add (c:=aG bX [] [.slice none 0 0]) (fun w S=>aK w S none) ?_
 refine Y.add (c:=aG fJ [] [.slice none 0 0]) (fun w S=>aK w S none) ?_
 refine Y.j (dA rfl (.s16 (.s16 (.s16 .g13))) dO .g2 bA) (.c .g1 (.c .z (.c .g2 (.c .g2 .n)))) ?_
 exact⟨(⟨0,0,cY f.inodes,[],[],(⟨(nU (⟨List.set (f.inodes++ [(⟨0,0,0,[],[]⟩:aF)]) (Int.toNat (cY f.inodes)) (⟨k,0,0,[],[]⟩:aF),f.data⟩:DFs) ((aQ f p).1) ((aQ f p).2.1) (cY f.inodes)).inodes,(nU (⟨List.set (f.inodes++ [(⟨0,0,0,[],[]⟩:aF)]) (Int.toNat (cY f.inodes)) (⟨k,0,0,[],[]⟩:aF),f.data⟩:DFs) ((aQ f p).1) ((aQ f p).2.1) (cY f.inodes)).data⟩:DFs)⟩:eB),(by first | exact hj | assumption | exact an),_,_,_,_,rfl,rfl⟩
 refine Y.skip (Y.g (Y.seq (Y.region (Y.fa rfl .g5 aP (Y.ld rfl bO .z .z (Y.mv rfl .g12 (Y.mv rfl (.s16 (.s16 (.s16 .g1))) (Y.ql rfl (aZ (cs:= [.int .i64 k,.int .i64 0,.int .i64 0,.slice none 0 0,.slice none 0 0]) rfl qJ (pv1 (.t .z)) rfl) ?_))))))))
 refine Y.ab (.c .g1 .n) fN ?_
 rintro al ad
 obtain⟨gt,aa⟩:=aJ (xs:=f.inodes) (j:=Int.toNat (cY f.inodes)) (by first | omega |(simp <;> omega))
 obtain⟨gu,am⟩:=aJ (xs:=al) (j:=Int.toNat (cY f.inodes)) (by rw [ad];exact(List.getElem?_eq_some_iff.1 aa).1)
 refine Y.aq .g1 (eD aa am) ?_
 refine Y.ab (.c .z .n) eZ ?_
 rintro⟨gv,gw⟩ rfl
 refine Y.i (WS.a .z) ?_
 rintro⟨e0,e1,rfl,bt,bu,bv⟩
 refine Y.i (WS.a .g1) ?_
 rintro⟨e2,e3,rfl,bw,bx,bz⟩
 have e4:=cZ (i:=(cY f.inodes)) aa (by omega)
 have e5:=dD (a:=(cY f.inodes)) aa (by omega)
 have e7:=dZ (a:=(cY f.inodes)) aa (by omega)
 have b0:=ht.get aa
 refine Y.i (WS.h .g4 (by first | omega |(simp <;> omega) |(simp only [List.length_append,List.length_cons,List.length_nil,List.length_set] at *;omega))) ?_
 rintro⟨a1,rfl⟩
 refine Y.ql rfl (aB (j:=Int.toNat (cY f.inodes)) rfl cI aU (.t .g3) (.t .g2) (by omega) (by first | omega |(simp <;> omega))) ?_
 refine Y.es (aE rfl) rfl (jZ (j:=Int.toNat (cY f.inodes)) (off:=0) (cs:= [.int .i64 k,.int .i64 0,.int .i64 0,.slice none 0 0,.slice none 0 0]) rfl aU (.t .z) rfl (.t .g1) rfl (nJ rfl) .g4 am (Nat.le_of_ble_eq_true rfl)) ?_
 refine Y.af (x':=List.set al (Int.toNat (cY f.inodes)) [.int .i64 k,.int .i64 0,.int .i64 0,.slice none 0 0,.slice none 0 0]) .z rfl ?_
 refine Y.nt (Y.seq (Y.region (Y.mv rfl (.s16 (.s16 .g9)) (Y.mv rfl (.s16 (.s16 .g9)) (Y.mv rfl (.s16 .g2) ?_)))))
 refine Y.add (c:=aG aY [] [.slice none 0 0]) (fun w S=>aK w S none) ?_
 refine Y.add (c:=aG dL [] [.slice none 0 0]) (fun w S=>aK w S none) ?_
 refine Y.ac (c:=aG cA (⟨k,0,0,[],[]⟩:aF) [.int .i64 k,.int .i64 0,.int .i64 0,.slice none 0 0,.slice none 0 0]) (.c .g1 (.c .z .n)) (fun w S h=>cP (⟨k,0,0,[],[]⟩:aF) h) ?_
 refine Y.ac (c:=aG aW (List.set f.inodes (Int.toNat (cY f.inodes)) (⟨k,0,0,[],[]⟩:aF)) [.slice (some a1) f.inodes.length bk]) (.c .g1 (.c .z (.c .g2 (.c .g2 .n)))) (eU (K:=cA) ad (List.getElem?_eq_some_iff.1 aa).1 rfl) ?_
 have hid:fC (dG (aQ f p).2.1) (aH f.inodes (aQ f p).1)<0:=by rw [ai];omega
 have bo:(aH f.inodes (aQ f p).1).length<6:=by rw [ai];omega
 obtain⟨gq,an,gr,gs⟩:=aMf hj (xs:=f.inodes) hk (by omega) hid bo (by omega) (.inl ⟨by first | assumption | omega,rfl⟩)
 refine Y.cl rfl rfl Tryz.func78 rfl rfl (nO (.t .g14) (.t .g2) (.t .g1) (.t .z)) (.c .g3 (.c .z (.c .g2 .n))) (fun _ _ hs tr=>aFr (f:=(⟨List.set f.inodes (Int.toNat (cY f.inodes)) (⟨k,0,0,[],[]⟩:aF),f.data⟩:DFs)) _ _ (by first | assumption | omega) _ hs (by assumption) (by first | assumption |(constructor <;> omega)) (by first | omega | assumption)) ?_
 rintro _ _ ⟨gx,gy,rfl,rfl⟩
 refine Y.r (.c (.c (.c .n))) ?_
 refine Y.i (WS.a .g1) ?_
 rintro⟨a2,a3,rfl,b1,b2,b3⟩
 refine Y.i (WS.a .g2) ?_
 rintro⟨a4,a5,rfl,b4,b5,b6⟩
 refine Y.nt (Y.seq (Y.region (Y.mv rfl (.s16 .g4) (Y.ql rfl (qW rfl bN (.t .g16) .z aX) (Y.ql rfl (aZ (cs:= [.int .i64 0,.int .i64 0,.int .i64 (cY f.inodes),.slice none 0 0,.slice none 0 0,.slice a2 ((nU (⟨List.set f.inodes (Int.toNat (cY f.inodes)) (⟨k,0,0,[],[]⟩:aF),f.data⟩:DFs) ((aQ f p).1) ((aQ f p).2.1) (cY f.inodes)).inodes).length a3,.slice a4 ((nU (⟨List.set f.inodes (Int.toNat (cY f.inodes)) (⟨k,0,0,[],[]⟩:aF),f.data⟩:DFs) ((aQ f p).1) ((aQ f p).2.1) (cY f.inodes)).data).length a5]) rfl mD (pv2 (.t .g1) (.t .z)) rfl) ?_)))))
 refine Y.es (aE rfl) rfl (esW rfl (.t (.s16 (.s16 (.s16 .g7)))) (.t .z) .g5 bA rfl rfl) ?_
 refine Y.nt (Y.ret ?_)
 refine Y.add (c:=aG bX [] [.slice none 0 0]) (fun w S=>aK w S none) ?_
 refine Y.add (c:=aG fJ [] [.slice none 0 0]) (fun w S=>aK w S none) ?_
 refine Y.j (dA rfl (.s16 (.s16 (.s16 .g7))) dO .g2 bA) (.c .g1 (.c .z (.c .g2 (.c .g2 .n)))) ?_
 exact⟨(⟨0,0,cY f.inodes,[],[],(⟨(nU (⟨List.set f.inodes (Int.toNat (cY f.inodes)) (⟨k,0,0,[],[]⟩:aF),f.data⟩:DFs) ((aQ f p).1) ((aQ f p).2.1) (cY f.inodes)).inodes,(nU (⟨List.set f.inodes (Int.toNat (cY f.inodes)) (⟨k,0,0,[],[]⟩:aF),f.data⟩:DFs) ((aQ f p).1) ((aQ f p).2.1) (cY f.inodes)).data⟩:DFs)⟩:eB),(by first | exact hj | assumption | exact an),_,_,_,_,rfl,rfl⟩

theorem aMe {w0:World}{S0:Bs}{f:DFs}{bb:List Value} (h0:eS.ro w0 (FF w0 S0) f bb) (p:ByteArray) (e2:p.size≤140737488351232) (q:ByteArray) (e3:q.size≤140737488351232) (hj:Jf f):
    Calls Tryz.prog 158 #[.agg bb.toArray,.string p,.string q] w0 (aI w0 S0 (fun r l=>∃x:eB,Jf x.fs∧rI x r l)):=by
 obtain⟨dh,di,rfl,aa,ab⟩:=cQ h0
 obtain⟨ah,ai,rfl,bc,bd,be,aj⟩:=aD aa
 obtain⟨ak,al,rfl,bf,bg,bh,bi⟩:=aD ab
 have ht:J0 f:=hj.toJ0
 have e4:=hj.n.2
 have e5:=hj.n.1
 refine Y.enter (N:=56) Tryz.func158 rfl rfl (by simp) [(0,.agg #[.slice ah f.inodes.length ai,.slice ak f.data.length al]),(1,.string p),(2,.string q)] (by simp) (l0:= []) trivial ?_
 refine Y.seq (Y.region ?_)
 refine Y.el rfl (fR (cs:= [.slice ah f.inodes.length ai,.slice ak f.data.length al]) (n:=2) rfl (.t .z) rfl rfl) ?_
 rintro _ _ ⟨g3,rfl,rfl⟩
 refine Y.el rfl (bD rfl tA rfl rfl) ?_
 rintro _ _ ⟨g4,rfl,rfl⟩
 refine Y.nt (Y.seq (Y.region (Y.mv rfl .g3 ?_)))
 refine Y.cl rfl rfl Tryz.func174 rfl rfl (aR (.t .g2) (.t .z)) .n (fun _ _ hs tr=>aC3 (tr.ptr .g1 (aM f (tr.ctx aa) (tr.ctx ab))) _ (by first | assumption | omega) (by assumption)) ?_
 rintro _ _ ⟨rfl,rfl⟩
 refine Y.r .n ?_
 have bj:=pO ht p
 refine Y.mv rfl .z (Y.ql rfl (bL (v:= .int .i64 ((cR f p).1)) rfl (.t .z) rfl) (Y.ql rfl (bL (v:= .int .i64 ((cR f p).2)) rfl (.t .g1) rfl) (Y.as rfl .g1 (Y.as rfl .g1 (Y.nt (Y.seq (Y.seq ?_)))))))
 refine Y.region (Y.mv rfl .z (Y.ql rfl (cC rfl (.t .z) .c) (Y.nt ?_)))
 refine Y.ad (.t .z) (fun b6=> ?_) (fun b6=> ?_)
 refine Y.seq (Y.region (Y.ql rfl (qW rfl bN (.t .g10) .g1 aX) (Y.mv rfl .g3 ?_)))
 refine Y.cl rfl rfl Tryz.func172 rfl rfl (aR (.t .g1) (.t .z)) .n (fun _ _ hs tr=>gX (aM f (tr.ctx aa) (tr.ctx ab)) _) ?_
 rintro _ _ ⟨v7,v9,e7,e8,rfl,rfl⟩
 refine Y.r (.c (.c (.c (.c .n)))) ?_
 refine Y.i (WS.a .z) ?_
 rintro⟨dj,dp,rfl,bk,bm,bn⟩
 refine Y.i (WS.a .g1) ?_
 rintro⟨ds,dt,rfl,bo,bp,bq⟩
 refine Y.i (WS.a .g2) ?_
 rintro⟨du,dv,rfl,br,bs,bt⟩
 refine Y.i (WS.a .g3) ?_
 rintro⟨dw,dx,rfl,bu,bv,bw⟩
 refine Y.es (aE rfl) rfl (esW rfl (.t .g12) (.t .z) .g4 bA rfl rfl) ?_
 refine Y.nt (Y.ret (Y.m ?_))
 refine Y.j (dA rfl .g12 dO .z bA) (.c .g1 (.c .g1 (.c .g1 (.c .g1 .n)))) ?_
 exact⟨(⟨0,((cR f p).2),0,[],[],(⟨f.inodes,f.data⟩:DFs)⟩:eB),(by first | exact hj | assumption | exact xK hj (by omega)),_,_,_,_,rfl,rfl⟩
 refine Y.skip (Y.g (Y.seq (Y.seq (Y.region (Y.fa rfl .g10 aP (Y.ld rfl bO .z .g1 (Y.mv rfl .g5 ?_)))))))
 obtain⟨dy,ad,ae⟩:=aj (by omega)
 subst ad
 obtain⟨e9,ac⟩:=aJ (xs:=f.inodes) (j:=Int.toNat ((cR f p).1)) (by first | omega |(simp <;> omega))
 obtain⟨bx,am,an,ao⟩:=ae.elem ac
 obtain⟨az,a0,rfl,af,ag⟩:=bV am
 obtain⟨a1,a2,rfl,ap,aq,ar,au⟩:=aD af
 obtain⟨a3,a4,rfl,av,aw,ax,ay⟩:=aD ag
 have dz:=cZ (i:=((cR f p).1)) ac (by omega)
 have d0:=dD (a:=((cR f p).1)) ac (by omega)
 have d1:=dZ (a:=((cR f p).1)) ac (by omega)
 have bz:=ht.get ac
 refine Y.ql rfl (aB (j:=Int.toNat ((cR f p).1)) rfl cI aU (.t .g1) (.t .z) (by omega) (by first | omega |(simp <;> omega))) ?_
 refine Y.fa rfl .z bW (Y.le rfl bR .z an ao (Y.ql rfl (bP rfl (.t .z) .c) (Y.nt ?_)))
 refine Y.u (.t .z) (fun d2=> ?_) (fun d2=> ?_)
 refine Y.seq (Y.region (Y.ql rfl (qW rfl bN (.t (.s16 .g1)) .g1 aX) ?_))
 refine Y.cl rfl rfl Tryz.func172 rfl rfl (aR (.t .z) .c) .n (fun _ _ hs tr=>gX (aM f (tr.ctx aa) (tr.ctx ab)) _) ?_
 rintro _ _ ⟨fb,fc,fd,fe,rfl,rfl⟩
 refine Y.r (.c (.c (.c (.c .n)))) ?_
 refine Y.i (WS.a .z) ?_
 rintro⟨d3,d4,rfl,b0,b1,b2⟩
 refine Y.i (WS.a .g1) ?_
 rintro⟨d5,d6,rfl,b3,b4,b5⟩
 refine Y.i (WS.a .g2) ?_
 rintro⟨d7,d8,rfl,b7,b8,b9⟩
 refine Y.i (WS.a .g3) ?_
 rintro⟨d9,ea,rfl,ca,cb,cc⟩
 refine Y.es (aE rfl) rfl (esW rfl (.t (.s16 .g2)) (.t .z) .g4 bA rfl rfl) ?_
 refine Y.nt (Y.ret (Y.m ?_))
 refine Y.j (dA rfl (.s16 .g2) dO .z bA) (.c .g1 (.c .g1 (.c .g1 (.c .g1 .n)))) ?_
 exact⟨(⟨0,9,0,[],[],(⟨f.inodes,f.data⟩:DFs)⟩:eB),(by first | exact hj | assumption | exact xK hj (by omega)),_,_,_,_,rfl,rfl⟩
 refine Y.skip (Y.g (Y.seq (Y.region (Y.mv rfl (.s16 .g4) ?_))))
 refine Y.cl rfl rfl Tryz.func171 rfl rfl (aR (.t (.s16 .g2)) (.t .z)) .n (fun _ _ hs tr=>wR (tr.ptr .g1 (aM f (tr.ctx aa) (tr.ctx ab))) _ (by first | assumption | omega) (by assumption)) ?_
 rintro _ _ ⟨rfl,rfl⟩
 refine Y.r .n ?_
 have a5:=nM (f:=f) (s:=q)
 have a6:=lS ht q
 refine Y.mv rfl .z (Y.ql rfl (bL (v:= .int .i64 ((aQ f q).1)) rfl (.t .z) rfl) (Y.ql rfl (bL (v:= .string ((aQ f q).2.1)) rfl (.t .g1) rfl) (Y.ql rfl (bL (v:= .int .i64 ((aQ f q).2.2)) rfl (.t .g2) rfl) (Y.as rfl .g2 (Y.as rfl .g2 (Y.er (.s16 .g1) (Y.as rfl .g2 (Y.nil ?_))))))))
 refine Y.g (Y.seq (Y.seq (Y.region (Y.mv rfl .z (Y.ql rfl (cC rfl (.t .z) .c) (Y.nt ?_))))))
 refine Y.ad (.t .z) (fun eb=> ?_) (fun eb=> ?_)
 refine Y.seq (Y.region (Y.ql rfl (qW rfl bN (.t (.s16 .g11)) .g1 aX) (Y.mv rfl .g3 ?_)))
 refine Y.cl rfl rfl Tryz.func172 rfl rfl (aR (.t .g1) (.t .z)) .n (fun _ _ hs tr=>gX (aM f (tr.ctx aa) (tr.ctx ab)) _) ?_
 rintro _ _ ⟨ff,fg,fh,fi,rfl,rfl⟩
 refine Y.r (.c (.c (.c (.c .n)))) ?_
 refine Y.i (WS.a .z) ?_
 rintro⟨ec,ed,rfl,cd,ce,cf⟩
 refine Y.i (WS.a .g1) ?_
 rintro⟨ee,ef,rfl,cg,ch,ci⟩
 refine Y.i (WS.a .g2) ?_
 rintro⟨eg,eh,rfl,cj,ck,cm⟩
 refine Y.i (WS.a .g3) ?_
 rintro⟨ei,ej,rfl,cn,co,cp⟩
 refine Y.es (aE rfl) rfl (esW rfl (.t (.s16 .g13)) (.t .z) .g4 bA rfl rfl) ?_
 refine Y.nt (Y.ret (Y.m ?_))
 refine Y.j (dA rfl (.s16 .g13) dO .z bA) (.c .g1 (.c .g1 (.c .g1 (.c .g1 .n)))) ?_
 exact⟨(⟨0,((aQ f q).2.2),0,[],[],(⟨f.inodes,f.data⟩:DFs)⟩:eB),(by first | exact hj | assumption | exact xK hj (by omega)),_,_,_,_,rfl,rfl⟩
 refine Y.skip (Y.g (Y.seq (Y.region (Y.ql rfl (qW rfl bN (.t (.s16 .g11)) .g1 aX) ?_))))
 refine Y.cl rfl rfl Tryz.func67 rfl rfl (bH (.t .z)) .n (fun _ _ hs tr=>uY (aM f (tr.ctx aa) (tr.ctx ab))) ?_
 rintro _ _ ⟨fj,fk,rfl,rfl⟩
 refine Y.r (.c (.c .n)) ?_
 refine Y.i (WS.a .z) ?_
 rintro⟨ek,em,rfl,cq,cr,ct⟩
 refine Y.i (WS.a .g1) ?_
 rintro⟨en,eo,rfl,cu,cv,cw⟩
 refine Y.el rfl (bD rfl mQ rfl rfl) ?_
 rintro _ _ ⟨g58,rfl,rfl⟩
 refine Y.es (aE rfl) rfl (esW rfl (.t .z) (.t .g1) .z aX rfl rfl) ?_
 refine Y.nt (Y.seq (Y.seq (Y.region (Y.mv rfl .g7 (Y.mv rfl .g7 (Y.mv rfl (.s16 .g9) ?_))))))
 have fl:=kW ht (aQ f q).1
 refine Y.cl rfl rfl Tryz.func78 rfl rfl (nO (.t .g3) (.t .g2) (.t .g1) (.t .z)) (.c .z (.c .z (.c .z .n))) (fun _ _ hs tr=>aFr (f:=f) _ _ (by first | assumption | omega) _ hs (by assumption) (by first | assumption |(constructor <;> omega)) (by first | omega | assumption)) ?_
 rintro _ _ ⟨fm,fn,rfl,rfl⟩
 refine Y.r (.c (.c (.c .n))) ?_
 refine Y.i (WS.a .g1) ?_
 rintro⟨a7,a8,rfl,cx,cy,cz⟩
 refine Y.i (WS.a .g2) ?_
 rintro⟨a9,ba,rfl,c0,c1,c2⟩
 refine Y.as rfl .z (Y.nt (Y.seq (Y.region (Y.mv rfl .z (Y.ql rfl (cC rfl (.t .z) .c) (Y.nt ?_))))))
 refine Y.ad (.t .z) (fun ep=> ?_) (fun ep=> ?_)
 refine Y.seq (Y.region (Y.ql rfl (qW rfl bN (.t (.s16 (.s16 .g5))) .g4 aX) (Y.mv rfl .g3 ?_)))
 refine Y.cl rfl rfl Tryz.func172 rfl rfl (aR (.t .g1) (.t .z)) .n (fun _ _ hs tr=>gX (aM f (tr.ctx aa) (tr.ctx ab)) _) ?_
 rintro _ _ ⟨fo,fp,fq,fr,rfl,rfl⟩
 refine Y.r (.c (.c (.c (.c .n)))) ?_
 refine Y.i (WS.a .z) ?_
 rintro⟨et,eu,rfl,c3,c4,c5⟩
 refine Y.i (WS.a .g1) ?_
 rintro⟨ev,ew,rfl,c6,c7,c8⟩
 refine Y.i (WS.a .g2) ?_
 rintro⟨ey,ez,rfl,c9,da,db⟩
 refine Y.i (WS.a .g3) ?_
 rintro⟨e0,e1,rfl,dc,dd,dg⟩
 refine Y.es (aE rfl) rfl (esW rfl (.t (.s16 (.s16 .g7))) (.t .z) .g7 bA rfl rfl) ?_
 refine Y.nt (Y.ret (Y.m ?_))
 refine Y.j (dA rfl (.s16 (.s16 .g7)) dO .z bA) (.c .g1 (.c .g1 (.c .g1 (.c .g1 .n)))) ?_
 exact⟨(⟨0,(qG f ((aQ f q).1) ((aQ f q).2.1) ((cR f p).1)),0,[],[],(⟨f.inodes,f.data⟩:DFs)⟩:eB),(by first | exact hj | assumption | exact xK hj (by omega)),_,_,_,_,rfl,rfl⟩
 refine Y.skip (Y.g (Y.seq (Y.region (Y.ql rfl (qW rfl bN (.t .g7) .z aX) (Y.ql rfl (aZ (cs:= [.int .i64 0,.int .i64 0,.int .i64 0,.slice none 0 0,.slice none 0 0,.slice a7 ((nU f ((aQ f q).1) ((aQ f q).2.1) ((cR f p).1)).inodes).length a8,.slice a9 ((nU f ((aQ f q).1) ((aQ f q).2.1) ((cR f p).1)).data).length ba]) rfl mD (pv1 (.t .z)) rfl) ?_)))))
 refine Y.es (aE rfl) rfl (esW rfl (.t (.s16 (.s16 .g6))) (.t .z) .g3 bA rfl rfl) ?_
 refine Y.nt (Y.ret ?_)
 refine Y.add (c:=aG bX [] [.slice none 0 0]) (fun w S=>aK w S none) ?_
 refine Y.add (c:=aG fJ [] [.slice none 0 0]) (fun w S=>aK w S none) ?_
 refine Y.j (dA rfl (.s16 (.s16 .g6)) dO .g2 bA) (.c .g1 (.c .z (.c .g2 (.c .g2 .n)))) ?_
 exact⟨(⟨0,0,0,[],[],(⟨(nU f ((aQ f q).1) ((aQ f q).2.1) ((cR f p).1)).inodes,(nU f ((aQ f q).1) ((aQ f q).2.1) ((cR f p).1)).data⟩:DFs)⟩:eB),(by first | exact hj | assumption | exact xK hj (by omega)),_,_,_,_,rfl,rfl⟩

theorem aI8 {w0:World}{S0:Bs}{f:DFs}{e0:List Value} (h0:eS.ro w0 (FF w0 S0) f e0) {c:oP}{e1:List Value} (h1:uD.ro w0 (FF w0 S0) c e1) (hj:Jf f):
    Calls Tryz.prog 157 #[.agg e0.toArray,.agg e1.toArray] w0 (aI w0 S0 (fun r l=>∃x:eB,Jf x.fs∧rI x r l)):=by
 obtain⟨ip,iq,rfl,aa,ab⟩:=cQ h0
 obtain⟨a3,a4,rfl,e2,e3,e4,a5⟩:=aD aa
 obtain⟨a6,a7,rfl,e5,e7,e8,e9⟩:=aD ab
 obtain⟨ir,rfl,cc,it,iu⟩:=rU h1
 obtain⟨a8,a9,rfl,fb,fc,fd,fe⟩:=aD cc
 have ht:J0 f:=hj.toJ0
 have kn:=hj.n.2
 have ko:=hj.n.1
 refine Y.enter (N:=87) Tryz.func157 rfl rfl (by simp) [(0,.agg #[.slice a3 f.inodes.length a4,.slice a6 f.data.length a7]),(1,.agg #[.int .i64 c.kind,.string c.path,.string c.to,.int .i64 c.frm,.int .i64 c.size,.slice a8 c.data.length a9])] (by simp) (l0:= []) trivial ?_
 refine Y.seq (Y.region ?_)
 refine Y.el rfl (fR (cs:= [.slice a3 f.inodes.length a4,.slice a6 f.data.length a7]) (n:=2) rfl (.t .z) rfl rfl) ?_
 rintro _ _ ⟨g4,rfl,rfl⟩
 refine Y.el rfl (fR (cs:= [.int .i64 c.kind,.string c.path,.string c.to,.int .i64 c.frm,.int .i64 c.size,.slice a8 c.data.length a9]) (n:=6) rfl (.t .g2) rfl rfl) ?_
 rintro _ _ ⟨g5,rfl,rfl⟩
 refine Y.el rfl (bD rfl tA rfl rfl) ?_
 rintro _ _ ⟨g6,rfl,rfl⟩
 refine Y.nt (Y.seq (Y.region (Y.fa rfl .g1 mY (Y.ld rfl kP .z .g1 ?_))))
 refine Y.cl rfl rfl Tryz.func171 rfl rfl (aR (.t .g4) (.t .z)) .n (fun _ _ hs tr=>wR (tr.ptr .g2 (aM f (tr.ctx aa) (tr.ctx ab))) _ (by first | assumption | omega) (by assumption)) ?_
 rintro _ _ ⟨rfl,rfl⟩
 refine Y.r .n ?_
 have ff:=nM (f:=f) (s:=c.path)
 have fg:=lS ht c.path
 refine Y.mv rfl .z (Y.ql rfl (bL (v:= .int .i64 ((aQ f c.path).1)) rfl (.t .z) rfl) (Y.ql rfl (bL (v:= .string ((aQ f c.path).2.1)) rfl (.t .g1) rfl) (Y.ql rfl (bL (v:= .int .i64 ((aQ f c.path).2.2)) rfl (.t .g2) rfl) (Y.as rfl .g2 (Y.as rfl .g2 (Y.as rfl .g2 (Y.nt ?_)))))))
 refine Y.seq (Y.seq (Y.region (Y.mv rfl .z (Y.ql rfl (cC rfl (.t .z) .c) (Y.nt ?_)))))
 refine Y.ad (.t .z) (fun b9=> ?_) (fun b9=> ?_)
 refine Y.seq (Y.region (Y.ql rfl (qW rfl bN (.t .g14) .g2 aX) (Y.mv rfl .g3 ?_)))
 refine Y.cl rfl rfl Tryz.func172 rfl rfl (aR (.t .g1) (.t .z)) .n (fun _ _ hs tr=>gX (aM f (tr.ctx aa) (tr.ctx ab)) _) ?_
 rintro _ _ ⟨kp,kq,kr,ks,rfl,rfl⟩
 refine Y.r (.c (.c (.c (.c .n)))) ?_
 refine Y.i (WS.a .z) ?_
 rintro⟨iv,iw,rfl,fh,fi,fj⟩
 refine Y.i (WS.a .g1) ?_
 rintro⟨ix,iy,rfl,fk,fl,fm⟩
 refine Y.i (WS.a .g2) ?_
 rintro⟨iz,i0,rfl,fn,fo,fp⟩
 refine Y.i (WS.a .g3) ?_
 rintro⟨i1,i2,rfl,fq,fr,ft⟩
 refine Y.es (aE rfl) rfl (esW rfl (.t .g15) (.t .z) .g4 bA rfl rfl) ?_
 refine Y.nt (Y.ret (Y.m ?_))
 refine Y.j (dA rfl .g15 dO .z bA) (.c .g1 (.c .g1 (.c .g1 (.c .g1 .n)))) ?_
 exact⟨(⟨0,((aQ f c.path).2.2),0,[],[],(⟨f.inodes,f.data⟩:DFs)⟩:eB),(by first | exact hj | assumption | exact jA hj _ _),_,_,_,_,rfl,rfl⟩
 refine Y.skip (Y.g (Y.seq (Y.region (Y.fa rfl .g14 aP (Y.ld rfl bO .z .g2 (Y.mv rfl .g6 ?_))))))
 obtain⟨i3,ar,ag⟩:=a5 (by omega)
 subst ar
 obtain⟨ao,ah⟩:=aJ (xs:=f.inodes) (j:=Int.toNat ((aQ f c.path).1)) (by first | omega |(simp <;> omega))
 obtain⟨fu,ba,ap,aq⟩:=ag.elem ah
 obtain⟨cd,ce,rfl,au,ai⟩:=bV ba
 obtain⟨cf,cg,rfl,bu,bv,bw,bx⟩:=aD au
 obtain⟨ch,ci,rfl,bz,b0,b1,al⟩:=aD ai
 have i4:=cZ (i:=((aQ f c.path).1)) ah (by omega)
 have av:=dD (a:=((aQ f c.path).1)) ah (by omega)
 have i5:=dZ (a:=((aQ f c.path).1)) ah (by omega)
 have bb:=ht.get ah
 refine Y.ql rfl (aB (j:=Int.toNat ((aQ f c.path).1)) rfl cI aU (.t .g1) (.t .z) (by omega) (by first | omega |(simp <;> omega))) ?_
 refine Y.fa rfl .z bM (Y.le rfl eA .z ap aq (Y.mv rfl .g9 ?_))
 refine Y.cl rfl rfl Tryz.func127 rfl rfl (aR (.t .g1) (.t .z)) .n (fun _ _ hs tr=>sD (tr.ctx ai) _ (by first | assumption | omega)) ?_
 rintro _ _ ⟨rfl,rfl⟩
 refine Y.r .n ?_
 refine Y.as rfl .z (Y.nt (Y.seq (Y.seq (Y.region (Y.mv rfl .z (Y.ql rfl (cU rfl (.t .z) .c) (Y.nil ?_)))))))
 refine Y.g ?_
 refine Y.u (.t .z) (fun i6=> ?_) (fun i6=> ?_)
 have fv:=gM (dG ((aQ f c.path).2.1)) ao.ents
 refine Y.seq (Y.region (Y.ql rfl (qW rfl bN (.t (.s16 .g9)) .g2 aX) ?_))
 refine Y.cl rfl rfl Tryz.func172 rfl rfl (aR (.t .z) .c) .n (fun _ _ hs tr=>gX (aM f (tr.ctx aa) (tr.ctx ab)) _) ?_
 rintro _ _ ⟨kt,ku,kv,kw,rfl,rfl⟩
 refine Y.r (.c (.c (.c (.c .n)))) ?_
 refine Y.i (WS.a .z) ?_
 rintro⟨i7,i8,rfl,fw,fx,fy⟩
 refine Y.i (WS.a .g1) ?_
 rintro⟨i9,ja,rfl,fz,f0,f1⟩
 refine Y.i (WS.a .g2) ?_
 rintro⟨jb,jc,rfl,f2,f3,f4⟩
 refine Y.i (WS.a .g3) ?_
 rintro⟨jd,je,rfl,f5,f6,f7⟩
 refine Y.es (aE rfl) rfl (esW rfl (.t (.s16 .g9)) (.t .z) .g4 bA rfl rfl) ?_
 refine Y.nt (Y.ret (Y.m ?_))
 refine Y.j (dA rfl (.s16 .g9) dO .z bA) (.c .g1 (.c .g1 (.c .g1 (.c .g1 .n)))) ?_
 exact⟨(⟨0,4,0,[],[],(⟨f.inodes,f.data⟩:DFs)⟩:eB),(by first | exact hj | assumption | exact jA hj _ _),_,_,_,_,rfl,rfl⟩
 have f8:=gM (dG ((aQ f c.path).2.1)) ao.ents
 refine Y.skip (Y.g (Y.seq ?_))
 refine Y.dr .z 13 gB ?_
 refine Y.sc (qs 0 13++ [(13,false)]) (by kernel_rfl) ?_
 refine Y.df rfl rfl .z (.s16 .g9) aP (Y.dl rfl rfl .z bO .z .g2 (Y.df rfl rfl .z (.s16 .g11) aP (Y.dl rfl rfl .z bO .z .g2 (Y.dm rfl rfl .z (.s16 .g3) ?_))))
 refine Y.dk rfl rfl .z (aB (j:=Int.toNat ((aQ f c.path).1)) rfl cI aU (.t .g1) (.t .z) (by omega) (by first | omega |(simp <;> omega))) ?_
 refine Y.df rfl rfl .z .z bM (Y.de rfl rfl .z eA .z ap aq (Y.dm rfl rfl .z .g10 ?_))
 obtain⟨jf,aw,ax⟩:=al (by omega)
 subst aw
 obtain⟨bc,bd⟩:=aJ (xs:=ao.ents) (j:=Int.toNat (fC (dG ((aQ f c.path).2.1)) ao.ents)) (by first | omega |(simp <;> omega))
 obtain⟨f9,be,bf,bg⟩:=ax.elem bd
 obtain⟨rfl,cj⟩:=fF be
 have ga:=qL bb _ _ bd
 refine Y.dk rfl rfl .z (aB (j:=Int.toNat (fC (dG ((aQ f c.path).2.1)) ao.ents)) rfl dQ fS (.t .g1) (.t .z) (by omega) (by first | omega |(simp <;> omega))) ?_
 refine Y.df rfl rfl .z .z iU (Y.de rfl rfl .z bR .z bf bg ?_)
 obtain⟨kx,aj⟩:=aJ (xs:=f.inodes) (j:=Int.toNat bc.ino) (by first | omega |(simp <;> omega))
 obtain⟨gb,bh,ac,ad⟩:=ag.elem aj
 obtain⟨ck,cm,rfl,ay,az⟩:=bV bh
 obtain⟨cn,co,rfl,b2,b3,b4,b5⟩:=aD ay
 obtain⟨cp,cq,rfl,b6,b7,b8,ca⟩:=aD az
 have jg:=cZ (i:=bc.ino) aj (by omega)
 have jh:=dD (a:=bc.ino) aj (by omega)
 have ji:=dZ (a:=bc.ino) aj (by omega)
 have gc:=ht.get aj
 refine Y.dk rfl rfl .z (aB (j:=Int.toNat bc.ino) rfl cI aU (.t .g10) (.t .z) (by omega) (by first | omega |(simp <;> omega))) ?_
 refine Y.q (aC rfl rfl) rfl (by decide) rfl (aA rfl (.t .z)) ?_
 refine Y.sl rfl ?_
 refine Y.aa ?_
 refine Y.ai (by kernel_rfl) ?_
 refine Y.g (Y.seq (Y.seq (Y.region (Y.fa rfl (.s16 (.s16 .g6)) pD (Y.ld rfl bR .z .g1 (Y.ql rfl (bP rfl (.t .z) .c) (Y.mv rfl .z ?_)))))))
 refine Y.ak .z (fun g49=> ?_) (fun g49=> ?_)
 refine Y.qg rfl rfl .z rfl rfl rfl (aS rfl (.t .g4)) ?_
 refine Y.qg rfl rfl .g1 rfl rfl rfl (eL rfl (.t .z)) ?_
 refine Y.qg rfl rfl .g2 rfl rfl rfl (aL rfl (.t .z) (fun _=>bW _ _)) ?_
 refine Y.qg rfl rfl .g3 rfl rfl rfl (aN rfl bR (.t .z) (WS.el ac ad rfl)) ?_
 refine Y.qg rfl rfl .g4 rfl rfl rfl (bP rfl (.t .z) .c) ?_
 refine Y.ql rfl (bB rfl (.t .g5) (.t .z)) (Y.nt ?_)
 refine Y.u (.t .z) (fun jj=> ?_) (fun jj=> ?_)
 refine Y.seq (Y.region (Y.ql rfl (qW rfl bN (.t (.s16 (.s16 (.s16 .g1)))) .g2 aX) ?_))
 refine Y.cl rfl rfl Tryz.func172 rfl rfl (aR (.t .z) .c) .n (fun _ _ hs tr=>gX (aM f (tr.ctx aa) (tr.ctx ab)) _) ?_
 rintro _ _ ⟨ky,kz,k0,k1,rfl,rfl⟩
 refine Y.r (.c (.c (.c (.c .n)))) ?_
 refine Y.i (WS.a .z) ?_
 rintro⟨jk,jl,rfl,gd,ge,gf⟩
 refine Y.i (WS.a .g1) ?_
 rintro⟨jm,jn,rfl,gg,gh,gi⟩
 refine Y.i (WS.a .g2) ?_
 rintro⟨jo,jp,rfl,gj,gk,gl⟩
 refine Y.i (WS.a .g3) ?_
 rintro⟨jq,jr,rfl,gm,gn,go⟩
 refine Y.es (aE rfl) rfl (esW rfl (.t (.s16 (.s16 (.s16 .g1)))) (.t .z) .g4 bA rfl rfl) ?_
 refine Y.nt (Y.ret (Y.m ?_))
 refine Y.j (dA rfl (.s16 (.s16 (.s16 .g1))) dO .z bA) (.c .g1 (.c .g1 (.c .g1 (.c .g1 .n)))) ?_
 exact⟨(⟨0,9,0,[],[],(⟨f.inodes,f.data⟩:DFs)⟩:eB),(by first | exact hj | assumption | exact jA hj _ _),_,_,_,_,rfl,rfl⟩
 refine Y.skip (Y.g (Y.seq (Y.seq (Y.region (Y.fa rfl (.s16 (.s16 .g16)) pD (Y.ld rfl bR .z .g1 (Y.ql rfl (bP rfl (.t .z) .c) (Y.mv rfl .z ?_))))))))
 refine Y.ak .z (fun g63=> ?_) (fun g63=> ?_)
 exfalso;first | omega | contradiction
 refine Y.h rfl rfl .z rfl rfl (by decide) rfl ?_
 refine Y.h rfl rfl .g1 rfl rfl (by decide) rfl ?_
 refine Y.h rfl rfl .g2 rfl rfl (by decide) rfl ?_
 refine Y.h rfl rfl .g3 rfl rfl (by decide) rfl ?_
 refine Y.h rfl rfl .g4 rfl rfl (by decide) rfl ?_
 refine Y.ql rfl (aV rfl (.t .g5) .c) (Y.nt ?_)
 refine Y.an (.t .z) ?_
 refine Y.skip (Y.g (Y.seq (Y.seq (Y.region (Y.mv rfl (.s16 .g4) (Y.nc rfl .z (Y.fa rfl .z bM (Y.le rfl eA .z ac ad ?_))))))))
 refine Y.ql rfl (bE rfl dQ (.t .z)) (Y.ql rfl (gA rfl (.t .z) .c) (Y.nt ?_))
 refine Y.u (.t .z) (fun js=> ?_) (fun js=> ?_)
 refine Y.seq (Y.region (Y.ql rfl (qW rfl bN (.t (.s16 (.s16 (.s16 (.s16 .g1))))) .g2 aX) ?_))
 refine Y.cl rfl rfl Tryz.func172 rfl rfl (aR (.t .z) .c) .n (fun _ _ hs tr=>gX (aM f (tr.ctx aa) (tr.ctx ab)) _) ?_
 rintro _ _ ⟨k2,k3,k4,k5,rfl,rfl⟩
 refine Y.r (.c (.c (.c (.c .n)))) ?_
 refine Y.i (WS.a .z) ?_
 rintro⟨jt,ju,rfl,gp,gq,gr⟩
 refine Y.i (WS.a .g1) ?_
 rintro⟨jv,jw,rfl,gs,gt,gu⟩
 refine Y.i (WS.a .g2) ?_
 rintro⟨jx,jy,rfl,gv,gw,gx⟩
 refine Y.i (WS.a .g3) ?_
 rintro⟨jz,j0,rfl,gy,gz,g0⟩
 refine Y.es (aE rfl) rfl (esW rfl (.t (.s16 (.s16 (.s16 (.s16 .g1))))) (.t .z) .g4 bA rfl rfl) ?_
 refine Y.nt (Y.ret (Y.m ?_))
 refine Y.j (dA rfl (.s16 (.s16 (.s16 (.s16 .g1)))) dO .z bA) (.c .g1 (.c .g1 (.c .g1 (.c .g1 .n)))) ?_
 exact⟨(⟨0,8,0,[],[],(⟨f.inodes,f.data⟩:DFs)⟩:eB),(by first | exact hj | assumption | exact jA hj _ _),_,_,_,_,rfl,rfl⟩
 refine Y.skip (Y.g (Y.seq (Y.region (Y.ql rfl (qW rfl bN (.t (.s16 (.s16 (.s16 (.s16 .g1))))) .g2 aX) ?_))))
 refine Y.cl rfl rfl Tryz.func67 rfl rfl (bH (.t .z)) .n (fun _ _ hs tr=>uY (aM f (tr.ctx aa) (tr.ctx ab))) ?_
 rintro _ _ ⟨k6,k7,rfl,rfl⟩
 refine Y.r (.c (.c .n)) ?_
 refine Y.i (WS.a .z) ?_
 rintro⟨j1,j2,rfl,ha,hb,hc⟩
 refine Y.i (WS.a .g1) ?_
 rintro⟨j3,j4,rfl,hd,he,hf⟩
 refine Y.el rfl (bD rfl mQ rfl rfl) ?_
 rintro _ _ ⟨g83,rfl,rfl⟩
 refine Y.es (aE rfl) rfl (esW rfl (.t .z) (.t .g1) .z aX rfl rfl) ?_
 refine Y.nt (Y.seq (Y.region (Y.mv rfl (.s16 (.s16 (.s16 .g10))) (Y.mv rfl (.s16 (.s16 .g14)) ?_))))
 obtain⟨ak,bi,a0, -⟩:=mB (show¬fC (dG ((aQ f c.path).2.1)) ao.ents= -1 by omega)
 refine Y.eq .z (congrArg (Value.int .i64) bi) ?_
 have cb:ak<(aH f.inodes (aQ f c.path).1).length:=by rw [av];exact a0
 refine Y.cl rfl rfl Tryz.func175 rfl rfl (eQ (.t .g2) (.t .g1) (.t .z)) (.c .z (.c .z (.c .z .n))) (fun _ _ hs tr=>aBs (f:=f) _ _ hs (by assumption) (by first | assumption |(constructor <;> omega)) (by first | omega | assumption)) ?_
 rintro _ _ ⟨k8,k9,rfl,rfl⟩
 refine Y.r (.c (.c (.c .n))) ?_
 refine Y.i (WS.a .g1) ?_
 rintro⟨cr,ct,rfl,hg,hh,hi⟩
 refine Y.i (WS.a .g2) ?_
 rintro⟨cu,cv,rfl,hk,hl,hm⟩
 refine Y.nt (Y.seq (Y.region (Y.ql rfl (qW rfl bN (.t .g3) .z aX) (Y.ql rfl (aZ (cs:= [.int .i64 0,.int .i64 0,.int .i64 0,.slice none 0 0,.slice none 0 0,.slice cr ((iZ f ((aQ f c.path).1) ak).inodes).length ct,.slice cu ((iZ f ((aQ f c.path).1) ak).data).length cv]) rfl mD (pv1 (.t .z)) rfl) ?_))))
 refine Y.es (aE rfl) rfl (esW rfl (.t (.s16 (.s16 (.s16 (.s16 .g7))))) (.t .z) .g3 bA rfl rfl) ?_
 refine Y.nt (Y.ret ?_)
 refine Y.add (c:=aG bX [] [.slice none 0 0]) (fun w S=>aK w S none) ?_
 refine Y.add (c:=aG fJ [] [.slice none 0 0]) (fun w S=>aK w S none) ?_
 refine Y.j (dA rfl (.s16 (.s16 (.s16 (.s16 .g7)))) dO .g2 bA) (.c .g1 (.c .z (.c .g2 (.c .g2 .n)))) ?_
 exact⟨(⟨0,0,0,[],[],(⟨(iZ f ((aQ f c.path).1) ak).inodes,(iZ f ((aQ f c.path).1) ak).data⟩:DFs)⟩:eB),(by first | exact hj | assumption | exact jA hj _ _),_,_,_,_,rfl,rfl⟩
 refine Y.h rfl rfl .z rfl rfl (by decide) rfl ?_
 refine Y.h rfl rfl .g1 rfl rfl (by decide) rfl ?_
 refine Y.h rfl rfl .g2 rfl rfl (by decide) rfl ?_
 refine Y.h rfl rfl .g3 rfl rfl (by decide) rfl ?_
 refine Y.h rfl rfl .g4 rfl rfl (by decide) rfl ?_
 refine Y.ql rfl (aV rfl (.t .g5) .c) (Y.nt ?_)
 refine Y.an (.t .z) ?_
 refine Y.skip (Y.g (Y.seq (Y.seq (Y.region (Y.fa rfl (.s16 (.s16 .g16)) pD (Y.ld rfl bR .z .g1 (Y.ql rfl (bP rfl (.t .z) .c) (Y.mv rfl .z ?_))))))))
 refine Y.ak .z (fun g93=> ?_) (fun g93=> ?_)
 refine Y.qg rfl rfl .z rfl rfl rfl (aS rfl (.t .g14)) ?_
 refine Y.qg rfl rfl .g1 rfl rfl rfl (eL rfl (.t .z)) ?_
 refine Y.qg rfl rfl .g2 rfl rfl rfl (aL rfl (.t .z) (fun _=>bW _ _)) ?_
 refine Y.qg rfl rfl .g3 rfl rfl rfl (aN rfl bR (.t .z) (WS.el ac ad rfl)) ?_
 refine Y.qg rfl rfl .g4 rfl rfl rfl (cC rfl (.t .z) .c) ?_
 refine Y.ql rfl (bB rfl (.t .g5) (.t .z)) (Y.nt ?_)
 refine Y.ad (.t .z) (fun j5=> ?_) (fun j5=> ?_)
 refine Y.seq (Y.region (Y.ql rfl (qW rfl bN (.t (.s16 (.s16 (.s16 .g11)))) .g2 aX) ?_))
 refine Y.cl rfl rfl Tryz.func172 rfl rfl (aR (.t .z) .c) .n (fun _ _ hs tr=>gX (aM f (tr.ctx aa) (tr.ctx ab)) _) ?_
 rintro _ _ ⟨la,lb,lc,j6,rfl,rfl⟩
 refine Y.r (.c (.c (.c (.c .n)))) ?_
 refine Y.i (WS.a .z) ?_
 rintro⟨hn,ho,rfl,cw,cx,cy⟩
 refine Y.i (WS.a .g1) ?_
 rintro⟨hp,hq,rfl,cz,c0,c1⟩
 refine Y.i (WS.a .g2) ?_
 rintro⟨hr,hu,rfl,c2,c3,c4⟩
 refine Y.i (WS.a .g3) ?_
 rintro⟨hv,hw,rfl,c5,c6,c7⟩
 refine Y.es (aE rfl) rfl (esW rfl (.t (.s16 (.s16 (.s16 .g11)))) (.t .z) .g4 bA rfl rfl) ?_
 refine Y.nt (Y.ret (Y.m ?_))
 refine Y.j (dA rfl (.s16 (.s16 (.s16 .g11))) dO .z bA) (.c .g1 (.c .g1 (.c .g1 (.c .g1 .n)))) ?_
 exact⟨(⟨0,1,0,[],[],(⟨f.inodes,f.data⟩:DFs)⟩:eB),(by first | exact hj | assumption | exact jA hj _ _),_,_,_,_,rfl,rfl⟩
 refine Y.skip (Y.g (Y.seq (Y.seq (Y.region (Y.mv rfl (.s16 .g4) (Y.nc rfl .z (Y.fa rfl .z bM (Y.le rfl eA .z ac ad ?_))))))))
 refine Y.ql rfl (bE rfl dQ (.t .z)) (Y.ql rfl (gA rfl (.t .z) .c) (Y.nt ?_))
 refine Y.u (.t .z) (fun c8=> ?_) (fun c8=> ?_)
 refine Y.seq (Y.region (Y.ql rfl (qW rfl bN (.t (.s16 (.s16 (.s16 (.s16 .g1))))) .g2 aX) ?_))
 refine Y.cl rfl rfl Tryz.func172 rfl rfl (aR (.t .z) .c) .n (fun _ _ hs tr=>gX (aM f (tr.ctx aa) (tr.ctx ab)) _) ?_
 rintro _ _ ⟨j7,j8,j9,ka,rfl,rfl⟩
 refine Y.r (.c (.c (.c (.c .n)))) ?_
 refine Y.i (WS.a .z) ?_
 rintro⟨hx,hy,rfl,c9,da,db⟩
 refine Y.i (WS.a .g1) ?_
 rintro⟨hz,h2,rfl,dc,dd,dg⟩
 refine Y.i (WS.a .g2) ?_
 rintro⟨h3,h4,rfl,dh,di,dj⟩
 refine Y.i (WS.a .g3) ?_
 rintro⟨h5,h6,rfl,dp,ds,dt⟩
 refine Y.es (aE rfl) rfl (esW rfl (.t (.s16 (.s16 (.s16 (.s16 .g1))))) (.t .z) .g4 bA rfl rfl) ?_
 refine Y.nt (Y.ret (Y.m ?_))
 refine Y.j (dA rfl (.s16 (.s16 (.s16 (.s16 .g1)))) dO .z bA) (.c .g1 (.c .g1 (.c .g1 (.c .g1 .n)))) ?_
 exact⟨(⟨0,8,0,[],[],(⟨f.inodes,f.data⟩:DFs)⟩:eB),(by first | exact hj | assumption | exact jA hj _ _),_,_,_,_,rfl,rfl⟩
 refine Y.skip (Y.g (Y.seq (Y.region (Y.ql rfl (qW rfl bN (.t (.s16 (.s16 (.s16 (.s16 .g1))))) .g2 aX) ?_))))
 refine Y.cl rfl rfl Tryz.func67 rfl rfl (bH (.t .z)) .n (fun _ _ hs tr=>uY (aM f (tr.ctx aa) (tr.ctx ab))) ?_
 rintro _ _ ⟨kb,kc,rfl,rfl⟩
 refine Y.r (.c (.c .n)) ?_
 refine Y.i (WS.a .z) ?_
 rintro⟨h7,h8,rfl,du,dv,dw⟩
 refine Y.i (WS.a .g1) ?_
 rintro⟨h9,ia,rfl,dx,dy,dz⟩
 refine Y.el rfl (bD rfl mQ rfl rfl) ?_
 rintro _ _ ⟨g126,rfl,rfl⟩
 refine Y.es (aE rfl) rfl (esW rfl (.t .z) (.t .g1) .z aX rfl rfl) ?_
 refine Y.nt (Y.seq (Y.region (Y.mv rfl (.s16 (.s16 (.s16 .g10))) (Y.mv rfl (.s16 (.s16 .g14)) ?_))))
 obtain⟨ae,a1,am, -⟩:=mB (show¬fC (dG ((aQ f c.path).2.1)) ao.ents= -1 by omega)
 refine Y.eq .z (congrArg (Value.int .i64) a1) ?_
 have bj:ae<(aH f.inodes (aQ f c.path).1).length:=by rw [av];exact am
 refine Y.cl rfl rfl Tryz.func175 rfl rfl (eQ (.t .g2) (.t .g1) (.t .z)) (.c .z (.c .z (.c .z .n))) (fun _ _ hs tr=>aBs (f:=f) _ _ hs (by assumption) (by first | assumption |(constructor <;> omega)) (by first | omega | assumption)) ?_
 rintro _ _ ⟨kd,ke,rfl,rfl⟩
 refine Y.r (.c (.c (.c .n))) ?_
 refine Y.i (WS.a .g1) ?_
 rintro⟨bk,bm,rfl,d0,d1,d2⟩
 refine Y.i (WS.a .g2) ?_
 rintro⟨bn,bo,rfl,d3,d4,d5⟩
 refine Y.nt (Y.seq (Y.region (Y.ql rfl (qW rfl bN (.t .g3) .z aX) (Y.ql rfl (aZ (cs:= [.int .i64 0,.int .i64 0,.int .i64 0,.slice none 0 0,.slice none 0 0,.slice bk ((iZ f ((aQ f c.path).1) ae).inodes).length bm,.slice bn ((iZ f ((aQ f c.path).1) ae).data).length bo]) rfl mD (pv1 (.t .z)) rfl) ?_))))
 refine Y.es (aE rfl) rfl (esW rfl (.t (.s16 (.s16 (.s16 (.s16 .g7))))) (.t .z) .g3 bA rfl rfl) ?_
 refine Y.nt (Y.ret ?_)
 refine Y.add (c:=aG bX [] [.slice none 0 0]) (fun w S=>aK w S none) ?_
 refine Y.add (c:=aG fJ [] [.slice none 0 0]) (fun w S=>aK w S none) ?_
 refine Y.j (dA rfl (.s16 (.s16 (.s16 (.s16 .g7)))) dO .g2 bA) (.c .g1 (.c .z (.c .g2 (.c .g2 .n)))) ?_
 exact⟨(⟨0,0,0,[],[],(⟨(iZ f ((aQ f c.path).1) ae).inodes,(iZ f ((aQ f c.path).1) ae).data⟩:DFs)⟩:eB),(by first | exact hj | assumption | exact jA hj _ _),_,_,_,_,rfl,rfl⟩
 refine Y.h rfl rfl .z rfl rfl (by decide) rfl ?_
 refine Y.h rfl rfl .g1 rfl rfl (by decide) rfl ?_
 refine Y.h rfl rfl .g2 rfl rfl (by decide) rfl ?_
 refine Y.h rfl rfl .g3 rfl rfl (by decide) rfl ?_
 refine Y.h rfl rfl .g4 rfl rfl (by decide) rfl ?_
 refine Y.ql rfl (aV rfl (.t .g5) .c) (Y.nt ?_)
 refine Y.an (.t .z) ?_
 refine Y.skip (Y.g (Y.seq (Y.seq (Y.region (Y.mv rfl (.s16 .g4) (Y.nc rfl .z (Y.fa rfl .z bM (Y.le rfl eA .z ac ad ?_))))))))
 refine Y.ql rfl (bE rfl dQ (.t .z)) (Y.ql rfl (gA rfl (.t .z) .c) (Y.nt ?_))
 refine Y.u (.t .z) (fun d6=> ?_) (fun d6=> ?_)
 refine Y.seq (Y.region (Y.ql rfl (qW rfl bN (.t (.s16 (.s16 (.s16 (.s16 .g1))))) .g2 aX) ?_))
 refine Y.cl rfl rfl Tryz.func172 rfl rfl (aR (.t .z) .c) .n (fun _ _ hs tr=>gX (aM f (tr.ctx aa) (tr.ctx ab)) _) ?_
 rintro _ _ ⟨kf,kg,kh,ki,rfl,rfl⟩
 refine Y.r (.c (.c (.c (.c .n)))) ?_
 refine Y.i (WS.a .z) ?_
 rintro⟨ib,ic,rfl,d7,d8,d9⟩
 refine Y.i (WS.a .g1) ?_
 rintro⟨id,ie,rfl,ea,eb,ec⟩
 refine Y.i (WS.a .g2) ?_
 rintro⟨ig,ih,rfl,ed,ee,ef⟩
 refine Y.i (WS.a .g3) ?_
 rintro⟨ii,ij,rfl,eg,eh,ei⟩
 refine Y.es (aE rfl) rfl (esW rfl (.t (.s16 (.s16 (.s16 (.s16 .g1))))) (.t .z) .g4 bA rfl rfl) ?_
 refine Y.nt (Y.ret (Y.m ?_))
 refine Y.j (dA rfl (.s16 (.s16 (.s16 (.s16 .g1)))) dO .z bA) (.c .g1 (.c .g1 (.c .g1 (.c .g1 .n)))) ?_
 exact⟨(⟨0,8,0,[],[],(⟨f.inodes,f.data⟩:DFs)⟩:eB),(by first | exact hj | assumption | exact jA hj _ _),_,_,_,_,rfl,rfl⟩
 refine Y.skip (Y.g (Y.seq (Y.region (Y.ql rfl (qW rfl bN (.t (.s16 (.s16 (.s16 (.s16 .g1))))) .g2 aX) ?_))))
 refine Y.cl rfl rfl Tryz.func67 rfl rfl (bH (.t .z)) .n (fun _ _ hs tr=>uY (aM f (tr.ctx aa) (tr.ctx ab))) ?_
 rintro _ _ ⟨kj,kk,rfl,rfl⟩
 refine Y.r (.c (.c .n)) ?_
 refine Y.i (WS.a .z) ?_
 rintro⟨ik,il,rfl,ej,ek,em⟩
 refine Y.i (WS.a .g1) ?_
 rintro⟨im,io,rfl,en,eo,ep⟩
 refine Y.el rfl (bD rfl mQ rfl rfl) ?_
 rintro _ _ ⟨g155,rfl,rfl⟩
 refine Y.es (aE rfl) rfl (esW rfl (.t .z) (.t .g1) .z aX rfl rfl) ?_
 refine Y.nt (Y.seq (Y.region (Y.mv rfl (.s16 (.s16 (.s16 .g10))) (Y.mv rfl (.s16 (.s16 .g14)) ?_))))
 obtain⟨af,a2,an, -⟩:=mB (show¬fC (dG ((aQ f c.path).2.1)) ao.ents= -1 by omega)
 refine Y.eq .z (congrArg (Value.int .i64) a2) ?_
 have bp:af<(aH f.inodes (aQ f c.path).1).length:=by rw [av];exact an
 refine Y.cl rfl rfl Tryz.func175 rfl rfl (eQ (.t .g2) (.t .g1) (.t .z)) (.c .z (.c .z (.c .z .n))) (fun _ _ hs tr=>aBs (f:=f) _ _ hs (by assumption) (by first | assumption |(constructor <;> omega)) (by first | omega | assumption)) ?_
 rintro _ _ ⟨kl,km,rfl,rfl⟩
 refine Y.r (.c (.c (.c .n))) ?_
 refine Y.i (WS.a .g1) ?_
 rintro⟨bq,br,rfl,et,eu,ev⟩
 refine Y.i (WS.a .g2) ?_
 rintro⟨bs,bt,rfl,ew,ey,ez⟩
 refine Y.nt (Y.seq (Y.region (Y.ql rfl (qW rfl bN (.t .g3) .z aX) (Y.ql rfl (aZ (cs:= [.int .i64 0,.int .i64 0,.int .i64 0,.slice none 0 0,.slice none 0 0,.slice bq ((iZ f ((aQ f c.path).1) af).inodes).length br,.slice bs ((iZ f ((aQ f c.path).1) af).data).length bt]) rfl mD (pv1 (.t .z)) rfl) ?_))))
 refine Y.es (aE rfl) rfl (esW rfl (.t (.s16 (.s16 (.s16 (.s16 .g7))))) (.t .z) .g3 bA rfl rfl) ?_
 refine Y.nt (Y.ret ?_)
 refine Y.add (c:=aG bX [] [.slice none 0 0]) (fun w S=>aK w S none) ?_
 refine Y.add (c:=aG fJ [] [.slice none 0 0]) (fun w S=>aK w S none) ?_
 refine Y.j (dA rfl (.s16 (.s16 (.s16 (.s16 .g7)))) dO .g2 bA) (.c .g1 (.c .z (.c .g2 (.c .g2 .n)))) ?_
 exact⟨(⟨0,0,0,[],[],(⟨(iZ f ((aQ f c.path).1) af).inodes,(iZ f ((aQ f c.path).1) af).data⟩:DFs)⟩:eB),(by first | exact hj | assumption | exact jA hj _ _),_,_,_,_,rfl,rfl⟩

theorem aKh {w0:World}{S0:Bs}{f:DFs}{aq:List Value} (h0:eS.ro w0 (FF w0 S0) f aq) {c:oP}{ar:List Value} (h1:uD.ro w0 (FF w0 S0) c ar) (hj:Jf f):
    Calls Tryz.prog 160 #[.agg aq.toArray,.agg ar.toArray] w0 (aI w0 S0 (fun r l=>∃x:eB,Jf x.fs∧rI x r l)):=by
 obtain⟨ci,cj,rfl,aa,ab⟩:=cQ h0
 obtain⟨ac,ad,rfl,au,av,aw,ax⟩:=aD aa
 obtain⟨ae,af,rfl,ay,az,a0,a1⟩:=aD ab
 obtain⟨ck,rfl,ai,cm,cn⟩:=rU h1
 obtain⟨ag,ah,rfl,a2,a3,a4,a5⟩:=aD ai
 have ht:J0 f:=hj.toJ0
 have dh:=hj.n.2
 have di:=hj.n.1
 refine Y.enter (N:=59) Tryz.func160 rfl rfl (by simp) [(0,.agg #[.slice ac f.inodes.length ad,.slice ae f.data.length af]),(1,.agg #[.int .i64 c.kind,.string c.path,.string c.to,.int .i64 c.frm,.int .i64 c.size,.slice ag c.data.length ah])] (by simp) (l0:= []) trivial ?_
 refine Y.seq (Y.region ?_)
 refine Y.el rfl (fR (cs:= [.slice ac f.inodes.length ad,.slice ae f.data.length af]) (n:=2) rfl (.t .z) rfl rfl) ?_
 rintro _ _ ⟨g4,rfl,rfl⟩
 refine Y.el rfl (fR (cs:= [.int .i64 c.kind,.string c.path,.string c.to,.int .i64 c.frm,.int .i64 c.size,.slice ag c.data.length ah]) (n:=6) rfl (.t .g2) rfl rfl) ?_
 rintro _ _ ⟨g5,rfl,rfl⟩
 refine Y.el rfl (bD rfl tA rfl rfl) ?_
 rintro _ _ ⟨g6,rfl,rfl⟩
 refine Y.nt (Y.seq (Y.seq (Y.region (Y.fa rfl .g1 pD (Y.ld rfl bR .z .g1 (Y.ql rfl (bP rfl (.t .z) .c) (Y.nil ?_)))))))
 refine Y.g ?_
 refine Y.u (.t .z) (fun b7=> ?_) (fun b7=> ?_)
 refine Y.seq (Y.region (Y.ql rfl (qW rfl bN (.t .g5) .g2 aX) (Y.fa rfl .g5 mY (Y.ld rfl kP .z .g1 ?_))))
 refine Y.cl rfl rfl Tryz.func179 rfl rfl (aR (.t .g2) (.t .z)) .n (fun _ _ hs tr=>aL8 (aM f (tr.ctx aa) (tr.ctx ab)) _ (by first | assumption | omega)) ?_
 rintro _ _ ⟨rfl,rfl⟩
 refine Y.r .n ?_
 refine Y.el rfl (bD rfl aIo rfl rfl) ?_
 rintro _ _ ⟨g8,rfl,rfl⟩
 refine Y.es (aE rfl) rfl (esW rfl (.t .z) (.t .g1) .z pL rfl rfl) ?_
 refine Y.nt (Y.seq (Y.region (Y.ql rfl (qW rfl bN (.t .g10) .g3 aX) (Y.fa rfl .g1 aGh (Y.ld rfl bR .z .z ?_)))))
 obtain⟨⟨hsa,hsb⟩,⟨hsc,hsd⟩,hse,hsf⟩:=aFs ht c.path
 refine Y.cl rfl rfl Tryz.func172 rfl rfl (aR (.t .g2) (.t .z)) .n (fun _ _ hs tr=>gX (aM f (tr.ctx aa) (tr.ctx ab)) _) ?_
 rintro _ _ ⟨v9,dj,dp,ds,rfl,rfl⟩
 refine Y.r (.c (.c (.c (.c .n)))) ?_
 refine Y.i (WS.a .z) ?_
 rintro⟨co,cp,rfl,a6,a7,a8⟩
 refine Y.i (WS.a .g1) ?_
 rintro⟨cq,cr,rfl,a9,ba,bb⟩
 refine Y.i (WS.a .g2) ?_
 rintro⟨ct,cu,rfl,bc,bd,be⟩
 refine Y.i (WS.a .g3) ?_
 rintro⟨cv,cw,rfl,bf,bg,bh⟩
 refine Y.el rfl (bD rfl tA rfl rfl) ?_
 rintro _ _ ⟨g21,rfl,rfl⟩
 refine Y.es (aE rfl) rfl (esW rfl (.t .z) (.t .g1) .z bA rfl rfl) ?_
 refine Y.nt (Y.seq (Y.region (Y.fa rfl .g5 aGk (Y.ld rfl bR .z .g5 ?_))))
 refine Y.ql rfl (pF (c:=((kF f c.path).kind) * 1000) rfl (.t .z) .c (wr (by omega) (by omega) (by omega))) ?_
 refine Y.fa rfl .g8 aFx (Y.ld rfl bR .z .g5 ?_)
 refine Y.ql rfl (pF (c:=((kF f c.path).links) * 100) rfl (.t .z) .c (wr (by omega) (by omega) (by omega))) ?_
 refine Y.ql rfl (bG (c:=(((kF f c.path).kind) * 1000)+(((kF f c.path).links) * 100)) rfl (.t .g3) (.t .z) (wr (by omega) (by omega) (by omega))) ?_
 refine Y.fa rfl .g12 aFf (Y.ld rfl bR .z .g5 ?_)
 refine Y.ql rfl (bG (c:=((((kF f c.path).kind) * 1000)+(((kF f c.path).links) * 100))+((kF f c.path).size)) rfl (.t .g2) (.t .z) (wr (by omega) (by omega) (by omega))) ?_
 refine Y.fa rfl .g10 aGb ?_
 refine Y.es (aE rfl) rfl (es1 (off:=2) rfl hP (.t .z) (.t .g1) rfl rfl .z rfl .g2) ?_
 refine Y.nt (Y.seq (Y.region (Y.ql rfl (qW rfl dO (.t .g11) .z bA) ?_)))
 refine Y.es (aE rfl) rfl (esW rfl (.t (.s16 .g9)) (.t .z) .g6 bA rfl rfl) ?_
 refine Y.nt (Y.ret (Y.m ?_))
 refine Y.j (dA rfl (.s16 .g9) dO .z bA) (.c .g2 (.c .g2 (.c .g2 (.c .g2 .n)))) ?_
 exact⟨(⟨0,((kF f c.path).code),((((kF f c.path).kind) * 1000)+(((kF f c.path).links) * 100))+((kF f c.path).size),[],[],(⟨f.inodes,f.data⟩:DFs)⟩:eB),(by first | exact hj | assumption),_,_,_,_,rfl,rfl⟩
 refine Y.skip (Y.g (Y.seq (Y.region (Y.fa rfl .g4 mY (Y.ld rfl kP .z .g1 ?_)))))
 refine Y.cl rfl rfl Tryz.func174 rfl rfl (aR (.t .g7) (.t .z)) .n (fun _ _ hs tr=>aC3 (tr.ptr .g2 (aM f (tr.ctx aa) (tr.ctx ab))) _ (by first | assumption | omega) (by assumption)) ?_
 rintro _ _ ⟨rfl,rfl⟩
 refine Y.r .n ?_
 have aj:=pO ht c.path
 refine Y.mv rfl .z (Y.ql rfl (bL (v:= .int .i64 ((cR f c.path).1)) rfl (.t .z) rfl) (Y.ql rfl (bL (v:= .int .i64 ((cR f c.path).2)) rfl (.t .g1) rfl) (Y.as rfl .g1 (Y.as rfl .g1 (Y.nt (Y.seq (Y.seq ?_)))))))
 refine Y.region (Y.mv rfl .z (Y.ql rfl (cC rfl (.t .z) .c) (Y.nt ?_)))
 refine Y.ad (.t .z) (fun cx=> ?_) (fun cx=> ?_)
 refine Y.seq (Y.region (Y.ql rfl (qW rfl bN (.t .g15) .g2 aX) (Y.mv rfl .g3 ?_)))
 obtain⟨⟨hsa,hsb⟩,⟨hsc,hsd⟩,hse,hsf⟩:=aFs ht c.path
 refine Y.cl rfl rfl Tryz.func172 rfl rfl (aR (.t .g1) (.t .z)) .n (fun _ _ hs tr=>gX (aM f (tr.ctx aa) (tr.ctx ab)) _) ?_
 rintro _ _ ⟨dt,du,dv,dw,rfl,rfl⟩
 refine Y.r (.c (.c (.c (.c .n)))) ?_
 refine Y.i (WS.a .z) ?_
 rintro⟨cy,cz,rfl,bi,bj,bk⟩
 refine Y.i (WS.a .g1) ?_
 rintro⟨c0,c1,rfl,bm,bn,bo⟩
 refine Y.i (WS.a .g2) ?_
 rintro⟨c2,c3,rfl,bp,bq,br⟩
 refine Y.i (WS.a .g3) ?_
 rintro⟨c4,c5,rfl,bs,bt,bu⟩
 refine Y.es (aE rfl) rfl (esW rfl (.t .g16) (.t .z) .g4 bA rfl rfl) ?_
 refine Y.nt (Y.ret (Y.m ?_))
 refine Y.j (dA rfl .g16 dO .z bA) (.c .g1 (.c .g1 (.c .g1 (.c .g1 .n)))) ?_
 exact⟨(⟨0,((cR f c.path).2),0,[],[],(⟨f.inodes,f.data⟩:DFs)⟩:eB),(by first | exact hj | assumption),_,_,_,_,rfl,rfl⟩
 refine Y.skip (Y.g (Y.seq (Y.region (Y.ql rfl (qW rfl bN (.t .g15) .g2 aX) (Y.mv rfl .g4 ?_)))))
 refine Y.cl rfl rfl Tryz.func180 rfl rfl (aR (.t .g1) (.t .z)) .n (fun _ _ hs tr=>aKm (aM f (tr.ctx aa) (tr.ctx ab)) _) ?_
 rintro _ _ ⟨dx,rfl,rfl⟩
 refine Y.r (.c .n) ?_
 refine Y.i (WS.a .z) ?_
 rintro⟨ak,al,rfl,bv,bw,bx⟩
 refine Y.el rfl (bD rfl aJ4 rfl rfl) ?_
 rintro _ _ ⟨g39,rfl,rfl⟩
 refine Y.es (aE rfl) rfl (esW rfl (.t .z) (.t .g1) .z wW rfl rfl) ?_
 refine Y.nt (Y.seq (Y.seq (Y.region (Y.fa rfl .z aEe (Y.ld rfl bR .z .z (Y.ql rfl (cC rfl (.t .z) .c) (Y.nil ?_)))))))
 refine Y.g ?_
 refine Y.ad (.t .z) (fun c6=> ?_) (fun c6=> ?_)
 refine Y.seq (Y.region (Y.ql rfl (qW rfl bN (.t (.s16 .g6)) .g4 aX) (Y.fa rfl .g4 aEe (Y.ld rfl bR .z .z ?_))))
 obtain⟨⟨hsa,hsb⟩,⟨hsc,hsd⟩,hse,hsf⟩:=aFs ht c.path
 refine Y.cl rfl rfl Tryz.func172 rfl rfl (aR (.t .g2) (.t .z)) .n (fun _ _ hs tr=>gX (aM f (tr.ctx aa) (tr.ctx ab)) _) ?_
 rintro _ _ ⟨dy,dz,d0,d1,rfl,rfl⟩
 refine Y.r (.c (.c (.c (.c .n)))) ?_
 refine Y.i (WS.a .z) ?_
 rintro⟨c7,c8,rfl,bz,b0,b1⟩
 refine Y.i (WS.a .g1) ?_
 rintro⟨c9,da,rfl,b2,b3,b4⟩
 refine Y.i (WS.a .g2) ?_
 rintro⟨db,dc,rfl,b5,b6,b8⟩
 refine Y.i (WS.a .g3) ?_
 rintro⟨dd,dg,rfl,b9,ca,cb⟩
 refine Y.es (aE rfl) rfl (esW rfl (.t (.s16 .g8)) (.t .z) .g6 bA rfl rfl) ?_
 refine Y.nt (Y.ret (Y.m ?_))
 refine Y.j (dA rfl (.s16 .g8) dO .z bA) (.c .g1 (.c .g1 (.c .g1 (.c .g1 .n)))) ?_
 exact⟨(⟨0,((tS f ((cR f c.path).1)).code),0,[],[],(⟨f.inodes,f.data⟩:DFs)⟩:eB),(by first | exact hj | assumption),_,_,_,_,rfl,rfl⟩
 refine Y.skip (Y.g (Y.seq ?_))
 refine Y.sel (.c .g1 (.c .z (.c .z (.c .z (.c .z .n))))) ?_
 refine Y.dr .g1 5 gB ?_
 refine Y.sc (qs 0 3++ [(3,false),(4,true),(5,false)]) (by kernel_rfl) ?_
 refine Y.df rfl rfl .g1 .g3 zY (Y.dl rfl rfl .g1 aIp .z .z (Y.dk rfl rfl .g1 (qW rfl bN (.t (.s16 .g8)) .g3 aX) ?_))
 refine Y.call (aC rfl rfl) rfl (by decide) rfl (bF rfl Tryz.func67 rfl rfl (bH (.t .z))) .n (fun _ _ hs tr=>uY (aM f (tr.ctx aa) (tr.ctx ab))) ?_
 rintro _ _ ⟨d2,d3,rfl,rfl⟩
 refine Y.r (.c (.c .n)) ?_
 refine Y.i (WS.a .z) ?_
 rintro⟨am,an,rfl,cc,cd,ce⟩
 refine Y.i (WS.a .g1) ?_
 rintro⟨ao,ap,rfl,cf,cg,ch⟩
 refine Y.sk .g3 ?_
 refine Y.dk rfl rfl .g3 (aZ (cs:= [.int .i64 0,.int .i64 0,.int .i64 0,.slice none 0 0,.slice ak ((tS f ((cR f c.path).1)).names).length al,.slice am f.inodes.length an,.slice ao f.data.length ap]) rfl mD (pv2 (.t .g2) (.t .z)) rfl) ?_
 refine Y.es (aC rfl rfl) rfl (esW rfl (.t (.s16 .g9)) (.t .z) .g4 bA rfl rfl) ?_
 refine Y.sl rfl ?_
 refine Y.aa ?_
 refine Y.ai (by kernel_rfl) ?_
 refine Y.g (Y.ret ?_)
 refine Y.add (c:=aG bX [] [.slice none 0 0]) (fun w S=>aK w S none) ?_
 refine Y.j (dA rfl (.s16 .g9) dO .g1 bA) (.c .z (.c .g3 (.c .g1 (.c .g1 .n)))) ?_
 exact⟨(⟨0,0,0,[],(tS f ((cR f c.path).1)).names,(⟨f.inodes,f.data⟩:DFs)⟩:eB),(by first | exact hj | assumption),_,_,_,_,rfl,rfl⟩

end Go.Proofs.YtmejbfmhaoilmaaGreat

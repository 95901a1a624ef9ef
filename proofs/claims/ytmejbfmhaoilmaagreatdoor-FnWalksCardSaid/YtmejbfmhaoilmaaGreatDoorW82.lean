/- What is proved: contracts of functions, one a function. No condition. -/
import Derived.Test.YtmejbfmhaoilmaaGreatDoorBase1
import Derived.Test.YtmejbfmhaoilmaaGreatDoorPart3
import Derived.Test.YtmejbfmhaoilmaaGreatDoorW81
import Derived.Test.YtmejbfmhaoilmaaGreatDoorW35
namespace Go.Proofs.YtmejbfmhaoilmaaGreatDoor
open Go Go.RowKit
set_option linter.unusedVariables false
set_option linter.unusedSimpArgs false
set_option maxHeartbeats 1000000
set_option maxRecDepth 20000
theorem aB1 {w0:World}{S0:Bs}{f:DFs}{g0 e0 s0:Nat}{ad:List Value}{af:Value}{ag:Value} (a:Int) (i:Nat) (hs:cI [bV g0 e0 s0 1 (af :: ag :: ad),aH bJ f.inodes [af],aH eH f.data [ag]] w0 S0) (hj:Jf f) (hp:bQ f.inodes.length a) (hi:i<(aG f.inodes a).length):
    Calls Tryz.prog 110 #[.pointer (some ⟨g0,0,none⟩),.int .i64 a,.int .i64 (i:Int)] w0 (aI w0 S0 (aHp g0 e0 s0 ad (iX f a i))):=by
 have ht:J0 f:=hj.toJ0
 have bm:=hj.n.2
 have bn:=hj.n.1
 obtain⟨bo,bp⟩:=hp
 refine Y.enter (N:=30) Tryz.func110 rfl rfl (by simp) [(0,.pointer (some ⟨g0,0,none⟩)),(1,.int .i64 a),(2,.int .i64 (i:Int))] (by simp) hs ?_
 refine Y.h (WS.a .g1) ?_
 rintro⟨bq,br,rfl,a2,a3,a4⟩
 refine Y.h (WS.a .g2) ?_
 rintro⟨bs,bt,rfl,a5,a6,a7⟩
 refine Y.seq (Y.region (Y.mv rfl .z (Y.mv rfl .g2 (Y.mv rfl .g4 ?_))))
 refine Y.cl rfl rfl Tryz.func113 rfl rfl (eL (.t .g2) (.t .g1) (.t .z)) (.c .z (.c .z (.c .z .n))) (fun _ _ hs tr=>aHb (f:=f) _ _ hs (by first | assumption |(constructor <;> omega)) (by omega)) ?_
 rintro _ _ ⟨v3,v5,rfl,rfl⟩
 refine Y.m (.c (.c (.c .n))) ?_
 refine Y.h (WS.a .g1) ?_
 rintro⟨bu,bv,rfl,a8,a9,ba⟩
 refine Y.h (WS.a .g2) ?_
 rintro⟨bw,bx,rfl,bb,bc,bd⟩
 refine Y.as rfl .z (Y.nt (Y.seq (Y.region (Y.mv rfl .g5 (Y.mv rfl .g1 ?_)))))
 have hkp:=pO ht hi
 have hlp:wQ (dG f a (List.eraseIdx (aG f.inodes a) i)) (eT (aG f.inodes a) i):=aGi (wL hj) (by show bQ (gL _ _ _).length _;rw [dF];exact hkp)
 have hLl:(gY (dG f a (List.eraseIdx (aG f.inodes a) i)) (eT (aG f.inodes a) i)).inodes.length=f.inodes.length:=yG.trans dF
 obtain⟨bz,b0⟩:=hkp
 refine Y.cl rfl rfl Tryz.func139 rfl rfl (aS (.t .g1) (.t .z)) (.c .z (.c .z (.c .z .n))) (fun _ _ hs tr=>aLy (f:=(dG f a (List.eraseIdx (aG (f).inodes a) i))) _ hs hlp) ?_
 rintro _ _ ⟨v9,b1,rfl,rfl⟩
 refine Y.m (.c (.c (.c .n))) ?_
 refine Y.h (WS.a .g1) ?_
 rintro⟨be,ah,rfl,ao,ap,aq⟩
 refine Y.h (WS.a .g2) ?_
 rintro⟨bf,bg,rfl,ar,au,av⟩
 refine Y.nt (Y.seq (Y.region (Y.mv rfl .g8 (Y.nc rfl .z (Y.fa rfl .z aP (Y.ld rfl bR .z .z (Y.mv rfl .g7 ?_)))))))
 refine Y.aa (.c .g1 .n) fP ?_
 rintro ai aa
 obtain⟨ae,ab⟩:=aK (xs:=(gY (dG f a (List.eraseIdx (aG (f).inodes a) i)) (eT (aG (f).inodes a) i)).inodes) (j:=Int.toNat (eT (aG (f).inodes a) i)) (by first | omega |(simp <;> omega))
 obtain⟨b2,ac⟩:=aK (xs:=ai) (j:=Int.toNat (eT (aG (f).inodes a) i)) (by rw [aa];exact(List.getElem?_eq_some_iff.1 ab).1)
 refine Y.au .g1 (eJ ab ac) ?_
 refine Y.aa (.c .z .n) fC ?_
 rintro⟨b3,b4⟩ rfl
 refine Y.h (WS.a .z) ?_
 rintro⟨ak,al,rfl,aw,ax,ay⟩
 refine Y.h (WS.a .g1) ?_
 rintro⟨am,an,rfl,az,a0,a1⟩
 have bh:=cO (i:=(eT (aG (f).inodes a) i)) ab (by omega)
 have bi:=cP (a:=(eT (aG (f).inodes a) i)) ab (by omega)
 have bj:=dL (a:=(eT (aG (f).inodes a) i)) ab (by omega)
 refine Y.h (WS.h .g4 (by first | omega |(simp <;> omega) |(simp only [List.length_append,List.length_cons,List.length_nil,List.length_set] at *;omega))) ?_
 rintro⟨aj,rfl⟩
 refine Y.ql rfl (aB (j:=Int.toNat (eT (aG (f).inodes a) i)) rfl cQ aT (.t .g1) (.t .z) (by omega) (by first | omega |(simp <;> omega))) ?_
 refine Y.fa rfl .z bS (Y.ql rfl (aM rfl bP (.t .z) (WS.j .g4 ac rfl)) (Y.ql rfl (bU rfl (.t .z) .c) (Y.nt ?_)))
 refine Y.u (.t .z) (fun bk=> ?_) (fun bk=> ?_)
 refine Y.region (Y.mv rfl (.s16 .g1) (Y.nc rfl .z (Y.fa rfl .z aP (Y.ld rfl bR .z .g5 (Y.mv rfl .g16 (Y.ql rfl (aW (cs:= [.int .i64 0,.int .i64 0,.int .i64 0,.slice none 0 0,.slice none 0 0]) rfl sH pv0 rfl) ?_))))))
 refine Y.ql rfl (aB (j:=Int.toNat (eT (aG (f).inodes a) i)) rfl cQ aT (.t .g2) (.t .g1) (by omega) (by first | omega |(simp <;> omega))) ?_
 refine Y.es (aE rfl) rfl (kU (j:=Int.toNat (eT (aG (f).inodes a) i)) (off:=0) (cs:= [.int .i64 0,.int .i64 0,.int .i64 0,.slice none 0 0,.slice none 0 0]) rfl aT (.t .z) rfl (.t .g1) rfl (pX rfl) .g4 ac (Nat.le_of_ble_eq_true rfl)) ?_
 refine Y.ah (x':=List.set ai (Int.toNat (eT (aG (f).inodes a) i)) [.int .i64 0,.int .i64 0,.int .i64 0,.slice none 0 0,.slice none 0 0]) .z rfl ?_
 refine Y.nil ?_
 refine Y.add (c:=aH bK [] [.slice none 0 0]) (fun w S=>aL w S none) ?_
 refine Y.add (c:=aH dU [] [.slice none 0 0]) (fun w S=>aL w S none) ?_
 refine Y.ad (c:=aH cR (⟨0,0,0,[],[]⟩:aF) [.int .i64 0,.int .i64 0,.int .i64 0,.slice none 0 0,.slice none 0 0]) (.c .g1 (.c .z .n)) (fun w S h=>cZ (⟨0,0,0,[],[]⟩:aF) h) ?_
 refine Y.ad (c:=aH bJ (List.set ((gY (dG f a (List.eraseIdx (aG (f).inodes a) i)) (eT (aG (f).inodes a) i)).inodes) (Int.toNat (eT (aG (f).inodes a) i)) (⟨0,0,0,[],[]⟩:aF)) [.slice (some aj) ((gY (dG f a (List.eraseIdx (aG (f).inodes a) i)) (eT (aG (f).inodes a) i)).inodes).length ah]) (.c .g1 (.c .z (.c .g2 (.c .g2 .n)))) (eU (K:=cR) aa (List.getElem?_eq_some_iff.1 ab).1 rfl) ?_
 refine Y.ax (aDi rfl) (.c .g3 (.c .z (.c .g2 .n))) ?_
 exact⟨_,_,rfl,by first |(rw [aEj (by omega)];done) |(rw [aEp (by omega)];done)⟩
 refine Y.skip ?_
 refine Y.ad (c:=aH cR ae [.int .i64 ae.kind,.int .i64 ae.links,.int .i64 ae.size,.slice ak ae.blocks.length al,.slice am ae.ents.length an]) (.c .z (.c .z .n)) (fun w S h=>cZ ae h) ?_
 refine Y.ad (c:=aH bJ ((gY (dG f a (List.eraseIdx (aG (f).inodes a) i)) (eT (aG (f).inodes a) i)).inodes) [.slice (some aj) ((gY (dG f a (List.eraseIdx (aG (f).inodes a) i)) (eT (aG (f).inodes a) i)).inodes).length ah]) (.c .g3 (.c .z (.c .z (.c .z .n)))) (eM (K:=cR) aa ab ac) ?_
 refine Y.ax (aDi rfl) (.c .g1 (.c .z (.c .z .n))) ?_
 exact⟨_,_,rfl,by first |(rw [aEj (by omega)];done) |(rw [aEp (by omega)];done)⟩

theorem aJ8 {w0:World}{S0:Bs}{f:DFs}{aj:Addr} (h0:eV dV w0 (FF w0 S0) aj f) (a:Int) (b:Int) (hp:bQ f.inodes.length a) (hq:bQ f.inodes.length b):
    Calls Tryz.prog 112 #[.pointer (some aj),.int .i64 a,.int .i64 b] w0 (aI w0 S0 (fun r l=>∃c:Int,(c=0→(aG f.inodes b).length=0)∧r= .int .i64 c∧l= [])):=by
 obtain⟨ca,ak,bz,al⟩:=id h0
 obtain⟨b0,b1,rfl,am,an⟩:=bZ bz
 obtain⟨b2,b3,rfl,bc,bd,be,ab⟩:=aD am
 obtain⟨b4,b5,rfl,bf,bg,bh,bi⟩:=aD an
 obtain⟨cb,cc⟩:=hp
 obtain⟨cd,ce⟩:=hq
 refine Y.enter (N:=36) Tryz.func112 rfl rfl (by simp) [(0,.pointer (some aj)),(1,.int .i64 a),(2,.int .i64 b)] (by simp) (l0:= []) trivial ?_
 refine Y.seq (Y.region (Y.ql rfl (aA rfl .c) (Y.nt (Y.seq (Y.seq ?_)))))
 refine Y.dr .z 19 fR ?_
 refine Y.sc (qs 0 19) (by kernel_rfl) ?_
 refine Y.dm rfl rfl .z .g1 (Y.dn rfl rfl .z .z (Y.df rfl rfl .z .z aP (Y.de rfl rfl .z bR .z ak al (Y.dm rfl rfl .z .g6 ?_))))
 obtain⟨cf,ac,aa⟩:=ab (by omega)
 subst ac
 obtain⟨x4,bj⟩:=aK (xs:=f.inodes) (j:=Int.toNat a) (by omega)
 obtain⟨b6,ao,ap,aq⟩:=aa.elem bj
 obtain⟨bk,bm,rfl,ad,ae⟩:=bY ao
 obtain⟨bn,bo,rfl,ar,au,av,aw⟩:=aD ad
 obtain⟨bp,bq,rfl,ax,ay,az,a0⟩:=aD ae
 have a1:=cP (a:=a) bj (by omega)
 refine Y.dk rfl rfl .z (aB (j:=Int.toNat a) rfl cQ aT (.t .g1) (.t .z) (by omega) (by omega)) ?_
 refine Y.df rfl rfl .z .z bS (Y.de rfl rfl .z bP .z ap aq (Y.dk rfl rfl .z (bU rfl (.t .z) .c) (Y.dm rfl rfl .z .g10 (Y.dn rfl rfl .z .z (Y.df rfl rfl .z .z aP (Y.de rfl rfl .z bR .z ak al (Y.dm rfl rfl .z .g16 ?_)))))))
 obtain⟨x8,br⟩:=aK (xs:=f.inodes) (j:=Int.toNat b) (by omega)
 obtain⟨b7,a2,af,ag⟩:=aa.elem br
 obtain⟨bs,bt,rfl,ah,ai⟩:=bY a2
 obtain⟨bu,bv,rfl,a3,a4,a5,a6⟩:=aD ah
 obtain⟨bw,bx,rfl,a7,a8,a9,ba⟩:=aD ai
 have bb:=cP (a:=b) br (by omega)
 refine Y.dk rfl rfl .z (aB (j:=Int.toNat b) rfl cQ aT (.t .g1) (.t .z) (by omega) (by omega)) ?_
 refine Y.df rfl rfl .z .z bS (Y.de rfl rfl .z bP .z af ag (Y.dk rfl rfl .z (bU rfl (.t .z) .c) (Y.dk rfl rfl .z (aKq rfl u_4 (.t .g9) (.t .z)) (Y.w ?_))))
 refine Y.af (by kernel_rfl) ?_
 refine Y.g ?_
 refine Y.cond (.t .z) (fun b8=> ?_) (fun b8=> ?_)
 refine Y.seq (Y.region (Y.er (.s16 .g3) (Y.ql rfl (aA rfl .c) (Y.nt (Y.ret (Y.j ?_))))))
 refine Y.i (aU rfl .z) .n ?_
 exact⟨_,(by intro hz;first | exact absurd hz (by decide) |(rw [a1];omega) |(rw [bb];omega)),rfl,rfl⟩
 refine Y.skip (Y.g (Y.seq (Y.seq (Y.region (Y.mv rfl (.s16 .g4) (Y.nc rfl .z (Y.fa rfl .z aP (Y.le rfl bR .z ak al ?_))))))))
 refine Y.mv rfl (.s16 .g10) ?_
 refine Y.ql rfl (aB (j:=Int.toNat b) rfl cQ aT (.t .g1) (.t .z) (by omega) (by omega)) ?_
 refine Y.fa rfl .z bL (Y.le rfl dX .z af ag (Y.ql rfl (bD rfl dP (.t .z)) (Y.ql rfl (fI rfl (.t .z) .c) (Y.nt ?_))))
 refine Y.u (.t .z) (fun b9=> ?_) (fun b9=> ?_)
 refine Y.seq (Y.region (Y.er (.s16 .g13) (Y.ql rfl (aA rfl .c) (Y.nt (Y.ret (Y.j ?_))))))
 refine Y.i (aU rfl .z) .n ?_
 exact⟨_,(by intro hz;first | exact absurd hz (by decide) |(rw [a1];omega) |(rw [bb];omega)),rfl,rfl⟩
 refine Y.skip (Y.g (Y.seq (Y.region (Y.er (.s16 .g13) (Y.ql rfl (aA rfl .c) (Y.nt (Y.ret ?_)))))))
 refine Y.i (aU rfl .z) .n ?_
 exact⟨_,(by intro hz;first | exact absurd hz (by decide) |(rw [a1];omega) |(rw [bb];omega)),rfl,rfl⟩

theorem aNa {w0:World}{S0:Bs}{f:DFs}{b8:List Value} (h0:dV.ro w0 (FF w0 S0) f b8) (p:ByteArray) (g0:p.size≤140737488351232) (k:Int) (hj:Jf f) (hk:1≤k∧k≤2):
    Calls Tryz.prog 78 #[.agg b8.toArray,.string p,.int .i64 k] w0 (aI w0 S0 (fun r l=>∃x:dY,Jf x.fs∧wB x r l)):=by
 obtain⟨e8,e9,rfl,ab,ac⟩:=bZ h0
 obtain⟨ar,au,rfl,b9,ca,cb,av⟩:=aD ab
 obtain⟨aw,ax,rfl,cc,cd,ce,cf⟩:=aD ac
 have ht:J0 f:=hj.toJ0
 have ha:=hj.n.2
 have hb:=hj.n.1
 have hfr:=aCy f.inodes
 refine Y.enter (N:=77) Tryz.func78 rfl rfl (by simp) [(0,.agg #[.slice ar f.inodes.length au,.slice aw f.data.length ax]),(1,.string p),(2,.int .i64 k)] (by simp) (l0:= []) trivial ?_
 refine Y.seq (Y.region ?_)
 refine Y.el rfl (fQ (cs:= [.slice ar f.inodes.length au,.slice aw f.data.length ax]) (n:=2) rfl (.t .z) rfl rfl) ?_
 rintro _ _ ⟨g3,rfl,rfl⟩
 refine Y.el rfl (bB rfl aAv rfl rfl) ?_
 rintro _ _ ⟨g4,rfl,rfl⟩
 refine Y.nt (Y.seq (Y.region (Y.mv rfl .g3 ?_)))
 refine Y.cl rfl rfl Tryz.func100 rfl rfl (aS (.t .g2) (.t .z)) .n (fun _ _ hs tr=>xM (tr.ptr .g1 (aJ f (tr.ctx ab) (tr.ctx ac))) _ (by first | assumption | omega) (by assumption)) ?_
 rintro _ _ ⟨rfl,rfl⟩
 refine Y.m .n ?_
 have cg:=mE (f:=f) (s:=p)
 have ch:=lK ht p
 refine Y.mv rfl .z (Y.ql rfl (bF (v:= .int .i64 ((aO f p).1)) rfl (.t .z) rfl) (Y.ql rfl (bF (v:= .string ((aO f p).2.1)) rfl (.t .g1) rfl) (Y.ql rfl (bF (v:= .int .i64 ((aO f p).2.2)) rfl (.t .g2) rfl) (Y.as rfl .g2 (Y.as rfl .g2 (Y.as rfl .g2 (Y.nt ?_)))))))
 refine Y.seq (Y.seq (Y.region (Y.mv rfl .z (Y.ql rfl (bW rfl (.t .z) .c) (Y.nt ?_)))))
 refine Y.ac (.t .z) (fun b7=> ?_) (fun b7=> ?_)
 refine Y.seq (Y.region (Y.ql rfl (qW rfl bX (.t .g12) .g1 bA) (Y.mv rfl .g3 ?_)))
 refine Y.cl rfl rfl Tryz.func101 rfl rfl (aS (.t .g1) (.t .z)) .n (fun _ _ hs tr=>gP (aJ f (tr.ctx ab) (tr.ctx ac)) _) ?_
 rintro _ _ ⟨v8,hc,hd,he,rfl,rfl⟩
 refine Y.m (.c (.c (.c (.c .n)))) ?_
 refine Y.h (WS.a .z) ?_
 rintro⟨fb,fc,rfl,ci,cj,ck⟩
 refine Y.h (WS.a .g1) ?_
 rintro⟨fd,fe,rfl,cm,cn,co⟩
 refine Y.h (WS.a .g2) ?_
 rintro⟨ff,fg,rfl,cp,cq,cr⟩
 refine Y.h (WS.a .g3) ?_
 rintro⟨fh,fi,rfl,ct,cu,cv⟩
 refine Y.es (aE rfl) rfl (esW rfl (.t .g14) (.t .z) .g4 cA rfl rfl) ?_
 refine Y.nt (Y.ret (Y.j ?_))
 refine Y.i (cU rfl .g14 eK .z cA) (.c .g1 (.c .g1 (.c .g1 (.c .g1 .n)))) ?_
 exact⟨(⟨0,((aO f p).2.2),0,[],[],(⟨f.inodes,f.data⟩:DFs)⟩:dY),(by first | exact hj | assumption | exact an),_,_,_,_,rfl,rfl⟩
 refine Y.skip (Y.g (Y.seq (Y.seq (Y.region (Y.fa rfl .g12 aP (Y.ld rfl bR .z .g1 (Y.mv rfl .g6 ?_)))))))
 obtain⟨fj,ao,ap⟩:=av (by omega)
 subst ao
 obtain⟨cw,af⟩:=aK (xs:=f.inodes) (j:=Int.toNat ((aO f p).1)) (by first | omega |(simp <;> omega))
 obtain⟨cx,ay,aj,ak⟩:=ap.elem af
 obtain⟨be,bf,rfl,aq,ag⟩:=bY ay
 obtain⟨bg,bh,rfl,a6,a7,a8,a9⟩:=aD aq
 obtain⟨bi,bj,rfl,ba,bb,bc,bd⟩:=aD ag
 have fk:=cO (i:=((aO f p).1)) af (by omega)
 have ai:=cP (a:=((aO f p).1)) af (by omega)
 have fl:=dL (a:=((aO f p).1)) af (by omega)
 have cy:=ht.get af
 refine Y.ql rfl (aB (j:=Int.toNat ((aO f p).1)) rfl cQ aT (.t .g1) (.t .z) (by omega) (by first | omega |(simp <;> omega))) ?_
 refine Y.fa rfl .z bL (Y.le rfl dX .z aj ak (Y.mv rfl .g9 ?_))
 refine Y.cl rfl rfl Tryz.func102 rfl rfl (aS (.t .g1) (.t .z)) .n (fun _ _ hs tr=>sD (tr.ctx ag) _ (by first | assumption | omega)) ?_
 rintro _ _ ⟨rfl,rfl⟩
 refine Y.m .n ?_
 refine Y.ql rfl (nH rfl (.t .z) .c) (Y.nt ?_)
 refine Y.u (.t .z) (fun fm=> ?_) (fun fm=> ?_)
 have cz:=gB (dE ((aO f p).2.1)) cw.ents
 refine Y.seq (Y.region (Y.ql rfl (qW rfl bX (.t (.s16 .g5)) .g1 bA) ?_))
 refine Y.cl rfl rfl Tryz.func101 rfl rfl (aS (.t .z) .c) .n (fun _ _ hs tr=>gP (aJ f (tr.ctx ab) (tr.ctx ac)) _) ?_
 rintro _ _ ⟨hf,hg,hh,hi,rfl,rfl⟩
 refine Y.m (.c (.c (.c (.c .n)))) ?_
 refine Y.h (WS.a .z) ?_
 rintro⟨fn,fo,rfl,c0,c1,c2⟩
 refine Y.h (WS.a .g1) ?_
 rintro⟨fp,fq,rfl,c3,c4,c5⟩
 refine Y.h (WS.a .g2) ?_
 rintro⟨fr,ft,rfl,c6,c7,c8⟩
 refine Y.h (WS.a .g3) ?_
 rintro⟨fu,fv,rfl,c9,da,db⟩
 refine Y.es (aE rfl) rfl (esW rfl (.t (.s16 .g6)) (.t .z) .g4 cA rfl rfl) ?_
 refine Y.nt (Y.ret (Y.j ?_))
 refine Y.i (cU rfl (.s16 .g6) eK .z cA) (.c .g1 (.c .g1 (.c .g1 (.c .g1 .n)))) ?_
 exact⟨(⟨0,7,0,[],[],(⟨f.inodes,f.data⟩:DFs)⟩:dY),(by first | exact hj | assumption | exact an),_,_,_,_,rfl,rfl⟩
 have dc:=gB (dE ((aO f p).2.1)) cw.ents
 refine Y.skip (Y.g (Y.seq (Y.seq (Y.region (Y.fa rfl (.s16 .g5) aP (Y.ld rfl bR .z .g1 (Y.mv rfl .g15 ?_)))))))
 refine Y.ql rfl (aB (j:=Int.toNat ((aO f p).1)) rfl cQ aT (.t .g1) (.t .z) (by omega) (by first | omega |(simp <;> omega))) ?_
 refine Y.fa rfl .z bL (Y.le rfl dX .z aj ak (Y.ql rfl (bD rfl dP (.t .z)) (Y.ql rfl (nH rfl (.t .z) .c) (Y.nt ?_))))
 refine Y.u (.t .z) (fun fw=> ?_) (fun fw=> ?_)
 refine Y.seq (Y.region (Y.ql rfl (qW rfl bX (.t (.s16 .g13)) .g1 bA) ?_))
 refine Y.cl rfl rfl Tryz.func101 rfl rfl (aS (.t .z) .c) .n (fun _ _ hs tr=>gP (aJ f (tr.ctx ab) (tr.ctx ac)) _) ?_
 rintro _ _ ⟨hl,hm,hn,ho,rfl,rfl⟩
 refine Y.m (.c (.c (.c (.c .n)))) ?_
 refine Y.h (WS.a .z) ?_
 rintro⟨fx,fy,rfl,dd,dg,dh⟩
 refine Y.h (WS.a .g1) ?_
 rintro⟨f0,f1,rfl,di,dj,dp⟩
 refine Y.h (WS.a .g2) ?_
 rintro⟨f2,f3,rfl,ds,dt,du⟩
 refine Y.h (WS.a .g3) ?_
 rintro⟨f4,f5,rfl,dv,dw,dx⟩
 refine Y.es (aE rfl) rfl (esW rfl (.t (.s16 .g14)) (.t .z) .g4 cA rfl rfl) ?_
 refine Y.nt (Y.ret (Y.j ?_))
 refine Y.i (cU rfl (.s16 .g14) eK .z cA) (.c .g1 (.c .g1 (.c .g1 (.c .g1 .n)))) ?_
 exact⟨(⟨0,2,0,[],[],(⟨f.inodes,f.data⟩:DFs)⟩:dY),(by first | exact hj | assumption | exact an),_,_,_,_,rfl,rfl⟩
 refine Y.skip (Y.g (Y.seq (Y.region (Y.fa rfl (.s16 .g13) aP (Y.ld rfl bR .z .g1 ?_)))))
 refine Y.cl rfl rfl Tryz.func103 rfl rfl (bG (.t .z)) .n (fun _ _ hs tr=>aKy (tr.ctx ab) (by assumption)) ?_
 rintro _ _ ⟨rfl,rfl⟩
 refine Y.m .n ?_
 refine Y.as rfl .z (Y.nt (Y.seq (Y.seq (Y.region (Y.mv rfl .z (Y.ql rfl (dA rfl (.t .z) .c) (Y.nil ?_)))))))
 refine Y.g ?_
 refine Y.u (.t .z) (fun f6=> ?_) (fun f6=> ?_)
 refine Y.seq (Y.region (Y.ql rfl (qW rfl bX (.t (.s16 (.s16 .g3))) .g1 bA) ?_))
 refine Y.cl rfl rfl Tryz.func101 rfl rfl (aS (.t .z) .c) .n (fun _ _ hs tr=>gP (aJ f (tr.ctx ab) (tr.ctx ac)) _) ?_
 rintro _ _ ⟨hp,hq,hr,hu,rfl,rfl⟩
 refine Y.m (.c (.c (.c (.c .n)))) ?_
 refine Y.h (WS.a .z) ?_
 rintro⟨f7,f8,rfl,dy,dz,d0⟩
 refine Y.h (WS.a .g1) ?_
 rintro⟨f9,ga,rfl,d1,d2,d3⟩
 refine Y.h (WS.a .g2) ?_
 rintro⟨gb,gc,rfl,d4,d5,d6⟩
 refine Y.h (WS.a .g3) ?_
 rintro⟨gd,ge,rfl,d7,d8,d9⟩
 refine Y.es (aE rfl) rfl (esW rfl (.t (.s16 (.s16 .g4))) (.t .z) .g4 cA rfl rfl) ?_
 refine Y.nt (Y.ret (Y.j ?_))
 refine Y.i (cU rfl (.s16 (.s16 .g4)) eK .z cA) (.c .g1 (.c .g1 (.c .g1 (.c .g1 .n)))) ?_
 exact⟨(⟨0,8,0,[],[],(⟨f.inodes,f.data⟩:DFs)⟩:dY),(by first | exact hj | assumption | exact an),_,_,_,_,rfl,rfl⟩
 refine Y.skip (Y.g (Y.seq (Y.region (Y.ql rfl (qW rfl bX (.t (.s16 (.s16 .g3))) .g1 bA) ?_))))
 refine Y.cl rfl rfl Tryz.func104 rfl rfl (bG (.t .z)) .n (fun _ _ hs tr=>qC (aJ f (tr.ctx ab) (tr.ctx ac))) ?_
 rintro _ _ ⟨hv,hw,rfl,rfl⟩
 refine Y.m (.c (.c .n)) ?_
 refine Y.h (WS.a .z) ?_
 rintro⟨gf,bk,rfl,ea,eb,ec⟩
 refine Y.h (WS.a .g1) ?_
 rintro⟨gg,gh,rfl,ed,ee,ef⟩
 refine Y.el rfl (bB rfl rG rfl rfl) ?_
 rintro _ _ ⟨g72,rfl,rfl⟩
 refine Y.es (aE rfl) rfl (esW rfl (.t .z) (.t .g1) .z bA rfl rfl) ?_
 refine Y.nt (Y.seq (Y.seq (Y.region (Y.mv rfl .g5 (Y.fa rfl .g1 aP (Y.ld rfl bR .z .z (Y.ql rfl (bD rfl cQ (.t .z)) ?_)))))))
 refine Y.ql rfl (bU rfl (.t .g3) (.t .z)) (Y.nt ?_)
 refine Y.u (.t .z) (fun gi=> ?_) (fun gi=> ?_)
 refine Y.region (Y.fa rfl .g5 aP (Y.ld rfl bR .z .z (Y.ql rfl (aW (cs:= [.int .i64 0,.int .i64 0,.int .i64 0,.slice none 0 0,.slice none 0 0]) rfl sH pv0 rfl) ?_)))
 refine Y.el rfl (aQ (cs:= [.int .i64 0,.int .i64 0,.int .i64 0,.slice none 0 0,.slice none 0 0]) rfl cQ (inz mN) (by decide) (pv1 (.t .z)) rfl rfl (by decide) rfl rfl) ?_
 rintro _ _ ⟨g74,rfl,rfl⟩
 refine Y.add (c:=aH bK [] [.slice none 0 0]) (fun w S=>aL w S none) ?_
 refine Y.add (c:=aH dU [] [.slice none 0 0]) (fun w S=>aL w S none) ?_
 refine Y.ad (c:=aH cR (⟨0,0,0,[],[]⟩:aF) [.int .i64 0,.int .i64 0,.int .i64 0,.slice none 0 0,.slice none 0 0]) (.c .g1 (.c .z .n)) (fun w S h=>cZ (⟨0,0,0,[],[]⟩:aF) h) ?_
 refine Y.el rfl (dK rfl cQ mN rfl (.t .g2) (.t .z) (.c .g3 (.c .g1 (.c .z .n))) (by first | omega |(simp <;> omega)) (by first | omega |(simp <;> omega))) ?_
 rintro _ _ rfl
 refine Y.h (WS.a .z) ?_
 rintro⟨gj,bm,rfl,eg,eh,ei⟩
 refine Y.fa rfl .g10 aP ?_
 refine Y.es (aE rfl) rfl (es1 (off:=0) rfl aG1 (.t .z) (.t .g1) rfl rfl .g1 rfl .z) ?_
 refine Y.nt (Y.seq (Y.region (Y.fa rfl .g11 aP (Y.ld rfl bR .z .z (Y.mv rfl (.s16 .g2) (Y.mv rfl (.s16 (.s16 (.s16 .g7))) (Y.ql rfl (aW (cs:= [.int .i64 k,.int .i64 0,.int .i64 0,.slice none 0 0,.slice none 0 0]) rfl sH (pv1 (.t .z)) rfl) ?_)))))))
 refine Y.aa (.c .g1 .n) fP ?_
 rintro az ah
 obtain⟨hx,ae⟩:=aK (xs:=f.inodes++ [(⟨0,0,0,[],[]⟩:aF)]) (j:=Int.toNat (dB f.inodes)) (by first | omega |(simp <;> omega))
 obtain⟨hy,a0⟩:=aK (xs:=az) (j:=Int.toNat (dB f.inodes)) (by rw [ah];exact(List.getElem?_eq_some_iff.1 ae).1)
 refine Y.au .g1 (eJ ae a0) ?_
 refine Y.aa (.c .z .n) fC ?_
 rintro⟨hz,h1⟩ rfl
 refine Y.h (WS.a .z) ?_
 rintro⟨gk,gl,rfl,ej,ek,em⟩
 refine Y.h (WS.a .g1) ?_
 rintro⟨gm,gn,rfl,en,eo,ep⟩
 have go:=cO (i:=(dB f.inodes)) ae (by omega)
 have gp:=cP (a:=(dB f.inodes)) ae (by omega)
 have gq:=dL (a:=(dB f.inodes)) ae (by omega)
 refine Y.h (WS.h .g4 (by first | omega |(simp <;> omega) |(simp only [List.length_append,List.length_cons,List.length_nil,List.length_set] at *;omega))) ?_
 rintro⟨bn,rfl⟩
 refine Y.ql rfl (aB (j:=Int.toNat (dB f.inodes)) rfl cQ aT (.t .g3) (.t .g2) (by omega) (by first | omega |(simp <;> omega))) ?_
 refine Y.es (aE rfl) rfl (kU (j:=Int.toNat (dB f.inodes)) (off:=0) (cs:= [.int .i64 k,.int .i64 0,.int .i64 0,.slice none 0 0,.slice none 0 0]) rfl aT (.t .z) rfl (.t .g1) rfl (pX rfl) .g4 a0 (Nat.le_of_ble_eq_true rfl)) ?_
 refine Y.ah (x':=List.set az (Int.toNat (dB f.inodes)) [.int .i64 k,.int .i64 0,.int .i64 0,.slice none 0 0,.slice none 0 0]) .z rfl ?_
 refine Y.nt (Y.seq (Y.region (Y.mv rfl (.s16 (.s16 .g15)) (Y.mv rfl (.s16 (.s16 .g15)) (Y.mv rfl (.s16 .g8) ?_)))))
 refine Y.add (c:=aH bK [] [.slice none 0 0]) (fun w S=>aL w S none) ?_
 refine Y.add (c:=aH dU [] [.slice none 0 0]) (fun w S=>aL w S none) ?_
 refine Y.ad (c:=aH cR (⟨k,0,0,[],[]⟩:aF) [.int .i64 k,.int .i64 0,.int .i64 0,.slice none 0 0,.slice none 0 0]) (.c .g1 (.c .z .n)) (fun w S h=>cZ (⟨k,0,0,[],[]⟩:aF) h) ?_
 refine Y.ad (c:=aH bJ (List.set (f.inodes++ [(⟨0,0,0,[],[]⟩:aF)]) (Int.toNat (dB f.inodes)) (⟨k,0,0,[],[]⟩:aF)) [.slice (some bn) (f.inodes++ [(⟨0,0,0,[],[]⟩:aF)]).length bm]) (.c .g1 (.c .z (.c .g2 (.c .g2 .n)))) (eU (K:=cR) ah (List.getElem?_eq_some_iff.1 ae).1 rfl) ?_
 have hid:eX (dE (aO f p).2.1) (aG f.inodes (aO f p).1)<0:=by rw [ai];omega
 have bo:(aG f.inodes (aO f p).1).length<6:=by rw [ai];omega
 obtain⟨gr,an,gs,gt⟩:=aMt hj (xs:=f.inodes++ [⟨0,0,0,[],[]⟩]) hk (by omega) hid bo (by omega) (.inr ⟨by first | assumption | omega,rfl⟩)
 refine Y.cl rfl rfl Tryz.func105 rfl rfl (pD (.t (.s16 .g4)) (.t .g2) (.t .g1) (.t .z)) (.c .g3 (.c .z (.c .g2 .n))) (fun _ _ hs tr=>aDh (f:=(⟨List.set (f.inodes++ [(⟨0,0,0,[],[]⟩:aF)]) (Int.toNat (dB f.inodes)) (⟨k,0,0,[],[]⟩:aF),f.data⟩:DFs)) _ _ (by first | assumption | omega) _ hs (by assumption) (by first | assumption |(constructor <;> omega)) (by first | omega | assumption)) ?_
 rintro _ _ ⟨h2,h3,rfl,rfl⟩
 refine Y.m (.c (.c (.c .n))) ?_
 refine Y.h (WS.a .g1) ?_
 rintro⟨bp,bq,rfl,et,eu,ev⟩
 refine Y.h (WS.a .g2) ?_
 rintro⟨br,bs,rfl,ew,ey,ez⟩
 refine Y.nt (Y.seq (Y.region (Y.mv rfl (.s16 .g10) (Y.ql rfl (qW rfl bX (.t (.s16 .g6)) .z bA) (Y.ql rfl (aW (cs:= [.int .i64 0,.int .i64 0,.int .i64 (dB f.inodes),.slice none 0 0,.slice none 0 0,.slice bp ((nS (⟨List.set (f.inodes++ [(⟨0,0,0,[],[]⟩:aF)]) (Int.toNat (dB f.inodes)) (⟨k,0,0,[],[]⟩:aF),f.data⟩:DFs) ((aO f p).1) ((aO f p).2.1) (dB f.inodes)).inodes).length bq,.slice br ((nS (⟨List.set (f.inodes++ [(⟨0,0,0,[],[]⟩:aF)]) (Int.toNat (dB f.inodes)) (⟨k,0,0,[],[]⟩:aF),f.data⟩:DFs) ((aO f p).1) ((aO f p).2.1) (dB f.inodes)).data).length bs]) rfl pB (pv2 (.t .g1) (.t .z)) rfl) ?_)))))
 refine Y.es (aE rfl) rfl (esW rfl (.t (.s16 (.s16 (.s16 .g13)))) (.t .z) .g5 cA rfl rfl) ?_
 refine Y.nt (Y.ret ?_)
 refine Y.add (c:=aH dD [] [.slice none 0 0]) (fun w S=>aL w S none) ?_
 refine Y.add (c:=aH cT [] [.slice none 0 0]) (fun w S=>aL w S none) ?_
 refine Y.i (cU rfl (.s16 (.s16 (.s16 .g13))) eK .g2 cA) (.c .g1 (.c .z (.c .g2 (.c .g2 .n)))) ?_
 exact⟨(⟨0,0,dB f.inodes,[],[],(⟨(nS (⟨List.set (f.inodes++ [(⟨0,0,0,[],[]⟩:aF)]) (Int.toNat (dB f.inodes)) (⟨k,0,0,[],[]⟩:aF),f.data⟩:DFs) ((aO f p).1) ((aO f p).2.1) (dB f.inodes)).inodes,(nS (⟨List.set (f.inodes++ [(⟨0,0,0,[],[]⟩:aF)]) (Int.toNat (dB f.inodes)) (⟨k,0,0,[],[]⟩:aF),f.data⟩:DFs) ((aO f p).1) ((aO f p).2.1) (dB f.inodes)).data⟩:DFs)⟩:dY),(by first | exact hj | assumption | exact an),_,_,_,_,rfl,rfl⟩
 refine Y.skip (Y.g (Y.seq (Y.region (Y.fa rfl .g5 aP (Y.ld rfl bR .z .z (Y.mv rfl .g12 (Y.mv rfl (.s16 (.s16 (.s16 .g1))) (Y.ql rfl (aW (cs:= [.int .i64 k,.int .i64 0,.int .i64 0,.slice none 0 0,.slice none 0 0]) rfl sH (pv1 (.t .z)) rfl) ?_))))))))
 refine Y.aa (.c .g1 .n) fP ?_
 rintro al ad
 obtain⟨gu,aa⟩:=aK (xs:=f.inodes) (j:=Int.toNat (dB f.inodes)) (by first | omega |(simp <;> omega))
 obtain⟨gv,am⟩:=aK (xs:=al) (j:=Int.toNat (dB f.inodes)) (by rw [ad];exact(List.getElem?_eq_some_iff.1 aa).1)
 refine Y.au .g1 (eJ aa am) ?_
 refine Y.aa (.c .z .n) fC ?_
 rintro⟨gw,gx⟩ rfl
 refine Y.h (WS.a .z) ?_
 rintro⟨e0,e1,rfl,bt,bu,bv⟩
 refine Y.h (WS.a .g1) ?_
 rintro⟨e2,e3,rfl,bw,bx,bz⟩
 have e4:=cO (i:=(dB f.inodes)) aa (by omega)
 have e5:=cP (a:=(dB f.inodes)) aa (by omega)
 have e7:=dL (a:=(dB f.inodes)) aa (by omega)
 have b0:=ht.get aa
 refine Y.h (WS.h .g4 (by first | omega |(simp <;> omega) |(simp only [List.length_append,List.length_cons,List.length_nil,List.length_set] at *;omega))) ?_
 rintro⟨a1,rfl⟩
 refine Y.ql rfl (aB (j:=Int.toNat (dB f.inodes)) rfl cQ aT (.t .g3) (.t .g2) (by omega) (by first | omega |(simp <;> omega))) ?_
 refine Y.es (aE rfl) rfl (kU (j:=Int.toNat (dB f.inodes)) (off:=0) (cs:= [.int .i64 k,.int .i64 0,.int .i64 0,.slice none 0 0,.slice none 0 0]) rfl aT (.t .z) rfl (.t .g1) rfl (pX rfl) .g4 am (Nat.le_of_ble_eq_true rfl)) ?_
 refine Y.ah (x':=List.set al (Int.toNat (dB f.inodes)) [.int .i64 k,.int .i64 0,.int .i64 0,.slice none 0 0,.slice none 0 0]) .z rfl ?_
 refine Y.nt (Y.seq (Y.region (Y.mv rfl (.s16 (.s16 .g9)) (Y.mv rfl (.s16 (.s16 .g9)) (Y.mv rfl (.s16 .g2) ?_)))))
 refine Y.add (c:=aH bK [] [.slice none 0 0]) (fun w S=>aL w S none) ?_
 refine Y.add (c:=aH dU [] [.slice none 0 0]) (fun w S=>aL w S none) ?_
 refine Y.ad (c:=aH cR (⟨k,0,0,[],[]⟩:aF) [.int .i64 k,.int .i64 0,.int .i64 0,.slice none 0 0,.slice none 0 0]) (.c .g1 (.c .z .n)) (fun w S h=>cZ (⟨k,0,0,[],[]⟩:aF) h) ?_
 refine Y.ad (c:=aH bJ (List.set f.inodes (Int.toNat (dB f.inodes)) (⟨k,0,0,[],[]⟩:aF)) [.slice (some a1) f.inodes.length bk]) (.c .g1 (.c .z (.c .g2 (.c .g2 .n)))) (eU (K:=cR) ad (List.getElem?_eq_some_iff.1 aa).1 rfl) ?_
 have hid:eX (dE (aO f p).2.1) (aG f.inodes (aO f p).1)<0:=by rw [ai];omega
 have bo:(aG f.inodes (aO f p).1).length<6:=by rw [ai];omega
 obtain⟨gr,an,gs,gt⟩:=aMt hj (xs:=f.inodes) hk (by omega) hid bo (by omega) (.inl ⟨by first | assumption | omega,rfl⟩)
 refine Y.cl rfl rfl Tryz.func105 rfl rfl (pD (.t .g14) (.t .g2) (.t .g1) (.t .z)) (.c .g3 (.c .z (.c .g2 .n))) (fun _ _ hs tr=>aDh (f:=(⟨List.set f.inodes (Int.toNat (dB f.inodes)) (⟨k,0,0,[],[]⟩:aF),f.data⟩:DFs)) _ _ (by first | assumption | omega) _ hs (by assumption) (by first | assumption |(constructor <;> omega)) (by first | omega | assumption)) ?_
 rintro _ _ ⟨gy,gz,rfl,rfl⟩
 refine Y.m (.c (.c (.c .n))) ?_
 refine Y.h (WS.a .g1) ?_
 rintro⟨a2,a3,rfl,b1,b2,b3⟩
 refine Y.h (WS.a .g2) ?_
 rintro⟨a4,a5,rfl,b4,b5,b6⟩
 refine Y.nt (Y.seq (Y.region (Y.mv rfl (.s16 .g4) (Y.ql rfl (qW rfl bX (.t .g16) .z bA) (Y.ql rfl (aW (cs:= [.int .i64 0,.int .i64 0,.int .i64 (dB f.inodes),.slice none 0 0,.slice none 0 0,.slice a2 ((nS (⟨List.set f.inodes (Int.toNat (dB f.inodes)) (⟨k,0,0,[],[]⟩:aF),f.data⟩:DFs) ((aO f p).1) ((aO f p).2.1) (dB f.inodes)).inodes).length a3,.slice a4 ((nS (⟨List.set f.inodes (Int.toNat (dB f.inodes)) (⟨k,0,0,[],[]⟩:aF),f.data⟩:DFs) ((aO f p).1) ((aO f p).2.1) (dB f.inodes)).data).length a5]) rfl pB (pv2 (.t .g1) (.t .z)) rfl) ?_)))))
 refine Y.es (aE rfl) rfl (esW rfl (.t (.s16 (.s16 (.s16 .g7)))) (.t .z) .g5 cA rfl rfl) ?_
 refine Y.nt (Y.ret ?_)
 refine Y.add (c:=aH dD [] [.slice none 0 0]) (fun w S=>aL w S none) ?_
 refine Y.add (c:=aH cT [] [.slice none 0 0]) (fun w S=>aL w S none) ?_
 refine Y.i (cU rfl (.s16 (.s16 (.s16 .g7))) eK .g2 cA) (.c .g1 (.c .z (.c .g2 (.c .g2 .n)))) ?_
 exact⟨(⟨0,0,dB f.inodes,[],[],(⟨(nS (⟨List.set f.inodes (Int.toNat (dB f.inodes)) (⟨k,0,0,[],[]⟩:aF),f.data⟩:DFs) ((aO f p).1) ((aO f p).2.1) (dB f.inodes)).inodes,(nS (⟨List.set f.inodes (Int.toNat (dB f.inodes)) (⟨k,0,0,[],[]⟩:aF),f.data⟩:DFs) ((aO f p).1) ((aO f p).2.1) (dB f.inodes)).data⟩:DFs)⟩:dY),(by first | exact hj | assumption | exact an),_,_,_,_,rfl,rfl⟩

theorem aOr {w0:World}{S0:Bs}{f:DFs}{bb:List Value} (h0:dV.ro w0 (FF w0 S0) f bb) (p:ByteArray) (e2:p.size≤140737488351232) (q:ByteArray) (e3:q.size≤140737488351232) (hj:Jf f):
    Calls Tryz.prog 81 #[.agg bb.toArray,.string p,.string q] w0 (aI w0 S0 (fun r l=>∃x:dY,Jf x.fs∧wB x r l)):=by
 obtain⟨dh,di,rfl,aa,ab⟩:=bZ h0
 obtain⟨ah,ai,rfl,bc,bd,be,aj⟩:=aD aa
 obtain⟨ak,al,rfl,bf,bg,bh,bi⟩:=aD ab
 have ht:J0 f:=hj.toJ0
 have e4:=hj.n.2
 have e5:=hj.n.1
 refine Y.enter (N:=56) Tryz.func81 rfl rfl (by simp) [(0,.agg #[.slice ah f.inodes.length ai,.slice ak f.data.length al]),(1,.string p),(2,.string q)] (by simp) (l0:= []) trivial ?_
 refine Y.seq (Y.region ?_)
 refine Y.el rfl (fQ (cs:= [.slice ah f.inodes.length ai,.slice ak f.data.length al]) (n:=2) rfl (.t .z) rfl rfl) ?_
 rintro _ _ ⟨g3,rfl,rfl⟩
 refine Y.el rfl (bB rfl aAv rfl rfl) ?_
 rintro _ _ ⟨g4,rfl,rfl⟩
 refine Y.nt (Y.seq (Y.region (Y.mv rfl .g3 ?_)))
 refine Y.cl rfl rfl Tryz.func106 rfl rfl (aS (.t .g2) (.t .z)) .n (fun _ _ hs tr=>aD6 (tr.ptr .g1 (aJ f (tr.ctx aa) (tr.ctx ab))) _ (by first | assumption | omega) (by assumption)) ?_
 rintro _ _ ⟨rfl,rfl⟩
 refine Y.m .n ?_
 have bj:=pR ht p
 refine Y.mv rfl .z (Y.ql rfl (bF (v:= .int .i64 ((cC f p).1)) rfl (.t .z) rfl) (Y.ql rfl (bF (v:= .int .i64 ((cC f p).2)) rfl (.t .g1) rfl) (Y.as rfl .g1 (Y.as rfl .g1 (Y.nt (Y.seq (Y.seq ?_)))))))
 refine Y.region (Y.mv rfl .z (Y.ql rfl (bW rfl (.t .z) .c) (Y.nt ?_)))
 refine Y.ac (.t .z) (fun b6=> ?_) (fun b6=> ?_)
 refine Y.seq (Y.region (Y.ql rfl (qW rfl bX (.t .g10) .g1 bA) (Y.mv rfl .g3 ?_)))
 refine Y.cl rfl rfl Tryz.func101 rfl rfl (aS (.t .g1) (.t .z)) .n (fun _ _ hs tr=>gP (aJ f (tr.ctx aa) (tr.ctx ab)) _) ?_
 rintro _ _ ⟨v7,v9,e7,e8,rfl,rfl⟩
 refine Y.m (.c (.c (.c (.c .n)))) ?_
 refine Y.h (WS.a .z) ?_
 rintro⟨dj,dp,rfl,bk,bm,bn⟩
 refine Y.h (WS.a .g1) ?_
 rintro⟨ds,dt,rfl,bo,bp,bq⟩
 refine Y.h (WS.a .g2) ?_
 rintro⟨du,dv,rfl,br,bs,bt⟩
 refine Y.h (WS.a .g3) ?_
 rintro⟨dw,dx,rfl,bu,bv,bw⟩
 refine Y.es (aE rfl) rfl (esW rfl (.t .g12) (.t .z) .g4 cA rfl rfl) ?_
 refine Y.nt (Y.ret (Y.j ?_))
 refine Y.i (cU rfl .g12 eK .z cA) (.c .g1 (.c .g1 (.c .g1 (.c .g1 .n)))) ?_
 exact⟨(⟨0,((cC f p).2),0,[],[],(⟨f.inodes,f.data⟩:DFs)⟩:dY),(by first | exact hj | assumption | exact yE hj (by omega)),_,_,_,_,rfl,rfl⟩
 refine Y.skip (Y.g (Y.seq (Y.seq (Y.region (Y.fa rfl .g10 aP (Y.ld rfl bR .z .g1 (Y.mv rfl .g5 ?_)))))))
 obtain⟨dy,ad,ae⟩:=aj (by omega)
 subst ad
 obtain⟨e9,ac⟩:=aK (xs:=f.inodes) (j:=Int.toNat ((cC f p).1)) (by first | omega |(simp <;> omega))
 obtain⟨bx,am,an,ao⟩:=ae.elem ac
 obtain⟨az,a0,rfl,af,ag⟩:=bY am
 obtain⟨a1,a2,rfl,ap,aq,ar,au⟩:=aD af
 obtain⟨a3,a4,rfl,av,aw,ax,ay⟩:=aD ag
 have dz:=cO (i:=((cC f p).1)) ac (by omega)
 have d0:=cP (a:=((cC f p).1)) ac (by omega)
 have d1:=dL (a:=((cC f p).1)) ac (by omega)
 have bz:=ht.get ac
 refine Y.ql rfl (aB (j:=Int.toNat ((cC f p).1)) rfl cQ aT (.t .g1) (.t .z) (by omega) (by first | omega |(simp <;> omega))) ?_
 refine Y.fa rfl .z bS (Y.le rfl bP .z an ao (Y.ql rfl (bU rfl (.t .z) .c) (Y.nt ?_)))
 refine Y.u (.t .z) (fun d2=> ?_) (fun d2=> ?_)
 refine Y.seq (Y.region (Y.ql rfl (qW rfl bX (.t (.s16 .g1)) .g1 bA) ?_))
 refine Y.cl rfl rfl Tryz.func101 rfl rfl (aS (.t .z) .c) .n (fun _ _ hs tr=>gP (aJ f (tr.ctx aa) (tr.ctx ab)) _) ?_
 rintro _ _ ⟨fb,fc,fd,fe,rfl,rfl⟩
 refine Y.m (.c (.c (.c (.c .n)))) ?_
 refine Y.h (WS.a .z) ?_
 rintro⟨d3,d4,rfl,b0,b1,b2⟩
 refine Y.h (WS.a .g1) ?_
 rintro⟨d5,d6,rfl,b3,b4,b5⟩
 refine Y.h (WS.a .g2) ?_
 rintro⟨d7,d8,rfl,b7,b8,b9⟩
 refine Y.h (WS.a .g3) ?_
 rintro⟨d9,ea,rfl,ca,cb,cc⟩
 refine Y.es (aE rfl) rfl (esW rfl (.t (.s16 .g2)) (.t .z) .g4 cA rfl rfl) ?_
 refine Y.nt (Y.ret (Y.j ?_))
 refine Y.i (cU rfl (.s16 .g2) eK .z cA) (.c .g1 (.c .g1 (.c .g1 (.c .g1 .n)))) ?_
 exact⟨(⟨0,9,0,[],[],(⟨f.inodes,f.data⟩:DFs)⟩:dY),(by first | exact hj | assumption | exact yE hj (by omega)),_,_,_,_,rfl,rfl⟩
 refine Y.skip (Y.g (Y.seq (Y.region (Y.mv rfl (.s16 .g4) ?_))))
 refine Y.cl rfl rfl Tryz.func100 rfl rfl (aS (.t (.s16 .g2)) (.t .z)) .n (fun _ _ hs tr=>xM (tr.ptr .g1 (aJ f (tr.ctx aa) (tr.ctx ab))) _ (by first | assumption | omega) (by assumption)) ?_
 rintro _ _ ⟨rfl,rfl⟩
 refine Y.m .n ?_
 have a5:=mE (f:=f) (s:=q)
 have a6:=lK ht q
 refine Y.mv rfl .z (Y.ql rfl (bF (v:= .int .i64 ((aO f q).1)) rfl (.t .z) rfl) (Y.ql rfl (bF (v:= .string ((aO f q).2.1)) rfl (.t .g1) rfl) (Y.ql rfl (bF (v:= .int .i64 ((aO f q).2.2)) rfl (.t .g2) rfl) (Y.as rfl .g2 (Y.as rfl .g2 (Y.er (.s16 .g1) (Y.as rfl .g2 (Y.nil ?_))))))))
 refine Y.g (Y.seq (Y.seq (Y.region (Y.mv rfl .z (Y.ql rfl (bW rfl (.t .z) .c) (Y.nt ?_))))))
 refine Y.ac (.t .z) (fun eb=> ?_) (fun eb=> ?_)
 refine Y.seq (Y.region (Y.ql rfl (qW rfl bX (.t (.s16 .g11)) .g1 bA) (Y.mv rfl .g3 ?_)))
 refine Y.cl rfl rfl Tryz.func101 rfl rfl (aS (.t .g1) (.t .z)) .n (fun _ _ hs tr=>gP (aJ f (tr.ctx aa) (tr.ctx ab)) _) ?_
 rintro _ _ ⟨ff,fg,fh,fi,rfl,rfl⟩
 refine Y.m (.c (.c (.c (.c .n)))) ?_
 refine Y.h (WS.a .z) ?_
 rintro⟨ec,ed,rfl,cd,ce,cf⟩
 refine Y.h (WS.a .g1) ?_
 rintro⟨ee,ef,rfl,cg,ch,ci⟩
 refine Y.h (WS.a .g2) ?_
 rintro⟨eg,eh,rfl,cj,ck,cm⟩
 refine Y.h (WS.a .g3) ?_
 rintro⟨ei,ej,rfl,cn,co,cp⟩
 refine Y.es (aE rfl) rfl (esW rfl (.t (.s16 .g13)) (.t .z) .g4 cA rfl rfl) ?_
 refine Y.nt (Y.ret (Y.j ?_))
 refine Y.i (cU rfl (.s16 .g13) eK .z cA) (.c .g1 (.c .g1 (.c .g1 (.c .g1 .n)))) ?_
 exact⟨(⟨0,((aO f q).2.2),0,[],[],(⟨f.inodes,f.data⟩:DFs)⟩:dY),(by first | exact hj | assumption | exact yE hj (by omega)),_,_,_,_,rfl,rfl⟩
 refine Y.skip (Y.g (Y.seq (Y.region (Y.ql rfl (qW rfl bX (.t (.s16 .g11)) .g1 bA) ?_))))
 refine Y.cl rfl rfl Tryz.func104 rfl rfl (bG (.t .z)) .n (fun _ _ hs tr=>qC (aJ f (tr.ctx aa) (tr.ctx ab))) ?_
 rintro _ _ ⟨fj,fk,rfl,rfl⟩
 refine Y.m (.c (.c .n)) ?_
 refine Y.h (WS.a .z) ?_
 rintro⟨ek,em,rfl,cq,cr,ct⟩
 refine Y.h (WS.a .g1) ?_
 rintro⟨en,eo,rfl,cu,cv,cw⟩
 refine Y.el rfl (bB rfl rG rfl rfl) ?_
 rintro _ _ ⟨g58,rfl,rfl⟩
 refine Y.es (aE rfl) rfl (esW rfl (.t .z) (.t .g1) .z bA rfl rfl) ?_
 refine Y.nt (Y.seq (Y.seq (Y.region (Y.mv rfl .g7 (Y.mv rfl .g7 (Y.mv rfl (.s16 .g9) ?_))))))
 have fl:=kQ ht (aO f q).1
 refine Y.cl rfl rfl Tryz.func105 rfl rfl (pD (.t .g3) (.t .g2) (.t .g1) (.t .z)) (.c .z (.c .z (.c .z .n))) (fun _ _ hs tr=>aDh (f:=f) _ _ (by first | assumption | omega) _ hs (by assumption) (by first | assumption |(constructor <;> omega)) (by first | omega | assumption)) ?_
 rintro _ _ ⟨fm,fn,rfl,rfl⟩
 refine Y.m (.c (.c (.c .n))) ?_
 refine Y.h (WS.a .g1) ?_
 rintro⟨a7,a8,rfl,cx,cy,cz⟩
 refine Y.h (WS.a .g2) ?_
 rintro⟨a9,ba,rfl,c0,c1,c2⟩
 refine Y.as rfl .z (Y.nt (Y.seq (Y.region (Y.mv rfl .z (Y.ql rfl (bW rfl (.t .z) .c) (Y.nt ?_))))))
 refine Y.ac (.t .z) (fun ep=> ?_) (fun ep=> ?_)
 refine Y.seq (Y.region (Y.ql rfl (qW rfl bX (.t (.s16 (.s16 .g5))) .g4 bA) (Y.mv rfl .g3 ?_)))
 refine Y.cl rfl rfl Tryz.func101 rfl rfl (aS (.t .g1) (.t .z)) .n (fun _ _ hs tr=>gP (aJ f (tr.ctx aa) (tr.ctx ab)) _) ?_
 rintro _ _ ⟨fo,fp,fq,fr,rfl,rfl⟩
 refine Y.m (.c (.c (.c (.c .n)))) ?_
 refine Y.h (WS.a .z) ?_
 rintro⟨et,eu,rfl,c3,c4,c5⟩
 refine Y.h (WS.a .g1) ?_
 rintro⟨ev,ew,rfl,c6,c7,c8⟩
 refine Y.h (WS.a .g2) ?_
 rintro⟨ey,ez,rfl,c9,da,db⟩
 refine Y.h (WS.a .g3) ?_
 rintro⟨e0,e1,rfl,dc,dd,dg⟩
 refine Y.es (aE rfl) rfl (esW rfl (.t (.s16 (.s16 .g7))) (.t .z) .g7 cA rfl rfl) ?_
 refine Y.nt (Y.ret (Y.j ?_))
 refine Y.i (cU rfl (.s16 (.s16 .g7)) eK .z cA) (.c .g1 (.c .g1 (.c .g1 (.c .g1 .n)))) ?_
 exact⟨(⟨0,(rD f ((aO f q).1) ((aO f q).2.1) ((cC f p).1)),0,[],[],(⟨f.inodes,f.data⟩:DFs)⟩:dY),(by first | exact hj | assumption | exact yE hj (by omega)),_,_,_,_,rfl,rfl⟩
 refine Y.skip (Y.g (Y.seq (Y.region (Y.ql rfl (qW rfl bX (.t .g7) .z bA) (Y.ql rfl (aW (cs:= [.int .i64 0,.int .i64 0,.int .i64 0,.slice none 0 0,.slice none 0 0,.slice a7 ((nS f ((aO f q).1) ((aO f q).2.1) ((cC f p).1)).inodes).length a8,.slice a9 ((nS f ((aO f q).1) ((aO f q).2.1) ((cC f p).1)).data).length ba]) rfl pB (pv1 (.t .z)) rfl) ?_)))))
 refine Y.es (aE rfl) rfl (esW rfl (.t (.s16 (.s16 .g6))) (.t .z) .g3 cA rfl rfl) ?_
 refine Y.nt (Y.ret ?_)
 refine Y.add (c:=aH dD [] [.slice none 0 0]) (fun w S=>aL w S none) ?_
 refine Y.add (c:=aH cT [] [.slice none 0 0]) (fun w S=>aL w S none) ?_
 refine Y.i (cU rfl (.s16 (.s16 .g6)) eK .g2 cA) (.c .g1 (.c .z (.c .g2 (.c .g2 .n)))) ?_
 exact⟨(⟨0,0,0,[],[],(⟨(nS f ((aO f q).1) ((aO f q).2.1) ((cC f p).1)).inodes,(nS f ((aO f q).1) ((aO f q).2.1) ((cC f p).1)).data⟩:DFs)⟩:dY),(by first | exact hj | assumption | exact yE hj (by omega)),_,_,_,_,rfl,rfl⟩

theorem aMy {w0:World}{S0:Bs}{f:DFs}{e0:List Value} (h0:dV.ro w0 (FF w0 S0) f e0) {c:oD}{e1:List Value} (h1:zJ.ro w0 (FF w0 S0) c e1) (hj:Jf f):
    Calls Tryz.prog 80 #[.agg e0.toArray,.agg e1.toArray] w0 (aI w0 S0 (fun r l=>∃x:dY,Jf x.fs∧wB x r l)):=by
 obtain⟨iq,ir,rfl,aa,ab⟩:=bZ h0
 obtain⟨a3,a4,rfl,e2,e3,e4,a5⟩:=aD aa
 obtain⟨a6,a7,rfl,e5,e7,e8,e9⟩:=aD ab
 obtain⟨it,rfl,cc,iu,iv⟩:=tV h1
 obtain⟨a8,a9,rfl,fb,fc,fd,fe⟩:=aD cc
 have ht:J0 f:=hj.toJ0
 have ko:=hj.n.2
 have kp:=hj.n.1
 refine Y.enter (N:=87) Tryz.func80 rfl rfl (by simp) [(0,.agg #[.slice a3 f.inodes.length a4,.slice a6 f.data.length a7]),(1,.agg #[.int .i64 c.kind,.string c.path,.string c.to,.int .i64 c.frm,.int .i64 c.size,.slice a8 c.data.length a9])] (by simp) (l0:= []) trivial ?_
 refine Y.seq (Y.region ?_)
 refine Y.el rfl (fQ (cs:= [.slice a3 f.inodes.length a4,.slice a6 f.data.length a7]) (n:=2) rfl (.t .z) rfl rfl) ?_
 rintro _ _ ⟨g4,rfl,rfl⟩
 refine Y.el rfl (fQ (cs:= [.int .i64 c.kind,.string c.path,.string c.to,.int .i64 c.frm,.int .i64 c.size,.slice a8 c.data.length a9]) (n:=6) rfl (.t .g2) rfl rfl) ?_
 rintro _ _ ⟨g5,rfl,rfl⟩
 refine Y.el rfl (bB rfl aAv rfl rfl) ?_
 rintro _ _ ⟨g6,rfl,rfl⟩
 refine Y.nt (Y.seq (Y.region (Y.fa rfl .g1 oO (Y.ld rfl iH .z .g1 ?_))))
 refine Y.cl rfl rfl Tryz.func100 rfl rfl (aS (.t .g4) (.t .z)) .n (fun _ _ hs tr=>xM (tr.ptr .g2 (aJ f (tr.ctx aa) (tr.ctx ab))) _ (by first | assumption | omega) (by assumption)) ?_
 rintro _ _ ⟨rfl,rfl⟩
 refine Y.m .n ?_
 have ff:=mE (f:=f) (s:=c.path)
 have fg:=lK ht c.path
 refine Y.mv rfl .z (Y.ql rfl (bF (v:= .int .i64 ((aO f c.path).1)) rfl (.t .z) rfl) (Y.ql rfl (bF (v:= .string ((aO f c.path).2.1)) rfl (.t .g1) rfl) (Y.ql rfl (bF (v:= .int .i64 ((aO f c.path).2.2)) rfl (.t .g2) rfl) (Y.as rfl .g2 (Y.as rfl .g2 (Y.as rfl .g2 (Y.nt ?_)))))))
 refine Y.seq (Y.seq (Y.region (Y.mv rfl .z (Y.ql rfl (bW rfl (.t .z) .c) (Y.nt ?_)))))
 refine Y.ac (.t .z) (fun b9=> ?_) (fun b9=> ?_)
 refine Y.seq (Y.region (Y.ql rfl (qW rfl bX (.t .g14) .g2 bA) (Y.mv rfl .g3 ?_)))
 refine Y.cl rfl rfl Tryz.func101 rfl rfl (aS (.t .g1) (.t .z)) .n (fun _ _ hs tr=>gP (aJ f (tr.ctx aa) (tr.ctx ab)) _) ?_
 rintro _ _ ⟨kq,kr,ks,kt,rfl,rfl⟩
 refine Y.m (.c (.c (.c (.c .n)))) ?_
 refine Y.h (WS.a .z) ?_
 rintro⟨iw,ix,rfl,fh,fi,fj⟩
 refine Y.h (WS.a .g1) ?_
 rintro⟨iy,iz,rfl,fk,fl,fm⟩
 refine Y.h (WS.a .g2) ?_
 rintro⟨i0,i1,rfl,fn,fo,fp⟩
 refine Y.h (WS.a .g3) ?_
 rintro⟨i2,i3,rfl,fq,fr,ft⟩
 refine Y.es (aE rfl) rfl (esW rfl (.t .g15) (.t .z) .g4 cA rfl rfl) ?_
 refine Y.nt (Y.ret (Y.j ?_))
 refine Y.i (cU rfl .g15 eK .z cA) (.c .g1 (.c .g1 (.c .g1 (.c .g1 .n)))) ?_
 exact⟨(⟨0,((aO f c.path).2.2),0,[],[],(⟨f.inodes,f.data⟩:DFs)⟩:dY),(by first | exact hj | assumption | exact jB hj _ _),_,_,_,_,rfl,rfl⟩
 refine Y.skip (Y.g (Y.seq (Y.region (Y.fa rfl .g14 aP (Y.ld rfl bR .z .g2 (Y.mv rfl .g6 ?_))))))
 obtain⟨i4,ar,ag⟩:=a5 (by omega)
 subst ar
 obtain⟨ao,ah⟩:=aK (xs:=f.inodes) (j:=Int.toNat ((aO f c.path).1)) (by first | omega |(simp <;> omega))
 obtain⟨fu,ba,ap,aq⟩:=ag.elem ah
 obtain⟨cd,ce,rfl,au,ai⟩:=bY ba
 obtain⟨cf,cg,rfl,bu,bv,bw,bx⟩:=aD au
 obtain⟨ch,ci,rfl,bz,b0,b1,al⟩:=aD ai
 have i5:=cO (i:=((aO f c.path).1)) ah (by omega)
 have av:=cP (a:=((aO f c.path).1)) ah (by omega)
 have i6:=dL (a:=((aO f c.path).1)) ah (by omega)
 have bb:=ht.get ah
 refine Y.ql rfl (aB (j:=Int.toNat ((aO f c.path).1)) rfl cQ aT (.t .g1) (.t .z) (by omega) (by first | omega |(simp <;> omega))) ?_
 refine Y.fa rfl .z bL (Y.le rfl dX .z ap aq (Y.mv rfl .g9 ?_))
 refine Y.cl rfl rfl Tryz.func102 rfl rfl (aS (.t .g1) (.t .z)) .n (fun _ _ hs tr=>sD (tr.ctx ai) _ (by first | assumption | omega)) ?_
 rintro _ _ ⟨rfl,rfl⟩
 refine Y.m .n ?_
 refine Y.as rfl .z (Y.nt (Y.seq (Y.seq (Y.region (Y.mv rfl .z (Y.ql rfl (dA rfl (.t .z) .c) (Y.nil ?_)))))))
 refine Y.g ?_
 refine Y.u (.t .z) (fun i7=> ?_) (fun i7=> ?_)
 have fv:=gB (dE ((aO f c.path).2.1)) ao.ents
 refine Y.seq (Y.region (Y.ql rfl (qW rfl bX (.t (.s16 .g9)) .g2 bA) ?_))
 refine Y.cl rfl rfl Tryz.func101 rfl rfl (aS (.t .z) .c) .n (fun _ _ hs tr=>gP (aJ f (tr.ctx aa) (tr.ctx ab)) _) ?_
 rintro _ _ ⟨ku,kv,kw,kx,rfl,rfl⟩
 refine Y.m (.c (.c (.c (.c .n)))) ?_
 refine Y.h (WS.a .z) ?_
 rintro⟨i8,i9,rfl,fw,fx,fy⟩
 refine Y.h (WS.a .g1) ?_
 rintro⟨ja,jb,rfl,f0,f1,f2⟩
 refine Y.h (WS.a .g2) ?_
 rintro⟨jc,jd,rfl,f3,f4,f5⟩
 refine Y.h (WS.a .g3) ?_
 rintro⟨je,jf,rfl,f6,f7,f8⟩
 refine Y.es (aE rfl) rfl (esW rfl (.t (.s16 .g9)) (.t .z) .g4 cA rfl rfl) ?_
 refine Y.nt (Y.ret (Y.j ?_))
 refine Y.i (cU rfl (.s16 .g9) eK .z cA) (.c .g1 (.c .g1 (.c .g1 (.c .g1 .n)))) ?_
 exact⟨(⟨0,4,0,[],[],(⟨f.inodes,f.data⟩:DFs)⟩:dY),(by first | exact hj | assumption | exact jB hj _ _),_,_,_,_,rfl,rfl⟩
 have f9:=gB (dE ((aO f c.path).2.1)) ao.ents
 refine Y.skip (Y.g (Y.seq ?_))
 refine Y.dr .z 13 fR ?_
 refine Y.sc (qs 0 13++ [(13,false)]) (by kernel_rfl) ?_
 refine Y.df rfl rfl .z (.s16 .g9) aP (Y.dl rfl rfl .z bR .z .g2 (Y.df rfl rfl .z (.s16 .g11) aP (Y.dl rfl rfl .z bR .z .g2 (Y.dm rfl rfl .z (.s16 .g3) ?_))))
 refine Y.dk rfl rfl .z (aB (j:=Int.toNat ((aO f c.path).1)) rfl cQ aT (.t .g1) (.t .z) (by omega) (by first | omega |(simp <;> omega))) ?_
 refine Y.df rfl rfl .z .z bL (Y.de rfl rfl .z dX .z ap aq (Y.dm rfl rfl .z .g10 ?_))
 obtain⟨jg,aw,ax⟩:=al (by omega)
 subst aw
 obtain⟨bc,bd⟩:=aK (xs:=ao.ents) (j:=Int.toNat (eX (dE ((aO f c.path).2.1)) ao.ents)) (by first | omega |(simp <;> omega))
 obtain⟨ga,be,bf,bg⟩:=ax.elem bd
 obtain⟨rfl,cj⟩:=eY be
 have gb:=qP bb _ _ bd
 refine Y.dk rfl rfl .z (aB (j:=Int.toNat (eX (dE ((aO f c.path).2.1)) ao.ents)) rfl dP fA (.t .g1) (.t .z) (by omega) (by first | omega |(simp <;> omega))) ?_
 refine Y.df rfl rfl .z .z gG (Y.de rfl rfl .z bP .z bf bg ?_)
 obtain⟨ky,aj⟩:=aK (xs:=f.inodes) (j:=Int.toNat bc.ino) (by first | omega |(simp <;> omega))
 obtain⟨gc,bh,ac,ad⟩:=ag.elem aj
 obtain⟨ck,cm,rfl,ay,az⟩:=bY bh
 obtain⟨cn,co,rfl,b2,b3,b4,b5⟩:=aD ay
 obtain⟨cp,cq,rfl,b6,b7,b8,ca⟩:=aD az
 have jh:=cO (i:=bc.ino) aj (by omega)
 have ji:=cP (a:=bc.ino) aj (by omega)
 have jj:=dL (a:=bc.ino) aj (by omega)
 have gd:=ht.get aj
 refine Y.dk rfl rfl .z (aB (j:=Int.toNat bc.ino) rfl cQ aT (.t .g10) (.t .z) (by omega) (by first | omega |(simp <;> omega))) ?_
 refine Y.q (aC rfl rfl) rfl (by decide) rfl (aA rfl (.t .z)) ?_
 refine Y.sl rfl ?_
 refine Y.w ?_
 refine Y.af (by kernel_rfl) ?_
 refine Y.g (Y.seq (Y.seq (Y.region (Y.fa rfl (.s16 (.s16 .g6)) rR (Y.ld rfl bP .z .g1 (Y.ql rfl (bU rfl (.t .z) .c) (Y.mv rfl .z ?_)))))))
 refine Y.al .z (fun g49=> ?_) (fun g49=> ?_)
 refine Y.qg rfl rfl .z rfl rfl rfl (aR rfl (.t .g4)) ?_
 refine Y.qg rfl rfl .g1 rfl rfl rfl (dZ rfl (.t .z)) ?_
 refine Y.qg rfl rfl .g2 rfl rfl rfl (aN rfl (.t .z) (fun _=>bS _ _)) ?_
 refine Y.qg rfl rfl .g3 rfl rfl rfl (aM rfl bP (.t .z) (WS.el ac ad rfl)) ?_
 refine Y.qg rfl rfl .g4 rfl rfl rfl (bU rfl (.t .z) .c) ?_
 refine Y.ql rfl (bI rfl (.t .g5) (.t .z)) (Y.nt ?_)
 refine Y.u (.t .z) (fun jk=> ?_) (fun jk=> ?_)
 refine Y.seq (Y.region (Y.ql rfl (qW rfl bX (.t (.s16 (.s16 (.s16 .g1)))) .g2 bA) ?_))
 refine Y.cl rfl rfl Tryz.func101 rfl rfl (aS (.t .z) .c) .n (fun _ _ hs tr=>gP (aJ f (tr.ctx aa) (tr.ctx ab)) _) ?_
 rintro _ _ ⟨kz,k0,k1,k2,rfl,rfl⟩
 refine Y.m (.c (.c (.c (.c .n)))) ?_
 refine Y.h (WS.a .z) ?_
 rintro⟨jl,jm,rfl,ge,gf,gg⟩
 refine Y.h (WS.a .g1) ?_
 rintro⟨jn,jo,rfl,gh,gi,gj⟩
 refine Y.h (WS.a .g2) ?_
 rintro⟨jp,jq,rfl,gk,gl,gm⟩
 refine Y.h (WS.a .g3) ?_
 rintro⟨jr,js,rfl,gn,go,gp⟩
 refine Y.es (aE rfl) rfl (esW rfl (.t (.s16 (.s16 (.s16 .g1)))) (.t .z) .g4 cA rfl rfl) ?_
 refine Y.nt (Y.ret (Y.j ?_))
 refine Y.i (cU rfl (.s16 (.s16 (.s16 .g1))) eK .z cA) (.c .g1 (.c .g1 (.c .g1 (.c .g1 .n)))) ?_
 exact⟨(⟨0,9,0,[],[],(⟨f.inodes,f.data⟩:DFs)⟩:dY),(by first | exact hj | assumption | exact jB hj _ _),_,_,_,_,rfl,rfl⟩
 refine Y.skip (Y.g (Y.seq (Y.seq (Y.region (Y.fa rfl (.s16 (.s16 .g16)) rR (Y.ld rfl bP .z .g1 (Y.ql rfl (bU rfl (.t .z) .c) (Y.mv rfl .z ?_))))))))
 refine Y.al .z (fun g63=> ?_) (fun g63=> ?_)
 exfalso;first | omega | contradiction
 refine Y.r rfl rfl .z rfl rfl (by decide) rfl ?_
 refine Y.r rfl rfl .g1 rfl rfl (by decide) rfl ?_
 refine Y.r rfl rfl .g2 rfl rfl (by decide) rfl ?_
 refine Y.r rfl rfl .g3 rfl rfl (by decide) rfl ?_
 refine Y.r rfl rfl .g4 rfl rfl (by decide) rfl ?_
 refine Y.ql rfl (bH rfl (.t .g5) .c) (Y.nt ?_)
 refine Y.ap (.t .z) ?_
 refine Y.skip (Y.g (Y.seq (Y.seq (Y.region (Y.mv rfl (.s16 .g4) (Y.nc rfl .z (Y.fa rfl .z bL (Y.le rfl dX .z ac ad ?_))))))))
 refine Y.ql rfl (bD rfl dP (.t .z)) (Y.ql rfl (fI rfl (.t .z) .c) (Y.nt ?_))
 refine Y.u (.t .z) (fun jt=> ?_) (fun jt=> ?_)
 refine Y.seq (Y.region (Y.ql rfl (qW rfl bX (.t (.s16 (.s16 (.s16 (.s16 .g1))))) .g2 bA) ?_))
 refine Y.cl rfl rfl Tryz.func101 rfl rfl (aS (.t .z) .c) .n (fun _ _ hs tr=>gP (aJ f (tr.ctx aa) (tr.ctx ab)) _) ?_
 rintro _ _ ⟨k3,k4,k5,k6,rfl,rfl⟩
 refine Y.m (.c (.c (.c (.c .n)))) ?_
 refine Y.h (WS.a .z) ?_
 rintro⟨ju,jv,rfl,gq,gr,gs⟩
 refine Y.h (WS.a .g1) ?_
 rintro⟨jw,jx,rfl,gt,gu,gv⟩
 refine Y.h (WS.a .g2) ?_
 rintro⟨jy,jz,rfl,gw,gx,gy⟩
 refine Y.h (WS.a .g3) ?_
 rintro⟨j0,j1,rfl,gz,g0,ha⟩
 refine Y.es (aE rfl) rfl (esW rfl (.t (.s16 (.s16 (.s16 (.s16 .g1))))) (.t .z) .g4 cA rfl rfl) ?_
 refine Y.nt (Y.ret (Y.j ?_))
 refine Y.i (cU rfl (.s16 (.s16 (.s16 (.s16 .g1)))) eK .z cA) (.c .g1 (.c .g1 (.c .g1 (.c .g1 .n)))) ?_
 exact⟨(⟨0,8,0,[],[],(⟨f.inodes,f.data⟩:DFs)⟩:dY),(by first | exact hj | assumption | exact jB hj _ _),_,_,_,_,rfl,rfl⟩
 refine Y.skip (Y.g (Y.seq (Y.region (Y.ql rfl (qW rfl bX (.t (.s16 (.s16 (.s16 (.s16 .g1))))) .g2 bA) ?_))))
 refine Y.cl rfl rfl Tryz.func104 rfl rfl (bG (.t .z)) .n (fun _ _ hs tr=>qC (aJ f (tr.ctx aa) (tr.ctx ab))) ?_
 rintro _ _ ⟨k7,k8,rfl,rfl⟩
 refine Y.m (.c (.c .n)) ?_
 refine Y.h (WS.a .z) ?_
 rintro⟨j2,j3,rfl,hb,hc,hd⟩
 refine Y.h (WS.a .g1) ?_
 rintro⟨j4,j5,rfl,he,hf,hg⟩
 refine Y.el rfl (bB rfl rG rfl rfl) ?_
 rintro _ _ ⟨g83,rfl,rfl⟩
 refine Y.es (aE rfl) rfl (esW rfl (.t .z) (.t .g1) .z bA rfl rfl) ?_
 refine Y.nt (Y.seq (Y.region (Y.mv rfl (.s16 (.s16 (.s16 .g10))) (Y.mv rfl (.s16 (.s16 .g14)) ?_))))
 obtain⟨ak,bi,a0, -⟩:=mA (show¬eX (dE ((aO f c.path).2.1)) ao.ents= -1 by omega)
 refine Y.eq .z (congrArg (Value.int .i64) bi) ?_
 have cb:ak<(aG f.inodes (aO f c.path).1).length:=by rw [av];exact a0
 refine Y.cl rfl rfl Tryz.func110 rfl rfl (eL (.t .g2) (.t .g1) (.t .z)) (.c .z (.c .z (.c .z .n))) (fun _ _ hs tr=>aB1 (f:=f) _ _ hs (by assumption) (by first | assumption |(constructor <;> omega)) (by first | omega | assumption)) ?_
 rintro _ _ ⟨k9,la,rfl,rfl⟩
 refine Y.m (.c (.c (.c .n))) ?_
 refine Y.h (WS.a .g1) ?_
 rintro⟨cr,ct,rfl,hh,hi,hk⟩
 refine Y.h (WS.a .g2) ?_
 rintro⟨cu,cv,rfl,hl,hm,hn⟩
 refine Y.nt (Y.seq (Y.region (Y.ql rfl (qW rfl bX (.t .g3) .z bA) (Y.ql rfl (aW (cs:= [.int .i64 0,.int .i64 0,.int .i64 0,.slice none 0 0,.slice none 0 0,.slice cr ((iX f ((aO f c.path).1) ak).inodes).length ct,.slice cu ((iX f ((aO f c.path).1) ak).data).length cv]) rfl pB (pv1 (.t .z)) rfl) ?_))))
 refine Y.es (aE rfl) rfl (esW rfl (.t (.s16 (.s16 (.s16 (.s16 .g7))))) (.t .z) .g3 cA rfl rfl) ?_
 refine Y.nt (Y.ret ?_)
 refine Y.add (c:=aH dD [] [.slice none 0 0]) (fun w S=>aL w S none) ?_
 refine Y.add (c:=aH cT [] [.slice none 0 0]) (fun w S=>aL w S none) ?_
 refine Y.i (cU rfl (.s16 (.s16 (.s16 (.s16 .g7)))) eK .g2 cA) (.c .g1 (.c .z (.c .g2 (.c .g2 .n)))) ?_
 exact⟨(⟨0,0,0,[],[],(⟨(iX f ((aO f c.path).1) ak).inodes,(iX f ((aO f c.path).1) ak).data⟩:DFs)⟩:dY),(by first | exact hj | assumption | exact jB hj _ _),_,_,_,_,rfl,rfl⟩
 refine Y.r rfl rfl .z rfl rfl (by decide) rfl ?_
 refine Y.r rfl rfl .g1 rfl rfl (by decide) rfl ?_
 refine Y.r rfl rfl .g2 rfl rfl (by decide) rfl ?_
 refine Y.r rfl rfl .g3 rfl rfl (by decide) rfl ?_
 refine Y.r rfl rfl .g4 rfl rfl (by decide) rfl ?_
 refine Y.ql rfl (bH rfl (.t .g5) .c) (Y.nt ?_)
 refine Y.ap (.t .z) ?_
 refine Y.skip (Y.g (Y.seq (Y.seq (Y.region (Y.fa rfl (.s16 (.s16 .g16)) rR (Y.ld rfl bP .z .g1 (Y.ql rfl (bU rfl (.t .z) .c) (Y.mv rfl .z ?_))))))))
 refine Y.al .z (fun g93=> ?_) (fun g93=> ?_)
 refine Y.qg rfl rfl .z rfl rfl rfl (aR rfl (.t .g14)) ?_
 refine Y.qg rfl rfl .g1 rfl rfl rfl (dZ rfl (.t .z)) ?_
 refine Y.qg rfl rfl .g2 rfl rfl rfl (aN rfl (.t .z) (fun _=>bS _ _)) ?_
 refine Y.qg rfl rfl .g3 rfl rfl rfl (aM rfl bP (.t .z) (WS.el ac ad rfl)) ?_
 refine Y.qg rfl rfl .g4 rfl rfl rfl (bW rfl (.t .z) .c) ?_
 refine Y.ql rfl (bI rfl (.t .g5) (.t .z)) (Y.nt ?_)
 refine Y.ac (.t .z) (fun j6=> ?_) (fun j6=> ?_)
 refine Y.seq (Y.region (Y.ql rfl (qW rfl bX (.t (.s16 (.s16 (.s16 .g11)))) .g2 bA) ?_))
 refine Y.cl rfl rfl Tryz.func101 rfl rfl (aS (.t .z) .c) .n (fun _ _ hs tr=>gP (aJ f (tr.ctx aa) (tr.ctx ab)) _) ?_
 rintro _ _ ⟨lb,lc,lf,j7,rfl,rfl⟩
 refine Y.m (.c (.c (.c (.c .n)))) ?_
 refine Y.h (WS.a .z) ?_
 rintro⟨ho,hp,rfl,cw,cx,cy⟩
 refine Y.h (WS.a .g1) ?_
 rintro⟨hq,hr,rfl,cz,c0,c1⟩
 refine Y.h (WS.a .g2) ?_
 rintro⟨hu,hv,rfl,c2,c3,c4⟩
 refine Y.h (WS.a .g3) ?_
 rintro⟨hw,hx,rfl,c5,c6,c7⟩
 refine Y.es (aE rfl) rfl (esW rfl (.t (.s16 (.s16 (.s16 .g11)))) (.t .z) .g4 cA rfl rfl) ?_
 refine Y.nt (Y.ret (Y.j ?_))
 refine Y.i (cU rfl (.s16 (.s16 (.s16 .g11))) eK .z cA) (.c .g1 (.c .g1 (.c .g1 (.c .g1 .n)))) ?_
 exact⟨(⟨0,1,0,[],[],(⟨f.inodes,f.data⟩:DFs)⟩:dY),(by first | exact hj | assumption | exact jB hj _ _),_,_,_,_,rfl,rfl⟩
 refine Y.skip (Y.g (Y.seq (Y.seq (Y.region (Y.mv rfl (.s16 .g4) (Y.nc rfl .z (Y.fa rfl .z bL (Y.le rfl dX .z ac ad ?_))))))))
 refine Y.ql rfl (bD rfl dP (.t .z)) (Y.ql rfl (fI rfl (.t .z) .c) (Y.nt ?_))
 refine Y.u (.t .z) (fun c8=> ?_) (fun c8=> ?_)
 refine Y.seq (Y.region (Y.ql rfl (qW rfl bX (.t (.s16 (.s16 (.s16 (.s16 .g1))))) .g2 bA) ?_))
 refine Y.cl rfl rfl Tryz.func101 rfl rfl (aS (.t .z) .c) .n (fun _ _ hs tr=>gP (aJ f (tr.ctx aa) (tr.ctx ab)) _) ?_
 rintro _ _ ⟨j8,j9,ka,kb,rfl,rfl⟩
 refine Y.m (.c (.c (.c (.c .n)))) ?_
 refine Y.h (WS.a .z) ?_
 rintro⟨hy,hz,rfl,c9,da,db⟩
 refine Y.h (WS.a .g1) ?_
 rintro⟨h2,h3,rfl,dc,dd,dg⟩
 refine Y.h (WS.a .g2) ?_
 rintro⟨h4,h5,rfl,dh,di,dj⟩
 refine Y.h (WS.a .g3) ?_
 rintro⟨h6,h7,rfl,dp,ds,dt⟩
 refine Y.es (aE rfl) rfl (esW rfl (.t (.s16 (.s16 (.s16 (.s16 .g1))))) (.t .z) .g4 cA rfl rfl) ?_
 refine Y.nt (Y.ret (Y.j ?_))
 refine Y.i (cU rfl (.s16 (.s16 (.s16 (.s16 .g1)))) eK .z cA) (.c .g1 (.c .g1 (.c .g1 (.c .g1 .n)))) ?_
 exact⟨(⟨0,8,0,[],[],(⟨f.inodes,f.data⟩:DFs)⟩:dY),(by first | exact hj | assumption | exact jB hj _ _),_,_,_,_,rfl,rfl⟩
 refine Y.skip (Y.g (Y.seq (Y.region (Y.ql rfl (qW rfl bX (.t (.s16 (.s16 (.s16 (.s16 .g1))))) .g2 bA) ?_))))
 refine Y.cl rfl rfl Tryz.func104 rfl rfl (bG (.t .z)) .n (fun _ _ hs tr=>qC (aJ f (tr.ctx aa) (tr.ctx ab))) ?_
 rintro _ _ ⟨kc,kd,rfl,rfl⟩
 refine Y.m (.c (.c .n)) ?_
 refine Y.h (WS.a .z) ?_
 rintro⟨h8,h9,rfl,du,dv,dw⟩
 refine Y.h (WS.a .g1) ?_
 rintro⟨ia,ib,rfl,dx,dy,dz⟩
 refine Y.el rfl (bB rfl rG rfl rfl) ?_
 rintro _ _ ⟨g126,rfl,rfl⟩
 refine Y.es (aE rfl) rfl (esW rfl (.t .z) (.t .g1) .z bA rfl rfl) ?_
 refine Y.nt (Y.seq (Y.region (Y.mv rfl (.s16 (.s16 (.s16 .g10))) (Y.mv rfl (.s16 (.s16 .g14)) ?_))))
 obtain⟨ae,a1,am, -⟩:=mA (show¬eX (dE ((aO f c.path).2.1)) ao.ents= -1 by omega)
 refine Y.eq .z (congrArg (Value.int .i64) a1) ?_
 have bj:ae<(aG f.inodes (aO f c.path).1).length:=by rw [av];exact am
 refine Y.cl rfl rfl Tryz.func110 rfl rfl (eL (.t .g2) (.t .g1) (.t .z)) (.c .z (.c .z (.c .z .n))) (fun _ _ hs tr=>aB1 (f:=f) _ _ hs (by assumption) (by first | assumption |(constructor <;> omega)) (by first | omega | assumption)) ?_
 rintro _ _ ⟨ke,kf,rfl,rfl⟩
 refine Y.m (.c (.c (.c .n))) ?_
 refine Y.h (WS.a .g1) ?_
 rintro⟨bk,bm,rfl,d0,d1,d2⟩
 refine Y.h (WS.a .g2) ?_
 rintro⟨bn,bo,rfl,d3,d4,d5⟩
 refine Y.nt (Y.seq (Y.region (Y.ql rfl (qW rfl bX (.t .g3) .z bA) (Y.ql rfl (aW (cs:= [.int .i64 0,.int .i64 0,.int .i64 0,.slice none 0 0,.slice none 0 0,.slice bk ((iX f ((aO f c.path).1) ae).inodes).length bm,.slice bn ((iX f ((aO f c.path).1) ae).data).length bo]) rfl pB (pv1 (.t .z)) rfl) ?_))))
 refine Y.es (aE rfl) rfl (esW rfl (.t (.s16 (.s16 (.s16 (.s16 .g7))))) (.t .z) .g3 cA rfl rfl) ?_
 refine Y.nt (Y.ret ?_)
 refine Y.add (c:=aH dD [] [.slice none 0 0]) (fun w S=>aL w S none) ?_
 refine Y.add (c:=aH cT [] [.slice none 0 0]) (fun w S=>aL w S none) ?_
 refine Y.i (cU rfl (.s16 (.s16 (.s16 (.s16 .g7)))) eK .g2 cA) (.c .g1 (.c .z (.c .g2 (.c .g2 .n)))) ?_
 exact⟨(⟨0,0,0,[],[],(⟨(iX f ((aO f c.path).1) ae).inodes,(iX f ((aO f c.path).1) ae).data⟩:DFs)⟩:dY),(by first | exact hj | assumption | exact jB hj _ _),_,_,_,_,rfl,rfl⟩
 refine Y.r rfl rfl .z rfl rfl (by decide) rfl ?_
 refine Y.r rfl rfl .g1 rfl rfl (by decide) rfl ?_
 refine Y.r rfl rfl .g2 rfl rfl (by decide) rfl ?_
 refine Y.r rfl rfl .g3 rfl rfl (by decide) rfl ?_
 refine Y.r rfl rfl .g4 rfl rfl (by decide) rfl ?_
 refine Y.ql rfl (bH rfl (.t .g5) .c) (Y.nt ?_)
 refine Y.ap (.t .z) ?_
 refine Y.skip (Y.g (Y.seq (Y.seq (Y.region (Y.mv rfl (.s16 .g4) (Y.nc rfl .z (Y.fa rfl .z bL (Y.le rfl dX .z ac ad ?_))))))))
 refine Y.ql rfl (bD rfl dP (.t .z)) (Y.ql rfl (fI rfl (.t .z) .c) (Y.nt ?_))
 refine Y.u (.t .z) (fun d6=> ?_) (fun d6=> ?_)
 refine Y.seq (Y.region (Y.ql rfl (qW rfl bX (.t (.s16 (.s16 (.s16 (.s16 .g1))))) .g2 bA) ?_))
 refine Y.cl rfl rfl Tryz.func101 rfl rfl (aS (.t .z) .c) .n (fun _ _ hs tr=>gP (aJ f (tr.ctx aa) (tr.ctx ab)) _) ?_
 rintro _ _ ⟨kg,kh,ki,kj,rfl,rfl⟩
 refine Y.m (.c (.c (.c (.c .n)))) ?_
 refine Y.h (WS.a .z) ?_
 rintro⟨ic,id,rfl,d7,d8,d9⟩
 refine Y.h (WS.a .g1) ?_
 rintro⟨ie,ig,rfl,ea,eb,ec⟩
 refine Y.h (WS.a .g2) ?_
 rintro⟨ih,ii,rfl,ed,ee,ef⟩
 refine Y.h (WS.a .g3) ?_
 rintro⟨ij,ik,rfl,eg,eh,ei⟩
 refine Y.es (aE rfl) rfl (esW rfl (.t (.s16 (.s16 (.s16 (.s16 .g1))))) (.t .z) .g4 cA rfl rfl) ?_
 refine Y.nt (Y.ret (Y.j ?_))
 refine Y.i (cU rfl (.s16 (.s16 (.s16 (.s16 .g1)))) eK .z cA) (.c .g1 (.c .g1 (.c .g1 (.c .g1 .n)))) ?_
 exact⟨(⟨0,8,0,[],[],(⟨f.inodes,f.data⟩:DFs)⟩:dY),(by first | exact hj | assumption | exact jB hj _ _),_,_,_,_,rfl,rfl⟩
 refine Y.skip (Y.g (Y.seq (Y.region (Y.ql rfl (qW rfl bX (.t (.s16 (.s16 (.s16 (.s16 .g1))))) .g2 bA) ?_))))
 refine Y.cl rfl rfl Tryz.func104 rfl rfl (bG (.t .z)) .n (fun _ _ hs tr=>qC (aJ f (tr.ctx aa) (tr.ctx ab))) ?_
 rintro _ _ ⟨kk,kl,rfl,rfl⟩
 refine Y.m (.c (.c .n)) ?_
 refine Y.h (WS.a .z) ?_
 rintro⟨il,im,rfl,ej,ek,em⟩
 refine Y.h (WS.a .g1) ?_
 rintro⟨io,ip,rfl,en,eo,ep⟩
 refine Y.el rfl (bB rfl rG rfl rfl) ?_
 rintro _ _ ⟨g155,rfl,rfl⟩
 refine Y.es (aE rfl) rfl (esW rfl (.t .z) (.t .g1) .z bA rfl rfl) ?_
 refine Y.nt (Y.seq (Y.region (Y.mv rfl (.s16 (.s16 (.s16 .g10))) (Y.mv rfl (.s16 (.s16 .g14)) ?_))))
 obtain⟨af,a2,an, -⟩:=mA (show¬eX (dE ((aO f c.path).2.1)) ao.ents= -1 by omega)
 refine Y.eq .z (congrArg (Value.int .i64) a2) ?_
 have bp:af<(aG f.inodes (aO f c.path).1).length:=by rw [av];exact an
 refine Y.cl rfl rfl Tryz.func110 rfl rfl (eL (.t .g2) (.t .g1) (.t .z)) (.c .z (.c .z (.c .z .n))) (fun _ _ hs tr=>aB1 (f:=f) _ _ hs (by assumption) (by first | assumption |(constructor <;> omega)) (by first | omega | assumption)) ?_
 rintro _ _ ⟨km,kn,rfl,rfl⟩
 refine Y.m (.c (.c (.c .n))) ?_
 refine Y.h (WS.a .g1) ?_
 rintro⟨bq,br,rfl,et,eu,ev⟩
 refine Y.h (WS.a .g2) ?_
 rintro⟨bs,bt,rfl,ew,ey,ez⟩
 refine Y.nt (Y.seq (Y.region (Y.ql rfl (qW rfl bX (.t .g3) .z bA) (Y.ql rfl (aW (cs:= [.int .i64 0,.int .i64 0,.int .i64 0,.slice none 0 0,.slice none 0 0,.slice bq ((iX f ((aO f c.path).1) af).inodes).length br,.slice bs ((iX f ((aO f c.path).1) af).data).length bt]) rfl pB (pv1 (.t .z)) rfl) ?_))))
 refine Y.es (aE rfl) rfl (esW rfl (.t (.s16 (.s16 (.s16 (.s16 .g7))))) (.t .z) .g3 cA rfl rfl) ?_
 refine Y.nt (Y.ret ?_)
 refine Y.add (c:=aH dD [] [.slice none 0 0]) (fun w S=>aL w S none) ?_
 refine Y.add (c:=aH cT [] [.slice none 0 0]) (fun w S=>aL w S none) ?_
 refine Y.i (cU rfl (.s16 (.s16 (.s16 (.s16 .g7)))) eK .g2 cA) (.c .g1 (.c .z (.c .g2 (.c .g2 .n)))) ?_
 exact⟨(⟨0,0,0,[],[],(⟨(iX f ((aO f c.path).1) af).inodes,(iX f ((aO f c.path).1) af).data⟩:DFs)⟩:dY),(by first | exact hj | assumption | exact jB hj _ _),_,_,_,_,rfl,rfl⟩

theorem aOt {w0:World}{S0:Bs}{f:DFs}{aq:List Value} (h0:dV.ro w0 (FF w0 S0) f aq) {c:oD}{ar:List Value} (h1:zJ.ro w0 (FF w0 S0) c ar) (hj:Jf f):
    Calls Tryz.prog 83 #[.agg aq.toArray,.agg ar.toArray] w0 (aI w0 S0 (fun r l=>∃x:dY,Jf x.fs∧wB x r l)):=by
 obtain⟨ci,cj,rfl,aa,ab⟩:=bZ h0
 obtain⟨ac,ad,rfl,au,av,aw,ax⟩:=aD aa
 obtain⟨ae,af,rfl,ay,az,a0,a1⟩:=aD ab
 obtain⟨ck,rfl,ai,cm,cn⟩:=tV h1
 obtain⟨ag,ah,rfl,a2,a3,a4,a5⟩:=aD ai
 have ht:J0 f:=hj.toJ0
 have dh:=hj.n.2
 have di:=hj.n.1
 refine Y.enter (N:=59) Tryz.func83 rfl rfl (by simp) [(0,.agg #[.slice ac f.inodes.length ad,.slice ae f.data.length af]),(1,.agg #[.int .i64 c.kind,.string c.path,.string c.to,.int .i64 c.frm,.int .i64 c.size,.slice ag c.data.length ah])] (by simp) (l0:= []) trivial ?_
 refine Y.seq (Y.region ?_)
 refine Y.el rfl (fQ (cs:= [.slice ac f.inodes.length ad,.slice ae f.data.length af]) (n:=2) rfl (.t .z) rfl rfl) ?_
 rintro _ _ ⟨g4,rfl,rfl⟩
 refine Y.el rfl (fQ (cs:= [.int .i64 c.kind,.string c.path,.string c.to,.int .i64 c.frm,.int .i64 c.size,.slice ag c.data.length ah]) (n:=6) rfl (.t .g2) rfl rfl) ?_
 rintro _ _ ⟨g5,rfl,rfl⟩
 refine Y.el rfl (bB rfl aAv rfl rfl) ?_
 rintro _ _ ⟨g6,rfl,rfl⟩
 refine Y.nt (Y.seq (Y.seq (Y.region (Y.fa rfl .g1 rR (Y.ld rfl bP .z .g1 (Y.ql rfl (bU rfl (.t .z) .c) (Y.nil ?_)))))))
 refine Y.g ?_
 refine Y.u (.t .z) (fun b7=> ?_) (fun b7=> ?_)
 refine Y.seq (Y.region (Y.ql rfl (qW rfl bX (.t .g5) .g2 bA) (Y.fa rfl .g5 oO (Y.ld rfl iH .z .g1 ?_))))
 refine Y.cl rfl rfl Tryz.func115 rfl rfl (aS (.t .g2) (.t .z)) .n (fun _ _ hs tr=>aM8 (aJ f (tr.ctx aa) (tr.ctx ab)) _ (by first | assumption | omega)) ?_
 rintro _ _ ⟨rfl,rfl⟩
 refine Y.m .n ?_
 refine Y.el rfl (bB rfl aGc rfl rfl) ?_
 rintro _ _ ⟨g8,rfl,rfl⟩
 refine Y.es (aE rfl) rfl (esW rfl (.t .z) (.t .g1) .z kV rfl rfl) ?_
 refine Y.nt (Y.seq (Y.region (Y.ql rfl (qW rfl bX (.t .g10) .g3 bA) (Y.fa rfl .g1 aI2 (Y.ld rfl bP .z .z ?_)))))
 obtain⟨⟨hsa,hsb⟩,⟨hsc,hsd⟩,hse,hsf⟩:=aHr ht c.path
 refine Y.cl rfl rfl Tryz.func101 rfl rfl (aS (.t .g2) (.t .z)) .n (fun _ _ hs tr=>gP (aJ f (tr.ctx aa) (tr.ctx ab)) _) ?_
 rintro _ _ ⟨v9,dj,dp,ds,rfl,rfl⟩
 refine Y.m (.c (.c (.c (.c .n)))) ?_
 refine Y.h (WS.a .z) ?_
 rintro⟨co,cp,rfl,a6,a7,a8⟩
 refine Y.h (WS.a .g1) ?_
 rintro⟨cq,cr,rfl,a9,ba,bb⟩
 refine Y.h (WS.a .g2) ?_
 rintro⟨ct,cu,rfl,bc,bd,be⟩
 refine Y.h (WS.a .g3) ?_
 rintro⟨cv,cw,rfl,bf,bg,bh⟩
 refine Y.el rfl (bB rfl aAv rfl rfl) ?_
 rintro _ _ ⟨g21,rfl,rfl⟩
 refine Y.es (aE rfl) rfl (esW rfl (.t .z) (.t .g1) .z cA rfl rfl) ?_
 refine Y.nt (Y.seq (Y.region (Y.fa rfl .g5 aFd (Y.ld rfl bP .z .g5 ?_))))
 refine Y.ql rfl (rH (c:=((gO f c.path).kind) * 1000) rfl (.t .z) .c (wr (by omega) (by omega) (by omega))) ?_
 refine Y.fa rfl .g8 aJu (Y.ld rfl bP .z .g5 ?_)
 refine Y.ql rfl (rH (c:=((gO f c.path).links) * 100) rfl (.t .z) .c (wr (by omega) (by omega) (by omega))) ?_
 refine Y.ql rfl (bN (c:=(((gO f c.path).kind) * 1000)+(((gO f c.path).links) * 100)) rfl (.t .g3) (.t .z) (wr (by omega) (by omega) (by omega))) ?_
 refine Y.fa rfl .g12 aIy (Y.ld rfl bP .z .g5 ?_)
 refine Y.ql rfl (bN (c:=((((gO f c.path).kind) * 1000)+(((gO f c.path).links) * 100))+((gO f c.path).size)) rfl (.t .g2) (.t .z) (wr (by omega) (by omega) (by omega))) ?_
 refine Y.fa rfl .g10 aJw ?_
 refine Y.es (aE rfl) rfl (es1 (off:=2) rfl jO (.t .z) (.t .g1) rfl rfl .z rfl .g2) ?_
 refine Y.nt (Y.seq (Y.region (Y.ql rfl (qW rfl eK (.t .g11) .z cA) ?_)))
 refine Y.es (aE rfl) rfl (esW rfl (.t (.s16 .g9)) (.t .z) .g6 cA rfl rfl) ?_
 refine Y.nt (Y.ret (Y.j ?_))
 refine Y.i (cU rfl (.s16 .g9) eK .z cA) (.c .g2 (.c .g2 (.c .g2 (.c .g2 .n)))) ?_
 exact⟨(⟨0,((gO f c.path).code),((((gO f c.path).kind) * 1000)+(((gO f c.path).links) * 100))+((gO f c.path).size),[],[],(⟨f.inodes,f.data⟩:DFs)⟩:dY),(by first | exact hj | assumption),_,_,_,_,rfl,rfl⟩
 refine Y.skip (Y.g (Y.seq (Y.region (Y.fa rfl .g4 oO (Y.ld rfl iH .z .g1 ?_)))))
 refine Y.cl rfl rfl Tryz.func106 rfl rfl (aS (.t .g7) (.t .z)) .n (fun _ _ hs tr=>aD6 (tr.ptr .g2 (aJ f (tr.ctx aa) (tr.ctx ab))) _ (by first | assumption | omega) (by assumption)) ?_
 rintro _ _ ⟨rfl,rfl⟩
 refine Y.m .n ?_
 have aj:=pR ht c.path
 refine Y.mv rfl .z (Y.ql rfl (bF (v:= .int .i64 ((cC f c.path).1)) rfl (.t .z) rfl) (Y.ql rfl (bF (v:= .int .i64 ((cC f c.path).2)) rfl (.t .g1) rfl) (Y.as rfl .g1 (Y.as rfl .g1 (Y.nt (Y.seq (Y.seq ?_)))))))
 refine Y.region (Y.mv rfl .z (Y.ql rfl (bW rfl (.t .z) .c) (Y.nt ?_)))
 refine Y.ac (.t .z) (fun cx=> ?_) (fun cx=> ?_)
 refine Y.seq (Y.region (Y.ql rfl (qW rfl bX (.t .g15) .g2 bA) (Y.mv rfl .g3 ?_)))
 obtain⟨⟨hsa,hsb⟩,⟨hsc,hsd⟩,hse,hsf⟩:=aHr ht c.path
 refine Y.cl rfl rfl Tryz.func101 rfl rfl (aS (.t .g1) (.t .z)) .n (fun _ _ hs tr=>gP (aJ f (tr.ctx aa) (tr.ctx ab)) _) ?_
 rintro _ _ ⟨dt,du,dv,dw,rfl,rfl⟩
 refine Y.m (.c (.c (.c (.c .n)))) ?_
 refine Y.h (WS.a .z) ?_
 rintro⟨cy,cz,rfl,bi,bj,bk⟩
 refine Y.h (WS.a .g1) ?_
 rintro⟨c0,c1,rfl,bm,bn,bo⟩
 refine Y.h (WS.a .g2) ?_
 rintro⟨c2,c3,rfl,bp,bq,br⟩
 refine Y.h (WS.a .g3) ?_
 rintro⟨c4,c5,rfl,bs,bt,bu⟩
 refine Y.es (aE rfl) rfl (esW rfl (.t .g16) (.t .z) .g4 cA rfl rfl) ?_
 refine Y.nt (Y.ret (Y.j ?_))
 refine Y.i (cU rfl .g16 eK .z cA) (.c .g1 (.c .g1 (.c .g1 (.c .g1 .n)))) ?_
 exact⟨(⟨0,((cC f c.path).2),0,[],[],(⟨f.inodes,f.data⟩:DFs)⟩:dY),(by first | exact hj | assumption),_,_,_,_,rfl,rfl⟩
 refine Y.skip (Y.g (Y.seq (Y.region (Y.ql rfl (qW rfl bX (.t .g15) .g2 bA) (Y.mv rfl .g4 ?_)))))
 refine Y.cl rfl rfl Tryz.func116 rfl rfl (aS (.t .g1) (.t .z)) .n (fun _ _ hs tr=>aM4 (aJ f (tr.ctx aa) (tr.ctx ab)) _) ?_
 rintro _ _ ⟨dx,rfl,rfl⟩
 refine Y.m (.c .n) ?_
 refine Y.h (WS.a .z) ?_
 rintro⟨ak,al,rfl,bv,bw,bx⟩
 refine Y.el rfl (bB rfl aGd rfl rfl) ?_
 rintro _ _ ⟨g39,rfl,rfl⟩
 refine Y.es (aE rfl) rfl (esW rfl (.t .z) (.t .g1) .z nF rfl rfl) ?_
 refine Y.nt (Y.seq (Y.seq (Y.region (Y.fa rfl .z wM (Y.ld rfl bP .z .z (Y.ql rfl (bW rfl (.t .z) .c) (Y.nil ?_)))))))
 refine Y.g ?_
 refine Y.ac (.t .z) (fun c6=> ?_) (fun c6=> ?_)
 refine Y.seq (Y.region (Y.ql rfl (qW rfl bX (.t (.s16 .g6)) .g4 bA) (Y.fa rfl .g4 wM (Y.ld rfl bP .z .z ?_))))
 obtain⟨⟨hsa,hsb⟩,⟨hsc,hsd⟩,hse,hsf⟩:=aHr ht c.path
 refine Y.cl rfl rfl Tryz.func101 rfl rfl (aS (.t .g2) (.t .z)) .n (fun _ _ hs tr=>gP (aJ f (tr.ctx aa) (tr.ctx ab)) _) ?_
 rintro _ _ ⟨dy,dz,d0,d1,rfl,rfl⟩
 refine Y.m (.c (.c (.c (.c .n)))) ?_
 refine Y.h (WS.a .z) ?_
 rintro⟨c7,c8,rfl,bz,b0,b1⟩
 refine Y.h (WS.a .g1) ?_
 rintro⟨c9,da,rfl,b2,b3,b4⟩
 refine Y.h (WS.a .g2) ?_
 rintro⟨db,dc,rfl,b5,b6,b8⟩
 refine Y.h (WS.a .g3) ?_
 rintro⟨dd,dg,rfl,b9,ca,cb⟩
 refine Y.es (aE rfl) rfl (esW rfl (.t (.s16 .g8)) (.t .z) .g6 cA rfl rfl) ?_
 refine Y.nt (Y.ret (Y.j ?_))
 refine Y.i (cU rfl (.s16 .g8) eK .z cA) (.c .g1 (.c .g1 (.c .g1 (.c .g1 .n)))) ?_
 exact⟨(⟨0,((uZ f ((cC f c.path).1)).code),0,[],[],(⟨f.inodes,f.data⟩:DFs)⟩:dY),(by first | exact hj | assumption),_,_,_,_,rfl,rfl⟩
 refine Y.skip (Y.g (Y.seq ?_))
 refine Y.sel (.c .g1 (.c .z (.c .z (.c .z (.c .z .n))))) ?_
 refine Y.dr .g1 5 fR ?_
 refine Y.sc (qs 0 3++ [(3,false),(4,true),(5,false)]) (by kernel_rfl) ?_
 refine Y.df rfl rfl .g1 .g3 mP (Y.dl rfl rfl .g1 rF .z .z (Y.dk rfl rfl .g1 (qW rfl bX (.t (.s16 .g8)) .g3 bA) ?_))
 refine Y.call (aC rfl rfl) rfl (by decide) rfl (bE rfl Tryz.func104 rfl rfl (bG (.t .z))) .n (fun _ _ hs tr=>qC (aJ f (tr.ctx aa) (tr.ctx ab))) ?_
 rintro _ _ ⟨d2,d3,rfl,rfl⟩
 refine Y.m (.c (.c .n)) ?_
 refine Y.h (WS.a .z) ?_
 rintro⟨am,an,rfl,cc,cd,ce⟩
 refine Y.h (WS.a .g1) ?_
 rintro⟨ao,ap,rfl,cf,cg,ch⟩
 refine Y.sk .g3 ?_
 refine Y.dk rfl rfl .g3 (aW (cs:= [.int .i64 0,.int .i64 0,.int .i64 0,.slice none 0 0,.slice ak ((uZ f ((cC f c.path).1)).names).length al,.slice am f.inodes.length an,.slice ao f.data.length ap]) rfl pB (pv2 (.t .g2) (.t .z)) rfl) ?_
 refine Y.es (aC rfl rfl) rfl (esW rfl (.t (.s16 .g9)) (.t .z) .g4 cA rfl rfl) ?_
 refine Y.sl rfl ?_
 refine Y.w ?_
 refine Y.af (by kernel_rfl) ?_
 refine Y.g (Y.ret ?_)
 refine Y.add (c:=aH dD [] [.slice none 0 0]) (fun w S=>aL w S none) ?_
 refine Y.i (cU rfl (.s16 .g9) eK .g1 cA) (.c .z (.c .g3 (.c .g1 (.c .g1 .n)))) ?_
 exact⟨(⟨0,0,0,[],(uZ f ((cC f c.path).1)).names,(⟨f.inodes,f.data⟩:DFs)⟩:dY),(by first | exact hj | assumption),_,_,_,_,rfl,rfl⟩

end Go.Proofs.YtmejbfmhaoilmaaGreatDoor

/- What is proved: contracts of functions, one a function. No condition. -/
import Derived.Test.YtmejbfmhaoilmaaGreatDoorBase1
import Derived.Test.YtmejbfmhaoilmaaGreatDoorPart2
import Derived.Test.YtmejbfmhaoilmaaGreatDoorBase2
namespace Go.Proofs.YtmejbfmhaoilmaaGreatDoor
open Go Go.RowKit
set_option linter.unusedVariables false
set_option linter.unusedSimpArgs false
set_option maxHeartbeats 1000000
set_option maxRecDepth 20000
theorem aHb {w0:World}{S0:Bs}{f:DFs}{g0 e0 s0:Nat}{ad:List Value}{an:Value}{ao:Value} (a:Int) (i:Nat) (hs:cI [bV g0 e0 s0 1 (an :: ao :: ad),aH bJ f.inodes [an],aH eH f.data [ao]] w0 S0) (hp:bQ f.inodes.length a) (hi:i<(aG f.inodes a).length):
    Calls Tryz.prog 113 #[.pointer (some ⟨g0,0,none⟩),.int .i64 a,.int .i64 (i:Int)] w0 (aI w0 S0 (fun r l=>∃v0 v1,r= .int .i64 (eT (aG f.inodes a) i)∧l= [bV g0 e0 s0 1 (v0 :: v1 :: ad),aH bJ ((dG f a (List.eraseIdx (aG f.inodes a) i))).inodes [v0],aH eH ((dG f a (List.eraseIdx (aG f.inodes a) i))).data [v1]])):=by
 obtain⟨bv,bw⟩:=hp
 refine Y.enter (N:=40) Tryz.func113 rfl rfl (by simp) [(0,.pointer (some ⟨g0,0,none⟩)),(1,.int .i64 a),(2,.int .i64 (i:Int))] (by simp) hs ?_
 refine Y.h (WS.a .g1) ?_
 rintro⟨bx,au,rfl,bf,bg,bh⟩
 refine Y.h (WS.a .g2) ?_
 rintro⟨bz,b0,rfl,bi,bj,bk⟩
 refine Y.seq (Y.region (Y.ql rfl (aA rfl .c) (Y.nt (Y.seq (Y.region (Y.mv rfl .g1 (Y.nc rfl .z ?_)))))))
 refine Y.fa rfl .z aP (Y.ld rfl bR .z .z (Y.mv rfl .g6 ?_))
 refine Y.aa (.c .g1 .n) fP ?_
 rintro a1 ae
 obtain⟨y4,ah⟩:=aK (xs:=f.inodes) (j:=Int.toNat a) (by omega)
 obtain⟨c5,av⟩:=aK (xs:=a1) (j:=Int.toNat a) (by rw [ae];exact(List.getElem?_eq_some_iff.1 ah).1)
 refine Y.au .g1 (eJ ah av) ?_
 refine Y.aa (.c .z .n) fC ?_
 rintro⟨v6,v7⟩ rfl
 refine Y.h (WS.a .z) ?_
 rintro⟨ap,aq,rfl,a2,a3,a4⟩
 refine Y.h (WS.a .g1) ?_
 rintro⟨bm,ai,rfl,a5,a6,a7⟩
 have b1:=cO (i:=a) ah (by omega)
 have aw:=cP (a:=a) ah (by omega)
 have b2:=dL (a:=a) ah (by omega)
 have a8:(aG f.inodes a).length=y4.ents.length:=by rw [aw]
 refine Y.h (WS.h .g4 (by omega)) ?_
 rintro⟨aj,rfl⟩
 refine Y.ql rfl (aB (j:=Int.toNat a) rfl cQ aT (.t .g1) (.t .z) (by omega) (by omega)) ?_
 refine Y.fa rfl .z bL (Y.ql rfl (aM rfl dX (.t .z) (WS.j .g4 av rfl)) (Y.as rfl .z (Y.nt (Y.seq (Y.region (Y.mv rfl .z (Y.mv rfl .g13 ?_)))))))
 refine Y.aa (.c .g1 .n) fP ?_
 rintro ax aa
 obtain⟨ar,ac⟩:=aK (xs:=y4.ents) (j:=i) (by omega)
 obtain⟨b3,ak⟩:=aK (xs:=ax) (j:=i) (by rw [aa];exact(List.getElem?_eq_some_iff.1 ac).1)
 refine Y.au .g1 (eJ ac ak) ?_
 refine Y.aa (.c .z .n) aIe ?_
 rintro⟨⟩ ⟨rfl,ay⟩
 refine Y.h (WS.h .g2 (by omega)) ?_
 rintro⟨ab,rfl⟩
 refine Y.ql rfl (aB (j:=i) rfl dP fA (.t .g1) (.t .z) rfl (by omega)) ?_
 refine Y.fa rfl .z gG (Y.ql rfl (aM rfl bP (.t .z) (WS.j .g2 ak rfl)) (Y.as rfl .z (Y.nt (Y.seq ?_))))
 refine Y.ad (c:=aH kC ar [.string ar.name,.int .i64 ar.ino]) .n (fun w S h=>iO ar h (by assumption)) ?_
 refine Y.ad (c:=aH dU y4.ents [.slice (some ab) y4.ents.length ai]) (.c .g3 (.c .z (.c .z (.c .z .n)))) (eM (K:=kC) aa ac ak) ?_
 refine Y.sel (.c .z (.c .z (.c .g4 (.c .z (.c .z (.c .z (.c .z .n))))))) ?_
 refine Y.dr .g3 17 fR ?_
 refine Y.sc (qs 0 5++qs 6 3++qs 10 4++ [(5,false),(9,false),(14,false),(15,false),(16,true),(17,false)]) (by kernel_rfl) ?_
 refine Y.dm rfl rfl .g3 .g16 (Y.dn rfl rfl .g3 .z (Y.df rfl rfl .g3 .z aP (Y.dl rfl rfl .g3 bR .z .g3 (Y.dm rfl rfl .g3 (.s16 .g5) (Y.dm rfl rfl .g3 .g11 (Y.dm rfl rfl .g3 (.s16 .g8) ?_))))))
 obtain⟨bn,af⟩:∃A':Option Addr,A'=(if ai=0 then(some ab)else Option.map (fun z=>Addr.add z (0 * 2)) (some ab)):=⟨_,rfl⟩
 have bo:=gH (xs:=y4.ents) (a:=0) (b:=i) (by omega)
 have bp:True:=trivial
 refine Y.dk rfl rfl .g3 (jT (a:=0) (b:=i) rfl dP fA (.t .g1) af (.inl ⟨rfl,rfl⟩) (.inr ⟨_,_,rfl,(.t .z)⟩) (by omega) (by omega) (by omega)) ?_
 refine Y.dm rfl rfl .g3 .g14 (Y.dm rfl rfl .g3 (.s16 .g11) ?_)
 refine Y.dk rfl rfl .g3 (bN (c:=((i+1:Nat):Int)) rfl (.t .z) .c (wr (by omega) (by omega) (by omega))) ?_
 obtain⟨bq,ag⟩:∃A':Option Addr,A'=(if ai=i+1 then(some ab)else Option.map (fun z=>Addr.add z ((i+1) * 2)) (some ab)):=⟨_,rfl⟩
 have br:=gH (xs:=y4.ents) (a:=i+1) (b:=y4.ents.length) (by omega)
 have bs:True:=trivial
 refine Y.dk rfl rfl .g3 (jT (a:=i+1) (b:=y4.ents.length) rfl dP fA (.t .g2) ag (.inr ⟨_,_,rfl,(.t .z)⟩) (.inl ⟨rfl,rfl⟩) (by omega) (by omega) (by omega)) ?_
 refine Y.e (aC rfl rfl) rfl (by decide) rfl (eA rfl dP (inz eI)) ?_
 rintro _ _ ⟨g24,rfl,rfl⟩
 refine Y.sk .g4 ?_
 refine Y.add (c:=aH dU ([]:(List bO)) [.slice (some ⟨g24,0,none⟩) 0 0]) (fun w S=>aL w S _) ?_
 refine Y.e (aC rfl rfl) rfl (by decide) rfl (eD (iF _ (gF (bT _ _ _) (bT _ _ _))) rfl dP eI rfl (.t .z) (.t .g5) (.c .z .n) (fun w1 S1 tr=>(nD (a:=0) (b:=i) af (tr.own .g1) (by omega) (by omega))) (by first | omega |(simp only [List.length_append,List.length_take,List.length_nil,List.length_cons];omega)) (by first | omega |(simp only [List.length_append,List.length_take,List.length_nil,List.length_cons];omega))) ?_
 rintro _ _ rfl
 refine Y.ah .z (List.nil_append _) ?_
 refine Y.h (WS.a .z) ?_
 rintro⟨bt,bu,rfl,a9,ba,bb⟩
 refine Y.sk .g5 ?_
 refine Y.e (aC rfl rfl) rfl (by decide) rfl (eD (iF _ (gF (bT _ _ _) (bT _ _ _))) rfl dP eI rfl (.t .z) (.t .g2) (.c .z .n) (fun w1 S1 tr=>(nD (a:=i+1) (b:=y4.ents.length) ag (tr.own .g1) (by omega) (by omega))) (by first | omega |(simp only [List.length_append,List.length_take,List.length_nil,List.length_cons];omega)) (by first | omega |(simp only [List.length_append,List.length_take,List.length_nil,List.length_cons];omega))) ?_
 rintro _ _ rfl
 refine Y.ah .z (aD2 _ _) ?_
 refine Y.h (WS.a .z) ?_
 rintro⟨al,am,rfl,bc,bd,be⟩
 refine Y.sk .g5 ?_
 refine Y.q (aC rfl rfl) rfl (by decide) rfl (aB (j:=Int.toNat a) rfl cQ aT (.t .g11) (.t .g10) (by omega) (by omega)) ?_
 refine Y.sk .g5 ?_
 refine Y.df rfl rfl .g5 .z bL ?_
 refine Y.es (aC rfl rfl) rfl (kU (j:=Int.toNat a) (off:=4) (cs:= [.slice al (List.eraseIdx y4.ents i).length am]) rfl qO (.t .z) (jA _ _ _) (.t .g2) rfl (pX rfl) .g7 av (Nat.le_of_ble_eq_true rfl)) ?_
 refine Y.ah (x':=List.set a1 (Int.toNat a) [.int .i64 y4.kind,.int .i64 y4.links,.int .i64 y4.size,.slice ap y4.blocks.length aq,.slice al (List.eraseIdx y4.ents i).length am]) .z rfl ?_
 refine Y.sl rfl ?_
 refine Y.w ?_
 refine Y.af (by kernel_rfl) ?_
 refine Y.g (Y.seq (Y.region (Y.mv rfl (.s16 .g1) (Y.er (.s16 (.s16 .g1)) (Y.as rfl .z (Y.nt (Y.ret ?_)))))))
 refine Y.ad (c:=aH cR (⟨y4.kind,y4.links,y4.size,y4.blocks,List.eraseIdx y4.ents i⟩:aF) [.int .i64 y4.kind,.int .i64 y4.links,.int .i64 y4.size,.slice ap y4.blocks.length aq,.slice al (List.eraseIdx y4.ents i).length am]) (.c .g4 (.c .g1 .n)) (fun w S h=>cZ (⟨y4.kind,y4.links,y4.size,y4.blocks,List.eraseIdx y4.ents i⟩:aF) h) ?_
 refine Y.ad (c:=aH bJ (List.set f.inodes (Int.toNat a) (⟨y4.kind,y4.links,y4.size,y4.blocks,List.eraseIdx y4.ents i⟩:aF)) [.slice (some aj) f.inodes.length au]) (.c .g1 (.c .z (.c .g3 (.c .g3 .n)))) (eU (K:=cR) ae (List.getElem?_eq_some_iff.1 ah).1 rfl) ?_
 have az:List.set f.inodes (Int.toNat a) (⟨y4.kind,y4.links,y4.size,y4.blocks,List.eraseIdx y4.ents i⟩:aF)=gL f.inodes a (List.eraseIdx y4.ents i):=(xF ah (by omega))
 refine Y.ak .z (congrArg (fun z_=>(aH bJ (z_) [.slice (some aj) f.inodes.length au]:Asn)) az) ?_
 have a0:gL f.inodes a (List.eraseIdx y4.ents i)=gL f.inodes a (List.eraseIdx (aG f.inodes a) i):=(by rw [aw])
 refine Y.ak .z (congrArg (fun z_=>(aH bJ (z_) [.slice (some aj) f.inodes.length au]:Asn)) a0) ?_
 refine Y.i (aU rfl .z) (.c .g4 (.c .z (.c .g2 .n))) ?_
 exact⟨_,_,by rw [aw,mW ac],rfl⟩

end Go.Proofs.YtmejbfmhaoilmaaGreatDoor
/- What is proved: contracts of functions, one a function. No condition. -/
namespace Go.Proofs.YtmejbfmhaoilmaaGreatDoor
open Go Go.RowKit
set_option linter.unusedVariables false
set_option linter.unusedSimpArgs false
set_option maxHeartbeats 1000000
set_option maxRecDepth 20000

end Go.Proofs.YtmejbfmhaoilmaaGreatDoor
/- What is proved: contracts of functions, one a function. No condition. -/
namespace Go.Proofs.YtmejbfmhaoilmaaGreatDoor
open Go Go.RowKit
set_option linter.unusedVariables false
set_option linter.unusedSimpArgs false
set_option maxHeartbeats 1000000
set_option maxRecDepth 20000
theorem aEd {w0:World}{S0:Bs}{x:(List bO)}{v0:Value} (h0:dU.ro w0 (FF w0 S0) x [v0]) {e:bO}{aq:List Value} (h1:kC.ro w0 (FF w0 S0) e aq) (d0:x.length≤6):
    Calls Tryz.prog 114 #[v0,.agg aq.toArray] w0 (aI w0 S0 (fun r l=>l= [aH dU (fZ x e) [r]])):=by
 obtain⟨A0,c0,rfl,d1,d2,d3,cf⟩:=aD h0
 obtain⟨rfl,cg⟩:=eY h1
 refine Y.enter (N:=34) Tryz.func114 rfl rfl (by simp) [(0,.slice A0 x.length c0),(1,.agg #[.string e.name,.int .i64 e.ino])] (by simp) (l0:= []) trivial ?_
 refine Y.seq (Y.region ?_)
 refine Y.el rfl (fQ (cs:= [.string e.name,.int .i64 e.ino]) (n:=2) rfl (.t .g1) rfl rfl) ?_
 rintro _ _ ⟨g2,rfl,rfl⟩
 refine Y.ql rfl (aA rfl .c) (Y.nt (Y.seq (Y.region (Y.ql rfl (aA rfl .c) (Y.nt (Y.seq ?_))))))
 refine Y.block ?_
 refine Y.ai (γ:=Nat) (fun q=> [(5,.int .i64 (q:Int)),(4,.slice none 0 0),(3,.pointer (some ⟨g2,0,none⟩)),(0,.slice A0 x.length c0)]) (fun q=> [bV g2 73 2 1 [.string e.name,.int .i64 e.ino]]) (fun q=>q≤x.length∧∀(j:Nat) (y:bO),j<q→x[j]? =some y→sLt y.name e.name=true) (fun q=>x.length - q) 0 ⟨Nat.zero_le _,eN (q:=fun _ (y:bO)=>sLt y.name e.name=true)⟩ (.c .z (.c .g1 (.c .g2 (.c .g3 .n)))) (fun _ h=>h.sel (.c .z .n)) ?_
 rintro q ⟨hq,hallq⟩
 refine Y.seq (Y.seq ?_)
 have ag:(fY x 0 q).length=q - 0:=gH (by omega)
 refine Y.dr .z 14 fR ?_
 refine Y.sc (qs 0 5) (by kernel_rfl) ?_
 refine Y.dm rfl rfl .z .z (Y.dm rfl rfl .z .g4 (Y.dk rfl rfl .z (bD rfl dP (.t .z)) (Y.dk rfl rfl .z (dA rfl (.t .g2) (.t .z)) (Y.dm rfl rfl .z .z (Y.w ?_)))))
 refine Y.al .z (fun g3=> ?_) (fun g3=> ?_)
 refine Y.sc (qs 5 9) (by kernel_rfl) ?_
 refine Y.aj rfl rfl rfl .z rfl (by decide) rfl .z (aR rfl (.t .g8)) ?_
 refine Y.aj rfl rfl rfl .g1 rfl (by decide) rfl .z (aR rfl (.t .g6)) ?_
 obtain⟨al,ah,ai⟩:=cf (by omega)
 subst ah
 obtain⟨x5,aj⟩:=aK (xs:=x) (j:=q) (by omega)
 obtain⟨ch,am,an,ao⟩:=ai.elem aj
 obtain⟨rfl,ar⟩:=eY am
 refine Y.aj rfl rfl rfl .g2 rfl (by decide) rfl .z (aB (j:=q) rfl dP fA (.t .g1) (.t .z) rfl (by omega)) ?_
 refine Y.aj rfl rfl rfl .g3 rfl (by decide) rfl .z (aN rfl (.t .z) (fun _=>kM _ _)) ?_
 refine Y.aj rfl rfl rfl .g4 rfl (by decide) rfl .z (aM rfl iH (.t .z) (WS.el an ao rfl)) ?_
 refine Y.aj rfl rfl rfl .g5 rfl (by decide) rfl .z (aN rfl (.t .g12) (fun _=>kM _ _)) ?_
 refine Y.aj rfl rfl rfl .g6 rfl (by decide) rfl .z (aM rfl iH (.t .z) (WS.g .z rfl)) ?_
 refine Y.aj rfl rfl rfl .g7 rfl (by decide) rfl .z (aLm rfl (.t .g2) (.t .z)) ?_
 refine Y.dk rfl rfl .z (bI rfl (.t .g8) (.t .z)) (Y.w ?_)
 refine Y.af (by kernel_rfl) ?_
 refine Y.g ?_
 refine Y.cond (.t .z) (fun b7=> ?_) (fun b7=> ?_)
 refine Y.skip (Y.g (Y.block (Y.region (Y.mv rfl .g14 ?_))))
 refine Y.ql rfl (bN (c:=((q+1:Nat):Int)) rfl (.t .z) .c (wr (by omega) (by omega) (by omega))) ?_
 refine Y.er .g16 (Y.as rfl .z (Y.nil (Y.ab ?_)))
 refine Y.ae (q+1) ⟨by omega,dS (q:=fun _ (y:bO)=>sLt y.name e.name=true) hallq aj (by assumption)⟩ (by first | omega |(dsimp only;omega)) (.c .z (.c (.s16 .g1) (.c (.s16 .g2) (.c (.s16 .g3) .n)))) (fun _ h=>h.sel (.c .z .n))
 refine Y.exit (Y.y (Y.y (Y.ag (Y.g (Y.seq ?_)))))
 have ag:(fY x 0 q).length=q - 0:=gH (by omega)
 refine Y.dr .z 12 fR ?_
 refine Y.sc (qs 1 3++ [(5,true)]++qs 8 3) (by kernel_rfl) ?_
 refine Y.dm rfl rfl .z (.s16 .g1) (Y.dm rfl rfl .z .g15 ?_)
 obtain⟨d4,ak⟩:∃A':Option Addr,A'=(if c0=0 then(some al)else Option.map (fun z=>Addr.add z (0 * 2)) (some al)):=⟨_,rfl⟩
 have ap:=nD (a:=0) (b:=q) ak h0 (by omega) (by omega)
 have d5:=gH (xs:=x) (a:=0) (b:=q) (by omega)
 refine Y.dk rfl rfl .z (jT (a:=0) (b:=q) rfl dP fA (.t .g1) ak (.inl ⟨rfl,rfl⟩) (.inr ⟨_,_,rfl,(.t .z)⟩) (by omega) (by omega) (by omega)) ?_
 refine Y.dk rfl rfl .z (qW rfl tG (.t (.s16 .g3)) .z fA) (Y.dm rfl rfl .z (.s16 .g5) (Y.dm rfl rfl .z (.s16 .g3) ?_))
 obtain⟨ci,aa⟩:∃A':Option Addr,A'=(if c0=q then(some al)else Option.map (fun z=>Addr.add z (q * 2)) (some al)):=⟨_,rfl⟩
 have ad:=nD (a:=q) (b:=x.length) aa h0 (by omega) (by omega)
 have cj:=gH (xs:=x) (a:=q) (b:=x.length) (by omega)
 refine Y.dk rfl rfl .z (jT (a:=q) (b:=x.length) rfl dP fA (.t .g1) aa (.inr ⟨_,_,rfl,(.t .z)⟩) (.inl ⟨rfl,rfl⟩) (by omega) (by omega) (by omega)) ?_
 refine Y.w ?_
 refine Y.ar (i:=0) (j:=6) (by kernel_rfl) ?_ ?_
 refine Y.e (aC rfl rfl) rfl (by decide) rfl (eA rfl dP (inz eI)) ?_
 rintro _ _ ⟨g12,rfl,rfl⟩
 refine Y.sk .g1 ?_
 refine Y.w ?_
 refine Y.sc [] (by kernel_rfl) ?_
 refine Y.w ?_
 refine Y.ar (i:=4) (j:=6) (by kernel_rfl) ?_ ?_
 refine Y.add (c:=aH dU ([]:(List bO)) [.slice (some ⟨g12,0,none⟩) 0 0]) (fun w S=>aL w S _) ?_
 refine Y.e (aC rfl rfl) rfl (by decide) rfl (eD (iF _ (gF (bT _ _ _) (bT _ _ _))) rfl dP eI rfl (.t .z) (.t .g5) (.c .z .n) (fun w1 S1 tr=>tr.ctx ap) (by first | omega |(simp only [List.length_append,List.length_take,List.length_nil,List.length_cons];omega)) (by first | omega |(simp only [List.length_append,List.length_take,List.length_nil,List.length_cons];omega))) ?_
 rintro _ _ rfl
 refine Y.ah .z (List.nil_append _) ?_
 refine Y.h (WS.a .z) ?_
 rintro⟨ck,cm,rfl,au,av,aw⟩
 refine Y.sk .g2 ?_
 refine Y.w ?_
 refine Y.sc [(6,false),(7,false),(11,false),(12,false)] (by kernel_rfl) ?_
 refine Y.e (aC rfl rfl) rfl (by decide) rfl (aQ (cs:= [.string e.name,.int .i64 e.ino]) rfl dP (inz eI) (by decide) (pv1 (.t .g5)) rfl rfl (by decide) rfl rfl) ?_
 rintro _ _ ⟨g15,rfl,rfl⟩
 refine Y.sk .g3 ?_
 refine Y.ad (c:=aH kC (⟨e.name,e.ino⟩:bO) [.string e.name,.int .i64 e.ino]) .n (fun w S h=>iO (⟨e.name,e.ino⟩:bO) h (by assumption)) ?_
 refine Y.e (aC rfl rfl) rfl (by decide) rfl (dK rfl dP eI rfl (.t .g1) (.t .z) (.c .g2 (.c .g1 (.c .z .n))) (by first | omega |(simp only [List.length_append,List.length_take,List.length_nil,List.length_cons];omega)) (by first | omega |(simp only [List.length_append,List.length_take,List.length_nil,List.length_cons];omega))) ?_
 rintro _ _ rfl
 refine Y.h (WS.a .z) ?_
 rintro⟨cn,co,rfl,ax,ay,az⟩
 refine Y.sk .g2 ?_
 refine Y.e (aC rfl rfl) rfl (by decide) rfl (eD (iF _ (gF (bT _ _ _) (bT _ _ _))) rfl dP eI rfl (.t .z) (.t .g4) (.c .z .n) (fun w1 S1 tr=>tr.ctx ad) (by first | omega |(simp only [List.length_append,List.length_take,List.length_nil,List.length_cons];omega)) (by first | omega |(simp only [List.length_append,List.length_take,List.length_nil,List.length_cons];omega))) ?_
 rintro _ _ rfl
 refine Y.h (WS.a .z) ?_
 rintro⟨cp,cq,rfl,a0,a1,a2⟩
 refine Y.sk .g2 ?_
 refine Y.er (.s16 .g11) ?_
 refine Y.q (aC rfl rfl) rfl (by decide) rfl (aA rfl (.t .z)) ?_
 refine Y.sl rfl ?_
 refine Y.w ?_
 refine Y.af (by kernel_rfl) ?_
 refine Y.g (Y.ret ?_)
 refine Y.ah (x':=fZ x e) .z (by rw [←rW (pZ hallq hq (.inr ⟨_,aj,by first | assumption | simp_all⟩))];simp [fY]) ?_
 refine Y.i (aU rfl .z) (.c .z .n) ?_
 rfl
 refine Y.e (aC rfl rfl) rfl (by decide) rfl (aQ (cs:= [.string e.name,.int .i64 e.ino]) rfl dP (inz eI) (by decide) (pv1 (.t .g4)) rfl rfl (by decide) rfl rfl) ?_
 rintro _ _ ⟨g19,rfl,rfl⟩
 refine Y.sk .g2 ?_
 refine Y.w ?_
 refine Y.sc [(4,false),(7,false),(11,false),(12,false)] (by kernel_rfl) ?_
 refine Y.add (c:=aH dU ([]:(List bO)) [.slice (some ⟨g12,0,none⟩) 0 0]) (fun w S=>aL w S _) ?_
 refine Y.e (aC rfl rfl) rfl (by decide) rfl (eD (iF _ (gF (bT _ _ _) (bT _ _ _))) rfl dP eI rfl (.t .g1) (.t .g6) (.c .z .n) (fun w1 S1 tr=>tr.ctx ap) (by first | omega |(simp only [List.length_append,List.length_take,List.length_nil,List.length_cons];omega)) (by first | omega |(simp only [List.length_append,List.length_take,List.length_nil,List.length_cons];omega))) ?_
 rintro _ _ rfl
 refine Y.ah .z (List.nil_append _) ?_
 refine Y.h (WS.a .z) ?_
 rintro⟨cr,ct,rfl,a3,a4,a5⟩
 refine Y.sk .g3 ?_
 refine Y.ad (c:=aH kC (⟨e.name,e.ino⟩:bO) [.string e.name,.int .i64 e.ino]) .n (fun w S h=>iO (⟨e.name,e.ino⟩:bO) h (by assumption)) ?_
 refine Y.e (aC rfl rfl) rfl (by decide) rfl (dK rfl dP eI rfl (.t .z) (.t .g1) (.c .g1 (.c .g1 (.c .z .n))) (by first | omega |(simp only [List.length_append,List.length_take,List.length_nil,List.length_cons];omega)) (by first | omega |(simp only [List.length_append,List.length_take,List.length_nil,List.length_cons];omega))) ?_
 rintro _ _ rfl
 refine Y.h (WS.a .z) ?_
 rintro⟨cu,cv,rfl,a6,a7,a8⟩
 refine Y.sk .g2 ?_
 refine Y.e (aC rfl rfl) rfl (by decide) rfl (eD (iF _ (gF (bT _ _ _) (bT _ _ _))) rfl dP eI rfl (.t .z) (.t .g4) (.c .z .n) (fun w1 S1 tr=>tr.ctx ad) (by first | omega |(simp only [List.length_append,List.length_take,List.length_nil,List.length_cons];omega)) (by first | omega |(simp only [List.length_append,List.length_take,List.length_nil,List.length_cons];omega))) ?_
 rintro _ _ rfl
 refine Y.h (WS.a .z) ?_
 rintro⟨cw,cx,rfl,a9,ba,bb⟩
 refine Y.sk .g2 ?_
 refine Y.er (.s16 .g11) ?_
 refine Y.q (aC rfl rfl) rfl (by decide) rfl (aA rfl (.t .z)) ?_
 refine Y.sl rfl ?_
 refine Y.w ?_
 refine Y.af (by kernel_rfl) ?_
 refine Y.g (Y.ret ?_)
 refine Y.ah (x':=fZ x e) .z (by rw [←rW (pZ hallq hq (.inr ⟨_,aj,by first | assumption | simp_all⟩))];simp [fY]) ?_
 refine Y.i (aU rfl .z) (.c .z .n) ?_
 rfl
 refine Y.e (aC rfl rfl) rfl (by decide) rfl (aQ (cs:= [.string e.name,.int .i64 e.ino]) rfl dP (inz eI) (by decide) (pv1 (.t .g3)) rfl rfl (by decide) rfl rfl) ?_
 rintro _ _ ⟨g25,rfl,rfl⟩
 refine Y.sk .g1 ?_
 refine Y.w ?_
 refine Y.sc [(0,false),(4,false),(7,false),(11,false),(12,false)] (by kernel_rfl) ?_
 refine Y.e (aC rfl rfl) rfl (by decide) rfl (eA rfl dP (inz eI)) ?_
 rintro _ _ ⟨g26,rfl,rfl⟩
 refine Y.sk .g2 ?_
 refine Y.add (c:=aH dU ([]:(List bO)) [.slice (some ⟨g26,0,none⟩) 0 0]) (fun w S=>aL w S _) ?_
 refine Y.e (aC rfl rfl) rfl (by decide) rfl (eD (iF _ (gF (bT _ _ _) (bT _ _ _))) rfl dP eI rfl (.t .z) (.t .g6) (.c .z .n) (fun w1 S1 tr=>tr.ctx ap) (by first | omega |(simp only [List.length_append,List.length_take,List.length_nil,List.length_cons];omega)) (by first | omega |(simp only [List.length_append,List.length_take,List.length_nil,List.length_cons];omega))) ?_
 rintro _ _ rfl
 refine Y.ah .z (List.nil_append _) ?_
 refine Y.h (WS.a .z) ?_
 rintro⟨cy,cz,rfl,bc,bd,be⟩
 refine Y.sk .g3 ?_
 refine Y.ad (c:=aH kC (⟨e.name,e.ino⟩:bO) [.string e.name,.int .i64 e.ino]) .n (fun w S h=>iO (⟨e.name,e.ino⟩:bO) h (by assumption)) ?_
 refine Y.e (aC rfl rfl) rfl (by decide) rfl (dK rfl dP eI rfl (.t .z) (.t .g2) (.c .g1 (.c .g2 (.c .z .n))) (by first | omega |(simp only [List.length_append,List.length_take,List.length_nil,List.length_cons];omega)) (by first | omega |(simp only [List.length_append,List.length_take,List.length_nil,List.length_cons];omega))) ?_
 rintro _ _ rfl
 refine Y.h (WS.a .z) ?_
 rintro⟨c1,c2,rfl,bf,bg,bh⟩
 refine Y.sk .g2 ?_
 refine Y.e (aC rfl rfl) rfl (by decide) rfl (eD (iF _ (gF (bT _ _ _) (bT _ _ _))) rfl dP eI rfl (.t .z) (.t .g4) (.c .z .n) (fun w1 S1 tr=>tr.ctx ad) (by first | omega |(simp only [List.length_append,List.length_take,List.length_nil,List.length_cons];omega)) (by first | omega |(simp only [List.length_append,List.length_take,List.length_nil,List.length_cons];omega))) ?_
 rintro _ _ rfl
 refine Y.h (WS.a .z) ?_
 rintro⟨c3,c4,rfl,bi,bj,bk⟩
 refine Y.sk .g2 ?_
 refine Y.er (.s16 .g11) ?_
 refine Y.q (aC rfl rfl) rfl (by decide) rfl (aA rfl (.t .z)) ?_
 refine Y.sl rfl ?_
 refine Y.w ?_
 refine Y.af (by kernel_rfl) ?_
 refine Y.g (Y.ret ?_)
 refine Y.ah (x':=fZ x e) .z (by rw [←rW (pZ hallq hq (.inr ⟨_,aj,by first | assumption | simp_all⟩))];simp [fY]) ?_
 refine Y.i (aU rfl .z) (.c .z .n) ?_
 rfl
 refine Y.sc (qs 5 8++ [(13,false)]) (by kernel_rfl) ?_
 refine Y.am rfl rfl rfl .z rfl rfl (by decide) rfl .z ?_
 refine Y.am rfl rfl rfl .g1 rfl rfl (by decide) rfl .z ?_
 refine Y.am rfl rfl rfl .g2 rfl rfl (by decide) rfl .z ?_
 refine Y.am rfl rfl rfl .g3 rfl rfl (by decide) rfl .z ?_
 refine Y.am rfl rfl rfl .g4 rfl rfl (by decide) rfl .z ?_
 refine Y.am rfl rfl rfl .g5 rfl rfl (by decide) rfl .z ?_
 refine Y.am rfl rfl rfl .g6 rfl rfl (by decide) rfl .z ?_
 refine Y.am rfl rfl rfl .g7 rfl rfl (by decide) rfl .z ?_
 refine Y.q (aC rfl rfl) rfl (by decide) rfl (bH rfl (.t .g8) .c) ?_
 refine Y.sk .z ?_
 refine Y.w ?_
 refine Y.af (by kernel_rfl) ?_
 refine Y.g ?_
 refine Y.ap (.t .z) ?_
 refine Y.exit (Y.y (Y.y (Y.ag (Y.g (Y.seq ?_)))))
 have ag:(fY x 0 q).length=q - 0:=gH (by omega)
 refine Y.dr .z 12 fR ?_
 refine Y.sc (qs 1 3++ [(5,true)]++qs 8 3) (by kernel_rfl) ?_
 refine Y.dm rfl rfl .z (.s16 .g1) (Y.dm rfl rfl .z .g15 ?_)
 obtain⟨c5,ab⟩:∃A':Option Addr,A'=(if c0=0 then A0 else Option.map (fun z=>Addr.add z (0 * 2)) A0):=⟨_,rfl⟩
 have ae:=nD (a:=0) (b:=q) ab h0 (by omega) (by omega)
 have c6:=gH (xs:=x) (a:=0) (b:=q) (by omega)
 refine Y.dk rfl rfl .z (jT (a:=0) (b:=q) rfl dP fA (.t .g1) ab (.inl ⟨rfl,rfl⟩) (.inr ⟨_,_,rfl,(.t .z)⟩) (by omega) (by omega) (by omega)) ?_
 refine Y.dk rfl rfl .z (qW rfl tG (.t (.s16 .g3)) .z fA) (Y.dm rfl rfl .z (.s16 .g5) (Y.dm rfl rfl .z (.s16 .g3) ?_))
 obtain⟨c7,ac⟩:∃A':Option Addr,A'=(if c0=q then A0 else Option.map (fun z=>Addr.add z (q * 2)) A0):=⟨_,rfl⟩
 have af:=nD (a:=q) (b:=x.length) ac h0 (by omega) (by omega)
 have c8:=gH (xs:=x) (a:=q) (b:=x.length) (by omega)
 refine Y.dk rfl rfl .z (jT (a:=q) (b:=x.length) rfl dP fA (.t .g1) ac (.inr ⟨_,_,rfl,(.t .z)⟩) (.inl ⟨rfl,rfl⟩) (by omega) (by omega) (by omega)) ?_
 refine Y.w ?_
 refine Y.ar (i:=0) (j:=6) (by kernel_rfl) ?_ ?_
 refine Y.e (aC rfl rfl) rfl (by decide) rfl (eA rfl dP (inz eI)) ?_
 rintro _ _ ⟨g36,rfl,rfl⟩
 refine Y.sk .g1 ?_
 refine Y.w ?_
 refine Y.sc [] (by kernel_rfl) ?_
 refine Y.w ?_
 refine Y.ar (i:=4) (j:=6) (by kernel_rfl) ?_ ?_
 refine Y.add (c:=aH dU ([]:(List bO)) [.slice (some ⟨g36,0,none⟩) 0 0]) (fun w S=>aL w S _) ?_
 refine Y.e (aC rfl rfl) rfl (by decide) rfl (eD (iF _ (gF (bT _ _ _) (bT _ _ _))) rfl dP eI rfl (.t .z) (.t .g5) (.c .z .n) (fun w1 S1 tr=>tr.ctx ae) (by first | omega |(simp only [List.length_append,List.length_take,List.length_nil,List.length_cons];omega)) (by first | omega |(simp only [List.length_append,List.length_take,List.length_nil,List.length_cons];omega))) ?_
 rintro _ _ rfl
 refine Y.ah .z (List.nil_append _) ?_
 refine Y.h (WS.a .z) ?_
 rintro⟨c9,da,rfl,bm,bn,bo⟩
 refine Y.sk .g2 ?_
 refine Y.w ?_
 refine Y.sc [(6,false),(7,false),(11,false),(12,false)] (by kernel_rfl) ?_
 refine Y.e (aC rfl rfl) rfl (by decide) rfl (aQ (cs:= [.string e.name,.int .i64 e.ino]) rfl dP (inz eI) (by decide) (pv1 (.t .g5)) rfl rfl (by decide) rfl rfl) ?_
 rintro _ _ ⟨g39,rfl,rfl⟩
 refine Y.sk .g3 ?_
 refine Y.ad (c:=aH kC (⟨e.name,e.ino⟩:bO) [.string e.name,.int .i64 e.ino]) .n (fun w S h=>iO (⟨e.name,e.ino⟩:bO) h (by assumption)) ?_
 refine Y.e (aC rfl rfl) rfl (by decide) rfl (dK rfl dP eI rfl (.t .g1) (.t .z) (.c .g2 (.c .g1 (.c .z .n))) (by first | omega |(simp only [List.length_append,List.length_take,List.length_nil,List.length_cons];omega)) (by first | omega |(simp only [List.length_append,List.length_take,List.length_nil,List.length_cons];omega))) ?_
 rintro _ _ rfl
 refine Y.h (WS.a .z) ?_
 rintro⟨db,dc,rfl,bp,bq,br⟩
 refine Y.sk .g2 ?_
 refine Y.e (aC rfl rfl) rfl (by decide) rfl (eD (iF _ (gF (bT _ _ _) (bT _ _ _))) rfl dP eI rfl (.t .z) (.t .g4) (.c .z .n) (fun w1 S1 tr=>tr.ctx af) (by first | omega |(simp only [List.length_append,List.length_take,List.length_nil,List.length_cons];omega)) (by first | omega |(simp only [List.length_append,List.length_take,List.length_nil,List.length_cons];omega))) ?_
 rintro _ _ rfl
 refine Y.h (WS.a .z) ?_
 rintro⟨dd,dg,rfl,bs,bt,bu⟩
 refine Y.sk .g2 ?_
 refine Y.er (.s16 .g11) ?_
 refine Y.q (aC rfl rfl) rfl (by decide) rfl (aA rfl (.t .z)) ?_
 refine Y.sl rfl ?_
 refine Y.w ?_
 refine Y.af (by kernel_rfl) ?_
 refine Y.g (Y.ret ?_)
 refine Y.ah (x':=fZ x e) .z (by rw [←rW (pZ hallq hq (.inl (by omega)))];simp [fY]) ?_
 refine Y.i (aU rfl .z) (.c .z .n) ?_
 rfl
 refine Y.e (aC rfl rfl) rfl (by decide) rfl (aQ (cs:= [.string e.name,.int .i64 e.ino]) rfl dP (inz eI) (by decide) (pv1 (.t .g4)) rfl rfl (by decide) rfl rfl) ?_
 rintro _ _ ⟨g43,rfl,rfl⟩
 refine Y.sk .g2 ?_
 refine Y.w ?_
 refine Y.sc [(4,false),(7,false),(11,false),(12,false)] (by kernel_rfl) ?_
 refine Y.add (c:=aH dU ([]:(List bO)) [.slice (some ⟨g36,0,none⟩) 0 0]) (fun w S=>aL w S _) ?_
 refine Y.e (aC rfl rfl) rfl (by decide) rfl (eD (iF _ (gF (bT _ _ _) (bT _ _ _))) rfl dP eI rfl (.t .g1) (.t .g6) (.c .z .n) (fun w1 S1 tr=>tr.ctx ae) (by first | omega |(simp only [List.length_append,List.length_take,List.length_nil,List.length_cons];omega)) (by first | omega |(simp only [List.length_append,List.length_take,List.length_nil,List.length_cons];omega))) ?_
 rintro _ _ rfl
 refine Y.ah .z (List.nil_append _) ?_
 refine Y.h (WS.a .z) ?_
 rintro⟨dh,di,rfl,bv,bw,bx⟩
 refine Y.sk .g3 ?_
 refine Y.ad (c:=aH kC (⟨e.name,e.ino⟩:bO) [.string e.name,.int .i64 e.ino]) .n (fun w S h=>iO (⟨e.name,e.ino⟩:bO) h (by assumption)) ?_
 refine Y.e (aC rfl rfl) rfl (by decide) rfl (dK rfl dP eI rfl (.t .z) (.t .g1) (.c .g1 (.c .g1 (.c .z .n))) (by first | omega |(simp only [List.length_append,List.length_take,List.length_nil,List.length_cons];omega)) (by first | omega |(simp only [List.length_append,List.length_take,List.length_nil,List.length_cons];omega))) ?_
 rintro _ _ rfl
 refine Y.h (WS.a .z) ?_
 rintro⟨dj,dp,rfl,bz,b0,b1⟩
 refine Y.sk .g2 ?_
 refine Y.e (aC rfl rfl) rfl (by decide) rfl (eD (iF _ (gF (bT _ _ _) (bT _ _ _))) rfl dP eI rfl (.t .z) (.t .g4) (.c .z .n) (fun w1 S1 tr=>tr.ctx af) (by first | omega |(simp only [List.length_append,List.length_take,List.length_nil,List.length_cons];omega)) (by first | omega |(simp only [List.length_append,List.length_take,List.length_nil,List.length_cons];omega))) ?_
 rintro _ _ rfl
 refine Y.h (WS.a .z) ?_
 rintro⟨ds,dt,rfl,b2,b3,b4⟩
 refine Y.sk .g2 ?_
 refine Y.er (.s16 .g11) ?_
 refine Y.q (aC rfl rfl) rfl (by decide) rfl (aA rfl (.t .z)) ?_
 refine Y.sl rfl ?_
 refine Y.w ?_
 refine Y.af (by kernel_rfl) ?_
 refine Y.g (Y.ret ?_)
 refine Y.ah (x':=fZ x e) .z (by rw [←rW (pZ hallq hq (.inl (by omega)))];simp [fY]) ?_
 refine Y.i (aU rfl .z) (.c .z .n) ?_
 rfl
 refine Y.e (aC rfl rfl) rfl (by decide) rfl (aQ (cs:= [.string e.name,.int .i64 e.ino]) rfl dP (inz eI) (by decide) (pv1 (.t .g3)) rfl rfl (by decide) rfl rfl) ?_
 rintro _ _ ⟨g49,rfl,rfl⟩
 refine Y.sk .g1 ?_
 refine Y.w ?_
 refine Y.sc [(0,false),(4,false),(7,false),(11,false),(12,false)] (by kernel_rfl) ?_
 refine Y.e (aC rfl rfl) rfl (by decide) rfl (eA rfl dP (inz eI)) ?_
 rintro _ _ ⟨g50,rfl,rfl⟩
 refine Y.sk .g2 ?_
 refine Y.add (c:=aH dU ([]:(List bO)) [.slice (some ⟨g50,0,none⟩) 0 0]) (fun w S=>aL w S _) ?_
 refine Y.e (aC rfl rfl) rfl (by decide) rfl (eD (iF _ (gF (bT _ _ _) (bT _ _ _))) rfl dP eI rfl (.t .z) (.t .g6) (.c .z .n) (fun w1 S1 tr=>tr.ctx ae) (by first | omega |(simp only [List.length_append,List.length_take,List.length_nil,List.length_cons];omega)) (by first | omega |(simp only [List.length_append,List.length_take,List.length_nil,List.length_cons];omega))) ?_
 rintro _ _ rfl
 refine Y.ah .z (List.nil_append _) ?_
 refine Y.h (WS.a .z) ?_
 rintro⟨du,dv,rfl,b5,b6,b8⟩
 refine Y.sk .g3 ?_
 refine Y.ad (c:=aH kC (⟨e.name,e.ino⟩:bO) [.string e.name,.int .i64 e.ino]) .n (fun w S h=>iO (⟨e.name,e.ino⟩:bO) h (by assumption)) ?_
 refine Y.e (aC rfl rfl) rfl (by decide) rfl (dK rfl dP eI rfl (.t .z) (.t .g2) (.c .g1 (.c .g2 (.c .z .n))) (by first | omega |(simp only [List.length_append,List.length_take,List.length_nil,List.length_cons];omega)) (by first | omega |(simp only [List.length_append,List.length_take,List.length_nil,List.length_cons];omega))) ?_
 rintro _ _ rfl
 refine Y.h (WS.a .z) ?_
 rintro⟨dw,dx,rfl,b9,ca,cb⟩
 refine Y.sk .g2 ?_
 refine Y.e (aC rfl rfl) rfl (by decide) rfl (eD (iF _ (gF (bT _ _ _) (bT _ _ _))) rfl dP eI rfl (.t .z) (.t .g4) (.c .z .n) (fun w1 S1 tr=>tr.ctx af) (by first | omega |(simp only [List.length_append,List.length_take,List.length_nil,List.length_cons];omega)) (by first | omega |(simp only [List.length_append,List.length_take,List.length_nil,List.length_cons];omega))) ?_
 rintro _ _ rfl
 refine Y.h (WS.a .z) ?_
 rintro⟨dy,dz,rfl,cc,cd,ce⟩
 refine Y.sk .g2 ?_
 refine Y.er (.s16 .g11) ?_
 refine Y.q (aC rfl rfl) rfl (by decide) rfl (aA rfl (.t .z)) ?_
 refine Y.sl rfl ?_
 refine Y.w ?_
 refine Y.af (by kernel_rfl) ?_
 refine Y.g (Y.ret ?_)
 refine Y.ah (x':=fZ x e) .z (by rw [←rW (pZ hallq hq (.inl (by omega)))];simp [fY]) ?_
 refine Y.i (aU rfl .z) (.c .z .n) ?_
 rfl

end Go.Proofs.YtmejbfmhaoilmaaGreatDoor
/- What is proved: contracts of functions, one a function. No condition. -/
namespace Go.Proofs.YtmejbfmhaoilmaaGreatDoor
open Go Go.RowKit
set_option linter.unusedVariables false
set_option linter.unusedSimpArgs false
set_option maxHeartbeats 1000000
set_option maxRecDepth 20000
end Go.Proofs.YtmejbfmhaoilmaaGreatDoor

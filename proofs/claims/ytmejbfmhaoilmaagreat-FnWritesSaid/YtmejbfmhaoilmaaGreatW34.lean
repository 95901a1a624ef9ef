/- What is proved: contracts of functions, one a function. No condition. -/
import Derived.Test.YtmejbfmhaoilmaaGreatBase1
import Derived.Test.YtmejbfmhaoilmaaGreatW33
namespace Go.Proofs.YtmejbfmhaoilmaaGreat
open Go Go.RowKit
set_option linter.unusedVariables false
set_option linter.unusedSimpArgs false
set_option maxHeartbeats 1000000
set_option maxRecDepth 20000
theorem aG6 {w0:World}{S0:Bs}{f:DFs}{g0 e0 s0:Nat}{ad:List Value}{an:Value}{ao:Value} (a:Int) (i:Nat) (hs:cH [bW g0 e0 s0 1 (an :: ao :: ad),aG aW f.inodes [an],aG dA f.data [ao]] w0 S0) (hp:bZ f.inodes.length a) (hi:i<(aH f.inodes a).length):
    Calls Tryz.prog 178 #[.pointer (some ⟨g0,0,none⟩),.int .i64 a,.int .i64 (i:Int)] w0 (aJ w0 S0 (fun r l=>∃v0 v1,r= .int .i64 (eX (aH f.inodes a) i)∧l= [bW g0 e0 s0 1 (v0 :: v1 :: ad),aG aW ((dJ f a (List.eraseIdx (aH f.inodes a) i))).inodes [v0],aG dA ((dJ f a (List.eraseIdx (aH f.inodes a) i))).data [v1]])):=by
 obtain⟨bv,bw⟩:=hp
 refine Y.enter (N:=40) Tryz.func178 rfl rfl (by simp) [(0,.pointer (some ⟨g0,0,none⟩)),(1,.int .i64 a),(2,.int .i64 (i:Int))] (by simp) hs ?_
 refine Y.h (WS.a .g1) ?_
 rintro⟨bx,au,rfl,bf,bg,bh⟩
 refine Y.h (WS.a .g2) ?_
 rintro⟨bz,b0,rfl,bi,bj,bk⟩
 refine Y.seq (Y.region (Y.ql rfl (aA rfl .c) (Y.nt (Y.seq (Y.region (Y.mv rfl .g1 (Y.nc rfl .z ?_)))))))
 refine Y.fa rfl .z aO (Y.ld rfl bT .z .z (Y.mv rfl .g6 ?_))
 refine Y.ab (.c .g1 .n) fP ?_
 rintro a1 ae
 obtain⟨y4,ah⟩:=aI (xs:=f.inodes) (j:=Int.toNat a) (by omega)
 obtain⟨c5,av⟩:=aI (xs:=a1) (j:=Int.toNat a) (by rw [ae];exact(List.getElem?_eq_some_iff.1 ah).1)
 refine Y.aq .g1 (eG ah av) ?_
 refine Y.ab (.c .z .n) fC ?_
 rintro⟨v6,v7⟩ rfl
 refine Y.h (WS.a .z) ?_
 rintro⟨ap,aq,rfl,a2,a3,a4⟩
 refine Y.h (WS.a .g1) ?_
 rintro⟨bm,ai,rfl,a5,a6,a7⟩
 have b1:=dC (i:=a) ah (by omega)
 have aw:=dE (a:=a) ah (by omega)
 have b2:=eB (a:=a) ah (by omega)
 have a8:(aH f.inodes a).length=y4.ents.length:=by rw [aw]
 refine Y.h (WS.g .g4 (by omega)) ?_
 rintro⟨aj,rfl⟩
 refine Y.ql rfl (aB (j:=Int.toNat a) rfl cQ aV (.t .g1) (.t .z) (by omega) (by omega)) ?_
 refine Y.fa rfl .z bS (Y.ql rfl (aP rfl eE (.t .z) (WS.j .g4 av rfl)) (Y.as rfl .z (Y.nt (Y.seq (Y.region (Y.mv rfl .z (Y.mv rfl .g13 ?_)))))))
 refine Y.ab (.c .g1 .n) fP ?_
 rintro ax aa
 obtain⟨ar,ac⟩:=aI (xs:=y4.ents) (j:=i) (by omega)
 obtain⟨b3,ak⟩:=aI (xs:=ax) (j:=i) (by rw [aa];exact(List.getElem?_eq_some_iff.1 ac).1)
 refine Y.aq .g1 (eG ac ak) ?_
 refine Y.ab (.c .z .n) aFx ?_
 rintro⟨⟩ ⟨rfl,ay⟩
 refine Y.h (WS.g .g2 (by omega)) ?_
 rintro⟨ab,rfl⟩
 refine Y.ql rfl (aB (j:=i) rfl eA gH (.t .g1) (.t .z) rfl (by omega)) ?_
 refine Y.fa rfl .z iY (Y.ql rfl (aP rfl cB (.t .z) (WS.j .g2 ak rfl)) (Y.as rfl .z (Y.nt (Y.seq ?_))))
 refine Y.af (c:=aG kJ ar [.string ar.name,.int .i64 ar.ino]) .n (fun w S h=>iU ar h (by assumption)) ?_
 refine Y.af (c:=aG dR y4.ents [.slice (some ab) y4.ents.length ai]) (.c .g3 (.c .z (.c .z (.c .z .n)))) (eM (K:=kJ) aa ac ak) ?_
 refine Y.sel (.c .z (.c .z (.c .g4 (.c .z (.c .z (.c .z (.c .z .n))))))) ?_
 refine Y.dr .g3 17 gE ?_
 refine Y.sc (qs 0 5++qs 6 3++qs 10 4++ [(5,false),(9,false),(14,false),(15,false),(16,true),(17,false)]) (by kernel_rfl) ?_
 refine Y.dm rfl rfl .g3 .g16 (Y.dn rfl rfl .g3 .z (Y.df rfl rfl .g3 .z aO (Y.dl rfl rfl .g3 bT .z .g3 (Y.dm rfl rfl .g3 (.s16 .g5) (Y.dm rfl rfl .g3 .g11 (Y.dm rfl rfl .g3 (.s16 .g8) ?_))))))
 obtain⟨bn,af⟩:∃A':Option Addr,A'=(if ai=0 then(some ab)else Option.map (fun z=>Addr.add z (0 * 2)) (some ab)):=⟨_,rfl⟩
 have bo:=fW (xs:=y4.ents) (a:=0) (b:=i) (by omega)
 have bp:True:=trivial
 refine Y.dk rfl rfl .g3 (iZ (a:=0) (b:=i) rfl eA gH (.t .g1) af (.inl ⟨rfl,rfl⟩) (.inr ⟨_,_,rfl,(.t .z)⟩) (by omega) (by omega) (by omega)) ?_
 refine Y.dm rfl rfl .g3 .g14 (Y.dm rfl rfl .g3 (.s16 .g11) ?_)
 refine Y.dk rfl rfl .g3 (bA (c:=((i+1:Nat):Int)) rfl (.t .z) .c (wr (by omega) (by omega) (by omega))) ?_
 obtain⟨bq,ag⟩:∃A':Option Addr,A'=(if ai=i+1 then(some ab)else Option.map (fun z=>Addr.add z ((i+1) * 2)) (some ab)):=⟨_,rfl⟩
 have br:=fW (xs:=y4.ents) (a:=i+1) (b:=y4.ents.length) (by omega)
 have bs:True:=trivial
 refine Y.dk rfl rfl .g3 (iZ (a:=i+1) (b:=y4.ents.length) rfl eA gH (.t .g2) ag (.inr ⟨_,_,rfl,(.t .z)⟩) (.inl ⟨rfl,rfl⟩) (by omega) (by omega) (by omega)) ?_
 refine Y.e (aC rfl rfl) rfl (by decide) rfl (dZ rfl eA (inz eH)) ?_
 rintro _ _ ⟨g24,rfl,rfl⟩
 refine Y.sk .g4 ?_
 refine Y.add (c:=aG dR ([]:(List bV)) [.slice (some ⟨g24,0,none⟩) 0 0]) (fun w S=>aL w S _) ?_
 refine Y.e (aC rfl rfl) rfl (by decide) rfl (dY (gZ _ (gI (bI _ _ _) (bI _ _ _))) rfl eA eH rfl (.t .z) (.t .g5) (.c .z .n) (fun w1 S1 tr=>(mQ (a:=0) (b:=i) af (tr.own .g1) (by omega) (by omega))) (by first | omega |(simp only [List.length_append,List.length_take,List.length_nil,List.length_cons];omega)) (by first | omega |(simp only [List.length_append,List.length_take,List.length_nil,List.length_cons];omega))) ?_
 rintro _ _ rfl
 refine Y.ah .z (List.nil_append _) ?_
 refine Y.h (WS.a .z) ?_
 rintro⟨bt,bu,rfl,a9,ba,bb⟩
 refine Y.sk .g5 ?_
 refine Y.e (aC rfl rfl) rfl (by decide) rfl (dY (gZ _ (gI (bI _ _ _) (bI _ _ _))) rfl eA eH rfl (.t .z) (.t .g2) (.c .z .n) (fun w1 S1 tr=>(mQ (a:=i+1) (b:=y4.ents.length) ag (tr.own .g1) (by omega) (by omega))) (by first | omega |(simp only [List.length_append,List.length_take,List.length_nil,List.length_cons];omega)) (by first | omega |(simp only [List.length_append,List.length_take,List.length_nil,List.length_cons];omega))) ?_
 rintro _ _ rfl
 refine Y.ah .z (aCg _ _) ?_
 refine Y.h (WS.a .z) ?_
 rintro⟨al,am,rfl,bc,bd,be⟩
 refine Y.sk .g5 ?_
 refine Y.q (aC rfl rfl) rfl (by decide) rfl (aB (j:=Int.toNat a) rfl cQ aV (.t .g11) (.t .g10) (by omega) (by omega)) ?_
 refine Y.sk .g5 ?_
 refine Y.df rfl rfl .g5 .z bS ?_
 refine Y.es (aC rfl rfl) rfl (kE (j:=Int.toNat a) (off:=4) (cs:= [.slice al (List.eraseIdx y4.ents i).length am]) rfl qD (.t .z) (iM _ _ _) (.t .g2) rfl (oM rfl) .g7 av (Nat.le_of_ble_eq_true rfl)) ?_
 refine Y.ah (x':=List.set a1 (Int.toNat a) [.int .i64 y4.kind,.int .i64 y4.links,.int .i64 y4.size,.slice ap y4.blocks.length aq,.slice al (List.eraseIdx y4.ents i).length am]) .z rfl ?_
 refine Y.sl rfl ?_
 refine Y.aa ?_
 refine Y.ai (by kernel_rfl) ?_
 refine Y.g (Y.seq (Y.region (Y.mv rfl (.s16 .g1) (Y.er (.s16 (.s16 .g1)) (Y.as rfl .z (Y.nt (Y.ret ?_)))))))
 refine Y.af (c:=aG cD (⟨y4.kind,y4.links,y4.size,y4.blocks,List.eraseIdx y4.ents i⟩:aF) [.int .i64 y4.kind,.int .i64 y4.links,.int .i64 y4.size,.slice ap y4.blocks.length aq,.slice al (List.eraseIdx y4.ents i).length am]) (.c .g4 (.c .g1 .n)) (fun w S h=>cS (⟨y4.kind,y4.links,y4.size,y4.blocks,List.eraseIdx y4.ents i⟩:aF) h) ?_
 refine Y.af (c:=aG aW (List.set f.inodes (Int.toNat a) (⟨y4.kind,y4.links,y4.size,y4.blocks,List.eraseIdx y4.ents i⟩:aF)) [.slice (some aj) f.inodes.length au]) (.c .g1 (.c .z (.c .g3 (.c .g3 .n)))) (eT (K:=cD) ae (List.getElem?_eq_some_iff.1 ah).1 rfl) ?_
 have az:List.set f.inodes (Int.toNat a) (⟨y4.kind,y4.links,y4.size,y4.blocks,List.eraseIdx y4.ents i⟩:aF)=gT f.inodes a (List.eraseIdx y4.ents i):=(xH ah (by omega))
 refine Y.al .z (congrArg (fun z_=>(aG aW (z_) [.slice (some aj) f.inodes.length au]:Asn)) az) ?_
 have a0:gT f.inodes a (List.eraseIdx y4.ents i)=gT f.inodes a (List.eraseIdx (aH f.inodes a) i):=(by rw [aw])
 refine Y.al .z (congrArg (fun z_=>(aG aW (z_) [.slice (some aj) f.inodes.length au]:Asn)) a0) ?_
 refine Y.i (aT rfl .z) (.c .g4 (.c .z (.c .g2 .n))) ?_
 exact⟨_,_,by rw [aw,nF ac],rfl⟩

end Go.Proofs.YtmejbfmhaoilmaaGreat

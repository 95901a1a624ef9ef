/- What is proved: contracts of functions, one a function. No condition. -/
import Derived.Test.YtmejbfmhaoilmaaGreatBase1
import Derived.Test.YtmejbfmhaoilmaaGreatW33
namespace Go.Proofs.YtmejbfmhaoilmaaGreat
open Go Go.RowKit
set_option linter.unusedVariables false
set_option linter.unusedSimpArgs false
set_option maxHeartbeats 1000000
set_option maxRecDepth 20000
theorem aHf {w0:World}{S0:Bs}{f:DFs}{g0 e0 s0:Nat}{ad:List Value}{an:Value}{ao:Value} (a:Int) (i:Nat) (hs:cJ [bZ g0 e0 s0 1 (an :: ao :: ad),aG aW f.inodes [an],aG cV f.data [ao]] w0 S0) (hp:bY f.inodes.length a) (hi:i<(aH f.inodes a).length):
    Calls Tryz.prog 178 #[.pointer (some ⟨g0,0,none⟩),.int .i64 a,.int .i64 (i:Int)] w0 (aI w0 S0 (fun r l=>∃v0 v1,r= .int .i64 (eV (aH f.inodes a) i)∧l= [bZ g0 e0 s0 1 (v0 :: v1 :: ad),aG aW ((dH f a (List.eraseIdx (aH f.inodes a) i))).inodes [v0],aG cV ((dH f a (List.eraseIdx (aH f.inodes a) i))).data [v1]])):=by
 obtain⟨bv,bw⟩:=hp
 refine Y.enter (N:=40) Tryz.func178 rfl rfl (by simp) [(0,.pointer (some ⟨g0,0,none⟩)),(1,.int .i64 a),(2,.int .i64 (i:Int))] (by simp) hs ?_
 refine Y.i (WS.a .g1) ?_
 rintro⟨bx,au,rfl,bf,bg,bh⟩
 refine Y.i (WS.a .g2) ?_
 rintro⟨bz,b0,rfl,bi,bj,bk⟩
 refine Y.seq (Y.region (Y.ql rfl (aA rfl .c) (Y.nt (Y.seq (Y.region (Y.mv rfl .g1 (Y.nc rfl .z ?_)))))))
 refine Y.fa rfl .z aP (Y.ld rfl bO .z .z (Y.mv rfl .g6 ?_))
 refine Y.ab (.c .g1 .n) fN ?_
 rintro a1 ae
 obtain⟨y4,ah⟩:=aJ (xs:=f.inodes) (j:=Int.toNat a) (by omega)
 obtain⟨c5,av⟩:=aJ (xs:=a1) (j:=Int.toNat a) (by rw [ae];exact(List.getElem?_eq_some_iff.1 ah).1)
 refine Y.aq .g1 (eD ah av) ?_
 refine Y.ab (.c .z .n) eZ ?_
 rintro⟨v6,v7⟩ rfl
 refine Y.i (WS.a .z) ?_
 rintro⟨ap,aq,rfl,a2,a3,a4⟩
 refine Y.i (WS.a .g1) ?_
 rintro⟨bm,ai,rfl,a5,a6,a7⟩
 have b1:=cZ (i:=a) ah (by omega)
 have aw:=dD (a:=a) ah (by omega)
 have b2:=dZ (a:=a) ah (by omega)
 have a8:(aH f.inodes a).length=y4.ents.length:=by rw [aw]
 refine Y.i (WS.h .g4 (by omega)) ?_
 rintro⟨aj,rfl⟩
 refine Y.ql rfl (aB (j:=Int.toNat a) rfl cI aU (.t .g1) (.t .z) (by omega) (by omega)) ?_
 refine Y.fa rfl .z bM (Y.ql rfl (aN rfl eA (.t .z) (WS.j .g4 av rfl)) (Y.as rfl .z (Y.nt (Y.seq (Y.region (Y.mv rfl .z (Y.mv rfl .g13 ?_)))))))
 refine Y.ab (.c .g1 .n) fN ?_
 rintro ax aa
 obtain⟨ar,ac⟩:=aJ (xs:=y4.ents) (j:=i) (by omega)
 obtain⟨b3,ak⟩:=aJ (xs:=ax) (j:=i) (by rw [aa];exact(List.getElem?_eq_some_iff.1 ac).1)
 refine Y.aq .g1 (eD ac ak) ?_
 refine Y.ab (.c .z .n) aGj ?_
 rintro⟨⟩ ⟨rfl,ay⟩
 refine Y.i (WS.h .g2 (by omega)) ?_
 rintro⟨ab,rfl⟩
 refine Y.ql rfl (aB (j:=i) rfl dQ fS (.t .g1) (.t .z) rfl (by omega)) ?_
 refine Y.fa rfl .z iU (Y.ql rfl (aN rfl bR (.t .z) (WS.j .g2 ak rfl)) (Y.as rfl .z (Y.nt (Y.seq ?_))))
 refine Y.ac (c:=aG kB ar [.string ar.name,.int .i64 ar.ino]) .n (fun w S h=>iO ar h (by assumption)) ?_
 refine Y.ac (c:=aG dL y4.ents [.slice (some ab) y4.ents.length ai]) (.c .g3 (.c .z (.c .z (.c .z .n)))) (eH (K:=kB) aa ac ak) ?_
 refine Y.sel (.c .z (.c .z (.c .g4 (.c .z (.c .z (.c .z (.c .z .n))))))) ?_
 refine Y.dr .g3 17 gB ?_
 refine Y.sc (qs 0 5++qs 6 3++qs 10 4++ [(5,false),(9,false),(14,false),(15,false),(16,true),(17,false)]) (by kernel_rfl) ?_
 refine Y.dm rfl rfl .g3 .g16 (Y.dn rfl rfl .g3 .z (Y.df rfl rfl .g3 .z aP (Y.dl rfl rfl .g3 bO .z .g3 (Y.dm rfl rfl .g3 (.s16 .g5) (Y.dm rfl rfl .g3 .g11 (Y.dm rfl rfl .g3 (.s16 .g8) ?_))))))
 obtain⟨bn,af⟩:∃A':Option Addr,A'=(if ai=0 then(some ab)else Option.map (fun z=>Addr.add z (0 * 2)) (some ab)):=⟨_,rfl⟩
 have bo:=gR (xs:=y4.ents) (a:=0) (b:=i) (by omega)
 have bp:True:=trivial
 refine Y.dk rfl rfl .g3 (jT (a:=0) (b:=i) rfl dQ fS (.t .g1) af (.inl ⟨rfl,rfl⟩) (.inr ⟨_,_,rfl,(.t .z)⟩) (by omega) (by omega) (by omega)) ?_
 refine Y.dm rfl rfl .g3 .g14 (Y.dm rfl rfl .g3 (.s16 .g11) ?_)
 refine Y.dk rfl rfl .g3 (bG (c:=((i+1:Nat):Int)) rfl (.t .z) .c (wr (by omega) (by omega) (by omega))) ?_
 obtain⟨bq,ag⟩:∃A':Option Addr,A'=(if ai=i+1 then(some ab)else Option.map (fun z=>Addr.add z ((i+1) * 2)) (some ab)):=⟨_,rfl⟩
 have br:=gR (xs:=y4.ents) (a:=i+1) (b:=y4.ents.length) (by omega)
 have bs:True:=trivial
 refine Y.dk rfl rfl .g3 (jT (a:=i+1) (b:=y4.ents.length) rfl dQ fS (.t .g2) ag (.inr ⟨_,_,rfl,(.t .z)⟩) (.inl ⟨rfl,rfl⟩) (by omega) (by omega) (by omega)) ?_
 refine Y.e (aC rfl rfl) rfl (by decide) rfl (dW rfl dQ (inz eF)) ?_
 rintro _ _ ⟨g24,rfl,rfl⟩
 refine Y.sk .g4 ?_
 refine Y.add (c:=aG dL ([]:(List bT)) [.slice (some ⟨g24,0,none⟩) 0 0]) (fun w S=>aK w S _) ?_
 refine Y.e (aC rfl rfl) rfl (by decide) rfl (dU (gY _ (gD (bI _ _ _) (bI _ _ _))) rfl dQ eF rfl (.t .z) (.t .g5) (.c .z .n) (fun w1 S1 tr=>(nD (a:=0) (b:=i) af (tr.own .g1) (by omega) (by omega))) (by first | omega |(simp only [List.length_append,List.length_take,List.length_nil,List.length_cons];omega)) (by first | omega |(simp only [List.length_append,List.length_take,List.length_nil,List.length_cons];omega))) ?_
 rintro _ _ rfl
 refine Y.af .z (List.nil_append _) ?_
 refine Y.i (WS.a .z) ?_
 rintro⟨bt,bu,rfl,a9,ba,bb⟩
 refine Y.sk .g5 ?_
 refine Y.e (aC rfl rfl) rfl (by decide) rfl (dU (gY _ (gD (bI _ _ _) (bI _ _ _))) rfl dQ eF rfl (.t .z) (.t .g2) (.c .z .n) (fun w1 S1 tr=>(nD (a:=i+1) (b:=y4.ents.length) ag (tr.own .g1) (by omega) (by omega))) (by first | omega |(simp only [List.length_append,List.length_take,List.length_nil,List.length_cons];omega)) (by first | omega |(simp only [List.length_append,List.length_take,List.length_nil,List.length_cons];omega))) ?_
 rintro _ _ rfl
 refine Y.af .z (aB8 _ _) ?_
 refine Y.i (WS.a .z) ?_
 rintro⟨al,am,rfl,bc,bd,be⟩
 refine Y.sk .g5 ?_
 refine Y.q (aC rfl rfl) rfl (by decide) rfl (aB (j:=Int.toNat a) rfl cI aU (.t .g11) (.t .g10) (by omega) (by omega)) ?_
 refine Y.sk .g5 ?_
 refine Y.df rfl rfl .g5 .z bM ?_
 refine Y.es (aC rfl rfl) rfl (jZ (j:=Int.toNat a) (off:=4) (cs:= [.slice al (List.eraseIdx y4.ents i).length am]) rfl pX (.t .z) (iK _ _ _) (.t .g2) rfl (nJ rfl) .g7 av (Nat.le_of_ble_eq_true rfl)) ?_
 refine Y.af (x':=List.set a1 (Int.toNat a) [.int .i64 y4.kind,.int .i64 y4.links,.int .i64 y4.size,.slice ap y4.blocks.length aq,.slice al (List.eraseIdx y4.ents i).length am]) .z rfl ?_
 refine Y.sl rfl ?_
 refine Y.aa ?_
 refine Y.ai (by kernel_rfl) ?_
 refine Y.g (Y.seq (Y.region (Y.mv rfl (.s16 .g1) (Y.er (.s16 (.s16 .g1)) (Y.as rfl .z (Y.nt (Y.ret ?_)))))))
 refine Y.ac (c:=aG cA (⟨y4.kind,y4.links,y4.size,y4.blocks,List.eraseIdx y4.ents i⟩:aF) [.int .i64 y4.kind,.int .i64 y4.links,.int .i64 y4.size,.slice ap y4.blocks.length aq,.slice al (List.eraseIdx y4.ents i).length am]) (.c .g4 (.c .g1 .n)) (fun w S h=>cP (⟨y4.kind,y4.links,y4.size,y4.blocks,List.eraseIdx y4.ents i⟩:aF) h) ?_
 refine Y.ac (c:=aG aW (List.set f.inodes (Int.toNat a) (⟨y4.kind,y4.links,y4.size,y4.blocks,List.eraseIdx y4.ents i⟩:aF)) [.slice (some aj) f.inodes.length au]) (.c .g1 (.c .z (.c .g3 (.c .g3 .n)))) (eU (K:=cA) ae (List.getElem?_eq_some_iff.1 ah).1 rfl) ?_
 have az:List.set f.inodes (Int.toNat a) (⟨y4.kind,y4.links,y4.size,y4.blocks,List.eraseIdx y4.ents i⟩:aF)=gU f.inodes a (List.eraseIdx y4.ents i):=(wO ah (by omega))
 refine Y.aj .z (congrArg (fun z_=>(aG aW (z_) [.slice (some aj) f.inodes.length au]:Asn)) az) ?_
 have a0:gU f.inodes a (List.eraseIdx y4.ents i)=gU f.inodes a (List.eraseIdx (aH f.inodes a) i):=(by rw [aw])
 refine Y.aj .z (congrArg (fun z_=>(aG aW (z_) [.slice (some aj) f.inodes.length au]:Asn)) a0) ?_
 refine Y.j (aT rfl .z) (.c .g4 (.c .z (.c .g2 .n))) ?_
 exact⟨_,_,by rw [aw,nA ac],rfl⟩

end Go.Proofs.YtmejbfmhaoilmaaGreat

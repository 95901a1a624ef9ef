/- What is proved: contracts of functions, one a function. No condition. -/
import Derived.Test.YtmejbfmhaoilmaaGreatBase1
import Derived.Test.YtmejbfmhaoilmaaGreatW34
import Derived.Test.YtmejbfmhaoilmaaGreatW32
namespace Go.Proofs.YtmejbfmhaoilmaaGreat
open Go Go.RowKit
set_option linter.unusedVariables false
set_option linter.unusedSimpArgs false
set_option maxHeartbeats 1000000
set_option maxRecDepth 20000
theorem aKs {w0:World}{S0:Bs}{f:DFs}{g0 e0 s0:Nat}{ak:List Value}{an:Value}{ao:Value} (k:Int) (hs:cJ [bZ g0 e0 s0 1 (an :: ao :: ak),aG aW f.inodes [an],aG cV f.data [ao]] w0 S0) (hq:vH f k):
    Calls Tryz.prog 197 #[.pointer (some ⟨g0,0,none⟩),.int .i64 k] w0 (aI w0 S0 (aDj g0 e0 s0 ak (iG f k))):=by
 obtain⟨b5,b6⟩:=hq.p
 have hd:=hq.d
 have hb:=hq.b
 have ay:=hq.l
 have hkl:=hq.k
 refine Y.enter (N:=50) Tryz.func197 rfl rfl (by simp) [(0,.pointer (some ⟨g0,0,none⟩)),(1,.int .i64 k)] (by simp) hs ?_
 refine Y.i (WS.a .g1) ?_
 rintro⟨b7,al,rfl,bn,bo,bp⟩
 refine Y.i (WS.a .g2) ?_
 rintro⟨b8,b9,rfl,bq,br,bs⟩
 refine Y.seq (Y.seq (Y.region (Y.mv rfl .z (Y.nc rfl .z (Y.fa rfl .z aP (Y.ld rfl bO .z .z (Y.mv rfl .g5 ?_)))))))
 refine Y.ab (.c .g1 .n) fN ?_
 rintro a3 ad
 obtain⟨y4,af⟩:=aJ (xs:=f.inodes) (j:=Int.toNat k) (by first | omega |(simp only [dH,dF,dV];omega))
 obtain⟨c5,am⟩:=aJ (xs:=a3) (j:=Int.toNat k) (by rw [ad];exact(List.getElem?_eq_some_iff.1 af).1)
 refine Y.aq .g1 (eD af am) ?_
 refine Y.ab (.c .z .n) eZ ?_
 rintro⟨v6,v7⟩ rfl
 refine Y.i (WS.a .z) ?_
 rintro⟨ag,ah,rfl,a4,a5,a6⟩
 refine Y.i (WS.a .g1) ?_
 rintro⟨ai,aj,rfl,a7,a8,a9⟩
 have ca:=cZ (i:=k) af (by omega)
 have cb:=dD (a:=k) af (by omega)
 have ax:=dZ (a:=k) af (by omega)
 refine Y.i (WS.h .g4 (by omega)) ?_
 rintro⟨ab,rfl⟩
 refine Y.ql rfl (aB (j:=Int.toNat k) rfl cI aU (.t .g1) (.t .z) (by omega) (by first | omega |(simp only [dH,dF,dV];omega))) ?_
 refine Y.fa rfl .z bW (Y.ql rfl (aN rfl bR (.t .z) (WS.j .g4 am rfl)) (Y.ql rfl (cC rfl (.t .z) .c) (Y.nt ?_)))
 refine Y.ad (.t .z) (fun bt=> ?_) (fun bt=> ?_)
 refine Y.ret (Y.m ?_)
 refine Y.ac (c:=aG cA y4 [.int .i64 y4.kind,.int .i64 y4.links,.int .i64 y4.size,.slice ag y4.blocks.length ah,.slice ai y4.ents.length aj]) (.c .z (.c .z .n)) (fun w S h=>cP y4 h) ?_
 refine Y.ac (c:=aG aW f.inodes [.slice (some ab) f.inodes.length al]) (.c .g3 (.c .z (.c .z (.c .z .n)))) (eH (K:=cA) ad af am) ?_
 refine Y.j (zD rfl) (.c .g1 (.c .z (.c .z .n))) ?_
 exact⟨_,_,rfl,by first |(rw [sT (by omega)];done) |(rw [tF (by omega) (by omega),ax];done) |(rw [tG (by omega) (by omega) (by omega)];done) |(rw [nH (by omega) (by omega) (by omega),←oJ (f:=f) (k:=k) (n:=y4.links - 1)];done) |(rw [nH (by omega) (by omega) (by omega)];done)⟩
 refine Y.skip (Y.g (Y.seq (Y.region (Y.mv rfl .g9 (Y.nc rfl .z (Y.fa rfl .z aP (Y.ld rfl bO .z .g5 (Y.mv rfl .g14 ?_))))))))
 refine Y.ql rfl (aB (j:=Int.toNat k) rfl cI aU (.t .g1) (.t .z) (by omega) (by first | omega |(simp only [dH,dF,dV];omega))) ?_
 refine Y.fa rfl .z iR (Y.ql rfl (aN rfl bR (.t .z) (WS.j .g4 am rfl)) ?_)
 refine Y.ql rfl (jO (c:=y4.links - 1) rfl (.t .z) .c (wr (by omega) (by omega) (by omega))) ?_
 refine Y.ql rfl (aB (j:=Int.toNat k) rfl cI aU (.t .g5) (.t .g4) (by omega) (by first | omega |(simp only [dH,dF,dV];omega))) ?_
 refine Y.fa rfl .z iR ?_
 refine Y.es (aE rfl) rfl (jZ (j:=Int.toNat k) (off:=1) (cs:= [.int .i64 (y4.links - 1)]) rfl hP (.t .z) (iK _ _ _) (.t .g2) rfl (nJ rfl) .g4 am (Nat.le_of_ble_eq_true rfl)) ?_
 refine Y.af (x':=List.set a3 (Int.toNat k) [.int .i64 y4.kind,.int .i64 (y4.links - 1),.int .i64 y4.size,.slice ag y4.blocks.length ah,.slice ai y4.ents.length aj]) .z rfl ?_
 refine Y.nt (Y.seq (Y.seq (Y.region (Y.mv rfl (.s16 .g4) (Y.nc rfl .z (Y.fa rfl .z aP (Y.ld rfl bO .z .g5 ?_)))))))
 refine Y.mv rfl (.s16 .g9) ?_
 refine Y.ql rfl (aB (j:=Int.toNat k) rfl cI aU (.t .g1) (.t .z) (by omega) (by first | omega |(simp only [dH,dF,dV];omega))) ?_
 refine Y.fa rfl .z iR (Y.ql rfl (aN rfl bR (.t .z) (WS.j .z (rX am) rfl)) (Y.ql rfl (gA rfl (.t .z) .c) (Y.nt ?_)))
 refine Y.u (.t .z) (fun bu=> ?_) (fun bu=> ?_)
 refine Y.ret (Y.m ?_)
 refine Y.ac (c:=aG cA (⟨y4.kind,y4.links - 1,y4.size,y4.blocks,y4.ents⟩:aF) [.int .i64 y4.kind,.int .i64 (y4.links - 1),.int .i64 y4.size,.slice ag y4.blocks.length ah,.slice ai y4.ents.length aj]) (.c .g1 (.c .g1 .n)) (fun w S h=>cP (⟨y4.kind,y4.links - 1,y4.size,y4.blocks,y4.ents⟩:aF) h) ?_
 refine Y.ac (c:=aG aW (List.set f.inodes (Int.toNat k) (⟨y4.kind,y4.links - 1,y4.size,y4.blocks,y4.ents⟩:aF)) [.slice (some ab) f.inodes.length al]) (.c .g1 (.c .z (.c .z (.c .z .n)))) (eU (K:=cA) ad (List.getElem?_eq_some_iff.1 af).1 rfl) ?_
 have az:List.set f.inodes (Int.toNat k) (⟨y4.kind,y4.links - 1,y4.size,y4.blocks,y4.ents⟩:aF)=fX f.inodes k (y4.links - 1):=(tR af (by omega))
 refine Y.aj .z (congrArg (fun z_=>(aG aW (z_) [.slice (some ab) f.inodes.length al]:Asn)) az) ?_
 refine Y.j (zD rfl) (.c .g1 (.c .z (.c .z .n))) ?_
 exact⟨_,_,rfl,by first |(rw [sT (by omega)];done) |(rw [tF (by omega) (by omega),ax];done) |(rw [tG (by omega) (by omega) (by omega)];done) |(rw [nH (by omega) (by omega) (by omega),←oJ (f:=f) (k:=k) (n:=y4.links - 1)];done) |(rw [nH (by omega) (by omega) (by omega)];done)⟩
 refine Y.skip (Y.g (Y.seq (Y.seq (Y.region (Y.mv rfl (.s16 .g13) (Y.nc rfl .z (Y.fa rfl .z aP (Y.ld rfl bO .z .g5 ?_))))))))
 refine Y.mv rfl (.s16 (.s16 .g2)) ?_
 refine Y.ac (c:=aG cA (⟨y4.kind,y4.links - 1,y4.size,y4.blocks,y4.ents⟩:aF) [.int .i64 y4.kind,.int .i64 (y4.links - 1),.int .i64 y4.size,.slice ag y4.blocks.length ah,.slice ai y4.ents.length aj]) (.c .g1 (.c .g1 .n)) (fun w S h=>cP (⟨y4.kind,y4.links - 1,y4.size,y4.blocks,y4.ents⟩:aF) h) ?_
 refine Y.ac (c:=aG aW (List.set f.inodes (Int.toNat k) (⟨y4.kind,y4.links - 1,y4.size,y4.blocks,y4.ents⟩:aF)) [.slice (some ab) f.inodes.length al]) (.c .g1 (.c .z (.c .z (.c .z .n)))) (eU (K:=cA) ad (List.getElem?_eq_some_iff.1 af).1 rfl) ?_
 have a0:List.set f.inodes (Int.toNat k) (⟨y4.kind,y4.links - 1,y4.size,y4.blocks,y4.ents⟩:aF)=fX f.inodes k (y4.links - 1):=(tR af (by omega))
 refine Y.aj .z (congrArg (fun z_=>(aG aW (z_) [.slice (some ab) f.inodes.length al]:Asn)) a0) ?_
 have bv:=(aBk (xs:=f.inodes) (a:=k) (k:=k) (n:=y4.links - 1)).symm ▸ ay
 have hWP:=aE7 (n:=y4.links - 1) hq
 have hWo:=aBk (xs:=f.inodes) (a:=k) (k:=k) (n:=y4.links - 1)
 have cc:=hWP.1
 have cd:=hWP.2
 refine Y.cl rfl rfl Tryz.func142 rfl rfl (aR (.t .g1) (.t .z)) .n (fun _ _ hs tr=>aI6 (tr.own .z) _ (by first | assumption | exact wY (by assumption) _ |(simp only [dH] at *;assumption))) ?_
 rintro _ _ ⟨rfl,rfl⟩
 refine Y.r .n ?_
 refine Y.ql rfl (gA rfl (.t .z) .c) (Y.nt ?_)
 refine Y.u (.t .z) (fun bw=> ?_) (fun bw=> ?_)
 refine Y.seq (Y.region (Y.mv rfl (.s16 (.s16 .g4)) (Y.nc rfl .z (Y.fa rfl .z aP (Y.ld rfl bO .z .g1 (Y.mv rfl (.s16 (.s16 .g9)) ?_))))))
 refine Y.ab (.c .z .n) fN ?_
 rintro ap ae
 obtain⟨aa,ac⟩:=aJ (xs:=fX f.inodes k (y4.links - 1)) (j:=Int.toNat k) (by first | omega |(simp only [dH,dF,dV];omega))
 obtain⟨ce,aq⟩:=aJ (xs:=ap) (j:=Int.toNat k) (by rw [ae];exact(List.getElem?_eq_some_iff.1 ac).1)
 refine Y.aq .g1 (eD ac aq) ?_
 refine Y.ab (.c .z .n) eZ ?_
 rintro⟨cf,cg⟩ rfl
 refine Y.i (WS.a .z) ?_
 rintro⟨ar,au,rfl,ba,bb,bc⟩
 refine Y.i (WS.a .g1) ?_
 rintro⟨av,aw,rfl,bd,be,bf⟩
 have bx:=cZ (i:=k) ac (by omega)
 have bz:=dD (a:=k) ac (by omega)
 have b0:=dZ (a:=k) ac (by omega)
 refine Y.ql rfl (aB (j:=Int.toNat k) rfl cI aU (.t .g1) (.t .z) (by omega) (by first | omega |(simp only [dH,dF,dV];omega))) ?_
 refine Y.fa rfl .z iR ?_
 refine Y.es (aE rfl) rfl (jZ (j:=Int.toNat k) (off:=1) (cs:= [.int .i64 1]) rfl hP (.t .z) (iK _ _ _) .c rfl (nJ rfl) .g4 aq (Nat.le_of_ble_eq_true rfl)) ?_
 refine Y.af (x':=List.set ap (Int.toNat k) [.int .i64 aa.kind,.int .i64 1,.int .i64 aa.size,.slice ar aa.blocks.length au,.slice av aa.ents.length aw]) .z rfl ?_
 refine Y.nt (Y.ret (Y.m ?_))
 refine Y.ac (c:=aG cA (⟨aa.kind,1,aa.size,aa.blocks,aa.ents⟩:aF) [.int .i64 aa.kind,.int .i64 1,.int .i64 aa.size,.slice ar aa.blocks.length au,.slice av aa.ents.length aw]) (.c .g1 (.c .g1 .n)) (fun w S h=>cP (⟨aa.kind,1,aa.size,aa.blocks,aa.ents⟩:aF) h) ?_
 refine Y.ac (c:=aG aW (List.set (fX f.inodes k (y4.links - 1)) (Int.toNat k) (⟨aa.kind,1,aa.size,aa.blocks,aa.ents⟩:aF)) [.slice (some ab) f.inodes.length al]) (.c .g1 (.c .z (.c .z (.c .z .n)))) (eU (K:=cA) ae (List.getElem?_eq_some_iff.1 ac).1 rfl) ?_
 have a1:List.set (fX f.inodes k (y4.links - 1)) (Int.toNat k) (⟨aa.kind,1,aa.size,aa.blocks,aa.ents⟩:aF)=fX (fX f.inodes k (y4.links - 1)) k 1:=(tR ac (by omega))
 refine Y.aj .z (congrArg (fun z_=>(aG aW (z_) [.slice (some ab) f.inodes.length al]:Asn)) a1) ?_
 have a2:fX (fX f.inodes k (y4.links - 1)) k 1=f.inodes:=(by rw [aBd,show(1:Int)=dJ f.inodes k by omega];exact aCw)
 refine Y.aj .z (congrArg (fun z_=>(aG aW (z_) [.slice (some ab) f.inodes.length al]:Asn)) a2) ?_
 refine Y.j (zD rfl) (.c .g1 (.c .z (.c .z .n))) ?_
 exact⟨_,_,rfl,by first |(rw [sT (by omega)];done) |(rw [tF (by omega) (by omega),ax];done) |(rw [tG (by omega) (by omega) (by omega)];done) |(rw [nH (by omega) (by omega) (by omega),←oJ (f:=f) (k:=k) (n:=y4.links - 1)];done) |(rw [nH (by omega) (by omega) (by omega)];done)⟩
 refine Y.skip (Y.g (Y.region (Y.mv rfl (.s16 (.s16 .g4)) (Y.mv rfl (.s16 (.s16 .g6)) ?_))))
 refine Y.cl rfl rfl Tryz.func207 rfl rfl (aR (.t .g1) (.t .z)) (.c .g1 (.c .z (.c .z .n))) (fun _ _ hs tr=>aMl (f:=(⟨fX f.inodes k (y4.links - 1),f.data⟩:DFs)) _ hs (by first | assumption |(constructor <;> omega)) (by assumption) (by assumption)) ?_
 rintro _ _ ⟨ch,ci,rfl,rfl⟩
 refine Y.r (.c (.c (.c .n))) ?_
 refine Y.af (x':=(oN (⟨fX f.inodes k (y4.links - 1),f.data⟩:DFs) k).inodes) .g1 rfl ?_
 refine Y.i (WS.a .z) ?_
 rintro⟨b1,b2,rfl,bg,bh,bi⟩
 refine Y.af (x':=(oN (⟨fX f.inodes k (y4.links - 1),f.data⟩:DFs) k).data) .g2 rfl ?_
 refine Y.i (WS.a .z) ?_
 rintro⟨b3,b4,rfl,bj,bk,bm⟩
 refine Y.nil ?_
 refine Y.ay (zD rfl) (.c .g2 (.c .g1 (.c .z .n))) ?_
 exact⟨_,_,rfl,by first |(rw [sT (by omega)];done) |(rw [tF (by omega) (by omega),ax];done) |(rw [tG (by omega) (by omega) (by omega)];done) |(rw [nH (by omega) (by omega) (by omega),←oJ (f:=f) (k:=k) (n:=y4.links - 1)];done) |(rw [nH (by omega) (by omega) (by omega)];done)⟩

end Go.Proofs.YtmejbfmhaoilmaaGreat

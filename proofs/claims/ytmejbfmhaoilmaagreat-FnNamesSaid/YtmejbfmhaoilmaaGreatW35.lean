/- What is proved: contracts of functions, one a function. No condition. -/
import Derived.Test.YtmejbfmhaoilmaaGreatBase1
import Derived.Test.YtmejbfmhaoilmaaGreatW34
import Derived.Test.YtmejbfmhaoilmaaGreatW32
namespace Go.Proofs.YtmejbfmhaoilmaaGreat
open Go Go.RowKit
set_option linter.unusedVariables false
set_option linter.unusedSimpArgs false
set_option maxHeartbeats 1000000
set_option maxRecDepth 20000
theorem aMo {w0:World}{S0:Bs}{f:DFs}{g0 e0 s0:Nat}{ak:List Value}{an:Value}{ao:Value} (k:Int) (hs:cB [cM g0 e0 s0 1 (an :: ao :: ak),aG aP f.inodes [an],aG cG f.data [ao]] w0 S0) (hq:tQ f k):
    Calls Tryz.prog 197 #[.pointer (some ⟨g0,0,none⟩),.int .i64 k] w0 (aJ w0 S0 (yE g0 e0 s0 ak (gQ f k))):=by
 obtain⟨b5,b6⟩:=hq.p
 have hd:=hq.d
 have hb:=hq.b
 have ay:=hq.l
 have hkl:=hq.k
 refine Y.enter (N:=50) Tryz.func197 rfl rfl (by simp) [(0,.pointer (some ⟨g0,0,none⟩)),(1,.int .i64 k)] (by simp) hs ?_
 refine Y.h (WS.a .g1) ?_
 rintro⟨b7,al,rfl,bn,bo,bp⟩
 refine Y.h (WS.a .g2) ?_
 rintro⟨b8,b9,rfl,bq,br,bs⟩
 refine Y.seq (Y.seq (Y.region (Y.mv rfl .z (Y.nc rfl .z (Y.fa rfl .z aO (Y.ld rfl bK .z .z (Y.mv rfl .g5 ?_)))))))
 refine Y.w (.c .g1 .n) eC ?_
 rintro a3 ad
 obtain⟨y4,af⟩:=aI (xs:=f.inodes) (j:=Int.toNat k) (by first | omega |(simp only [bH,bB,bN];omega))
 obtain⟨c5,am⟩:=aI (xs:=a3) (j:=Int.toNat k) (by rw [ad];exact(List.getElem?_eq_some_iff.1 af).1)
 refine Y.an .g1 (cW af am) ?_
 refine Y.w (.c .z .n) dR ?_
 rintro⟨v6,v7⟩ rfl
 refine Y.h (WS.a .z) ?_
 rintro⟨ag,ah,rfl,a4,a5,a6⟩
 refine Y.h (WS.a .g1) ?_
 rintro⟨ai,aj,rfl,a7,a8,a9⟩
 have ca:=cH (i:=k) af (by omega)
 have cb:=cI (a:=k) af (by omega)
 have ax:=dC (a:=k) af (by omega)
 refine Y.h (WS.i .g4 (by omega)) ?_
 rintro⟨ab,rfl⟩
 refine Y.ql rfl (aC (j:=Int.toNat k) rfl cE aU (.t .g1) (.t .z) (by omega) (by first | omega |(simp only [bH,bB,bN];omega))) ?_
 refine Y.fa rfl .z cV (Y.ql rfl (aL rfl cF (.t .z) (WS.h .g4 am rfl)) (Y.ql rfl (cU rfl (.t .z) .c) (Y.nt ?_)))
 refine Y.ad (.t .z) (fun bt=> ?_) (fun bt=> ?_)
 refine Y.ret (Y.r ?_)
 refine Y.v (c:=aG bD y4 [.int .i64 y4.kind,.int .i64 y4.links,.int .i64 y4.size,.slice ag y4.blocks.length ah,.slice ai y4.ents.length aj]) (.c .z (.c .z .n)) (fun w S h=>bF y4 h) ?_
 refine Y.v (c:=aG aP f.inodes [.slice (some ab) f.inodes.length al]) (.c .g3 (.c .z (.c .z (.c .z .n)))) (bU (K:=bD) ad af am) ?_
 refine Y.i (sP rfl) (.c .g1 (.c .z (.c .z .n))) ?_
 exact⟨_,_,rfl,by first |(rw [mT (by omega)];done) |(rw [mY (by omega) (by omega),ax];done) |(rw [nP (by omega) (by omega) (by omega)];done) |(rw [kL (by omega) (by omega) (by omega),←oO (f:=f) (k:=k) (n:=y4.links - 1)];done) |(rw [kL (by omega) (by omega) (by omega)];done)⟩
 refine Y.skip (Y.g (Y.seq (Y.region (Y.mv rfl .g9 (Y.nc rfl .z (Y.fa rfl .z aO (Y.ld rfl bK .z .g5 (Y.mv rfl .g14 ?_))))))))
 refine Y.ql rfl (aC (j:=Int.toNat k) rfl cE aU (.t .g1) (.t .z) (by omega) (by first | omega |(simp only [bH,bB,bN];omega))) ?_
 refine Y.fa rfl .z gC (Y.ql rfl (aL rfl cF (.t .z) (WS.h .g4 am rfl)) ?_)
 refine Y.ql rfl (jL (c:=y4.links - 1) rfl (.t .z) .c (wr (by omega) (by omega) (by omega))) ?_
 refine Y.ql rfl (aC (j:=Int.toNat k) rfl cE aU (.t .g5) (.t .g4) (by omega) (by first | omega |(simp only [bH,bB,bN];omega))) ?_
 refine Y.fa rfl .z gC ?_
 refine Y.es (aD rfl) rfl (gY (j:=Int.toNat k) (off:=1) (cs:= [.int .i64 (y4.links - 1)]) rfl jQ (.t .z) (gA _ _ _) (.t .g2) rfl (lZ rfl) .g4 am (Nat.le_of_ble_eq_true rfl)) ?_
 refine Y.af (x':=List.set a3 (Int.toNat k) [.int .i64 y4.kind,.int .i64 (y4.links - 1),.int .i64 y4.size,.slice ag y4.blocks.length ah,.slice ai y4.ents.length aj]) .z rfl ?_
 refine Y.nt (Y.seq (Y.seq (Y.region (Y.mv rfl (.s16 .g4) (Y.nc rfl .z (Y.fa rfl .z aO (Y.ld rfl bK .z .g5 ?_)))))))
 refine Y.mv rfl (.s16 .g9) ?_
 refine Y.ql rfl (aC (j:=Int.toNat k) rfl cE aU (.t .g1) (.t .z) (by omega) (by first | omega |(simp only [bH,bB,bN];omega))) ?_
 refine Y.fa rfl .z gC (Y.ql rfl (aL rfl cF (.t .z) (WS.h .z (uL am) rfl)) (Y.ql rfl (gO rfl (.t .z) .c) (Y.nt ?_)))
 refine Y.u (.t .z) (fun bu=> ?_) (fun bu=> ?_)
 refine Y.ret (Y.r ?_)
 refine Y.v (c:=aG bD (⟨y4.kind,y4.links - 1,y4.size,y4.blocks,y4.ents⟩:aF) [.int .i64 y4.kind,.int .i64 (y4.links - 1),.int .i64 y4.size,.slice ag y4.blocks.length ah,.slice ai y4.ents.length aj]) (.c .g1 (.c .g1 .n)) (fun w S h=>bF (⟨y4.kind,y4.links - 1,y4.size,y4.blocks,y4.ents⟩:aF) h) ?_
 refine Y.v (c:=aG aP (List.set f.inodes (Int.toNat k) (⟨y4.kind,y4.links - 1,y4.size,y4.blocks,y4.ents⟩:aF)) [.slice (some ab) f.inodes.length al]) (.c .g1 (.c .z (.c .z (.c .z .n)))) (dQ (K:=bD) ad (List.getElem?_eq_some_iff.1 af).1 rfl) ?_
 have az:List.set f.inodes (Int.toNat k) (⟨y4.kind,y4.links - 1,y4.size,y4.blocks,y4.ents⟩:aF)=eO f.inodes k (y4.links - 1):=(oF af (by omega))
 refine Y.ak .z (congrArg (fun z_=>(aG aP (z_) [.slice (some ab) f.inodes.length al]:Asn)) az) ?_
 refine Y.i (sP rfl) (.c .g1 (.c .z (.c .z .n))) ?_
 exact⟨_,_,rfl,by first |(rw [mT (by omega)];done) |(rw [mY (by omega) (by omega),ax];done) |(rw [nP (by omega) (by omega) (by omega)];done) |(rw [kL (by omega) (by omega) (by omega),←oO (f:=f) (k:=k) (n:=y4.links - 1)];done) |(rw [kL (by omega) (by omega) (by omega)];done)⟩
 refine Y.skip (Y.g (Y.seq (Y.seq (Y.region (Y.mv rfl (.s16 .g13) (Y.nc rfl .z (Y.fa rfl .z aO (Y.ld rfl bK .z .g5 ?_))))))))
 refine Y.mv rfl (.s16 (.s16 .g2)) ?_
 refine Y.v (c:=aG bD (⟨y4.kind,y4.links - 1,y4.size,y4.blocks,y4.ents⟩:aF) [.int .i64 y4.kind,.int .i64 (y4.links - 1),.int .i64 y4.size,.slice ag y4.blocks.length ah,.slice ai y4.ents.length aj]) (.c .g1 (.c .g1 .n)) (fun w S h=>bF (⟨y4.kind,y4.links - 1,y4.size,y4.blocks,y4.ents⟩:aF) h) ?_
 refine Y.v (c:=aG aP (List.set f.inodes (Int.toNat k) (⟨y4.kind,y4.links - 1,y4.size,y4.blocks,y4.ents⟩:aF)) [.slice (some ab) f.inodes.length al]) (.c .g1 (.c .z (.c .z (.c .z .n)))) (dQ (K:=bD) ad (List.getElem?_eq_some_iff.1 af).1 rfl) ?_
 have a0:List.set f.inodes (Int.toNat k) (⟨y4.kind,y4.links - 1,y4.size,y4.blocks,y4.ents⟩:aF)=eO f.inodes k (y4.links - 1):=(oF af (by omega))
 refine Y.ak .z (congrArg (fun z_=>(aG aP (z_) [.slice (some ab) f.inodes.length al]:Asn)) a0) ?_
 have bv:=(wY (xs:=f.inodes) (a:=k) (k:=k) (n:=y4.links - 1)).symm ▸ ay
 have hWP:=aFs (n:=y4.links - 1) hq
 have hWo:=wY (xs:=f.inodes) (a:=k) (k:=k) (n:=y4.links - 1)
 have cc:=hWP.1
 have cd:=hWP.2
 refine Y.cl rfl rfl Tryz.func142 rfl rfl (aX (.t .g1) (.t .z)) .n (fun _ _ hs tr=>aJz (tr.own .z) _ (by first | assumption | exact pH (by assumption) _ |(simp only [bH] at *;assumption))) ?_
 rintro _ _ ⟨rfl,rfl⟩
 refine Y.m .n ?_
 refine Y.ql rfl (gO rfl (.t .z) .c) (Y.nt ?_)
 refine Y.u (.t .z) (fun bw=> ?_) (fun bw=> ?_)
 refine Y.seq (Y.region (Y.mv rfl (.s16 (.s16 .g4)) (Y.nc rfl .z (Y.fa rfl .z aO (Y.ld rfl bK .z .g1 (Y.mv rfl (.s16 (.s16 .g9)) ?_))))))
 refine Y.w (.c .z .n) eC ?_
 rintro ap ae
 obtain⟨aa,ac⟩:=aI (xs:=eO f.inodes k (y4.links - 1)) (j:=Int.toNat k) (by first | omega |(simp only [bH,bB,bN];omega))
 obtain⟨ce,aq⟩:=aI (xs:=ap) (j:=Int.toNat k) (by rw [ae];exact(List.getElem?_eq_some_iff.1 ac).1)
 refine Y.an .g1 (cW ac aq) ?_
 refine Y.w (.c .z .n) dR ?_
 rintro⟨cf,cg⟩ rfl
 refine Y.h (WS.a .z) ?_
 rintro⟨ar,au,rfl,ba,bb,bc⟩
 refine Y.h (WS.a .g1) ?_
 rintro⟨av,aw,rfl,bd,be,bf⟩
 have bx:=cH (i:=k) ac (by omega)
 have bz:=cI (a:=k) ac (by omega)
 have b0:=dC (a:=k) ac (by omega)
 refine Y.ql rfl (aC (j:=Int.toNat k) rfl cE aU (.t .g1) (.t .z) (by omega) (by first | omega |(simp only [bH,bB,bN];omega))) ?_
 refine Y.fa rfl .z gC ?_
 refine Y.es (aD rfl) rfl (gY (j:=Int.toNat k) (off:=1) (cs:= [.int .i64 1]) rfl jQ (.t .z) (gA _ _ _) .c rfl (lZ rfl) .g4 aq (Nat.le_of_ble_eq_true rfl)) ?_
 refine Y.af (x':=List.set ap (Int.toNat k) [.int .i64 aa.kind,.int .i64 1,.int .i64 aa.size,.slice ar aa.blocks.length au,.slice av aa.ents.length aw]) .z rfl ?_
 refine Y.nt (Y.ret (Y.r ?_))
 refine Y.v (c:=aG bD (⟨aa.kind,1,aa.size,aa.blocks,aa.ents⟩:aF) [.int .i64 aa.kind,.int .i64 1,.int .i64 aa.size,.slice ar aa.blocks.length au,.slice av aa.ents.length aw]) (.c .g1 (.c .g1 .n)) (fun w S h=>bF (⟨aa.kind,1,aa.size,aa.blocks,aa.ents⟩:aF) h) ?_
 refine Y.v (c:=aG aP (List.set (eO f.inodes k (y4.links - 1)) (Int.toNat k) (⟨aa.kind,1,aa.size,aa.blocks,aa.ents⟩:aF)) [.slice (some ab) f.inodes.length al]) (.c .g1 (.c .z (.c .z (.c .z .n)))) (dQ (K:=bD) ae (List.getElem?_eq_some_iff.1 ac).1 rfl) ?_
 have a1:List.set (eO f.inodes k (y4.links - 1)) (Int.toNat k) (⟨aa.kind,1,aa.size,aa.blocks,aa.ents⟩:aF)=eO (eO f.inodes k (y4.links - 1)) k 1:=(oF ac (by omega))
 refine Y.ak .z (congrArg (fun z_=>(aG aP (z_) [.slice (some ab) f.inodes.length al]:Asn)) a1) ?_
 have a2:eO (eO f.inodes k (y4.links - 1)) k 1=f.inodes:=(by rw [vV,show(1:Int)=bP f.inodes k by omega];exact xJ)
 refine Y.ak .z (congrArg (fun z_=>(aG aP (z_) [.slice (some ab) f.inodes.length al]:Asn)) a2) ?_
 refine Y.i (sP rfl) (.c .g1 (.c .z (.c .z .n))) ?_
 exact⟨_,_,rfl,by first |(rw [mT (by omega)];done) |(rw [mY (by omega) (by omega),ax];done) |(rw [nP (by omega) (by omega) (by omega)];done) |(rw [kL (by omega) (by omega) (by omega),←oO (f:=f) (k:=k) (n:=y4.links - 1)];done) |(rw [kL (by omega) (by omega) (by omega)];done)⟩
 refine Y.skip (Y.g (Y.region (Y.mv rfl (.s16 (.s16 .g4)) (Y.mv rfl (.s16 (.s16 .g6)) ?_))))
 refine Y.cl rfl rfl Tryz.func207 rfl rfl (aX (.t .g1) (.t .z)) (.c .g1 (.c .z (.c .z .n))) (fun _ _ hs tr=>aLj (f:=(⟨eO f.inodes k (y4.links - 1),f.data⟩:DFs)) _ hs (by first | assumption |(constructor <;> omega)) (by assumption) (by assumption)) ?_
 rintro _ _ ⟨ch,ci,rfl,rfl⟩
 refine Y.m (.c (.c (.c .n))) ?_
 refine Y.af (x':=(sX (⟨eO f.inodes k (y4.links - 1),f.data⟩:DFs) k).inodes) .g1 rfl ?_
 refine Y.h (WS.a .z) ?_
 rintro⟨b1,b2,rfl,bg,bh,bi⟩
 refine Y.af (x':=(sX (⟨eO f.inodes k (y4.links - 1),f.data⟩:DFs) k).data) .g2 rfl ?_
 refine Y.h (WS.a .z) ?_
 rintro⟨b3,b4,rfl,bj,bk,bm⟩
 refine Y.nil ?_
 refine Y.aw (sP rfl) (.c .g2 (.c .g1 (.c .z .n))) ?_
 exact⟨_,_,rfl,by first |(rw [mT (by omega)];done) |(rw [mY (by omega) (by omega),ax];done) |(rw [nP (by omega) (by omega) (by omega)];done) |(rw [kL (by omega) (by omega) (by omega),←oO (f:=f) (k:=k) (n:=y4.links - 1)];done) |(rw [kL (by omega) (by omega) (by omega)];done)⟩

theorem aOd {w0:World}{S0:Bs}{f:DFs}{g0 e0 s0:Nat}{ak:List Value}{al:Value}{am:Value} (a:Int) (s:ByteArray) (bv:s.size≤140737488351232) (hs:cB [cM g0 e0 s0 1 (al :: am :: ak),aG aP f.inodes [al],aG cG f.data [am]] w0 S0) (ht:bX f=0) (hp:bR f.inodes.length a) (hk:¬eI (aB f.inodes a) s<0):
    Calls Tryz.prog 82 #[.pointer (some ⟨g0,0,none⟩),.int .i64 a,.string s] w0 (aJ w0 S0 (yE g0 e0 s0 ak (gQ (bH f a (List.filter (hJ (cA s)) (aB f.inodes a))) (eI (aB f.inodes a) s)))):=by
 obtain⟨bw,bx⟩:=hp
 have hkp:=tD ht hk
 have hq:=aGi (a:=a) (es:=(List.filter (hJ (cA s)) (aB f.inodes a))) ht (List.filter_sublist ..) hkp
 obtain⟨bz,b0⟩:=hq.p
 have hd:=hq.d
 have hb:=hq.b
 have a4:=hq.l
 have hkl:=hq.k
 refine Y.enter (N:=52) Tryz.func82 rfl rfl (by simp) [(0,.pointer (some ⟨g0,0,none⟩)),(1,.int .i64 a),(2,.string s)] (by simp) hs ?_
 refine Y.h (WS.a .g1) ?_
 rintro⟨a5,a6,rfl,a7,a8,a9⟩
 refine Y.h (WS.a .g2) ?_
 rintro⟨ba,bb,rfl,bc,bd,be⟩
 refine Y.seq (Y.region (Y.mv rfl .z (Y.mv rfl .g2 (Y.mv rfl .g4 ?_))))
 refine Y.cl rfl rfl Tryz.func81 rfl rfl (dX (.t .g2) (.t .g1) (.t .z)) .n (fun _ _ hs tr=>aJf (tr.ptrpre .z (aM f (tr.own .g1) (tr.own .g2)) (xB (cs:= [.slice a5 f.inodes.length a6,.slice ba f.data.length bb]) (k:=2) rfl rfl)) _ _ (by first | assumption | omega) (by first | assumption |(constructor <;> omega))) ?_
 rintro _ _ ⟨rfl,rfl⟩
 refine Y.m .n ?_
 refine Y.as rfl .z (Y.nt (Y.seq (Y.region (Y.mv rfl .g5 (Y.mv rfl .g7 (Y.mv rfl .g9 ?_))))))
 refine Y.cl rfl rfl Tryz.func129 rfl rfl (dX (.t .g2) (.t .g1) (.t .z)) (.c .z (.c .z (.c .z .n))) (fun _ _ hs tr=>aMw (f:=f) _ _ (by first | assumption | omega) hs (by first | assumption |(constructor <;> omega))) ?_
 rintro _ _ ⟨v3,v5,rfl,rfl⟩
 refine Y.m (.c (.c (.c .n))) ?_
 refine Y.h (WS.a .g1) ?_
 rintro⟨b1,an,rfl,bf,bg,bh⟩
 refine Y.h (WS.a .g2) ?_
 rintro⟨b2,b3,rfl,bi,bj,bk⟩
 refine Y.nt (Y.seq (Y.region (Y.mv rfl .g9 (Y.nc rfl .z (Y.fa rfl .z aO (Y.ld rfl bK .z .z (Y.mv rfl .g8 ?_)))))))
 refine Y.w (.c .g1 .n) eC ?_
 rintro ap ad
 obtain⟨aa,ab⟩:=aI (xs:=(bH f a (List.filter (hJ (cA s)) (aB (f).inodes a))).inodes) (j:=Int.toNat (eI (aB (f).inodes a) s)) (by first | omega |(simp only [bH,bB,bN];omega))
 obtain⟨b4,ac⟩:=aI (xs:=ap) (j:=Int.toNat (eI (aB (f).inodes a) s)) (by rw [ad];exact(List.getElem?_eq_some_iff.1 ab).1)
 refine Y.an .g1 (cW ab ac) ?_
 refine Y.w (.c .z .n) dR ?_
 rintro⟨b5,b6⟩ rfl
 refine Y.h (WS.a .z) ?_
 rintro⟨ae,af,rfl,aq,ar,au⟩
 refine Y.h (WS.a .g1) ?_
 rintro⟨ag,ah,rfl,av,aw,ax⟩
 have bm:=cH (i:=(eI (aB (f).inodes a) s)) ab (by omega)
 have bn:=cI (a:=(eI (aB (f).inodes a) s)) ab (by omega)
 have ai:=dC (a:=(eI (aB (f).inodes a) s)) ab (by omega)
 refine Y.h (WS.i .g4 (by omega)) ?_
 rintro⟨aj,rfl⟩
 refine Y.ql rfl (aC (j:=Int.toNat (eI (aB (f).inodes a) s)) rfl cE aU (.t .g1) (.t .z) (by omega) (by first | omega |(simp only [bH,bB,bN];omega))) ?_
 refine Y.as rfl .z (Y.nt (Y.block (Y.seq (Y.region (Y.mv rfl .z (Y.nc rfl .z (Y.fa rfl .z cV ?_)))))))
 refine Y.ql rfl (aL rfl cF (.t .z) (WS.h .g4 ac rfl)) (Y.ql rfl (cU rfl (.t .z) .c) (Y.as rfl .z (Y.nt ?_)))
 refine Y.ad (.t .z) (fun bo=> ?_) (fun bo=> ?_)
 refine Y.skip (Y.ac ?_)
 refine Y.v (c:=aG bD aa [.int .i64 aa.kind,.int .i64 aa.links,.int .i64 aa.size,.slice ae aa.blocks.length af,.slice ag aa.ents.length ah]) (.c .z (.c .z .n)) (fun w S h=>bF aa h) ?_
 refine Y.v (c:=aG aP ((bH f a (List.filter (hJ (cA s)) (aB (f).inodes a))).inodes) [.slice (some aj) ((bH f a (List.filter (hJ (cA s)) (aB (f).inodes a))).inodes).length an]) (.c .g3 (.c .z (.c .z (.c .z .n)))) (bU (K:=bD) ad ab ac) ?_
 refine Y.aw (sP rfl) (.c .g1 (.c .z (.c .z .n))) ?_
 exact⟨_,_,rfl,by first |(rw [mT (by omega)];done) |(rw [mY (by omega) (by omega),ai];done) |(rw [nP (by omega) (by omega) (by omega)];done) |(rw [kL (by omega) (by omega) (by omega)];done)⟩
 refine Y.seq (Y.region (Y.mv rfl .g6 (Y.nc rfl .z (Y.fa rfl .z gC (Y.ql rfl (aL rfl cF (.t .z) (WS.h .g4 ac rfl)) (Y.ql rfl (gO rfl (.t .z) .c) (Y.as rfl .z (Y.nil ?_))))))))
 refine Y.g ?_
 refine Y.u (.t .z) (fun bp=> ?_) (fun bp=> ?_)
 refine Y.region (Y.mv rfl .g12 (Y.nc rfl .z (Y.fa rfl .z gC (Y.ql rfl (aL rfl cF (.t .z) (WS.h .g4 ac rfl)) ?_))))
 refine Y.ql rfl (jL (c:=aa.links - 1) rfl (.t .z) .c (wr (by omega) (by omega) (by omega))) ?_
 refine Y.nc rfl .g4 (Y.fa rfl .z gC ?_)
 refine Y.es (aD rfl) rfl (gY (j:=Int.toNat (eI (aB (f).inodes a) s)) (off:=1) (cs:= [.int .i64 (aa.links - 1)]) rfl jQ (.t .z) (gA _ _ _) (.t .g2) rfl (lZ rfl) .g4 ac (Nat.le_of_ble_eq_true rfl)) ?_
 refine Y.af (x':=List.set ap (Int.toNat (eI (aB (f).inodes a) s)) [.int .i64 aa.kind,.int .i64 (aa.links - 1),.int .i64 aa.size,.slice ae aa.blocks.length af,.slice ag aa.ents.length ah]) .z rfl ?_
 refine Y.nil (Y.ac ?_)
 refine Y.v (c:=aG bD (⟨aa.kind,aa.links - 1,aa.size,aa.blocks,aa.ents⟩:aF) [.int .i64 aa.kind,.int .i64 (aa.links - 1),.int .i64 aa.size,.slice ae aa.blocks.length af,.slice ag aa.ents.length ah]) (.c .g1 (.c .g1 .n)) (fun w S h=>bF (⟨aa.kind,aa.links - 1,aa.size,aa.blocks,aa.ents⟩:aF) h) ?_
 refine Y.v (c:=aG aP (List.set ((bH f a (List.filter (hJ (cA s)) (aB (f).inodes a))).inodes) (Int.toNat (eI (aB (f).inodes a) s)) (⟨aa.kind,aa.links - 1,aa.size,aa.blocks,aa.ents⟩:aF)) [.slice (some aj) ((bH f a (List.filter (hJ (cA s)) (aB (f).inodes a))).inodes).length an]) (.c .g1 (.c .z (.c .z (.c .z .n)))) (dQ (K:=bD) ad (List.getElem?_eq_some_iff.1 ab).1 rfl) ?_
 have ao:List.set ((bH f a (List.filter (hJ (cA s)) (aB (f).inodes a))).inodes) (Int.toNat (eI (aB (f).inodes a) s)) (⟨aa.kind,aa.links - 1,aa.size,aa.blocks,aa.ents⟩:aF)=eO ((bH f a (List.filter (hJ (cA s)) (aB (f).inodes a))).inodes) (eI (aB (f).inodes a) s) (aa.links - 1):=(oF ab (by omega))
 refine Y.ak .z (congrArg (fun z_=>(aG aP (z_) [.slice (some aj) ((bH f a (List.filter (hJ (cA s)) (aB (f).inodes a))).inodes).length an]:Asn)) ao) ?_
 refine Y.aw (sP rfl) (.c .g1 (.c .z (.c .z .n))) ?_
 exact⟨_,_,rfl,by first |(rw [mT (by omega)];done) |(rw [mY (by omega) (by omega),ai];done) |(rw [nP (by omega) (by omega) (by omega)];done) |(rw [kL (by omega) (by omega) (by omega)];done)⟩
 refine Y.seq (Y.region (Y.mv rfl (.s16 .g12) (Y.nc rfl .z (Y.fa rfl .z aO (Y.ld rfl bK .z .g5 (Y.mv rfl (.s16 .g11) ?_))))))
 refine Y.v (c:=aG bD aa [.int .i64 aa.kind,.int .i64 aa.links,.int .i64 aa.size,.slice ae aa.blocks.length af,.slice ag aa.ents.length ah]) (.c .z (.c .z .n)) (fun w S h=>bF aa h) ?_
 refine Y.v (c:=aG aP ((bH f a (List.filter (hJ (cA s)) (aB (f).inodes a))).inodes) [.slice (some aj) ((bH f a (List.filter (hJ (cA s)) (aB (f).inodes a))).inodes).length an]) (.c .g3 (.c .z (.c .z (.c .z .n)))) (bU (K:=bD) ad ab ac) ?_
 refine Y.cl rfl rfl Tryz.func86 rfl rfl (aX (.t .g1) (.t .z)) .n (fun _ _ hs tr=>aMx (tr.own .z) _ (by first | assumption | exact pH (by assumption) _ |(simp only [bH] at *;assumption))) ?_
 rintro _ _ ⟨rfl,rfl⟩
 refine Y.m .n ?_
 refine Y.ql rfl (bZ rfl (.t .z) .c) (Y.as rfl .z (Y.nt ?_))
 refine Y.u (.t .z) (fun bq=> ?_) (fun bq=> ?_)
 refine Y.region (Y.mv rfl (.s16 (.s16 .g4)) (Y.mv rfl (.s16 .g16) ?_))
 refine Y.cl rfl rfl Tryz.func73 rfl rfl (aX (.t .g1) (.t .z)) (.c .g1 (.c .z (.c .z .n))) (fun _ _ hs tr=>aN7 (f:=(bH f a (List.filter (hJ (cA s)) (aB (f).inodes a)))) _ hs (by first | assumption |(constructor <;> omega)) (by assumption) (by assumption)) ?_
 rintro _ _ ⟨b7,b8,rfl,rfl⟩
 refine Y.m (.c (.c (.c .n))) ?_
 refine Y.h (WS.a .g1) ?_
 rintro⟨br,bs,rfl,ay,az,a0⟩
 refine Y.h (WS.a .g2) ?_
 rintro⟨bt,bu,rfl,a1,a2,a3⟩
 refine Y.nil (Y.ac ?_)
 refine Y.aw (sP rfl) (.c .z (.c .z (.c .z .n))) ?_
 exact⟨_,_,rfl,by first |(rw [mT (by omega)];done) |(rw [mY (by omega) (by omega),ai];done) |(rw [nP (by omega) (by omega) (by omega)];done) |(rw [kL (by omega) (by omega) (by omega)];done)⟩
 refine Y.skip (Y.ac ?_)
 refine Y.aw (sP rfl) (.c .g1 (.c .z (.c .z .n))) ?_
 exact⟨_,_,rfl,by first |(rw [mT (by omega)];done) |(rw [mY (by omega) (by omega),ai];done) |(rw [nP (by omega) (by omega) (by omega)];done) |(rw [kL (by omega) (by omega) (by omega)];done)⟩

theorem aNp {w0:World}{S0:Bs}{f:DFs}{am:List Value} (h0:eU.ro w0 (FF w0 S0) f am) (a:Int) (s:ByteArray) (bj:s.size≤140737488351232):
    Calls Tryz.prog 36 #[.agg am.toArray,.int .i64 a,.string s] w0 (aJ w0 S0 (vY (jJ f a s))):=by
 obtain⟨a9,ba,rfl,aa,ab⟩:=cY h0
 obtain⟨ac,ad,rfl,an,ao,ap,aq⟩:=aH aa
 obtain⟨ae,af,rfl,ar,au,av,aw⟩:=aH ab
 refine Y.enter (N:=29) Tryz.func36 rfl rfl (by simp) [(0,.agg #[.slice ac f.inodes.length ad,.slice ae f.data.length af]),(1,.int .i64 a),(2,.string s)] (by simp) (l0:= []) trivial ?_
 refine Y.seq (Y.region ?_)
 refine Y.el rfl (fT (cs:= [.slice ac f.inodes.length ad,.slice ae f.data.length af]) (n:=2) rfl (.t .z) rfl rfl) ?_
 rintro _ _ ⟨g3,rfl,rfl⟩
 refine Y.el rfl (bL rfl xC rfl rfl) ?_
 rintro _ _ ⟨g4,rfl,rfl⟩
 refine Y.nt (Y.seq (Y.seq (Y.region (Y.ql rfl (qW rfl bI (.t .g1) .g1 aW) (Y.mv rfl .g4 (Y.mv rfl .g6 ?_))))))
 refine Y.cl rfl rfl Tryz.func75 rfl rfl (dX (.t .g2) (.t .g1) (.t .z)) .n (fun _ _ hs tr=>aKo (aM f (tr.ctx aa) (tr.ctx ab)) _ _ (by first | assumption | omega)) ?_
 rintro _ _ ⟨rfl,rfl⟩
 refine Y.m .n ?_
 refine Y.as rfl .z (Y.nt (Y.seq (Y.region (Y.mv rfl .z (Y.ql rfl (cU rfl (.t .z) .c) (Y.nt ?_))))))
 refine Y.ad (.t .z) (fun b5=> ?_) (fun b5=> ?_)
 refine Y.seq (Y.region (Y.mv rfl .g2 (Y.ql rfl (aZ (cs:= [.int .i64 (eE f a s),.slice none 0 0,.slice none 0 0]) rfl kW (pv1 (.t .z)) rfl) ?_)))
 refine Y.es (aD rfl) rfl (esW rfl (.t .g9) (.t .z) .z fC rfl rfl) ?_
 refine Y.nt (Y.ret (Y.r ?_))
 refine Y.add (c:=aG aP [] [.slice none 0 0]) (fun w S=>aN w S none) ?_
 refine Y.add (c:=aG cG [] [.slice none 0 0]) (fun w S=>aN w S none) ?_
 refine Y.i (dD rfl .g9 kE .g2 fC) (.c .g1 (.c .z .n)) ?_
 first |(rw [rN (by assumption)];exact⟨_,_,rfl,rfl⟩) |(rw [rR (by assumption) (by assumption)];exact⟨_,_,rfl,rfl⟩) |(rw [oY (by assumption) (by assumption)];exact⟨_,_,rfl,rfl⟩)
 have ah:=tM b5
 have ag:=qT ah
 have bb:=iY ag.1
 obtain⟨bc,bd⟩:=ag.2.1
 have ht:=(qT (tM b5)).1
 refine Y.skip (Y.g (Y.seq (Y.region (Y.ql rfl (qW rfl bI (.t .g8) .g1 aW) ?_))))
 refine Y.cl rfl rfl Tryz.func63 rfl rfl (bT (.t .z)) .n (fun _ _ hs tr=>aMf (aM f (tr.ctx aa) (tr.ctx ab))) ?_
 rintro _ _ ⟨v9,bk,rfl,rfl⟩
 refine Y.m (.c (.c .n)) ?_
 refine Y.h (WS.a .z) ?_
 rintro⟨be,bf,rfl,ax,ay,az⟩
 refine Y.h (WS.a .g1) ?_
 rintro⟨bg,bh,rfl,a0,a1,a2⟩
 refine Y.el rfl (bL rfl nF rfl rfl) ?_
 rintro _ _ ⟨g15,rfl,rfl⟩
 refine Y.es (aD rfl) rfl (esW rfl (.t .z) (.t .g1) .z aW rfl rfl) ?_
 refine Y.nt (Y.seq (Y.seq (Y.region (Y.mv rfl .g13 (Y.mv rfl .g15 ?_)))))
 refine Y.cl rfl rfl Tryz.func81 rfl rfl (dX (.t .g2) (.t .g1) (.t .z)) .n (fun _ _ hs tr=>aJf (tr.ptr .z (aM f (tr.own .g1) (tr.own .g2))) _ _ (by first | assumption | omega) (by first | assumption |(constructor <;> omega))) ?_
 rintro _ _ ⟨rfl,rfl⟩
 refine Y.m .n ?_
 refine Y.ql rfl (dJ rfl (.t .z) .c) (Y.nt ?_)
 refine Y.u (.t .z) (fun bi=> ?_) (fun bi=> ?_)
 refine Y.seq (Y.region (Y.ql rfl (aZ (cs:= [.int .i64 4,.slice none 0 0,.slice none 0 0]) rfl kW (pv1 .c) rfl) ?_))
 refine Y.es (aD rfl) rfl (esW rfl (.t .g15) (.t .z) .g3 fC rfl rfl) ?_
 refine Y.nt (Y.ret (Y.r ?_))
 refine Y.add (c:=aG aP [] [.slice none 0 0]) (fun w S=>aN w S none) ?_
 refine Y.add (c:=aG cG [] [.slice none 0 0]) (fun w S=>aN w S none) ?_
 refine Y.i (dD rfl .g15 kE .g2 fC) (.c .g1 (.c .z .n)) ?_
 first |(rw [rN (by assumption)];exact⟨_,_,rfl,rfl⟩) |(rw [rR (by assumption) (by assumption)];exact⟨_,_,rfl,rfl⟩) |(rw [oY (by assumption) (by assumption)];exact⟨_,_,rfl,rfl⟩)
 refine Y.skip (Y.g (Y.seq (Y.region (Y.mv rfl (.s16 .g1) (Y.mv rfl (.s16 .g3) ?_)))))
 refine Y.cl rfl rfl Tryz.func82 rfl rfl (dX (.t .g6) (.t .g1) (.t .z)) (.c .z (.c .z (.c .z .n))) (fun _ _ hs tr=>aOd (f:=f) _ _ (by first | assumption | omega) hs (by assumption) (by first | assumption |(constructor <;> omega)) (by assumption)) ?_
 rintro _ _ ⟨bm,bn,rfl,rfl⟩
 refine Y.m (.c (.c (.c .n))) ?_
 refine Y.h (WS.a .g1) ?_
 rintro⟨ai,aj,rfl,a3,a4,a5⟩
 refine Y.h (WS.a .g2) ?_
 rintro⟨ak,al,rfl,a6,a7,a8⟩
 refine Y.nt (Y.seq (Y.region (Y.ql rfl (qW rfl bI (.t .g7) .z aW) (Y.ql rfl (aZ (cs:= [.int .i64 0,.slice ai ((gQ (bH f a (List.filter (hJ (cA s)) (aB (f).inodes a))) (eI (aB (f).inodes a) s)).inodes).length aj,.slice ak ((gQ (bH f a (List.filter (hJ (cA s)) (aB (f).inodes a))) (eI (aB (f).inodes a) s)).data).length al]) rfl kW (pv1 (.t .z)) rfl) ?_))))
 refine Y.es (aD rfl) rfl (esW rfl (.t (.s16 .g3)) (.t .z) .g3 fC rfl rfl) ?_
 refine Y.nt (Y.ret ?_)
 refine Y.i (dD rfl (.s16 .g3) kE .z fC) (.c .g2 (.c .g2 .n)) ?_
 first |(rw [rN (by assumption)];exact⟨_,_,rfl,rfl⟩) |(rw [rR (by assumption) (by assumption)];exact⟨_,_,rfl,rfl⟩) |(rw [oY (by assumption) (by assumption)];exact⟨_,_,rfl,rfl⟩)

end Go.Proofs.YtmejbfmhaoilmaaGreat

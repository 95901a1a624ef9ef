/- What is proved: contracts of functions, one a function. No condition. -/
import Derived.Test.YtmejbfmhaoilmaaGreatDoorBase1
import Derived.Test.YtmejbfmhaoilmaaGreatDoorPart4
import Derived.Test.YtmejbfmhaoilmaaGreatDoorPart1
namespace Go.Proofs.YtmejbfmhaoilmaaGreatDoor
open Go Go.RowKit
set_option linter.unusedVariables false
set_option linter.unusedSimpArgs false
set_option maxHeartbeats 1000000
set_option maxRecDepth 20000
theorem aLy {w0:World}{S0:Bs}{f:DFs}{g0 e0 s0:Nat}{ak:List Value}{an:Value}{ao:Value} (k:Int) (hs:cI [bV g0 e0 s0 1 (an :: ao :: ak),aH bJ f.inodes [an],aH eH f.data [ao]] w0 S0) (hq:wQ f k):
    Calls Tryz.prog 139 #[.pointer (some ⟨g0,0,none⟩),.int .i64 k] w0 (aI w0 S0 (aHp g0 e0 s0 ak (gY f k))):=by
 obtain⟨b5,b6⟩:=hq.p
 have hd:=hq.d
 have hb:=hq.b
 have ay:=hq.l
 have hkl:=hq.k
 refine Y.enter (N:=50) Tryz.func139 rfl rfl (by simp) [(0,.pointer (some ⟨g0,0,none⟩)),(1,.int .i64 k)] (by simp) hs ?_
 refine Y.h (WS.a .g1) ?_
 rintro⟨b7,al,rfl,bn,bo,bp⟩
 refine Y.h (WS.a .g2) ?_
 rintro⟨b8,b9,rfl,bq,br,bs⟩
 refine Y.seq (Y.seq (Y.region (Y.mv rfl .z (Y.nc rfl .z (Y.fa rfl .z aP (Y.ld rfl bR .z .z (Y.mv rfl .g5 ?_)))))))
 refine Y.aa (.c .g1 .n) fP ?_
 rintro a3 ad
 obtain⟨y4,af⟩:=aK (xs:=f.inodes) (j:=Int.toNat k) (by first | omega |(simp only [dG,dF,dT];omega))
 obtain⟨c5,am⟩:=aK (xs:=a3) (j:=Int.toNat k) (by rw [ad];exact(List.getElem?_eq_some_iff.1 af).1)
 refine Y.au .g1 (eJ af am) ?_
 refine Y.aa (.c .z .n) fC ?_
 rintro⟨v6,v7⟩ rfl
 refine Y.h (WS.a .z) ?_
 rintro⟨ag,ah,rfl,a4,a5,a6⟩
 refine Y.h (WS.a .g1) ?_
 rintro⟨ai,aj,rfl,a7,a8,a9⟩
 have ca:=cO (i:=k) af (by omega)
 have cb:=cP (a:=k) af (by omega)
 have ax:=dL (a:=k) af (by omega)
 refine Y.h (WS.h .g4 (by omega)) ?_
 rintro⟨ab,rfl⟩
 refine Y.ql rfl (aB (j:=Int.toNat k) rfl cQ aT (.t .g1) (.t .z) (by omega) (by first | omega |(simp only [dG,dF,dT];omega))) ?_
 refine Y.fa rfl .z bS (Y.ql rfl (aM rfl bP (.t .z) (WS.j .g4 am rfl)) (Y.ql rfl (bW rfl (.t .z) .c) (Y.nt ?_)))
 refine Y.ac (.t .z) (fun bt=> ?_) (fun bt=> ?_)
 refine Y.ret (Y.j ?_)
 refine Y.ad (c:=aH cR y4 [.int .i64 y4.kind,.int .i64 y4.links,.int .i64 y4.size,.slice ag y4.blocks.length ah,.slice ai y4.ents.length aj]) (.c .z (.c .z .n)) (fun w S h=>cZ y4 h) ?_
 refine Y.ad (c:=aH bJ f.inodes [.slice (some ab) f.inodes.length al]) (.c .g3 (.c .z (.c .z (.c .z .n)))) (eM (K:=cR) ad af am) ?_
 refine Y.i (aDi rfl) (.c .g1 (.c .z (.c .z .n))) ?_
 exact⟨_,_,rfl,by first |(rw [uG (by omega)];done) |(rw [uL (by omega) (by omega),ax];done) |(rw [uV (by omega) (by omega) (by omega)];done) |(rw [nK (by omega) (by omega) (by omega),←oH (f:=f) (k:=k) (n:=y4.links - 1)];done) |(rw [nK (by omega) (by omega) (by omega)];done)⟩
 refine Y.skip (Y.g (Y.seq (Y.region (Y.mv rfl .g9 (Y.nc rfl .z (Y.fa rfl .z aP (Y.ld rfl bR .z .g5 (Y.mv rfl .g14 ?_))))))))
 refine Y.ql rfl (aB (j:=Int.toNat k) rfl cQ aT (.t .g1) (.t .z) (by omega) (by first | omega |(simp only [dG,dF,dT];omega))) ?_
 refine Y.fa rfl .z iZ (Y.ql rfl (aM rfl bP (.t .z) (WS.j .g4 am rfl)) ?_)
 refine Y.ql rfl (iT (c:=y4.links - 1) rfl (.t .z) .c (wr (by omega) (by omega) (by omega))) ?_
 refine Y.ql rfl (aB (j:=Int.toNat k) rfl cQ aT (.t .g5) (.t .g4) (by omega) (by first | omega |(simp only [dG,dF,dT];omega))) ?_
 refine Y.fa rfl .z iZ ?_
 refine Y.es (aE rfl) rfl (kU (j:=Int.toNat k) (off:=1) (cs:= [.int .i64 (y4.links - 1)]) rfl jO (.t .z) (jA _ _ _) (.t .g2) rfl (pX rfl) .g4 am (Nat.le_of_ble_eq_true rfl)) ?_
 refine Y.ah (x':=List.set a3 (Int.toNat k) [.int .i64 y4.kind,.int .i64 (y4.links - 1),.int .i64 y4.size,.slice ag y4.blocks.length ah,.slice ai y4.ents.length aj]) .z rfl ?_
 refine Y.nt (Y.seq (Y.seq (Y.region (Y.mv rfl (.s16 .g4) (Y.nc rfl .z (Y.fa rfl .z aP (Y.ld rfl bR .z .g5 ?_)))))))
 refine Y.mv rfl (.s16 .g9) ?_
 refine Y.ql rfl (aB (j:=Int.toNat k) rfl cQ aT (.t .g1) (.t .z) (by omega) (by first | omega |(simp only [dG,dF,dT];omega))) ?_
 refine Y.fa rfl .z iZ (Y.ql rfl (aM rfl bP (.t .z) (WS.j .z (tE am) rfl)) (Y.ql rfl (fI rfl (.t .z) .c) (Y.nt ?_)))
 refine Y.u (.t .z) (fun bu=> ?_) (fun bu=> ?_)
 refine Y.ret (Y.j ?_)
 refine Y.ad (c:=aH cR (⟨y4.kind,y4.links - 1,y4.size,y4.blocks,y4.ents⟩:aF) [.int .i64 y4.kind,.int .i64 (y4.links - 1),.int .i64 y4.size,.slice ag y4.blocks.length ah,.slice ai y4.ents.length aj]) (.c .g1 (.c .g1 .n)) (fun w S h=>cZ (⟨y4.kind,y4.links - 1,y4.size,y4.blocks,y4.ents⟩:aF) h) ?_
 refine Y.ad (c:=aH bJ (List.set f.inodes (Int.toNat k) (⟨y4.kind,y4.links - 1,y4.size,y4.blocks,y4.ents⟩:aF)) [.slice (some ab) f.inodes.length al]) (.c .g1 (.c .z (.c .z (.c .z .n)))) (eU (K:=cR) ad (List.getElem?_eq_some_iff.1 af).1 rfl) ?_
 have az:List.set f.inodes (Int.toNat k) (⟨y4.kind,y4.links - 1,y4.size,y4.blocks,y4.ents⟩:aF)=fL f.inodes k (y4.links - 1):=(uQ af (by omega))
 refine Y.ak .z (congrArg (fun z_=>(aH bJ (z_) [.slice (some ab) f.inodes.length al]:Asn)) az) ?_
 refine Y.i (aDi rfl) (.c .g1 (.c .z (.c .z .n))) ?_
 exact⟨_,_,rfl,by first |(rw [uG (by omega)];done) |(rw [uL (by omega) (by omega),ax];done) |(rw [uV (by omega) (by omega) (by omega)];done) |(rw [nK (by omega) (by omega) (by omega),←oH (f:=f) (k:=k) (n:=y4.links - 1)];done) |(rw [nK (by omega) (by omega) (by omega)];done)⟩
 refine Y.skip (Y.g (Y.seq (Y.seq (Y.region (Y.mv rfl (.s16 .g13) (Y.nc rfl .z (Y.fa rfl .z aP (Y.ld rfl bR .z .g5 ?_))))))))
 refine Y.mv rfl (.s16 (.s16 .g2)) ?_
 refine Y.ad (c:=aH cR (⟨y4.kind,y4.links - 1,y4.size,y4.blocks,y4.ents⟩:aF) [.int .i64 y4.kind,.int .i64 (y4.links - 1),.int .i64 y4.size,.slice ag y4.blocks.length ah,.slice ai y4.ents.length aj]) (.c .g1 (.c .g1 .n)) (fun w S h=>cZ (⟨y4.kind,y4.links - 1,y4.size,y4.blocks,y4.ents⟩:aF) h) ?_
 refine Y.ad (c:=aH bJ (List.set f.inodes (Int.toNat k) (⟨y4.kind,y4.links - 1,y4.size,y4.blocks,y4.ents⟩:aF)) [.slice (some ab) f.inodes.length al]) (.c .g1 (.c .z (.c .z (.c .z .n)))) (eU (K:=cR) ad (List.getElem?_eq_some_iff.1 af).1 rfl) ?_
 have a0:List.set f.inodes (Int.toNat k) (⟨y4.kind,y4.links - 1,y4.size,y4.blocks,y4.ents⟩:aF)=fL f.inodes k (y4.links - 1):=(uQ af (by omega))
 refine Y.ak .z (congrArg (fun z_=>(aH bJ (z_) [.slice (some ab) f.inodes.length al]:Asn)) a0) ?_
 have bv:=(aBs (xs:=f.inodes) (a:=k) (k:=k) (n:=y4.links - 1)).symm ▸ ay
 have hWP:=aFu (n:=y4.links - 1) hq
 have hWo:=aBs (xs:=f.inodes) (a:=k) (k:=k) (n:=y4.links - 1)
 have cc:=hWP.1
 have cd:=hWP.2
 refine Y.cl rfl rfl Tryz.func72 rfl rfl (aS (.t .g1) (.t .z)) .n (fun _ _ hs tr=>aMc (tr.own .z) _ (by first | assumption | exact xN (by assumption) _ |(simp only [dG] at *;assumption))) ?_
 rintro _ _ ⟨rfl,rfl⟩
 refine Y.m .n ?_
 refine Y.ql rfl (fI rfl (.t .z) .c) (Y.nt ?_)
 refine Y.u (.t .z) (fun bw=> ?_) (fun bw=> ?_)
 refine Y.seq (Y.region (Y.mv rfl (.s16 (.s16 .g4)) (Y.nc rfl .z (Y.fa rfl .z aP (Y.ld rfl bR .z .g1 (Y.mv rfl (.s16 (.s16 .g9)) ?_))))))
 refine Y.aa (.c .z .n) fP ?_
 rintro ap ae
 obtain⟨aa,ac⟩:=aK (xs:=fL f.inodes k (y4.links - 1)) (j:=Int.toNat k) (by first | omega |(simp only [dG,dF,dT];omega))
 obtain⟨ce,aq⟩:=aK (xs:=ap) (j:=Int.toNat k) (by rw [ae];exact(List.getElem?_eq_some_iff.1 ac).1)
 refine Y.au .g1 (eJ ac aq) ?_
 refine Y.aa (.c .z .n) fC ?_
 rintro⟨cf,cg⟩ rfl
 refine Y.h (WS.a .z) ?_
 rintro⟨ar,au,rfl,ba,bb,bc⟩
 refine Y.h (WS.a .g1) ?_
 rintro⟨av,aw,rfl,bd,be,bf⟩
 have bx:=cO (i:=k) ac (by omega)
 have bz:=cP (a:=k) ac (by omega)
 have b0:=dL (a:=k) ac (by omega)
 refine Y.ql rfl (aB (j:=Int.toNat k) rfl cQ aT (.t .g1) (.t .z) (by omega) (by first | omega |(simp only [dG,dF,dT];omega))) ?_
 refine Y.fa rfl .z iZ ?_
 refine Y.es (aE rfl) rfl (kU (j:=Int.toNat k) (off:=1) (cs:= [.int .i64 1]) rfl jO (.t .z) (jA _ _ _) .c rfl (pX rfl) .g4 aq (Nat.le_of_ble_eq_true rfl)) ?_
 refine Y.ah (x':=List.set ap (Int.toNat k) [.int .i64 aa.kind,.int .i64 1,.int .i64 aa.size,.slice ar aa.blocks.length au,.slice av aa.ents.length aw]) .z rfl ?_
 refine Y.nt (Y.ret (Y.j ?_))
 refine Y.ad (c:=aH cR (⟨aa.kind,1,aa.size,aa.blocks,aa.ents⟩:aF) [.int .i64 aa.kind,.int .i64 1,.int .i64 aa.size,.slice ar aa.blocks.length au,.slice av aa.ents.length aw]) (.c .g1 (.c .g1 .n)) (fun w S h=>cZ (⟨aa.kind,1,aa.size,aa.blocks,aa.ents⟩:aF) h) ?_
 refine Y.ad (c:=aH bJ (List.set (fL f.inodes k (y4.links - 1)) (Int.toNat k) (⟨aa.kind,1,aa.size,aa.blocks,aa.ents⟩:aF)) [.slice (some ab) f.inodes.length al]) (.c .g1 (.c .z (.c .z (.c .z .n)))) (eU (K:=cR) ae (List.getElem?_eq_some_iff.1 ac).1 rfl) ?_
 have a1:List.set (fL f.inodes k (y4.links - 1)) (Int.toNat k) (⟨aa.kind,1,aa.size,aa.blocks,aa.ents⟩:aF)=fL (fL f.inodes k (y4.links - 1)) k 1:=(uQ ac (by omega))
 refine Y.ak .z (congrArg (fun z_=>(aH bJ (z_) [.slice (some ab) f.inodes.length al]:Asn)) a1) ?_
 have a2:fL (fL f.inodes k (y4.links - 1)) k 1=f.inodes:=(by rw [aCh,show(1:Int)=dJ f.inodes k by omega];exact aD4)
 refine Y.ak .z (congrArg (fun z_=>(aH bJ (z_) [.slice (some ab) f.inodes.length al]:Asn)) a2) ?_
 refine Y.i (aDi rfl) (.c .g1 (.c .z (.c .z .n))) ?_
 exact⟨_,_,rfl,by first |(rw [uG (by omega)];done) |(rw [uL (by omega) (by omega),ax];done) |(rw [uV (by omega) (by omega) (by omega)];done) |(rw [nK (by omega) (by omega) (by omega),←oH (f:=f) (k:=k) (n:=y4.links - 1)];done) |(rw [nK (by omega) (by omega) (by omega)];done)⟩
 refine Y.skip (Y.g (Y.region (Y.mv rfl (.s16 (.s16 .g4)) (Y.mv rfl (.s16 (.s16 .g6)) ?_))))
 refine Y.cl rfl rfl Tryz.func167 rfl rfl (aS (.t .g1) (.t .z)) (.c .g1 (.c .z (.c .z .n))) (fun _ _ hs tr=>aM9 (f:=(⟨fL f.inodes k (y4.links - 1),f.data⟩:DFs)) _ hs (by first | assumption |(constructor <;> omega)) (by assumption) (by assumption)) ?_
 rintro _ _ ⟨ch,ci,rfl,rfl⟩
 refine Y.m (.c (.c (.c .n))) ?_
 refine Y.ah (x':=(uF (⟨fL f.inodes k (y4.links - 1),f.data⟩:DFs) k).inodes) .g1 rfl ?_
 refine Y.h (WS.a .z) ?_
 rintro⟨b1,b2,rfl,bg,bh,bi⟩
 refine Y.ah (x':=(uF (⟨fL f.inodes k (y4.links - 1),f.data⟩:DFs) k).data) .g2 rfl ?_
 refine Y.h (WS.a .z) ?_
 rintro⟨b3,b4,rfl,bj,bk,bm⟩
 refine Y.nil ?_
 refine Y.ax (aDi rfl) (.c .g2 (.c .g1 (.c .z .n))) ?_
 exact⟨_,_,rfl,by first |(rw [uG (by omega)];done) |(rw [uL (by omega) (by omega),ax];done) |(rw [uV (by omega) (by omega) (by omega)];done) |(rw [nK (by omega) (by omega) (by omega),←oH (f:=f) (k:=k) (n:=y4.links - 1)];done) |(rw [nK (by omega) (by omega) (by omega)];done)⟩

end Go.Proofs.YtmejbfmhaoilmaaGreatDoor

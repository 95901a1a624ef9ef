/- What is proved: contracts of functions, one a function. No condition. -/
import Derived.Test.YtmejbfmhaoilmaaGreatDoorBase1
import Derived.Test.YtmejbfmhaoilmaaGreatDoorPart1
import Derived.Test.YtmejbfmhaoilmaaGreatDoorW31
namespace Go.Proofs.YtmejbfmhaoilmaaGreatDoor
open Go Go.RowKit
set_option linter.unusedVariables false
set_option linter.unusedSimpArgs false
set_option maxHeartbeats 1000000
set_option maxRecDepth 20000
theorem aNb {w0:World}{S0:Bs}{f:DFs}{a3:List Value} (h0:dV.ro w0 (FF w0 S0) f a3) (a:Int) (i:Int) {L:(List UInt8)}{v3:Value} (h3:dD.ro w0 (FF w0 S0) L [v3]) {b:(List Int)}{v4:Value} (h4:bK.ro w0 (FF w0 S0) b [v4]):
    Calls Tryz.prog 108 #[.agg a3.toArray,.int .i64 a,.int .i64 i,v3,v4] w0 (aI w0 S0 (aC7 (gT f a i L b))):=by
 obtain⟨bx,bz,rfl,ad,ae⟩:=bZ h0
 obtain⟨ag,ah,rfl,a4,a5,a6,a7⟩:=aD ad
 obtain⟨ai,aj,rfl,a8,a9,ba,bb⟩:=aD ae
 obtain⟨A3,c3,rfl,ce,cf,cg,b0⟩:=aD h3
 obtain⟨A4,c4,rfl,ch,ci,cj,ck⟩:=aD h4
 refine Y.enter (N:=69) Tryz.func108 rfl rfl (by simp) [(0,.agg #[.slice ag f.inodes.length ah,.slice ai f.data.length aj]),(1,.int .i64 a),(2,.int .i64 i),(3,.slice A3 L.length c3),(4,.slice A4 b.length c4)] (by simp) (l0:= []) trivial ?_
 refine Y.seq (Y.region ?_)
 refine Y.el rfl (fQ (cs:= [.slice ag f.inodes.length ah,.slice ai f.data.length aj]) (n:=2) rfl (.t .z) rfl rfl) ?_
 rintro _ _ ⟨g5,rfl,rfl⟩
 refine Y.el rfl (bB rfl aEn rfl rfl) ?_
 rintro _ _ ⟨g6,rfl,rfl⟩
 refine Y.nt (Y.seq (Y.seq (Y.region (Y.mv rfl .g3 (Y.mv rfl .g7 ?_)))))
 refine Y.cl rfl rfl Tryz.func136 rfl rfl (eL (.t .g3) (.t .g1) (.t .z)) .n (fun _ _ hs tr=>aJ4 (tr.ptr .g1 (aJ f (tr.ctx ad) (tr.ctx ae))) _ (tr.ctx h4)) ?_
 rintro _ _ ⟨rfl,rfl⟩
 refine Y.m .n ?_
 refine Y.as rfl .z (Y.nt (Y.seq (Y.region (Y.mv rfl .z (Y.ql rfl (bW rfl (.t .z) .c) (Y.nt ?_))))))
 refine Y.ac (.t .z) (fun b7=> ?_) (fun b7=> ?_)
 have aq:¬jW f a b=0:=b7
 refine Y.seq (Y.region (Y.mv rfl .g2 (Y.ql rfl (aW (cs:= [.int .i64 (jW f a b),.slice none 0 0,.slice none 0 0]) rfl oQ (pv1 (.t .z)) rfl) ?_)))
 refine Y.es (aE rfl) rfl (esW rfl (.t .g8) (.t .z) .z gN rfl rfl) ?_
 refine Y.nt (Y.ret (Y.j ?_))
 refine Y.add (c:=aH bJ [] [.slice none 0 0]) (fun w S=>aL w S none) ?_
 refine Y.add (c:=aH eH [] [.slice none 0 0]) (fun w S=>aL w S none) ?_
 refine Y.i (cU rfl .g8 nO .g2 gN) (.c .g1 (.c .z .n)) ?_
 first |(rw [rJ aq];exact⟨_,_,rfl,rfl⟩) |(rw [qQ ac (by omega)];exact⟨_,_,rfl,rfl⟩) |(rw [rK ac (by omega) (by omega)];exact⟨_,_,rfl,rfl⟩) |(rw [qG ac (by omega) (by omega) (by omega)];exact⟨_,_,rfl,rfl⟩) |(rw [qS ac (by omega) (by omega) (by omega)];exact⟨_,_,rfl,rfl⟩)
 have ac:jW f a b=0:=b7
 obtain⟨hbc,hbz⟩:=wOk ac
 obtain⟨hF,⟨hpa,hpb⟩,cm,cn⟩:=aAq hbc
 have ht:=nE hF
 have hI:=hU ht
 have hd:=oK ht
 have hB:=vC hI a
 have hfl:=vL ht a
 refine Y.skip (Y.g (Y.seq (Y.seq (Y.region (Y.mv rfl .g10 ?_)))))
 refine Y.cl rfl rfl Tryz.func86 rfl rfl (eL (.t .z) .c .c) .n (fun _ _ hs tr=>yK _ _ _) ?_
 rintro _ _ ⟨rfl,rfl⟩
 refine Y.m .n ?_
 refine Y.ql rfl (fF rfl (.t .z)) (Y.nt ?_)
 refine Y.ac (.t .z) (fun b1=> ?_) (fun b1=> ?_)
 refine Y.seq (Y.region (Y.ql rfl (aW (cs:= [.int .i64 3,.slice none 0 0,.slice none 0 0]) rfl oQ (pv1 .c) rfl) ?_))
 refine Y.es (aE rfl) rfl (esW rfl (.t .g10) (.t .z) .z gN rfl rfl) ?_
 refine Y.nt (Y.ret (Y.j ?_))
 refine Y.add (c:=aH bJ [] [.slice none 0 0]) (fun w S=>aL w S none) ?_
 refine Y.add (c:=aH eH [] [.slice none 0 0]) (fun w S=>aL w S none) ?_
 refine Y.i (cU rfl .g10 nO .g2 gN) (.c .g1 (.c .z .n)) ?_
 first |(rw [rJ aq];exact⟨_,_,rfl,rfl⟩) |(rw [qQ ac (by omega)];exact⟨_,_,rfl,rfl⟩) |(rw [rK ac (by omega) (by omega)];exact⟨_,_,rfl,rfl⟩) |(rw [qG ac (by omega) (by omega) (by omega)];exact⟨_,_,rfl,rfl⟩) |(rw [qS ac (by omega) (by omega) (by omega)];exact⟨_,_,rfl,rfl⟩)
 refine Y.skip (Y.g (Y.seq (Y.seq (Y.region (Y.mv rfl .g13 (Y.mv rfl .g15 (Y.ql rfl (bD rfl iJ (.t .z)) ?_)))))))
 refine Y.ql rfl (bN (c:=i+(L.length:Int)) rfl (.t .g2) (.t .z) (wr (by omega) (by omega) (by omega))) ?_
 refine Y.ql rfl (fI rfl (.t .z) .c) (Y.nt ?_)
 refine Y.u (.t .z) (fun b2=> ?_) (fun b2=> ?_)
 refine Y.seq (Y.region (Y.ql rfl (aW (cs:= [.int .i64 2,.slice none 0 0,.slice none 0 0]) rfl oQ (pv1 .c) rfl) ?_))
 refine Y.es (aE rfl) rfl (esW rfl (.t .g15) (.t .z) .z gN rfl rfl) ?_
 refine Y.nt (Y.ret (Y.j ?_))
 refine Y.add (c:=aH bJ [] [.slice none 0 0]) (fun w S=>aL w S none) ?_
 refine Y.add (c:=aH eH [] [.slice none 0 0]) (fun w S=>aL w S none) ?_
 refine Y.i (cU rfl .g15 nO .g2 gN) (.c .g1 (.c .z .n)) ?_
 first |(rw [rJ aq];exact⟨_,_,rfl,rfl⟩) |(rw [qQ ac (by omega)];exact⟨_,_,rfl,rfl⟩) |(rw [rK ac (by omega) (by omega)];exact⟨_,_,rfl,rfl⟩) |(rw [qG ac (by omega) (by omega) (by omega)];exact⟨_,_,rfl,rfl⟩) |(rw [qS ac (by omega) (by omega) (by omega)];exact⟨_,_,rfl,rfl⟩)
 refine Y.skip (Y.g (Y.seq (Y.seq (Y.region (Y.mv rfl (.s16 .g3) (Y.ql rfl (bD rfl iJ (.t .z)) (Y.ql rfl (bU rfl (.t .z) .c) (Y.nil ?_))))))))
 refine Y.g ?_
 refine Y.u (.t .z) (fun b3=> ?_) (fun b3=> ?_)
 refine Y.seq (Y.region (Y.ql rfl (qW rfl bX (.t (.s16 .g2)) .g1 bA) ?_))
 refine Y.cl rfl rfl Tryz.func104 rfl rfl (bG (.t .z)) .n (fun _ _ hs tr=>qC (aJ f (tr.ctx ad) (tr.ctx ae))) ?_
 rintro _ _ ⟨co,cp,rfl,rfl⟩
 refine Y.m (.c (.c .n)) ?_
 refine Y.h (WS.a .z) ?_
 rintro⟨aw,ax,rfl,bc,bd,be⟩
 refine Y.h (WS.a .g1) ?_
 rintro⟨ay,az,rfl,bf,bg,bh⟩
 refine Y.ql rfl (aW (cs:= [.int .i64 0,.slice aw f.inodes.length ax,.slice ay f.data.length az]) rfl oQ (pv1 (.t .z)) rfl) ?_
 refine Y.es (aE rfl) rfl (esW rfl (.t (.s16 .g4)) (.t .z) .g2 gN rfl rfl) ?_
 refine Y.nt (Y.ret (Y.j ?_))
 refine Y.i (cU rfl (.s16 .g4) nO .z gN) (.c .g1 (.c .g1 .n)) ?_
 first |(rw [rJ aq];exact⟨_,_,rfl,rfl⟩) |(rw [qQ ac (by omega)];exact⟨_,_,rfl,rfl⟩) |(rw [rK ac (by omega) (by omega)];exact⟨_,_,rfl,rfl⟩) |(rw [qG ac (by omega) (by omega) (by omega)];exact⟨_,_,rfl,rfl⟩) |(rw [qS ac (by omega) (by omega) (by omega)];exact⟨_,_,rfl,rfl⟩)
 refine Y.skip (Y.g (Y.seq (Y.region (Y.mv rfl (.s16 .g4) ?_))))
 refine Y.cl rfl rfl Tryz.func137 rfl rfl (aS (.t (.s16 .g3)) (.t .z)) .n (fun _ _ hs tr=>aGu (tr.ptr .g1 (aJ f (tr.ctx ad) (tr.ctx ae))) _ (by assumption) (by first | assumption |(constructor <;> omega))) ?_
 rintro _ _ rfl
 refine Y.m (.c .n) ?_
 refine Y.h (WS.a .z) ?_
 rintro⟨ak,al,rfl,bi,bj,bk⟩
 refine Y.as rfl .z (Y.nt (Y.seq (Y.block ?_)))
 have am:cF f a=cF f a++List.replicate 0 0:=(aIa _)
 refine Y.ah .z am ?_
 refine Y.ak .z (congrArg (fun z_:Nat=>(aH dD (cF f a++List.replicate 0 0) [.slice ak z_ al]:Asn)) (congrArg List.length am)) ?_
 refine Y.eq .z (congrArg (fun z_:Nat=>(.slice ak z_ al:Value)) (congrArg List.length am)) ?_
 refine Y.eq .g1 (congrArg (fun z_:Nat=>(.slice ak z_ al:Value)) (congrArg List.length am)) ?_
 refine Y.ai (γ:=Nat×(Option Addr)×Nat) (fun⟨k,aa,ab⟩=> [(12,.slice aa (cF f a++List.replicate k 0).length ab),(10,.pointer (some ⟨g6,0,none⟩)),(5,.pointer (some ⟨g5,0,none⟩)),(1,.int .i64 a),(2,.int .i64 i),(3,.slice A3 L.length c3),(4,.slice A4 b.length c4)]) (fun⟨k,aa,ab⟩=> [aH dD (cF f a++List.replicate k 0) [.slice aa (cF f a++List.replicate k 0).length ab],bV g6 133 3 1 [.int .i64 0,.slice none 0 0,.slice none 0 0],bV g5 27 2 1 [.slice ag f.inodes.length ah,.slice ai f.data.length aj]]) (fun⟨k,aa,ab⟩=>k≤Int.toNat (i+(L.length:Int)) - (cF f a).length) (fun⟨k,aa,ab⟩=>Int.toNat (i+(L.length:Int)) - (cF f a).length - k) (0,ak,al) (Nat.zero_le _) (.c .g1 (.c (.s16 .g4) (.c (.s16 .g5) (.c (.s16 .g7) (.c (.s16 .g8) (.c (.s16 .g9) (.c (.s16 .g10) .n))))))) (fun _ h=>h.sel (.c .z (.c .z (.c .z .n)))) ?_
 rintro⟨k,aa,ab⟩ hk
 have hpl:=yD (L:=cF f a) (k:=k)
 refine Y.seq (Y.seq (Y.region (Y.mv rfl .z (Y.ql rfl (bD rfl iJ (.t .z)) (Y.mv rfl .g6 (Y.mv rfl .g8 (Y.ql rfl (bD rfl iJ (.t .z)) ?_)))))))
 refine Y.ql rfl (bN (c:=i+(L.length:Int)) rfl (.t .g2) (.t .z) (wr (by omega) (by omega) (by omega))) ?_
 refine Y.ql rfl (dA rfl (.t .g4) (.t .z)) (Y.nt ?_)
 refine Y.u (.t .z) (fun b4=> ?_) (fun b4=> ?_)
 refine Y.skip (Y.g (Y.block (Y.region (Y.mv rfl .g7 ?_))))
 refine Y.el rfl (aQ (cs:= [.int .u8 0]) rfl iJ (inz mC) (by decide) (pv1 .c) rfl rfl (by decide) rfl rfl) ?_
 rintro _ _ ⟨g27,rfl,rfl⟩
 refine Y.add (c:=aH vP (0:UInt8) [.int .u8 0]) (fun _ _=>⟨rfl,trivial⟩) ?_
 refine Y.el rfl (dK rfl iJ mC rfl (.t .g1) (.t .z) (.c .g2 (.c .g1 (.c .z .n))) (by first | omega |(simp <;> omega)) (by first | omega |(simp <;> omega))) ?_
 rintro _ _ rfl
 refine Y.ah .z aHm ?_
 refine Y.h (WS.a .z) ?_
 rintro⟨a0,a1,rfl,bm,bn,bo⟩
 refine Y.er .g10 (Y.as rfl .z (Y.nil (Y.ab ?_)))
 refine Y.ae ((k+1),a0,a1) (by omega) (by first | omega |(dsimp only;omega)) (.c .z (.c .g11 (.c .g12 (.c .g13 (.c .g14 (.c .g15 (.c .g16 .n))))))) (fun _ h=>h.sel (.c .z (.c .z (.c .z .n))))
 refine Y.exit (Y.y (Y.y (Y.ag (Y.g (Y.seq (Y.seq (Y.region (Y.ql rfl (aA rfl .c) ?_))))))))
 refine Y.nt (Y.block ?_)
 have af:cF f a++List.replicate k 0=oC (cF f a) (i+(L.length:Int)):=(aBr (by omega) (by omega))
 refine Y.eq .g1 (congrArg (fun z_=>(.bool (decide (((z_).length:Int)<i+(L.length:Int))):Value)) af) ?_
 refine Y.eq .g6 (congrArg (fun z_=>(.int .i64 ((z_).length:Int):Value)) af) ?_
 refine Y.eq .g7 (congrArg (fun z_=>(.slice aa (z_).length ab:Value)) af) ?_
 refine Y.eq .g8 (congrArg (fun z_=>(.slice aa (z_).length ab:Value)) af) ?_
 refine Y.ak .z (congrArg (fun z_=>(aH dD (z_) [.slice aa (z_).length ab]:Asn)) af) ?_
 have hzl:= @uB (cF f a) (i+(L.length:Int))
 refine Y.ah (x':=uU (oC (cF f a) (i+(L.length:Int))) (Int.toNat i) L 0) .z (aK5 _ _ _) ?_
 refine Y.ai (γ:=Nat) (fun q=> [(12,.slice aa (oC (cF f a) (i+(L.length:Int))).length ab),(13,.int .i64 (q:Int)),(10,.pointer (some ⟨g6,0,none⟩)),(5,.pointer (some ⟨g5,0,none⟩)),(1,.int .i64 a),(2,.int .i64 i),(3,.slice A3 L.length c3),(4,.slice A4 b.length c4)]) (fun q=> [aH dD (uU (oC (cF f a) (i+(L.length:Int))) (Int.toNat i) L q) [.slice aa (oC (cF f a) (i+(L.length:Int))).length ab],bV g6 133 3 1 [.int .i64 0,.slice none 0 0,.slice none 0 0],bV g5 27 2 1 [.slice ag f.inodes.length ah,.slice ai f.data.length aj]]) (fun q=>q≤L.length) (fun q=>L.length - q) 0 (Nat.zero_le _) (.c .z (.c .g4 (.c .g9 (.c .g10 (.c .g11 (.c .g12 (.c .g13 (.c .g14 .n)))))))) (fun _ h=>h.sel (.c .z (.c .z (.c .z .n)))) ?_
 rintro q hq
 have hpq:(uU (oC (cF f a) (i+(L.length:Int))) (Int.toNat i) L q).length=(oC (cF f a) (i+(L.length:Int))).length:=aH0 (by omega) (by omega)
 refine Y.seq (Y.seq (Y.region (Y.mv rfl .g1 (Y.mv rfl .g7 (Y.ql rfl (bD rfl iJ (.t .z)) (Y.ql rfl (dA rfl (.t .g2) (.t .z)) (Y.nt ?_)))))))
 refine Y.u (.t .z) (fun b5=> ?_) (fun b5=> ?_)
 refine Y.skip (Y.g (Y.seq (Y.block (Y.region (Y.mv rfl .g4 (Y.mv rfl .g10 (Y.mv rfl .g7 ?_)))))))
 refine Y.ql rfl (bN (c:=i+(q:Int)) rfl (.t .g1) (.t .z) (wr (by omega) (by omega) (by omega))) ?_
 refine Y.mv rfl .g14 (Y.mv rfl .g10 ?_)
 obtain⟨b6,an,ao⟩:=b0 (by omega)
 subst an
 obtain⟨bp,ap⟩:=aK (xs:=L) (j:=q) (by first | omega |(rw [hpq];omega))
 obtain⟨bq,ar,au,av⟩:=ao.elem ap
 obtain⟨rfl,b8⟩:=ar
 refine Y.ql rfl (aB (j:=q) rfl iJ aA9 (.t .g1) (.t .z) rfl (by first | omega |(rw [hpq];omega))) ?_
 refine Y.ql rfl (aM rfl aK4 (.t .z) (WS.i au av rfl)) ?_
 refine Y.h (WS.h .z (by omega)) ?_
 rintro⟨b9,rfl⟩
 refine Y.ql rfl (aB (j:=Int.toNat (i+(q:Int))) rfl iJ aA9 (.t .g7) (.t .g4) (by omega) (by first | omega |(rw [hpq];omega))) ?_
 refine Y.add (c:=aH vP bp [.int .u8 (bp.toNat:Int)]) (fun _ _=>⟨rfl,trivial⟩) ?_
 refine Y.es (aE rfl) rfl (oV (j:=Int.toNat (i+(q:Int))) rfl aA9 (.t .z) (.t .g1) rfl (.c .g1 (.c .z .n)) (by first | omega |(rw [hpq];omega))) ?_
 refine Y.ah .z (by first | exact aIc ap (by omega) |(rw [show Int.toNat (i+(q:Int))=Int.toNat i+q by omega,aIc ap (by omega)])) ?_
 refine Y.nil (Y.ab (Y.g (Y.region (Y.mv rfl .g14 ?_))))
 refine Y.ql rfl (bN (c:=((q+1:Nat):Int)) rfl (.t .z) .c (wr (by omega) (by omega) (by omega))) ?_
 refine Y.er .g16 (Y.as rfl .z (Y.nil ?_))
 refine Y.ae (q+1) (by omega) (by first | omega |(dsimp only;omega)) (.c .g16 (.c .z (.c (.s16 .g1) (.c (.s16 .g2) (.c (.s16 .g3) (.c (.s16 .g4) (.c (.s16 .g5) (.c (.s16 .g6) .n)))))))) (fun _ h=>h.sel (.c .z (.c .z (.c .z .n))))
 refine Y.exit (Y.y (Y.y (Y.ag (Y.g (Y.seq (Y.region (Y.ql rfl (qW rfl bX (.t .g7) .g2 bA) (Y.mv rfl .g9 ?_))))))))
 refine Y.mv rfl .g6 (Y.mv rfl .g14 ?_)
 have a2:uU (oC (cF f a) (i+(L.length:Int))) (Int.toNat i) L q=aDj f a i L:=(aGx (by omega) (by omega))
 refine Y.ak .z (congrArg (fun z_=>(aH dD (z_) [.slice aa (oC (cF f a) (i+(L.length:Int))).length ab]:Asn)) a2) ?_
 refine Y.cl rfl rfl Tryz.func138 rfl rfl (pD (.t .g3) (.t .g2) (.t .g1) (.t .z)) .n (fun _ _ hs tr=>aKd (aJ f (tr.ctx ad) (tr.ctx ae)) _ (tr.own .z) (tr.ctx h4) (by assumption) (by first | assumption |(constructor <;> omega)) (by assumption)) ?_
 rintro _ _ ⟨cq,cr,rfl,rfl⟩
 refine Y.m (.c (.c .n)) ?_
 refine Y.h (WS.a .z) ?_
 rintro⟨ca,cb,rfl,br,bs,bt⟩
 refine Y.h (WS.a .g1) ?_
 rintro⟨cc,cd,rfl,bu,bv,bw⟩
 refine Y.es (aE rfl) rfl (esW rfl (.t .g11) (.t .z) .g3 gN rfl rfl) ?_
 refine Y.nt (Y.ret ?_)
 refine Y.i (cU rfl .g11 nO .z gN) (.c .g1 (.c .g1 .n)) ?_
 first |(rw [rJ aq];exact⟨_,_,rfl,rfl⟩) |(rw [qQ ac (by omega)];exact⟨_,_,rfl,rfl⟩) |(rw [rK ac (by omega) (by omega)];exact⟨_,_,rfl,rfl⟩) |(rw [qG ac (by omega) (by omega) (by omega)];exact⟨_,_,rfl,rfl⟩) |(rw [qS ac (by omega) (by omega) (by omega)];exact⟨_,_,rfl,rfl⟩)

end Go.Proofs.YtmejbfmhaoilmaaGreatDoor
/- What is proved: contracts of functions, one a function. No condition. -/
namespace Go.Proofs.YtmejbfmhaoilmaaGreatDoor
open Go Go.RowKit
set_option linter.unusedVariables false
set_option linter.unusedSimpArgs false
set_option maxHeartbeats 1000000
set_option maxRecDepth 20000
theorem aM1 {w0:World}{S0:Bs}{f:DFs}{ar:List Value} (h0:dV.ro w0 (FF w0 S0) f ar) (a:Int) (n:Int) {b:(List Int)}{v3:Value} (h3:bK.ro w0 (FF w0 S0) b [v3]):
    Calls Tryz.prog 109 #[.agg ar.toArray,.int .i64 a,.int .i64 n,v3] w0 (aI w0 S0 (aC7 (pC f a n b))):=by
 obtain⟨be,bf,rfl,ad,ae⟩:=bZ h0
 obtain⟨ai,aj,rfl,au,av,aw,ax⟩:=aD ad
 obtain⟨ak,al,rfl,ay,az,a0,a1⟩:=aD ae
 obtain⟨A3,c3,rfl,bn,bo,bp,bq⟩:=aD h3
 refine Y.enter (N:=38) Tryz.func109 rfl rfl (by simp) [(0,.agg #[.slice ai f.inodes.length aj,.slice ak f.data.length al]),(1,.int .i64 a),(2,.int .i64 n),(3,.slice A3 b.length c3)] (by simp) (l0:= []) trivial ?_
 refine Y.seq (Y.region ?_)
 refine Y.el rfl (fQ (cs:= [.slice ai f.inodes.length aj,.slice ak f.data.length al]) (n:=2) rfl (.t .z) rfl rfl) ?_
 rintro _ _ ⟨g4,rfl,rfl⟩
 refine Y.el rfl (bB rfl aEn rfl rfl) ?_
 rintro _ _ ⟨g5,rfl,rfl⟩
 refine Y.nt (Y.seq (Y.seq (Y.region (Y.mv rfl .g3 (Y.mv rfl .g6 ?_)))))
 refine Y.cl rfl rfl Tryz.func136 rfl rfl (eL (.t .g3) (.t .g1) (.t .z)) .n (fun _ _ hs tr=>aJ4 (tr.ptr .g1 (aJ f (tr.ctx ad) (tr.ctx ae))) _ (tr.ctx h3)) ?_
 rintro _ _ ⟨rfl,rfl⟩
 refine Y.m .n ?_
 refine Y.as rfl .z (Y.nt (Y.seq (Y.region (Y.mv rfl .z (Y.ql rfl (bW rfl (.t .z) .c) (Y.nt ?_))))))
 refine Y.ac (.t .z) (fun b6=> ?_) (fun b6=> ?_)
 have an:¬jW f a b=0:=b6
 refine Y.seq (Y.region (Y.mv rfl .g2 (Y.ql rfl (aW (cs:= [.int .i64 (jW f a b),.slice none 0 0,.slice none 0 0]) rfl oQ (pv1 (.t .z)) rfl) ?_)))
 refine Y.es (aE rfl) rfl (esW rfl (.t .g8) (.t .z) .z gN rfl rfl) ?_
 refine Y.nt (Y.ret (Y.j ?_))
 refine Y.add (c:=aH bJ [] [.slice none 0 0]) (fun w S=>aL w S none) ?_
 refine Y.add (c:=aH eH [] [.slice none 0 0]) (fun w S=>aL w S none) ?_
 refine Y.i (cU rfl .g8 nO .g2 gN) (.c .g1 (.c .z .n)) ?_
 first |(rw [aC8 an];exact⟨_,_,rfl,rfl⟩) |(rw [aDp am (by omega)];exact⟨_,_,rfl,rfl⟩) |(rw [aDe am (by omega)];exact⟨_,_,rfl,rfl⟩)
 have am:jW f a b=0:=b6
 obtain⟨hbc,hbz⟩:=wOk am
 obtain⟨hF,⟨hpa,hpb⟩,br,bs⟩:=aAq hbc
 have ht:=nE hF
 have hI:=hU ht
 have hd:=oK ht
 have hB:=vC hI a
 have hfl:=vL ht a
 refine Y.skip (Y.g (Y.seq (Y.seq (Y.region (Y.mv rfl .g10 ?_)))))
 refine Y.cl rfl rfl Tryz.func118 rfl rfl (bG (.t .z)) .n (fun _ _ hs tr=>aIf _) ?_
 rintro _ _ ⟨rfl,rfl⟩
 refine Y.m .n ?_
 refine Y.ql rfl (fF rfl (.t .z)) (Y.nt ?_)
 refine Y.ac (.t .z) (fun b9=> ?_) (fun b9=> ?_)
 refine Y.seq (Y.region (Y.ql rfl (aW (cs:= [.int .i64 3,.slice none 0 0,.slice none 0 0]) rfl oQ (pv1 .c) rfl) ?_))
 refine Y.es (aE rfl) rfl (esW rfl (.t .g10) (.t .z) .z gN rfl rfl) ?_
 refine Y.nt (Y.ret (Y.j ?_))
 refine Y.add (c:=aH bJ [] [.slice none 0 0]) (fun w S=>aL w S none) ?_
 refine Y.add (c:=aH eH [] [.slice none 0 0]) (fun w S=>aL w S none) ?_
 refine Y.i (cU rfl .g10 nO .g2 gN) (.c .g1 (.c .z .n)) ?_
 first |(rw [aC8 an];exact⟨_,_,rfl,rfl⟩) |(rw [aDp am (by omega)];exact⟨_,_,rfl,rfl⟩) |(rw [aDe am (by omega)];exact⟨_,_,rfl,rfl⟩)
 refine Y.skip (Y.g (Y.seq (Y.region (Y.mv rfl .g12 ?_))))
 refine Y.cl rfl rfl Tryz.func137 rfl rfl (aS (.t .g11) (.t .z)) .n (fun _ _ hs tr=>aGu (tr.ptr .g1 (aJ f (tr.ctx ad) (tr.ctx ae))) _ (by assumption) (by first | assumption |(constructor <;> omega))) ?_
 rintro _ _ rfl
 refine Y.m (.c .n) ?_
 refine Y.h (WS.a .z) ?_
 rintro⟨af,ag,rfl,a2,a3,a4⟩
 refine Y.as rfl .z (Y.nt (Y.seq (Y.block ?_)))
 have ah:cF f a=cF f a++List.replicate 0 0:=(aIa _)
 refine Y.ah .z ah ?_
 refine Y.ak .z (congrArg (fun z_:Nat=>(aH dD (cF f a++List.replicate 0 0) [.slice af z_ ag]:Asn)) (congrArg List.length ah)) ?_
 refine Y.eq .z (congrArg (fun z_:Nat=>(.slice af z_ ag:Value)) (congrArg List.length ah)) ?_
 refine Y.eq .g1 (congrArg (fun z_:Nat=>(.slice af z_ ag:Value)) (congrArg List.length ah)) ?_
 refine Y.ai (γ:=Nat×(Option Addr)×Nat) (fun⟨k,aa,ab⟩=> [(10,.slice aa (cF f a++List.replicate k 0).length ab),(8,.pointer (some ⟨g5,0,none⟩)),(4,.pointer (some ⟨g4,0,none⟩)),(1,.int .i64 a),(2,.int .i64 n),(3,.slice A3 b.length c3)]) (fun⟨k,aa,ab⟩=> [aH dD (cF f a++List.replicate k 0) [.slice aa (cF f a++List.replicate k 0).length ab],bV g5 133 3 1 [.int .i64 0,.slice none 0 0,.slice none 0 0],bV g4 27 2 1 [.slice ai f.inodes.length aj,.slice ak f.data.length al]]) (fun⟨k,aa,ab⟩=>k≤Int.toNat (n) - (cF f a).length) (fun⟨k,aa,ab⟩=>Int.toNat (n) - (cF f a).length - k) (0,af,ag) (Nat.zero_le _) (.c .g1 (.c .g12 (.c .g13 (.c .g15 (.c .g16 (.c (.s16 .g1) .n)))))) (fun _ h=>h.sel (.c .z (.c .z (.c .z .n)))) ?_
 rintro⟨k,aa,ab⟩ hk
 have hpl:=yD (L:=cF f a) (k:=k)
 refine Y.seq (Y.seq (Y.region (Y.mv rfl .z (Y.ql rfl (bD rfl iJ (.t .z)) (Y.mv rfl .g6 (Y.ql rfl (dA rfl (.t .g1) (.t .z)) (Y.nt ?_)))))))
 refine Y.u (.t .z) (fun bg=> ?_) (fun bg=> ?_)
 refine Y.skip (Y.g (Y.block (Y.region (Y.mv rfl .g4 ?_))))
 refine Y.el rfl (aQ (cs:= [.int .u8 0]) rfl iJ (inz mC) (by decide) (pv1 .c) rfl rfl (by decide) rfl rfl) ?_
 rintro _ _ ⟨g16,rfl,rfl⟩
 refine Y.add (c:=aH vP (0:UInt8) [.int .u8 0]) (fun _ _=>⟨rfl,trivial⟩) ?_
 refine Y.el rfl (dK rfl iJ mC rfl (.t .g1) (.t .z) (.c .g2 (.c .g1 (.c .z .n))) (by first | omega |(simp <;> omega)) (by first | omega |(simp <;> omega))) ?_
 rintro _ _ rfl
 refine Y.ah .z aHm ?_
 refine Y.h (WS.a .z) ?_
 rintro⟨ao,ap,rfl,a5,a6,a7⟩
 refine Y.er .g7 (Y.as rfl .z (Y.nil (Y.ab ?_)))
 refine Y.ae ((k+1),ao,ap) (by omega) (by first | omega |(dsimp only;omega)) (.c .z (.c .g8 (.c .g9 (.c .g10 (.c .g11 (.c .g12 .n)))))) (fun _ h=>h.sel (.c .z (.c .z (.c .z .n))))
 refine Y.exit (Y.y (Y.y (Y.ag (Y.g (Y.seq ?_)))))
 have hzl:= @uB (cF f a) n
 have ac:cF f a++List.replicate k 0=oC (cF f a) n:=(aBr (by omega) (by omega))
 refine Y.eq .z (congrArg (fun z_=>(.bool (decide (((z_).length:Int)<n)):Value)) ac) ?_
 refine Y.eq .g2 (congrArg (fun z_=>(.int .i64 ((z_).length:Int):Value)) ac) ?_
 refine Y.eq .g3 (congrArg (fun z_=>(.slice aa (z_).length ab:Value)) ac) ?_
 refine Y.eq .g4 (congrArg (fun z_=>(.slice aa (z_).length ab:Value)) ac) ?_
 refine Y.ak .z (congrArg (fun z_=>(aH dD (z_) [.slice aa (z_).length ab]:Asn)) ac) ?_
 refine Y.dr .g1 7 fR ?_
 refine Y.sc (qs 0 6++ [(6,false),(7,false)]) (by kernel_rfl) ?_
 refine Y.dk rfl rfl .g1 (qW rfl bX (.t .g6) .g1 bA) (Y.dm rfl rfl .g1 .g8 (Y.dm rfl rfl .g1 .g2 (Y.dm rfl rfl .g1 .g11 ?_)))
 refine Y.h (WS.r .z) ?_
 rintro⟨-,bh, -, -⟩
 have aq:(List.take (Int.toNat n) (oC (cF f a) n)).length=Int.toNat n:=by rw [List.length_take];rw [uB];omega
 refine Y.eq .z (congrArg (Value.int .i64) (show n=(((List.take (Int.toNat n) (oC (cF f a) n)).length:Nat):Int) by rw [aq];try omega)) ?_
 refine Y.ad (c:=aH dD (List.take (Int.toNat n) (oC (cF f a) n)) [.slice aa ((List.take (Int.toNat n) (oC (cF f a) n)).length) ab]) (.c .z .n) (pG (by rw [uB];omega)) ?_
 refine Y.dk rfl rfl .g1 (jJ (b:=(List.take (Int.toNat n) (oC (cF f a) n)).length) rfl iJ aA9 (.t .g1) (.t .z) (by omega)) ?_
 refine Y.dm rfl rfl .g1 .g14 ?_
 refine Y.call (aC rfl rfl) rfl (by decide) rfl (bE rfl Tryz.func138 rfl rfl (pD (.t .g5) (.t .g4) (.t .g1) (.t .z))) .n (fun _ _ hs tr=>aKd (aJ f (tr.ctx ad) (tr.ctx ae)) _ (tr.own .z) (tr.ctx h3) (by assumption) (by first | assumption |(constructor <;> omega)) (by assumption)) ?_
 rintro _ _ ⟨bt,bu,rfl,rfl⟩
 refine Y.m (.c (.c .n)) ?_
 refine Y.h (WS.a .z) ?_
 rintro⟨bi,bj,rfl,a8,a9,ba⟩
 refine Y.h (WS.a .g1) ?_
 rintro⟨bk,bm,rfl,bb,bc,bd⟩
 refine Y.sk .g3 ?_
 refine Y.es (aC rfl rfl) rfl (esW rfl (.t .g12) (.t .z) .g3 gN rfl rfl) ?_
 refine Y.sl rfl ?_
 refine Y.w ?_
 refine Y.af (by kernel_rfl) ?_
 refine Y.g (Y.ret ?_)
 refine Y.i (cU rfl .g12 nO .z gN) (.c .g1 (.c .g1 .n)) ?_
 first |(rw [aC8 an];exact⟨_,_,rfl,rfl⟩) |(rw [aDp am (by omega)];exact⟨_,_,rfl,rfl⟩) |(rw [aDe am (by omega)];exact⟨_,_,rfl,rfl⟩)

end Go.Proofs.YtmejbfmhaoilmaaGreatDoor
/- What is proved: contracts of functions, one a function. No condition. -/
namespace Go.Proofs.YtmejbfmhaoilmaaGreatDoor
open Go Go.RowKit
set_option linter.unusedVariables false
set_option linter.unusedSimpArgs false
set_option maxHeartbeats 1000000
set_option maxRecDepth 20000
theorem aOg {w0:World}{S0:Bs}{f:DFs}{a0:List Value} (h0:dV.ro w0 (FF w0 S0) f a0) (a:Int):
    Calls Tryz.prog 42 #[.agg a0.toArray,.int .i64 a] w0 (aI w0 S0 (fun r l=>r= .int .i64 (fK f a)∧l= [])):=by
 obtain⟨be,bf,rfl,aa,ab⟩:=bZ h0
 obtain⟨ac,ad,rfl,a1,a2,a3,ae⟩:=aD aa
 obtain⟨af,ag,rfl,a4,a5,a6,a7⟩:=aD ab
 refine Y.enter (N:=28) Tryz.func42 rfl rfl (by simp) [(0,.agg #[.slice ac f.inodes.length ad,.slice af f.data.length ag]),(1,.int .i64 a)] (by simp) (l0:= []) trivial ?_
 refine Y.seq (Y.region ?_)
 refine Y.el rfl (fQ (cs:= [.slice ac f.inodes.length ad,.slice af f.data.length ag]) (n:=2) rfl (.t .z) rfl rfl) ?_
 rintro _ _ ⟨g3,rfl,rfl⟩
 refine Y.ql rfl (aA rfl .c) (Y.nt (Y.seq (Y.region (Y.ql rfl (qW rfl bX (.t .g1) .z bA) ?_))))
 refine Y.cl rfl rfl Tryz.func33 rfl rfl (bG (.t .z)) .n (fun _ _ hs tr=>aMe (aJ f (tr.ctx aa) (tr.ctx ab))) ?_
 rintro _ _ ⟨rfl,rfl⟩
 refine Y.m .n ?_
 refine Y.as rfl .z (Y.nt (Y.seq (Y.block (Y.seq (Y.region (Y.mv rfl .z (Y.ql rfl (bW rfl (.t .z) .c) ?_)))))))
 refine Y.as rfl .z (Y.nt ?_)
 refine Y.ac (.t .z) (fun b4=> ?_) (fun b4=> ?_)
 refine Y.seq (Y.region (Y.mv rfl .g3 (Y.er .g7 (Y.as rfl .z (Y.nt (Y.ret (Y.v ?_)))))))
 refine Y.j ?_
 refine Y.i (aU rfl .z) .n ?_
 exact⟨by first |(rw [lN (by assumption)];done) |(rw [lM (by assumption) (by assumption)];done) |(rw [lL (by assumption) (by assumption) (by omega)];done) |(rw [kN (by assumption) (by assumption) (by omega)];done),rfl⟩
 have am:=hU b4
 refine Y.seq (Y.region (Y.mv rfl .g9 (Y.fa rfl .g8 aP (Y.ld rfl bR .z .z ?_))))
 refine Y.cl rfl rfl Tryz.func49 rfl rfl (bG (.t .z)) .n (fun _ _ hs tr=>aLr (tr.ctx aa)) ?_
 rintro _ _ ⟨rfl,rfl⟩
 refine Y.m .n ?_
 refine Y.ql rfl (iT (c:=(f.inodes.length:Int) - 1) rfl (.t .z) .c (wr (by omega) (by omega) (by omega))) ?_
 refine Y.cl rfl rfl Tryz.func48 rfl rfl (eL (.t .g4) .c (.t .z)) .n (fun _ _ hs tr=>aBe _ _ _) ?_
 rintro _ _ ⟨rfl,rfl⟩
 refine Y.m .n ?_
 refine Y.ql rfl (fF rfl (.t .z)) (Y.as rfl .z (Y.nt ?_))
 refine Y.ac (.t .z) (fun b6=> ?_) (fun b6=> ?_)
 refine Y.seq (Y.region (Y.er .g14 (Y.ql rfl (aA rfl .c) (Y.nt (Y.ret (Y.v (Y.j ?_)))))))
 refine Y.i (aU rfl .z) .n ?_
 exact⟨by first |(rw [lN (by assumption)];done) |(rw [lM (by assumption) (by assumption)];done) |(rw [lL (by assumption) (by assumption) (by omega)];done) |(rw [kN (by assumption) (by assumption) (by omega)];done),rfl⟩
 refine Y.seq (Y.region (Y.fa rfl .g15 aP (Y.ld rfl bR .z .z (Y.mv rfl (.s16 .g3) ?_))))
 obtain⟨bj,ah,ai⟩:=ae (by omega)
 subst ah
 obtain⟨x8,al⟩:=aK (xs:=f.inodes) (j:=Int.toNat a) (by omega)
 obtain⟨bg,an,ao,ap⟩:=ai.elem al
 obtain⟨a8,a9,rfl,aj,ak⟩:=bY an
 obtain⟨ba,bb,rfl,aq,ar,au,av⟩:=aD aj
 obtain⟨bc,bd,rfl,aw,ax,ay,az⟩:=aD ak
 have bk:=cO (i:=a) al (by omega)
 have bm:=cP (a:=a) al (by omega)
 have bh:=dM am _ (List.mem_of_getElem? al)
 refine Y.ql rfl (aB (j:=Int.toNat a) rfl cQ aT (.t .g1) (.t .z) (by omega) (by omega)) ?_
 refine Y.fa rfl .z bS (Y.le rfl bP .z ao ap (Y.ql rfl (bW rfl (.t .z) .c) (Y.as rfl .z (Y.nt ?_))))
 refine Y.ac (.t .z) (fun bi=> ?_) (fun bi=> ?_)
 refine Y.seq (Y.region (Y.er (.s16 .g6) (Y.ql rfl (aA rfl .c) (Y.nt (Y.ret (Y.v (Y.j ?_)))))))
 refine Y.i (aU rfl .z) .n ?_
 exact⟨by first |(rw [lN (by assumption)];done) |(rw [lM (by assumption) (by assumption)];done) |(rw [lL (by assumption) (by assumption) (by omega)];done) |(rw [kN (by assumption) (by assumption) (by omega)];done),rfl⟩
 refine Y.skip (Y.ab (Y.g (Y.seq (Y.region (Y.er (.s16 .g6) (Y.ql rfl (aA rfl .c) (Y.nt ?_)))))))
 refine Y.ret ?_
 refine Y.i (aU rfl .z) .n ?_
 exact⟨by first |(rw [lN (by assumption)];done) |(rw [lM (by assumption) (by assumption)];done) |(rw [lL (by assumption) (by assumption) (by omega)];done) |(rw [kN (by assumption) (by assumption) (by omega)];done),rfl⟩

theorem aMg {w0:World}{S0:Bs}{f:DFs}{ag:Addr} (h0:eV dV w0 (FF w0 S0) ag f) (a:Int):
    Calls Tryz.prog 140 #[.pointer (some ag),.int .i64 a] w0 (aI w0 S0 (fun r l=>r= .int .i64 (fK f a)∧l= [])):=by
 obtain⟨bn,ba,bb,bc⟩:=id h0
 obtain⟨bd,be,rfl,ah,ai⟩:=bZ bb
 obtain⟨bf,bg,rfl,ax,ay,az,aa⟩:=aD ah
 obtain⟨bh,bi,rfl,a0,a1,a2,a3⟩:=aD ai
 refine Y.enter (N:=24) Tryz.func140 rfl rfl (by simp) [(0,.pointer (some ag)),(1,.int .i64 a)] (by simp) (l0:= []) trivial ?_
 refine Y.seq (Y.region (Y.ql rfl (aA rfl .c) (Y.nt (Y.seq (Y.seq (Y.region (Y.mv rfl .g1 ?_)))))))
 refine Y.cl rfl rfl Tryz.func37 rfl rfl (bG (.t .z)) .n (fun _ _ hs tr=>aL4 (tr.ctxP h0)) ?_
 rintro _ _ ⟨rfl,rfl⟩
 refine Y.m .n ?_
 refine Y.as rfl .z (Y.nt (Y.seq (Y.region (Y.mv rfl .z (Y.ql rfl (bW rfl (.t .z) .c) (Y.nt ?_))))))
 refine Y.ac (.t .z) (fun b3=> ?_) (fun b3=> ?_)
 refine Y.seq (Y.region (Y.mv rfl .g2 (Y.er .g6 (Y.as rfl .z (Y.nt (Y.ret (Y.j ?_)))))))
 refine Y.i (aU rfl .z) .n ?_
 exact⟨by first |(rw [lN (by assumption)];done) |(rw [lM (by assumption) (by assumption)];done) |(rw [lL (by assumption) (by assumption) (by omega)];done) |(rw [kN (by assumption) (by assumption) (by omega)];done),rfl⟩
 have aj:=hU b3
 refine Y.skip (Y.g (Y.seq (Y.seq (Y.region (Y.mv rfl .g6 (Y.mv rfl .g8 ?_))))))
 refine Y.cl rfl rfl Tryz.func133 rfl rfl (aS (.t .g1) (.t .z)) .n (fun _ _ hs tr=>aH6 (tr.ctxP h0) _) ?_
 rintro _ _ ⟨rfl,rfl⟩
 refine Y.m .n ?_
 refine Y.ql rfl (fF rfl (.t .z)) (Y.nt ?_)
 refine Y.ac (.t .z) (fun b5=> ?_) (fun b5=> ?_)
 refine Y.seq (Y.region (Y.er .g9 (Y.ql rfl (aA rfl .c) (Y.nt (Y.ret (Y.j ?_))))))
 refine Y.i (aU rfl .z) .n ?_
 exact⟨by first |(rw [lN (by assumption)];done) |(rw [lM (by assumption) (by assumption)];done) |(rw [lL (by assumption) (by assumption) (by omega)];done) |(rw [kN (by assumption) (by assumption) (by omega)];done),rfl⟩
 refine Y.skip (Y.g (Y.seq (Y.seq (Y.region (Y.mv rfl .g10 (Y.nc rfl .z (Y.fa rfl .z aP (Y.le rfl bR .z ba bc ?_))))))))
 refine Y.mv rfl .g15 ?_
 obtain⟨bo,ab,ac⟩:=aa (by omega)
 subst ab
 obtain⟨x7,af⟩:=aK (xs:=f.inodes) (j:=Int.toNat a) (by omega)
 obtain⟨bj,ak,al,am⟩:=ac.elem af
 obtain⟨a4,a5,rfl,ad,ae⟩:=bY ak
 obtain⟨a6,a7,rfl,an,ao,ap,aq⟩:=aD ad
 obtain⟨a8,a9,rfl,ar,au,av,aw⟩:=aD ae
 have bp:=cO (i:=a) af (by omega)
 have bq:=cP (a:=a) af (by omega)
 have bk:=dM aj _ (List.mem_of_getElem? af)
 refine Y.ql rfl (aB (j:=Int.toNat a) rfl cQ aT (.t .g1) (.t .z) (by omega) (by omega)) ?_
 refine Y.fa rfl .z bS (Y.le rfl bP .z al am (Y.ql rfl (bW rfl (.t .z) .c) (Y.nt ?_)))
 refine Y.ac (.t .z) (fun bm=> ?_) (fun bm=> ?_)
 refine Y.seq (Y.region (Y.er (.s16 .g2) (Y.ql rfl (aA rfl .c) (Y.nt (Y.ret (Y.j ?_))))))
 refine Y.i (aU rfl .z) .n ?_
 exact⟨by first |(rw [lN (by assumption)];done) |(rw [lM (by assumption) (by assumption)];done) |(rw [lL (by assumption) (by assumption) (by omega)];done) |(rw [kN (by assumption) (by assumption) (by omega)];done),rfl⟩
 refine Y.skip (Y.g (Y.seq (Y.region (Y.er (.s16 .g2) (Y.ql rfl (aA rfl .c) (Y.nt (Y.ret ?_)))))))
 refine Y.i (aU rfl .z) .n ?_
 exact⟨by first |(rw [lN (by assumption)];done) |(rw [lM (by assumption) (by assumption)];done) |(rw [lL (by assumption) (by assumption) (by omega)];done) |(rw [kN (by assumption) (by assumption) (by omega)];done),rfl⟩

theorem aNz {w0:World}{S0:Bs}{f:DFs}{ah:List Value} (h0:dV.ro w0 (FF w0 S0) f ah) (a:Int) (s:ByteArray) (ax:s.size≤140737488351232):
    Calls Tryz.prog 22 #[.agg ah.toArray,.int .i64 a,.string s] w0 (aI w0 S0 (fun r l=>r= .int .i64 (jU f a s)∧l= [])):=by
 obtain⟨aq,ar,rfl,aa,ab⟩:=bZ h0
 obtain⟨ac,ad,rfl,ai,aj,ak,al⟩:=aD aa
 obtain⟨ae,af,rfl,am,an,ao,ap⟩:=aD ab
 refine Y.enter (N:=16) Tryz.func22 rfl rfl (by simp) [(0,.agg #[.slice ac f.inodes.length ad,.slice ae f.data.length af]),(1,.int .i64 a),(2,.string s)] (by simp) (l0:= []) trivial ?_
 refine Y.seq (Y.region ?_)
 refine Y.el rfl (fQ (cs:= [.slice ac f.inodes.length ad,.slice ae f.data.length af]) (n:=2) rfl (.t .z) rfl rfl) ?_
 rintro _ _ ⟨g3,rfl,rfl⟩
 refine Y.ql rfl (aA rfl .c) (Y.nt (Y.seq (Y.seq (Y.region (Y.ql rfl (qW rfl bX (.t .g1) .z bA) (Y.mv rfl .g4 ?_))))))
 refine Y.cl rfl rfl Tryz.func42 rfl rfl (aS (.t .g1) (.t .z)) .n (fun _ _ hs tr=>aOg (aJ f (tr.ctx aa) (tr.ctx ab)) _) ?_
 rintro _ _ ⟨rfl,rfl⟩
 refine Y.m .n ?_
 refine Y.as rfl .z (Y.nt (Y.seq (Y.region (Y.mv rfl .z (Y.ql rfl (bW rfl (.t .z) .c) (Y.nt ?_))))))
 refine Y.ac (.t .z) (fun b4=> ?_) (fun b4=> ?_)
 refine Y.seq (Y.region (Y.mv rfl .g2 (Y.er .g7 (Y.as rfl .z (Y.nt (Y.ret (Y.j ?_)))))))
 refine Y.i (aU rfl .z) .n ?_
 exact⟨by first |(rw [xR (by assumption)];done) |(rw [sT (by assumption)];done),rfl⟩
 have ag:=aIp b4
 have au:=hU ag.1
 obtain⟨av,aw⟩:=ag.2.1
 refine Y.skip (Y.g (Y.seq (Y.region (Y.mv rfl .g10 ?_))))
 refine Y.cl rfl rfl Tryz.func43 rfl rfl (bG (.t .z)) .n (fun _ _ hs tr=>aLp _ (by first | assumption | omega)) ?_
 rintro _ _ ⟨rfl,rfl⟩
 refine Y.m .n ?_
 refine Y.er .g8 (Y.as rfl .z (Y.nt (Y.ret ?_)))
 refine Y.i (aU rfl .z) .n ?_
 exact⟨by first |(rw [xR (by assumption)];done) |(rw [sT (by assumption)];done),rfl⟩

theorem aM0 {w0:World}{S0:Bs}{f:DFs}{ao:Addr} (h0:eV dV w0 (FF w0 S0) ao f) (a:Int) (s:ByteArray) (bu:s.size≤140737488351232) (hp:bQ f.inodes.length a):
    Calls Tryz.prog 23 #[.pointer (some ao),.int .i64 a,.string s] w0 (aI w0 S0 (fun r l=>r= .int .i64 (fX (aG f.inodes a) s)∧l= [])):=by
 obtain⟨bv,bi,bj,bk⟩:=id h0
 obtain⟨bm,bn,rfl,ap,aq⟩:=bZ bj
 obtain⟨bo,bp,rfl,a5,a6,a7,ac⟩:=aD ap
 obtain⟨bq,br,rfl,a8,a9,ba,bb⟩:=aD aq
 obtain⟨bw,bx⟩:=hp
 refine Y.enter (N:=29) Tryz.func23 rfl rfl (by simp) [(0,.pointer (some ao)),(1,.int .i64 a),(2,.string s)] (by simp) (l0:= []) trivial ?_
 refine Y.seq (Y.region (Y.ql rfl (aA rfl .c) (Y.nt (Y.seq (Y.seq (Y.region (Y.mv rfl .g1 ?_)))))))
 refine Y.nc rfl .z (Y.fa rfl .z aP (Y.le rfl bR .z bi bk (Y.mv rfl .g6 ?_)))
 obtain⟨bz,ad,ae⟩:=ac (by omega)
 subst ad
 obtain⟨x4,ar⟩:=aK (xs:=f.inodes) (j:=Int.toNat a) (by omega)
 obtain⟨bs,au,av,aw⟩:=ae.elem ar
 obtain⟨bc,bd,rfl,af,ag⟩:=bY au
 obtain⟨be,bf,rfl,ax,ay,az,a0⟩:=aD af
 obtain⟨ah,ai,rfl,a1,a2,a3,aa⟩:=aD ag
 have b0:=cO (i:=a) ar (by omega)
 have bg:=cP (a:=a) ar (by omega)
 refine Y.ql rfl (aB (j:=Int.toNat a) rfl cQ aT (.t .g1) (.t .z) (by omega) (by omega)) ?_
 refine Y.fa rfl .z bL (Y.le rfl dX .z av aw (Y.ql rfl (bD rfl dP (.t .z)) (Y.ql rfl (aR rfl .c) (Y.nt (Y.block ?_)))))
 refine Y.ai (γ:=Nat) (fun k=> [(18,.int .i64 (k:Int)),(17,.int .i64 (x4.ents.length:Int)),(16,.slice ah x4.ents.length ai),(2,.string s)]) (fun k=> []) (fun k=>k≤x4.ents.length∧∀j e,j<k→x4.ents[j]? =some e→¬e.name=s) (fun k=>x4.ents.length - k) 0 ⟨Nat.zero_le _,eN (q:=fun _ e=>¬bO.name e=s)⟩ (.c .z (.c .g1 (.c .g2 (.c .g13 .n)))) (fun _ h=>h) ?_
 rintro k ⟨hk,hallk⟩
 refine Y.seq (Y.region (Y.ql rfl (dA rfl (.t .z) (.t .g1)) (Y.nt (Y.seq ?_))))
 refine Y.u (.t .z) (fun b8=> ?_) (fun b8=> ?_)
 refine Y.skip (Y.g (Y.seq (Y.block (Y.seq (Y.region ?_)))))
 obtain⟨b1,aj,ak⟩:=aa (by omega)
 subst aj
 obtain⟨b2,ab⟩:=aK (xs:=x4.ents) (j:=k) (by omega)
 obtain⟨bh,al,am,an⟩:=ak.elem ab
 obtain⟨rfl,a4⟩:=eY al
 refine Y.ql rfl (aB (j:=k) rfl dP fA (.t .g3) (.t .g1) rfl (by omega)) ?_
 refine Y.ql rfl (qE rfl tG (.t .z) am an fA) ?_
 refine Y.el rfl (bB rfl aD8 rfl rfl) ?_
 rintro _ _ ⟨g12,rfl,rfl⟩
 refine Y.es (aE rfl) rfl (esW rfl (.t .z) (.t .g1) .z fA rfl rfl) ?_
 refine Y.nt (Y.seq (Y.region (Y.fa rfl .z kM (Y.ld rfl iH .z .z (Y.mv rfl .g9 (Y.ql rfl (sU rfl (.t .g1) (.t .z)) (Y.nil ?_)))))))
 refine Y.g ?_
 refine Y.u (.t .z) (fun bt=> ?_) (fun bt=> ?_)
 refine Y.seq (Y.region (Y.fa rfl .g4 gG (Y.ld rfl bP .z .z (Y.as rfl .z (Y.nt (Y.ret (Y.v ?_)))))))
 refine Y.j (Y.j (Y.v (Y.j ?_)))
 refine Y.i (aU rfl .z) .n ?_
 exact⟨by rw [bg,vE ab (by assumption) hallk],rfl⟩
 refine Y.skip (Y.ab (Y.g (Y.region ?_)))
 refine Y.ql rfl (bN (c:=((k+1:Nat):Int)) rfl (.t .g8) .c (wr (by omega) (by omega) (by omega))) ?_
 refine Y.er .g9 (Y.mv rfl .z (Y.nil ?_))
 refine Y.ae (k+1) ⟨by omega,dS (q:=fun _ e=>¬bO.name e=s) hallk ab (by assumption)⟩ (by first | omega |(dsimp only;omega)) (.c .z (.c .g10 (.c .g11 (.c .g12 .n)))) (fun _ h=>h.sel .n)
 refine Y.exit (Y.y (Y.y (Y.ag (Y.g (Y.seq (Y.region (Y.ql rfl (aA rfl .c) (Y.nil ?_))))))))
 refine Y.g (Y.ret ?_)
 refine Y.i (aU rfl .z) .n ?_
 exact⟨by rw [bg,aIo (k:=k) (by omega) hallk],rfl⟩

theorem sD {w0:World}{S0:Bs}{es:(List bO)}{v0:Value} (h0:dU.ro w0 (FF w0 S0) es [v0]) (s:ByteArray) (aj:s.size≤140737488351232):
    Calls Tryz.prog 102 #[v0,.string s] w0 (aI w0 S0 (fun r l=>r= .int .i64 (eX (dE s) es)∧l= [])):=by
 obtain⟨A0,c0,rfl,ak,al,am,ah⟩:=aD h0
 refine Y.enter (N:=20) Tryz.func102 rfl rfl (by simp) [(0,.slice A0 es.length c0),(1,.string s)] (by simp) (l0:= []) trivial ?_
 refine Y.seq (Y.region (Y.ql rfl (aA rfl .c) (Y.nt (Y.seq (Y.seq (Y.region (Y.ql rfl (aA rfl .c) ?_)))))))
 refine Y.nt (Y.block ?_)
 refine Y.ai (γ:=Nat) (fun k=> [(5,.int .i64 (k:Int)),(0,.slice A0 es.length c0),(1,.string s)]) (fun k=> []) (fun k=>k≤es.length∧∀j e,j<k→es[j]? =some e→dE s e=false) (fun k=>es.length - k) 0 ⟨Nat.zero_le _,eN (q:=fun _ e=>dE s e=false)⟩ (.c .z (.c .g2 (.c .g3 .n))) (fun _ h=>h) ?_
 rintro k ⟨hk,hallk⟩
 refine Y.seq (Y.seq (Y.region (Y.mv rfl .z (Y.mv rfl .g2 (Y.ql rfl (bD rfl dP (.t .z)) (Y.ql rfl (dA rfl (.t .g2) (.t .z)) (Y.nt ?_)))))))
 refine Y.u (.t .z) (fun b2=> ?_) (fun b2=> ?_)
 refine Y.skip (Y.g (Y.seq (Y.block (Y.seq (Y.region (Y.mv rfl .g5 (Y.mv rfl .g5 ?_)))))))
 obtain⟨an,aa,ab⟩:=ah (by omega)
 subst aa
 obtain⟨x4,ac⟩:=aK (xs:=es) (j:=k) (by omega)
 obtain⟨ai,ad,ae,af⟩:=ab.elem ac
 obtain⟨rfl,ag⟩:=eY ad
 refine Y.ql rfl (aB (j:=k) rfl dP fA (.t .g1) (.t .z) rfl (by omega)) ?_
 refine Y.fa rfl .z kM (Y.le rfl iH .z ae af (Y.mv rfl .g11 (Y.ql rfl (sU rfl (.t .g1) (.t .z)) (Y.nt ?_))))
 refine Y.u (.t .z) (fun b6=> ?_) (fun b6=> ?_)
 refine Y.seq (Y.region (Y.mv rfl .g11 (Y.as rfl .z (Y.nt (Y.ret (Y.v (Y.j ?_)))))))
 refine Y.j (Y.v (Y.j ?_))
 refine Y.i (aU rfl .z) .n ?_
 exact⟨by rw [rV ac (decide_eq_true (by assumption)) hallk],rfl⟩
 refine Y.skip (Y.ab (Y.g (Y.region (Y.mv rfl .g11 ?_))))
 refine Y.ql rfl (bN (c:=((k+1:Nat):Int)) rfl (.t .z) .c (wr (by omega) (by omega) (by omega))) ?_
 refine Y.er .g13 (Y.as rfl .z (Y.nil ?_))
 refine Y.ae (k+1) ⟨by omega,dS (q:=fun _ e=>dE s e=false) hallk ac (decide_eq_false (by assumption))⟩ (by first | omega |(dsimp only;omega)) (.c .z (.c .g14 (.c .g15 .n))) (fun _ h=>h)
 refine Y.exit (Y.y (Y.y (Y.ag (Y.g (Y.seq (Y.region (Y.ql rfl (aA rfl .c) (Y.nil ?_))))))))
 refine Y.g (Y.ret ?_)
 refine Y.i (aU rfl .z) .n ?_
 exact⟨by rw [rT (fun j x hx=>hallk j x (by have:=(List.getElem?_eq_some_iff.1 hx).1;omega) hx)],rfl⟩

theorem aLv {w0:World}{S0:Bs}{f:DFs}{ai:List Value} (h0:dV.ro w0 (FF w0 S0) f ai) (a:Int) (s:ByteArray) (ay:s.size≤140737488351232):
    Calls Tryz.prog 10 #[.agg ai.toArray,.int .i64 a,.string s] w0 (aI w0 S0 (aHw (oZ f a s))):=by
 obtain⟨ar,au,rfl,aa,ab⟩:=bZ h0
 obtain⟨ac,ad,rfl,aj,ak,al,am⟩:=aD aa
 obtain⟨ae,af,rfl,an,ao,ap,aq⟩:=aD ab
 refine Y.enter (N:=25) Tryz.func10 rfl rfl (by simp) [(0,.agg #[.slice ac f.inodes.length ad,.slice ae f.data.length af]),(1,.int .i64 a),(2,.string s)] (by simp) (l0:= []) trivial ?_
 refine Y.seq (Y.region ?_)
 refine Y.el rfl (fQ (cs:= [.slice ac f.inodes.length ad,.slice ae f.data.length af]) (n:=2) rfl (.t .z) rfl rfl) ?_
 rintro _ _ ⟨g3,rfl,rfl⟩
 refine Y.el rfl (bB rfl yQ rfl rfl) ?_
 rintro _ _ ⟨g4,rfl,rfl⟩
 refine Y.nt (Y.seq (Y.seq (Y.region (Y.ql rfl (qW rfl bX (.t .g1) .g1 bA) (Y.mv rfl .g4 (Y.mv rfl .g6 ?_))))))
 refine Y.cl rfl rfl Tryz.func22 rfl rfl (eL (.t .g2) (.t .g1) (.t .z)) .n (fun _ _ hs tr=>aNz (aJ f (tr.ctx aa) (tr.ctx ab)) _ _ (by first | assumption | omega)) ?_
 rintro _ _ ⟨rfl,rfl⟩
 refine Y.m .n ?_
 refine Y.as rfl .z (Y.nt (Y.seq (Y.region (Y.mv rfl .z (Y.ql rfl (bW rfl (.t .z) .c) (Y.nt ?_))))))
 refine Y.ac (.t .z) (fun b5=> ?_) (fun b5=> ?_)
 refine Y.seq (Y.region (Y.mv rfl .g2 (Y.ql rfl (aW (cs:= [.int .i64 (jU f a s),.int .i64 0]) rfl yI (pv1 (.t .z)) rfl) ?_)))
 refine Y.es (aE rfl) rfl (esW rfl (.t .g9) (.t .z) .z kH rfl rfl) ?_
 refine Y.nt (Y.ret (Y.j ?_))
 refine Y.i (cU rfl .g9 tS .z kH) .n ?_
 first |(rw [aAs (by assumption)];exact⟨rfl,rfl⟩) |(rw [aA4 (by assumption) (by assumption)];exact⟨rfl,rfl⟩) |(rw [wJ (by assumption) (by assumption)];exact⟨rfl,rfl⟩)
 have ah:=aLj b5
 have ag:=aIp ah
 have av:=hU ag.1
 obtain⟨aw,ax⟩:=ag.2.1
 refine Y.skip (Y.g (Y.seq (Y.region (Y.mv rfl .g10 (Y.mv rfl .g12 ?_)))))
 refine Y.cl rfl rfl Tryz.func23 rfl rfl (eL (.t .g10) (.t .g1) (.t .z)) .n (fun _ _ hs tr=>aM0 (tr.ptr .g1 (aJ f (tr.ctx aa) (tr.ctx ab))) _ _ (by first | assumption | omega) (by first | assumption |(constructor <;> omega))) ?_
 rintro _ _ ⟨rfl,rfl⟩
 refine Y.m .n ?_
 refine Y.as rfl .z (Y.nt (Y.seq (Y.seq (Y.region (Y.mv rfl .z (Y.ql rfl (dA rfl (.t .z) .c) (Y.nil ?_)))))))
 refine Y.g ?_
 refine Y.u (.t .z) (fun b7=> ?_) (fun b7=> ?_)
 refine Y.seq (Y.region (Y.ql rfl (aW (cs:= [.int .i64 4,.int .i64 0]) rfl yI (pv1 .c) rfl) ?_))
 refine Y.es (aE rfl) rfl (esW rfl (.t .g14) (.t .z) .z kH rfl rfl) ?_
 refine Y.nt (Y.ret (Y.j ?_))
 refine Y.i (cU rfl .g14 tS .z kH) .n ?_
 first |(rw [aAs (by assumption)];exact⟨rfl,rfl⟩) |(rw [aA4 (by assumption) (by assumption)];exact⟨rfl,rfl⟩) |(rw [wJ (by assumption) (by assumption)];exact⟨rfl,rfl⟩)
 refine Y.skip (Y.g (Y.seq (Y.region (Y.mv rfl .g2 (Y.ql rfl (aW (cs:= [.int .i64 0,.int .i64 (fX (aG (f).inodes a) s)]) rfl yI (pv1 (.t .z)) rfl) ?_)))))
 refine Y.es (aE rfl) rfl (esW rfl (.t .g15) (.t .z) .z kH rfl rfl) ?_
 refine Y.nt (Y.ret ?_)
 refine Y.i (cU rfl .g15 tS .z kH) .n ?_
 first |(rw [aAs (by assumption)];exact⟨rfl,rfl⟩) |(rw [aA4 (by assumption) (by assumption)];exact⟨rfl,rfl⟩) |(rw [wJ (by assumption) (by assumption)];exact⟨rfl,rfl⟩)

theorem aM4 {w0:World}{S0:Bs}{f:DFs}{bo:List Value} (h0:dV.ro w0 (FF w0 S0) f bo) (a:Int):
    Calls Tryz.prog 116 #[.agg bo.toArray,.int .i64 a] w0 (aI w0 S0 (aIh (uZ f a))):=by
 obtain⟨b3,b4,rfl,ar,au⟩:=bZ h0
 obtain⟨av,ag,rfl,bp,bq,br,aw⟩:=aD ar
 obtain⟨ah,ai,rfl,bs,bt,bu,bv⟩:=aD au
 refine Y.enter (N:=42) Tryz.func116 rfl rfl (by simp) [(0,.agg #[.slice av f.inodes.length ag,.slice ah f.data.length ai]),(1,.int .i64 a)] (by simp) (l0:= []) trivial ?_
 refine Y.seq (Y.region ?_)
 refine Y.el rfl (fQ (cs:= [.slice av f.inodes.length ag,.slice ah f.data.length ai]) (n:=2) rfl (.t .z) rfl rfl) ?_
 rintro _ _ ⟨g3,rfl,rfl⟩
 refine Y.el rfl (bB rfl aGd rfl rfl) ?_
 rintro _ _ ⟨g4,rfl,rfl⟩
 refine Y.nt (Y.seq (Y.seq (Y.region (Y.mv rfl .g3 ?_))))
 refine Y.cl rfl rfl Tryz.func140 rfl rfl (aS (.t .g2) (.t .z)) .n (fun _ _ hs tr=>aMg (tr.ptr .g1 (aJ f (tr.ctx ar) (tr.ctx au))) _) ?_
 rintro _ _ ⟨rfl,rfl⟩
 refine Y.m .n ?_
 refine Y.as rfl .z (Y.nt (Y.seq (Y.region (Y.mv rfl .z (Y.ql rfl (bW rfl (.t .z) .c) (Y.nt ?_))))))
 refine Y.ac (.t .z) (fun b5=> ?_) (fun b5=> ?_)
 refine Y.seq (Y.region (Y.mv rfl .g2 (Y.ql rfl (aW (cs:= [.int .i64 (fK f a),.slice none 0 0]) rfl zG (pv1 (.t .z)) rfl) ?_)))
 refine Y.es (aE rfl) rfl (esW rfl (.t .g7) (.t .z) .z nF rfl rfl) ?_
 refine Y.nt (Y.ret (Y.j ?_))
 refine Y.add (c:=aH cT [] [.slice none 0 0]) (fun w S=>aL w S none) ?_
 refine Y.i (cU rfl .g7 yL .g1 nF) (.c .z .n) ?_
 first |(rw [aBu (by assumption)];exact⟨_,rfl,rfl⟩) |(rw [aCu (by assumption)];exact⟨_,rfl,rfl⟩)
 have ax:=aIp b5
 have ba:=hU ax.1
 obtain⟨b6,b7⟩:=ax.2.1
 refine Y.skip (Y.g (Y.seq (Y.region (Y.ql rfl (aW (cs:= [.int .i64 0,.slice none 0 0]) rfl zG pv0 rfl) ?_))))
 refine Y.el rfl (bB rfl aGd rfl rfl) ?_
 rintro _ _ ⟨g8,rfl,rfl⟩
 refine Y.es (aE rfl) rfl (esW rfl (.t .z) (.t .g1) .z nF rfl rfl) ?_
 refine Y.nt (Y.seq (Y.seq (Y.region (Y.ql rfl (aA rfl .c) (Y.nt (Y.block ?_))))))
 refine Y.add (c:=aH cT [] [.slice none 0 0]) (fun w S=>aL w S none) ?_
 obtain⟨bb,aj,ak⟩:=aw (by omega)
 subst aj
 obtain⟨al,ac⟩:=aK (xs:=f.inodes) (j:=Int.toNat a) (by omega)
 obtain⟨bw,ay,ae,af⟩:=ak.elem ac
 obtain⟨bc,bd,rfl,am,an⟩:=bY ay
 obtain⟨be,bf,rfl,a3,a4,a5,a6⟩:=aD am
 obtain⟨bg,bh,rfl,a7,a8,a9,ad⟩:=aD an
 have b8:=cO (i:=a) ac (by omega)
 have bi:=cP (a:=a) ac (by omega)
 have az:=dM ba _ (List.mem_of_getElem? ac)
 refine Y.ai (γ:=Nat×(Option Addr)×Nat) (fun⟨k,aa,ab⟩=> [(7,.int .i64 (k:Int)),(6,.pointer (some ⟨g8,0,none⟩)),(4,.pointer (some ⟨g4,0,none⟩)),(2,.pointer (some ⟨g3,0,none⟩)),(1,.int .i64 a)]) (fun⟨k,aa,ab⟩=> [aH cT (mQ al.ents k) [.slice aa (mQ al.ents k).length ab],bV g8 31 2 1 [.int .i64 0,.slice aa (mQ al.ents k).length ab],bV g4 31 2 1 [.int .i64 0,.slice none 0 0],bV g3 27 2 1 [.slice (some bb) f.inodes.length ag,.slice ah f.data.length ai]]) (fun⟨k,aa,ab⟩=>k≤al.ents.length) (fun⟨k,aa,ab⟩=>al.ents.length - k) (0,none,0) (Nat.zero_le _) (.c .z (.c .g1 (.c .g8 (.c .g9 (.c .g11 .n))))) (fun _ h=>h.sel (.c .z (.c .z (.c .z (.c .z .n))))) ?_
 rintro⟨k,aa,ab⟩ hk
 have hnl:=aCq (es:=al.ents) (k:=k)
 refine Y.seq (Y.seq (Y.region (Y.mv rfl .z (Y.fa rfl .g4 aP (Y.ld rfl bR .z .g3 (Y.mv rfl .g7 ?_))))))
 refine Y.ql rfl (aB (j:=Int.toNat a) rfl cQ aT (.t .g1) (.t .z) (by omega) (by omega)) ?_
 refine Y.fa rfl .z bL (Y.le rfl dX .z ae af (Y.ql rfl (bD rfl dP (.t .z)) (Y.ql rfl (dA rfl (.t .g7) (.t .z)) (Y.nt ?_))))
 refine Y.u (.t .z) (fun b9=> ?_) (fun b9=> ?_)
 refine Y.skip (Y.g (Y.seq (Y.block ?_)))
 refine Y.dr .g1 15 fR ?_
 refine Y.sc (qs 0 12++ [(12,false),(13,false),(14,true),(15,false)]) (by kernel_rfl) ?_
 refine Y.df rfl rfl .g1 .g10 mP (Y.dl rfl rfl .g1 rF .z .z (Y.df rfl rfl .g1 .g14 aP (Y.dl rfl rfl .g1 bR .z .g2 (Y.dm rfl rfl .g1 (.s16 .g1) ?_))))
 refine Y.dk rfl rfl .g1 (aB (j:=Int.toNat a) rfl cQ aT (.t .g1) (.t .z) (by omega) (by omega)) ?_
 refine Y.df rfl rfl .g1 .z bL (Y.de rfl rfl .g1 dX .z ae af (Y.dm rfl rfl .g1 (.s16 .g1) ?_))
 obtain⟨ca,ao,ap⟩:=ad (by omega)
 subst ao
 obtain⟨bj,aq⟩:=aK (xs:=al.ents) (j:=k) (by omega)
 obtain⟨bx,a0,a1,a2⟩:=ap.elem aq
 obtain⟨rfl,bk⟩:=eY a0
 have bz:=oN az _ _ aq
 refine Y.dk rfl rfl .g1 (aB (j:=k) rfl dP fA (.t .g1) (.t .z) rfl (by omega)) ?_
 refine Y.df rfl rfl .g1 .z kM (Y.de rfl rfl .g1 iH .z a1 a2 ?_)
 refine Y.e (aC rfl rfl) rfl (by decide) rfl (aQ (cs:= [.string bj.name]) rfl eQ (inz jK) (by decide) (pv1 (.t .z)) rfl rfl (by decide) rfl rfl) ?_
 rintro _ _ ⟨g19,rfl,rfl⟩
 refine Y.sk .g2 ?_
 refine Y.add (c:=aH pQ bj.name [.string bj.name]) (fun _ _=>⟨rfl,by assumption⟩) ?_
 refine Y.e (aC rfl rfl) rfl (by decide) rfl (dK rfl eQ jK rfl (.t .g11) (.t .z) (.c .g2 (.c .g1 (.c .z .n))) (by first | omega |(simp only [List.length_append,List.length_take,List.length_nil,List.length_cons];omega)) (by first | omega |(simp only [List.length_append,List.length_take,List.length_nil,List.length_cons];omega))) ?_
 rintro _ _ rfl
 refine Y.ah .z (aGm aq) ?_
 refine Y.h (WS.a .z) ?_
 rintro⟨bm,bn,rfl,b0,b1,b2⟩
 refine Y.sk .g1 ?_
 refine Y.df rfl rfl .g1 (.s16 .g8) mP ?_
 refine Y.es (aC rfl rfl) rfl (es1 (off:=1) rfl aHq (.t .z) (.t .g1) rfl rfl .g1 rfl .g1) ?_
 refine Y.sl rfl ?_
 refine Y.w ?_
 refine Y.af (by kernel_rfl) ?_
 refine Y.ab (Y.g (Y.region (Y.mv rfl (.s16 .g8) ?_)))
 refine Y.ql rfl (bN (c:=((k+1:Nat):Int)) rfl (.t .z) .c (wr (by omega) (by omega) (by omega))) ?_
 refine Y.er (.s16 .g10) (Y.as rfl .z (Y.nil ?_))
 refine Y.ae ((k+1),bm,bn) (by omega) (by first | omega |(dsimp only;omega)) (.c .z (.c (.s16 .g11) (.c (.s16 .g12) (.c (.s16 .g13) (.c (.s16 .g14) .n))))) (fun _ h=>h.sel (.c .g1 (.c .z (.c .z (.c .z .n)))))
 refine Y.exit (Y.y (Y.y (Y.ag (Y.g (Y.seq (Y.region (Y.ql rfl (qW rfl yL (.t .g10) .g1 nF) ?_)))))))
 refine Y.es (aE rfl) rfl (esW rfl (.t .g12) (.t .z) .g2 nF rfl rfl) ?_
 refine Y.nt (Y.ret ?_)
 refine Y.ah (x':=tX (aG f.inodes a)) .g1 (by rw [bi];exact aB6 (by omega)) ?_
 refine Y.i (cU rfl .g12 yL .g1 nF) (.c .z .n) ?_
 first |(rw [aBu (by assumption)];exact⟨_,rfl,rfl⟩) |(rw [aCu (by assumption)];exact⟨_,rfl,rfl⟩)

end Go.Proofs.YtmejbfmhaoilmaaGreatDoor

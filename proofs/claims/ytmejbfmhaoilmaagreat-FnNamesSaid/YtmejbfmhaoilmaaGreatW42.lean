/- What is proved: contracts of functions, one a function. No condition. -/
import Derived.Test.YtmejbfmhaoilmaaGreatBase1
import Derived.Test.YtmejbfmhaoilmaaGreatW40
namespace Go.Proofs.YtmejbfmhaoilmaaGreat
open Go Go.RowKit
set_option linter.unusedVariables false
set_option linter.unusedSimpArgs false
set_option maxHeartbeats 1000000
set_option maxRecDepth 20000
theorem aN1 {w0:World}{S0:Bs}{f:DFs}{a3:List Value} (h0:eU.ro w0 (FF w0 S0) f a3) (a:Int) (i:Int) {L:(List UInt8)}{v3:Value} (h3:cX.ro w0 (FF w0 S0) L [v3]) {b:(List Int)}{v4:Value} (h4:bY.ro w0 (FF w0 S0) b [v4]):
    Calls Tryz.prog 25 #[.agg a3.toArray,.int .i64 a,.int .i64 i,v3,v4] w0 (aJ w0 S0 (vY (hY f a i L b))):=by
 obtain⟨bx,bz,rfl,ad,ae⟩:=cY h0
 obtain⟨ag,ah,rfl,a4,a5,a6,a7⟩:=aH ad
 obtain⟨ai,aj,rfl,a8,a9,ba,bb⟩:=aH ae
 obtain⟨A3,c3,rfl,ce,cf,cg,b0⟩:=aH h3
 obtain⟨A4,c4,rfl,ch,ci,cj,ck⟩:=aH h4
 refine Y.enter (N:=69) Tryz.func25 rfl rfl (by simp) [(0,.agg #[.slice ag f.inodes.length ah,.slice ai f.data.length aj]),(1,.int .i64 a),(2,.int .i64 i),(3,.slice A3 L.length c3),(4,.slice A4 b.length c4)] (by simp) (l0:= []) trivial ?_
 refine Y.seq (Y.region ?_)
 refine Y.el rfl (fT (cs:= [.slice ag f.inodes.length ah,.slice ai f.data.length aj]) (n:=2) rfl (.t .z) rfl rfl) ?_
 rintro _ _ ⟨g5,rfl,rfl⟩
 refine Y.el rfl (bL rfl xC rfl rfl) ?_
 rintro _ _ ⟨g6,rfl,rfl⟩
 refine Y.nt (Y.seq (Y.seq (Y.region (Y.mv rfl .g3 (Y.mv rfl .g7 ?_)))))
 refine Y.cl rfl rfl Tryz.func66 rfl rfl (dX (.t .g3) (.t .g1) (.t .z)) .n (fun _ _ hs tr=>aNk (tr.ptr .g1 (aM f (tr.ctx ad) (tr.ctx ae))) _ (tr.ctx h4)) ?_
 rintro _ _ ⟨rfl,rfl⟩
 refine Y.m .n ?_
 refine Y.as rfl .z (Y.nt (Y.seq (Y.region (Y.mv rfl .z (Y.ql rfl (cU rfl (.t .z) .c) (Y.nt ?_))))))
 refine Y.ad (.t .z) (fun b7=> ?_) (fun b7=> ?_)
 have aq:¬jU f a b=0:=b7
 refine Y.seq (Y.region (Y.mv rfl .g2 (Y.ql rfl (aZ (cs:= [.int .i64 (jU f a b),.slice none 0 0,.slice none 0 0]) rfl kW (pv1 (.t .z)) rfl) ?_)))
 refine Y.es (aD rfl) rfl (esW rfl (.t .g8) (.t .z) .z fC rfl rfl) ?_
 refine Y.nt (Y.ret (Y.r ?_))
 refine Y.add (c:=aG aP [] [.slice none 0 0]) (fun w S=>aN w S none) ?_
 refine Y.add (c:=aG cG [] [.slice none 0 0]) (fun w S=>aN w S none) ?_
 refine Y.i (dD rfl .g8 kE .g2 fC) (.c .g1 (.c .z .n)) ?_
 first |(rw [rS aq];exact⟨_,_,rfl,rfl⟩) |(rw [rH ac (by omega)];exact⟨_,_,rfl,rfl⟩) |(rw [qV ac (by omega) (by omega)];exact⟨_,_,rfl,rfl⟩) |(rw [qY ac (by omega) (by omega) (by omega)];exact⟨_,_,rfl,rfl⟩) |(rw [rL ac (by omega) (by omega) (by omega)];exact⟨_,_,rfl,rfl⟩)
 have ac:jU f a b=0:=b7
 obtain⟨hbc,hbz⟩:=wOk ac
 obtain⟨hF,⟨hpa,hpb⟩,cm,cn⟩:=aBa hbc
 have ht:=xF hF
 have hI:=iY ht
 have hd:=qN ht
 have hB:=sJ hI a
 have hfl:=uZ ht a
 refine Y.skip (Y.g (Y.seq (Y.seq (Y.region (Y.mv rfl .g10 ?_)))))
 refine Y.cl rfl rfl Tryz.func46 rfl rfl (dX (.t .z) .c .c) .n (fun _ _ hs tr=>xL _ _ _) ?_
 rintro _ _ ⟨rfl,rfl⟩
 refine Y.m .n ?_
 refine Y.ql rfl (fN rfl (.t .z)) (Y.nt ?_)
 refine Y.ad (.t .z) (fun b1=> ?_) (fun b1=> ?_)
 refine Y.seq (Y.region (Y.ql rfl (aZ (cs:= [.int .i64 3,.slice none 0 0,.slice none 0 0]) rfl kW (pv1 .c) rfl) ?_))
 refine Y.es (aD rfl) rfl (esW rfl (.t .g10) (.t .z) .z fC rfl rfl) ?_
 refine Y.nt (Y.ret (Y.r ?_))
 refine Y.add (c:=aG aP [] [.slice none 0 0]) (fun w S=>aN w S none) ?_
 refine Y.add (c:=aG cG [] [.slice none 0 0]) (fun w S=>aN w S none) ?_
 refine Y.i (dD rfl .g10 kE .g2 fC) (.c .g1 (.c .z .n)) ?_
 first |(rw [rS aq];exact⟨_,_,rfl,rfl⟩) |(rw [rH ac (by omega)];exact⟨_,_,rfl,rfl⟩) |(rw [qV ac (by omega) (by omega)];exact⟨_,_,rfl,rfl⟩) |(rw [qY ac (by omega) (by omega) (by omega)];exact⟨_,_,rfl,rfl⟩) |(rw [rL ac (by omega) (by omega) (by omega)];exact⟨_,_,rfl,rfl⟩)
 refine Y.skip (Y.g (Y.seq (Y.seq (Y.region (Y.mv rfl .g13 (Y.mv rfl .g15 (Y.ql rfl (bM rfl gV (.t .z)) ?_)))))))
 refine Y.ql rfl (bQ (c:=i+(L.length:Int)) rfl (.t .g2) (.t .z) (wr (by omega) (by omega) (by omega))) ?_
 refine Y.ql rfl (gO rfl (.t .z) .c) (Y.nt ?_)
 refine Y.u (.t .z) (fun b2=> ?_) (fun b2=> ?_)
 refine Y.seq (Y.region (Y.ql rfl (aZ (cs:= [.int .i64 2,.slice none 0 0,.slice none 0 0]) rfl kW (pv1 .c) rfl) ?_))
 refine Y.es (aD rfl) rfl (esW rfl (.t .g15) (.t .z) .z fC rfl rfl) ?_
 refine Y.nt (Y.ret (Y.r ?_))
 refine Y.add (c:=aG aP [] [.slice none 0 0]) (fun w S=>aN w S none) ?_
 refine Y.add (c:=aG cG [] [.slice none 0 0]) (fun w S=>aN w S none) ?_
 refine Y.i (dD rfl .g15 kE .g2 fC) (.c .g1 (.c .z .n)) ?_
 first |(rw [rS aq];exact⟨_,_,rfl,rfl⟩) |(rw [rH ac (by omega)];exact⟨_,_,rfl,rfl⟩) |(rw [qV ac (by omega) (by omega)];exact⟨_,_,rfl,rfl⟩) |(rw [qY ac (by omega) (by omega) (by omega)];exact⟨_,_,rfl,rfl⟩) |(rw [rL ac (by omega) (by omega) (by omega)];exact⟨_,_,rfl,rfl⟩)
 refine Y.skip (Y.g (Y.seq (Y.seq (Y.region (Y.mv rfl (.s16 .g3) (Y.ql rfl (bM rfl gV (.t .z)) (Y.ql rfl (bZ rfl (.t .z) .c) (Y.nil ?_))))))))
 refine Y.g ?_
 refine Y.u (.t .z) (fun b3=> ?_) (fun b3=> ?_)
 refine Y.seq (Y.region (Y.ql rfl (qW rfl bI (.t (.s16 .g2)) .g1 aW) ?_))
 refine Y.cl rfl rfl Tryz.func67 rfl rfl (bT (.t .z)) .n (fun _ _ hs tr=>vJ (aM f (tr.ctx ad) (tr.ctx ae))) ?_
 rintro _ _ ⟨co,cp,rfl,rfl⟩
 refine Y.m (.c (.c .n)) ?_
 refine Y.h (WS.a .z) ?_
 rintro⟨aw,ax,rfl,bc,bd,be⟩
 refine Y.h (WS.a .g1) ?_
 rintro⟨ay,az,rfl,bf,bg,bh⟩
 refine Y.ql rfl (aZ (cs:= [.int .i64 0,.slice aw f.inodes.length ax,.slice ay f.data.length az]) rfl kW (pv1 (.t .z)) rfl) ?_
 refine Y.es (aD rfl) rfl (esW rfl (.t (.s16 .g4)) (.t .z) .g2 fC rfl rfl) ?_
 refine Y.nt (Y.ret (Y.r ?_))
 refine Y.i (dD rfl (.s16 .g4) kE .z fC) (.c .g1 (.c .g1 .n)) ?_
 first |(rw [rS aq];exact⟨_,_,rfl,rfl⟩) |(rw [rH ac (by omega)];exact⟨_,_,rfl,rfl⟩) |(rw [qV ac (by omega) (by omega)];exact⟨_,_,rfl,rfl⟩) |(rw [qY ac (by omega) (by omega) (by omega)];exact⟨_,_,rfl,rfl⟩) |(rw [rL ac (by omega) (by omega) (by omega)];exact⟨_,_,rfl,rfl⟩)
 refine Y.skip (Y.g (Y.seq (Y.region (Y.mv rfl (.s16 .g4) ?_))))
 refine Y.cl rfl rfl Tryz.func68 rfl rfl (aX (.t (.s16 .g3)) (.t .z)) .n (fun _ _ hs tr=>aK1 (tr.ptr .g1 (aM f (tr.ctx ad) (tr.ctx ae))) _ (by assumption) (by first | assumption |(constructor <;> omega))) ?_
 rintro _ _ rfl
 refine Y.m (.c .n) ?_
 refine Y.h (WS.a .z) ?_
 rintro⟨ak,al,rfl,bi,bj,bk⟩
 refine Y.as rfl .z (Y.nt (Y.seq (Y.block ?_)))
 have am:cQ f a=cQ f a++List.replicate 0 0:=(aGo _)
 refine Y.af .z am ?_
 refine Y.ak .z (congrArg (fun z_:Nat=>(aG cX (cQ f a++List.replicate 0 0) [.slice ak z_ al]:Asn)) (congrArg List.length am)) ?_
 refine Y.eq .z (congrArg (fun z_:Nat=>(.slice ak z_ al:Value)) (congrArg List.length am)) ?_
 refine Y.eq .g1 (congrArg (fun z_:Nat=>(.slice ak z_ al:Value)) (congrArg List.length am)) ?_
 refine Y.aj (γ:=Nat×(Option Addr)×Nat) (fun⟨k,aa,ab⟩=> [(12,.slice aa (cQ f a++List.replicate k 0).length ab),(10,.pointer (some ⟨g6,0,none⟩)),(5,.pointer (some ⟨g5,0,none⟩)),(1,.int .i64 a),(2,.int .i64 i),(3,.slice A3 L.length c3),(4,.slice A4 b.length c4)]) (fun⟨k,aa,ab⟩=> [aG cX (cQ f a++List.replicate k 0) [.slice aa (cQ f a++List.replicate k 0).length ab],cM g6 48 3 1 [.int .i64 0,.slice none 0 0,.slice none 0 0],cM g5 27 2 1 [.slice ag f.inodes.length ah,.slice ai f.data.length aj]]) (fun⟨k,aa,ab⟩=>k≤Int.toNat (i+(L.length:Int)) - (cQ f a).length) (fun⟨k,aa,ab⟩=>Int.toNat (i+(L.length:Int)) - (cQ f a).length - k) (0,ak,al) (Nat.zero_le _) (.c .g1 (.c (.s16 .g4) (.c (.s16 .g5) (.c (.s16 .g7) (.c (.s16 .g8) (.c (.s16 .g9) (.c (.s16 .g10) .n))))))) (fun _ h=>h.sel (.c .z (.c .z (.c .z .n)))) ?_
 rintro⟨k,aa,ab⟩ hk
 have hpl:=yH (L:=cQ f a) (k:=k)
 refine Y.seq (Y.seq (Y.region (Y.mv rfl .z (Y.ql rfl (bM rfl gV (.t .z)) (Y.mv rfl .g6 (Y.mv rfl .g8 (Y.ql rfl (bM rfl gV (.t .z)) ?_)))))))
 refine Y.ql rfl (bQ (c:=i+(L.length:Int)) rfl (.t .g2) (.t .z) (wr (by omega) (by omega) (by omega))) ?_
 refine Y.ql rfl (dJ rfl (.t .g4) (.t .z)) (Y.nt ?_)
 refine Y.u (.t .z) (fun b4=> ?_) (fun b4=> ?_)
 refine Y.skip (Y.g (Y.block (Y.region (Y.mv rfl .g7 ?_))))
 refine Y.el rfl (aS (cs:= [.int .u8 0]) rfl gV (inz kB) (by decide) (pv1 .c) rfl rfl (by decide) rfl rfl) ?_
 rintro _ _ ⟨g27,rfl,rfl⟩
 refine Y.add (c:=aG sZ (0:UInt8) [.int .u8 0]) (fun _ _=>⟨rfl,trivial⟩) ?_
 refine Y.el rfl (dU rfl gV kB rfl (.t .g1) (.t .z) (.c .g2 (.c .g1 (.c .z .n))) (by first | omega |(simp <;> omega)) (by first | omega |(simp <;> omega))) ?_
 rintro _ _ rfl
 refine Y.af .z aGx ?_
 refine Y.h (WS.a .z) ?_
 rintro⟨a0,a1,rfl,bm,bn,bo⟩
 refine Y.er .g10 (Y.as rfl .z (Y.nil (Y.ac ?_)))
 refine Y.ae ((k+1),a0,a1) (by omega) (by first | omega |(dsimp only;omega)) (.c .z (.c .g11 (.c .g12 (.c .g13 (.c .g14 (.c .g15 (.c .g16 .n))))))) (fun _ h=>h.sel (.c .z (.c .z (.c .z .n))))
 refine Y.exit (Y.ab (Y.ab (Y.ai (Y.g (Y.seq (Y.seq (Y.region (Y.ql rfl (aA rfl .c) ?_))))))))
 refine Y.nt (Y.block ?_)
 have af:cQ f a++List.replicate k 0=oK (cQ f a) (i+(L.length:Int)):=(aBn (by omega) (by omega))
 refine Y.eq .g1 (congrArg (fun z_=>(.bool (decide (((z_).length:Int)<i+(L.length:Int))):Value)) af) ?_
 refine Y.eq .g6 (congrArg (fun z_=>(.int .i64 ((z_).length:Int):Value)) af) ?_
 refine Y.eq .g7 (congrArg (fun z_=>(.slice aa (z_).length ab:Value)) af) ?_
 refine Y.eq .g8 (congrArg (fun z_=>(.slice aa (z_).length ab:Value)) af) ?_
 refine Y.ak .z (congrArg (fun z_=>(aG cX (z_) [.slice aa (z_).length ab]:Asn)) af) ?_
 have hzl:= @tO (cQ f a) (i+(L.length:Int))
 refine Y.af (x':=uO (oK (cQ f a) (i+(L.length:Int))) (Int.toNat i) L 0) .z (aKm _ _ _) ?_
 refine Y.aj (γ:=Nat) (fun q=> [(12,.slice aa (oK (cQ f a) (i+(L.length:Int))).length ab),(13,.int .i64 (q:Int)),(10,.pointer (some ⟨g6,0,none⟩)),(5,.pointer (some ⟨g5,0,none⟩)),(1,.int .i64 a),(2,.int .i64 i),(3,.slice A3 L.length c3),(4,.slice A4 b.length c4)]) (fun q=> [aG cX (uO (oK (cQ f a) (i+(L.length:Int))) (Int.toNat i) L q) [.slice aa (oK (cQ f a) (i+(L.length:Int))).length ab],cM g6 48 3 1 [.int .i64 0,.slice none 0 0,.slice none 0 0],cM g5 27 2 1 [.slice ag f.inodes.length ah,.slice ai f.data.length aj]]) (fun q=>q≤L.length) (fun q=>L.length - q) 0 (Nat.zero_le _) (.c .z (.c .g4 (.c .g9 (.c .g10 (.c .g11 (.c .g12 (.c .g13 (.c .g14 .n)))))))) (fun _ h=>h.sel (.c .z (.c .z (.c .z .n)))) ?_
 rintro q hq
 have hpq:(uO (oK (cQ f a) (i+(L.length:Int))) (Int.toNat i) L q).length=(oK (cQ f a) (i+(L.length:Int))).length:=aGb (by omega) (by omega)
 refine Y.seq (Y.seq (Y.region (Y.mv rfl .g1 (Y.mv rfl .g7 (Y.ql rfl (bM rfl gV (.t .z)) (Y.ql rfl (dJ rfl (.t .g2) (.t .z)) (Y.nt ?_)))))))
 refine Y.u (.t .z) (fun b5=> ?_) (fun b5=> ?_)
 refine Y.skip (Y.g (Y.seq (Y.block (Y.region (Y.mv rfl .g4 (Y.mv rfl .g10 (Y.mv rfl .g7 ?_)))))))
 refine Y.ql rfl (bQ (c:=i+(q:Int)) rfl (.t .g1) (.t .z) (wr (by omega) (by omega) (by omega))) ?_
 refine Y.mv rfl .g14 (Y.mv rfl .g10 ?_)
 obtain⟨b6,an,ao⟩:=b0 (by omega)
 subst an
 obtain⟨bp,ap⟩:=aI (xs:=L) (j:=q) (by first | omega |(rw [hpq];omega))
 obtain⟨bq,ar,au,av⟩:=ao.elem ap
 obtain⟨rfl,b8⟩:=ar
 refine Y.ql rfl (aC (j:=q) rfl gV aAf (.t .g1) (.t .z) rfl (by first | omega |(rw [hpq];omega))) ?_
 refine Y.ql rfl (aL rfl aKk (.t .z) (WS.j au av rfl)) ?_
 refine Y.h (WS.i .z (by omega)) ?_
 rintro⟨b9,rfl⟩
 refine Y.ql rfl (aC (j:=Int.toNat (i+(q:Int))) rfl gV aAf (.t .g7) (.t .g4) (by omega) (by first | omega |(rw [hpq];omega))) ?_
 refine Y.add (c:=aG sZ bp [.int .u8 (bp.toNat:Int)]) (fun _ _=>⟨rfl,trivial⟩) ?_
 refine Y.es (aD rfl) rfl (oH (j:=Int.toNat (i+(q:Int))) rfl aAf (.t .z) (.t .g1) rfl (.c .g1 (.c .z .n)) (by first | omega |(rw [hpq];omega))) ?_
 refine Y.af .z (by first | exact aG1 ap (by omega) |(rw [show Int.toNat (i+(q:Int))=Int.toNat i+q by omega,aG1 ap (by omega)])) ?_
 refine Y.nil (Y.ac (Y.g (Y.region (Y.mv rfl .g14 ?_))))
 refine Y.ql rfl (bQ (c:=((q+1:Nat):Int)) rfl (.t .z) .c (wr (by omega) (by omega) (by omega))) ?_
 refine Y.er .g16 (Y.as rfl .z (Y.nil ?_))
 refine Y.ae (q+1) (by omega) (by first | omega |(dsimp only;omega)) (.c .g16 (.c .z (.c (.s16 .g1) (.c (.s16 .g2) (.c (.s16 .g3) (.c (.s16 .g4) (.c (.s16 .g5) (.c (.s16 .g6) .n)))))))) (fun _ h=>h.sel (.c .z (.c .z (.c .z .n))))
 refine Y.exit (Y.ab (Y.ab (Y.ai (Y.g (Y.seq (Y.region (Y.ql rfl (qW rfl bI (.t .g7) .g2 aW) (Y.mv rfl .g9 ?_))))))))
 refine Y.mv rfl .g6 (Y.mv rfl .g14 ?_)
 have a2:uO (oK (cQ f a) (i+(L.length:Int))) (Int.toNat i) L q=aDs f a i L:=(aG0 (by omega) (by omega))
 refine Y.ak .z (congrArg (fun z_=>(aG cX (z_) [.slice aa (oK (cQ f a) (i+(L.length:Int))).length ab]:Asn)) a2) ?_
 refine Y.cl rfl rfl Tryz.func69 rfl rfl (oT (.t .g3) (.t .g2) (.t .g1) (.t .z)) .n (fun _ _ hs tr=>aNf (aM f (tr.ctx ad) (tr.ctx ae)) _ (tr.own .z) (tr.ctx h4) (by assumption) (by first | assumption |(constructor <;> omega)) (by assumption)) ?_
 rintro _ _ ⟨cq,cr,rfl,rfl⟩
 refine Y.m (.c (.c .n)) ?_
 refine Y.h (WS.a .z) ?_
 rintro⟨ca,cb,rfl,br,bs,bt⟩
 refine Y.h (WS.a .g1) ?_
 rintro⟨cc,cd,rfl,bu,bv,bw⟩
 refine Y.es (aD rfl) rfl (esW rfl (.t .g11) (.t .z) .g3 fC rfl rfl) ?_
 refine Y.nt (Y.ret ?_)
 refine Y.i (dD rfl .g11 kE .z fC) (.c .g1 (.c .g1 .n)) ?_
 first |(rw [rS aq];exact⟨_,_,rfl,rfl⟩) |(rw [rH ac (by omega)];exact⟨_,_,rfl,rfl⟩) |(rw [qV ac (by omega) (by omega)];exact⟨_,_,rfl,rfl⟩) |(rw [qY ac (by omega) (by omega) (by omega)];exact⟨_,_,rfl,rfl⟩) |(rw [rL ac (by omega) (by omega) (by omega)];exact⟨_,_,rfl,rfl⟩)

end Go.Proofs.YtmejbfmhaoilmaaGreat

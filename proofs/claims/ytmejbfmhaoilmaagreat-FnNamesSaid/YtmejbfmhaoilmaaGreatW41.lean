/- What is proved: contracts of functions, one a function. No condition. -/
import Derived.Test.YtmejbfmhaoilmaaGreatBase1
import Derived.Test.YtmejbfmhaoilmaaGreatW40
namespace Go.Proofs.YtmejbfmhaoilmaaGreat
open Go Go.RowKit
set_option linter.unusedVariables false
set_option linter.unusedSimpArgs false
set_option maxHeartbeats 1000000
set_option maxRecDepth 20000
theorem aN8 {w0:World}{S0:Bs}{f:DFs}{ar:List Value} (h0:eU.ro w0 (FF w0 S0) f ar) (a:Int) (n:Int) {b:(List Int)}{v3:Value} (h3:bY.ro w0 (FF w0 S0) b [v3]):
    Calls Tryz.prog 28 #[.agg ar.toArray,.int .i64 a,.int .i64 n,v3] w0 (aJ w0 S0 (vY (pT f a n b))):=by
 obtain⟨be,bf,rfl,ad,ae⟩:=cY h0
 obtain⟨ai,aj,rfl,au,av,aw,ax⟩:=aH ad
 obtain⟨ak,al,rfl,ay,az,a0,a1⟩:=aH ae
 obtain⟨A3,c3,rfl,bn,bo,bp,bq⟩:=aH h3
 refine Y.enter (N:=38) Tryz.func28 rfl rfl (by simp) [(0,.agg #[.slice ai f.inodes.length aj,.slice ak f.data.length al]),(1,.int .i64 a),(2,.int .i64 n),(3,.slice A3 b.length c3)] (by simp) (l0:= []) trivial ?_
 refine Y.seq (Y.region ?_)
 refine Y.el rfl (fT (cs:= [.slice ai f.inodes.length aj,.slice ak f.data.length al]) (n:=2) rfl (.t .z) rfl rfl) ?_
 rintro _ _ ⟨g4,rfl,rfl⟩
 refine Y.el rfl (bL rfl xC rfl rfl) ?_
 rintro _ _ ⟨g5,rfl,rfl⟩
 refine Y.nt (Y.seq (Y.seq (Y.region (Y.mv rfl .g3 (Y.mv rfl .g6 ?_)))))
 refine Y.cl rfl rfl Tryz.func66 rfl rfl (dX (.t .g3) (.t .g1) (.t .z)) .n (fun _ _ hs tr=>aNk (tr.ptr .g1 (aM f (tr.ctx ad) (tr.ctx ae))) _ (tr.ctx h3)) ?_
 rintro _ _ ⟨rfl,rfl⟩
 refine Y.m .n ?_
 refine Y.as rfl .z (Y.nt (Y.seq (Y.region (Y.mv rfl .z (Y.ql rfl (cU rfl (.t .z) .c) (Y.nt ?_))))))
 refine Y.ad (.t .z) (fun b6=> ?_) (fun b6=> ?_)
 have an:¬jU f a b=0:=b6
 refine Y.seq (Y.region (Y.mv rfl .g2 (Y.ql rfl (aZ (cs:= [.int .i64 (jU f a b),.slice none 0 0,.slice none 0 0]) rfl kW (pv1 (.t .z)) rfl) ?_)))
 refine Y.es (aD rfl) rfl (esW rfl (.t .g8) (.t .z) .z fC rfl rfl) ?_
 refine Y.nt (Y.ret (Y.r ?_))
 refine Y.add (c:=aG aP [] [.slice none 0 0]) (fun w S=>aN w S none) ?_
 refine Y.add (c:=aG cG [] [.slice none 0 0]) (fun w S=>aN w S none) ?_
 refine Y.i (dD rfl .g8 kE .g2 fC) (.c .g1 (.c .z .n)) ?_
 first |(rw [aDm an];exact⟨_,_,rfl,rfl⟩) |(rw [aC3 am (by omega)];exact⟨_,_,rfl,rfl⟩) |(rw [aDl am (by omega)];exact⟨_,_,rfl,rfl⟩)
 have am:jU f a b=0:=b6
 obtain⟨hbc,hbz⟩:=wOk am
 obtain⟨hF,⟨hpa,hpb⟩,br,bs⟩:=aBa hbc
 have ht:=xF hF
 have hI:=iY ht
 have hd:=qN ht
 have hB:=sJ hI a
 have hfl:=uZ ht a
 refine Y.skip (Y.g (Y.seq (Y.seq (Y.region (Y.mv rfl .g10 ?_)))))
 refine Y.cl rfl rfl Tryz.func71 rfl rfl (bT (.t .z)) .n (fun _ _ hs tr=>aK3 _) ?_
 rintro _ _ ⟨rfl,rfl⟩
 refine Y.m .n ?_
 refine Y.ql rfl (fN rfl (.t .z)) (Y.nt ?_)
 refine Y.ad (.t .z) (fun b9=> ?_) (fun b9=> ?_)
 refine Y.seq (Y.region (Y.ql rfl (aZ (cs:= [.int .i64 3,.slice none 0 0,.slice none 0 0]) rfl kW (pv1 .c) rfl) ?_))
 refine Y.es (aD rfl) rfl (esW rfl (.t .g10) (.t .z) .z fC rfl rfl) ?_
 refine Y.nt (Y.ret (Y.r ?_))
 refine Y.add (c:=aG aP [] [.slice none 0 0]) (fun w S=>aN w S none) ?_
 refine Y.add (c:=aG cG [] [.slice none 0 0]) (fun w S=>aN w S none) ?_
 refine Y.i (dD rfl .g10 kE .g2 fC) (.c .g1 (.c .z .n)) ?_
 first |(rw [aDm an];exact⟨_,_,rfl,rfl⟩) |(rw [aC3 am (by omega)];exact⟨_,_,rfl,rfl⟩) |(rw [aDl am (by omega)];exact⟨_,_,rfl,rfl⟩)
 refine Y.skip (Y.g (Y.seq (Y.region (Y.mv rfl .g12 ?_))))
 refine Y.cl rfl rfl Tryz.func68 rfl rfl (aX (.t .g11) (.t .z)) .n (fun _ _ hs tr=>aK1 (tr.ptr .g1 (aM f (tr.ctx ad) (tr.ctx ae))) _ (by assumption) (by first | assumption |(constructor <;> omega))) ?_
 rintro _ _ rfl
 refine Y.m (.c .n) ?_
 refine Y.h (WS.a .z) ?_
 rintro⟨af,ag,rfl,a2,a3,a4⟩
 refine Y.as rfl .z (Y.nt (Y.seq (Y.block ?_)))
 have ah:cQ f a=cQ f a++List.replicate 0 0:=(aGo _)
 refine Y.af .z ah ?_
 refine Y.ak .z (congrArg (fun z_:Nat=>(aG cX (cQ f a++List.replicate 0 0) [.slice af z_ ag]:Asn)) (congrArg List.length ah)) ?_
 refine Y.eq .z (congrArg (fun z_:Nat=>(.slice af z_ ag:Value)) (congrArg List.length ah)) ?_
 refine Y.eq .g1 (congrArg (fun z_:Nat=>(.slice af z_ ag:Value)) (congrArg List.length ah)) ?_
 refine Y.aj (γ:=Nat×(Option Addr)×Nat) (fun⟨k,aa,ab⟩=> [(10,.slice aa (cQ f a++List.replicate k 0).length ab),(8,.pointer (some ⟨g5,0,none⟩)),(4,.pointer (some ⟨g4,0,none⟩)),(1,.int .i64 a),(2,.int .i64 n),(3,.slice A3 b.length c3)]) (fun⟨k,aa,ab⟩=> [aG cX (cQ f a++List.replicate k 0) [.slice aa (cQ f a++List.replicate k 0).length ab],cM g5 48 3 1 [.int .i64 0,.slice none 0 0,.slice none 0 0],cM g4 27 2 1 [.slice ai f.inodes.length aj,.slice ak f.data.length al]]) (fun⟨k,aa,ab⟩=>k≤Int.toNat (n) - (cQ f a).length) (fun⟨k,aa,ab⟩=>Int.toNat (n) - (cQ f a).length - k) (0,af,ag) (Nat.zero_le _) (.c .g1 (.c .g12 (.c .g13 (.c .g15 (.c .g16 (.c (.s16 .g1) .n)))))) (fun _ h=>h.sel (.c .z (.c .z (.c .z .n)))) ?_
 rintro⟨k,aa,ab⟩ hk
 have hpl:=yH (L:=cQ f a) (k:=k)
 refine Y.seq (Y.seq (Y.region (Y.mv rfl .z (Y.ql rfl (bM rfl gV (.t .z)) (Y.mv rfl .g6 (Y.ql rfl (dJ rfl (.t .g1) (.t .z)) (Y.nt ?_)))))))
 refine Y.u (.t .z) (fun bg=> ?_) (fun bg=> ?_)
 refine Y.skip (Y.g (Y.block (Y.region (Y.mv rfl .g4 ?_))))
 refine Y.el rfl (aS (cs:= [.int .u8 0]) rfl gV (inz kB) (by decide) (pv1 .c) rfl rfl (by decide) rfl rfl) ?_
 rintro _ _ ⟨g16,rfl,rfl⟩
 refine Y.add (c:=aG sZ (0:UInt8) [.int .u8 0]) (fun _ _=>⟨rfl,trivial⟩) ?_
 refine Y.el rfl (dU rfl gV kB rfl (.t .g1) (.t .z) (.c .g2 (.c .g1 (.c .z .n))) (by first | omega |(simp <;> omega)) (by first | omega |(simp <;> omega))) ?_
 rintro _ _ rfl
 refine Y.af .z aGx ?_
 refine Y.h (WS.a .z) ?_
 rintro⟨ao,ap,rfl,a5,a6,a7⟩
 refine Y.er .g7 (Y.as rfl .z (Y.nil (Y.ac ?_)))
 refine Y.ae ((k+1),ao,ap) (by omega) (by first | omega |(dsimp only;omega)) (.c .z (.c .g8 (.c .g9 (.c .g10 (.c .g11 (.c .g12 .n)))))) (fun _ h=>h.sel (.c .z (.c .z (.c .z .n))))
 refine Y.exit (Y.ab (Y.ab (Y.ai (Y.g (Y.seq ?_)))))
 have hzl:= @tO (cQ f a) n
 have ac:cQ f a++List.replicate k 0=oK (cQ f a) n:=(aBn (by omega) (by omega))
 refine Y.eq .z (congrArg (fun z_=>(.bool (decide (((z_).length:Int)<n)):Value)) ac) ?_
 refine Y.eq .g2 (congrArg (fun z_=>(.int .i64 ((z_).length:Int):Value)) ac) ?_
 refine Y.eq .g3 (congrArg (fun z_=>(.slice aa (z_).length ab:Value)) ac) ?_
 refine Y.eq .g4 (congrArg (fun z_=>(.slice aa (z_).length ab:Value)) ac) ?_
 refine Y.ak .z (congrArg (fun z_=>(aG cX (z_) [.slice aa (z_).length ab]:Asn)) ac) ?_
 refine Y.dr .g1 7 gG ?_
 refine Y.sc (qs 0 6++ [(6,false),(7,false)]) (by kernel_rfl) ?_
 refine Y.dk rfl rfl .g1 (qW rfl bI (.t .g6) .g1 aW) (Y.dm rfl rfl .g1 .g8 (Y.dm rfl rfl .g1 .g2 (Y.dm rfl rfl .g1 .g11 ?_)))
 refine Y.h (WS.w .z) ?_
 rintro⟨-,bh, -, -⟩
 have aq:(List.take (Int.toNat n) (oK (cQ f a) n)).length=Int.toNat n:=by rw [List.length_take];rw [tO];omega
 refine Y.eq .z (congrArg (Value.int .i64) (show n=(((List.take (Int.toNat n) (oK (cQ f a) n)).length:Nat):Int) by rw [aq];try omega)) ?_
 refine Y.v (c:=aG cX (List.take (Int.toNat n) (oK (cQ f a) n)) [.slice aa ((List.take (Int.toNat n) (oK (cQ f a) n)).length) ab]) (.c .z .n) (vD (by rw [tO];omega)) ?_
 refine Y.dk rfl rfl .g1 (rB (b:=(List.take (Int.toNat n) (oK (cQ f a) n)).length) rfl gV aAf (.t .g1) (.t .z) (by omega)) ?_
 refine Y.dm rfl rfl .g1 .g14 ?_
 refine Y.call (aE rfl rfl) rfl (by decide) rfl (bS rfl Tryz.func69 rfl rfl (oT (.t .g5) (.t .g4) (.t .g1) (.t .z))) .n (fun _ _ hs tr=>aNf (aM f (tr.ctx ad) (tr.ctx ae)) _ (tr.own .z) (tr.ctx h3) (by assumption) (by first | assumption |(constructor <;> omega)) (by assumption)) ?_
 rintro _ _ ⟨bt,bu,rfl,rfl⟩
 refine Y.m (.c (.c .n)) ?_
 refine Y.h (WS.a .z) ?_
 rintro⟨bi,bj,rfl,a8,a9,ba⟩
 refine Y.h (WS.a .g1) ?_
 rintro⟨bk,bm,rfl,bb,bc,bd⟩
 refine Y.sk .g3 ?_
 refine Y.es (aE rfl rfl) rfl (esW rfl (.t .g12) (.t .z) .g3 fC rfl rfl) ?_
 refine Y.sl rfl ?_
 refine Y.aa ?_
 refine Y.ag (by kernel_rfl) ?_
 refine Y.g (Y.ret ?_)
 refine Y.i (dD rfl .g12 kE .z fC) (.c .g1 (.c .g1 .n)) ?_
 first |(rw [aDm an];exact⟨_,_,rfl,rfl⟩) |(rw [aC3 am (by omega)];exact⟨_,_,rfl,rfl⟩) |(rw [aDl am (by omega)];exact⟨_,_,rfl,rfl⟩)

end Go.Proofs.YtmejbfmhaoilmaaGreat

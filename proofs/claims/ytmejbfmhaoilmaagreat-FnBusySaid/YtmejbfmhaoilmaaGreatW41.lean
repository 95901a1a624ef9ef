/- What is proved: contracts of functions, one a function. No condition. -/
import Derived.Test.YtmejbfmhaoilmaaGreatBase1
import Derived.Test.YtmejbfmhaoilmaaGreatW40
namespace Go.Proofs.YtmejbfmhaoilmaaGreat
open Go Go.RowKit
set_option linter.unusedVariables false
set_option linter.unusedSimpArgs false
set_option maxHeartbeats 1000000
set_option maxRecDepth 20000
theorem aMv {w0:World}{S0:Bs}{f:DFs}{ac:Addr}{aa:Value}{ab:Value} (h0:gJ (mC 2 (by decide)) w0 (FF w0 S0) ac [aa,ab]) (a:Int) (n:Int) {b:(List Int)}{v3:Value} (h3:aY.ro w0 (FF w0 S0) b [v3]) (hs:cJ [aG aW f.inodes [aa],aG cV f.data [ab]] w0 S0) (ht:bK f=0) (hp:bY f.inodes.length a):
    Calls Tryz.prog 70 #[.pointer (some ac),.int .i64 a,.int .i64 n,v3] w0 (aI w0 S0 (fun r l=>r= .int .i64 (aHl f a n b)∧l= [aG aW (aB0 f a n b).inodes [aa],aG cV (aB0 f a n b).data [ab]])):=by
 obtain⟨aw,ae,⟨rfl, -, -⟩,af⟩:=id h0
 obtain⟨A3,c3,rfl,ax,ay,az,a0⟩:=aD h3
 obtain⟨hp1a,hp2a⟩:=hp
 have hI:=kC ht
 have hd:=kD ht
 have hfl:=nL ht a
 have hzl:= @lD (bU f a) n
 refine Y.enter (N:=23) Tryz.func70 rfl rfl (by simp) [(0,.pointer (some ac)),(1,.int .i64 a),(2,.int .i64 n),(3,.slice A3 b.length c3)] (by simp) hs ?_
 refine Y.i (WS.a .z) ?_
 rintro⟨a1,a2,rfl,ag,ah,ai⟩
 refine Y.i (WS.a .g1) ?_
 rintro⟨a3,a4,rfl,aj,ak,al⟩
 refine Y.seq (Y.region (Y.ql rfl (aA rfl .c) (Y.nt (Y.seq (Y.seq (Y.region (Y.mv rfl .g3 ?_)))))))
 refine Y.cl rfl rfl Tryz.func84 rfl rfl (eQ (.t .z) .c .c) .n (fun _ _ hs tr=>wH _ _ _) ?_
 rintro _ _ ⟨rfl,rfl⟩
 refine Y.r .n ?_
 refine Y.ql rfl (eY rfl (.t .z)) (Y.nt ?_)
 refine Y.ad (.t .z) (fun b4=> ?_) (fun b4=> ?_)
 refine Y.seq (Y.region (Y.er .g3 (Y.ql rfl (aA rfl .c) (Y.nt (Y.ret (Y.m ?_))))))
 refine Y.j (aT rfl .z) (.c .z (.c .z .n)) ?_
 first |(rw [aC1 (by omega),aB9 (by omega)];exact⟨rfl,rfl⟩) |(rw [aCn (by omega),aCp (by omega)];exact⟨rfl,rfl⟩)
 refine Y.skip (Y.g (Y.seq (Y.region (Y.mv rfl .g4 (Y.mv rfl .g6 (Y.mv rfl .g6 (Y.mv rfl .g8 ?_)))))))
 refine Y.cl rfl rfl Tryz.func48 rfl rfl (aR (.t .g1) (.t .z)) .n (fun _ _ hs tr=>aL9 (tr.elw ae af (aM f (tr.own .z) (tr.own .g1))) _ (by assumption) (by first | assumption |(constructor <;> omega))) ?_
 rintro _ _ rfl
 refine Y.r (.c .n) ?_
 refine Y.i (WS.a .z) ?_
 rintro⟨a5,a6,rfl,am,an,ao⟩
 refine Y.mv rfl .g11 ?_
 refine Y.cl rfl rfl Tryz.func112 rfl rfl (aR (.t .g1) (.t .z)) (.c .z .n) (fun _ _ hs tr=>aMh (x:=bU f a) _ hs (by omega) (by omega)) ?_
 rintro _ _ rfl
 refine Y.r (.c .n) ?_
 refine Y.i (WS.a .z) ?_
 rintro⟨ap,aq,rfl,ar,au,av⟩
 refine Y.mv rfl .g13 ?_
 refine Y.i (WS.w .z) ?_
 rintro⟨-,a7, -, -⟩
 have ad:(List.take (Int.toNat n) (lC (bU f a) n)).length=Int.toNat n:=by rw [List.length_take];rw [lD];omega
 refine Y.eq .z (congrArg (Value.int .i64) (show n=(((List.take (Int.toNat n) (lC (bU f a) n)).length:Nat):Int) by rw [ad];try omega)) ?_
 refine Y.ac (c:=aG bX (List.take (Int.toNat n) (lC (bU f a) n)) [.slice ap ((List.take (Int.toNat n) (lC (bU f a) n)).length) aq]) (.c .z .n) (pJ (by rw [lD];omega)) ?_
 refine Y.ql rfl (lP (b:=(List.take (Int.toNat n) (lC (bU f a) n)).length) rfl fO wF (.t .g1) (.t .z) (by omega)) ?_
 refine Y.mv rfl .g16 ?_
 refine Y.cl rfl rfl Tryz.func72 rfl rfl (nO (.t .g9) (.t .g8) (.t .g1) (.t .z)) (.c .g1 (.c .g1 .n)) (fun _ _ hs tr=>aK6 (f:=f) (tr.ctxP h0) _ (tr.own .z) (tr.ctx h3) hs (by assumption) (by assumption) (by first | assumption |(constructor <;> omega)) (by first | omega |(simp only [lD,List.length_take];omega))) ?_
 rintro _ _ ⟨rfl,rfl⟩
 refine Y.r (.c (.c .n)) ?_
 refine Y.af (x':=(vA f a (List.take (Int.toNat n) (lC (bU f a) n)) b).inodes) .z rfl ?_
 refine Y.af (x':=(vA f a (List.take (Int.toNat n) (lC (bU f a) n)) b).data) .g1 rfl ?_
 refine Y.er .g14 (Y.as rfl .z (Y.nt (Y.ret ?_)))
 refine Y.j (aT rfl .z) (.c .g1 (.c .z .n)) ?_
 first |(rw [aC1 (by omega),aB9 (by omega)];exact⟨rfl,rfl⟩) |(rw [aCn (by omega),aCp (by omega)];exact⟨rfl,rfl⟩)

theorem aNg {w0:World}{S0:Bs}{f:DFs}{ah:List Value} (h0:eS.ro w0 (FF w0 S0) f ah) (a:Int) (n:Int) {b:(List Int)}{v3:Value} (h3:aY.ro w0 (FF w0 S0) b [v3]):
    Calls Tryz.prog 27 #[.agg ah.toArray,.int .i64 a,.int .i64 n,v3] w0 (aI w0 S0 (wE (gW f a n b))):=by
 obtain⟨a5,a6,rfl,aa,ab⟩:=cQ h0
 obtain⟨ac,ad,rfl,ai,aj,ak,al⟩:=aD aa
 obtain⟨ae,af,rfl,am,an,ao,ap⟩:=aD ab
 obtain⟨A3,c3,rfl,bf,bg,bh,bi⟩:=aD h3
 refine Y.enter (N:=30) Tryz.func27 rfl rfl (by simp) [(0,.agg #[.slice ac f.inodes.length ad,.slice ae f.data.length af]),(1,.int .i64 a),(2,.int .i64 n),(3,.slice A3 b.length c3)] (by simp) (l0:= []) trivial ?_
 refine Y.seq (Y.region ?_)
 refine Y.el rfl (fR (cs:= [.slice ac f.inodes.length ad,.slice ae f.data.length af]) (n:=2) rfl (.t .z) rfl rfl) ?_
 rintro _ _ ⟨g4,rfl,rfl⟩
 refine Y.el rfl (bD rfl vZ rfl rfl) ?_
 rintro _ _ ⟨g5,rfl,rfl⟩
 refine Y.nt (Y.seq (Y.seq (Y.region (Y.ql rfl (qW rfl bN (.t .g1) .g1 aX) (Y.mv rfl .g4 ?_)))))
 refine Y.cl rfl rfl Tryz.func43 rfl rfl (aR (.t .g1) (.t .z)) .n (fun _ _ hs tr=>aIc (aM f (tr.ctx aa) (tr.ctx ab)) _) ?_
 rintro _ _ ⟨rfl,rfl⟩
 refine Y.r .n ?_
 refine Y.mv rfl .g8 ?_
 refine Y.cl rfl rfl Tryz.func62 rfl rfl (aR (.t .g1) (.t .z)) .n (fun _ _ hs tr=>aMc _ (tr.ctx h3)) ?_
 rintro _ _ ⟨rfl,rfl⟩
 refine Y.r .n ?_
 refine Y.as rfl .z (Y.nt (Y.seq (Y.region (Y.mv rfl .z (Y.ql rfl (cC rfl (.t .z) .c) (Y.nt ?_))))))
 refine Y.ad (.t .z) (fun b6=> ?_) (fun b6=> ?_)
 have aq:¬gO f a b=0:=b6
 refine Y.seq (Y.region (Y.mv rfl .g2 (Y.ql rfl (aZ (cs:= [.int .i64 (if bS f a=0 then gN b else bS f a),.slice none 0 0,.slice none 0 0]) rfl mZ (pv1 (.t .z)) rfl) ?_)))
 refine Y.es (aE rfl) rfl (esW rfl (.t .g10) (.t .z) .z fH rfl rfl) ?_
 refine Y.nt (Y.ret (Y.m ?_))
 refine Y.add (c:=aG aW [] [.slice none 0 0]) (fun w S=>aK w S none) ?_
 refine Y.add (c:=aG cV [] [.slice none 0 0]) (fun w S=>aK w S none) ?_
 refine Y.j (dA rfl .g10 lN .g2 fH) (.c .g1 (.c .z .n)) ?_
 first |(rw [tW aq];exact⟨_,_,rfl,rfl⟩) |(rw [aHk ag];exact⟨_,_,rfl,rfl⟩)
 have ag:gO f a b=0:=b6
 obtain⟨hbc,hbz⟩:=wOk ag
 obtain⟨hF,⟨hpa,hpb⟩,bj,bk⟩:=nI hbc
 have ht:=mR hF
 have hI:=kC ht
 have hd:=kD ht
 have hB:=kO hI a
 have hfl:=nL ht a
 refine Y.skip (Y.g (Y.seq (Y.region (Y.ql rfl (qW rfl bN (.t .g9) .g1 aX) ?_))))
 refine Y.cl rfl rfl Tryz.func63 rfl rfl (bH (.t .z)) .n (fun _ _ hs tr=>aJ9 (aM f (tr.ctx aa) (tr.ctx ab))) ?_
 rintro _ _ ⟨v9,bm,rfl,rfl⟩
 refine Y.r (.c (.c .n)) ?_
 refine Y.i (WS.a .z) ?_
 rintro⟨a7,a8,rfl,ar,au,av⟩
 refine Y.i (WS.a .g1) ?_
 rintro⟨a9,ba,rfl,aw,ax,ay⟩
 refine Y.el rfl (bD rfl mQ rfl rfl) ?_
 rintro _ _ ⟨g15,rfl,rfl⟩
 refine Y.es (aE rfl) rfl (esW rfl (.t .z) (.t .g1) .z aX rfl rfl) ?_
 refine Y.nt (Y.seq (Y.region (Y.mv rfl .g14 (Y.mv rfl .g16 (Y.mv rfl (.s16 .g2) ?_)))))
 refine Y.cl rfl rfl Tryz.func70 rfl rfl (nO (.t .g3) (.t .g2) (.t .g1) (.t .z)) (.c .g1 (.c .g1 .n)) (fun _ _ hs tr=>aMv (f:=f) (tr.ptr .z ⟨rfl,rfl,nJ rfl⟩) _ _ (tr.ctx h3) hs (by assumption) (by first | assumption |(constructor <;> omega))) ?_
 rintro _ _ ⟨rfl,rfl⟩
 refine Y.r (.c (.c .n)) ?_
 refine Y.af (x':=(aB0 f a n b).inodes) .z rfl ?_
 refine Y.af (x':=(aB0 f a n b).data) .g1 rfl ?_
 refine Y.as rfl .z (Y.nt (Y.seq (Y.region (Y.ql rfl (qW rfl bN (.t .g5) .g2 aX) (Y.mv rfl .g1 ?_)))))
 refine Y.cl rfl rfl Tryz.func65 rfl rfl (aR (.t .g1) (.t .z)) (.c .g1 (.c .z .n)) (fun _ _ hs tr=>aL1 (f:=(aB0 f a n b)) _ hs) ?_
 rintro _ _ ⟨bn,bo,rfl,rfl⟩
 refine Y.r (.c (.c .n)) ?_
 refine Y.i (WS.a .z) ?_
 rintro⟨bb,bc,rfl,az,a0,a1⟩
 refine Y.i (WS.a .g1) ?_
 rintro⟨bd,be,rfl,a2,a3,a4⟩
 refine Y.es (aE rfl) rfl (esW rfl (.t (.s16 .g3)) (.t .z) .g3 fH rfl rfl) ?_
 refine Y.nt (Y.ret ?_)
 refine Y.j (dA rfl (.s16 .g3) lN .z fH) (.c .g1 (.c .g1 .n)) ?_
 first |(rw [tW aq];exact⟨_,_,rfl,rfl⟩) |(rw [aHk ag];exact⟨_,_,rfl,rfl⟩)

theorem aMi {w0:World}{S0:Bs}{f:DFs}{ar:List Value} (h0:eS.ro w0 (FF w0 S0) f ar) (a:Int) (n:Int) {b:(List Int)}{v3:Value} (h3:aY.ro w0 (FF w0 S0) b [v3]):
    Calls Tryz.prog 28 #[.agg ar.toArray,.int .i64 a,.int .i64 n,v3] w0 (aI w0 S0 (wE (gW f a n b))):=by
 obtain⟨be,bf,rfl,ad,ae⟩:=cQ h0
 obtain⟨ai,aj,rfl,au,av,aw,ax⟩:=aD ad
 obtain⟨ak,al,rfl,ay,az,a0,a1⟩:=aD ae
 obtain⟨A3,c3,rfl,bn,bo,bp,bq⟩:=aD h3
 refine Y.enter (N:=38) Tryz.func28 rfl rfl (by simp) [(0,.agg #[.slice ai f.inodes.length aj,.slice ak f.data.length al]),(1,.int .i64 a),(2,.int .i64 n),(3,.slice A3 b.length c3)] (by simp) (l0:= []) trivial ?_
 refine Y.seq (Y.region ?_)
 refine Y.el rfl (fR (cs:= [.slice ai f.inodes.length aj,.slice ak f.data.length al]) (n:=2) rfl (.t .z) rfl rfl) ?_
 rintro _ _ ⟨g4,rfl,rfl⟩
 refine Y.el rfl (bD rfl vZ rfl rfl) ?_
 rintro _ _ ⟨g5,rfl,rfl⟩
 refine Y.nt (Y.seq (Y.seq (Y.region (Y.mv rfl .g3 (Y.mv rfl .g6 ?_)))))
 refine Y.cl rfl rfl Tryz.func66 rfl rfl (eQ (.t .g3) (.t .g1) (.t .z)) .n (fun _ _ hs tr=>aLu (tr.ptr .g1 (aM f (tr.ctx ad) (tr.ctx ae))) _ (tr.ctx h3)) ?_
 rintro _ _ ⟨rfl,rfl⟩
 refine Y.r .n ?_
 refine Y.as rfl .z (Y.nt (Y.seq (Y.region (Y.mv rfl .z (Y.ql rfl (cC rfl (.t .z) .c) (Y.nt ?_))))))
 refine Y.ad (.t .z) (fun b6=> ?_) (fun b6=> ?_)
 have an:¬gO f a b=0:=b6
 refine Y.seq (Y.region (Y.mv rfl .g2 (Y.ql rfl (aZ (cs:= [.int .i64 (gO f a b),.slice none 0 0,.slice none 0 0]) rfl mZ (pv1 (.t .z)) rfl) ?_)))
 refine Y.es (aE rfl) rfl (esW rfl (.t .g8) (.t .z) .z fH rfl rfl) ?_
 refine Y.nt (Y.ret (Y.m ?_))
 refine Y.add (c:=aG aW [] [.slice none 0 0]) (fun w S=>aK w S none) ?_
 refine Y.add (c:=aG cV [] [.slice none 0 0]) (fun w S=>aK w S none) ?_
 refine Y.j (dA rfl .g8 lN .g2 fH) (.c .g1 (.c .z .n)) ?_
 first |(rw [tW an];exact⟨_,_,rfl,rfl⟩) |(rw [xC am (by omega)];exact⟨_,_,rfl,rfl⟩) |(rw [wP am (by omega)];exact⟨_,_,rfl,rfl⟩)
 have am:gO f a b=0:=b6
 obtain⟨hbc,hbz⟩:=wOk am
 obtain⟨hF,⟨hpa,hpb⟩,br,bs⟩:=nI hbc
 have ht:=mR hF
 have hI:=kC ht
 have hd:=kD ht
 have hB:=kO hI a
 have hfl:=nL ht a
 refine Y.skip (Y.g (Y.seq (Y.seq (Y.region (Y.mv rfl .g10 ?_)))))
 refine Y.cl rfl rfl Tryz.func71 rfl rfl (bH (.t .z)) .n (fun _ _ hs tr=>aJn _) ?_
 rintro _ _ ⟨rfl,rfl⟩
 refine Y.r .n ?_
 refine Y.ql rfl (eY rfl (.t .z)) (Y.nt ?_)
 refine Y.ad (.t .z) (fun b9=> ?_) (fun b9=> ?_)
 refine Y.seq (Y.region (Y.ql rfl (aZ (cs:= [.int .i64 3,.slice none 0 0,.slice none 0 0]) rfl mZ (pv1 .c) rfl) ?_))
 refine Y.es (aE rfl) rfl (esW rfl (.t .g10) (.t .z) .z fH rfl rfl) ?_
 refine Y.nt (Y.ret (Y.m ?_))
 refine Y.add (c:=aG aW [] [.slice none 0 0]) (fun w S=>aK w S none) ?_
 refine Y.add (c:=aG cV [] [.slice none 0 0]) (fun w S=>aK w S none) ?_
 refine Y.j (dA rfl .g10 lN .g2 fH) (.c .g1 (.c .z .n)) ?_
 first |(rw [tW an];exact⟨_,_,rfl,rfl⟩) |(rw [xC am (by omega)];exact⟨_,_,rfl,rfl⟩) |(rw [wP am (by omega)];exact⟨_,_,rfl,rfl⟩)
 refine Y.skip (Y.g (Y.seq (Y.region (Y.mv rfl .g12 ?_))))
 refine Y.cl rfl rfl Tryz.func68 rfl rfl (aR (.t .g11) (.t .z)) .n (fun _ _ hs tr=>aJo (tr.ptr .g1 (aM f (tr.ctx ad) (tr.ctx ae))) _ (by assumption) (by first | assumption |(constructor <;> omega))) ?_
 rintro _ _ rfl
 refine Y.r (.c .n) ?_
 refine Y.i (WS.a .z) ?_
 rintro⟨af,ag,rfl,a2,a3,a4⟩
 refine Y.as rfl .z (Y.nt (Y.seq (Y.block ?_)))
 have ah:bU f a=bU f a++List.replicate 0 0:=(aCz _)
 refine Y.af .z ah ?_
 refine Y.aj .z (congrArg (fun z_:Nat=>(aG bX (bU f a++List.replicate 0 0) [.slice af z_ ag]:Asn)) (congrArg List.length ah)) ?_
 refine Y.eq .z (congrArg (fun z_:Nat=>(.slice af z_ ag:Value)) (congrArg List.length ah)) ?_
 refine Y.eq .g1 (congrArg (fun z_:Nat=>(.slice af z_ ag:Value)) (congrArg List.length ah)) ?_
 refine Y.ah (γ:=Nat×(Option Addr)×Nat) (fun⟨k,aa,ab⟩=> [(10,.slice aa (bU f a++List.replicate k 0).length ab),(8,.pointer (some ⟨g5,0,none⟩)),(4,.pointer (some ⟨g4,0,none⟩)),(1,.int .i64 a),(2,.int .i64 n),(3,.slice A3 b.length c3)]) (fun⟨k,aa,ab⟩=> [aG bX (bU f a++List.replicate k 0) [.slice aa (bU f a++List.replicate k 0).length ab],bZ g5 48 3 1 [.int .i64 0,.slice none 0 0,.slice none 0 0],bZ g4 27 2 1 [.slice ai f.inodes.length aj,.slice ak f.data.length al]]) (fun⟨k,aa,ab⟩=>k≤Int.toNat (n) - (bU f a).length) (fun⟨k,aa,ab⟩=>Int.toNat (n) - (bU f a).length - k) (0,af,ag) (Nat.zero_le _) (.c .g1 (.c .g12 (.c .g13 (.c .g15 (.c .g16 (.c (.s16 .g1) .n)))))) (fun _ h=>h.sel (.c .z (.c .z (.c .z .n)))) ?_
 rintro⟨k,aa,ab⟩ hk
 have hpl:=tB (L:=bU f a) (k:=k)
 refine Y.seq (Y.seq (Y.region (Y.mv rfl .z (Y.ql rfl (bE rfl fO (.t .z)) (Y.mv rfl .g6 (Y.ql rfl (cU rfl (.t .g1) (.t .z)) (Y.nt ?_)))))))
 refine Y.u (.t .z) (fun bg=> ?_) (fun bg=> ?_)
 refine Y.skip (Y.g (Y.block (Y.region (Y.mv rfl .g4 ?_))))
 refine Y.el rfl (aO (cs:= [.int .u8 0]) rfl fO (inz iM) (by decide) (pv1 .c) rfl rfl (by decide) rfl rfl) ?_
 rintro _ _ ⟨g16,rfl,rfl⟩
 refine Y.add (c:=aG qB (0:UInt8) [.int .u8 0]) (fun _ _=>⟨rfl,trivial⟩) ?_
 refine Y.el rfl (dC rfl fO iM rfl (.t .g1) (.t .z) (.c .g2 (.c .g1 (.c .z .n))) (by first | omega |(simp <;> omega)) (by first | omega |(simp <;> omega))) ?_
 rintro _ _ rfl
 refine Y.af .z aCt ?_
 refine Y.i (WS.a .z) ?_
 rintro⟨ao,ap,rfl,a5,a6,a7⟩
 refine Y.er .g7 (Y.as rfl .z (Y.nil (Y.y ?_)))
 refine Y.ae ((k+1),ao,ap) (by omega) (by first | omega |(dsimp only;omega)) (.c .z (.c .g8 (.c .g9 (.c .g10 (.c .g11 (.c .g12 .n)))))) (fun _ h=>h.sel (.c .z (.c .z (.c .z .n))))
 refine Y.exit (Y.w (Y.w (Y.ag (Y.g (Y.seq ?_)))))
 have hzl:= @lD (bU f a) n
 have ac:bU f a++List.replicate k 0=lC (bU f a) n:=(wG (by omega) (by omega))
 refine Y.eq .z (congrArg (fun z_=>(.bool (decide (((z_).length:Int)<n)):Value)) ac) ?_
 refine Y.eq .g2 (congrArg (fun z_=>(.int .i64 ((z_).length:Int):Value)) ac) ?_
 refine Y.eq .g3 (congrArg (fun z_=>(.slice aa (z_).length ab:Value)) ac) ?_
 refine Y.eq .g4 (congrArg (fun z_=>(.slice aa (z_).length ab:Value)) ac) ?_
 refine Y.aj .z (congrArg (fun z_=>(aG bX (z_) [.slice aa (z_).length ab]:Asn)) ac) ?_
 refine Y.dr .g1 7 gB ?_
 refine Y.sc (qs 0 6++ [(6,false),(7,false)]) (by kernel_rfl) ?_
 refine Y.dk rfl rfl .g1 (qW rfl bN (.t .g6) .g1 aX) (Y.dm rfl rfl .g1 .g8 (Y.dm rfl rfl .g1 .g2 (Y.dm rfl rfl .g1 .g11 ?_)))
 refine Y.i (WS.w .z) ?_
 rintro⟨-,bh, -, -⟩
 have aq:(List.take (Int.toNat n) (lC (bU f a) n)).length=Int.toNat n:=by rw [List.length_take];rw [lD];omega
 refine Y.eq .z (congrArg (Value.int .i64) (show n=(((List.take (Int.toNat n) (lC (bU f a) n)).length:Nat):Int) by rw [aq];try omega)) ?_
 refine Y.ac (c:=aG bX (List.take (Int.toNat n) (lC (bU f a) n)) [.slice aa ((List.take (Int.toNat n) (lC (bU f a) n)).length) ab]) (.c .z .n) (pJ (by rw [lD];omega)) ?_
 refine Y.dk rfl rfl .g1 (lP (b:=(List.take (Int.toNat n) (lC (bU f a) n)).length) rfl fO wF (.t .g1) (.t .z) (by omega)) ?_
 refine Y.dm rfl rfl .g1 .g14 ?_
 refine Y.call (aC rfl rfl) rfl (by decide) rfl (bF rfl Tryz.func69 rfl rfl (nO (.t .g5) (.t .g4) (.t .g1) (.t .z))) .n (fun _ _ hs tr=>aMp (aM f (tr.ctx ad) (tr.ctx ae)) _ (tr.own .z) (tr.ctx h3) (by assumption) (by first | assumption |(constructor <;> omega)) (by assumption)) ?_
 rintro _ _ ⟨bt,bu,rfl,rfl⟩
 refine Y.r (.c (.c .n)) ?_
 refine Y.i (WS.a .z) ?_
 rintro⟨bi,bj,rfl,a8,a9,ba⟩
 refine Y.i (WS.a .g1) ?_
 rintro⟨bk,bm,rfl,bb,bc,bd⟩
 refine Y.sk .g3 ?_
 refine Y.es (aC rfl rfl) rfl (esW rfl (.t .g12) (.t .z) .g3 fH rfl rfl) ?_
 refine Y.sl rfl ?_
 refine Y.aa ?_
 refine Y.ai (by kernel_rfl) ?_
 refine Y.g (Y.ret ?_)
 refine Y.j (dA rfl .g12 lN .z fH) (.c .g1 (.c .g1 .n)) ?_
 first |(rw [tW an];exact⟨_,_,rfl,rfl⟩) |(rw [xC am (by omega)];exact⟨_,_,rfl,rfl⟩) |(rw [wP am (by omega)];exact⟨_,_,rfl,rfl⟩)

end Go.Proofs.YtmejbfmhaoilmaaGreat

/- What is proved: contracts of functions, one a function. No condition. -/
import Derived.Test.YtmejbfmhaoilmaaGreatBase1
import Derived.Test.YtmejbfmhaoilmaaGreatW24
namespace Go.Proofs.YtmejbfmhaoilmaaGreat
open Go Go.RowKit
set_option linter.unusedVariables false
set_option linter.unusedSimpArgs false
set_option maxHeartbeats 1000000
set_option maxRecDepth 20000
theorem aNc {w0:World}{S0:Bs}{x:(List UInt8)}{v0:Value} (h0:cX.ro w0 (FF w0 S0) x [v0]):
    Calls Tryz.prog 89 #[v0] w0 (aJ w0 S0 (fun r l=>l= [aG cX x [r]])):=by
 obtain⟨A0,c0,rfl,ae,af,ag,aa⟩:=aH h0
 refine Y.enter (N:=8) Tryz.func89 rfl rfl (by simp) [(0,.slice A0 x.length c0)] (by simp) (l0:= []) trivial ?_
 refine Y.seq (Y.region (Y.ql rfl (aA rfl .c) (Y.nt (Y.seq (Y.seq (Y.region (Y.mv rfl .g1 ?_)))))))
 refine Y.ql rfl (wP rfl gV (.t .z) .c) (Y.nt ?_)
 refine Y.cond (.t .z) (fun b2=> ?_) (fun b2=> ?_)
 refine Y.seq (Y.region (Y.er .g2 (Y.ql rfl (aA rfl .c) (Y.nt (Y.ret (Y.r ?_))))))
 refine Y.add (c:=aG cX [] [.slice none 0 0]) (fun w S=>aN w S none) ?_
 refine Y.af .z (aAj aa (by assumption)) ?_
 refine Y.i (aY rfl .z) (.c .z .n) ?_
 rfl
 refine Y.skip (Y.g (Y.seq (Y.region ?_)))
 refine Y.el rfl (eH rfl gV (inz kB)) ?_
 rintro _ _ ⟨g4,rfl,rfl⟩
 refine Y.mv rfl .g4 ?_
 refine Y.add (c:=aG cX ([]:(List UInt8)) [.slice (some ⟨g4,0,none⟩) 0 0]) (fun w S=>aN w S _) ?_
 refine Y.el rfl (eG (bC _ _ _) rfl gV kB rfl (.t .g1) (.t .z) (.c .z .n) (fun w1 S1 tr=>tr.ctx h0) (by first | omega |(simp only [List.length_append,List.length_take,List.length_nil,List.length_cons];omega)) (by first | omega |(simp only [List.length_append,List.length_take,List.length_nil,List.length_cons];omega))) ?_
 rintro _ _ rfl
 refine Y.af .z (List.nil_append _) ?_
 refine Y.h (WS.a .z) ?_
 rintro⟨ah,ai,rfl,ab,ac,ad⟩
 refine Y.er .g5 (Y.as rfl .z (Y.nt (Y.ret ?_)))
 refine Y.i (aY rfl .z) (.c .z .n) ?_
 rfl

theorem aIw {w0:World}{S0:Bs}{f:DFs}{ad0:Addr} (h0:gP eU w0 (FF w0 S0) ad0 f) (a:Int):
    Calls Tryz.prog 90 #[.pointer (some ad0),.int .i64 a] w0 (aJ w0 S0 (fun r l=>r= .bool (decide (bR f.inodes.length a))∧l= [])):=by
 obtain⟨ec0,hF0,hr0,hc0⟩:=id h0
 obtain⟨u0_0,u0_1,rfl,h0_0,h0_1⟩:=cY hr0
 obtain⟨A0_0,c0_0,rfl,hl0_0,hm0_0,hb0_0,he0_0⟩:=aH h0_0
 obtain⟨A0_1,c0_1,rfl,hl0_1,hm0_1,hb0_1,he0_1⟩:=aH h0_1
 refine Y.enter (N:=13) Tryz.func90 rfl rfl (by simp) [(0,.pointer (some ad0)),(1,.int .i64 a)] (by simp) (l0:= []) trivial ?_
 refine Y.seq (Y.region (Y.ql rfl (aA rfl .c) (Y.nt (Y.seq (Y.region (Y.mv rfl .g2 (Y.mv rfl .g2 ?_)))))))
 refine Y.nc rfl .z (Y.fa rfl .z aO (Y.le rfl bK .z hF0 hc0 (Y.ql rfl (bM rfl cE (.t .z)) ?_)))
 refine Y.ql rfl (jL (c:=(f.inodes.length:Int) - 1) rfl (.t .z) .c (wr (by omega) (by omega) (by omega))) ?_
 refine Y.cl rfl rfl Tryz.func46 rfl rfl (dX (.t .g6) .c (.t .z)) .n (fun _ _ hs tr=>xL _ _ _) ?_
 rintro _ _ ⟨rfl,rfl⟩
 refine Y.m .n ?_
 refine Y.er .g8 (Y.as rfl .z (Y.nt (Y.ret ?_)))
 refine Y.i (aY rfl .z) .n ?_
 exact⟨rfl,rfl⟩

theorem aK1 {w0:World}{S0:Bs}{f:DFs}{a1:Addr} (h0:gP eU w0 (FF w0 S0) a1 f) (a:Int) (ht:bX f=0) (hp:bR f.inodes.length a):
    Calls Tryz.prog 68 #[.pointer (some a1),.int .i64 a] w0 (aJ w0 S0 (fun r l=>l= [aG cX (cQ f a) [r]])):=by
 obtain⟨cq,bg,b8,bh⟩:=id h0
 obtain⟨b9,ca,rfl,a2,a3⟩:=cY b8
 obtain⟨cb,cc,rfl,bi,bj,bk,al⟩:=aH a2
 obtain⟨cd,ce,rfl,bm,bn,bo,am⟩:=aH a3
 have hI:=iY ht
 have cf:=qN ht
 obtain⟨cr,cs⟩:=hp
 refine Y.enter (N:=40) Tryz.func68 rfl rfl (by simp) [(0,.pointer (some a1)),(1,.int .i64 a)] (by simp) (l0:= []) trivial ?_
 refine Y.seq (Y.region (Y.ql rfl (aA rfl .c) (Y.nt (Y.seq (Y.region ?_)))))
 refine Y.el rfl (eH rfl gV (inz kB)) ?_
 rintro _ _ ⟨g3,rfl,rfl⟩
 refine Y.as rfl .z (Y.nt (Y.seq (Y.region (Y.mv rfl .g3 (Y.nc rfl .z (Y.fa rfl .z aO (Y.le rfl bK .z bg bh ?_)))))))
 refine Y.mv rfl .g8 ?_
 obtain⟨cg,an,ao⟩:=al (by omega)
 subst an
 obtain⟨x5,ap⟩:=aI (xs:=f.inodes) (j:=Int.toNat a) (by omega)
 obtain⟨ch,a4,aq,ar⟩:=ao.elem ap
 obtain⟨bp,bq,rfl,au,av⟩:=cK a4
 obtain⟨br,bt,rfl,a5,a6,a7,ae⟩:=aH au
 obtain⟨bu,bv,rfl,a8,a9,ba,bb⟩:=aH av
 have ct:=cH (i:=a) ap (by omega)
 have cu:=cI (a:=a) ap (by omega)
 have bc:=dT hI _ (List.mem_of_getElem? ap)
 have bd:=sC (a:=a) ap (by omega)
 have b4x5:=nX bc
 refine Y.ql rfl (aC (j:=Int.toNat a) rfl cE aU (.t .g1) (.t .z) (by omega) (by omega)) ?_
 refine Y.as rfl .z (Y.nt (Y.seq (Y.seq (Y.region (Y.ql rfl (aA rfl .c) (Y.nt ?_))))))
 refine Y.block ?_
 refine Y.add (c:=aG cX ([]:(List UInt8)) [.slice (some ⟨g3,0,none⟩) 0 0]) (fun w S=>aN w S _) ?_
 refine Y.aj (γ:=Nat×(Option Addr)×Nat) (fun⟨k,aa,ab⟩=> [(7,.int .i64 (k:Int)),(6,.pointer (some (Addr.add cg ((Int.toNat a) * 5)))),(5,.slice aa (kP f.data x5.blocks k).length ab),(4,.slice none 0 0),(0,.pointer (some a1))]) (fun⟨k,aa,ab⟩=> [aG cX (kP f.data x5.blocks k) [.slice aa (kP f.data x5.blocks k).length ab],cM g3 5 1 0 []]) (fun⟨k,aa,ab⟩=>k≤x5.blocks.length) (fun⟨k,aa,ab⟩=>x5.blocks.length - k) (0,(some ⟨g3,0,none⟩),0) (Nat.zero_le _) (.c .z (.c .g1 (.c .g8 (.c .g10 (.c .g11 .n))))) (fun _ h=>h.sel (.c .z (.c .z .n))) ?_
 rintro⟨k,aa,ab⟩ hk
 have hbl:=wB (data:=f.data) (bs:=x5.blocks) k b4x5.1 (aDi ht)
 refine Y.seq (Y.seq (Y.region (Y.mv rfl .z (Y.mv rfl .g2 (Y.nc rfl .z (Y.fa rfl .z dI (Y.le rfl fA .z aq ar (Y.ql rfl (bM rfl eQ (.t .z)) ?_))))))))
 refine Y.ql rfl (dJ rfl (.t .g5) (.t .z)) (Y.nt ?_)
 refine Y.u (.t .z) (fun ci=> ?_) (fun ci=> ?_)
 refine Y.skip (Y.g (Y.seq (Y.block ?_)))
 refine Y.dr .g1 15 gG ?_
 refine Y.sc (qs 0 14++ [(14,false),(15,false)]) (by kernel_rfl) ?_
 refine Y.dm rfl rfl .g1 .g9 (Y.dm rfl rfl .g1 .g12 (Y.dn rfl rfl .g1 .z (Y.df rfl rfl .g1 .z gR (Y.de rfl rfl .g1 lM .z bg bh (Y.dm rfl rfl .g1 .g13 (Y.dn rfl rfl .g1 .z (Y.df rfl rfl .g1 .z dI (Y.de rfl rfl .g1 fA .z aq ar ?_))))))))
 refine Y.dm rfl rfl .g1 .g16 ?_
 obtain⟨cj,af,ag⟩:=ae (by omega)
 subst af
 obtain⟨bw,ah⟩:=aI (xs:=x5.blocks) (j:=k) (by omega)
 obtain⟨bx,aw,ax,ay⟩:=ag.elem ah
 obtain⟨rfl,ck⟩:=aw
 have bz:=b4x5.2 _ (List.mem_of_getElem? ah)
 refine Y.dk rfl rfl .g1 (aC (j:=k) rfl eQ jQ (.t .g1) (.t .z) rfl (by omega)) ?_
 refine Y.dk rfl rfl .g1 (aL rfl cF (.t .z) (WS.j ax ay rfl)) ?_
 obtain⟨cm,ai,aj⟩:=am (by omega)
 subst ai
 obtain⟨cv,ak⟩:=aI (xs:=f.data) (j:=Int.toNat bw) (by omega)
 obtain⟨b0,ac,az,a0⟩:=aj.elem ak
 obtain⟨cn,rfl⟩:=mD ac
 obtain⟨co,cp,rfl,b1,b2,b3,b4⟩:=aH ac
 have p8x15:=aDi ht _ (List.mem_of_getElem? ak)
 refine Y.dk rfl rfl .g1 (aC (j:=Int.toNat bw) rfl mA mC (.t .g7) (.t .z) (by omega) (by omega)) ?_
 refine Y.dk rfl rfl .g1 (aL rfl nL (.t .z) (WS.j az a0 rfl)) ?_
 refine Y.e (aE rfl rfl) rfl (by decide) rfl (eG (bC _ _ _) rfl gV kB rfl (.t .g13) (.t .z) (.c .z .n) (fun w1 S1 tr=>tr.ctx ac) (by first | omega |(simp only [List.length_append,List.length_take,List.length_nil,List.length_cons];omega)) (by first | omega |(simp only [List.length_append,List.length_take,List.length_nil,List.length_cons];omega))) ?_
 rintro _ _ rfl
 refine Y.af .z (aE6 ah ak) ?_
 refine Y.h (WS.a .z) ?_
 rintro⟨be,bf,rfl,b5,b6,b7⟩
 refine Y.sk .g1 ?_
 refine Y.er (.s16 .g8) ?_
 refine Y.q (aE rfl rfl) rfl (by decide) rfl (aA rfl (.t .z)) ?_
 refine Y.sl rfl ?_
 refine Y.aa ?_
 refine Y.ag (by kernel_rfl) ?_
 refine Y.ac (Y.g (Y.region (Y.mv rfl (.s16 .g7) ?_)))
 refine Y.ql rfl (bQ (c:=((k+1:Nat):Int)) rfl (.t .z) .c (wr (by omega) (by omega) (by omega))) ?_
 refine Y.er (.s16 .g9) (Y.as rfl .z (Y.nil ?_))
 refine Y.ae ((k+1),be,bf) (by omega) (by first | omega |(dsimp only;omega)) (.c .z (.c (.s16 .g10) (.c .g3 (.c (.s16 .g11) (.c (.s16 .g12) .n))))) (fun _ h=>h.sel (.c .z (.c .z .n)))
 refine Y.exit (Y.ab (Y.ab (Y.ai (Y.g (Y.seq (Y.region (Y.mv rfl .g9 (Y.er .g11 ?_))))))))
 refine Y.as rfl .z (Y.nt (Y.ret ?_))
 have ad:kP f.data x5.blocks k=cQ f a:=(by unfold cQ;rw [bd];exact aCo (by omega))
 refine Y.eq .z (congrArg (fun z_=>(.slice aa (z_).length ab:Value)) ad) ?_
 refine Y.eq .g1 (congrArg (fun z_=>(.slice aa (z_).length ab:Value)) ad) ?_
 refine Y.eq .g11 (congrArg (fun z_=>(.slice aa (z_).length ab:Value)) ad) ?_
 refine Y.ak .z (congrArg (fun z_=>(aG cX (z_) [.slice aa (z_).length ab]:Asn)) ad) ?_
 refine Y.i (aY rfl .g2) (.c .z .n) ?_
 rfl

theorem aLh {w0:World}{S0:Bs}{f:DFs}{a9:List Value} (h0:eU.ro w0 (FF w0 S0) f a9) (a:Int):
    Calls Tryz.prog 45 #[.agg a9.toArray,.int .i64 a] w0 (aJ w0 S0 (aJq (lG f a))):=by
 obtain⟨bn,bo,rfl,aa,ab⟩:=cY h0
 obtain⟨ah,ai,rfl,ba,bb,bc,aj⟩:=aH aa
 obtain⟨ak,al,rfl,bd,be,bf,bg⟩:=aH ab
 refine Y.enter (N:=30) Tryz.func45 rfl rfl (by simp) [(0,.agg #[.slice ah f.inodes.length ai,.slice ak f.data.length al]),(1,.int .i64 a)] (by simp) (l0:= []) trivial ?_
 refine Y.seq (Y.region ?_)
 refine Y.el rfl (fT (cs:= [.slice ah f.inodes.length ai,.slice ak f.data.length al]) (n:=2) rfl (.t .z) rfl rfl) ?_
 rintro _ _ ⟨g3,rfl,rfl⟩
 refine Y.el rfl (bL rfl aJe rfl rfl) ?_
 rintro _ _ ⟨g4,rfl,rfl⟩
 refine Y.nt (Y.seq (Y.seq (Y.region ?_)))
 refine Y.cl rfl rfl Tryz.func56 rfl rfl (bT (.t .g1)) .n (fun _ _ hs tr=>aNm (tr.ptr .g1 (aM f (tr.ctx aa) (tr.ctx ab)))) ?_
 rintro _ _ ⟨rfl,rfl⟩
 refine Y.m .n ?_
 refine Y.as rfl .z (Y.nt (Y.seq (Y.region (Y.mv rfl .z (Y.ql rfl (cU rfl (.t .z) .c) (Y.nt ?_))))))
 refine Y.ad (.t .z) (fun b5=> ?_) (fun b5=> ?_)
 refine Y.seq (Y.region (Y.mv rfl .g2 (Y.ql rfl (aZ (cs:= [.int .i64 (fJ f),.slice none 0 0]) rfl uJ (pv1 (.t .z)) rfl) ?_)))
 refine Y.es (aD rfl) rfl (esW rfl (.t .g6) (.t .z) .z kH rfl rfl) ?_
 refine Y.nt (Y.ret (Y.r ?_))
 refine Y.add (c:=aG cX [] [.slice none 0 0]) (fun w S=>aN w S none) ?_
 refine Y.i (dD rfl .g6 rD .g1 kH) (.c .z .n) ?_
 first |(rw [eW (by assumption)];exact⟨_,rfl,rfl⟩) |(rw [kG (by assumption)];exact⟨_,rfl,rfl⟩) |(rw [kG (nE (by assumption) (by assumption) (by omega) (by omega))];exact⟨_,rfl,rfl⟩) |(rw [eW (by rw [iH (by assumption)];first | assumption | decide),iH (by assumption)];exact⟨_,rfl,rfl⟩) |(rw [eW (by rw [iD (by assumption) (by assumption)];first | assumption | decide),iD (by assumption) (by assumption)];exact⟨_,rfl,rfl⟩) |(rw [eW (by rw [iE (by assumption) (by assumption) (by omega)];first | assumption | decide),iE (by assumption) (by assumption) (by omega)];exact⟨_,rfl,rfl⟩) |(rw [eW (by rw [iG (by assumption) (by assumption) (by omega) (by omega)];first | assumption | decide),iG (by assumption) (by assumption) (by omega) (by omega)];exact⟨_,rfl,rfl⟩)
 have az:=xF b5
 have a0:=iY az
 refine Y.skip (Y.g (Y.seq (Y.seq (Y.region (Y.mv rfl .g7 ?_)))))
 refine Y.cl rfl rfl Tryz.func90 rfl rfl (aX (.t .g6) (.t .z)) .n (fun _ _ hs tr=>aIw (tr.ptr .g1 (aM f (tr.ctx aa) (tr.ctx ab))) _) ?_
 rintro _ _ ⟨rfl,rfl⟩
 refine Y.m .n ?_
 refine Y.ql rfl (fN rfl (.t .z)) (Y.nt ?_)
 refine Y.ad (.t .z) (fun b8=> ?_) (fun b8=> ?_)
 refine Y.seq (Y.region (Y.ql rfl (aZ (cs:= [.int .i64 3,.slice none 0 0]) rfl uJ (pv1 .c) rfl) ?_))
 refine Y.es (aD rfl) rfl (esW rfl (.t .g8) (.t .z) .z kH rfl rfl) ?_
 refine Y.nt (Y.ret (Y.r ?_))
 refine Y.add (c:=aG cX [] [.slice none 0 0]) (fun w S=>aN w S none) ?_
 refine Y.i (dD rfl .g8 rD .g1 kH) (.c .z .n) ?_
 first |(rw [eW (by assumption)];exact⟨_,rfl,rfl⟩) |(rw [kG (by assumption)];exact⟨_,rfl,rfl⟩) |(rw [kG (nE (by assumption) (by assumption) (by omega) (by omega))];exact⟨_,rfl,rfl⟩) |(rw [eW (by rw [iH (by assumption)];first | assumption | decide),iH (by assumption)];exact⟨_,rfl,rfl⟩) |(rw [eW (by rw [iD (by assumption) (by assumption)];first | assumption | decide),iD (by assumption) (by assumption)];exact⟨_,rfl,rfl⟩) |(rw [eW (by rw [iE (by assumption) (by assumption) (by omega)];first | assumption | decide),iE (by assumption) (by assumption) (by omega)];exact⟨_,rfl,rfl⟩) |(rw [eW (by rw [iG (by assumption) (by assumption) (by omega) (by omega)];first | assumption | decide),iG (by assumption) (by assumption) (by omega) (by omega)];exact⟨_,rfl,rfl⟩)
 refine Y.skip (Y.g (Y.seq (Y.seq (Y.region (Y.fa rfl .g8 aO (Y.ld rfl bK .z .g1 (Y.mv rfl .g12 ?_)))))))
 obtain⟨bp,ad,ae⟩:=aj (by omega)
 subst ad
 obtain⟨bu,ac⟩:=aI (xs:=f.inodes) (j:=Int.toNat a) (by omega)
 obtain⟨bh,am,an,ao⟩:=ae.elem ac
 obtain⟨a1,a2,rfl,af,ag⟩:=cK am
 obtain⟨a3,a4,rfl,ap,aq,ar,au⟩:=aH af
 obtain⟨a5,a6,rfl,av,aw,ax,ay⟩:=aH ag
 have bq:=cH (i:=a) ac (by omega)
 have br:=cI (a:=a) ac (by omega)
 have bi:=dT a0 _ (List.mem_of_getElem? ac)
 refine Y.ql rfl (aC (j:=Int.toNat a) rfl cE aU (.t .g1) (.t .z) (by omega) (by omega)) ?_
 refine Y.fa rfl .z cV (Y.le rfl cF .z an ao (Y.nt (Y.block (Y.seq (Y.region (Y.ql rfl (bZ rfl (.t .z) .c) (Y.as rfl .z ?_)))))))
 refine Y.nt ?_
 refine Y.u (.t .z) (fun bs=> ?_) (fun bs=> ?_)
 refine Y.seq (Y.region (Y.ql rfl (aZ (cs:= [.int .i64 9,.slice none 0 0]) rfl uJ (pv1 .c) rfl) ?_))
 refine Y.es (aD rfl) rfl (esW rfl (.t .g16) (.t .z) .z kH rfl rfl) ?_
 refine Y.nt (Y.ret (Y.y (Y.r ?_)))
 refine Y.add (c:=aG cX [] [.slice none 0 0]) (fun w S=>aN w S none) ?_
 refine Y.i (dD rfl .g16 rD .g1 kH) (.c .z .n) ?_
 first |(rw [eW (by assumption)];exact⟨_,rfl,rfl⟩) |(rw [kG (by assumption)];exact⟨_,rfl,rfl⟩) |(rw [kG (nE (by assumption) (by assumption) (by omega) (by omega))];exact⟨_,rfl,rfl⟩) |(rw [eW (by rw [iH (by assumption)];first | assumption | decide),iH (by assumption)];exact⟨_,rfl,rfl⟩) |(rw [eW (by rw [iD (by assumption) (by assumption)];first | assumption | decide),iD (by assumption) (by assumption)];exact⟨_,rfl,rfl⟩) |(rw [eW (by rw [iE (by assumption) (by assumption) (by omega)];first | assumption | decide),iE (by assumption) (by assumption) (by omega)];exact⟨_,rfl,rfl⟩) |(rw [eW (by rw [iG (by assumption) (by assumption) (by omega) (by omega)];first | assumption | decide),iG (by assumption) (by assumption) (by omega) (by omega)];exact⟨_,rfl,rfl⟩)
 refine Y.seq (Y.region (Y.ql rfl (bZ rfl (.t .g2) .c) (Y.as rfl .z (Y.nt ?_))))
 refine Y.u (.t .z) (fun bt=> ?_) (fun bt=> ?_)
 refine Y.seq (Y.region (Y.ql rfl (aZ (cs:= [.int .i64 4,.slice none 0 0]) rfl uJ (pv1 .c) rfl) ?_))
 refine Y.es (aD rfl) rfl (esW rfl (.t (.s16 .g2)) (.t .z) .z kH rfl rfl) ?_
 refine Y.nt (Y.ret (Y.y (Y.r ?_)))
 refine Y.add (c:=aG cX [] [.slice none 0 0]) (fun w S=>aN w S none) ?_
 refine Y.i (dD rfl (.s16 .g2) rD .g1 kH) (.c .z .n) ?_
 first |(rw [eW (by assumption)];exact⟨_,rfl,rfl⟩) |(rw [kG (by assumption)];exact⟨_,rfl,rfl⟩) |(rw [kG (nE (by assumption) (by assumption) (by omega) (by omega))];exact⟨_,rfl,rfl⟩) |(rw [eW (by rw [iH (by assumption)];first | assumption | decide),iH (by assumption)];exact⟨_,rfl,rfl⟩) |(rw [eW (by rw [iD (by assumption) (by assumption)];first | assumption | decide),iD (by assumption) (by assumption)];exact⟨_,rfl,rfl⟩) |(rw [eW (by rw [iE (by assumption) (by assumption) (by omega)];first | assumption | decide),iE (by assumption) (by assumption) (by omega)];exact⟨_,rfl,rfl⟩) |(rw [eW (by rw [iG (by assumption) (by assumption) (by omega) (by omega)];first | assumption | decide),iG (by assumption) (by assumption) (by omega) (by omega)];exact⟨_,rfl,rfl⟩)
 refine Y.skip (Y.ac (Y.g (Y.seq (Y.region (Y.mv rfl (.s16 .g4) ?_)))))
 refine Y.cl rfl rfl Tryz.func68 rfl rfl (aX (.t (.s16 .g3)) (.t .z)) .n (fun _ _ hs tr=>aK1 (tr.ptr .g1 (aM f (tr.ctx aa) (tr.ctx ab))) _ (by assumption) (by first | assumption |(constructor <;> omega))) ?_
 rintro _ _ rfl
 refine Y.m (.c .n) ?_
 refine Y.h (WS.a .z) ?_
 rintro⟨a7,a8,rfl,bj,bk,bm⟩
 refine Y.ql rfl (aZ (cs:= [.int .i64 0,.slice a7 (cQ f a).length a8]) rfl uJ (pv1 (.t .z)) rfl) ?_
 refine Y.es (aD rfl) rfl (esW rfl (.t (.s16 .g4)) (.t .z) .g1 kH rfl rfl) ?_
 refine Y.nt (Y.ret ?_)
 refine Y.i (dD rfl (.s16 .g4) rD .z kH) (.c .g1 .n) ?_
 first |(rw [eW (by assumption)];exact⟨_,rfl,rfl⟩) |(rw [kG (by assumption)];exact⟨_,rfl,rfl⟩) |(rw [kG (nE (by assumption) (by assumption) (by omega) (by omega))];exact⟨_,rfl,rfl⟩) |(rw [eW (by rw [iH (by assumption)];first | assumption | decide),iH (by assumption)];exact⟨_,rfl,rfl⟩) |(rw [eW (by rw [iD (by assumption) (by assumption)];first | assumption | decide),iD (by assumption) (by assumption)];exact⟨_,rfl,rfl⟩) |(rw [eW (by rw [iE (by assumption) (by assumption) (by omega)];first | assumption | decide),iE (by assumption) (by assumption) (by omega)];exact⟨_,rfl,rfl⟩) |(rw [eW (by rw [iG (by assumption) (by assumption) (by omega) (by omega)];first | assumption | decide),iG (by assumption) (by assumption) (by omega) (by omega)];exact⟨_,rfl,rfl⟩)

theorem aNs {w0:World}{S0:Bs}{f:DFs}{ap:List Value} (h0:eU.ro w0 (FF w0 S0) f ap) (a:Int) (i:Int) (n:Int):
    Calls Tryz.prog 11 #[.agg ap.toArray,.int .i64 a,.int .i64 i,.int .i64 n] w0 (aJ w0 S0 (aJq (qR f a i n))):=by
 obtain⟨a6,a7,rfl,ae,af⟩:=cY h0
 obtain⟨ag,ah,rfl,aq,ar,au,av⟩:=aH ae
 obtain⟨ai,aj,rfl,aw,ax,ay,az⟩:=aH af
 refine Y.enter (N:=46) Tryz.func11 rfl rfl (by simp) [(0,.agg #[.slice ag f.inodes.length ah,.slice ai f.data.length aj]),(1,.int .i64 a),(2,.int .i64 i),(3,.int .i64 n)] (by simp) (l0:= []) trivial ?_
 refine Y.seq (Y.region ?_)
 refine Y.el rfl (fT (cs:= [.slice ag f.inodes.length ah,.slice ai f.data.length aj]) (n:=2) rfl (.t .z) rfl rfl) ?_
 rintro _ _ ⟨g3,rfl,rfl⟩
 refine Y.el rfl (bL rfl aJe rfl rfl) ?_
 rintro _ _ ⟨g4,rfl,rfl⟩
 refine Y.nt (Y.seq (Y.region (Y.ql rfl (qW rfl bI (.t .g1) .g1 aW) (Y.mv rfl .g4 ?_))))
 refine Y.cl rfl rfl Tryz.func45 rfl rfl (aX (.t .g1) (.t .z)) .n (fun _ _ hs tr=>aLh (aM f (tr.ctx ae) (tr.ctx af)) _) ?_
 rintro _ _ ⟨v5,rfl,rfl⟩
 refine Y.m (.c .n) ?_
 refine Y.h (WS.a .z) ?_
 rintro⟨ac,ak,rfl,a8,a9,ba⟩
 refine Y.el rfl (bL rfl aJe rfl rfl) ?_
 rintro _ _ ⟨g8,rfl,rfl⟩
 refine Y.es (aD rfl) rfl (esW rfl (.t .z) (.t .g1) .z kH rfl rfl) ?_
 refine Y.nt (Y.seq (Y.seq (Y.region (Y.fa rfl .z aA9 (Y.ld rfl cF .z .z (Y.ql rfl (cU rfl (.t .z) .c) (Y.nil ?_)))))))
 refine Y.g ?_
 refine Y.ad (.t .z) (fun b9=> ?_) (fun b9=> ?_)
 have hbc:=aA0 b9
 refine Y.seq (Y.region (Y.ql rfl (qW rfl rD (.t .g3) .z kH) ?_))
 refine Y.es (aD rfl) rfl (esW rfl (.t .g8) (.t .z) .g2 kH rfl rfl) ?_
 refine Y.nt (Y.ret (Y.r ?_))
 refine Y.i (dD rfl .g8 rD .z kH) (.c .g2 .n) ?_
 first |(rw [uG (by assumption)];exact⟨_,rfl,rfl⟩) |(rw [uW (by assumption) (by omega)];exact⟨_,rfl,rfl⟩) |(rw [uA (by assumption) (by omega)];exact⟨_,rfl,rfl⟩)
 have hbc:=aAu b9
 have hbb:=aAa hbc
 have hbbl:(lG f a).bytes.length=(cQ f a).length:=by rw [hbb]
 have hfl:=uZ (xF (aBa hbc).1) a
 have ad:(lG f a).bytes=cQ f a:=hbb
 refine Y.eq .g4 (congrArg (fun z_:List UInt8=>(.agg #[.int .i64 ((lG f a).code),.slice ac (z_).length ak]:Value)) ad) ?_
 refine Y.ak .z (congrArg (fun z_:List UInt8=>(cM g8 31 2 1 [.int .i64 ((lG f a).code),.slice ac (z_).length ak]:Asn)) ad) ?_
 refine Y.ak .g1 (congrArg (fun z_:List UInt8=>(aG cX (z_) [.slice ac (z_).length ak]:Asn)) ad) ?_
 refine Y.skip (Y.g (Y.seq (Y.seq (Y.region (Y.mv rfl .g11 ?_)))))
 refine Y.cl rfl rfl Tryz.func46 rfl rfl (dX (.t .z) .c .c) .n (fun _ _ hs tr=>xL _ _ _) ?_
 rintro _ _ ⟨rfl,rfl⟩
 refine Y.m .n ?_
 refine Y.ql rfl (fN rfl (.t .z)) (Y.mv rfl .z ?_)
 refine Y.ap .z (fun g11=> ?_) (fun g11=> ?_)
 refine Y.j rfl rfl .z rfl rfl (by decide) rfl ?_
 refine Y.j rfl rfl .g1 rfl rfl (by decide) rfl ?_
 refine Y.j rfl rfl .g2 rfl rfl (by decide) rfl ?_
 refine Y.ql rfl (bO rfl (.t .g3) .c) (Y.nt ?_)
 refine Y.ao (.t .z) ?_
 refine Y.seq (Y.region (Y.ql rfl (aZ (cs:= [.int .i64 3,.slice none 0 0]) rfl uJ (pv1 .c) rfl) ?_))
 refine Y.es (aD rfl) rfl (esW rfl (.t .g16) (.t .z) .g2 kH rfl rfl) ?_
 refine Y.nt (Y.ret (Y.r ?_))
 refine Y.add (c:=aG cX [] [.slice none 0 0]) (fun w S=>aN w S none) ?_
 refine Y.i (dD rfl .g16 rD .g1 kH) (.c .z .n) ?_
 first |(rw [uG (by assumption)];exact⟨_,rfl,rfl⟩) |(rw [uW (by assumption) (by omega)];exact⟨_,rfl,rfl⟩) |(rw [uA (by assumption) (by omega)];exact⟨_,rfl,rfl⟩)
 refine Y.qg rfl rfl .z rfl rfl rfl (aV rfl (.t .g16)) ?_
 refine Y.call (fU rfl rfl .g1) rfl (by decide) rfl (bS rfl Tryz.func46 rfl rfl (dX (.t .z) .c .c)) .n (fun _ _ hs tr=>xL _ _ _) ?_
 rintro _ _ ⟨rfl,rfl⟩
 refine Y.m .n ?_
 refine Y.qg rfl rfl .g2 rfl rfl rfl (fN rfl (.t .z)) ?_
 refine Y.ql rfl (bW rfl (.t .g3) (.t .z)) (Y.nt ?_)
 refine Y.ad (.t .z) (fun bb=> ?_) (fun bb=> ?_)
 refine Y.seq (Y.region (Y.ql rfl (aZ (cs:= [.int .i64 3,.slice none 0 0]) rfl uJ (pv1 .c) rfl) ?_))
 refine Y.es (aD rfl) rfl (esW rfl (.t .g16) (.t .z) .g2 kH rfl rfl) ?_
 refine Y.nt (Y.ret (Y.r ?_))
 refine Y.add (c:=aG cX [] [.slice none 0 0]) (fun w S=>aN w S none) ?_
 refine Y.i (dD rfl .g16 rD .g1 kH) (.c .z .n) ?_
 first |(rw [uG (by assumption)];exact⟨_,rfl,rfl⟩) |(rw [uW (by assumption) (by omega)];exact⟨_,rfl,rfl⟩) |(rw [uA (by assumption) (by omega)];exact⟨_,rfl,rfl⟩)
 refine Y.skip (Y.g (Y.seq (Y.region (Y.fa rfl .g12 wI (Y.ld rfl nL .z .g1 (Y.ql rfl (bM rfl gV (.t .z)) (Y.as rfl .z (Y.nil ?_))))))))
 refine Y.g (Y.seq (Y.region (Y.mv rfl (.s16 .g7) (Y.mv rfl .g1 ?_))))
 refine Y.cl rfl rfl Tryz.func47 rfl rfl (aX (.t .g1) (.t .z)) .n (fun _ _ hs tr=>aG8 _ _) ?_
 rintro _ _ ⟨rfl,rfl⟩
 refine Y.m .n ?_
 have bc:=lL i ((cQ f a).length:Int)
 refine Y.as rfl .z (Y.nt (Y.seq ?_))
 refine Y.dr .g1 12 gG ?_
 refine Y.sc (qs 1 7) (by kernel_rfl) ?_
 refine Y.df rfl rfl .g1 (.s16 .g4) wI (Y.dl rfl rfl .g1 nL .z .z (Y.dm rfl rfl .g1 .g2 (Y.dm rfl rfl .g1 .g7 (Y.dm rfl rfl .g1 .g4 (Y.dm rfl rfl .g1 (.s16 (.s16 .g1)) ?_)))))
 refine Y.dk rfl rfl .g1 (bQ (c:=(fF i ((cQ f a).length:Int))+n) rfl (.t .g1) (.t .z) (wr (by omega) (by omega) (by omega))) ?_
 refine Y.aa ?_
 refine Y.au (i:=0) (j:=8) (by kernel_rfl) ?_ ?_
 refine Y.e (aE rfl rfl) rfl (by decide) rfl (eH rfl gV (inz kB)) ?_
 rintro _ _ ⟨g16,rfl,rfl⟩
 refine Y.sk .g2 ?_
 refine Y.aa ?_
 refine Y.sc [(8,false),(9,true),(10,false),(11,true),(12,false)] (by kernel_rfl) ?_
 refine Y.call (aE rfl rfl) rfl (by decide) rfl (bS rfl Tryz.func47 rfl rfl (aX (.t .g4) (.t .g1))) .n (fun _ _ hs tr=>aG8 _ _) ?_
 rintro _ _ ⟨rfl,rfl⟩
 refine Y.m .n ?_
 have bd:=lL ((cQ f a).length:Int) ((fF i ((cQ f a).length:Int))+n)
 refine Y.sk .g2 ?_
 refine Y.eq .g6 (congrArg (Value.int .i64) (show fF i ((cQ f a).length:Int)=((Int.toNat (fF i ((cQ f a).length:Int)):Nat):Int) by omega)) ?_
 refine Y.eq .g1 (congrArg (Value.int .i64) (show fF ((cQ f a).length:Int) ((fF i ((cQ f a).length:Int))+n)=((Int.toNat (fF ((cQ f a).length:Int) ((fF i ((cQ f a).length:Int))+n)):Nat):Int) by omega)) ?_
 obtain⟨be,aa⟩:∃A':Option Addr,A'=(if ak=Int.toNat (fF i ((cQ f a).length:Int))then ac else Option.map (fun z=>Addr.add z ((Int.toNat (fF i ((cQ f a).length:Int))) * 1)) ac):=⟨_,rfl⟩
 have bf:=fR (xs:=cQ f a) (a:=Int.toNat (fF i ((cQ f a).length:Int))) (b:=Int.toNat (fF ((cQ f a).length:Int) ((fF i ((cQ f a).length:Int))+n))) (by omega)
 have bg:True:=trivial
 refine Y.dk rfl rfl .g2 (iN (a:=Int.toNat (fF i ((cQ f a).length:Int))) (b:=Int.toNat (fF ((cQ f a).length:Int) ((fF i ((cQ f a).length:Int))+n))) rfl gV aAf (.t .g7) aa (.inr ⟨_,_,rfl,(.t .g1)⟩) (.inr ⟨_,_,rfl,(.t .z)⟩) (by omega) (by omega) (by omega)) ?_
 refine Y.add (c:=aG cX ([]:(List UInt8)) [.slice (some ⟨g16,0,none⟩) 0 0]) (fun w S=>aN w S _) ?_
 refine Y.e (aE rfl rfl) rfl (by decide) rfl (eG (bC _ _ _) rfl gV kB rfl (.t .g3) (.t .z) (.c .z .n) (fun w1 S1 tr=>(nK (a:=Int.toNat (fF i ((cQ f a).length:Int))) (b:=Int.toNat (fF ((cQ f a).length:Int) ((fF i ((cQ f a).length:Int))+n))) aa (tr.own .g1) (by omega) (by omega))) (by first | omega |(simp only [List.length_append,List.length_take,List.length_nil,List.length_cons];omega)) (by first | omega |(simp only [List.length_append,List.length_take,List.length_nil,List.length_cons];omega))) ?_
 rintro _ _ rfl
 refine Y.af .z (List.nil_append _) ?_
 refine Y.h (WS.a .z) ?_
 rintro⟨al,am,rfl,a0,a1,a2⟩
 refine Y.sk .g3 ?_
 refine Y.dk rfl rfl .g3 (aZ (cs:= [.int .i64 0,.slice al (fY (cQ f a) (Int.toNat (fF i ((cQ f a).length:Int))) (Int.toNat (fF ((cQ f a).length:Int) ((fF i ((cQ f a).length:Int))+n)))).length am]) rfl uJ (pv1 (.t .z)) rfl) ?_
 refine Y.es (aE rfl rfl) rfl (esW rfl (.t (.s16 (.s16 .g3))) (.t .z) .g4 kH rfl rfl) ?_
 refine Y.sl rfl ?_
 refine Y.aa ?_
 refine Y.ag (by kernel_rfl) ?_
 refine Y.g (Y.ret ?_)
 refine Y.af (x':=zL (cQ f a) i n) .g1 (by unfold zL;first | rfl | rw [vB (fF i _+n)]) ?_
 refine Y.i (dD rfl (.s16 (.s16 .g3)) rD .g1 kH) (.c .z .n) ?_
 first |(rw [uG (by assumption)];exact⟨_,rfl,rfl⟩) |(rw [uW (by assumption) (by omega)];exact⟨_,rfl,rfl⟩) |(rw [uA (by assumption) (by omega)];exact⟨_,rfl,rfl⟩)
 refine Y.call (aE rfl rfl) rfl (by decide) rfl (bS rfl Tryz.func47 rfl rfl (aX (.t .g3) (.t .z))) .n (fun _ _ hs tr=>aG8 _ _) ?_
 rintro _ _ ⟨rfl,rfl⟩
 refine Y.m .n ?_
 have bh:=lL ((cQ f a).length:Int) ((fF i ((cQ f a).length:Int))+n)
 refine Y.sk .g1 ?_
 refine Y.aa ?_
 refine Y.sc [(9,true),(0,false),(10,false),(11,true),(12,false)] (by kernel_rfl) ?_
 refine Y.eq .g5 (congrArg (Value.int .i64) (show fF i ((cQ f a).length:Int)=((Int.toNat (fF i ((cQ f a).length:Int)):Nat):Int) by omega)) ?_
 refine Y.eq .g1 (congrArg (Value.int .i64) (show fF ((cQ f a).length:Int) ((fF i ((cQ f a).length:Int))+n)=((Int.toNat (fF ((cQ f a).length:Int) ((fF i ((cQ f a).length:Int))+n)):Nat):Int) by omega)) ?_
 obtain⟨bi,ab⟩:∃A':Option Addr,A'=(if ak=Int.toNat (fF i ((cQ f a).length:Int))then ac else Option.map (fun z=>Addr.add z ((Int.toNat (fF i ((cQ f a).length:Int))) * 1)) ac):=⟨_,rfl⟩
 have bj:=fR (xs:=cQ f a) (a:=Int.toNat (fF i ((cQ f a).length:Int))) (b:=Int.toNat (fF ((cQ f a).length:Int) ((fF i ((cQ f a).length:Int))+n))) (by omega)
 have bk:True:=trivial
 refine Y.dk rfl rfl .g1 (iN (a:=Int.toNat (fF i ((cQ f a).length:Int))) (b:=Int.toNat (fF ((cQ f a).length:Int) ((fF i ((cQ f a).length:Int))+n))) rfl gV aAf (.t .g6) ab (.inr ⟨_,_,rfl,(.t .g1)⟩) (.inr ⟨_,_,rfl,(.t .z)⟩) (by omega) (by omega) (by omega)) ?_
 refine Y.e (aE rfl rfl) rfl (by decide) rfl (eH rfl gV (inz kB)) ?_
 rintro _ _ ⟨g25,rfl,rfl⟩
 refine Y.sk .g2 ?_
 refine Y.add (c:=aG cX ([]:(List UInt8)) [.slice (some ⟨g25,0,none⟩) 0 0]) (fun w S=>aN w S _) ?_
 refine Y.e (aE rfl rfl) rfl (by decide) rfl (eG (bC _ _ _) rfl gV kB rfl (.t .z) (.t .g1) (.c .z .n) (fun w1 S1 tr=>(nK (a:=Int.toNat (fF i ((cQ f a).length:Int))) (b:=Int.toNat (fF ((cQ f a).length:Int) ((fF i ((cQ f a).length:Int))+n))) ab (tr.own .g1) (by omega) (by omega))) (by first | omega |(simp only [List.length_append,List.length_take,List.length_nil,List.length_cons];omega)) (by first | omega |(simp only [List.length_append,List.length_take,List.length_nil,List.length_cons];omega))) ?_
 rintro _ _ rfl
 refine Y.af .z (List.nil_append _) ?_
 refine Y.h (WS.a .z) ?_
 rintro⟨an,ao,rfl,a3,a4,a5⟩
 refine Y.sk .g3 ?_
 refine Y.dk rfl rfl .g3 (aZ (cs:= [.int .i64 0,.slice an (fY (cQ f a) (Int.toNat (fF i ((cQ f a).length:Int))) (Int.toNat (fF ((cQ f a).length:Int) ((fF i ((cQ f a).length:Int))+n)))).length ao]) rfl uJ (pv1 (.t .z)) rfl) ?_
 refine Y.es (aE rfl rfl) rfl (esW rfl (.t (.s16 (.s16 .g3))) (.t .z) .g4 kH rfl rfl) ?_
 refine Y.sl rfl ?_
 refine Y.aa ?_
 refine Y.ag (by kernel_rfl) ?_
 refine Y.g (Y.ret ?_)
 refine Y.af (x':=zL (cQ f a) i n) .g1 (by unfold zL;first | rfl | rw [vB (fF i _+n)]) ?_
 refine Y.i (dD rfl (.s16 (.s16 .g3)) rD .g1 kH) (.c .z .n) ?_
 first |(rw [uG (by assumption)];exact⟨_,rfl,rfl⟩) |(rw [uW (by assumption) (by omega)];exact⟨_,rfl,rfl⟩) |(rw [uA (by assumption) (by omega)];exact⟨_,rfl,rfl⟩)

end Go.Proofs.YtmejbfmhaoilmaaGreat

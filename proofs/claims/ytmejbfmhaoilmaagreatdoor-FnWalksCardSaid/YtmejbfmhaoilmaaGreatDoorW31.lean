/- What is proved: contracts of functions, one a function. No condition. -/
import Derived.Test.YtmejbfmhaoilmaaGreatDoorBase1
import Derived.Test.YtmejbfmhaoilmaaGreatDoorW24
namespace Go.Proofs.YtmejbfmhaoilmaaGreatDoor
open Go Go.RowKit
set_option linter.unusedVariables false
set_option linter.unusedSimpArgs false
set_option maxHeartbeats 1000000
set_option maxRecDepth 20000
theorem aH6 {w0:World}{S0:Bs}{f:DFs}{ad0:Addr} (h0:eV dV w0 (FF w0 S0) ad0 f) (a:Int):
    Calls Tryz.prog 133 #[.pointer (some ad0),.int .i64 a] w0 (aI w0 S0 (fun r l=>r= .bool (decide (bQ f.inodes.length a))∧l= [])):=by
 obtain⟨ec0,hF0,hr0,hc0⟩:=id h0
 obtain⟨u0_0,u0_1,rfl,h0_0,h0_1⟩:=bZ hr0
 obtain⟨A0_0,c0_0,rfl,hl0_0,hm0_0,hb0_0,he0_0⟩:=aD h0_0
 obtain⟨A0_1,c0_1,rfl,hl0_1,hm0_1,hb0_1,he0_1⟩:=aD h0_1
 refine Y.enter (N:=13) Tryz.func133 rfl rfl (by simp) [(0,.pointer (some ad0)),(1,.int .i64 a)] (by simp) (l0:= []) trivial ?_
 refine Y.seq (Y.region (Y.ql rfl (aA rfl .c) (Y.nt (Y.seq (Y.region (Y.mv rfl .g2 (Y.mv rfl .g2 ?_)))))))
 refine Y.nc rfl .z (Y.fa rfl .z aP (Y.le rfl bR .z hF0 hc0 (Y.ql rfl (bD rfl cQ (.t .z)) ?_)))
 refine Y.ql rfl (iT (c:=(f.inodes.length:Int) - 1) rfl (.t .z) .c (wr (by omega) (by omega) (by omega))) ?_
 refine Y.cl rfl rfl Tryz.func86 rfl rfl (eL (.t .g6) .c (.t .z)) .n (fun _ _ hs tr=>yK _ _ _) ?_
 rintro _ _ ⟨rfl,rfl⟩
 refine Y.m .n ?_
 refine Y.er .g8 (Y.as rfl .z (Y.nt (Y.ret ?_)))
 refine Y.i (aU rfl .z) .n ?_
 exact⟨rfl,rfl⟩

theorem aGu {w0:World}{S0:Bs}{f:DFs}{a1:Addr} (h0:eV dV w0 (FF w0 S0) a1 f) (a:Int) (ht:aX f=0) (hp:bQ f.inodes.length a):
    Calls Tryz.prog 137 #[.pointer (some a1),.int .i64 a] w0 (aI w0 S0 (fun r l=>l= [aH dD (cF f a) [r]])):=by
 obtain⟨cq,bg,b8,bh⟩:=id h0
 obtain⟨b9,ca,rfl,a2,a3⟩:=bZ b8
 obtain⟨cb,cc,rfl,bi,bj,bk,al⟩:=aD a2
 obtain⟨cd,ce,rfl,bm,bn,bo,am⟩:=aD a3
 have hI:=hU ht
 have cf:=oK ht
 obtain⟨cr,cs⟩:=hp
 refine Y.enter (N:=40) Tryz.func137 rfl rfl (by simp) [(0,.pointer (some a1)),(1,.int .i64 a)] (by simp) (l0:= []) trivial ?_
 refine Y.seq (Y.region (Y.ql rfl (aA rfl .c) (Y.nt (Y.seq (Y.region ?_)))))
 refine Y.el rfl (eA rfl iJ (inz mC)) ?_
 rintro _ _ ⟨g3,rfl,rfl⟩
 refine Y.as rfl .z (Y.nt (Y.seq (Y.region (Y.mv rfl .g3 (Y.nc rfl .z (Y.fa rfl .z aP (Y.le rfl bR .z bg bh ?_)))))))
 refine Y.mv rfl .g8 ?_
 obtain⟨cg,an,ao⟩:=al (by omega)
 subst an
 obtain⟨x5,ap⟩:=aK (xs:=f.inodes) (j:=Int.toNat a) (by omega)
 obtain⟨ch,a4,aq,ar⟩:=ao.elem ap
 obtain⟨bp,bq,rfl,au,av⟩:=bY a4
 obtain⟨br,bt,rfl,a5,a6,a7,ae⟩:=aD au
 obtain⟨bu,bv,rfl,a8,a9,ba,bb⟩:=aD av
 have ct:=cO (i:=a) ap (by omega)
 have cu:=cP (a:=a) ap (by omega)
 have bc:=dM hI _ (List.mem_of_getElem? ap)
 have bd:=vF (a:=a) ap (by omega)
 have b4x5:=lW bc
 refine Y.ql rfl (aB (j:=Int.toNat a) rfl cQ aT (.t .g1) (.t .z) (by omega) (by omega)) ?_
 refine Y.as rfl .z (Y.nt (Y.seq (Y.seq (Y.region (Y.ql rfl (aA rfl .c) (Y.nt ?_))))))
 refine Y.block ?_
 refine Y.add (c:=aH dD ([]:(List UInt8)) [.slice (some ⟨g3,0,none⟩) 0 0]) (fun w S=>aL w S _) ?_
 refine Y.ai (γ:=Nat×(Option Addr)×Nat) (fun⟨k,aa,ab⟩=> [(7,.int .i64 (k:Int)),(6,.pointer (some (Addr.add cg ((Int.toNat a) * 5)))),(5,.slice aa (kP f.data x5.blocks k).length ab),(4,.slice none 0 0),(0,.pointer (some a1))]) (fun⟨k,aa,ab⟩=> [aH dD (kP f.data x5.blocks k) [.slice aa (kP f.data x5.blocks k).length ab],bV g3 5 1 0 []]) (fun⟨k,aa,ab⟩=>k≤x5.blocks.length) (fun⟨k,aa,ab⟩=>x5.blocks.length - k) (0,(some ⟨g3,0,none⟩),0) (Nat.zero_le _) (.c .z (.c .g1 (.c .g8 (.c .g10 (.c .g11 .n))))) (fun _ h=>h.sel (.c .z (.c .z .n))) ?_
 rintro⟨k,aa,ab⟩ hk
 have hbl:=vU (data:=f.data) (bs:=x5.blocks) k b4x5.1 (aDr ht)
 refine Y.seq (Y.seq (Y.region (Y.mv rfl .z (Y.mv rfl .g2 (Y.nc rfl .z (Y.fa rfl .z dH (Y.le rfl eZ .z aq ar (Y.ql rfl (bD rfl eF (.t .z)) ?_))))))))
 refine Y.ql rfl (dA rfl (.t .g5) (.t .z)) (Y.nt ?_)
 refine Y.u (.t .z) (fun ci=> ?_) (fun ci=> ?_)
 refine Y.skip (Y.g (Y.seq (Y.block ?_)))
 refine Y.dr .g1 15 fR ?_
 refine Y.sc (qs 0 14++ [(14,false),(15,false)]) (by kernel_rfl) ?_
 refine Y.dm rfl rfl .g1 .g9 (Y.dm rfl rfl .g1 .g12 (Y.dn rfl rfl .g1 .z (Y.df rfl rfl .g1 .z gQ (Y.de rfl rfl .g1 mS .z bg bh (Y.dm rfl rfl .g1 .g13 (Y.dn rfl rfl .g1 .z (Y.df rfl rfl .g1 .z dH (Y.de rfl rfl .g1 eZ .z aq ar ?_))))))))
 refine Y.dm rfl rfl .g1 .g16 ?_
 obtain⟨cj,af,ag⟩:=ae (by omega)
 subst af
 obtain⟨bw,ah⟩:=aK (xs:=x5.blocks) (j:=k) (by omega)
 obtain⟨bx,aw,ax,ay⟩:=ag.elem ah
 obtain⟨rfl,ck⟩:=aw
 have bz:=b4x5.2 _ (List.mem_of_getElem? ah)
 refine Y.dk rfl rfl .g1 (aB (j:=k) rfl eF jO (.t .g1) (.t .z) rfl (by omega)) ?_
 refine Y.dk rfl rfl .g1 (aM rfl bP (.t .z) (WS.i ax ay rfl)) ?_
 obtain⟨cm,ai,aj⟩:=am (by omega)
 subst ai
 obtain⟨cv,ak⟩:=aK (xs:=f.data) (j:=Int.toNat bw) (by omega)
 obtain⟨b0,ac,az,a0⟩:=aj.elem ak
 obtain⟨cn,rfl⟩:=lS ac
 obtain⟨co,cp,rfl,b1,b2,b3,b4⟩:=aD ac
 have p8x15:=aDr ht _ (List.mem_of_getElem? ak)
 refine Y.dk rfl rfl .g1 (aB (j:=Int.toNat bw) rfl pH nY (.t .g7) (.t .z) (by omega) (by omega)) ?_
 refine Y.dk rfl rfl .g1 (aM rfl oG (.t .z) (WS.i az a0 rfl)) ?_
 refine Y.e (aC rfl rfl) rfl (by decide) rfl (eD (bT _ _ _) rfl iJ mC rfl (.t .g13) (.t .z) (.c .z .n) (fun w1 S1 tr=>tr.ctx ac) (by first | omega |(simp only [List.length_append,List.length_take,List.length_nil,List.length_cons];omega)) (by first | omega |(simp only [List.length_append,List.length_take,List.length_nil,List.length_cons];omega))) ?_
 rintro _ _ rfl
 refine Y.ah .z (aF3 ah ak) ?_
 refine Y.h (WS.a .z) ?_
 rintro⟨be,bf,rfl,b5,b6,b7⟩
 refine Y.sk .g1 ?_
 refine Y.er (.s16 .g8) ?_
 refine Y.q (aC rfl rfl) rfl (by decide) rfl (aA rfl (.t .z)) ?_
 refine Y.sl rfl ?_
 refine Y.w ?_
 refine Y.af (by kernel_rfl) ?_
 refine Y.ab (Y.g (Y.region (Y.mv rfl (.s16 .g7) ?_)))
 refine Y.ql rfl (bN (c:=((k+1:Nat):Int)) rfl (.t .z) .c (wr (by omega) (by omega) (by omega))) ?_
 refine Y.er (.s16 .g9) (Y.as rfl .z (Y.nil ?_))
 refine Y.ae ((k+1),be,bf) (by omega) (by first | omega |(dsimp only;omega)) (.c .z (.c (.s16 .g10) (.c .g3 (.c (.s16 .g11) (.c (.s16 .g12) .n))))) (fun _ h=>h.sel (.c .z (.c .z .n)))
 refine Y.exit (Y.y (Y.y (Y.ag (Y.g (Y.seq (Y.region (Y.mv rfl .g9 (Y.er .g11 ?_))))))))
 refine Y.as rfl .z (Y.nt (Y.ret ?_))
 have ad:kP f.data x5.blocks k=cF f a:=(by unfold cF;rw [bd];exact aCm (by omega))
 refine Y.eq .z (congrArg (fun z_=>(.slice aa (z_).length ab:Value)) ad) ?_
 refine Y.eq .g1 (congrArg (fun z_=>(.slice aa (z_).length ab:Value)) ad) ?_
 refine Y.eq .g11 (congrArg (fun z_=>(.slice aa (z_).length ab:Value)) ad) ?_
 refine Y.ak .z (congrArg (fun z_=>(aH dD (z_) [.slice aa (z_).length ab]:Asn)) ad) ?_
 refine Y.i (aU rfl .g2) (.c .z .n) ?_
 rfl

theorem aKh {w0:World}{S0:Bs}{f:DFs}{a9:List Value} (h0:dV.ro w0 (FF w0 S0) f a9) (a:Int):
    Calls Tryz.prog 135 #[.agg a9.toArray,.int .i64 a] w0 (aI w0 S0 (aIk (lD f a))):=by
 obtain⟨bn,bo,rfl,aa,ab⟩:=bZ h0
 obtain⟨ah,ai,rfl,ba,bb,bc,aj⟩:=aD aa
 obtain⟨ak,al,rfl,bd,be,bf,bg⟩:=aD ab
 refine Y.enter (N:=30) Tryz.func135 rfl rfl (by simp) [(0,.agg #[.slice ah f.inodes.length ai,.slice ak f.data.length al]),(1,.int .i64 a)] (by simp) (l0:= []) trivial ?_
 refine Y.seq (Y.region ?_)
 refine Y.el rfl (fQ (cs:= [.slice ah f.inodes.length ai,.slice ak f.data.length al]) (n:=2) rfl (.t .z) rfl rfl) ?_
 rintro _ _ ⟨g3,rfl,rfl⟩
 refine Y.el rfl (bB rfl aEl rfl rfl) ?_
 rintro _ _ ⟨g4,rfl,rfl⟩
 refine Y.nt (Y.seq (Y.seq (Y.region ?_)))
 refine Y.cl rfl rfl Tryz.func18 rfl rfl (bG (.t .g1)) .n (fun _ _ hs tr=>aLk (tr.ptr .g1 (aJ f (tr.ctx aa) (tr.ctx ab)))) ?_
 rintro _ _ ⟨rfl,rfl⟩
 refine Y.m .n ?_
 refine Y.as rfl .z (Y.nt (Y.seq (Y.region (Y.mv rfl .z (Y.ql rfl (bW rfl (.t .z) .c) (Y.nt ?_))))))
 refine Y.ac (.t .z) (fun b5=> ?_) (fun b5=> ?_)
 refine Y.seq (Y.region (Y.mv rfl .g2 (Y.ql rfl (aW (cs:= [.int .i64 (cS f),.slice none 0 0]) rfl pW (pv1 (.t .z)) rfl) ?_)))
 refine Y.es (aE rfl) rfl (esW rfl (.t .g6) (.t .z) .z iE rfl rfl) ?_
 refine Y.nt (Y.ret (Y.j ?_))
 refine Y.add (c:=aH dD [] [.slice none 0 0]) (fun w S=>aL w S none) ?_
 refine Y.i (cU rfl .g6 nW .g1 iE) (.c .z .n) ?_
 first |(rw [eP (by assumption)];exact⟨_,rfl,rfl⟩) |(rw [kI (by assumption)];exact⟨_,rfl,rfl⟩) |(rw [kI (mX (by assumption) (by assumption) (by omega) (by omega))];exact⟨_,rfl,rfl⟩) |(rw [eP (by rw [gX (by assumption)];first | assumption | decide),gX (by assumption)];exact⟨_,rfl,rfl⟩) |(rw [eP (by rw [hX (by assumption) (by assumption)];first | assumption | decide),hX (by assumption) (by assumption)];exact⟨_,rfl,rfl⟩) |(rw [eP (by rw [gZ (by assumption) (by assumption) (by omega)];first | assumption | decide),gZ (by assumption) (by assumption) (by omega)];exact⟨_,rfl,rfl⟩) |(rw [eP (by rw [hZ (by assumption) (by assumption) (by omega) (by omega)];first | assumption | decide),hZ (by assumption) (by assumption) (by omega) (by omega)];exact⟨_,rfl,rfl⟩)
 have az:=nE b5
 have a0:=hU az
 refine Y.skip (Y.g (Y.seq (Y.seq (Y.region (Y.mv rfl .g7 ?_)))))
 refine Y.cl rfl rfl Tryz.func133 rfl rfl (aS (.t .g6) (.t .z)) .n (fun _ _ hs tr=>aH6 (tr.ptr .g1 (aJ f (tr.ctx aa) (tr.ctx ab))) _) ?_
 rintro _ _ ⟨rfl,rfl⟩
 refine Y.m .n ?_
 refine Y.ql rfl (fF rfl (.t .z)) (Y.nt ?_)
 refine Y.ac (.t .z) (fun b8=> ?_) (fun b8=> ?_)
 refine Y.seq (Y.region (Y.ql rfl (aW (cs:= [.int .i64 3,.slice none 0 0]) rfl pW (pv1 .c) rfl) ?_))
 refine Y.es (aE rfl) rfl (esW rfl (.t .g8) (.t .z) .z iE rfl rfl) ?_
 refine Y.nt (Y.ret (Y.j ?_))
 refine Y.add (c:=aH dD [] [.slice none 0 0]) (fun w S=>aL w S none) ?_
 refine Y.i (cU rfl .g8 nW .g1 iE) (.c .z .n) ?_
 first |(rw [eP (by assumption)];exact⟨_,rfl,rfl⟩) |(rw [kI (by assumption)];exact⟨_,rfl,rfl⟩) |(rw [kI (mX (by assumption) (by assumption) (by omega) (by omega))];exact⟨_,rfl,rfl⟩) |(rw [eP (by rw [gX (by assumption)];first | assumption | decide),gX (by assumption)];exact⟨_,rfl,rfl⟩) |(rw [eP (by rw [hX (by assumption) (by assumption)];first | assumption | decide),hX (by assumption) (by assumption)];exact⟨_,rfl,rfl⟩) |(rw [eP (by rw [gZ (by assumption) (by assumption) (by omega)];first | assumption | decide),gZ (by assumption) (by assumption) (by omega)];exact⟨_,rfl,rfl⟩) |(rw [eP (by rw [hZ (by assumption) (by assumption) (by omega) (by omega)];first | assumption | decide),hZ (by assumption) (by assumption) (by omega) (by omega)];exact⟨_,rfl,rfl⟩)
 refine Y.skip (Y.g (Y.seq (Y.seq (Y.region (Y.fa rfl .g8 aP (Y.ld rfl bR .z .g1 (Y.mv rfl .g12 ?_)))))))
 obtain⟨bp,ad,ae⟩:=aj (by omega)
 subst ad
 obtain⟨bu,ac⟩:=aK (xs:=f.inodes) (j:=Int.toNat a) (by omega)
 obtain⟨bh,am,an,ao⟩:=ae.elem ac
 obtain⟨a1,a2,rfl,af,ag⟩:=bY am
 obtain⟨a3,a4,rfl,ap,aq,ar,au⟩:=aD af
 obtain⟨a5,a6,rfl,av,aw,ax,ay⟩:=aD ag
 have bq:=cO (i:=a) ac (by omega)
 have br:=cP (a:=a) ac (by omega)
 have bi:=dM a0 _ (List.mem_of_getElem? ac)
 refine Y.ql rfl (aB (j:=Int.toNat a) rfl cQ aT (.t .g1) (.t .z) (by omega) (by omega)) ?_
 refine Y.fa rfl .z bS (Y.le rfl bP .z an ao (Y.nt (Y.block (Y.seq (Y.region (Y.ql rfl (bU rfl (.t .z) .c) (Y.as rfl .z ?_)))))))
 refine Y.nt ?_
 refine Y.u (.t .z) (fun bs=> ?_) (fun bs=> ?_)
 refine Y.seq (Y.region (Y.ql rfl (aW (cs:= [.int .i64 9,.slice none 0 0]) rfl pW (pv1 .c) rfl) ?_))
 refine Y.es (aE rfl) rfl (esW rfl (.t .g16) (.t .z) .z iE rfl rfl) ?_
 refine Y.nt (Y.ret (Y.v (Y.j ?_)))
 refine Y.add (c:=aH dD [] [.slice none 0 0]) (fun w S=>aL w S none) ?_
 refine Y.i (cU rfl .g16 nW .g1 iE) (.c .z .n) ?_
 first |(rw [eP (by assumption)];exact⟨_,rfl,rfl⟩) |(rw [kI (by assumption)];exact⟨_,rfl,rfl⟩) |(rw [kI (mX (by assumption) (by assumption) (by omega) (by omega))];exact⟨_,rfl,rfl⟩) |(rw [eP (by rw [gX (by assumption)];first | assumption | decide),gX (by assumption)];exact⟨_,rfl,rfl⟩) |(rw [eP (by rw [hX (by assumption) (by assumption)];first | assumption | decide),hX (by assumption) (by assumption)];exact⟨_,rfl,rfl⟩) |(rw [eP (by rw [gZ (by assumption) (by assumption) (by omega)];first | assumption | decide),gZ (by assumption) (by assumption) (by omega)];exact⟨_,rfl,rfl⟩) |(rw [eP (by rw [hZ (by assumption) (by assumption) (by omega) (by omega)];first | assumption | decide),hZ (by assumption) (by assumption) (by omega) (by omega)];exact⟨_,rfl,rfl⟩)
 refine Y.seq (Y.region (Y.ql rfl (bU rfl (.t .g2) .c) (Y.as rfl .z (Y.nt ?_))))
 refine Y.u (.t .z) (fun bt=> ?_) (fun bt=> ?_)
 refine Y.seq (Y.region (Y.ql rfl (aW (cs:= [.int .i64 4,.slice none 0 0]) rfl pW (pv1 .c) rfl) ?_))
 refine Y.es (aE rfl) rfl (esW rfl (.t (.s16 .g2)) (.t .z) .z iE rfl rfl) ?_
 refine Y.nt (Y.ret (Y.v (Y.j ?_)))
 refine Y.add (c:=aH dD [] [.slice none 0 0]) (fun w S=>aL w S none) ?_
 refine Y.i (cU rfl (.s16 .g2) nW .g1 iE) (.c .z .n) ?_
 first |(rw [eP (by assumption)];exact⟨_,rfl,rfl⟩) |(rw [kI (by assumption)];exact⟨_,rfl,rfl⟩) |(rw [kI (mX (by assumption) (by assumption) (by omega) (by omega))];exact⟨_,rfl,rfl⟩) |(rw [eP (by rw [gX (by assumption)];first | assumption | decide),gX (by assumption)];exact⟨_,rfl,rfl⟩) |(rw [eP (by rw [hX (by assumption) (by assumption)];first | assumption | decide),hX (by assumption) (by assumption)];exact⟨_,rfl,rfl⟩) |(rw [eP (by rw [gZ (by assumption) (by assumption) (by omega)];first | assumption | decide),gZ (by assumption) (by assumption) (by omega)];exact⟨_,rfl,rfl⟩) |(rw [eP (by rw [hZ (by assumption) (by assumption) (by omega) (by omega)];first | assumption | decide),hZ (by assumption) (by assumption) (by omega) (by omega)];exact⟨_,rfl,rfl⟩)
 refine Y.skip (Y.ab (Y.g (Y.seq (Y.region (Y.mv rfl (.s16 .g4) ?_)))))
 refine Y.cl rfl rfl Tryz.func137 rfl rfl (aS (.t (.s16 .g3)) (.t .z)) .n (fun _ _ hs tr=>aGu (tr.ptr .g1 (aJ f (tr.ctx aa) (tr.ctx ab))) _ (by assumption) (by first | assumption |(constructor <;> omega))) ?_
 rintro _ _ rfl
 refine Y.m (.c .n) ?_
 refine Y.h (WS.a .z) ?_
 rintro⟨a7,a8,rfl,bj,bk,bm⟩
 refine Y.ql rfl (aW (cs:= [.int .i64 0,.slice a7 (cF f a).length a8]) rfl pW (pv1 (.t .z)) rfl) ?_
 refine Y.es (aE rfl) rfl (esW rfl (.t (.s16 .g4)) (.t .z) .g1 iE rfl rfl) ?_
 refine Y.nt (Y.ret ?_)
 refine Y.i (cU rfl (.s16 .g4) nW .z iE) (.c .g1 .n) ?_
 first |(rw [eP (by assumption)];exact⟨_,rfl,rfl⟩) |(rw [kI (by assumption)];exact⟨_,rfl,rfl⟩) |(rw [kI (mX (by assumption) (by assumption) (by omega) (by omega))];exact⟨_,rfl,rfl⟩) |(rw [eP (by rw [gX (by assumption)];first | assumption | decide),gX (by assumption)];exact⟨_,rfl,rfl⟩) |(rw [eP (by rw [hX (by assumption) (by assumption)];first | assumption | decide),hX (by assumption) (by assumption)];exact⟨_,rfl,rfl⟩) |(rw [eP (by rw [gZ (by assumption) (by assumption) (by omega)];first | assumption | decide),gZ (by assumption) (by assumption) (by omega)];exact⟨_,rfl,rfl⟩) |(rw [eP (by rw [hZ (by assumption) (by assumption) (by omega) (by omega)];first | assumption | decide),hZ (by assumption) (by assumption) (by omega) (by omega)];exact⟨_,rfl,rfl⟩)

theorem aLx {w0:World}{S0:Bs}{f:DFs}{ap:List Value} (h0:dV.ro w0 (FF w0 S0) f ap) (a:Int) (i:Int) (n:Int):
    Calls Tryz.prog 107 #[.agg ap.toArray,.int .i64 a,.int .i64 i,.int .i64 n] w0 (aI w0 S0 (aIk (qA f a i n))):=by
 obtain⟨a6,a7,rfl,ae,af⟩:=bZ h0
 obtain⟨ag,ah,rfl,aq,ar,au,av⟩:=aD ae
 obtain⟨ai,aj,rfl,aw,ax,ay,az⟩:=aD af
 refine Y.enter (N:=46) Tryz.func107 rfl rfl (by simp) [(0,.agg #[.slice ag f.inodes.length ah,.slice ai f.data.length aj]),(1,.int .i64 a),(2,.int .i64 i),(3,.int .i64 n)] (by simp) (l0:= []) trivial ?_
 refine Y.seq (Y.region ?_)
 refine Y.el rfl (fQ (cs:= [.slice ag f.inodes.length ah,.slice ai f.data.length aj]) (n:=2) rfl (.t .z) rfl rfl) ?_
 rintro _ _ ⟨g3,rfl,rfl⟩
 refine Y.el rfl (bB rfl aEl rfl rfl) ?_
 rintro _ _ ⟨g4,rfl,rfl⟩
 refine Y.nt (Y.seq (Y.region (Y.ql rfl (qW rfl bX (.t .g1) .g1 bA) (Y.mv rfl .g4 ?_))))
 refine Y.cl rfl rfl Tryz.func135 rfl rfl (aS (.t .g1) (.t .z)) .n (fun _ _ hs tr=>aKh (aJ f (tr.ctx ae) (tr.ctx af)) _) ?_
 rintro _ _ ⟨v5,rfl,rfl⟩
 refine Y.m (.c .n) ?_
 refine Y.h (WS.a .z) ?_
 rintro⟨ac,ak,rfl,a8,a9,ba⟩
 refine Y.el rfl (bB rfl aEl rfl rfl) ?_
 rintro _ _ ⟨g8,rfl,rfl⟩
 refine Y.es (aE rfl) rfl (esW rfl (.t .z) (.t .g1) .z iE rfl rfl) ?_
 refine Y.nt (Y.seq (Y.seq (Y.region (Y.fa rfl .z xB (Y.ld rfl bP .z .z (Y.ql rfl (bW rfl (.t .z) .c) (Y.nil ?_)))))))
 refine Y.g ?_
 refine Y.ac (.t .z) (fun b9=> ?_) (fun b9=> ?_)
 have hbc:=aAn b9
 refine Y.seq (Y.region (Y.ql rfl (qW rfl nW (.t .g3) .z iE) ?_))
 refine Y.es (aE rfl) rfl (esW rfl (.t .g8) (.t .z) .g2 iE rfl rfl) ?_
 refine Y.nt (Y.ret (Y.j ?_))
 refine Y.i (cU rfl .g8 nW .z iE) (.c .g2 .n) ?_
 first |(rw [tD (by assumption)];exact⟨_,rfl,rfl⟩) |(rw [uC (by assumption) (by omega)];exact⟨_,rfl,rfl⟩) |(rw [uE (by assumption) (by omega)];exact⟨_,rfl,rfl⟩)
 have hbc:=aBi b9
 have hbb:=aAl hbc
 have hbbl:(lD f a).bytes.length=(cF f a).length:=by rw [hbb]
 have hfl:=vL (nE (aAq hbc).1) a
 have ad:(lD f a).bytes=cF f a:=hbb
 refine Y.eq .g4 (congrArg (fun z_:List UInt8=>(.agg #[.int .i64 ((lD f a).code),.slice ac (z_).length ak]:Value)) ad) ?_
 refine Y.ak .z (congrArg (fun z_:List UInt8=>(bV g8 135 2 1 [.int .i64 ((lD f a).code),.slice ac (z_).length ak]:Asn)) ad) ?_
 refine Y.ak .g1 (congrArg (fun z_:List UInt8=>(aH dD (z_) [.slice ac (z_).length ak]:Asn)) ad) ?_
 refine Y.skip (Y.g (Y.seq (Y.seq (Y.region (Y.mv rfl .g11 ?_)))))
 refine Y.cl rfl rfl Tryz.func86 rfl rfl (eL (.t .z) .c .c) .n (fun _ _ hs tr=>yK _ _ _) ?_
 rintro _ _ ⟨rfl,rfl⟩
 refine Y.m .n ?_
 refine Y.ql rfl (fF rfl (.t .z)) (Y.mv rfl .z ?_)
 refine Y.an .z (fun g11=> ?_) (fun g11=> ?_)
 refine Y.r rfl rfl .z rfl rfl (by decide) rfl ?_
 refine Y.r rfl rfl .g1 rfl rfl (by decide) rfl ?_
 refine Y.r rfl rfl .g2 rfl rfl (by decide) rfl ?_
 refine Y.ql rfl (bI rfl (.t .g3) .c) (Y.nt ?_)
 refine Y.aq (.t .z) ?_
 refine Y.seq (Y.region (Y.ql rfl (aW (cs:= [.int .i64 3,.slice none 0 0]) rfl pW (pv1 .c) rfl) ?_))
 refine Y.es (aE rfl) rfl (esW rfl (.t .g16) (.t .z) .g2 iE rfl rfl) ?_
 refine Y.nt (Y.ret (Y.j ?_))
 refine Y.add (c:=aH dD [] [.slice none 0 0]) (fun w S=>aL w S none) ?_
 refine Y.i (cU rfl .g16 nW .g1 iE) (.c .z .n) ?_
 first |(rw [tD (by assumption)];exact⟨_,rfl,rfl⟩) |(rw [uC (by assumption) (by omega)];exact⟨_,rfl,rfl⟩) |(rw [uE (by assumption) (by omega)];exact⟨_,rfl,rfl⟩)
 refine Y.qg rfl rfl .z rfl rfl rfl (aR rfl (.t .g16)) ?_
 refine Y.call (eB rfl rfl .g1) rfl (by decide) rfl (bE rfl Tryz.func86 rfl rfl (eL (.t .z) .c .c)) .n (fun _ _ hs tr=>yK _ _ _) ?_
 rintro _ _ ⟨rfl,rfl⟩
 refine Y.m .n ?_
 refine Y.qg rfl rfl .g2 rfl rfl rfl (fF rfl (.t .z)) ?_
 refine Y.ql rfl (bH rfl (.t .g3) (.t .z)) (Y.nt ?_)
 refine Y.ac (.t .z) (fun bb=> ?_) (fun bb=> ?_)
 refine Y.seq (Y.region (Y.ql rfl (aW (cs:= [.int .i64 3,.slice none 0 0]) rfl pW (pv1 .c) rfl) ?_))
 refine Y.es (aE rfl) rfl (esW rfl (.t .g16) (.t .z) .g2 iE rfl rfl) ?_
 refine Y.nt (Y.ret (Y.j ?_))
 refine Y.add (c:=aH dD [] [.slice none 0 0]) (fun w S=>aL w S none) ?_
 refine Y.i (cU rfl .g16 nW .g1 iE) (.c .z .n) ?_
 first |(rw [tD (by assumption)];exact⟨_,rfl,rfl⟩) |(rw [uC (by assumption) (by omega)];exact⟨_,rfl,rfl⟩) |(rw [uE (by assumption) (by omega)];exact⟨_,rfl,rfl⟩)
 refine Y.skip (Y.g (Y.seq (Y.region (Y.fa rfl .g12 tN (Y.ld rfl oG .z .g1 (Y.ql rfl (bD rfl iJ (.t .z)) (Y.as rfl .z (Y.nil ?_))))))))
 refine Y.g (Y.seq (Y.region (Y.mv rfl (.s16 .g7) (Y.mv rfl .g1 ?_))))
 refine Y.cl rfl rfl Tryz.func74 rfl rfl (aS (.t .g1) (.t .z)) .n (fun _ _ hs tr=>aGq _ _) ?_
 rintro _ _ ⟨rfl,rfl⟩
 refine Y.m .n ?_
 have bc:=jH i ((cF f a).length:Int)
 refine Y.as rfl .z (Y.nt (Y.seq ?_))
 refine Y.dr .g1 12 fR ?_
 refine Y.sc (qs 1 7) (by kernel_rfl) ?_
 refine Y.df rfl rfl .g1 (.s16 .g4) tN (Y.dl rfl rfl .g1 oG .z .z (Y.dm rfl rfl .g1 .g2 (Y.dm rfl rfl .g1 .g7 (Y.dm rfl rfl .g1 .g4 (Y.dm rfl rfl .g1 (.s16 (.s16 .g1)) ?_)))))
 refine Y.dk rfl rfl .g1 (bN (c:=(eG i ((cF f a).length:Int))+n) rfl (.t .g1) (.t .z) (wr (by omega) (by omega) (by omega))) ?_
 refine Y.w ?_
 refine Y.ar (i:=0) (j:=8) (by kernel_rfl) ?_ ?_
 refine Y.e (aC rfl rfl) rfl (by decide) rfl (eA rfl iJ (inz mC)) ?_
 rintro _ _ ⟨g16,rfl,rfl⟩
 refine Y.sk .g2 ?_
 refine Y.w ?_
 refine Y.sc [(8,false),(9,true),(10,false),(11,true),(12,false)] (by kernel_rfl) ?_
 refine Y.call (aC rfl rfl) rfl (by decide) rfl (bE rfl Tryz.func74 rfl rfl (aS (.t .g4) (.t .g1))) .n (fun _ _ hs tr=>aGq _ _) ?_
 rintro _ _ ⟨rfl,rfl⟩
 refine Y.m .n ?_
 have bd:=jH ((cF f a).length:Int) ((eG i ((cF f a).length:Int))+n)
 refine Y.sk .g2 ?_
 refine Y.eq .g6 (congrArg (Value.int .i64) (show eG i ((cF f a).length:Int)=((Int.toNat (eG i ((cF f a).length:Int)):Nat):Int) by omega)) ?_
 refine Y.eq .g1 (congrArg (Value.int .i64) (show eG ((cF f a).length:Int) ((eG i ((cF f a).length:Int))+n)=((Int.toNat (eG ((cF f a).length:Int) ((eG i ((cF f a).length:Int))+n)):Nat):Int) by omega)) ?_
 obtain⟨be,aa⟩:∃A':Option Addr,A'=(if ak=Int.toNat (eG i ((cF f a).length:Int))then ac else Option.map (fun z=>Addr.add z ((Int.toNat (eG i ((cF f a).length:Int))) * 1)) ac):=⟨_,rfl⟩
 have bf:=gH (xs:=cF f a) (a:=Int.toNat (eG i ((cF f a).length:Int))) (b:=Int.toNat (eG ((cF f a).length:Int) ((eG i ((cF f a).length:Int))+n))) (by omega)
 have bg:True:=trivial
 refine Y.dk rfl rfl .g2 (jT (a:=Int.toNat (eG i ((cF f a).length:Int))) (b:=Int.toNat (eG ((cF f a).length:Int) ((eG i ((cF f a).length:Int))+n))) rfl iJ aA9 (.t .g7) aa (.inr ⟨_,_,rfl,(.t .g1)⟩) (.inr ⟨_,_,rfl,(.t .z)⟩) (by omega) (by omega) (by omega)) ?_
 refine Y.add (c:=aH dD ([]:(List UInt8)) [.slice (some ⟨g16,0,none⟩) 0 0]) (fun w S=>aL w S _) ?_
 refine Y.e (aC rfl rfl) rfl (by decide) rfl (eD (bT _ _ _) rfl iJ mC rfl (.t .g3) (.t .z) (.c .z .n) (fun w1 S1 tr=>(nD (a:=Int.toNat (eG i ((cF f a).length:Int))) (b:=Int.toNat (eG ((cF f a).length:Int) ((eG i ((cF f a).length:Int))+n))) aa (tr.own .g1) (by omega) (by omega))) (by first | omega |(simp only [List.length_append,List.length_take,List.length_nil,List.length_cons];omega)) (by first | omega |(simp only [List.length_append,List.length_take,List.length_nil,List.length_cons];omega))) ?_
 rintro _ _ rfl
 refine Y.ah .z (List.nil_append _) ?_
 refine Y.h (WS.a .z) ?_
 rintro⟨al,am,rfl,a0,a1,a2⟩
 refine Y.sk .g3 ?_
 refine Y.dk rfl rfl .g3 (aW (cs:= [.int .i64 0,.slice al (fY (cF f a) (Int.toNat (eG i ((cF f a).length:Int))) (Int.toNat (eG ((cF f a).length:Int) ((eG i ((cF f a).length:Int))+n)))).length am]) rfl pW (pv1 (.t .z)) rfl) ?_
 refine Y.es (aC rfl rfl) rfl (esW rfl (.t (.s16 (.s16 .g3))) (.t .z) .g4 iE rfl rfl) ?_
 refine Y.sl rfl ?_
 refine Y.w ?_
 refine Y.af (by kernel_rfl) ?_
 refine Y.g (Y.ret ?_)
 refine Y.ah (x':=zU (cF f a) i n) .g1 (by unfold zU;first | rfl | rw [uY (eG i _+n)]) ?_
 refine Y.i (cU rfl (.s16 (.s16 .g3)) nW .g1 iE) (.c .z .n) ?_
 first |(rw [tD (by assumption)];exact⟨_,rfl,rfl⟩) |(rw [uC (by assumption) (by omega)];exact⟨_,rfl,rfl⟩) |(rw [uE (by assumption) (by omega)];exact⟨_,rfl,rfl⟩)
 refine Y.call (aC rfl rfl) rfl (by decide) rfl (bE rfl Tryz.func74 rfl rfl (aS (.t .g3) (.t .z))) .n (fun _ _ hs tr=>aGq _ _) ?_
 rintro _ _ ⟨rfl,rfl⟩
 refine Y.m .n ?_
 have bh:=jH ((cF f a).length:Int) ((eG i ((cF f a).length:Int))+n)
 refine Y.sk .g1 ?_
 refine Y.w ?_
 refine Y.sc [(9,true),(0,false),(10,false),(11,true),(12,false)] (by kernel_rfl) ?_
 refine Y.eq .g5 (congrArg (Value.int .i64) (show eG i ((cF f a).length:Int)=((Int.toNat (eG i ((cF f a).length:Int)):Nat):Int) by omega)) ?_
 refine Y.eq .g1 (congrArg (Value.int .i64) (show eG ((cF f a).length:Int) ((eG i ((cF f a).length:Int))+n)=((Int.toNat (eG ((cF f a).length:Int) ((eG i ((cF f a).length:Int))+n)):Nat):Int) by omega)) ?_
 obtain⟨bi,ab⟩:∃A':Option Addr,A'=(if ak=Int.toNat (eG i ((cF f a).length:Int))then ac else Option.map (fun z=>Addr.add z ((Int.toNat (eG i ((cF f a).length:Int))) * 1)) ac):=⟨_,rfl⟩
 have bj:=gH (xs:=cF f a) (a:=Int.toNat (eG i ((cF f a).length:Int))) (b:=Int.toNat (eG ((cF f a).length:Int) ((eG i ((cF f a).length:Int))+n))) (by omega)
 have bk:True:=trivial
 refine Y.dk rfl rfl .g1 (jT (a:=Int.toNat (eG i ((cF f a).length:Int))) (b:=Int.toNat (eG ((cF f a).length:Int) ((eG i ((cF f a).length:Int))+n))) rfl iJ aA9 (.t .g6) ab (.inr ⟨_,_,rfl,(.t .g1)⟩) (.inr ⟨_,_,rfl,(.t .z)⟩) (by omega) (by omega) (by omega)) ?_
 refine Y.e (aC rfl rfl) rfl (by decide) rfl (eA rfl iJ (inz mC)) ?_
 rintro _ _ ⟨g25,rfl,rfl⟩
 refine Y.sk .g2 ?_
 refine Y.add (c:=aH dD ([]:(List UInt8)) [.slice (some ⟨g25,0,none⟩) 0 0]) (fun w S=>aL w S _) ?_
 refine Y.e (aC rfl rfl) rfl (by decide) rfl (eD (bT _ _ _) rfl iJ mC rfl (.t .z) (.t .g1) (.c .z .n) (fun w1 S1 tr=>(nD (a:=Int.toNat (eG i ((cF f a).length:Int))) (b:=Int.toNat (eG ((cF f a).length:Int) ((eG i ((cF f a).length:Int))+n))) ab (tr.own .g1) (by omega) (by omega))) (by first | omega |(simp only [List.length_append,List.length_take,List.length_nil,List.length_cons];omega)) (by first | omega |(simp only [List.length_append,List.length_take,List.length_nil,List.length_cons];omega))) ?_
 rintro _ _ rfl
 refine Y.ah .z (List.nil_append _) ?_
 refine Y.h (WS.a .z) ?_
 rintro⟨an,ao,rfl,a3,a4,a5⟩
 refine Y.sk .g3 ?_
 refine Y.dk rfl rfl .g3 (aW (cs:= [.int .i64 0,.slice an (fY (cF f a) (Int.toNat (eG i ((cF f a).length:Int))) (Int.toNat (eG ((cF f a).length:Int) ((eG i ((cF f a).length:Int))+n)))).length ao]) rfl pW (pv1 (.t .z)) rfl) ?_
 refine Y.es (aC rfl rfl) rfl (esW rfl (.t (.s16 (.s16 .g3))) (.t .z) .g4 iE rfl rfl) ?_
 refine Y.sl rfl ?_
 refine Y.w ?_
 refine Y.af (by kernel_rfl) ?_
 refine Y.g (Y.ret ?_)
 refine Y.ah (x':=zU (cF f a) i n) .g1 (by unfold zU;first | rfl | rw [uY (eG i _+n)]) ?_
 refine Y.i (cU rfl (.s16 (.s16 .g3)) nW .g1 iE) (.c .z .n) ?_
 first |(rw [tD (by assumption)];exact⟨_,rfl,rfl⟩) |(rw [uC (by assumption) (by omega)];exact⟨_,rfl,rfl⟩) |(rw [uE (by assumption) (by omega)];exact⟨_,rfl,rfl⟩)

end Go.Proofs.YtmejbfmhaoilmaaGreatDoor

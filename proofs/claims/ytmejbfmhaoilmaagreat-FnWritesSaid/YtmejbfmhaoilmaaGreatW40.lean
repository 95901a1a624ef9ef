/- What is proved: contracts of functions, one a function. No condition. -/
import Derived.Test.YtmejbfmhaoilmaaGreatBase1
import Derived.Test.YtmejbfmhaoilmaaGreatW32
import Derived.Test.YtmejbfmhaoilmaaGreatW11
namespace Go.Proofs.YtmejbfmhaoilmaaGreat
open Go Go.RowKit
set_option linter.unusedVariables false
set_option linter.unusedSimpArgs false
set_option maxHeartbeats 1000000
set_option maxRecDepth 20000
theorem aLt {w0:World}{S0:Bs}{f:DFs}{aa:Addr} (h0:gK fD w0 (FF w0 S0) aa f) (a:Int) {b:(List Int)}{v2:Value} (h2:aY.ro w0 (FF w0 S0) b [v2]):
    Calls Tryz.prog 66 #[.pointer (some aa),.int .i64 a,v2] w0 (aJ w0 S0 (fun r l=>r= .int .i64 (iX f a b)∧l= [])):=by
 obtain⟨au,av,al,aw⟩:=id h0
 obtain⟨am,an,rfl,ab,ac⟩:=cV al
 obtain⟨ao,ap,rfl,ad,ae,af,ag⟩:=aD ab
 obtain⟨aq,ar,rfl,ah,ai,aj,ak⟩:=aD ac
 obtain⟨A2,c2,rfl,ax,ay,az,a0⟩:=aD h2
 refine Y.enter (N:=16) Tryz.func66 rfl rfl (by simp) [(0,.pointer (some aa)),(1,.int .i64 a),(2,.slice A2 b.length c2)] (by simp) (l0:= []) trivial ?_
 refine Y.seq (Y.region (Y.ql rfl (aA rfl .c) (Y.nt (Y.seq (Y.seq (Y.region (Y.mv rfl .g1 ?_)))))))
 refine Y.mv rfl .g3 ?_
 refine Y.cl rfl rfl Tryz.func113 rfl rfl (aR (.t .g1) (.t .z)) .n (fun _ _ hs tr=>aKg (tr.ctxP h0) _) ?_
 rintro _ _ ⟨rfl,rfl⟩
 refine Y.m .n ?_
 refine Y.as rfl .z (Y.nt (Y.seq (Y.region (Y.mv rfl .z (Y.ql rfl (bY rfl (.t .z) .c) (Y.nt ?_))))))
 refine Y.ac (.t .z) (fun b4=> ?_) (fun b4=> ?_)
 refine Y.seq (Y.region (Y.mv rfl .g2 (Y.er .g7 (Y.as rfl .z (Y.nt (Y.ret (Y.j ?_)))))))
 refine Y.i (aT rfl .z) .n ?_
 exact⟨by first |(rw [aDy (by assumption)];done) |(rw [aDb (by assumption)];done),rfl⟩
 refine Y.skip (Y.g (Y.seq (Y.region (Y.mv rfl .g9 ?_))))
 refine Y.cl rfl rfl Tryz.func114 rfl rfl (bH (.t .z)) .n (fun _ _ hs tr=>aIy (tr.ctx h2)) ?_
 rintro _ _ ⟨rfl,rfl⟩
 refine Y.m .n ?_
 refine Y.er .g8 (Y.as rfl .z (Y.nt (Y.ret ?_)))
 refine Y.i (aT rfl .z) .n ?_
 exact⟨by first |(rw [aDy (by assumption)];done) |(rw [aDb (by assumption)];done),rfl⟩

theorem aM9 {w0:World}{S0:Bs}{f:DFs}{aa:Value}{ab:Value} (c:Int) (hs:cH [aG aW f.inodes [aa],aG dA f.data [ab]] w0 S0):
    Calls Tryz.prog 65 #[.agg #[aa,ab],.int .i64 c] w0 (aJ w0 S0 (aBs (fsR f c))):=by
 refine Y.enter (N:=11) Tryz.func65 rfl rfl (by simp) [(0,.agg #[aa,ab]),(1,.int .i64 c)] (by simp) hs ?_
 refine Y.h (WS.a .z) ?_
 rintro⟨ac,ad,rfl,ag,ah,ai⟩
 refine Y.h (WS.a .g1) ?_
 rintro⟨ae,af,rfl,aj,ak,al⟩
 refine Y.seq (Y.region ?_)
 refine Y.el rfl (gL (cs:= [.slice ac f.inodes.length ad,.slice ae f.data.length af]) (n:=2) rfl (.t .z) rfl rfl) ?_
 rintro _ _ ⟨g3,rfl,rfl⟩
 refine Y.el rfl (bP rfl aCu rfl rfl) ?_
 rintro _ _ ⟨g4,rfl,rfl⟩
 refine Y.nt (Y.seq (Y.seq (Y.region (Y.mv rfl .g3 (Y.ql rfl (bY rfl (.t .z) .c) (Y.nt ?_))))))
 refine Y.ac (.t .z) (fun b5=> ?_) (fun b5=> ?_)
 refine Y.seq (Y.region (Y.mv rfl .g5 (Y.ql rfl (bC (cs:= [.int .i64 c,.slice none 0 0,.slice none 0 0]) rfl pQ (pv1 (.t .z)) rfl) ?_)))
 refine Y.es (aE rfl) rfl (esW rfl (.t .g4) (.t .z) .z gV rfl rfl) ?_
 refine Y.nt (Y.ret (Y.j ?_))
 refine Y.add (c:=aG aW [] [.slice none 0 0]) (fun w S=>aL w S none) ?_
 refine Y.add (c:=aG dA [] [.slice none 0 0]) (fun w S=>aL w S none) ?_
 refine Y.i (dF rfl .g4 nX .g2 gV) (.c .g1 (.c .z .n)) ?_
 first |(rw [aBv (by assumption)];exact⟨_,_,rfl,rfl⟩) |(rw [aDt (by omega)];exact⟨_,_,rfl,rfl⟩)
 refine Y.skip (Y.g (Y.seq (Y.region (Y.ql rfl (qW rfl bR (.t .g3) .g1 aX) (Y.ql rfl (bC (cs:= [.int .i64 0,.slice ac f.inodes.length ad,.slice ae f.data.length af]) rfl pQ (pv1 (.t .z)) rfl) ?_)))))
 refine Y.es (aE rfl) rfl (esW rfl (.t .g4) (.t .z) .z gV rfl rfl) ?_
 refine Y.nt (Y.ret ?_)
 refine Y.i (dF rfl .g4 nX .z gV) (.c .g2 (.c .g2 .n)) ?_
 first |(rw [aBv (by assumption)];exact⟨_,_,rfl,rfl⟩) |(rw [aDt (by omega)];exact⟨_,_,rfl,rfl⟩)

theorem aM3 {w0:World}{S0:Bs}{f:DFs}{au:Addr}{ai:Value}{aj:Value} (h0:gK (mL 2 (by decide)) w0 (FF w0 S0) au [ai,aj]) (a:Int) {L:(List UInt8)}{v2:Value} (h2:bQ.ro w0 (FF w0 S0) L [v2]) {b:(List Int)}{v3:Value} (h3:aY.ro w0 (FF w0 S0) b [v3]) (hs:cH [aG aW f.inodes [ai],aG dA f.data [aj]] w0 S0) (hI:bM f.inodes=0) (hd:f.data.length=20) (hp:bZ f.inodes.length a) (hL:L.length≤32):
    Calls Tryz.prog 72 #[.pointer (some au),.int .i64 a,v2,v3] w0 (aJ w0 S0 (fun r l=>r= .int .i64 (cY f L b).code∧l= [aG aW (zY f a L b).inodes [ai],aG dA (zY f a L b).data [aj]])):=by
 obtain⟨b1,av,⟨rfl, -, -⟩,aw⟩:=id h0
 obtain⟨A2,c2,rfl,b2,b3,b4,b5⟩:=aD h2
 obtain⟨A3,c3,rfl,b6,b7,b9,ca⟩:=aD h3
 obtain⟨hp1a,hp2a⟩:=hp
 have hB:=lP hI a
 refine Y.enter (N:=74) Tryz.func72 rfl rfl (by simp) [(0,.pointer (some au)),(1,.int .i64 a),(2,.slice A2 L.length c2),(3,.slice A3 b.length c3)] (by simp) hs ?_
 refine Y.h (WS.a .z) ?_
 rintro⟨bc,ax,rfl,bd,be,bf⟩
 refine Y.h (WS.a .g1) ?_
 rintro⟨bg,bh,rfl,bi,bj,bk⟩
 refine Y.seq (Y.region (Y.ql rfl (aA rfl .c) (Y.nt (Y.seq ?_))))
 refine Y.dr .g2 13 gE ?_
 refine Y.sc (qs 0 6++ [(6,false),(7,false),(8,false)]++qs 9 4++ [(13,false)]) (by kernel_rfl) ?_
 refine Y.dm rfl rfl .g2 .g1 (Y.dn rfl rfl .g2 .z (Y.df rfl rfl .g2 .z aO (Y.de rfl rfl .g2 bT .z av aw (Y.dm rfl rfl .g2 .g8 (Y.dm rfl rfl .g2 .g8 ?_)))))
 refine Y.call (aC rfl rfl) rfl (by decide) rfl (bG rfl Tryz.func88 rfl rfl (bH (.t .z))) .n (fun _ _ hs tr=>aA2 (tr.ctx h2)) ?_
 rintro _ _ ⟨rfl,rfl⟩
 refine Y.m .n ?_
 refine Y.sk .g2 ?_
 refine Y.call (aC rfl rfl) rfl (by decide) rfl (bG rfl Tryz.func119 rfl rfl (bH (.t .z))) .n (fun _ _ hs tr=>qT _ (by omega) (by omega)) ?_
 rintro _ _ ⟨rfl,rfl⟩
 refine Y.m .n ?_
 refine Y.sk .g2 ?_
 refine Y.call (aC rfl rfl) rfl (by decide) rfl (bG rfl Tryz.func118 rfl rfl (eS (.t .g4) (.t .g3) (.t .z))) .n (fun _ _ hs tr=>aKv (tr.own .z) (tr.ctx h3) _ (by first | assumption |(exact wN (by assumption)))) ?_
 rintro _ _ ⟨v5,rfl,rfl⟩
 refine Y.m (.c .n) ?_
 refine Y.h (WS.a .z) ?_
 rintro⟨ac,ad,rfl,bm,bn,bo⟩
 refine Y.sk .g3 ?_
 refine Y.dm rfl rfl .g3 .z (Y.dk rfl rfl .g3 (bK (v:= .slice ac ((hY f.inodes b (((L.length:Int)+7) / 8)).list).length ad) rfl (.t .z) rfl) (Y.dk rfl rfl .g3 (bK (v:= .int .i64 ((hY f.inodes b (((L.length:Int)+7) / 8)).code)) rfl (.t .g1) rfl) (Y.dk rfl rfl .g3 (aA rfl (.t .g1)) ?_)))
 refine Y.q (aC rfl rfl) rfl (by decide) rfl (aA rfl (.t .g1)) ?_
 refine Y.sl rfl ?_
 refine Y.aa ?_
 refine Y.ai (by kernel_rfl) ?_
 refine Y.g (Y.seq (Y.seq (Y.region (Y.mv rfl .z (Y.ql rfl (bY rfl (.t .z) .c) (Y.nt ?_))))))
 refine Y.ac (.t .z) (fun b8=> ?_) (fun b8=> ?_)
 have ap:hY f.inodes b (((L.length:Int)+7) / 8)=(cY f L b):=rfl
 have ak:(hY f.inodes b (((L.length:Int)+7) / 8))=(cY f L b):=ap
 refine Y.eq .z (congrArg (fun z_:jM=>(.bool (!decide (z_.code=0)):Value)) ak) ?_
 refine Y.eq .g1 (congrArg (fun z_:jM=>(.int .i64 (z_.code):Value)) ak) ?_
 refine Y.eq .g2 (congrArg (fun z_:jM=>(.int .i64 (z_.code):Value)) ak) ?_
 refine Y.eq .g3 (congrArg (fun z_:jM=>(.slice ac (z_.list).length ad:Value)) ak) ?_
 refine Y.eq .g4 (congrArg (fun z_:jM=>(.int .i64 (z_.code):Value)) ak) ?_
 refine Y.eq .g5 (congrArg (fun z_:jM=>(.slice ac (z_.list).length ad:Value)) ak) ?_
 refine Y.al .z (congrArg (fun z_:jM=>(aG aY (z_.list) [.slice ac (z_.list).length ad]:Asn)) ak) ?_
 rw [ap] at b8
 have hpn:¬(cY f L b).code=0:=b8
 refine Y.seq (Y.region (Y.mv rfl .g3 (Y.er (.s16 .g1) (Y.as rfl .z (Y.nt (Y.ret (Y.j ?_)))))))
 refine Y.i (aT rfl .z) (.c .g1 (.c .g1 .n)) ?_
 first |(rw [aFk hpn];exact⟨rfl,rfl⟩) |(rw [aCm hpc,hpc];exact⟨rfl,rfl⟩)
 have ap:hY f.inodes b (((L.length:Int)+7) / 8)=(cY f L b):=rfl
 have ab:(hY f.inodes b (((L.length:Int)+7) / 8))=(cY f L b):=ap
 refine Y.eq .z (congrArg (fun z_:jM=>(.bool (!decide (z_.code=0)):Value)) ab) ?_
 refine Y.eq .g1 (congrArg (fun z_:jM=>(.int .i64 (z_.code):Value)) ab) ?_
 refine Y.eq .g2 (congrArg (fun z_:jM=>(.int .i64 (z_.code):Value)) ab) ?_
 refine Y.eq .g3 (congrArg (fun z_:jM=>(.slice ac (z_.list).length ad:Value)) ab) ?_
 refine Y.eq .g4 (congrArg (fun z_:jM=>(.int .i64 (z_.code):Value)) ab) ?_
 refine Y.eq .g5 (congrArg (fun z_:jM=>(.slice ac (z_.list).length ad:Value)) ab) ?_
 refine Y.al .z (congrArg (fun z_:jM=>(aG aY (z_.list) [.slice ac (z_.list).length ad]:Asn)) ab) ?_
 rw [ap] at b8
 have hpc:(cY f L b).code=0:=b8
 have hpi:=vQ hpc
 have hpl:((cY f L b).list.length:Int)=((L.length:Int)+7) / 8:=hpi.2
 refine Y.skip (Y.g (Y.seq (Y.region (Y.mv rfl (.s16 .g1) (Y.mv rfl (.s16 .g3) ?_)))))
 refine Y.cl rfl rfl Tryz.func120 rfl rfl (aR (.t .g1) (.t .z)) (.c .g1 (.c .g1 .n)) (fun _ _ hs tr=>aLb (f:=f) (tr.ctxP h0) _ hs (by first | assumption |(constructor <;> omega)) (by assumption) (by assumption)) ?_
 rintro _ _ ⟨rfl,rfl⟩
 refine Y.m (.c (.c .n)) ?_
 refine Y.ah (x':=f.inodes) .z rfl ?_
 refine Y.ah (x':=gD f a) .g1 rfl ?_
 refine Y.nt (Y.seq (Y.seq (Y.region (Y.mv rfl .g5 (Y.ql rfl (bE rfl dW (.t .z)) (Y.ql rfl (aN rfl .c) (Y.nil ?_)))))))
 refine Y.g (Y.block ?_)
 refine Y.ah (x':=oB (gD f a) (cY f L b).list L 0) .z rfl ?_
 refine Y.ak (γ:=Nat) (fun k=> [(35,.int .i64 (k:Int)),(34,.int .i64 (((cY f L b).list).length:Int)),(33,.slice ac ((cY f L b).list).length ad),(9,.slice ac ((cY f L b).list).length ad),(8,.int .i64 0),(0,.pointer (some au)),(1,.int .i64 a),(2,.slice A2 L.length c2)]) (fun k=> [aG dA (oB (gD f a) (cY f L b).list L k) [.slice bg f.data.length bh],aG aW f.inodes [.slice bc f.inodes.length ax],aG aY ((cY f L b).list) [.slice ac ((cY f L b).list).length ad]]) (fun k=>k≤(cY f L b).list.length) (fun k=>(cY f L b).list.length - k) 0 (Nat.zero_le _) (.c .z (.c .g1 (.c .g2 (.c .g8 (.c (.s16 .g6) (.c (.s16 .g7) (.c (.s16 .g8) (.c (.s16 .g9) .n)))))))) (fun _ h=>h.sel (.c .z (.c .z (.c .z .n)))) ?_
 rintro k hk
 have hsl:=(oA (data:=gD f a) (bs:=(cY f L b).list) (L:=L) k).trans (iI _)
 refine Y.seq (Y.region (Y.ql rfl (cR rfl (.t .z) (.t .g1)) (Y.nt (Y.seq ?_))))
 refine Y.u (.t .z) (fun bp=> ?_) (fun bp=> ?_)
 refine Y.skip (Y.g (Y.seq (Y.block (Y.seq (Y.region (Y.mv rfl .g1 ?_))))))
 refine Y.h (WS.g .g2 (by omega)) ?_
 rintro⟨bq,rfl⟩
 refine Y.ql rfl (aB (j:=k) rfl dW jC (.t .g4) (.t .g2) rfl (by first | omega |(rw [hdl];omega) |(rw [hsl];omega))) ?_
 obtain⟨a0,ae⟩:=aI (xs:=(cY f L b).list) (j:=k) (by first | omega |(rw [hdl];omega) |(rw [hsl];omega))
 have a1:=hpi.1 _ (List.mem_of_getElem? ae)
 refine Y.ql rfl (aP rfl cB (.t .z) (WS.i .g2 ae)) (Y.as rfl .g2 (Y.as rfl .g1 (Y.nt (Y.seq (Y.region (Y.mv rfl .g1 ?_))))))
 refine Y.ql rfl (bA (c:=((k+1:Nat):Int)) rfl (.t .z) .c (wr (by omega) (by omega) (by omega))) ?_
 refine Y.ql rfl (pH (c:=(((k+1) * 8:Nat):Int)) rfl (.t .z) .c (wr (by omega) (by omega) (by omega))) ?_
 refine Y.mv rfl .g16 (Y.ql rfl (bE rfl dP (.t .z)) ?_)
 have br:=gB (((k+1) * 8:Nat):Int) (L.length:Int)
 refine Y.ql rfl (aEl rfl (.t .g2) (.t .z)) (Y.as rfl .z (Y.nt ?_))
 refine Y.dr .g2 12 gE ?_
 refine Y.sc (qs 0 10++ [(10,false),(11,true),(12,false)]) (by kernel_rfl) ?_
 refine Y.dm rfl rfl .g2 (.s16 .g2) (Y.dn rfl rfl .g2 .z (Y.df rfl rfl .g2 .z gF (Y.de rfl rfl .g2 lE .z av aw (Y.dm rfl rfl .g2 .g11 (Y.dm rfl rfl .g2 (.s16 .g9) (Y.dm rfl rfl .g2 .g14 ?_))))))
 refine Y.dk rfl rfl .g2 (pH (c:=((k * 8:Nat):Int)) rfl (.t .z) .c (wr (by omega) (by omega) (by omega))) ?_
 refine Y.dm rfl rfl .g2 .g8 ?_
 refine Y.eq .z (congrArg (Value.int .i64) (show dS (((k+1) * 8:Nat):Int) (L.length:Int)=((Int.toNat (dS (((k+1) * 8:Nat):Int) (L.length:Int)):Nat):Int) by omega)) ?_
 obtain⟨bt,ah⟩:∃A':Option Addr,A'=(if c2=k * 8 then A2 else Option.map (fun z=>Addr.add z ((k * 8) * 1)) A2):=⟨_,rfl⟩
 have ay:=mQ (a:=k * 8) (b:=Int.toNat (dS (((k+1) * 8:Nat):Int) (L.length:Int))) ah h2 (by omega) (by omega)
 have bu:=fW (xs:=L) (a:=k * 8) (b:=Int.toNat (dS (((k+1) * 8:Nat):Int) (L.length:Int))) (by omega)
 refine Y.dk rfl rfl .g2 (iZ (a:=k * 8) (b:=Int.toNat (dS (((k+1) * 8:Nat):Int) (L.length:Int))) rfl dP nJ (.t .g3) ah (.inr ⟨_,_,rfl,(.t .g1)⟩) (.inr ⟨_,_,rfl,(.t .z)⟩) (by omega) (by omega) (by omega)) ?_
 refine Y.call (aC rfl rfl) rfl (by decide) rfl (bG rfl Tryz.func89 rfl rfl (bH (.t .z))) .n (fun _ _ hs tr=>aIc (tr.ctx ay)) ?_
 rintro _ _ rfl
 refine Y.m (.c .n) ?_
 refine Y.h (WS.a .z) ?_
 rintro⟨bv,bw,rfl,a2,a3,a4⟩
 refine Y.sk .g3 ?_
 refine Y.h (WS.g .g1 (by omega)) ?_
 rintro⟨bx,rfl⟩
 refine Y.dk rfl rfl .g3 (aB (j:=Int.toNat a0) rfl mU lF (.t .g7) (.t .g6) (by omega) (by first | omega |(rw [hdl];omega) |(rw [hsl];omega))) ?_
 refine Y.es (aC rfl rfl) rfl (nM (j:=Int.toNat a0) rfl lF (.t .z) (.t .g1) rfl (.c .g1 (.c .z .n)) (by first | omega |(rw [hdl];omega) |(rw [hsl];omega))) ?_
 refine Y.ah .z (by first | exact uC ae | rw [wC,uC ae] | rw [yL,uC ae]) ?_
 refine Y.sl rfl ?_
 refine Y.aa ?_
 refine Y.ai (by kernel_rfl) ?_
 refine Y.w (Y.g (Y.region ?_))
 refine Y.ql rfl (bA (c:=((k+1:Nat):Int)) rfl (.t (.s16 .g9)) .c (wr (by omega) (by omega) (by omega))) ?_
 refine Y.er (.s16 .g10) (Y.mv rfl .z (Y.nil ?_))
 refine Y.ae (k+1) (by omega) (by first | omega |(dsimp only;omega)) (.c .z (.c (.s16 .g11) (.c (.s16 .g12) (.c (.s16 .g13) (.c (.s16 .g14) (.c (.s16 .g15) (.c (.s16 .g16) (.c (.s16 (.s16 .g1)) .n)))))))) (fun _ h=>h.sel (.c .z (.c .z (.c .z .n))))
 refine Y.exit (Y.y (Y.y (Y.aj (Y.g (Y.seq (Y.region (Y.mv rfl .g6 (Y.nc rfl .z ?_))))))))
 refine Y.fa rfl .z aO (Y.le rfl bT .z av aw (Y.mv rfl .g11 ?_))
 refine Y.ab (.c .g1 .n) fP ?_
 rintro al af
 obtain⟨aa,ag⟩:=aI (xs:=f.inodes) (j:=Int.toNat a) (by first | omega |(rw [hdl];omega) |(rw [hsl];omega))
 obtain⟨cb,am⟩:=aI (xs:=al) (j:=Int.toNat a) (by rw [af];exact(List.getElem?_eq_some_iff.1 ag).1)
 refine Y.aq .g1 (eG ag am) ?_
 refine Y.ab (.c .z .n) fC ?_
 rintro⟨cc,cd⟩ rfl
 refine Y.h (WS.a .z) ?_
 rintro⟨bz,b0,rfl,a5,a6,a7⟩
 refine Y.h (WS.a .g1) ?_
 rintro⟨an,ao,rfl,a8,a9,ba⟩
 have aq:=lQ (a:=a) ag (by omega)
 have bb:∀b,b∈aa.blocks→0≤b∧b≤19:=by rw [←aq];exact hB
 refine Y.h (WS.g .g4 (by omega)) ?_
 rintro⟨ar,rfl⟩
 refine Y.ql rfl (aB (j:=Int.toNat a) rfl cQ aV (.t .g1) (.t .z) (by omega) (by first | omega |(rw [hdl];omega) |(rw [hsl];omega))) ?_
 refine Y.as rfl .z (Y.nt (Y.seq (Y.region (Y.mv rfl .z (Y.mv rfl .g1 (Y.mv rfl .g13 (Y.mv rfl (.s16 .g2) ?_)))))))
 refine Y.cl rfl rfl Tryz.func88 rfl rfl (bH (.t .z)) .n (fun _ _ hs tr=>aA2 (tr.ctx h2)) ?_
 rintro _ _ ⟨rfl,rfl⟩
 refine Y.m .n ?_
 refine Y.nc rfl .g4 (Y.fa rfl .z dB ?_)
 refine Y.es (aE rfl) rfl (kE (j:=Int.toNat a) (off:=3) (cs:= [.slice ac ((cY f L b).list).length ad]) rfl yH (.t .z) (iM _ _ _) (.t .g4) rfl (oM rfl) .g4 am (Nat.le_of_ble_eq_true rfl)) ?_
 refine Y.ah (x':=List.set al (Int.toNat a) [.int .i64 aa.kind,.int .i64 aa.links,.int .i64 aa.size,.slice ac ((cY f L b).list).length ad,.slice an aa.ents.length ao]) .z rfl ?_
 refine Y.nc rfl .g5 (Y.fa rfl .z hX ?_)
 refine Y.es (aE rfl) rfl (kE (j:=Int.toNat a) (off:=2) (cs:= [.int .i64 (L.length:Int)]) rfl jC (.t .z) (iM _ _ _) (.t .g4) rfl (oM rfl) .z (rY am) (Nat.le_of_ble_eq_true rfl)) ?_
 refine Y.ah (x':=List.set al (Int.toNat a) [.int .i64 aa.kind,.int .i64 aa.links,.int .i64 (L.length:Int),.slice ac ((cY f L b).list).length ad,.slice an aa.ents.length ao]) .z (List.set_set ..) ?_
 refine Y.nt (Y.seq (Y.region (Y.er (.s16 .g5) (Y.ql rfl (aA rfl .c) (Y.nt (Y.ret ?_))))))
 refine Y.af (c:=aG cD (⟨aa.kind,aa.links,(L.length:Int),(cY f L b).list,aa.ents⟩:aF) [.int .i64 aa.kind,.int .i64 aa.links,.int .i64 (L.length:Int),.slice ac ((cY f L b).list).length ad,.slice an aa.ents.length ao]) (.c .g6 (.c .g2 .n)) (fun w S h=>cS (⟨aa.kind,aa.links,(L.length:Int),(cY f L b).list,aa.ents⟩:aF) h) ?_
 refine Y.af (c:=aG aW (List.set f.inodes (Int.toNat a) (⟨aa.kind,aa.links,(L.length:Int),(cY f L b).list,aa.ents⟩:aF)) [.slice (some ar) f.inodes.length ax]) (.c .g1 (.c .z (.c .g1 (.c .g1 .n)))) (eT (K:=cD) af (List.getElem?_eq_some_iff.1 ag).1 rfl) ?_
 have az:List.set f.inodes (Int.toNat a) (⟨aa.kind,aa.links,(L.length:Int),(cY f L b).list,aa.ents⟩:aF)=qH f.inodes a (L.length:Int) (cY f L b).list:=(aBd ag (by omega))
 refine Y.al .z (congrArg (fun z_=>(aG aW (z_) [.slice (some ar) f.inodes.length ax]:Asn)) az) ?_
 refine Y.ah (x':=oB (gD f a) (cY f L b).list L (cY f L b).list.length) .g2 (by rw [show k=(cY f L b).list.length by omega]) ?_
 refine Y.i (aT rfl .z) (.c .g1 (.c .z .n)) ?_
 first |(rw [aFk hpn];exact⟨rfl,rfl⟩) |(rw [aCm hpc,hpc];exact⟨rfl,rfl⟩)

theorem aMc {w0:World}{S0:Bs}{f:DFs}{bb:List Value} (h0:fD.ro w0 (FF w0 S0) f bb) (a:Int) {L:(List UInt8)}{v2:Value} (h2:bQ.ro w0 (FF w0 S0) L [v2]) {b:(List Int)}{v3:Value} (h3:aY.ro w0 (FF w0 S0) b [v3]) (ht:bL f=0) (hp:bZ f.inodes.length a) (hbz:gW b=0):
    Calls Tryz.prog 69 #[.agg bb.toArray,.int .i64 a,v2,v3] w0 (aJ w0 S0 (aBs (sB f a L b))):=by
 obtain⟨cg,ch,rfl,ah,ay⟩:=cV h0
 obtain⟨ai,aj,rfl,bc,bd,be,bf⟩:=aD ah
 obtain⟨ak,al,rfl,bg,bh,bi,bj⟩:=aD ay
 obtain⟨A2,c2,rfl,cx,cy,cz,c0⟩:=aD h2
 obtain⟨A3,c3,rfl,c1,c4,c5,c6⟩:=aD h3
 have hI:=kH ht
 have hd:=kU ht
 obtain⟨hp1a,hp2a⟩:=hp
 have hB:=lP hI a
 have hpk:sD f.inodes b (((L.length:Int)+7) / 8)=cY f L b:=jA (aLw hI hbz)
 refine Y.enter (N:=104) Tryz.func69 rfl rfl (by simp) [(0,.agg #[.slice ai f.inodes.length aj,.slice ak f.data.length al]),(1,.int .i64 a),(2,.slice A2 L.length c2),(3,.slice A3 b.length c3)] (by simp) (l0:= []) trivial ?_
 refine Y.seq (Y.region ?_)
 refine Y.el rfl (gL (cs:= [.slice ai f.inodes.length aj,.slice ak f.data.length al]) (n:=2) rfl (.t .z) rfl rfl) ?_
 rintro _ _ ⟨g5,rfl,rfl⟩
 refine Y.el rfl (bP rfl aCu rfl rfl) ?_
 rintro _ _ ⟨g6,rfl,rfl⟩
 refine Y.nt (Y.seq (Y.seq (Y.region (Y.mv rfl .g4 (Y.ql rfl (bE rfl dP (.t .z)) ?_)))))
 refine Y.cl rfl rfl Tryz.func71 rfl rfl (bH (.t .z)) .n (fun _ _ hs tr=>aJs _) ?_
 rintro _ _ ⟨rfl,rfl⟩
 refine Y.m .n ?_
 refine Y.ql rfl (fB rfl (.t .z)) (Y.nt ?_)
 refine Y.ac (.t .z) (fun b7=> ?_) (fun b7=> ?_)
 refine Y.seq (Y.region (Y.ql rfl (bC (cs:= [.int .i64 2,.slice none 0 0,.slice none 0 0]) rfl pQ (pv1 .c) rfl) ?_))
 refine Y.es (aE rfl) rfl (esW rfl (.t .g5) (.t .z) .z gV rfl rfl) ?_
 refine Y.nt (Y.ret (Y.j ?_))
 refine Y.add (c:=aG aW [] [.slice none 0 0]) (fun w S=>aL w S none) ?_
 refine Y.add (c:=aG dA [] [.slice none 0 0]) (fun w S=>aL w S none) ?_
 refine Y.i (dF rfl .g5 nX .g2 gV) (.c .g1 (.c .z .n)) ?_
 first |(rw [xM (by omega)];exact⟨_,_,rfl,rfl⟩) |(rw [uF (by omega) hpn];exact⟨_,_,rfl,rfl⟩) |(rw [tZ (by omega) hpc];exact⟨_,_,rfl,rfl⟩)
 refine Y.skip (Y.g ?_)
 refine Y.ax (γ:=Nat×(Option Addr)×Nat) (fun⟨gp,Ap,cp⟩=> [(8,.pointer (some ⟨g6,0,none⟩)),(4,.pointer (some ⟨g5,0,none⟩)),(1,.int .i64 a),(2,.slice A2 L.length c2),(9,.pointer (some ⟨gp,0,none⟩))]) (fun⟨gp,Ap,cp⟩=> [bW gp 38 2 1 [.int .i64 ((sD f.inodes b (((L.length:Int)+7) / 8)).code),.slice Ap ((sD f.inodes b (((L.length:Int)+7) / 8)).list).length cp],aG aY ((sD f.inodes b (((L.length:Int)+7) / 8)).list) [.slice Ap ((sD f.inodes b (((L.length:Int)+7) / 8)).list).length cp],bW g6 48 3 1 [.int .i64 0,.slice none 0 0,.slice none 0 0],bW g5 27 2 1 [.slice ai f.inodes.length aj,.slice ak f.data.length al]]) (fun⟨gp,Ap,cp⟩=>True) ?_ ?_
 refine Y.dr .z 8 gE ?_
 refine Y.sc (qs 0 5) (by kernel_rfl) ?_
 refine Y.df rfl rfl .z .g5 aO (Y.dl rfl rfl .z bT .z .g1 (Y.dm rfl rfl .z .g11 (Y.dm rfl rfl .z .g11 (Y.dk rfl rfl .z (bE rfl dP (.t .z)) (Y.aa ?_)))))
 refine Y.ar (i:=5) (j:=7) (by kernel_rfl) ?_ ?_
 refine Y.call (aC rfl rfl) rfl (by decide) rfl (bG rfl Tryz.func117 rfl rfl (bH (.t .z))) .n (fun _ _ hs tr=>aEm _ (by omega) (by omega)) ?_
 rintro _ _ ⟨rfl,rfl⟩
 refine Y.m .n ?_
 refine Y.sk .z ?_
 refine Y.aa ?_
 refine Y.sc [] (by kernel_rfl) ?_
 refine Y.aa ?_
 refine Y.ar (i:=6) (j:=7) (by kernel_rfl) ?_ ?_
 refine Y.call (aC rfl rfl) rfl (by decide) rfl (bG rfl Tryz.func116 rfl rfl (eS (.t .g4) (.t .g3) (.t .z))) .n (fun _ _ hs tr=>aGy (tr.ctx ah) (tr.ctx h3) _) ?_
 rintro _ _ ⟨c7,rfl,rfl⟩
 refine Y.m (.c .n) ?_
 refine Y.h (WS.a .z) ?_
 rintro⟨a3,a4,rfl,bk,bm,bn⟩
 refine Y.sk .g1 ?_
 refine Y.aa ?_
 refine Y.sc [(7,false),(8,false)] (by kernel_rfl) ?_
 refine Y.e (aC rfl rfl) rfl (by decide) rfl (bP rfl aHs rfl rfl) ?_
 rintro _ _ ⟨g13,rfl,rfl⟩
 refine Y.sk .g2 ?_
 refine Y.es (aC rfl rfl) rfl (esW rfl (.t .z) (.t .g1) .z qL rfl rfl) ?_
 refine Y.sl rfl ?_
 refine Y.aa ?_
 refine Y.ai (by kernel_rfl) ?_
 exact Y.au (g13,a3,a4) trivial (.c .g12 (.c .g13 (.c .g15 (.c .g16 (.c .z .n))))) (fun _ h=>h.sel (.c .z (.c .z (.c .z (.c .z .n)))))
 refine Y.e (aC rfl rfl) rfl (by decide) rfl (bP rfl aHs rfl rfl) ?_
 rintro _ _ ⟨g14,rfl,rfl⟩
 refine Y.sk .g1 ?_
 refine Y.aa ?_
 refine Y.sc [(6,false),(8,false)] (by kernel_rfl) ?_
 refine Y.call (aC rfl rfl) rfl (by decide) rfl (bG rfl Tryz.func116 rfl rfl (eS (.t .g5) (.t .g4) (.t .g1))) .n (fun _ _ hs tr=>aGy (tr.ctx ah) (tr.ctx h3) _) ?_
 rintro _ _ ⟨c8,rfl,rfl⟩
 refine Y.m (.c .n) ?_
 refine Y.h (WS.a .z) ?_
 rintro⟨a5,a6,rfl,bo,bp,bq⟩
 refine Y.sk .g2 ?_
 refine Y.es (aC rfl rfl) rfl (esW rfl (.t .g1) (.t .z) .g1 qL rfl rfl) ?_
 refine Y.sl rfl ?_
 refine Y.aa ?_
 refine Y.ai (by kernel_rfl) ?_
 exact Y.au (g14,a5,a6) trivial (.c .g12 (.c .g13 (.c .g15 (.c .g16 (.c .g1 .n))))) (fun _ h=>h.sel (.c .z (.c .z (.c .z (.c .z .n)))))
 refine Y.e (aC rfl rfl) rfl (by decide) rfl (bP rfl aHs rfl rfl) ?_
 rintro _ _ ⟨g18,rfl,rfl⟩
 refine Y.sk .g1 ?_
 refine Y.aa ?_
 refine Y.sc [(5,false),(6,false),(8,false)] (by kernel_rfl) ?_
 refine Y.call (aC rfl rfl) rfl (by decide) rfl (bG rfl Tryz.func117 rfl rfl (bH (.t .g1))) .n (fun _ _ hs tr=>aEm _ (by omega) (by omega)) ?_
 rintro _ _ ⟨rfl,rfl⟩
 refine Y.m .n ?_
 refine Y.sk .g1 ?_
 refine Y.call (aC rfl rfl) rfl (by decide) rfl (bG rfl Tryz.func116 rfl rfl (eS (.t .g5) (.t .g4) (.t .z))) .n (fun _ _ hs tr=>aGy (tr.ctx ah) (tr.ctx h3) _) ?_
 rintro _ _ ⟨c9,rfl,rfl⟩
 refine Y.m (.c .n) ?_
 refine Y.h (WS.a .z) ?_
 rintro⟨a7,a8,rfl,br,bt,bu⟩
 refine Y.sk .g2 ?_
 refine Y.es (aC rfl rfl) rfl (esW rfl (.t .g2) (.t .z) .g1 qL rfl rfl) ?_
 refine Y.sl rfl ?_
 refine Y.aa ?_
 refine Y.ai (by kernel_rfl) ?_
 exact Y.au (g18,a7,a8) trivial (.c .g12 (.c .g13 (.c .g15 (.c .g16 (.c .g2 .n))))) (fun _ h=>h.sel (.c .z (.c .z (.c .z (.c .z .n)))))
 rintro⟨gp,Ap,cp⟩ -
 refine Y.seq (Y.seq (Y.region (Y.fa rfl .g4 aD5 (Y.ld rfl cB .z .z (Y.ql rfl (bY rfl (.t .z) .c) (Y.nt ?_))))))
 refine Y.ac (.t .z) (fun az=> ?_) (fun az=> ?_)
 rw [hpk] at az
 have ar:(sD f.inodes b (((L.length:Int)+7) / 8))=(cY f L b):=hpk
 refine Y.eq .z (congrArg (fun z_:jM=>(.bool (!decide (z_.code=0)):Value)) ar) ?_
 refine Y.eq .g1 (congrArg (fun z_:jM=>(.int .i64 (z_.code):Value)) ar) ?_
 refine Y.al .z (congrArg (fun z_:jM=>(bW gp 38 2 1 [.int .i64 (z_.code),.slice Ap (z_.list).length cp]:Asn)) ar) ?_
 refine Y.al .g1 (congrArg (fun z_:jM=>(aG aY (z_.list) [.slice Ap (z_.list).length cp]:Asn)) ar) ?_
 have hpn:¬(cY f L b).code=0:=az
 refine Y.seq (Y.region (Y.fa rfl .g7 aD5 (Y.ld rfl cB .z .g1 (Y.ql rfl (bC (cs:= [.int .i64 ((cY f L b).code),.slice none 0 0,.slice none 0 0]) rfl pQ (pv1 (.t .z)) rfl) ?_))))
 refine Y.es (aE rfl) rfl (esW rfl (.t .g6) (.t .z) .g2 gV rfl rfl) ?_
 refine Y.nt (Y.ret (Y.j ?_))
 refine Y.add (c:=aG aW [] [.slice none 0 0]) (fun w S=>aL w S none) ?_
 refine Y.add (c:=aG dA [] [.slice none 0 0]) (fun w S=>aL w S none) ?_
 refine Y.i (dF rfl .g6 nX .g2 gV) (.c .g1 (.c .z .n)) ?_
 first |(rw [xM (by omega)];exact⟨_,_,rfl,rfl⟩) |(rw [uF (by omega) hpn];exact⟨_,_,rfl,rfl⟩) |(rw [tZ (by omega) hpc];exact⟨_,_,rfl,rfl⟩)
 rw [hpk] at az
 have au:(sD f.inodes b (((L.length:Int)+7) / 8))=(cY f L b):=hpk
 refine Y.eq .z (congrArg (fun z_:jM=>(.bool (!decide (z_.code=0)):Value)) au) ?_
 refine Y.eq .g1 (congrArg (fun z_:jM=>(.int .i64 (z_.code):Value)) au) ?_
 refine Y.al .z (congrArg (fun z_:jM=>(bW gp 38 2 1 [.int .i64 (z_.code),.slice Ap (z_.list).length cp]:Asn)) au) ?_
 refine Y.al .g1 (congrArg (fun z_:jM=>(aG aY (z_.list) [.slice Ap (z_.list).length cp]:Asn)) au) ?_
 have hpc:(cY f L b).code=0:=az
 have hpi:=vQ hpc
 have hpl:((cY f L b).list.length:Int)=((L.length:Int)+7) / 8:=hpi.2
 refine Y.skip (Y.g (Y.seq (Y.region (Y.ql rfl (qW rfl bR (.t .g4) .g3 aX) ?_))))
 refine Y.cl rfl rfl Tryz.func67 rfl rfl (bH (.t .z)) .n (fun _ _ hs tr=>uY (aK f (tr.ctx ah) (tr.ctx ay))) ?_
 rintro _ _ ⟨da,db,rfl,rfl⟩
 refine Y.m (.c (.c .n)) ?_
 refine Y.h (WS.a .z) ?_
 rintro⟨ci,ae,rfl,bv,bw,bx⟩
 refine Y.h (WS.a .g1) ?_
 rintro⟨am,an,rfl,bz,b0,b1⟩
 refine Y.el rfl (bP rfl nK rfl rfl) ?_
 rintro _ _ ⟨g33,rfl,rfl⟩
 refine Y.es (aE rfl) rfl (esW rfl (.t .z) (.t .g1) .z aX rfl rfl) ?_
 refine Y.nt (Y.seq (Y.region (Y.fa rfl .z aO (Y.ld rfl bT .z .z (Y.mv rfl .g10 ?_)))))
 refine Y.ab (.c .g1 .n) fP ?_
 rintro ab ao
 obtain⟨aa,ap⟩:=aI (xs:=f.inodes) (j:=Int.toNat a) (by first | omega |(rw [hdl];omega) |(rw [hsl];omega))
 obtain⟨dc,ad⟩:=aI (xs:=ab) (j:=Int.toNat a) (by rw [ao];exact(List.getElem?_eq_some_iff.1 ap).1)
 refine Y.aq .g1 (eG ap ad) ?_
 refine Y.ab (.c .z .n) fC ?_
 rintro⟨dd,dg⟩ rfl
 refine Y.h (WS.a .z) ?_
 rintro⟨a0,a1,rfl,b2,b3,b4⟩
 refine Y.h (WS.a .g1) ?_
 rintro⟨af,ag,rfl,b5,b6,b8⟩
 have av:=lQ (a:=a) ap (by omega)
 have a2:∀b,b∈aa.blocks→0≤b∧b≤19:=by rw [←av];exact hB
 refine Y.h (WS.g .g4 (by omega)) ?_
 rintro⟨ac,rfl⟩
 refine Y.ql rfl (aB (j:=Int.toNat a) rfl cQ aV (.t .g1) (.t .z) (by omega) (by first | omega |(rw [hdl];omega) |(rw [hsl];omega))) ?_
 refine Y.as rfl .z (Y.nt (Y.seq (Y.seq (Y.region (Y.ql rfl (aA rfl .c) (Y.nt ?_))))))
 refine Y.block ?_
 refine Y.ah (x':=lO f.data aa.blocks 0) .g6 rfl ?_
 refine Y.ak (γ:=Nat) (fun k=> [(12,.int .i64 (k:Int)),(11,.pointer (some (Addr.add ac ((Int.toNat a) * 5)))),(10,.pointer (some ⟨g33,0,none⟩)),(8,.pointer (some ⟨g6,0,none⟩)),(2,.slice A2 L.length c2),(9,.pointer (some ⟨gp,0,none⟩))]) (fun k=> [aG dA (lO f.data aa.blocks k) [.slice am f.data.length an],aG aY aa.blocks [.slice a0 aa.blocks.length a1],aG dR aa.ents [.slice af aa.ents.length ag],mN cD (List.take (Int.toNat a) f.inodes) (List.take (Int.toNat a) ab),mN cD (List.drop (Int.toNat a+1) f.inodes) (List.drop (Int.toNat a+1) ab),aG (bN 44 72 (mL cD.sz cD.pos)) ab [.slice (some ac) f.inodes.length ae],bW g33 27 2 1 [.slice (some ac) f.inodes.length ae,.slice am f.data.length an],aG aY ((cY f L b).list) [.slice Ap ((cY f L b).list).length cp],bW gp 38 2 1 [.int .i64 ((cY f L b).code),.slice Ap ((cY f L b).list).length cp],bW g6 48 3 1 [.int .i64 0,.slice none 0 0,.slice none 0 0],bW g5 27 2 1 [.slice ai f.inodes.length aj,.slice ak f.data.length al]]) (fun k=>k≤aa.blocks.length) (fun k=>aa.blocks.length - k) 0 (Nat.zero_le _) (.c .z (.c .g1 (.c .g6 (.c .g12 (.c .g15 (.c .g16 .n)))))) (fun _ h=>h.sel (.c .z (.c .z (.c .z (.c .z (.c .z (.c .z (.c .z (.c .z (.c .z (.c .z (.c .z .n)))))))))))) ?_
 rintro k hk
 have hdl:=iI (data:=f.data) (bs:=aa.blocks) k
 refine Y.seq (Y.seq (Y.region (Y.mv rfl .z (Y.mv rfl .g2 (Y.nc rfl .z (Y.fa rfl .z dB (Y.ql rfl (aP rfl fA (.t .z) (WS.j .g5 ad rfl)) (Y.ql rfl (bE rfl dW (.t .z)) ?_))))))))
 refine Y.ql rfl (cR rfl (.t .g5) (.t .z)) (Y.nt ?_)
 refine Y.u (.t .z) (fun cj=> ?_) (fun cj=> ?_)
 refine Y.skip (Y.g (Y.seq (Y.block ?_)))
 refine Y.dr .z 10 gE ?_
 refine Y.sc (qs 0 10++ [(10,false)]) (by kernel_rfl) ?_
 refine Y.df rfl rfl .z .g9 gF (Y.dl rfl rfl .z lE .z .g6 (Y.dm rfl rfl .z .g10 (Y.dn rfl rfl .z .z (Y.df rfl rfl .z .z dB (Y.dk rfl rfl .z (aP rfl fA (.t .z) (WS.j .g5 ad rfl)) (Y.dm rfl rfl .z .g13 ?_))))))
 refine Y.h (WS.g .g1 (by omega)) ?_
 rintro⟨ck,rfl⟩
 refine Y.dk rfl rfl .z (aB (j:=k) rfl dW jC (.t .g1) (.t .z) rfl (by first | omega |(rw [hdl];omega) |(rw [hsl];omega))) ?_
 obtain⟨b9,ax⟩:=aI (xs:=aa.blocks) (j:=k) (by first | omega |(rw [hdl];omega) |(rw [hsl];omega))
 have ca:=a2 _ (List.mem_of_getElem? ax)
 refine Y.dk rfl rfl .z (aP rfl cB (.t .z) (WS.i .g1 ax)) ?_
 refine Y.h (WS.g .z (by omega)) ?_
 rintro⟨cm,rfl⟩
 refine Y.dk rfl rfl .z (aB (j:=Int.toNat b9) rfl mU lF (.t .g7) (.t .z) (by omega) (by first | omega |(rw [hdl];omega) |(rw [hsl];omega))) ?_
 refine Y.add (c:=aG bQ [] [.slice none 0 0]) (fun w S=>aL w S none) ?_
 refine Y.es (aC rfl rfl) rfl (nM (j:=Int.toNat b9) rfl lF (.t .z) .c rfl (.c .g1 (.c .z .n)) (by first | omega |(rw [hdl];omega) |(rw [hsl];omega))) ?_
 refine Y.ah .z (zQ ax) ?_
 refine Y.sl rfl ?_
 refine Y.aa ?_
 refine Y.ai (by kernel_rfl) ?_
 refine Y.w (Y.g (Y.region (Y.mv rfl (.s16 .g1) ?_)))
 refine Y.ql rfl (bA (c:=((k+1:Nat):Int)) rfl (.t .z) .c (wr (by omega) (by omega) (by omega))) ?_
 refine Y.er (.s16 .g3) (Y.as rfl .z (Y.nil ?_))
 refine Y.ae (k+1) (by omega) (by first | omega |(dsimp only;omega)) (.c .z (.c (.s16 .g4) (.c (.s16 .g5) (.c (.s16 .g6) (.c (.s16 .g7) (.c (.s16 .g8) .n)))))) (fun _ h=>h.sel (.c .z (.c .z (.c .z (.c .z (.c .z (.c .z (.c .z (.c .z (.c .z (.c .z (.c .z .n))))))))))))
 refine Y.exit (Y.y (Y.y (Y.aj (Y.g (Y.seq (Y.region (Y.mv rfl .g8 (Y.fa rfl .g13 aId ?_))))))))
 refine Y.ld rfl fA .z .g8 (Y.nc rfl .g2 (Y.fa rfl .z dB ?_))
 refine Y.es (aE rfl) rfl (kE (j:=Int.toNat a) (off:=3) (cs:= [.slice Ap ((cY f L b).list).length cp]) rfl yH (.t .z) (iM _ _ _) (.t .g2) rfl (oM rfl) .g5 ad (Nat.le_of_ble_eq_true rfl)) ?_
 refine Y.ah (x':=List.set ab (Int.toNat a) [.int .i64 aa.kind,.int .i64 aa.links,.int .i64 aa.size,.slice Ap ((cY f L b).list).length cp,.slice af aa.ents.length ag]) .z rfl ?_
 refine Y.nt (Y.seq (Y.region (Y.mv rfl .g13 (Y.mv rfl (.s16 .g1) (Y.ql rfl (bE rfl dP (.t .z)) (Y.nc rfl .g2 (Y.fa rfl .z hX ?_)))))))
 refine Y.es (aE rfl) rfl (kE (j:=Int.toNat a) (off:=2) (cs:= [.int .i64 (L.length:Int)]) rfl jC (.t .z) (iM _ _ _) (.t .g2) rfl (oM rfl) .z (rY ad) (Nat.le_of_ble_eq_true rfl)) ?_
 refine Y.ah (x':=List.set ab (Int.toNat a) [.int .i64 aa.kind,.int .i64 aa.links,.int .i64 (L.length:Int),.slice Ap ((cY f L b).list).length cp,.slice af aa.ents.length ag]) .z (List.set_set ..) ?_
 refine Y.nt (Y.seq (Y.seq (Y.region (Y.ql rfl (aA rfl .c) (Y.nt (Y.block ?_))))))
 refine Y.ah (x':=gD f a) .g1 (by unfold gD;rw [av,show k=aa.blocks.length by omega]) ?_
 refine Y.ah (x':=oB (gD f a) (cY f L b).list L 0) .z rfl ?_
 refine Y.ak (γ:=Nat) (fun q=> [(13,.int .i64 (q:Int)),(11,.pointer (some (Addr.add ac ((Int.toNat a) * 5)))),(10,.pointer (some ⟨g33,0,none⟩)),(8,.pointer (some ⟨g6,0,none⟩)),(2,.slice A2 L.length c2)]) (fun q=> [aG dA (oB (gD f a) (cY f L b).list L q) [.slice am f.data.length an],aG (bN 44 72 (mL cD.sz cD.pos)) (List.set ab (Int.toNat a) [.int .i64 aa.kind,.int .i64 aa.links,.int .i64 (L.length:Int),.slice Ap ((cY f L b).list).length cp,.slice af aa.ents.length ag]) [.slice (some ac) f.inodes.length ae],aG aY aa.blocks [.slice a0 aa.blocks.length a1],aG dR aa.ents [.slice af aa.ents.length ag],mN cD (List.take (Int.toNat a) f.inodes) (List.take (Int.toNat a) ab),mN cD (List.drop (Int.toNat a+1) f.inodes) (List.drop (Int.toNat a+1) ab),bW g33 27 2 1 [.slice (some ac) f.inodes.length ae,.slice am f.data.length an],aG aY ((cY f L b).list) [.slice Ap ((cY f L b).list).length cp],bW gp 38 2 1 [.int .i64 ((cY f L b).code),.slice Ap ((cY f L b).list).length cp],bW g6 48 3 1 [.int .i64 0,.slice none 0 0,.slice none 0 0],bW g5 27 2 1 [.slice ai f.inodes.length aj,.slice ak f.data.length al]]) (fun q=>q≤(cY f L b).list.length) (fun q=>(cY f L b).list.length - q) 0 (Nat.zero_le _) (.c .z (.c (.s16 .g3) (.c (.s16 .g4) (.c (.s16 .g5) (.c (.s16 .g6) .n))))) (fun _ h=>h.sel (.c .z (.c .z (.c .z (.c .z (.c .z (.c .z (.c .z (.c .z (.c .z (.c .z (.c .z .n)))))))))))) ?_
 rintro q hq
 have hsl:=(oA (data:=gD f a) (bs:=(cY f L b).list) (L:=L) q).trans (iI _)
 refine Y.seq (Y.seq (Y.region (Y.mv rfl .z (Y.mv rfl .g2 (Y.nc rfl .z (Y.fa rfl .z dB (Y.ql rfl (aP rfl fA (.t .z) (WS.j .g1 (rY ad) rfl)) (Y.ql rfl (bE rfl dW (.t .z)) ?_))))))))
 refine Y.ql rfl (cR rfl (.t .g5) (.t .z)) (Y.nt ?_)
 refine Y.u (.t .z) (fun cn=> ?_) (fun cn=> ?_)
 refine Y.skip (Y.g (Y.seq (Y.block (Y.seq (Y.region (Y.mv rfl .g8 (Y.nc rfl .z (Y.fa rfl .z hX ?_))))))))
 refine Y.ql rfl (aP rfl cB (.t .z) (WS.j .g1 (rY ad) rfl)) (Y.mv rfl .g11 ?_)
 refine Y.ql rfl (bA (c:=((q+1:Nat):Int)) rfl (.t .z) .c (wr (by omega) (by omega) (by omega))) ?_
 refine Y.ql rfl (pH (c:=(((q+1) * 8:Nat):Int)) rfl (.t .z) .c (wr (by omega) (by omega) (by omega))) ?_
 refine Y.cl rfl rfl Tryz.func47 rfl rfl (aR (.t .g3) (.t .z)) .n (fun _ _ hs tr=>aGe _ _) ?_
 rintro _ _ ⟨rfl,rfl⟩
 refine Y.m .n ?_
 have co:=gB (L.length:Int) (((q+1) * 8:Nat):Int)
 refine Y.as rfl .z (Y.nt ?_)
 refine Y.sel (.c .z (.c .g2 (.c .z (.c .z (.c .z (.c .z (.c .z (.c .z (.c .z (.c .z (.c .z .n))))))))))) ?_
 refine Y.dr .g2 17 gE ?_
 refine Y.sc (qs 0 9++qs 10 5++ [(9,false),(15,false),(16,true),(17,false)]) (by kernel_rfl) ?_
 refine Y.df rfl rfl .g2 (.s16 .g2) gF (Y.dl rfl rfl .g2 lE .z .g4 (Y.dm rfl rfl .g2 (.s16 .g3) (Y.dn rfl rfl .g2 .z (Y.df rfl rfl .g2 .z dB (Y.dk rfl rfl .g2 (aP rfl fA (.t .z) (WS.j .z (rY ad) rfl)) (Y.dm rfl rfl .g2 (.s16 .g6) ?_))))))
 refine Y.h (WS.g .g7 (by omega)) ?_
 rintro⟨cq,rfl⟩
 refine Y.dk rfl rfl .g2 (aB (j:=q) rfl dW jC (.t .g1) (.t .z) rfl (by first | omega |(rw [hdl];omega) |(rw [hsl];omega))) ?_
 obtain⟨cb,aq⟩:=aI (xs:=(cY f L b).list) (j:=q) (by first | omega |(rw [hdl];omega) |(rw [hsl];omega))
 have cc:=hpi.1 _ (List.mem_of_getElem? aq)
 refine Y.dk rfl rfl .g2 (aP rfl cB (.t .z) (WS.i .g5 aq)) (Y.dm rfl rfl .g2 (.s16 .g13) (Y.dm rfl rfl .g2 (.s16 .g10) ?_))
 refine Y.dk rfl rfl .g2 (pH (c:=((q * 8:Nat):Int)) rfl (.t .z) .c (wr (by omega) (by omega) (by omega))) ?_
 refine Y.dm rfl rfl .g2 .g12 ?_
 refine Y.eq .z (congrArg (Value.int .i64) (show dS (L.length:Int) (((q+1) * 8:Nat):Int)=((Int.toNat (dS (L.length:Int) (((q+1) * 8:Nat):Int)):Nat):Int) by omega)) ?_
 obtain⟨cr,aw⟩:∃A':Option Addr,A'=(if c2=q * 8 then A2 else Option.map (fun z=>Addr.add z ((q * 8) * 1)) A2):=⟨_,rfl⟩
 have a9:=mQ (a:=q * 8) (b:=Int.toNat (dS (L.length:Int) (((q+1) * 8:Nat):Int))) aw h2 (by omega) (by omega)
 have ct:=fW (xs:=L) (a:=q * 8) (b:=Int.toNat (dS (L.length:Int) (((q+1) * 8:Nat):Int))) (by omega)
 refine Y.dk rfl rfl .g2 (iZ (a:=q * 8) (b:=Int.toNat (dS (L.length:Int) (((q+1) * 8:Nat):Int))) rfl dP nJ (.t .g3) aw (.inr ⟨_,_,rfl,(.t .g1)⟩) (.inr ⟨_,_,rfl,(.t .z)⟩) (by omega) (by omega) (by omega)) ?_
 refine Y.e (aC rfl rfl) rfl (by decide) rfl (dZ rfl dP (inz iQ)) ?_
 rintro _ _ ⟨g56,rfl,rfl⟩
 refine Y.sk .g3 ?_
 refine Y.add (c:=aG bQ ([]:(List UInt8)) [.slice (some ⟨g56,0,none⟩) 0 0]) (fun w S=>aL w S _) ?_
 refine Y.e (aC rfl rfl) rfl (by decide) rfl (dY (bI _ _ _) rfl dP iQ rfl (.t .z) (.t .g1) (.c .z .n) (fun w1 S1 tr=>tr.ctx a9) (by first | omega |(simp only [List.length_append,List.length_take,List.length_nil,List.length_cons];omega)) (by first | omega |(simp only [List.length_append,List.length_take,List.length_nil,List.length_cons];omega))) ?_
 rintro _ _ rfl
 refine Y.ah .z (List.nil_append _) ?_
 refine Y.h (WS.a .z) ?_
 rintro⟨cu,cv,rfl,cd,ce,cf⟩
 refine Y.sk .g4 ?_
 refine Y.h (WS.g .g2 (by omega)) ?_
 rintro⟨cw,rfl⟩
 refine Y.dk rfl rfl .g4 (aB (j:=Int.toNat cb) rfl mU lF (.t .g14) (.t .g7) (by omega) (by first | omega |(rw [hdl];omega) |(rw [hsl];omega))) ?_
 refine Y.es (aC rfl rfl) rfl (nM (j:=Int.toNat cb) rfl lF (.t .z) (.t .g1) rfl (.c .g2 (.c .z .n)) (by first | omega |(rw [hdl];omega) |(rw [hsl];omega))) ?_
 refine Y.ah .z (by first | exact uC aq | rw [wC,uC aq] | rw [yL,uC aq]) ?_
 refine Y.sl rfl ?_
 refine Y.aa ?_
 refine Y.ai (by kernel_rfl) ?_
 refine Y.w (Y.g (Y.region (Y.mv rfl (.s16 (.s16 .g1)) ?_)))
 refine Y.ql rfl (bA (c:=((q+1:Nat):Int)) rfl (.t .z) .c (wr (by omega) (by omega) (by omega))) ?_
 refine Y.er (.s16 (.s16 .g3)) (Y.as rfl .z (Y.nil ?_))
 refine Y.ae (q+1) (by omega) (by first | omega |(dsimp only;omega)) (.c .z (.c (.s16 (.s16 .g4)) (.c (.s16 (.s16 .g5)) (.c (.s16 (.s16 .g6)) (.c (.s16 (.s16 .g7)) .n))))) (fun _ h=>h.sel (.c .z (.c .g2 (.c .g2 (.c .g1 (.c .g1 (.c .g1 (.c .g1 (.c .g1 (.c .g1 (.c .g1 (.c .g1 .n))))))))))))
 refine Y.exit (Y.y (Y.y (Y.aj (Y.g (Y.seq (Y.region (Y.ql rfl (qW rfl bR (.t .g9) .g6 aX) (Y.ql rfl (bC (cs:= [.int .i64 0,.slice (some ac) f.inodes.length ae,.slice am f.data.length an]) rfl pQ (pv1 (.t .z)) rfl) ?_))))))))
 refine Y.es (aE rfl) rfl (esW rfl (.t .g12) (.t .z) .g9 gV rfl rfl) ?_
 refine Y.nt (Y.ret ?_)
 refine Y.af (c:=aG cD (⟨aa.kind,aa.links,(L.length:Int),(cY f L b).list,aa.ents⟩:aF) [.int .i64 aa.kind,.int .i64 aa.links,.int .i64 (L.length:Int),.slice Ap ((cY f L b).list).length cp,.slice af aa.ents.length ag]) (.c .g8 (.c .g4 .n)) (fun w S h=>cS (⟨aa.kind,aa.links,(L.length:Int),(cY f L b).list,aa.ents⟩:aF) h) ?_
 refine Y.af (c:=aG aW (List.set f.inodes (Int.toNat a) (⟨aa.kind,aa.links,(L.length:Int),(cY f L b).list,aa.ents⟩:aF)) [.slice (some ac) f.inodes.length ae]) (.c .g3 (.c .z (.c .g3 (.c .g3 .n)))) (eT (K:=cD) ao (List.getElem?_eq_some_iff.1 ap).1 rfl) ?_
 have ba:List.set f.inodes (Int.toNat a) (⟨aa.kind,aa.links,(L.length:Int),(cY f L b).list,aa.ents⟩:aF)=qH f.inodes a (L.length:Int) (cY f L b).list:=(aBd ap (by omega))
 refine Y.al .z (congrArg (fun z_=>(aG aW (z_) [.slice (some ac) f.inodes.length ae]:Asn)) ba) ?_
 refine Y.ah (x':=oB (gD f a) (cY f L b).list L (cY f L b).list.length) .g2 (by rw [show q=(cY f L b).list.length by omega]) ?_
 refine Y.i (dF rfl .g12 nX .g2 gV) (.c .g1 (.c .z .n)) ?_
 first |(rw [xM (by omega)];exact⟨_,_,rfl,rfl⟩) |(rw [uF (by omega) hpn];exact⟨_,_,rfl,rfl⟩) |(rw [tZ (by omega) hpc];exact⟨_,_,rfl,rfl⟩)

theorem aL3 {w0:World}{S0:Bs}{x:(List UInt8)}{v0:Value} (n:Int) (hs:cH [aG bQ x [v0]] w0 S0) (hx:x.length≤32) (hn:n≤1100):
    Calls Tryz.prog 112 #[v0,.int .i64 n] w0 (aJ w0 S0 (fun r l=>l= [aG bQ (lA x n) [r]])):=by
 refine Y.enter (N:=13) Tryz.func112 rfl rfl (by simp) [(0,v0),(1,.int .i64 n)] (by simp) hs ?_
 refine Y.h (WS.a .z) ?_
 rintro⟨ad,ae,rfl,ag,ah,ai⟩
 refine Y.seq (Y.region (Y.ql rfl (aA rfl .c) (Y.nt (Y.seq (Y.block ?_)))))
 have af:x=x++List.replicate 0 0:=(aCt _)
 refine Y.ah .z af ?_
 refine Y.al .z (congrArg (fun z_:Nat=>(aG bQ (x++List.replicate 0 0) [.slice ad z_ ae]:Asn)) (congrArg List.length af)) ?_
 refine Y.eq .g1 (congrArg (fun z_:Nat=>(.slice ad z_ ae:Value)) (congrArg List.length af)) ?_
 refine Y.ak (γ:=Nat×(Option Addr)×Nat) (fun⟨k,aa,ab⟩=> [(0,.slice aa (x++List.replicate k 0).length ab),(4,.slice none 0 0),(1,.int .i64 n)]) (fun⟨k,aa,ab⟩=> [aG bQ (x++List.replicate k 0) [.slice aa (x++List.replicate k 0).length ab]]) (fun⟨k,aa,ab⟩=>k≤Int.toNat (n) - x.length) (fun⟨k,aa,ab⟩=>Int.toNat (n) - x.length - k) (0,ad,ae) (Nat.zero_le _) (.c .z (.c .g1 (.c .g2 .n))) (fun _ h=>h.sel (.c .z .n)) ?_
 rintro⟨k,aa,ab⟩ hk
 have hpl:=tB (L:=x) (k:=k)
 refine Y.seq (Y.seq (Y.region (Y.mv rfl .z ?_)))
 refine Y.cl rfl rfl Tryz.func88 rfl rfl (bH (.t .z)) .n (fun _ _ hs tr=>aA2 (tr.own .z)) ?_
 rintro _ _ ⟨rfl,rfl⟩
 refine Y.m .n ?_
 refine Y.mv rfl .g4 (Y.ql rfl (cR rfl (.t .g1) (.t .z)) (Y.nt ?_))
 refine Y.u (.t .z) (fun b3=> ?_) (fun b3=> ?_)
 refine Y.skip (Y.g (Y.block (Y.region (Y.mv rfl .g4 ?_))))
 refine Y.el rfl (aM (cs:= [.int .u8 0]) rfl dP (inz iQ) (by decide) (pv1 .c) rfl rfl (by decide) rfl rfl) ?_
 rintro _ _ ⟨g4,rfl,rfl⟩
 refine Y.add (c:=aG qR (0:UInt8) [.int .u8 0]) (fun _ _=>⟨rfl,trivial⟩) ?_
 refine Y.el rfl (dD rfl dP iQ rfl (.t .g1) (.t .z) (.c .g2 (.c .g1 (.c .z .n))) (by first | omega |(simp <;> omega)) (by first | omega |(simp <;> omega))) ?_
 rintro _ _ rfl
 refine Y.ah .z aC1 ?_
 refine Y.h (WS.a .z) ?_
 rintro⟨aj,ak,rfl,al,am,an⟩
 refine Y.er .g7 (Y.as rfl .z (Y.nil (Y.w ?_)))
 refine Y.ae ((k+1),aj,ak) (by omega) (by first | omega |(dsimp only;omega)) (.c .z (.c .g8 (.c .g9 .n))) (fun _ h=>h.sel (.c .z .n))
 refine Y.exit (Y.y (Y.y (Y.aj (Y.g (Y.seq (Y.region (Y.mv rfl .g4 (Y.er .g6 ?_))))))))
 refine Y.as rfl .z (Y.nt (Y.ret ?_))
 have ac:x++List.replicate k 0=lA x n:=(wS (by omega) (by omega))
 refine Y.eq .z (congrArg (fun z_=>(.slice aa (z_).length ab:Value)) ac) ?_
 refine Y.eq .g1 (congrArg (fun z_=>(.slice aa (z_).length ab:Value)) ac) ?_
 refine Y.eq .g2 (congrArg (fun z_=>(.bool (decide (((z_).length:Int)<n)):Value)) ac) ?_
 refine Y.eq .g4 (congrArg (fun z_=>(.int .i64 ((z_).length:Int):Value)) ac) ?_
 refine Y.eq .g5 (congrArg (fun z_=>(.slice aa (z_).length ab:Value)) ac) ?_
 refine Y.eq .g6 (congrArg (fun z_=>(.slice aa (z_).length ab:Value)) ac) ?_
 refine Y.al .z (congrArg (fun z_=>(aG bQ (z_) [.slice aa (z_).length ab]:Asn)) ac) ?_
 refine Y.i (aT rfl .g5) (.c .z .n) ?_
 rfl

end Go.Proofs.YtmejbfmhaoilmaaGreat

/- What is proved: contracts of functions, one a function. No condition. -/
import Derived.Test.YtmejbfmhaoilmaaGreatBase1
import Derived.Test.YtmejbfmhaoilmaaGreatW32
import Derived.Test.YtmejbfmhaoilmaaGreatW11
namespace Go.Proofs.YtmejbfmhaoilmaaGreat
open Go Go.RowKit
set_option linter.unusedVariables false
set_option linter.unusedSimpArgs false
set_option maxHeartbeats 1000000
set_option maxRecDepth 20000
theorem aLu {w0:World}{S0:Bs}{f:DFs}{aa:Addr} (h0:gJ eS w0 (FF w0 S0) aa f) (a:Int) {b:(List Int)}{v2:Value} (h2:aY.ro w0 (FF w0 S0) b [v2]):
    Calls Tryz.prog 66 #[.pointer (some aa),.int .i64 a,v2] w0 (aI w0 S0 (fun r l=>r= .int .i64 (gO f a b)∧l= [])):=by
 obtain⟨au,av,al,aw⟩:=id h0
 obtain⟨am,an,rfl,ab,ac⟩:=cQ al
 obtain⟨ao,ap,rfl,ad,ae,af,ag⟩:=aD ab
 obtain⟨aq,ar,rfl,ah,ai,aj,ak⟩:=aD ac
 obtain⟨A2,c2,rfl,ax,ay,az,a0⟩:=aD h2
 refine Y.enter (N:=16) Tryz.func66 rfl rfl (by simp) [(0,.pointer (some aa)),(1,.int .i64 a),(2,.slice A2 b.length c2)] (by simp) (l0:= []) trivial ?_
 refine Y.seq (Y.region (Y.ql rfl (aA rfl .c) (Y.nt (Y.seq (Y.seq (Y.region (Y.mv rfl .g1 ?_)))))))
 refine Y.mv rfl .g3 ?_
 refine Y.cl rfl rfl Tryz.func113 rfl rfl (aR (.t .g1) (.t .z)) .n (fun _ _ hs tr=>aK2 (tr.ctxP h0) _) ?_
 rintro _ _ ⟨rfl,rfl⟩
 refine Y.r .n ?_
 refine Y.as rfl .z (Y.nt (Y.seq (Y.region (Y.mv rfl .z (Y.ql rfl (cC rfl (.t .z) .c) (Y.nt ?_))))))
 refine Y.ad (.t .z) (fun b4=> ?_) (fun b4=> ?_)
 refine Y.seq (Y.region (Y.mv rfl .g2 (Y.er .g7 (Y.as rfl .z (Y.nt (Y.ret (Y.m ?_)))))))
 refine Y.j (aT rfl .z) .n ?_
 exact⟨by first |(rw [aDz (by assumption)];done) |(rw [aDp (by assumption)];done),rfl⟩
 refine Y.skip (Y.g (Y.seq (Y.region (Y.mv rfl .g9 ?_))))
 refine Y.cl rfl rfl Tryz.func114 rfl rfl (bH (.t .z)) .n (fun _ _ hs tr=>aIy (tr.ctx h2)) ?_
 rintro _ _ ⟨rfl,rfl⟩
 refine Y.r .n ?_
 refine Y.er .g8 (Y.as rfl .z (Y.nt (Y.ret ?_)))
 refine Y.j (aT rfl .z) .n ?_
 exact⟨by first |(rw [aDz (by assumption)];done) |(rw [aDp (by assumption)];done),rfl⟩

theorem aL1 {w0:World}{S0:Bs}{f:DFs}{aa:Value}{ab:Value} (c:Int) (hs:cJ [aG aW f.inodes [aa],aG cV f.data [ab]] w0 S0):
    Calls Tryz.prog 65 #[.agg #[aa,ab],.int .i64 c] w0 (aI w0 S0 (wE (fsR f c))):=by
 refine Y.enter (N:=11) Tryz.func65 rfl rfl (by simp) [(0,.agg #[aa,ab]),(1,.int .i64 c)] (by simp) hs ?_
 refine Y.i (WS.a .z) ?_
 rintro⟨ac,ad,rfl,ag,ah,ai⟩
 refine Y.i (WS.a .g1) ?_
 rintro⟨ae,af,rfl,aj,ak,al⟩
 refine Y.seq (Y.region ?_)
 refine Y.el rfl (fR (cs:= [.slice ac f.inodes.length ad,.slice ae f.data.length af]) (n:=2) rfl (.t .z) rfl rfl) ?_
 rintro _ _ ⟨g3,rfl,rfl⟩
 refine Y.el rfl (bD rfl vZ rfl rfl) ?_
 rintro _ _ ⟨g4,rfl,rfl⟩
 refine Y.nt (Y.seq (Y.seq (Y.region (Y.mv rfl .g3 (Y.ql rfl (cC rfl (.t .z) .c) (Y.nt ?_))))))
 refine Y.ad (.t .z) (fun b5=> ?_) (fun b5=> ?_)
 refine Y.seq (Y.region (Y.mv rfl .g5 (Y.ql rfl (aZ (cs:= [.int .i64 c,.slice none 0 0,.slice none 0 0]) rfl mZ (pv1 (.t .z)) rfl) ?_)))
 refine Y.es (aE rfl) rfl (esW rfl (.t .g4) (.t .z) .z fH rfl rfl) ?_
 refine Y.nt (Y.ret (Y.m ?_))
 refine Y.add (c:=aG aW [] [.slice none 0 0]) (fun w S=>aK w S none) ?_
 refine Y.add (c:=aG cV [] [.slice none 0 0]) (fun w S=>aK w S none) ?_
 refine Y.j (dA rfl .g4 lN .g2 fH) (.c .g1 (.c .z .n)) ?_
 first |(rw [aD4 (by assumption)];exact⟨_,_,rfl,rfl⟩) |(rw [aGy (by omega)];exact⟨_,_,rfl,rfl⟩)
 refine Y.skip (Y.g (Y.seq (Y.region (Y.ql rfl (qW rfl bN (.t .g3) .g1 aX) (Y.ql rfl (aZ (cs:= [.int .i64 0,.slice ac f.inodes.length ad,.slice ae f.data.length af]) rfl mZ (pv1 (.t .z)) rfl) ?_)))))
 refine Y.es (aE rfl) rfl (esW rfl (.t .g4) (.t .z) .z fH rfl rfl) ?_
 refine Y.nt (Y.ret ?_)
 refine Y.j (dA rfl .g4 lN .z fH) (.c .g2 (.c .g2 .n)) ?_
 first |(rw [aD4 (by assumption)];exact⟨_,_,rfl,rfl⟩) |(rw [aGy (by omega)];exact⟨_,_,rfl,rfl⟩)

theorem aK6 {w0:World}{S0:Bs}{f:DFs}{au:Addr}{ai:Value}{aj:Value} (h0:gJ (mC 2 (by decide)) w0 (FF w0 S0) au [ai,aj]) (a:Int) {L:(List UInt8)}{v2:Value} (h2:bX.ro w0 (FF w0 S0) L [v2]) {b:(List Int)}{v3:Value} (h3:aY.ro w0 (FF w0 S0) b [v3]) (hs:cJ [aG aW f.inodes [ai],aG cV f.data [aj]] w0 S0) (hI:bJ f.inodes=0) (hd:f.data.length=20) (hp:bY f.inodes.length a) (hL:L.length≤32):
    Calls Tryz.prog 72 #[.pointer (some au),.int .i64 a,v2,v3] w0 (aI w0 S0 (fun r l=>r= .int .i64 (dB f L b).code∧l= [aG aW (vA f a L b).inodes [ai],aG cV (vA f a L b).data [aj]])):=by
 obtain⟨b1,av,⟨rfl, -, -⟩,aw⟩:=id h0
 obtain⟨A2,c2,rfl,b2,b3,b4,b5⟩:=aD h2
 obtain⟨A3,c3,rfl,b6,b7,b9,ca⟩:=aD h3
 obtain⟨hp1a,hp2a⟩:=hp
 have hB:=kO hI a
 refine Y.enter (N:=74) Tryz.func72 rfl rfl (by simp) [(0,.pointer (some au)),(1,.int .i64 a),(2,.slice A2 L.length c2),(3,.slice A3 b.length c3)] (by simp) hs ?_
 refine Y.i (WS.a .z) ?_
 rintro⟨bc,ax,rfl,bd,be,bf⟩
 refine Y.i (WS.a .g1) ?_
 rintro⟨bg,bh,rfl,bi,bj,bk⟩
 refine Y.seq (Y.region (Y.ql rfl (aA rfl .c) (Y.nt (Y.seq ?_))))
 refine Y.dr .g2 13 gB ?_
 refine Y.sc (qs 0 6++ [(6,false),(7,false),(8,false)]++qs 9 4++ [(13,false)]) (by kernel_rfl) ?_
 refine Y.dm rfl rfl .g2 .g1 (Y.dn rfl rfl .g2 .z (Y.df rfl rfl .g2 .z aP (Y.de rfl rfl .g2 bO .z av aw (Y.dm rfl rfl .g2 .g8 (Y.dm rfl rfl .g2 .g8 ?_)))))
 refine Y.call (aC rfl rfl) rfl (by decide) rfl (bF rfl Tryz.func88 rfl rfl (bH (.t .z))) .n (fun _ _ hs tr=>aHy (tr.ctx h2)) ?_
 rintro _ _ ⟨rfl,rfl⟩
 refine Y.r .n ?_
 refine Y.sk .g2 ?_
 refine Y.call (aC rfl rfl) rfl (by decide) rfl (bF rfl Tryz.func119 rfl rfl (bH (.t .z))) .n (fun _ _ hs tr=>rA _ (by omega) (by omega)) ?_
 rintro _ _ ⟨rfl,rfl⟩
 refine Y.r .n ?_
 refine Y.sk .g2 ?_
 refine Y.call (aC rfl rfl) rfl (by decide) rfl (bF rfl Tryz.func118 rfl rfl (eQ (.t .g4) (.t .g3) (.t .z))) .n (fun _ _ hs tr=>aKo (tr.own .z) (tr.ctx h3) _ (by first | assumption |(exact wL (by assumption)))) ?_
 rintro _ _ ⟨v5,rfl,rfl⟩
 refine Y.r (.c .n) ?_
 refine Y.i (WS.a .z) ?_
 rintro⟨ac,ad,rfl,bm,bn,bo⟩
 refine Y.sk .g3 ?_
 refine Y.dm rfl rfl .g3 .z (Y.dk rfl rfl .g3 (bL (v:= .slice ac ((hJ f.inodes b (((L.length:Int)+7) / 8)).list).length ad) rfl (.t .z) rfl) (Y.dk rfl rfl .g3 (bL (v:= .int .i64 ((hJ f.inodes b (((L.length:Int)+7) / 8)).code)) rfl (.t .g1) rfl) (Y.dk rfl rfl .g3 (aA rfl (.t .g1)) ?_)))
 refine Y.q (aC rfl rfl) rfl (by decide) rfl (aA rfl (.t .g1)) ?_
 refine Y.sl rfl ?_
 refine Y.aa ?_
 refine Y.ai (by kernel_rfl) ?_
 refine Y.g (Y.seq (Y.seq (Y.region (Y.mv rfl .z (Y.ql rfl (cC rfl (.t .z) .c) (Y.nt ?_))))))
 refine Y.ad (.t .z) (fun b8=> ?_) (fun b8=> ?_)
 have ap:hJ f.inodes b (((L.length:Int)+7) / 8)=(dB f L b):=rfl
 have ak:(hJ f.inodes b (((L.length:Int)+7) / 8))=(dB f L b):=ap
 refine Y.eq .z (congrArg (fun z_:jI=>(.bool (!decide (z_.code=0)):Value)) ak) ?_
 refine Y.eq .g1 (congrArg (fun z_:jI=>(.int .i64 (z_.code):Value)) ak) ?_
 refine Y.eq .g2 (congrArg (fun z_:jI=>(.int .i64 (z_.code):Value)) ak) ?_
 refine Y.eq .g3 (congrArg (fun z_:jI=>(.slice ac (z_.list).length ad:Value)) ak) ?_
 refine Y.eq .g4 (congrArg (fun z_:jI=>(.int .i64 (z_.code):Value)) ak) ?_
 refine Y.eq .g5 (congrArg (fun z_:jI=>(.slice ac (z_.list).length ad:Value)) ak) ?_
 refine Y.aj .z (congrArg (fun z_:jI=>(aG aY (z_.list) [.slice ac (z_.list).length ad]:Asn)) ak) ?_
 rw [ap] at b8
 have hpn:¬(dB f L b).code=0:=b8
 refine Y.seq (Y.region (Y.mv rfl .g3 (Y.er (.s16 .g1) (Y.as rfl .z (Y.nt (Y.ret (Y.m ?_)))))))
 refine Y.j (aT rfl .z) (.c .g1 (.c .g1 .n)) ?_
 first |(rw [aHe hpn];exact⟨rfl,rfl⟩) |(rw [aCi hpc,hpc];exact⟨rfl,rfl⟩)
 have ap:hJ f.inodes b (((L.length:Int)+7) / 8)=(dB f L b):=rfl
 have ab:(hJ f.inodes b (((L.length:Int)+7) / 8))=(dB f L b):=ap
 refine Y.eq .z (congrArg (fun z_:jI=>(.bool (!decide (z_.code=0)):Value)) ab) ?_
 refine Y.eq .g1 (congrArg (fun z_:jI=>(.int .i64 (z_.code):Value)) ab) ?_
 refine Y.eq .g2 (congrArg (fun z_:jI=>(.int .i64 (z_.code):Value)) ab) ?_
 refine Y.eq .g3 (congrArg (fun z_:jI=>(.slice ac (z_.list).length ad:Value)) ab) ?_
 refine Y.eq .g4 (congrArg (fun z_:jI=>(.int .i64 (z_.code):Value)) ab) ?_
 refine Y.eq .g5 (congrArg (fun z_:jI=>(.slice ac (z_.list).length ad:Value)) ab) ?_
 refine Y.aj .z (congrArg (fun z_:jI=>(aG aY (z_.list) [.slice ac (z_.list).length ad]:Asn)) ab) ?_
 rw [ap] at b8
 have hpc:(dB f L b).code=0:=b8
 have hpi:=vD hpc
 have hpl:((dB f L b).list.length:Int)=((L.length:Int)+7) / 8:=hpi.2
 refine Y.skip (Y.g (Y.seq (Y.region (Y.mv rfl (.s16 .g1) (Y.mv rfl (.s16 .g3) ?_)))))
 refine Y.cl rfl rfl Tryz.func120 rfl rfl (aR (.t .g1) (.t .z)) (.c .g1 (.c .g1 .n)) (fun _ _ hs tr=>aI9 (f:=f) (tr.ctxP h0) _ hs (by first | assumption |(constructor <;> omega)) (by assumption) (by assumption)) ?_
 rintro _ _ ⟨rfl,rfl⟩
 refine Y.r (.c (.c .n)) ?_
 refine Y.af (x':=f.inodes) .z rfl ?_
 refine Y.af (x':=fW f a) .g1 rfl ?_
 refine Y.nt (Y.seq (Y.seq (Y.region (Y.mv rfl .g5 (Y.ql rfl (bE rfl dN (.t .z)) (Y.ql rfl (aS rfl .c) (Y.nil ?_)))))))
 refine Y.g (Y.block ?_)
 refine Y.af (x':=oC (fW f a) (dB f L b).list L 0) .z rfl ?_
 refine Y.ah (γ:=Nat) (fun k=> [(35,.int .i64 (k:Int)),(34,.int .i64 (((dB f L b).list).length:Int)),(33,.slice ac ((dB f L b).list).length ad),(9,.slice ac ((dB f L b).list).length ad),(8,.int .i64 0),(0,.pointer (some au)),(1,.int .i64 a),(2,.slice A2 L.length c2)]) (fun k=> [aG cV (oC (fW f a) (dB f L b).list L k) [.slice bg f.data.length bh],aG aW f.inodes [.slice bc f.inodes.length ax],aG aY ((dB f L b).list) [.slice ac ((dB f L b).list).length ad]]) (fun k=>k≤(dB f L b).list.length) (fun k=>(dB f L b).list.length - k) 0 (Nat.zero_le _) (.c .z (.c .g1 (.c .g2 (.c .g8 (.c (.s16 .g6) (.c (.s16 .g7) (.c (.s16 .g8) (.c (.s16 .g9) .n)))))))) (fun _ h=>h.sel (.c .z (.c .z (.c .z .n)))) ?_
 rintro k hk
 have hsl:=(nV (data:=fW f a) (bs:=(dB f L b).list) (L:=L) k).trans (iH _)
 refine Y.seq (Y.region (Y.ql rfl (cU rfl (.t .z) (.t .g1)) (Y.nt (Y.seq ?_))))
 refine Y.u (.t .z) (fun bp=> ?_) (fun bp=> ?_)
 refine Y.skip (Y.g (Y.seq (Y.block (Y.seq (Y.region (Y.mv rfl .g1 ?_))))))
 refine Y.i (WS.h .g2 (by omega)) ?_
 rintro⟨bq,rfl⟩
 refine Y.ql rfl (aB (j:=k) rfl dN hP (.t .g4) (.t .g2) rfl (by first | omega |(rw [hdl];omega) |(rw [hsl];omega))) ?_
 obtain⟨a0,ae⟩:=aJ (xs:=(dB f L b).list) (j:=k) (by first | omega |(rw [hdl];omega) |(rw [hsl];omega))
 have a1:=hpi.1 _ (List.mem_of_getElem? ae)
 refine Y.ql rfl (aN rfl bR (.t .z) (WS.m .g2 ae)) (Y.as rfl .g2 (Y.as rfl .g1 (Y.nt (Y.seq (Y.region (Y.mv rfl .g1 ?_))))))
 refine Y.ql rfl (bG (c:=((k+1:Nat):Int)) rfl (.t .z) .c (wr (by omega) (by omega) (by omega))) ?_
 refine Y.ql rfl (pF (c:=(((k+1) * 8:Nat):Int)) rfl (.t .z) .c (wr (by omega) (by omega) (by omega))) ?_
 refine Y.mv rfl .g16 (Y.ql rfl (bE rfl fO (.t .z)) ?_)
 have br:=jC (((k+1) * 8:Nat):Int) (L.length:Int)
 refine Y.ql rfl (aI5 rfl (.t .g2) (.t .z)) (Y.as rfl .z (Y.nt ?_))
 refine Y.dr .g2 12 gB ?_
 refine Y.sc (qs 0 10++ [(10,false),(11,true),(12,false)]) (by kernel_rfl) ?_
 refine Y.dm rfl rfl .g2 (.s16 .g2) (Y.dn rfl rfl .g2 .z (Y.df rfl rfl .g2 .z fV (Y.de rfl rfl .g2 kN .z av aw (Y.dm rfl rfl .g2 .g11 (Y.dm rfl rfl .g2 (.s16 .g9) (Y.dm rfl rfl .g2 .g14 ?_))))))
 refine Y.dk rfl rfl .g2 (pF (c:=((k * 8:Nat):Int)) rfl (.t .z) .c (wr (by omega) (by omega) (by omega))) ?_
 refine Y.dm rfl rfl .g2 .g8 ?_
 refine Y.eq .z (congrArg (Value.int .i64) (show eM (((k+1) * 8:Nat):Int) (L.length:Int)=((Int.toNat (eM (((k+1) * 8:Nat):Int) (L.length:Int)):Nat):Int) by omega)) ?_
 obtain⟨bt,ah⟩:∃A':Option Addr,A'=(if c2=k * 8 then A2 else Option.map (fun z=>Addr.add z ((k * 8) * 1)) A2):=⟨_,rfl⟩
 have ay:=nD (a:=k * 8) (b:=Int.toNat (eM (((k+1) * 8:Nat):Int) (L.length:Int))) ah h2 (by omega) (by omega)
 have bu:=gR (xs:=L) (a:=k * 8) (b:=Int.toNat (eM (((k+1) * 8:Nat):Int) (L.length:Int))) (by omega)
 refine Y.dk rfl rfl .g2 (jT (a:=k * 8) (b:=Int.toNat (eM (((k+1) * 8:Nat):Int) (L.length:Int))) rfl fO wF (.t .g3) ah (.inr ⟨_,_,rfl,(.t .g1)⟩) (.inr ⟨_,_,rfl,(.t .z)⟩) (by omega) (by omega) (by omega)) ?_
 refine Y.call (aC rfl rfl) rfl (by decide) rfl (bF rfl Tryz.func89 rfl rfl (bH (.t .z))) .n (fun _ _ hs tr=>aJr (tr.ctx ay)) ?_
 rintro _ _ rfl
 refine Y.r (.c .n) ?_
 refine Y.i (WS.a .z) ?_
 rintro⟨bv,bw,rfl,a2,a3,a4⟩
 refine Y.sk .g3 ?_
 refine Y.i (WS.h .g1 (by omega)) ?_
 rintro⟨bx,rfl⟩
 refine Y.dk rfl rfl .g3 (aB (j:=Int.toNat a0) rfl lE kL (.t .g7) (.t .g6) (by omega) (by first | omega |(rw [hdl];omega) |(rw [hsl];omega))) ?_
 refine Y.es (aC rfl rfl) rfl (mE (j:=Int.toNat a0) rfl kL (.t .z) (.t .g1) rfl (.c .g1 (.c .z .n)) (by first | omega |(rw [hdl];omega) |(rw [hsl];omega))) ?_
 refine Y.af .z (by first | exact uG ae | rw [xN,uG ae] | rw [yT,uG ae]) ?_
 refine Y.sl rfl ?_
 refine Y.aa ?_
 refine Y.ai (by kernel_rfl) ?_
 refine Y.y (Y.g (Y.region ?_))
 refine Y.ql rfl (bG (c:=((k+1:Nat):Int)) rfl (.t (.s16 .g9)) .c (wr (by omega) (by omega) (by omega))) ?_
 refine Y.er (.s16 .g10) (Y.mv rfl .z (Y.nil ?_))
 refine Y.ae (k+1) (by omega) (by first | omega |(dsimp only;omega)) (.c .z (.c (.s16 .g11) (.c (.s16 .g12) (.c (.s16 .g13) (.c (.s16 .g14) (.c (.s16 .g15) (.c (.s16 .g16) (.c (.s16 (.s16 .g1)) .n)))))))) (fun _ h=>h.sel (.c .z (.c .z (.c .z .n))))
 refine Y.exit (Y.w (Y.w (Y.ag (Y.g (Y.seq (Y.region (Y.mv rfl .g6 (Y.nc rfl .z ?_))))))))
 refine Y.fa rfl .z aP (Y.le rfl bO .z av aw (Y.mv rfl .g11 ?_))
 refine Y.ab (.c .g1 .n) fN ?_
 rintro al af
 obtain⟨aa,ag⟩:=aJ (xs:=f.inodes) (j:=Int.toNat a) (by first | omega |(rw [hdl];omega) |(rw [hsl];omega))
 obtain⟨cb,am⟩:=aJ (xs:=al) (j:=Int.toNat a) (by rw [af];exact(List.getElem?_eq_some_iff.1 ag).1)
 refine Y.aq .g1 (eD ag am) ?_
 refine Y.ab (.c .z .n) eZ ?_
 rintro⟨cc,cd⟩ rfl
 refine Y.i (WS.a .z) ?_
 rintro⟨bz,b0,rfl,a5,a6,a7⟩
 refine Y.i (WS.a .g1) ?_
 rintro⟨an,ao,rfl,a8,a9,ba⟩
 have aq:=lO (a:=a) ag (by omega)
 have bb:∀b,b∈aa.blocks→0≤b∧b≤19:=by rw [←aq];exact hB
 refine Y.i (WS.h .g4 (by omega)) ?_
 rintro⟨ar,rfl⟩
 refine Y.ql rfl (aB (j:=Int.toNat a) rfl cI aU (.t .g1) (.t .z) (by omega) (by first | omega |(rw [hdl];omega) |(rw [hsl];omega))) ?_
 refine Y.as rfl .z (Y.nt (Y.seq (Y.region (Y.mv rfl .z (Y.mv rfl .g1 (Y.mv rfl .g13 (Y.mv rfl (.s16 .g2) ?_)))))))
 refine Y.cl rfl rfl Tryz.func88 rfl rfl (bH (.t .z)) .n (fun _ _ hs tr=>aHy (tr.ctx h2)) ?_
 rintro _ _ ⟨rfl,rfl⟩
 refine Y.r .n ?_
 refine Y.nc rfl .g4 (Y.fa rfl .z cS ?_)
 refine Y.es (aE rfl) rfl (jZ (j:=Int.toNat a) (off:=3) (cs:= [.slice ac ((dB f L b).list).length ad]) rfl yM (.t .z) (iK _ _ _) (.t .g4) rfl (nJ rfl) .g4 am (Nat.le_of_ble_eq_true rfl)) ?_
 refine Y.af (x':=List.set al (Int.toNat a) [.int .i64 aa.kind,.int .i64 aa.links,.int .i64 aa.size,.slice ac ((dB f L b).list).length ad,.slice an aa.ents.length ao]) .z rfl ?_
 refine Y.nc rfl .g5 (Y.fa rfl .z gH ?_)
 refine Y.es (aE rfl) rfl (jZ (j:=Int.toNat a) (off:=2) (cs:= [.int .i64 (L.length:Int)]) rfl hP (.t .z) (iK _ _ _) (.t .g4) rfl (nJ rfl) .z (rX am) (Nat.le_of_ble_eq_true rfl)) ?_
 refine Y.af (x':=List.set al (Int.toNat a) [.int .i64 aa.kind,.int .i64 aa.links,.int .i64 (L.length:Int),.slice ac ((dB f L b).list).length ad,.slice an aa.ents.length ao]) .z (List.set_set ..) ?_
 refine Y.nt (Y.seq (Y.region (Y.er (.s16 .g5) (Y.ql rfl (aA rfl .c) (Y.nt (Y.ret ?_))))))
 refine Y.ac (c:=aG cA (⟨aa.kind,aa.links,(L.length:Int),(dB f L b).list,aa.ents⟩:aF) [.int .i64 aa.kind,.int .i64 aa.links,.int .i64 (L.length:Int),.slice ac ((dB f L b).list).length ad,.slice an aa.ents.length ao]) (.c .g6 (.c .g2 .n)) (fun w S h=>cP (⟨aa.kind,aa.links,(L.length:Int),(dB f L b).list,aa.ents⟩:aF) h) ?_
 refine Y.ac (c:=aG aW (List.set f.inodes (Int.toNat a) (⟨aa.kind,aa.links,(L.length:Int),(dB f L b).list,aa.ents⟩:aF)) [.slice (some ar) f.inodes.length ax]) (.c .g1 (.c .z (.c .g1 (.c .g1 .n)))) (eU (K:=cA) af (List.getElem?_eq_some_iff.1 ag).1 rfl) ?_
 have az:List.set f.inodes (Int.toNat a) (⟨aa.kind,aa.links,(L.length:Int),(dB f L b).list,aa.ents⟩:aF)=pG f.inodes a (L.length:Int) (dB f L b).list:=(aBi ag (by omega))
 refine Y.aj .z (congrArg (fun z_=>(aG aW (z_) [.slice (some ar) f.inodes.length ax]:Asn)) az) ?_
 refine Y.af (x':=oC (fW f a) (dB f L b).list L (dB f L b).list.length) .g2 (by rw [show k=(dB f L b).list.length by omega]) ?_
 refine Y.j (aT rfl .z) (.c .g1 (.c .z .n)) ?_
 first |(rw [aHe hpn];exact⟨rfl,rfl⟩) |(rw [aCi hpc,hpc];exact⟨rfl,rfl⟩)

theorem aMp {w0:World}{S0:Bs}{f:DFs}{bb:List Value} (h0:eS.ro w0 (FF w0 S0) f bb) (a:Int) {L:(List UInt8)}{v2:Value} (h2:bX.ro w0 (FF w0 S0) L [v2]) {b:(List Int)}{v3:Value} (h3:aY.ro w0 (FF w0 S0) b [v3]) (ht:bK f=0) (hp:bY f.inodes.length a) (hbz:gN b=0):
    Calls Tryz.prog 69 #[.agg bb.toArray,.int .i64 a,v2,v3] w0 (aI w0 S0 (wE (pN f a L b))):=by
 obtain⟨cg,ch,rfl,ah,ay⟩:=cQ h0
 obtain⟨ai,aj,rfl,bc,bd,be,bf⟩:=aD ah
 obtain⟨ak,al,rfl,bg,bh,bi,bj⟩:=aD ay
 obtain⟨A2,c2,rfl,cx,cy,cz,c0⟩:=aD h2
 obtain⟨A3,c3,rfl,c1,c4,c5,c6⟩:=aD h3
 have hI:=kC ht
 have hd:=kD ht
 obtain⟨hp1a,hp2a⟩:=hp
 have hB:=kO hI a
 have hpk:sE f.inodes b (((L.length:Int)+7) / 8)=dB f L b:=iS (aK5 hI hbz)
 refine Y.enter (N:=104) Tryz.func69 rfl rfl (by simp) [(0,.agg #[.slice ai f.inodes.length aj,.slice ak f.data.length al]),(1,.int .i64 a),(2,.slice A2 L.length c2),(3,.slice A3 b.length c3)] (by simp) (l0:= []) trivial ?_
 refine Y.seq (Y.region ?_)
 refine Y.el rfl (fR (cs:= [.slice ai f.inodes.length aj,.slice ak f.data.length al]) (n:=2) rfl (.t .z) rfl rfl) ?_
 rintro _ _ ⟨g5,rfl,rfl⟩
 refine Y.el rfl (bD rfl vZ rfl rfl) ?_
 rintro _ _ ⟨g6,rfl,rfl⟩
 refine Y.nt (Y.seq (Y.seq (Y.region (Y.mv rfl .g4 (Y.ql rfl (bE rfl fO (.t .z)) ?_)))))
 refine Y.cl rfl rfl Tryz.func71 rfl rfl (bH (.t .z)) .n (fun _ _ hs tr=>aJn _) ?_
 rintro _ _ ⟨rfl,rfl⟩
 refine Y.r .n ?_
 refine Y.ql rfl (eY rfl (.t .z)) (Y.nt ?_)
 refine Y.ad (.t .z) (fun b7=> ?_) (fun b7=> ?_)
 refine Y.seq (Y.region (Y.ql rfl (aZ (cs:= [.int .i64 2,.slice none 0 0,.slice none 0 0]) rfl mZ (pv1 .c) rfl) ?_))
 refine Y.es (aE rfl) rfl (esW rfl (.t .g5) (.t .z) .z fH rfl rfl) ?_
 refine Y.nt (Y.ret (Y.m ?_))
 refine Y.add (c:=aG aW [] [.slice none 0 0]) (fun w S=>aK w S none) ?_
 refine Y.add (c:=aG cV [] [.slice none 0 0]) (fun w S=>aK w S none) ?_
 refine Y.j (dA rfl .g5 lN .g2 fH) (.c .g1 (.c .z .n)) ?_
 first |(rw [qZ (by omega)];exact⟨_,_,rfl,rfl⟩) |(rw [tT (by omega) hpn];exact⟨_,_,rfl,rfl⟩) |(rw [uA (by omega) hpc];exact⟨_,_,rfl,rfl⟩)
 refine Y.skip (Y.g ?_)
 refine Y.az (γ:=Nat×(Option Addr)×Nat) (fun⟨gp,Ap,cp⟩=> [(8,.pointer (some ⟨g6,0,none⟩)),(4,.pointer (some ⟨g5,0,none⟩)),(1,.int .i64 a),(2,.slice A2 L.length c2),(9,.pointer (some ⟨gp,0,none⟩))]) (fun⟨gp,Ap,cp⟩=> [bZ gp 38 2 1 [.int .i64 ((sE f.inodes b (((L.length:Int)+7) / 8)).code),.slice Ap ((sE f.inodes b (((L.length:Int)+7) / 8)).list).length cp],aG aY ((sE f.inodes b (((L.length:Int)+7) / 8)).list) [.slice Ap ((sE f.inodes b (((L.length:Int)+7) / 8)).list).length cp],bZ g6 48 3 1 [.int .i64 0,.slice none 0 0,.slice none 0 0],bZ g5 27 2 1 [.slice ai f.inodes.length aj,.slice ak f.data.length al]]) (fun⟨gp,Ap,cp⟩=>True) ?_ ?_
 refine Y.dr .z 8 gB ?_
 refine Y.sc (qs 0 5) (by kernel_rfl) ?_
 refine Y.df rfl rfl .z .g5 aP (Y.dl rfl rfl .z bO .z .g1 (Y.dm rfl rfl .z .g11 (Y.dm rfl rfl .z .g11 (Y.dk rfl rfl .z (bE rfl fO (.t .z)) (Y.aa ?_)))))
 refine Y.av (i:=5) (j:=7) (by kernel_rfl) ?_ ?_
 refine Y.call (aC rfl rfl) rfl (by decide) rfl (bF rfl Tryz.func117 rfl rfl (bH (.t .z))) .n (fun _ _ hs tr=>aEi _ (by omega) (by omega)) ?_
 rintro _ _ ⟨rfl,rfl⟩
 refine Y.r .n ?_
 refine Y.sk .z ?_
 refine Y.aa ?_
 refine Y.sc [] (by kernel_rfl) ?_
 refine Y.aa ?_
 refine Y.av (i:=6) (j:=7) (by kernel_rfl) ?_ ?_
 refine Y.call (aC rfl rfl) rfl (by decide) rfl (bF rfl Tryz.func116 rfl rfl (eQ (.t .g4) (.t .g3) (.t .z))) .n (fun _ _ hs tr=>aG0 (tr.ctx ah) (tr.ctx h3) _) ?_
 rintro _ _ ⟨c7,rfl,rfl⟩
 refine Y.r (.c .n) ?_
 refine Y.i (WS.a .z) ?_
 rintro⟨a3,a4,rfl,bk,bm,bn⟩
 refine Y.sk .g1 ?_
 refine Y.aa ?_
 refine Y.sc [(7,false),(8,false)] (by kernel_rfl) ?_
 refine Y.e (aC rfl rfl) rfl (by decide) rfl (bD rfl aH9 rfl rfl) ?_
 rintro _ _ ⟨g13,rfl,rfl⟩
 refine Y.sk .g2 ?_
 refine Y.es (aC rfl rfl) rfl (esW rfl (.t .z) (.t .g1) .z rG rfl rfl) ?_
 refine Y.sl rfl ?_
 refine Y.aa ?_
 refine Y.ai (by kernel_rfl) ?_
 exact Y.ar (g13,a3,a4) trivial (.c .g12 (.c .g13 (.c .g15 (.c .g16 (.c .z .n))))) (fun _ h=>h.sel (.c .z (.c .z (.c .z (.c .z .n)))))
 refine Y.e (aC rfl rfl) rfl (by decide) rfl (bD rfl aH9 rfl rfl) ?_
 rintro _ _ ⟨g14,rfl,rfl⟩
 refine Y.sk .g1 ?_
 refine Y.aa ?_
 refine Y.sc [(6,false),(8,false)] (by kernel_rfl) ?_
 refine Y.call (aC rfl rfl) rfl (by decide) rfl (bF rfl Tryz.func116 rfl rfl (eQ (.t .g5) (.t .g4) (.t .g1))) .n (fun _ _ hs tr=>aG0 (tr.ctx ah) (tr.ctx h3) _) ?_
 rintro _ _ ⟨c8,rfl,rfl⟩
 refine Y.r (.c .n) ?_
 refine Y.i (WS.a .z) ?_
 rintro⟨a5,a6,rfl,bo,bp,bq⟩
 refine Y.sk .g2 ?_
 refine Y.es (aC rfl rfl) rfl (esW rfl (.t .g1) (.t .z) .g1 rG rfl rfl) ?_
 refine Y.sl rfl ?_
 refine Y.aa ?_
 refine Y.ai (by kernel_rfl) ?_
 exact Y.ar (g14,a5,a6) trivial (.c .g12 (.c .g13 (.c .g15 (.c .g16 (.c .g1 .n))))) (fun _ h=>h.sel (.c .z (.c .z (.c .z (.c .z .n)))))
 refine Y.e (aC rfl rfl) rfl (by decide) rfl (bD rfl aH9 rfl rfl) ?_
 rintro _ _ ⟨g18,rfl,rfl⟩
 refine Y.sk .g1 ?_
 refine Y.aa ?_
 refine Y.sc [(5,false),(6,false),(8,false)] (by kernel_rfl) ?_
 refine Y.call (aC rfl rfl) rfl (by decide) rfl (bF rfl Tryz.func117 rfl rfl (bH (.t .g1))) .n (fun _ _ hs tr=>aEi _ (by omega) (by omega)) ?_
 rintro _ _ ⟨rfl,rfl⟩
 refine Y.r .n ?_
 refine Y.sk .g1 ?_
 refine Y.call (aC rfl rfl) rfl (by decide) rfl (bF rfl Tryz.func116 rfl rfl (eQ (.t .g5) (.t .g4) (.t .z))) .n (fun _ _ hs tr=>aG0 (tr.ctx ah) (tr.ctx h3) _) ?_
 rintro _ _ ⟨c9,rfl,rfl⟩
 refine Y.r (.c .n) ?_
 refine Y.i (WS.a .z) ?_
 rintro⟨a7,a8,rfl,br,bt,bu⟩
 refine Y.sk .g2 ?_
 refine Y.es (aC rfl rfl) rfl (esW rfl (.t .g2) (.t .z) .g1 rG rfl rfl) ?_
 refine Y.sl rfl ?_
 refine Y.aa ?_
 refine Y.ai (by kernel_rfl) ?_
 exact Y.ar (g18,a7,a8) trivial (.c .g12 (.c .g13 (.c .g15 (.c .g16 (.c .g2 .n))))) (fun _ h=>h.sel (.c .z (.c .z (.c .z (.c .z .n)))))
 rintro⟨gp,Ap,cp⟩ -
 refine Y.seq (Y.seq (Y.region (Y.fa rfl .g4 aDk (Y.ld rfl bR .z .z (Y.ql rfl (cC rfl (.t .z) .c) (Y.nt ?_))))))
 refine Y.ad (.t .z) (fun az=> ?_) (fun az=> ?_)
 rw [hpk] at az
 have ar:(sE f.inodes b (((L.length:Int)+7) / 8))=(dB f L b):=hpk
 refine Y.eq .z (congrArg (fun z_:jI=>(.bool (!decide (z_.code=0)):Value)) ar) ?_
 refine Y.eq .g1 (congrArg (fun z_:jI=>(.int .i64 (z_.code):Value)) ar) ?_
 refine Y.aj .z (congrArg (fun z_:jI=>(bZ gp 38 2 1 [.int .i64 (z_.code),.slice Ap (z_.list).length cp]:Asn)) ar) ?_
 refine Y.aj .g1 (congrArg (fun z_:jI=>(aG aY (z_.list) [.slice Ap (z_.list).length cp]:Asn)) ar) ?_
 have hpn:¬(dB f L b).code=0:=az
 refine Y.seq (Y.region (Y.fa rfl .g7 aDk (Y.ld rfl bR .z .g1 (Y.ql rfl (aZ (cs:= [.int .i64 ((dB f L b).code),.slice none 0 0,.slice none 0 0]) rfl mZ (pv1 (.t .z)) rfl) ?_))))
 refine Y.es (aE rfl) rfl (esW rfl (.t .g6) (.t .z) .g2 fH rfl rfl) ?_
 refine Y.nt (Y.ret (Y.m ?_))
 refine Y.add (c:=aG aW [] [.slice none 0 0]) (fun w S=>aK w S none) ?_
 refine Y.add (c:=aG cV [] [.slice none 0 0]) (fun w S=>aK w S none) ?_
 refine Y.j (dA rfl .g6 lN .g2 fH) (.c .g1 (.c .z .n)) ?_
 first |(rw [qZ (by omega)];exact⟨_,_,rfl,rfl⟩) |(rw [tT (by omega) hpn];exact⟨_,_,rfl,rfl⟩) |(rw [uA (by omega) hpc];exact⟨_,_,rfl,rfl⟩)
 rw [hpk] at az
 have au:(sE f.inodes b (((L.length:Int)+7) / 8))=(dB f L b):=hpk
 refine Y.eq .z (congrArg (fun z_:jI=>(.bool (!decide (z_.code=0)):Value)) au) ?_
 refine Y.eq .g1 (congrArg (fun z_:jI=>(.int .i64 (z_.code):Value)) au) ?_
 refine Y.aj .z (congrArg (fun z_:jI=>(bZ gp 38 2 1 [.int .i64 (z_.code),.slice Ap (z_.list).length cp]:Asn)) au) ?_
 refine Y.aj .g1 (congrArg (fun z_:jI=>(aG aY (z_.list) [.slice Ap (z_.list).length cp]:Asn)) au) ?_
 have hpc:(dB f L b).code=0:=az
 have hpi:=vD hpc
 have hpl:((dB f L b).list.length:Int)=((L.length:Int)+7) / 8:=hpi.2
 refine Y.skip (Y.g (Y.seq (Y.region (Y.ql rfl (qW rfl bN (.t .g4) .g3 aX) ?_))))
 refine Y.cl rfl rfl Tryz.func67 rfl rfl (bH (.t .z)) .n (fun _ _ hs tr=>uY (aM f (tr.ctx ah) (tr.ctx ay))) ?_
 rintro _ _ ⟨da,db,rfl,rfl⟩
 refine Y.r (.c (.c .n)) ?_
 refine Y.i (WS.a .z) ?_
 rintro⟨ci,ae,rfl,bv,bw,bx⟩
 refine Y.i (WS.a .g1) ?_
 rintro⟨am,an,rfl,bz,b0,b1⟩
 refine Y.el rfl (bD rfl mQ rfl rfl) ?_
 rintro _ _ ⟨g33,rfl,rfl⟩
 refine Y.es (aE rfl) rfl (esW rfl (.t .z) (.t .g1) .z aX rfl rfl) ?_
 refine Y.nt (Y.seq (Y.region (Y.fa rfl .z aP (Y.ld rfl bO .z .z (Y.mv rfl .g10 ?_)))))
 refine Y.ab (.c .g1 .n) fN ?_
 rintro ab ao
 obtain⟨aa,ap⟩:=aJ (xs:=f.inodes) (j:=Int.toNat a) (by first | omega |(rw [hdl];omega) |(rw [hsl];omega))
 obtain⟨dc,ad⟩:=aJ (xs:=ab) (j:=Int.toNat a) (by rw [ao];exact(List.getElem?_eq_some_iff.1 ap).1)
 refine Y.aq .g1 (eD ap ad) ?_
 refine Y.ab (.c .z .n) eZ ?_
 rintro⟨dd,dg⟩ rfl
 refine Y.i (WS.a .z) ?_
 rintro⟨a0,a1,rfl,b2,b3,b4⟩
 refine Y.i (WS.a .g1) ?_
 rintro⟨af,ag,rfl,b5,b6,b8⟩
 have av:=lO (a:=a) ap (by omega)
 have a2:∀b,b∈aa.blocks→0≤b∧b≤19:=by rw [←av];exact hB
 refine Y.i (WS.h .g4 (by omega)) ?_
 rintro⟨ac,rfl⟩
 refine Y.ql rfl (aB (j:=Int.toNat a) rfl cI aU (.t .g1) (.t .z) (by omega) (by first | omega |(rw [hdl];omega) |(rw [hsl];omega))) ?_
 refine Y.as rfl .z (Y.nt (Y.seq (Y.seq (Y.region (Y.ql rfl (aA rfl .c) (Y.nt ?_))))))
 refine Y.block ?_
 refine Y.af (x':=lQ f.data aa.blocks 0) .g6 rfl ?_
 refine Y.ah (γ:=Nat) (fun k=> [(12,.int .i64 (k:Int)),(11,.pointer (some (Addr.add ac ((Int.toNat a) * 5)))),(10,.pointer (some ⟨g33,0,none⟩)),(8,.pointer (some ⟨g6,0,none⟩)),(2,.slice A2 L.length c2),(9,.pointer (some ⟨gp,0,none⟩))]) (fun k=> [aG cV (lQ f.data aa.blocks k) [.slice am f.data.length an],aG aY aa.blocks [.slice a0 aa.blocks.length a1],aG dL aa.ents [.slice af aa.ents.length ag],mL cA (List.take (Int.toNat a) f.inodes) (List.take (Int.toNat a) ab),mL cA (List.drop (Int.toNat a+1) f.inodes) (List.drop (Int.toNat a+1) ab),aG (bQ 44 72 (mC cA.sz cA.pos)) ab [.slice (some ac) f.inodes.length ae],bZ g33 27 2 1 [.slice (some ac) f.inodes.length ae,.slice am f.data.length an],aG aY ((dB f L b).list) [.slice Ap ((dB f L b).list).length cp],bZ gp 38 2 1 [.int .i64 ((dB f L b).code),.slice Ap ((dB f L b).list).length cp],bZ g6 48 3 1 [.int .i64 0,.slice none 0 0,.slice none 0 0],bZ g5 27 2 1 [.slice ai f.inodes.length aj,.slice ak f.data.length al]]) (fun k=>k≤aa.blocks.length) (fun k=>aa.blocks.length - k) 0 (Nat.zero_le _) (.c .z (.c .g1 (.c .g6 (.c .g12 (.c .g15 (.c .g16 .n)))))) (fun _ h=>h.sel (.c .z (.c .z (.c .z (.c .z (.c .z (.c .z (.c .z (.c .z (.c .z (.c .z (.c .z .n)))))))))))) ?_
 rintro k hk
 have hdl:=iH (data:=f.data) (bs:=aa.blocks) k
 refine Y.seq (Y.seq (Y.region (Y.mv rfl .z (Y.mv rfl .g2 (Y.nc rfl .z (Y.fa rfl .z cS (Y.ql rfl (aN rfl eP (.t .z) (WS.j .g5 ad rfl)) (Y.ql rfl (bE rfl dN (.t .z)) ?_))))))))
 refine Y.ql rfl (cU rfl (.t .g5) (.t .z)) (Y.nt ?_)
 refine Y.u (.t .z) (fun cj=> ?_) (fun cj=> ?_)
 refine Y.skip (Y.g (Y.seq (Y.block ?_)))
 refine Y.dr .z 10 gB ?_
 refine Y.sc (qs 0 10++ [(10,false)]) (by kernel_rfl) ?_
 refine Y.df rfl rfl .z .g9 fV (Y.dl rfl rfl .z kN .z .g6 (Y.dm rfl rfl .z .g10 (Y.dn rfl rfl .z .z (Y.df rfl rfl .z .z cS (Y.dk rfl rfl .z (aN rfl eP (.t .z) (WS.j .g5 ad rfl)) (Y.dm rfl rfl .z .g13 ?_))))))
 refine Y.i (WS.h .g1 (by omega)) ?_
 rintro⟨ck,rfl⟩
 refine Y.dk rfl rfl .z (aB (j:=k) rfl dN hP (.t .g1) (.t .z) rfl (by first | omega |(rw [hdl];omega) |(rw [hsl];omega))) ?_
 obtain⟨b9,ax⟩:=aJ (xs:=aa.blocks) (j:=k) (by first | omega |(rw [hdl];omega) |(rw [hsl];omega))
 have ca:=a2 _ (List.mem_of_getElem? ax)
 refine Y.dk rfl rfl .z (aN rfl bR (.t .z) (WS.m .g1 ax)) ?_
 refine Y.i (WS.h .z (by omega)) ?_
 rintro⟨cm,rfl⟩
 refine Y.dk rfl rfl .z (aB (j:=Int.toNat b9) rfl lE kL (.t .g7) (.t .z) (by omega) (by first | omega |(rw [hdl];omega) |(rw [hsl];omega))) ?_
 refine Y.add (c:=aG bX [] [.slice none 0 0]) (fun w S=>aK w S none) ?_
 refine Y.es (aC rfl rfl) rfl (mE (j:=Int.toNat b9) rfl kL (.t .z) .c rfl (.c .g1 (.c .z .n)) (by first | omega |(rw [hdl];omega) |(rw [hsl];omega))) ?_
 refine Y.af .z (aAh ax) ?_
 refine Y.sl rfl ?_
 refine Y.aa ?_
 refine Y.ai (by kernel_rfl) ?_
 refine Y.y (Y.g (Y.region (Y.mv rfl (.s16 .g1) ?_)))
 refine Y.ql rfl (bG (c:=((k+1:Nat):Int)) rfl (.t .z) .c (wr (by omega) (by omega) (by omega))) ?_
 refine Y.er (.s16 .g3) (Y.as rfl .z (Y.nil ?_))
 refine Y.ae (k+1) (by omega) (by first | omega |(dsimp only;omega)) (.c .z (.c (.s16 .g4) (.c (.s16 .g5) (.c (.s16 .g6) (.c (.s16 .g7) (.c (.s16 .g8) .n)))))) (fun _ h=>h.sel (.c .z (.c .z (.c .z (.c .z (.c .z (.c .z (.c .z (.c .z (.c .z (.c .z (.c .z .n))))))))))))
 refine Y.exit (Y.w (Y.w (Y.ag (Y.g (Y.seq (Y.region (Y.mv rfl .g8 (Y.fa rfl .g13 aIa ?_))))))))
 refine Y.ld rfl eP .z .g8 (Y.nc rfl .g2 (Y.fa rfl .z cS ?_))
 refine Y.es (aE rfl) rfl (jZ (j:=Int.toNat a) (off:=3) (cs:= [.slice Ap ((dB f L b).list).length cp]) rfl yM (.t .z) (iK _ _ _) (.t .g2) rfl (nJ rfl) .g5 ad (Nat.le_of_ble_eq_true rfl)) ?_
 refine Y.af (x':=List.set ab (Int.toNat a) [.int .i64 aa.kind,.int .i64 aa.links,.int .i64 aa.size,.slice Ap ((dB f L b).list).length cp,.slice af aa.ents.length ag]) .z rfl ?_
 refine Y.nt (Y.seq (Y.region (Y.mv rfl .g13 (Y.mv rfl (.s16 .g1) (Y.ql rfl (bE rfl fO (.t .z)) (Y.nc rfl .g2 (Y.fa rfl .z gH ?_)))))))
 refine Y.es (aE rfl) rfl (jZ (j:=Int.toNat a) (off:=2) (cs:= [.int .i64 (L.length:Int)]) rfl hP (.t .z) (iK _ _ _) (.t .g2) rfl (nJ rfl) .z (rX ad) (Nat.le_of_ble_eq_true rfl)) ?_
 refine Y.af (x':=List.set ab (Int.toNat a) [.int .i64 aa.kind,.int .i64 aa.links,.int .i64 (L.length:Int),.slice Ap ((dB f L b).list).length cp,.slice af aa.ents.length ag]) .z (List.set_set ..) ?_
 refine Y.nt (Y.seq (Y.seq (Y.region (Y.ql rfl (aA rfl .c) (Y.nt (Y.block ?_))))))
 refine Y.af (x':=fW f a) .g1 (by unfold fW;rw [av,show k=aa.blocks.length by omega]) ?_
 refine Y.af (x':=oC (fW f a) (dB f L b).list L 0) .z rfl ?_
 refine Y.ah (γ:=Nat) (fun q=> [(13,.int .i64 (q:Int)),(11,.pointer (some (Addr.add ac ((Int.toNat a) * 5)))),(10,.pointer (some ⟨g33,0,none⟩)),(8,.pointer (some ⟨g6,0,none⟩)),(2,.slice A2 L.length c2)]) (fun q=> [aG cV (oC (fW f a) (dB f L b).list L q) [.slice am f.data.length an],aG (bQ 44 72 (mC cA.sz cA.pos)) (List.set ab (Int.toNat a) [.int .i64 aa.kind,.int .i64 aa.links,.int .i64 (L.length:Int),.slice Ap ((dB f L b).list).length cp,.slice af aa.ents.length ag]) [.slice (some ac) f.inodes.length ae],aG aY aa.blocks [.slice a0 aa.blocks.length a1],aG dL aa.ents [.slice af aa.ents.length ag],mL cA (List.take (Int.toNat a) f.inodes) (List.take (Int.toNat a) ab),mL cA (List.drop (Int.toNat a+1) f.inodes) (List.drop (Int.toNat a+1) ab),bZ g33 27 2 1 [.slice (some ac) f.inodes.length ae,.slice am f.data.length an],aG aY ((dB f L b).list) [.slice Ap ((dB f L b).list).length cp],bZ gp 38 2 1 [.int .i64 ((dB f L b).code),.slice Ap ((dB f L b).list).length cp],bZ g6 48 3 1 [.int .i64 0,.slice none 0 0,.slice none 0 0],bZ g5 27 2 1 [.slice ai f.inodes.length aj,.slice ak f.data.length al]]) (fun q=>q≤(dB f L b).list.length) (fun q=>(dB f L b).list.length - q) 0 (Nat.zero_le _) (.c .z (.c (.s16 .g3) (.c (.s16 .g4) (.c (.s16 .g5) (.c (.s16 .g6) .n))))) (fun _ h=>h.sel (.c .z (.c .z (.c .z (.c .z (.c .z (.c .z (.c .z (.c .z (.c .z (.c .z (.c .z .n)))))))))))) ?_
 rintro q hq
 have hsl:=(nV (data:=fW f a) (bs:=(dB f L b).list) (L:=L) q).trans (iH _)
 refine Y.seq (Y.seq (Y.region (Y.mv rfl .z (Y.mv rfl .g2 (Y.nc rfl .z (Y.fa rfl .z cS (Y.ql rfl (aN rfl eP (.t .z) (WS.j .g1 (rX ad) rfl)) (Y.ql rfl (bE rfl dN (.t .z)) ?_))))))))
 refine Y.ql rfl (cU rfl (.t .g5) (.t .z)) (Y.nt ?_)
 refine Y.u (.t .z) (fun cn=> ?_) (fun cn=> ?_)
 refine Y.skip (Y.g (Y.seq (Y.block (Y.seq (Y.region (Y.mv rfl .g8 (Y.nc rfl .z (Y.fa rfl .z gH ?_))))))))
 refine Y.ql rfl (aN rfl bR (.t .z) (WS.j .g1 (rX ad) rfl)) (Y.mv rfl .g11 ?_)
 refine Y.ql rfl (bG (c:=((q+1:Nat):Int)) rfl (.t .z) .c (wr (by omega) (by omega) (by omega))) ?_
 refine Y.ql rfl (pF (c:=(((q+1) * 8:Nat):Int)) rfl (.t .z) .c (wr (by omega) (by omega) (by omega))) ?_
 refine Y.cl rfl rfl Tryz.func47 rfl rfl (aR (.t .g3) (.t .z)) .n (fun _ _ hs tr=>aHi _ _) ?_
 rintro _ _ ⟨rfl,rfl⟩
 refine Y.r .n ?_
 have co:=jC (L.length:Int) (((q+1) * 8:Nat):Int)
 refine Y.as rfl .z (Y.nt ?_)
 refine Y.sel (.c .z (.c .g2 (.c .z (.c .z (.c .z (.c .z (.c .z (.c .z (.c .z (.c .z (.c .z .n))))))))))) ?_
 refine Y.dr .g2 17 gB ?_
 refine Y.sc (qs 0 9++qs 10 5++ [(9,false),(15,false),(16,true),(17,false)]) (by kernel_rfl) ?_
 refine Y.df rfl rfl .g2 (.s16 .g2) fV (Y.dl rfl rfl .g2 kN .z .g4 (Y.dm rfl rfl .g2 (.s16 .g3) (Y.dn rfl rfl .g2 .z (Y.df rfl rfl .g2 .z cS (Y.dk rfl rfl .g2 (aN rfl eP (.t .z) (WS.j .z (rX ad) rfl)) (Y.dm rfl rfl .g2 (.s16 .g6) ?_))))))
 refine Y.i (WS.h .g7 (by omega)) ?_
 rintro⟨cq,rfl⟩
 refine Y.dk rfl rfl .g2 (aB (j:=q) rfl dN hP (.t .g1) (.t .z) rfl (by first | omega |(rw [hdl];omega) |(rw [hsl];omega))) ?_
 obtain⟨cb,aq⟩:=aJ (xs:=(dB f L b).list) (j:=q) (by first | omega |(rw [hdl];omega) |(rw [hsl];omega))
 have cc:=hpi.1 _ (List.mem_of_getElem? aq)
 refine Y.dk rfl rfl .g2 (aN rfl bR (.t .z) (WS.m .g5 aq)) (Y.dm rfl rfl .g2 (.s16 .g13) (Y.dm rfl rfl .g2 (.s16 .g10) ?_))
 refine Y.dk rfl rfl .g2 (pF (c:=((q * 8:Nat):Int)) rfl (.t .z) .c (wr (by omega) (by omega) (by omega))) ?_
 refine Y.dm rfl rfl .g2 .g12 ?_
 refine Y.eq .z (congrArg (Value.int .i64) (show eM (L.length:Int) (((q+1) * 8:Nat):Int)=((Int.toNat (eM (L.length:Int) (((q+1) * 8:Nat):Int)):Nat):Int) by omega)) ?_
 obtain⟨cr,aw⟩:∃A':Option Addr,A'=(if c2=q * 8 then A2 else Option.map (fun z=>Addr.add z ((q * 8) * 1)) A2):=⟨_,rfl⟩
 have a9:=nD (a:=q * 8) (b:=Int.toNat (eM (L.length:Int) (((q+1) * 8:Nat):Int))) aw h2 (by omega) (by omega)
 have ct:=gR (xs:=L) (a:=q * 8) (b:=Int.toNat (eM (L.length:Int) (((q+1) * 8:Nat):Int))) (by omega)
 refine Y.dk rfl rfl .g2 (jT (a:=q * 8) (b:=Int.toNat (eM (L.length:Int) (((q+1) * 8:Nat):Int))) rfl fO wF (.t .g3) aw (.inr ⟨_,_,rfl,(.t .g1)⟩) (.inr ⟨_,_,rfl,(.t .z)⟩) (by omega) (by omega) (by omega)) ?_
 refine Y.e (aC rfl rfl) rfl (by decide) rfl (dW rfl fO (inz iM)) ?_
 rintro _ _ ⟨g56,rfl,rfl⟩
 refine Y.sk .g3 ?_
 refine Y.add (c:=aG bX ([]:(List UInt8)) [.slice (some ⟨g56,0,none⟩) 0 0]) (fun w S=>aK w S _) ?_
 refine Y.e (aC rfl rfl) rfl (by decide) rfl (dU (bI _ _ _) rfl fO iM rfl (.t .z) (.t .g1) (.c .z .n) (fun w1 S1 tr=>tr.ctx a9) (by first | omega |(simp only [List.length_append,List.length_take,List.length_nil,List.length_cons];omega)) (by first | omega |(simp only [List.length_append,List.length_take,List.length_nil,List.length_cons];omega))) ?_
 rintro _ _ rfl
 refine Y.af .z (List.nil_append _) ?_
 refine Y.i (WS.a .z) ?_
 rintro⟨cu,cv,rfl,cd,ce,cf⟩
 refine Y.sk .g4 ?_
 refine Y.i (WS.h .g2 (by omega)) ?_
 rintro⟨cw,rfl⟩
 refine Y.dk rfl rfl .g4 (aB (j:=Int.toNat cb) rfl lE kL (.t .g14) (.t .g7) (by omega) (by first | omega |(rw [hdl];omega) |(rw [hsl];omega))) ?_
 refine Y.es (aC rfl rfl) rfl (mE (j:=Int.toNat cb) rfl kL (.t .z) (.t .g1) rfl (.c .g2 (.c .z .n)) (by first | omega |(rw [hdl];omega) |(rw [hsl];omega))) ?_
 refine Y.af .z (by first | exact uG aq | rw [xN,uG aq] | rw [yT,uG aq]) ?_
 refine Y.sl rfl ?_
 refine Y.aa ?_
 refine Y.ai (by kernel_rfl) ?_
 refine Y.y (Y.g (Y.region (Y.mv rfl (.s16 (.s16 .g1)) ?_)))
 refine Y.ql rfl (bG (c:=((q+1:Nat):Int)) rfl (.t .z) .c (wr (by omega) (by omega) (by omega))) ?_
 refine Y.er (.s16 (.s16 .g3)) (Y.as rfl .z (Y.nil ?_))
 refine Y.ae (q+1) (by omega) (by first | omega |(dsimp only;omega)) (.c .z (.c (.s16 (.s16 .g4)) (.c (.s16 (.s16 .g5)) (.c (.s16 (.s16 .g6)) (.c (.s16 (.s16 .g7)) .n))))) (fun _ h=>h.sel (.c .z (.c .g2 (.c .g2 (.c .g1 (.c .g1 (.c .g1 (.c .g1 (.c .g1 (.c .g1 (.c .g1 (.c .g1 .n))))))))))))
 refine Y.exit (Y.w (Y.w (Y.ag (Y.g (Y.seq (Y.region (Y.ql rfl (qW rfl bN (.t .g9) .g6 aX) (Y.ql rfl (aZ (cs:= [.int .i64 0,.slice (some ac) f.inodes.length ae,.slice am f.data.length an]) rfl mZ (pv1 (.t .z)) rfl) ?_))))))))
 refine Y.es (aE rfl) rfl (esW rfl (.t .g12) (.t .z) .g9 fH rfl rfl) ?_
 refine Y.nt (Y.ret ?_)
 refine Y.ac (c:=aG cA (⟨aa.kind,aa.links,(L.length:Int),(dB f L b).list,aa.ents⟩:aF) [.int .i64 aa.kind,.int .i64 aa.links,.int .i64 (L.length:Int),.slice Ap ((dB f L b).list).length cp,.slice af aa.ents.length ag]) (.c .g8 (.c .g4 .n)) (fun w S h=>cP (⟨aa.kind,aa.links,(L.length:Int),(dB f L b).list,aa.ents⟩:aF) h) ?_
 refine Y.ac (c:=aG aW (List.set f.inodes (Int.toNat a) (⟨aa.kind,aa.links,(L.length:Int),(dB f L b).list,aa.ents⟩:aF)) [.slice (some ac) f.inodes.length ae]) (.c .g3 (.c .z (.c .g3 (.c .g3 .n)))) (eU (K:=cA) ao (List.getElem?_eq_some_iff.1 ap).1 rfl) ?_
 have ba:List.set f.inodes (Int.toNat a) (⟨aa.kind,aa.links,(L.length:Int),(dB f L b).list,aa.ents⟩:aF)=pG f.inodes a (L.length:Int) (dB f L b).list:=(aBi ap (by omega))
 refine Y.aj .z (congrArg (fun z_=>(aG aW (z_) [.slice (some ac) f.inodes.length ae]:Asn)) ba) ?_
 refine Y.af (x':=oC (fW f a) (dB f L b).list L (dB f L b).list.length) .g2 (by rw [show q=(dB f L b).list.length by omega]) ?_
 refine Y.j (dA rfl .g12 lN .g2 fH) (.c .g1 (.c .z .n)) ?_
 first |(rw [qZ (by omega)];exact⟨_,_,rfl,rfl⟩) |(rw [tT (by omega) hpn];exact⟨_,_,rfl,rfl⟩) |(rw [uA (by omega) hpc];exact⟨_,_,rfl,rfl⟩)

theorem aMh {w0:World}{S0:Bs}{x:(List UInt8)}{v0:Value} (n:Int) (hs:cJ [aG bX x [v0]] w0 S0) (hx:x.length≤32) (hn:n≤1100):
    Calls Tryz.prog 112 #[v0,.int .i64 n] w0 (aI w0 S0 (fun r l=>l= [aG bX (lC x n) [r]])):=by
 refine Y.enter (N:=13) Tryz.func112 rfl rfl (by simp) [(0,v0),(1,.int .i64 n)] (by simp) hs ?_
 refine Y.i (WS.a .z) ?_
 rintro⟨ad,ae,rfl,ag,ah,ai⟩
 refine Y.seq (Y.region (Y.ql rfl (aA rfl .c) (Y.nt (Y.seq (Y.block ?_)))))
 have af:x=x++List.replicate 0 0:=(aCz _)
 refine Y.af .z af ?_
 refine Y.aj .z (congrArg (fun z_:Nat=>(aG bX (x++List.replicate 0 0) [.slice ad z_ ae]:Asn)) (congrArg List.length af)) ?_
 refine Y.eq .g1 (congrArg (fun z_:Nat=>(.slice ad z_ ae:Value)) (congrArg List.length af)) ?_
 refine Y.ah (γ:=Nat×(Option Addr)×Nat) (fun⟨k,aa,ab⟩=> [(0,.slice aa (x++List.replicate k 0).length ab),(4,.slice none 0 0),(1,.int .i64 n)]) (fun⟨k,aa,ab⟩=> [aG bX (x++List.replicate k 0) [.slice aa (x++List.replicate k 0).length ab]]) (fun⟨k,aa,ab⟩=>k≤Int.toNat (n) - x.length) (fun⟨k,aa,ab⟩=>Int.toNat (n) - x.length - k) (0,ad,ae) (Nat.zero_le _) (.c .z (.c .g1 (.c .g2 .n))) (fun _ h=>h.sel (.c .z .n)) ?_
 rintro⟨k,aa,ab⟩ hk
 have hpl:=tB (L:=x) (k:=k)
 refine Y.seq (Y.seq (Y.region (Y.mv rfl .z ?_)))
 refine Y.cl rfl rfl Tryz.func88 rfl rfl (bH (.t .z)) .n (fun _ _ hs tr=>aHy (tr.own .z)) ?_
 rintro _ _ ⟨rfl,rfl⟩
 refine Y.r .n ?_
 refine Y.mv rfl .g4 (Y.ql rfl (cU rfl (.t .g1) (.t .z)) (Y.nt ?_))
 refine Y.u (.t .z) (fun b3=> ?_) (fun b3=> ?_)
 refine Y.skip (Y.g (Y.block (Y.region (Y.mv rfl .g4 ?_))))
 refine Y.el rfl (aO (cs:= [.int .u8 0]) rfl fO (inz iM) (by decide) (pv1 .c) rfl rfl (by decide) rfl rfl) ?_
 rintro _ _ ⟨g4,rfl,rfl⟩
 refine Y.add (c:=aG qB (0:UInt8) [.int .u8 0]) (fun _ _=>⟨rfl,trivial⟩) ?_
 refine Y.el rfl (dC rfl fO iM rfl (.t .g1) (.t .z) (.c .g2 (.c .g1 (.c .z .n))) (by first | omega |(simp <;> omega)) (by first | omega |(simp <;> omega))) ?_
 rintro _ _ rfl
 refine Y.af .z aCt ?_
 refine Y.i (WS.a .z) ?_
 rintro⟨aj,ak,rfl,al,am,an⟩
 refine Y.er .g7 (Y.as rfl .z (Y.nil (Y.y ?_)))
 refine Y.ae ((k+1),aj,ak) (by omega) (by first | omega |(dsimp only;omega)) (.c .z (.c .g8 (.c .g9 .n))) (fun _ h=>h.sel (.c .z .n))
 refine Y.exit (Y.w (Y.w (Y.ag (Y.g (Y.seq (Y.region (Y.mv rfl .g4 (Y.er .g6 ?_))))))))
 refine Y.as rfl .z (Y.nt (Y.ret ?_))
 have ac:x++List.replicate k 0=lC x n:=(wG (by omega) (by omega))
 refine Y.eq .z (congrArg (fun z_=>(.slice aa (z_).length ab:Value)) ac) ?_
 refine Y.eq .g1 (congrArg (fun z_=>(.slice aa (z_).length ab:Value)) ac) ?_
 refine Y.eq .g2 (congrArg (fun z_=>(.bool (decide (((z_).length:Int)<n)):Value)) ac) ?_
 refine Y.eq .g4 (congrArg (fun z_=>(.int .i64 ((z_).length:Int):Value)) ac) ?_
 refine Y.eq .g5 (congrArg (fun z_=>(.slice aa (z_).length ab:Value)) ac) ?_
 refine Y.eq .g6 (congrArg (fun z_=>(.slice aa (z_).length ab:Value)) ac) ?_
 refine Y.aj .z (congrArg (fun z_=>(aG bX (z_) [.slice aa (z_).length ab]:Asn)) ac) ?_
 refine Y.j (aT rfl .g5) (.c .z .n) ?_
 rfl

end Go.Proofs.YtmejbfmhaoilmaaGreat

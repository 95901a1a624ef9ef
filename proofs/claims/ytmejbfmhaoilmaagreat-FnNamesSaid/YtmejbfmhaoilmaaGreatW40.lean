/- What is proved: contracts of functions, one a function. No condition. -/
import Derived.Test.YtmejbfmhaoilmaaGreatBase1
import Derived.Test.YtmejbfmhaoilmaaGreatW32
import Derived.Test.YtmejbfmhaoilmaaGreatW11
namespace Go.Proofs.YtmejbfmhaoilmaaGreat
open Go Go.RowKit
set_option linter.unusedVariables false
set_option linter.unusedSimpArgs false
set_option maxHeartbeats 1000000
set_option maxRecDepth 20000
theorem aNk {w0:World}{S0:Bs}{f:DFs}{aa:Addr} (h0:gP eU w0 (FF w0 S0) aa f) (a:Int) {b:(List Int)}{v2:Value} (h2:bY.ro w0 (FF w0 S0) b [v2]):
    Calls Tryz.prog 66 #[.pointer (some aa),.int .i64 a,v2] w0 (aJ w0 S0 (fun r l=>r= .int .i64 (jU f a b)∧l= [])):=by
 obtain⟨au,av,al,aw⟩:=id h0
 obtain⟨am,an,rfl,ab,ac⟩:=cY al
 obtain⟨ao,ap,rfl,ad,ae,af,ag⟩:=aH ab
 obtain⟨aq,ar,rfl,ah,ai,aj,ak⟩:=aH ac
 obtain⟨A2,c2,rfl,ax,ay,az,a0⟩:=aH h2
 refine Y.enter (N:=16) Tryz.func66 rfl rfl (by simp) [(0,.pointer (some aa)),(1,.int .i64 a),(2,.slice A2 b.length c2)] (by simp) (l0:= []) trivial ?_
 refine Y.seq (Y.region (Y.ql rfl (aA rfl .c) (Y.nt (Y.seq (Y.seq (Y.region (Y.mv rfl .g1 ?_)))))))
 refine Y.mv rfl .g3 ?_
 refine Y.cl rfl rfl Tryz.func113 rfl rfl (aX (.t .g1) (.t .z)) .n (fun _ _ hs tr=>aMr (tr.ctxP h0) _) ?_
 rintro _ _ ⟨rfl,rfl⟩
 refine Y.m .n ?_
 refine Y.as rfl .z (Y.nt (Y.seq (Y.region (Y.mv rfl .z (Y.ql rfl (cU rfl (.t .z) .c) (Y.nt ?_))))))
 refine Y.ad (.t .z) (fun b4=> ?_) (fun b4=> ?_)
 refine Y.seq (Y.region (Y.mv rfl .g2 (Y.er .g7 (Y.as rfl .z (Y.nt (Y.ret (Y.r ?_)))))))
 refine Y.i (aY rfl .z) .n ?_
 exact⟨by first |(rw [aD3 (by assumption)];done) |(rw [aE4 (by assumption)];done),rfl⟩
 refine Y.skip (Y.g (Y.seq (Y.region (Y.mv rfl .g9 ?_))))
 refine Y.cl rfl rfl Tryz.func114 rfl rfl (bT (.t .z)) .n (fun _ _ hs tr=>aJ6 (tr.ctx h2)) ?_
 rintro _ _ ⟨rfl,rfl⟩
 refine Y.m .n ?_
 refine Y.er .g8 (Y.as rfl .z (Y.nt (Y.ret ?_)))
 refine Y.i (aY rfl .z) .n ?_
 exact⟨by first |(rw [aD3 (by assumption)];done) |(rw [aE4 (by assumption)];done),rfl⟩

theorem aLn {w0:World}{S0:Bs}{f:DFs}{aa:Value}{ab:Value} (c:Int) (hs:cB [aG aP f.inodes [aa],aG cG f.data [ab]] w0 S0):
    Calls Tryz.prog 65 #[.agg #[aa,ab],.int .i64 c] w0 (aJ w0 S0 (vY (fsR f c))):=by
 refine Y.enter (N:=11) Tryz.func65 rfl rfl (by simp) [(0,.agg #[aa,ab]),(1,.int .i64 c)] (by simp) hs ?_
 refine Y.h (WS.a .z) ?_
 rintro⟨ac,ad,rfl,ag,ah,ai⟩
 refine Y.h (WS.a .g1) ?_
 rintro⟨ae,af,rfl,aj,ak,al⟩
 refine Y.seq (Y.region ?_)
 refine Y.el rfl (fT (cs:= [.slice ac f.inodes.length ad,.slice ae f.data.length af]) (n:=2) rfl (.t .z) rfl rfl) ?_
 rintro _ _ ⟨g3,rfl,rfl⟩
 refine Y.el rfl (bL rfl xC rfl rfl) ?_
 rintro _ _ ⟨g4,rfl,rfl⟩
 refine Y.nt (Y.seq (Y.seq (Y.region (Y.mv rfl .g3 (Y.ql rfl (cU rfl (.t .z) .c) (Y.nt ?_))))))
 refine Y.ad (.t .z) (fun b5=> ?_) (fun b5=> ?_)
 refine Y.seq (Y.region (Y.mv rfl .g5 (Y.ql rfl (aZ (cs:= [.int .i64 c,.slice none 0 0,.slice none 0 0]) rfl kW (pv1 (.t .z)) rfl) ?_)))
 refine Y.es (aD rfl) rfl (esW rfl (.t .g4) (.t .z) .z fC rfl rfl) ?_
 refine Y.nt (Y.ret (Y.r ?_))
 refine Y.add (c:=aG aP [] [.slice none 0 0]) (fun w S=>aN w S none) ?_
 refine Y.add (c:=aG cG [] [.slice none 0 0]) (fun w S=>aN w S none) ?_
 refine Y.i (dD rfl .g4 kE .g2 fC) (.c .g1 (.c .z .n)) ?_
 first |(rw [aBx (by assumption)];exact⟨_,_,rfl,rfl⟩) |(rw [aBu (by omega)];exact⟨_,_,rfl,rfl⟩)
 refine Y.skip (Y.g (Y.seq (Y.region (Y.ql rfl (qW rfl bI (.t .g3) .g1 aW) (Y.ql rfl (aZ (cs:= [.int .i64 0,.slice ac f.inodes.length ad,.slice ae f.data.length af]) rfl kW (pv1 (.t .z)) rfl) ?_)))))
 refine Y.es (aD rfl) rfl (esW rfl (.t .g4) (.t .z) .z fC rfl rfl) ?_
 refine Y.nt (Y.ret ?_)
 refine Y.i (dD rfl .g4 kE .z fC) (.c .g2 (.c .g2 .n)) ?_
 first |(rw [aBx (by assumption)];exact⟨_,_,rfl,rfl⟩) |(rw [aBu (by omega)];exact⟨_,_,rfl,rfl⟩)

theorem aNf {w0:World}{S0:Bs}{f:DFs}{bb:List Value} (h0:eU.ro w0 (FF w0 S0) f bb) (a:Int) {L:(List UInt8)}{v2:Value} (h2:cX.ro w0 (FF w0 S0) L [v2]) {b:(List Int)}{v3:Value} (h3:bY.ro w0 (FF w0 S0) b [v3]) (ht:bX f=0) (hp:bR f.inodes.length a) (hbz:iV b=0):
    Calls Tryz.prog 69 #[.agg bb.toArray,.int .i64 a,v2,v3] w0 (aJ w0 S0 (vY (vC f a L b))):=by
 obtain⟨cg,ch,rfl,ah,ay⟩:=cY h0
 obtain⟨ai,aj,rfl,bc,bd,be,bf⟩:=aH ah
 obtain⟨ak,al,rfl,bg,bh,bi,bj⟩:=aH ay
 obtain⟨A2,c2,rfl,cx,cy,cz,c0⟩:=aH h2
 obtain⟨A3,c3,rfl,c1,c4,c5,c6⟩:=aH h3
 have hI:=iY ht
 have hd:=qN ht
 obtain⟨hp1a,hp2a⟩:=hp
 have hB:=sJ hI a
 have hpk:sV f.inodes b (((L.length:Int)+7) / 8)=fX f L b:=jA (aLv hI hbz)
 refine Y.enter (N:=104) Tryz.func69 rfl rfl (by simp) [(0,.agg #[.slice ai f.inodes.length aj,.slice ak f.data.length al]),(1,.int .i64 a),(2,.slice A2 L.length c2),(3,.slice A3 b.length c3)] (by simp) (l0:= []) trivial ?_
 refine Y.seq (Y.region ?_)
 refine Y.el rfl (fT (cs:= [.slice ai f.inodes.length aj,.slice ak f.data.length al]) (n:=2) rfl (.t .z) rfl rfl) ?_
 rintro _ _ ⟨g5,rfl,rfl⟩
 refine Y.el rfl (bL rfl xC rfl rfl) ?_
 rintro _ _ ⟨g6,rfl,rfl⟩
 refine Y.nt (Y.seq (Y.seq (Y.region (Y.mv rfl .g4 (Y.ql rfl (bM rfl gV (.t .z)) ?_)))))
 refine Y.cl rfl rfl Tryz.func71 rfl rfl (bT (.t .z)) .n (fun _ _ hs tr=>aK3 _) ?_
 rintro _ _ ⟨rfl,rfl⟩
 refine Y.m .n ?_
 refine Y.ql rfl (fN rfl (.t .z)) (Y.nt ?_)
 refine Y.ad (.t .z) (fun b7=> ?_) (fun b7=> ?_)
 refine Y.seq (Y.region (Y.ql rfl (aZ (cs:= [.int .i64 2,.slice none 0 0,.slice none 0 0]) rfl kW (pv1 .c) rfl) ?_))
 refine Y.es (aD rfl) rfl (esW rfl (.t .g5) (.t .z) .z fC rfl rfl) ?_
 refine Y.nt (Y.ret (Y.r ?_))
 refine Y.add (c:=aG aP [] [.slice none 0 0]) (fun w S=>aN w S none) ?_
 refine Y.add (c:=aG cG [] [.slice none 0 0]) (fun w S=>aN w S none) ?_
 refine Y.i (dD rfl .g5 kE .g2 fC) (.c .g1 (.c .z .n)) ?_
 first |(rw [aAz (by omega)];exact⟨_,_,rfl,rfl⟩) |(rw [aAk (by omega) hpn];exact⟨_,_,rfl,rfl⟩) |(rw [aA1 (by omega) hpc];exact⟨_,_,rfl,rfl⟩)
 refine Y.skip (Y.g ?_)
 refine Y.ay (γ:=Nat×(Option Addr)×Nat) (fun⟨gp,Ap,cp⟩=> [(8,.pointer (some ⟨g6,0,none⟩)),(4,.pointer (some ⟨g5,0,none⟩)),(1,.int .i64 a),(2,.slice A2 L.length c2),(9,.pointer (some ⟨gp,0,none⟩))]) (fun⟨gp,Ap,cp⟩=> [cM gp 38 2 1 [.int .i64 ((sV f.inodes b (((L.length:Int)+7) / 8)).code),.slice Ap ((sV f.inodes b (((L.length:Int)+7) / 8)).list).length cp],aG bY ((sV f.inodes b (((L.length:Int)+7) / 8)).list) [.slice Ap ((sV f.inodes b (((L.length:Int)+7) / 8)).list).length cp],cM g6 48 3 1 [.int .i64 0,.slice none 0 0,.slice none 0 0],cM g5 27 2 1 [.slice ai f.inodes.length aj,.slice ak f.data.length al]]) (fun⟨gp,Ap,cp⟩=>True) ?_ ?_
 refine Y.dr .z 8 gG ?_
 refine Y.sc (qs 0 5) (by kernel_rfl) ?_
 refine Y.df rfl rfl .z .g5 aO (Y.dl rfl rfl .z bK .z .g1 (Y.dm rfl rfl .z .g11 (Y.dm rfl rfl .z .g11 (Y.dk rfl rfl .z (bM rfl gV (.t .z)) (Y.aa ?_)))))
 refine Y.au (i:=5) (j:=7) (by kernel_rfl) ?_ ?_
 refine Y.call (aE rfl rfl) rfl (by decide) rfl (bS rfl Tryz.func117 rfl rfl (bT (.t .z))) .n (fun _ _ hs tr=>aD9 _ (by omega) (by omega)) ?_
 rintro _ _ ⟨rfl,rfl⟩
 refine Y.m .n ?_
 refine Y.sk .z ?_
 refine Y.aa ?_
 refine Y.sc [] (by kernel_rfl) ?_
 refine Y.aa ?_
 refine Y.au (i:=6) (j:=7) (by kernel_rfl) ?_ ?_
 refine Y.call (aE rfl rfl) rfl (by decide) rfl (bS rfl Tryz.func116 rfl rfl (dX (.t .g4) (.t .g3) (.t .z))) .n (fun _ _ hs tr=>aHn (tr.ctx ah) (tr.ctx h3) _) ?_
 rintro _ _ ⟨c7,rfl,rfl⟩
 refine Y.m (.c .n) ?_
 refine Y.h (WS.a .z) ?_
 rintro⟨a3,a4,rfl,bk,bm,bn⟩
 refine Y.sk .g1 ?_
 refine Y.aa ?_
 refine Y.sc [(7,false),(8,false)] (by kernel_rfl) ?_
 refine Y.e (aE rfl rfl) rfl (by decide) rfl (bL rfl aIz rfl rfl) ?_
 rintro _ _ ⟨g13,rfl,rfl⟩
 refine Y.sk .g2 ?_
 refine Y.es (aE rfl rfl) rfl (esW rfl (.t .z) (.t .g1) .z rQ rfl rfl) ?_
 refine Y.sl rfl ?_
 refine Y.aa ?_
 refine Y.ag (by kernel_rfl) ?_
 exact Y.aq (g13,a3,a4) trivial (.c .g12 (.c .g13 (.c .g15 (.c .g16 (.c .z .n))))) (fun _ h=>h.sel (.c .z (.c .z (.c .z (.c .z .n)))))
 refine Y.e (aE rfl rfl) rfl (by decide) rfl (bL rfl aIz rfl rfl) ?_
 rintro _ _ ⟨g14,rfl,rfl⟩
 refine Y.sk .g1 ?_
 refine Y.aa ?_
 refine Y.sc [(6,false),(8,false)] (by kernel_rfl) ?_
 refine Y.call (aE rfl rfl) rfl (by decide) rfl (bS rfl Tryz.func116 rfl rfl (dX (.t .g5) (.t .g4) (.t .g1))) .n (fun _ _ hs tr=>aHn (tr.ctx ah) (tr.ctx h3) _) ?_
 rintro _ _ ⟨c8,rfl,rfl⟩
 refine Y.m (.c .n) ?_
 refine Y.h (WS.a .z) ?_
 rintro⟨a5,a6,rfl,bo,bp,bq⟩
 refine Y.sk .g2 ?_
 refine Y.es (aE rfl rfl) rfl (esW rfl (.t .g1) (.t .z) .g1 rQ rfl rfl) ?_
 refine Y.sl rfl ?_
 refine Y.aa ?_
 refine Y.ag (by kernel_rfl) ?_
 exact Y.aq (g14,a5,a6) trivial (.c .g12 (.c .g13 (.c .g15 (.c .g16 (.c .g1 .n))))) (fun _ h=>h.sel (.c .z (.c .z (.c .z (.c .z .n)))))
 refine Y.e (aE rfl rfl) rfl (by decide) rfl (bL rfl aIz rfl rfl) ?_
 rintro _ _ ⟨g18,rfl,rfl⟩
 refine Y.sk .g1 ?_
 refine Y.aa ?_
 refine Y.sc [(5,false),(6,false),(8,false)] (by kernel_rfl) ?_
 refine Y.call (aE rfl rfl) rfl (by decide) rfl (bS rfl Tryz.func117 rfl rfl (bT (.t .g1))) .n (fun _ _ hs tr=>aD9 _ (by omega) (by omega)) ?_
 rintro _ _ ⟨rfl,rfl⟩
 refine Y.m .n ?_
 refine Y.sk .g1 ?_
 refine Y.call (aE rfl rfl) rfl (by decide) rfl (bS rfl Tryz.func116 rfl rfl (dX (.t .g5) (.t .g4) (.t .z))) .n (fun _ _ hs tr=>aHn (tr.ctx ah) (tr.ctx h3) _) ?_
 rintro _ _ ⟨c9,rfl,rfl⟩
 refine Y.m (.c .n) ?_
 refine Y.h (WS.a .z) ?_
 rintro⟨a7,a8,rfl,br,bt,bu⟩
 refine Y.sk .g2 ?_
 refine Y.es (aE rfl rfl) rfl (esW rfl (.t .g2) (.t .z) .g1 rQ rfl rfl) ?_
 refine Y.sl rfl ?_
 refine Y.aa ?_
 refine Y.ag (by kernel_rfl) ?_
 exact Y.aq (g18,a7,a8) trivial (.c .g12 (.c .g13 (.c .g15 (.c .g16 (.c .g2 .n))))) (fun _ h=>h.sel (.c .z (.c .z (.c .z (.c .z .n)))))
 rintro⟨gp,Ap,cp⟩ -
 refine Y.seq (Y.seq (Y.region (Y.fa rfl .g4 aEe (Y.ld rfl cF .z .z (Y.ql rfl (cU rfl (.t .z) .c) (Y.nt ?_))))))
 refine Y.ad (.t .z) (fun az=> ?_) (fun az=> ?_)
 rw [hpk] at az
 have ar:(sV f.inodes b (((L.length:Int)+7) / 8))=(fX f L b):=hpk
 refine Y.eq .z (congrArg (fun z_:qQ=>(.bool (!decide (z_.code=0)):Value)) ar) ?_
 refine Y.eq .g1 (congrArg (fun z_:qQ=>(.int .i64 (z_.code):Value)) ar) ?_
 refine Y.ak .z (congrArg (fun z_:qQ=>(cM gp 38 2 1 [.int .i64 (z_.code),.slice Ap (z_.list).length cp]:Asn)) ar) ?_
 refine Y.ak .g1 (congrArg (fun z_:qQ=>(aG bY (z_.list) [.slice Ap (z_.list).length cp]:Asn)) ar) ?_
 have hpn:¬(fX f L b).code=0:=az
 refine Y.seq (Y.region (Y.fa rfl .g7 aEe (Y.ld rfl cF .z .g1 (Y.ql rfl (aZ (cs:= [.int .i64 ((fX f L b).code),.slice none 0 0,.slice none 0 0]) rfl kW (pv1 (.t .z)) rfl) ?_))))
 refine Y.es (aD rfl) rfl (esW rfl (.t .g6) (.t .z) .g2 fC rfl rfl) ?_
 refine Y.nt (Y.ret (Y.r ?_))
 refine Y.add (c:=aG aP [] [.slice none 0 0]) (fun w S=>aN w S none) ?_
 refine Y.add (c:=aG cG [] [.slice none 0 0]) (fun w S=>aN w S none) ?_
 refine Y.i (dD rfl .g6 kE .g2 fC) (.c .g1 (.c .z .n)) ?_
 first |(rw [aAz (by omega)];exact⟨_,_,rfl,rfl⟩) |(rw [aAk (by omega) hpn];exact⟨_,_,rfl,rfl⟩) |(rw [aA1 (by omega) hpc];exact⟨_,_,rfl,rfl⟩)
 rw [hpk] at az
 have au:(sV f.inodes b (((L.length:Int)+7) / 8))=(fX f L b):=hpk
 refine Y.eq .z (congrArg (fun z_:qQ=>(.bool (!decide (z_.code=0)):Value)) au) ?_
 refine Y.eq .g1 (congrArg (fun z_:qQ=>(.int .i64 (z_.code):Value)) au) ?_
 refine Y.ak .z (congrArg (fun z_:qQ=>(cM gp 38 2 1 [.int .i64 (z_.code),.slice Ap (z_.list).length cp]:Asn)) au) ?_
 refine Y.ak .g1 (congrArg (fun z_:qQ=>(aG bY (z_.list) [.slice Ap (z_.list).length cp]:Asn)) au) ?_
 have hpc:(fX f L b).code=0:=az
 have hpi:=aEr hpc
 have hpl:((fX f L b).list.length:Int)=((L.length:Int)+7) / 8:=hpi.2
 refine Y.skip (Y.g (Y.seq (Y.region (Y.ql rfl (qW rfl bI (.t .g4) .g3 aW) ?_))))
 refine Y.cl rfl rfl Tryz.func67 rfl rfl (bT (.t .z)) .n (fun _ _ hs tr=>vJ (aM f (tr.ctx ah) (tr.ctx ay))) ?_
 rintro _ _ ⟨da,db,rfl,rfl⟩
 refine Y.m (.c (.c .n)) ?_
 refine Y.h (WS.a .z) ?_
 rintro⟨ci,ae,rfl,bv,bw,bx⟩
 refine Y.h (WS.a .g1) ?_
 rintro⟨am,an,rfl,bz,b0,b1⟩
 refine Y.el rfl (bL rfl nF rfl rfl) ?_
 rintro _ _ ⟨g33,rfl,rfl⟩
 refine Y.es (aD rfl) rfl (esW rfl (.t .z) (.t .g1) .z aW rfl rfl) ?_
 refine Y.nt (Y.seq (Y.region (Y.fa rfl .z aO (Y.ld rfl bK .z .z (Y.mv rfl .g10 ?_)))))
 refine Y.w (.c .g1 .n) eC ?_
 rintro ab ao
 obtain⟨aa,ap⟩:=aI (xs:=f.inodes) (j:=Int.toNat a) (by first | omega |(rw [hdl];omega) |(rw [hsl];omega))
 obtain⟨dc,ad⟩:=aI (xs:=ab) (j:=Int.toNat a) (by rw [ao];exact(List.getElem?_eq_some_iff.1 ap).1)
 refine Y.an .g1 (cW ap ad) ?_
 refine Y.w (.c .z .n) dR ?_
 rintro⟨dd,dg⟩ rfl
 refine Y.h (WS.a .z) ?_
 rintro⟨a0,a1,rfl,b2,b3,b4⟩
 refine Y.h (WS.a .g1) ?_
 rintro⟨af,ag,rfl,b5,b6,b8⟩
 have av:=sC (a:=a) ap (by omega)
 have a2:∀b,b∈aa.blocks→0≤b∧b≤19:=by rw [←av];exact hB
 refine Y.h (WS.i .g4 (by omega)) ?_
 rintro⟨ac,rfl⟩
 refine Y.ql rfl (aC (j:=Int.toNat a) rfl cE aU (.t .g1) (.t .z) (by omega) (by first | omega |(rw [hdl];omega) |(rw [hsl];omega))) ?_
 refine Y.as rfl .z (Y.nt (Y.seq (Y.seq (Y.region (Y.ql rfl (aA rfl .c) (Y.nt ?_))))))
 refine Y.block ?_
 refine Y.af (x':=oU f.data aa.blocks 0) .g6 rfl ?_
 refine Y.aj (γ:=Nat) (fun k=> [(12,.int .i64 (k:Int)),(11,.pointer (some (Addr.add ac ((Int.toNat a) * 5)))),(10,.pointer (some ⟨g33,0,none⟩)),(8,.pointer (some ⟨g6,0,none⟩)),(2,.slice A2 L.length c2),(9,.pointer (some ⟨gp,0,none⟩))]) (fun k=> [aG cG (oU f.data aa.blocks k) [.slice am f.data.length an],aG bY aa.blocks [.slice a0 aa.blocks.length a1],aG cP aa.ents [.slice af aa.ents.length ag],lX bD (List.take (Int.toNat a) f.inodes) (List.take (Int.toNat a) ab),lX bD (List.drop (Int.toNat a+1) f.inodes) (List.drop (Int.toNat a+1) ab),aG (bA 44 72 (mM bD.sz bD.pos)) ab [.slice (some ac) f.inodes.length ae],cM g33 27 2 1 [.slice (some ac) f.inodes.length ae,.slice am f.data.length an],aG bY ((fX f L b).list) [.slice Ap ((fX f L b).list).length cp],cM gp 38 2 1 [.int .i64 ((fX f L b).code),.slice Ap ((fX f L b).list).length cp],cM g6 48 3 1 [.int .i64 0,.slice none 0 0,.slice none 0 0],cM g5 27 2 1 [.slice ai f.inodes.length aj,.slice ak f.data.length al]]) (fun k=>k≤aa.blocks.length) (fun k=>aa.blocks.length - k) 0 (Nat.zero_le _) (.c .z (.c .g1 (.c .g6 (.c .g12 (.c .g15 (.c .g16 .n)))))) (fun _ h=>h.sel (.c .z (.c .z (.c .z (.c .z (.c .z (.c .z (.c .z (.c .z (.c .z (.c .z (.c .z .n)))))))))))) ?_
 rintro k hk
 have hdl:=lR (data:=f.data) (bs:=aa.blocks) k
 refine Y.seq (Y.seq (Y.region (Y.mv rfl .z (Y.mv rfl .g2 (Y.nc rfl .z (Y.fa rfl .z dI (Y.ql rfl (aL rfl fA (.t .z) (WS.h .g5 ad rfl)) (Y.ql rfl (bM rfl eQ (.t .z)) ?_))))))))
 refine Y.ql rfl (dJ rfl (.t .g5) (.t .z)) (Y.nt ?_)
 refine Y.u (.t .z) (fun cj=> ?_) (fun cj=> ?_)
 refine Y.skip (Y.g (Y.seq (Y.block ?_)))
 refine Y.dr .z 10 gG ?_
 refine Y.sc (qs 0 10++ [(10,false)]) (by kernel_rfl) ?_
 refine Y.df rfl rfl .z .g9 gR (Y.dl rfl rfl .z lM .z .g6 (Y.dm rfl rfl .z .g10 (Y.dn rfl rfl .z .z (Y.df rfl rfl .z .z dI (Y.dk rfl rfl .z (aL rfl fA (.t .z) (WS.h .g5 ad rfl)) (Y.dm rfl rfl .z .g13 ?_))))))
 refine Y.h (WS.i .g1 (by omega)) ?_
 rintro⟨ck,rfl⟩
 refine Y.dk rfl rfl .z (aC (j:=k) rfl eQ jQ (.t .g1) (.t .z) rfl (by first | omega |(rw [hdl];omega) |(rw [hsl];omega))) ?_
 obtain⟨b9,ax⟩:=aI (xs:=aa.blocks) (j:=k) (by first | omega |(rw [hdl];omega) |(rw [hsl];omega))
 have ca:=a2 _ (List.mem_of_getElem? ax)
 refine Y.dk rfl rfl .z (aL rfl cF (.t .z) (WS.m .g1 ax)) ?_
 refine Y.h (WS.i .z (by omega)) ?_
 rintro⟨cm,rfl⟩
 refine Y.dk rfl rfl .z (aC (j:=Int.toNat b9) rfl mA mC (.t .g7) (.t .z) (by omega) (by first | omega |(rw [hdl];omega) |(rw [hsl];omega))) ?_
 refine Y.add (c:=aG cX [] [.slice none 0 0]) (fun w S=>aN w S none) ?_
 refine Y.es (aE rfl rfl) rfl (oH (j:=Int.toNat b9) rfl mC (.t .z) .c rfl (.c .g1 (.c .z .n)) (by first | omega |(rw [hdl];omega) |(rw [hsl];omega))) ?_
 refine Y.af .z (aAg ax) ?_
 refine Y.sl rfl ?_
 refine Y.aa ?_
 refine Y.ag (by kernel_rfl) ?_
 refine Y.ac (Y.g (Y.region (Y.mv rfl (.s16 .g1) ?_)))
 refine Y.ql rfl (bQ (c:=((k+1:Nat):Int)) rfl (.t .z) .c (wr (by omega) (by omega) (by omega))) ?_
 refine Y.er (.s16 .g3) (Y.as rfl .z (Y.nil ?_))
 refine Y.ae (k+1) (by omega) (by first | omega |(dsimp only;omega)) (.c .z (.c (.s16 .g4) (.c (.s16 .g5) (.c (.s16 .g6) (.c (.s16 .g7) (.c (.s16 .g8) .n)))))) (fun _ h=>h.sel (.c .z (.c .z (.c .z (.c .z (.c .z (.c .z (.c .z (.c .z (.c .z (.c .z (.c .z .n))))))))))))
 refine Y.exit (Y.ab (Y.ab (Y.ai (Y.g (Y.seq (Y.region (Y.mv rfl .g8 (Y.fa rfl .g13 aI6 ?_))))))))
 refine Y.ld rfl fA .z .g8 (Y.nc rfl .g2 (Y.fa rfl .z dI ?_))
 refine Y.es (aD rfl) rfl (gY (j:=Int.toNat a) (off:=3) (cs:= [.slice Ap ((fX f L b).list).length cp]) rfl aCd (.t .z) (gA _ _ _) (.t .g2) rfl (lZ rfl) .g5 ad (Nat.le_of_ble_eq_true rfl)) ?_
 refine Y.af (x':=List.set ab (Int.toNat a) [.int .i64 aa.kind,.int .i64 aa.links,.int .i64 aa.size,.slice Ap ((fX f L b).list).length cp,.slice af aa.ents.length ag]) .z rfl ?_
 refine Y.nt (Y.seq (Y.region (Y.mv rfl .g13 (Y.mv rfl (.s16 .g1) (Y.ql rfl (bM rfl gV (.t .z)) (Y.nc rfl .g2 (Y.fa rfl .z hX ?_)))))))
 refine Y.es (aD rfl) rfl (gY (j:=Int.toNat a) (off:=2) (cs:= [.int .i64 (L.length:Int)]) rfl jQ (.t .z) (gA _ _ _) (.t .g2) rfl (lZ rfl) .z (uL ad) (Nat.le_of_ble_eq_true rfl)) ?_
 refine Y.af (x':=List.set ab (Int.toNat a) [.int .i64 aa.kind,.int .i64 aa.links,.int .i64 (L.length:Int),.slice Ap ((fX f L b).list).length cp,.slice af aa.ents.length ag]) .z (List.set_set ..) ?_
 refine Y.nt (Y.seq (Y.seq (Y.region (Y.ql rfl (aA rfl .c) (Y.nt (Y.block ?_))))))
 refine Y.af (x':=iZ f a) .g1 (by unfold iZ;rw [av,show k=aa.blocks.length by omega]) ?_
 refine Y.af (x':=vI (iZ f a) (fX f L b).list L 0) .z rfl ?_
 refine Y.aj (γ:=Nat) (fun q=> [(13,.int .i64 (q:Int)),(11,.pointer (some (Addr.add ac ((Int.toNat a) * 5)))),(10,.pointer (some ⟨g33,0,none⟩)),(8,.pointer (some ⟨g6,0,none⟩)),(2,.slice A2 L.length c2)]) (fun q=> [aG cG (vI (iZ f a) (fX f L b).list L q) [.slice am f.data.length an],aG (bA 44 72 (mM bD.sz bD.pos)) (List.set ab (Int.toNat a) [.int .i64 aa.kind,.int .i64 aa.links,.int .i64 (L.length:Int),.slice Ap ((fX f L b).list).length cp,.slice af aa.ents.length ag]) [.slice (some ac) f.inodes.length ae],aG bY aa.blocks [.slice a0 aa.blocks.length a1],aG cP aa.ents [.slice af aa.ents.length ag],lX bD (List.take (Int.toNat a) f.inodes) (List.take (Int.toNat a) ab),lX bD (List.drop (Int.toNat a+1) f.inodes) (List.drop (Int.toNat a+1) ab),cM g33 27 2 1 [.slice (some ac) f.inodes.length ae,.slice am f.data.length an],aG bY ((fX f L b).list) [.slice Ap ((fX f L b).list).length cp],cM gp 38 2 1 [.int .i64 ((fX f L b).code),.slice Ap ((fX f L b).list).length cp],cM g6 48 3 1 [.int .i64 0,.slice none 0 0,.slice none 0 0],cM g5 27 2 1 [.slice ai f.inodes.length aj,.slice ak f.data.length al]]) (fun q=>q≤(fX f L b).list.length) (fun q=>(fX f L b).list.length - q) 0 (Nat.zero_le _) (.c .z (.c (.s16 .g3) (.c (.s16 .g4) (.c (.s16 .g5) (.c (.s16 .g6) .n))))) (fun _ h=>h.sel (.c .z (.c .z (.c .z (.c .z (.c .z (.c .z (.c .z (.c .z (.c .z (.c .z (.c .z .n)))))))))))) ?_
 rintro q hq
 have hsl:=(tT (data:=iZ f a) (bs:=(fX f L b).list) (L:=L) q).trans (lR _)
 refine Y.seq (Y.seq (Y.region (Y.mv rfl .z (Y.mv rfl .g2 (Y.nc rfl .z (Y.fa rfl .z dI (Y.ql rfl (aL rfl fA (.t .z) (WS.h .g1 (uL ad) rfl)) (Y.ql rfl (bM rfl eQ (.t .z)) ?_))))))))
 refine Y.ql rfl (dJ rfl (.t .g5) (.t .z)) (Y.nt ?_)
 refine Y.u (.t .z) (fun cn=> ?_) (fun cn=> ?_)
 refine Y.skip (Y.g (Y.seq (Y.block (Y.seq (Y.region (Y.mv rfl .g8 (Y.nc rfl .z (Y.fa rfl .z hX ?_))))))))
 refine Y.ql rfl (aL rfl cF (.t .z) (WS.h .g1 (uL ad) rfl)) (Y.mv rfl .g11 ?_)
 refine Y.ql rfl (bQ (c:=((q+1:Nat):Int)) rfl (.t .z) .c (wr (by omega) (by omega) (by omega))) ?_
 refine Y.ql rfl (sU (c:=(((q+1) * 8:Nat):Int)) rfl (.t .z) .c (wr (by omega) (by omega) (by omega))) ?_
 refine Y.cl rfl rfl Tryz.func47 rfl rfl (aX (.t .g3) (.t .z)) .n (fun _ _ hs tr=>aG8 _ _) ?_
 rintro _ _ ⟨rfl,rfl⟩
 refine Y.m .n ?_
 have co:=lL (L.length:Int) (((q+1) * 8:Nat):Int)
 refine Y.as rfl .z (Y.nt ?_)
 refine Y.sel (.c .z (.c .g2 (.c .z (.c .z (.c .z (.c .z (.c .z (.c .z (.c .z (.c .z (.c .z .n))))))))))) ?_
 refine Y.dr .g2 17 gG ?_
 refine Y.sc (qs 0 9++qs 10 5++ [(9,false),(15,false),(16,true),(17,false)]) (by kernel_rfl) ?_
 refine Y.df rfl rfl .g2 (.s16 .g2) gR (Y.dl rfl rfl .g2 lM .z .g4 (Y.dm rfl rfl .g2 (.s16 .g3) (Y.dn rfl rfl .g2 .z (Y.df rfl rfl .g2 .z dI (Y.dk rfl rfl .g2 (aL rfl fA (.t .z) (WS.h .z (uL ad) rfl)) (Y.dm rfl rfl .g2 (.s16 .g6) ?_))))))
 refine Y.h (WS.i .g7 (by omega)) ?_
 rintro⟨cq,rfl⟩
 refine Y.dk rfl rfl .g2 (aC (j:=q) rfl eQ jQ (.t .g1) (.t .z) rfl (by first | omega |(rw [hdl];omega) |(rw [hsl];omega))) ?_
 obtain⟨cb,aq⟩:=aI (xs:=(fX f L b).list) (j:=q) (by first | omega |(rw [hdl];omega) |(rw [hsl];omega))
 have cc:=hpi.1 _ (List.mem_of_getElem? aq)
 refine Y.dk rfl rfl .g2 (aL rfl cF (.t .z) (WS.m .g5 aq)) (Y.dm rfl rfl .g2 (.s16 .g13) (Y.dm rfl rfl .g2 (.s16 .g10) ?_))
 refine Y.dk rfl rfl .g2 (sU (c:=((q * 8:Nat):Int)) rfl (.t .z) .c (wr (by omega) (by omega) (by omega))) ?_
 refine Y.dm rfl rfl .g2 .g12 ?_
 refine Y.eq .z (congrArg (Value.int .i64) (show fF (L.length:Int) (((q+1) * 8:Nat):Int)=((Int.toNat (fF (L.length:Int) (((q+1) * 8:Nat):Int)):Nat):Int) by omega)) ?_
 obtain⟨cr,aw⟩:∃A':Option Addr,A'=(if c2=q * 8 then A2 else Option.map (fun z=>Addr.add z ((q * 8) * 1)) A2):=⟨_,rfl⟩
 have a9:=nK (a:=q * 8) (b:=Int.toNat (fF (L.length:Int) (((q+1) * 8:Nat):Int))) aw h2 (by omega) (by omega)
 have ct:=fR (xs:=L) (a:=q * 8) (b:=Int.toNat (fF (L.length:Int) (((q+1) * 8:Nat):Int))) (by omega)
 refine Y.dk rfl rfl .g2 (iN (a:=q * 8) (b:=Int.toNat (fF (L.length:Int) (((q+1) * 8:Nat):Int))) rfl gV aAf (.t .g3) aw (.inr ⟨_,_,rfl,(.t .g1)⟩) (.inr ⟨_,_,rfl,(.t .z)⟩) (by omega) (by omega) (by omega)) ?_
 refine Y.e (aE rfl rfl) rfl (by decide) rfl (eH rfl gV (inz kB)) ?_
 rintro _ _ ⟨g56,rfl,rfl⟩
 refine Y.sk .g3 ?_
 refine Y.add (c:=aG cX ([]:(List UInt8)) [.slice (some ⟨g56,0,none⟩) 0 0]) (fun w S=>aN w S _) ?_
 refine Y.e (aE rfl rfl) rfl (by decide) rfl (eG (bC _ _ _) rfl gV kB rfl (.t .z) (.t .g1) (.c .z .n) (fun w1 S1 tr=>tr.ctx a9) (by first | omega |(simp only [List.length_append,List.length_take,List.length_nil,List.length_cons];omega)) (by first | omega |(simp only [List.length_append,List.length_take,List.length_nil,List.length_cons];omega))) ?_
 rintro _ _ rfl
 refine Y.af .z (List.nil_append _) ?_
 refine Y.h (WS.a .z) ?_
 rintro⟨cu,cv,rfl,cd,ce,cf⟩
 refine Y.sk .g4 ?_
 refine Y.h (WS.i .g2 (by omega)) ?_
 rintro⟨cw,rfl⟩
 refine Y.dk rfl rfl .g4 (aC (j:=Int.toNat cb) rfl mA mC (.t .g14) (.t .g7) (by omega) (by first | omega |(rw [hdl];omega) |(rw [hsl];omega))) ?_
 refine Y.es (aE rfl rfl) rfl (oH (j:=Int.toNat cb) rfl mC (.t .z) (.t .g1) rfl (.c .g2 (.c .z .n)) (by first | omega |(rw [hdl];omega) |(rw [hsl];omega))) ?_
 refine Y.af .z (by first | exact aDt aq | rw [aBm,aDt aq] | rw [aFf,aDt aq]) ?_
 refine Y.sl rfl ?_
 refine Y.aa ?_
 refine Y.ag (by kernel_rfl) ?_
 refine Y.ac (Y.g (Y.region (Y.mv rfl (.s16 (.s16 .g1)) ?_)))
 refine Y.ql rfl (bQ (c:=((q+1:Nat):Int)) rfl (.t .z) .c (wr (by omega) (by omega) (by omega))) ?_
 refine Y.er (.s16 (.s16 .g3)) (Y.as rfl .z (Y.nil ?_))
 refine Y.ae (q+1) (by omega) (by first | omega |(dsimp only;omega)) (.c .z (.c (.s16 (.s16 .g4)) (.c (.s16 (.s16 .g5)) (.c (.s16 (.s16 .g6)) (.c (.s16 (.s16 .g7)) .n))))) (fun _ h=>h.sel (.c .z (.c .g2 (.c .g2 (.c .g1 (.c .g1 (.c .g1 (.c .g1 (.c .g1 (.c .g1 (.c .g1 (.c .g1 .n))))))))))))
 refine Y.exit (Y.ab (Y.ab (Y.ai (Y.g (Y.seq (Y.region (Y.ql rfl (qW rfl bI (.t .g9) .g6 aW) (Y.ql rfl (aZ (cs:= [.int .i64 0,.slice (some ac) f.inodes.length ae,.slice am f.data.length an]) rfl kW (pv1 (.t .z)) rfl) ?_))))))))
 refine Y.es (aD rfl) rfl (esW rfl (.t .g12) (.t .z) .g9 fC rfl rfl) ?_
 refine Y.nt (Y.ret ?_)
 refine Y.v (c:=aG bD (⟨aa.kind,aa.links,(L.length:Int),(fX f L b).list,aa.ents⟩:aF) [.int .i64 aa.kind,.int .i64 aa.links,.int .i64 (L.length:Int),.slice Ap ((fX f L b).list).length cp,.slice af aa.ents.length ag]) (.c .g8 (.c .g4 .n)) (fun w S h=>bF (⟨aa.kind,aa.links,(L.length:Int),(fX f L b).list,aa.ents⟩:aF) h) ?_
 refine Y.v (c:=aG aP (List.set f.inodes (Int.toNat a) (⟨aa.kind,aa.links,(L.length:Int),(fX f L b).list,aa.ents⟩:aF)) [.slice (some ac) f.inodes.length ae]) (.c .g3 (.c .z (.c .g3 (.c .g3 .n)))) (dQ (K:=bD) ao (List.getElem?_eq_some_iff.1 ap).1 rfl) ?_
 have ba:List.set f.inodes (Int.toNat a) (⟨aa.kind,aa.links,(L.length:Int),(fX f L b).list,aa.ents⟩:aF)=vZ f.inodes a (L.length:Int) (fX f L b).list:=(aGa ap (by omega))
 refine Y.ak .z (congrArg (fun z_=>(aG aP (z_) [.slice (some ac) f.inodes.length ae]:Asn)) ba) ?_
 refine Y.af (x':=vI (iZ f a) (fX f L b).list L (fX f L b).list.length) .g2 (by rw [show q=(fX f L b).list.length by omega]) ?_
 refine Y.i (dD rfl .g12 kE .g2 fC) (.c .g1 (.c .z .n)) ?_
 first |(rw [aAz (by omega)];exact⟨_,_,rfl,rfl⟩) |(rw [aAk (by omega) hpn];exact⟨_,_,rfl,rfl⟩) |(rw [aA1 (by omega) hpc];exact⟨_,_,rfl,rfl⟩)

end Go.Proofs.YtmejbfmhaoilmaaGreat

/- What is proved: contracts of functions, one a function. No condition. -/
import Derived.Test.YtmejbfmhaoilmaaGreatBase1
import Derived.Test.YtmejbfmhaoilmaaGreatW31
import Derived.Test.YtmejbfmhaoilmaaGreatW30
namespace Go.Proofs.YtmejbfmhaoilmaaGreat
open Go Go.RowKit
set_option linter.unusedVariables false
set_option linter.unusedSimpArgs false
set_option maxHeartbeats 1000000
set_option maxRecDepth 20000
theorem aKg {w0:World}{S0:Bs}{x:(List Int)}{v0:Value} (h0:aY.ro w0 (FF w0 S0) x [v0]):
    Calls Tryz.prog 145 #[v0] w0 (aI w0 S0 (fun r l=>l= [aG aY x [r]])):=by
 obtain⟨A0,c0,rfl,hl0,hm0,hb0,he0⟩:=aD h0
 refine Y.enter (N:=6) Tryz.func145 rfl rfl (by simp) [(0,.slice A0 x.length c0)] (by simp) (l0:= []) trivial ?_
 refine Y.seq (Y.region (Y.ql rfl (aA rfl .c) (Y.nt (Y.seq (Y.region ?_)))))
 refine Y.el rfl (dW rfl dN (inz fI)) ?_
 rintro _ _ ⟨g2,rfl,rfl⟩
 refine Y.mv rfl .g2 ?_
 refine Y.add (c:=aG aY ([]:(List Int)) [.slice (some ⟨g2,0,none⟩) 0 0]) (fun w S=>aK w S _) ?_
 refine Y.el rfl (dU (bI _ _ _) rfl dN fI rfl (.t .g1) (.t .z) (.c .z .n) (fun w1 S1 tr=>tr.ctx h0) (by first | omega |(simp only [List.length_append,List.length_take,List.length_nil,List.length_cons];omega)) (by first | omega |(simp only [List.length_append,List.length_take,List.length_nil,List.length_cons];omega))) ?_
 rintro _ _ rfl
 refine Y.af .z (List.nil_append _) ?_
 refine Y.i (WS.a .z) ?_
 rintro⟨Ao4,co4,rfl,hlo4,hmo4,hbo4⟩
 refine Y.er .g3 (Y.as rfl .z (Y.nt (Y.ret ?_)))
 refine Y.j (aT rfl .z) (.c .z .n) ?_
 rfl

theorem aL4 {w0:World}{S0:Bs}{x:aF}{ag:List Value} (h0:cA.ro w0 (FF w0 S0) x ag):
    Calls Tryz.prog 115 #[.agg ag.toArray] w0 (aI w0 S0 (aLz x)):=by
 obtain⟨ap,aq,rfl,aa,ab⟩:=bV h0
 obtain⟨ac,ad,rfl,ah,ai,aj,ak⟩:=aD aa
 obtain⟨ae,af,rfl,al,am,an,ao⟩:=aD ab
 refine Y.enter (N:=13) Tryz.func115 rfl rfl (by simp) [(0,.agg #[.int .i64 x.kind,.int .i64 x.links,.int .i64 x.size,.slice ac x.blocks.length ad,.slice ae x.ents.length af])] (by simp) (l0:= []) trivial ?_
 refine Y.seq (Y.region ?_)
 refine Y.el rfl (fR (cs:= [.int .i64 x.kind,.int .i64 x.links,.int .i64 x.size,.slice ac x.blocks.length ad,.slice ae x.ents.length af]) (n:=5) rfl (.t .z) rfl rfl) ?_
 rintro _ _ ⟨g3,rfl,rfl⟩
 refine Y.el rfl (bD rfl qH rfl rfl) ?_
 rintro _ _ ⟨g4,rfl,rfl⟩
 refine Y.nt (Y.seq (Y.region (Y.fa rfl .g1 cS (Y.ld rfl eP .z .g1 ?_))))
 refine Y.cl rfl rfl Tryz.func145 rfl rfl (bH (.t .z)) .n (fun _ _ hs tr=>aKg (tr.ctx aa)) ?_
 rintro _ _ rfl
 refine Y.r (.c .n) ?_
 refine Y.i (WS.a .z) ?_
 rintro⟨az,a0,rfl,ar,au,av⟩
 refine Y.fa rfl .g4 cS ?_
 refine Y.es (aE rfl) rfl (es1 (off:=3) rfl yM (.t .z) (.t .g1) rfl rfl .g2 rfl .g3) ?_
 refine Y.nt (Y.seq (Y.region ?_))
 refine Y.el rfl (dW rfl dQ (inz eF)) ?_
 rintro _ _ ⟨g7,rfl,rfl⟩
 refine Y.fa rfl .g6 bM (Y.ld rfl eA .z .g1 ?_)
 refine Y.add (c:=aG dL ([]:(List bT)) [.slice (some ⟨g7,0,none⟩) 0 0]) (fun w S=>aK w S _) ?_
 refine Y.el rfl (dU (gY _ (gD (bI _ _ _) (bI _ _ _))) rfl dQ eF rfl (.t .g2) (.t .z) (.c .z .n) (fun w1 S1 tr=>tr.ctx ab) (by first | omega |(simp only [List.length_append,List.length_take,List.length_nil,List.length_cons];omega)) (by first | omega |(simp only [List.length_append,List.length_take,List.length_nil,List.length_cons];omega))) ?_
 rintro _ _ rfl
 refine Y.af .z (List.nil_append _) ?_
 refine Y.i (WS.a .z) ?_
 rintro⟨a1,a2,rfl,aw,ax,ay⟩
 refine Y.fa rfl .g9 bM ?_
 refine Y.es (aE rfl) rfl (es1 (off:=4) rfl pX (.t .z) (.t .g1) rfl rfl .g2 rfl .g4) ?_
 refine Y.nt (Y.seq (Y.region (Y.ql rfl (qW rfl fA (.t .g10) .z aU) ?_)))
 refine Y.es (aE rfl) rfl (esW rfl (.t .g10) (.t .z) .g4 aU rfl rfl) ?_
 refine Y.nt (Y.ret ?_)
 refine Y.j (dA rfl .g10 fA .z aU) (.c .g4 (.c .g2 .n)) ?_
 exact⟨_,_,rfl,rfl⟩

theorem uY {w0:World}{S0:Bs}{f:DFs}{bs:List Value} (h0:eS.ro w0 (FF w0 S0) f bs):
    Calls Tryz.prog 67 #[.agg bs.toArray] w0 (aI w0 S0 (aGx f)):=by
 obtain⟨co,cp,rfl,bd,be⟩:=cQ h0
 obtain⟨af,ag,rfl,bt,bu,bv,ap⟩:=aD bd
 obtain⟨ah,ai,rfl,bw,bx,bz,aq⟩:=aD be
 refine Y.enter (N:=45) Tryz.func67 rfl rfl (by simp) [(0,.agg #[.slice af f.inodes.length ag,.slice ah f.data.length ai])] (by simp) (l0:= []) trivial ?_
 refine Y.seq (Y.region ?_)
 refine Y.el rfl (fR (cs:= [.slice af f.inodes.length ag,.slice ah f.data.length ai]) (n:=2) rfl (.t .z) rfl rfl) ?_
 rintro _ _ ⟨g3,rfl,rfl⟩
 refine Y.el rfl (bD rfl mQ rfl rfl) ?_
 rintro _ _ ⟨g4,rfl,rfl⟩
 refine Y.nt (Y.seq (Y.region (Y.ql rfl (aZ (cs:= [.slice none 0 0,.slice none 0 0]) rfl aGc pv0 rfl) ?_)))
 refine Y.el rfl (bD rfl mQ rfl rfl) ?_
 rintro _ _ ⟨g5,rfl,rfl⟩
 refine Y.es (aE rfl) rfl (esW rfl (.t .z) (.t .g1) .z aX rfl rfl) ?_
 refine Y.nt (Y.seq (Y.seq (Y.region (Y.ql rfl (aA rfl .c) (Y.nt (Y.block ?_))))))
 refine Y.add (c:=aG aW [] [.slice none 0 0]) (fun w S=>aK w S none) ?_
 refine Y.ah (γ:=Nat×(Option Addr)×Nat) (fun⟨k,aa,ab⟩=> [(4,.int .i64 (k:Int)),(3,.pointer (some ⟨g5,0,none⟩)),(2,.pointer (some ⟨g4,0,none⟩)),(1,.pointer (some ⟨g3,0,none⟩))]) (fun⟨k,aa,ab⟩=> [aG aW (List.take k f.inodes) [.slice aa (List.take k f.inodes).length ab],bZ g5 27 2 1 [.slice aa (List.take k f.inodes).length ab,.slice none 0 0],bZ g4 27 2 1 [.slice none 0 0,.slice none 0 0],bZ g3 27 2 1 [.slice af f.inodes.length ag,.slice ah f.data.length ai]]) (fun⟨k,aa,ab⟩=>k≤f.inodes.length) (fun⟨k,aa,ab⟩=>f.inodes.length - k) (0,none,0) (Nat.zero_le _) (.c .z (.c .g1 (.c .g3 (.c .g4 .n)))) (fun _ h=>h.sel (.c .z (.c .z (.c .z (.c .z .n))))) ?_
 rintro⟨k,aa,ab⟩ hk
 refine Y.seq (Y.seq (Y.region (Y.mv rfl .z (Y.fa rfl .g4 aP (Y.ld rfl bO .z .g3 (Y.ql rfl (bE rfl cI (.t .z)) (Y.ql rfl (cU rfl (.t .g3) (.t .z)) (Y.nil ?_))))))))
 refine Y.g ?_
 refine Y.u (.t .z) (fun b7=> ?_) (fun b7=> ?_)
 refine Y.skip (Y.g (Y.seq (Y.block ?_)))
 refine Y.dr .g1 11 gB ?_
 refine Y.sc (qs 0 7++ [(7,false),(8,false),(9,false),(10,true),(11,false)]) (by kernel_rfl) ?_
 refine Y.df rfl rfl .g1 .g6 aP (Y.dl rfl rfl .g1 bO .z .z (Y.df rfl rfl .g1 .g10 aP (Y.dl rfl rfl .g1 bO .z .g2 (Y.dm rfl rfl .g1 .g9 ?_))))
 obtain⟨cx,ar,au⟩:=ap (by omega)
 subst ar
 obtain⟨x9,b0⟩:=aJ (xs:=f.inodes) (j:=k) (by omega)
 obtain⟨b1,ak,av,aw⟩:=au.elem b0
 obtain⟨bf,bg,rfl,al,am⟩:=bV ak
 obtain⟨bh,bi,rfl,a5,a6,a7,a8⟩:=aD al
 obtain⟨bj,bk,rfl,a9,ba,bb,bc⟩:=aD am
 refine Y.dk rfl rfl .g1 (aB (j:=k) rfl cI aU (.t .g1) (.t .z) rfl (by omega)) ?_
 refine Y.dk rfl rfl .g1 (qE rfl fA (.t .z) av aw aU) ?_
 refine Y.call (aC rfl rfl) rfl (by decide) rfl (bF rfl Tryz.func115 rfl rfl (bH (.t .z))) .n (fun _ _ hs tr=>aL4 (tr.ctx ak)) ?_
 rintro _ _ ⟨cy,cz,rfl,rfl⟩
 refine Y.r (.c (.c .n)) ?_
 refine Y.i (WS.a .z) ?_
 rintro⟨ax,ay,rfl,b2,b3,b4⟩
 refine Y.i (WS.a .g1) ?_
 rintro⟨az,a0,rfl,b5,b6,b8⟩
 refine Y.sk .g3 ?_
 refine Y.e (aC rfl rfl) rfl (by decide) rfl (aO (cs:= [.int .i64 x9.kind,.int .i64 x9.links,.int .i64 x9.size,.slice ax x9.blocks.length ay,.slice az x9.ents.length a0]) rfl cI (inz lI) (by decide) (pv1 (.t .z)) rfl rfl (by decide) rfl rfl) ?_
 rintro _ _ ⟨g19,rfl,rfl⟩
 refine Y.sk .g4 ?_
 refine Y.ac (c:=aG cA (⟨x9.kind,x9.links,x9.size,x9.blocks,x9.ents⟩:aF) [.int .i64 x9.kind,.int .i64 x9.links,.int .i64 x9.size,.slice ax x9.blocks.length ay,.slice az x9.ents.length a0]) (.c .g1 (.c .g1 .n)) (fun w S h=>cP (⟨x9.kind,x9.links,x9.size,x9.blocks,x9.ents⟩:aF) h) ?_
 refine Y.e (aC rfl rfl) rfl (by decide) rfl (dC rfl cI lI rfl (.t .g7) (.t .z) (.c .g2 (.c .g1 (.c .z .n))) (by first | omega |(simp only [List.length_take,List.length_cons,List.length_nil];omega)) (by first | omega |(simp only [List.length_take,List.length_cons,List.length_nil];omega))) ?_
 rintro _ _ rfl
 refine Y.af .z (sX b0).symm ?_
 refine Y.i (WS.a .z) ?_
 rintro⟨bm,bn,rfl,b9,ca,cb⟩
 refine Y.sk .g1 ?_
 refine Y.df rfl rfl .g1 .g16 aP ?_
 refine Y.es (aC rfl rfl) rfl (es1 (off:=0) rfl aC7 (.t .z) (.t .g1) rfl rfl .g1 rfl .z) ?_
 refine Y.sl rfl ?_
 refine Y.aa ?_
 refine Y.ai (by kernel_rfl) ?_
 refine Y.y (Y.g (Y.region (Y.mv rfl .g16 ?_)))
 refine Y.ql rfl (bG (c:=((k+1:Nat):Int)) rfl (.t .z) .c (wr (by omega) (by omega) (by omega))) ?_
 refine Y.er (.s16 .g2) (Y.as rfl .z (Y.nil ?_))
 refine Y.ae ((k+1),bm,bn) (by omega) (by first | omega |(dsimp only;omega)) (.c .z (.c (.s16 .g3) (.c (.s16 .g4) (.c (.s16 .g5) .n)))) (fun _ h=>h.sel (.c .g1 (.c .z (.c .z (.c .z .n)))))
 refine Y.exit (Y.w (Y.w (Y.ag (Y.g (Y.seq (Y.seq (Y.region (Y.ql rfl (aA rfl .c) ?_))))))))
 refine Y.nt (Y.block ?_)
 have a1:List.take k f.inodes=f.inodes:=(List.take_of_length_le (by omega))
 refine Y.aj .z (congrArg (fun z_=>(aG aW (z_) [.slice aa (z_).length ab]:Asn)) a1) ?_
 refine Y.aj .g1 (congrArg (fun z_=>(bZ g5 27 2 1 [.slice aa (z_).length ab,.slice none 0 0]:Asn)) a1) ?_
 refine Y.add (c:=aG cV [] [.slice none 0 0]) (fun w S=>aK w S none) ?_
 refine Y.ah (γ:=Nat×(Option Addr)×Nat) (fun⟨q,ac,ad⟩=> [(5,.int .i64 (q:Int)),(3,.pointer (some ⟨g5,0,none⟩)),(2,.pointer (some ⟨g4,0,none⟩)),(1,.pointer (some ⟨g3,0,none⟩))]) (fun⟨q,ac,ad⟩=> [aG cV (List.take q f.data) [.slice ac (List.take q f.data).length ad],bZ g5 27 2 1 [.slice aa (f.inodes).length ab,.slice ac (List.take q f.data).length ad],aG aW f.inodes [.slice aa (f.inodes).length ab],bZ g4 27 2 1 [.slice none 0 0,.slice none 0 0],bZ g3 27 2 1 [.slice af f.inodes.length ag,.slice ah f.data.length ai]]) (fun⟨q,ac,ad⟩=>q≤f.data.length) (fun⟨q,ac,ad⟩=>f.data.length - q) (0,none,0) (Nat.zero_le _) (.c .z (.c .g7 (.c .g8 (.c .g9 .n)))) (fun _ h=>h.sel (.c .z (.c .z (.c .z (.c .z (.c .z .n)))))) ?_
 rintro⟨q,ac,ad⟩ hq
 refine Y.seq (Y.seq (Y.region (Y.mv rfl .z (Y.fa rfl .g4 fV (Y.ld rfl kN .z .g4 (Y.ql rfl (bE rfl lE (.t .z)) (Y.ql rfl (cU rfl (.t .g3) (.t .z)) (Y.nil ?_))))))))
 refine Y.g ?_
 refine Y.u (.t .z) (fun cq=> ?_) (fun cq=> ?_)
 refine Y.skip (Y.g (Y.seq (Y.block ?_)))
 refine Y.sel (.c .z (.c .g1 (.c .z (.c .z (.c .z .n))))) ?_
 refine Y.dr .g2 12 gB ?_
 refine Y.sc ([(0,true),(1,true)]++qs 3 5++ [(2,false),(8,false),(9,false),(10,false),(11,true),(12,false)]) (by kernel_rfl) ?_
 refine Y.df rfl rfl .g2 .g6 fV (Y.dl rfl rfl .g2 kN .z .z (Y.df rfl rfl .g2 .g10 fV (Y.dl rfl rfl .g2 kN .z .g2 (Y.dm rfl rfl .g2 .g9 ?_))))
 obtain⟨cr,an,ao⟩:=aq (by omega)
 subst an
 obtain⟨ct,a2⟩:=aJ (xs:=f.data) (j:=q) (by omega)
 obtain⟨cc,ae,a3,a4⟩:=ao.elem a2
 obtain⟨cu,rfl⟩:=lB ae
 obtain⟨cv,cw,rfl,cd,ce,cf,cg⟩:=aD ae
 refine Y.dk rfl rfl .g2 (aB (j:=q) rfl lE kL (.t .g1) (.t .z) rfl (by omega)) ?_
 refine Y.dk rfl rfl .g2 (aN rfl lR (.t .z) (WS.i a3 a4 rfl)) ?_
 refine Y.e (aC rfl rfl) rfl (by decide) rfl (dW rfl fO (inz iM)) ?_
 rintro _ _ ⟨g29,rfl,rfl⟩
 refine Y.sk .g3 ?_
 refine Y.add (c:=aG bX ([]:(List UInt8)) [.slice (some ⟨g29,0,none⟩) 0 0]) (fun w S=>aK w S _) ?_
 refine Y.e (aC rfl rfl) rfl (by decide) rfl (dU (bI _ _ _) rfl fO iM rfl (.t .z) (.t .g1) (.c .z .n) (fun w1 S1 tr=>tr.ctx ae) (by first | omega |(simp only [List.length_take,List.length_cons,List.length_nil];omega)) (by first | omega |(simp only [List.length_take,List.length_cons,List.length_nil];omega))) ?_
 rintro _ _ rfl
 refine Y.af .z (List.nil_append _) ?_
 refine Y.i (WS.a .z) ?_
 rintro⟨bo,bp,rfl,ch,ci,cj⟩
 refine Y.sk .g4 ?_
 refine Y.e (aC rfl rfl) rfl (by decide) rfl (aO (cs:= [.slice bo ct.length bp]) rfl lE (inz vT) (by decide) (pv1 (.t .z)) rfl rfl (by decide) rfl rfl) ?_
 rintro _ _ ⟨g32,rfl,rfl⟩
 refine Y.sk .g5 ?_
 refine Y.e (aC rfl rfl) rfl (by decide) rfl (dC rfl lE vT rfl (.t .g8) (.t .z) (.c .g3 (.c .z (.c .z .n))) (by first | omega |(simp only [List.length_take,List.length_cons,List.length_nil];omega)) (by first | omega |(simp only [List.length_take,List.length_cons,List.length_nil];omega))) ?_
 rintro _ _ rfl
 refine Y.af .z (sX a2).symm ?_
 refine Y.i (WS.a .z) ?_
 rintro⟨bq,br,rfl,ck,cm,cn⟩
 refine Y.sk .g3 ?_
 refine Y.df rfl rfl .g3 (.s16 .g1) fV ?_
 refine Y.es (aC rfl rfl) rfl (es1 (off:=1) rfl aIr (.t .z) (.t .g1) rfl rfl .g3 rfl .g1) ?_
 refine Y.sl rfl ?_
 refine Y.aa ?_
 refine Y.ai (by kernel_rfl) ?_
 refine Y.y (Y.g (Y.region (Y.mv rfl (.s16 .g1) ?_)))
 refine Y.ql rfl (bG (c:=((q+1:Nat):Int)) rfl (.t .z) .c (wr (by omega) (by omega) (by omega))) ?_
 refine Y.er (.s16 .g3) (Y.as rfl .z (Y.nil ?_))
 refine Y.ae ((q+1),bq,br) (by omega) (by first | omega |(dsimp only;omega)) (.c .z (.c (.s16 .g4) (.c (.s16 .g5) (.c (.s16 .g6) .n)))) (fun _ h=>h.sel (.c .g1 (.c .z (.c .g1 (.c .g1 (.c .g1 .n))))))
 refine Y.exit (Y.w (Y.w (Y.ag (Y.g (Y.seq (Y.region (Y.ql rfl (qW rfl bN (.t .g6) .g1 aX) ?_)))))))
 refine Y.es (aE rfl) rfl (esW rfl (.t .g8) (.t .z) .g3 aX rfl rfl) ?_
 refine Y.nt (Y.ret ?_)
 have aj:List.take q f.data=f.data:=(List.take_of_length_le (by omega))
 refine Y.eq .z (congrArg (fun z_=>(.agg #[.slice aa (f.inodes).length ab,.slice ac (z_).length ad]:Value)) aj) ?_
 refine Y.aj .z (congrArg (fun z_=>(bZ g4 27 2 1 [.slice aa (f.inodes).length ab,.slice ac (z_).length ad]:Asn)) aj) ?_
 refine Y.aj .g1 (congrArg (fun z_=>(aG cV (z_) [.slice ac (z_).length ad]:Asn)) aj) ?_
 refine Y.aj .g2 (congrArg (fun z_=>(bZ g5 27 2 1 [.slice aa (f.inodes).length ab,.slice ac (z_).length ad]:Asn)) aj) ?_
 refine Y.j (dA rfl .g8 bN .g2 aX) (.c .g3 (.c .g1 .n)) ?_
 exact⟨_,_,rfl,rfl⟩

theorem aJ9 {w0:World}{S0:Bs}{f:DFs}{bh:List Value} (h0:eS.ro w0 (FF w0 S0) f bh):
    Calls Tryz.prog 63 #[.agg bh.toArray] w0 (aI w0 S0 (aGx f)):=by
 obtain⟨b1,b2,rfl,a8,ao⟩:=cQ h0
 obtain⟨af,ag,rfl,bi,bj,bk,ap⟩:=aD a8
 obtain⟨ai,aj,rfl,bm,bn,bo,bp⟩:=aD ao
 refine Y.enter (N:=33) Tryz.func63 rfl rfl (by simp) [(0,.agg #[.slice af f.inodes.length ag,.slice ai f.data.length aj])] (by simp) (l0:= []) trivial ?_
 refine Y.seq (Y.region ?_)
 refine Y.el rfl (fR (cs:= [.slice af f.inodes.length ag,.slice ai f.data.length aj]) (n:=2) rfl (.t .z) rfl rfl) ?_
 rintro _ _ ⟨g3,rfl,rfl⟩
 refine Y.el rfl (bD rfl mQ rfl rfl) ?_
 rintro _ _ ⟨g4,rfl,rfl⟩
 refine Y.nt (Y.seq (Y.region (Y.fa rfl .g1 fV (Y.ld rfl kN .z .g1 ?_))))
 refine Y.cl rfl rfl Tryz.func55 rfl rfl (bH (.t .z)) .n (fun _ _ hs tr=>aMu (tr.ctx ao)) ?_
 rintro _ _ rfl
 refine Y.r (.c .n) ?_
 refine Y.i (WS.a .z) ?_
 rintro⟨am,an,rfl,b3,b4,b5⟩
 refine Y.ql rfl (aZ (cs:= [.slice none 0 0,.slice am f.data.length an]) rfl aGc (pv1 (.t .z)) rfl) ?_
 refine Y.el rfl (bD rfl mQ rfl rfl) ?_
 rintro _ _ ⟨g7,rfl,rfl⟩
 refine Y.es (aE rfl) rfl (esW rfl (.t .z) (.t .g1) .z aX rfl rfl) ?_
 refine Y.nt (Y.seq (Y.seq (Y.region (Y.fa rfl .g6 aP (Y.ld rfl bO .z .g3 (Y.ql rfl (bE rfl cI (.t .z)) (Y.ql rfl (aS rfl .c) ?_)))))))
 refine Y.nt (Y.block ?_)
 refine Y.add (c:=aG aW [] [.slice none 0 0]) (fun w S=>aK w S none) ?_
 refine Y.ah (γ:=Nat×(Option Addr)×Nat) (fun⟨k,aa,ab⟩=> [(13,.int .i64 (k:Int)),(12,.int .i64 (f.inodes.length:Int)),(11,.slice af f.inodes.length ag),(3,.pointer (some ⟨g7,0,none⟩)),(2,.pointer (some ⟨g4,0,none⟩))]) (fun⟨k,aa,ab⟩=> [aG aW (List.take k f.inodes) [.slice aa (List.take k f.inodes).length ab],bZ g7 27 2 1 [.slice aa (List.take k f.inodes).length ab,.slice am f.data.length an],aG cV f.data [.slice am f.data.length an],bZ g4 27 2 1 [.slice none 0 0,.slice none 0 0],bZ g3 27 2 1 [.slice af f.inodes.length ag,.slice ai f.data.length aj]]) (fun⟨k,aa,ab⟩=>k≤f.inodes.length) (fun⟨k,aa,ab⟩=>f.inodes.length - k) (0,none,0) (Nat.zero_le _) (.c .z (.c .g1 (.c .g2 (.c .g4 (.c .g9 .n))))) (fun _ h=>h.sel (.c .z (.c .z (.c .z (.c .z (.c .z .n)))))) ?_
 rintro⟨k,aa,ab⟩ hk
 refine Y.seq (Y.region (Y.ql rfl (cU rfl (.t .z) (.t .g1)) (Y.nt (Y.seq ?_))))
 refine Y.u (.t .z) (fun b9=> ?_) (fun b9=> ?_)
 refine Y.skip (Y.g (Y.seq (Y.block (Y.seq (Y.region ?_)))))
 obtain⟨b6,ak,al⟩:=ap (by omega)
 subst ak
 obtain⟨ac,aq⟩:=aJ (xs:=f.inodes) (j:=k) (by omega)
 obtain⟨bq,ar,au,av⟩:=al.elem aq
 obtain⟨a9,ba,rfl,ad,ae⟩:=bV ar
 obtain⟨bb,bc,rfl,a0,a1,a2,a3⟩:=aD ad
 obtain⟨bd,be,rfl,a4,a5,a6,a7⟩:=aD ae
 refine Y.ql rfl (aB (j:=k) rfl cI aU (.t .g3) (.t .g1) rfl (by omega)) ?_
 refine Y.ql rfl (qE rfl fA (.t .z) au av aU) ?_
 refine Y.el rfl (bD rfl qH rfl rfl) ?_
 rintro _ _ ⟨g15,rfl,rfl⟩
 refine Y.es (aE rfl) rfl (esW rfl (.t .z) (.t .g1) .z aU rfl rfl) ?_
 refine Y.nt (Y.seq ?_)
 refine Y.sel (.c .g1 (.c .g2 (.c .z (.c .z (.c .z (.c .z .n)))))) ?_
 refine Y.dr .g2 7 gB ?_
 refine Y.sc [(0,true),(1,true),(3,true),(4,true),(2,false),(6,true),(5,false),(7,false),(8,false),(9,false)] (by kernel_rfl) ?_
 refine Y.df rfl rfl .g2 .z cS (Y.dl rfl rfl .g2 eP .z .z (Y.df rfl rfl .g2 .g2 bM (Y.dl rfl rfl .g2 eA .z .z ?_)))
 refine Y.call (aC rfl rfl) rfl (by decide) rfl (bF rfl Tryz.func110 rfl rfl (bH (.t .g2))) .n (fun _ _ hs tr=>aI2 (tr.ctx ad)) ?_
 rintro _ _ rfl
 refine Y.r (.c .n) ?_
 refine Y.i (WS.a .z) ?_
 rintro⟨aw,ax,rfl,br,bs,bt⟩
 refine Y.sk .g3 ?_
 refine Y.df rfl rfl .g3 .g5 cS ?_
 refine Y.call (aC rfl rfl) rfl (by decide) rfl (bF rfl Tryz.func111 rfl rfl (bH (.t .g2))) .n (fun _ _ hs tr=>aLg (tr.ctx ae)) ?_
 rintro _ _ rfl
 refine Y.r (.c .n) ?_
 refine Y.i (WS.a .z) ?_
 rintro⟨ay,az,rfl,bu,bv,bw⟩
 refine Y.sk .g4 ?_
 refine Y.es (aC rfl rfl) rfl (es1 (off:=3) rfl yM (.t .g1) (.t .g2) rfl rfl .g4 rfl .g3) ?_
 refine Y.sl rfl ?_
 refine Y.q (aC rfl rfl) rfl (by decide) rfl (aL rfl (.t .g7) (fun _=>bM _ _)) ?_
 refine Y.sl rfl ?_
 refine Y.es (aC rfl rfl) rfl (es1 (off:=4) rfl pX (.t .z) (.t .g1) rfl rfl .z rfl .g4) ?_
 refine Y.sl rfl ?_
 refine Y.aa ?_
 refine Y.ai (by kernel_rfl) ?_
 refine Y.g (Y.region (Y.fa rfl .g15 aP (Y.ld rfl bO .z .g5 (Y.ql rfl (qW rfl fA (.t .g10) .z aU) ?_))))
 refine Y.el rfl (aO (cs:= [.int .i64 ac.kind,.int .i64 ac.links,.int .i64 ac.size,.slice aw ac.blocks.length ax,.slice ay ac.ents.length az]) rfl cI (inz lI) (by decide) (pv1 (.t .z)) rfl rfl (by decide) rfl rfl) ?_
 rintro _ _ ⟨g20,rfl,rfl⟩
 refine Y.ac (c:=aG cA (⟨ac.kind,ac.links,ac.size,ac.blocks,ac.ents⟩:aF) [.int .i64 ac.kind,.int .i64 ac.links,.int .i64 ac.size,.slice aw ac.blocks.length ax,.slice ay ac.ents.length az]) (.c .g3 (.c .g2 .n)) (fun w S h=>cP (⟨ac.kind,ac.links,ac.size,ac.blocks,ac.ents⟩:aF) h) ?_
 refine Y.el rfl (dC rfl cI lI rfl (.t .g2) (.t .z) (.c .g3 (.c .g1 (.c .z .n))) (by first | omega |(simp only [List.length_take,List.length_cons,List.length_nil];omega)) (by first | omega |(simp only [List.length_take,List.length_cons,List.length_nil];omega))) ?_
 rintro _ _ rfl
 refine Y.af .z (sX aq).symm ?_
 refine Y.i (WS.a .z) ?_
 rintro⟨bf,bg,rfl,bx,bz,b0⟩
 refine Y.fa rfl (.s16 .g4) aP ?_
 refine Y.es (aE rfl) rfl (es1 (off:=0) rfl aC7 (.t .z) (.t .g1) rfl rfl .g3 rfl .z) ?_
 refine Y.nil (Y.y (Y.g (Y.region ?_)))
 refine Y.ql rfl (bG (c:=((k+1:Nat):Int)) rfl (.t (.s16 .g2)) .c (wr (by omega) (by omega) (by omega))) ?_
 refine Y.er (.s16 .g3) (Y.mv rfl .z (Y.nil ?_))
 refine Y.ae ((k+1),bf,bg) (by omega) (by first | omega |(dsimp only;omega)) (.c .z (.c (.s16 .g4) (.c (.s16 .g5) (.c (.s16 .g6) (.c (.s16 .g7) .n))))) (fun _ h=>h.sel (.c .g1 (.c .z (.c .g1 (.c .g1 (.c .g1 .n))))))
 refine Y.exit (Y.w (Y.w (Y.ag (Y.g (Y.seq (Y.region (Y.ql rfl (qW rfl bN (.t .g4) .g1 aX) ?_)))))))
 refine Y.es (aE rfl) rfl (esW rfl (.t .g6) (.t .z) .g3 aX rfl rfl) ?_
 refine Y.nt (Y.ret ?_)
 have ah:List.take k f.inodes=f.inodes:=(List.take_of_length_le (by omega))
 refine Y.eq .z (congrArg (fun z_=>(.agg #[.slice aa (z_).length ab,.slice am f.data.length an]:Value)) ah) ?_
 refine Y.aj .z (congrArg (fun z_=>(bZ g4 27 2 1 [.slice aa (z_).length ab,.slice am f.data.length an]:Asn)) ah) ?_
 refine Y.aj .g1 (congrArg (fun z_=>(aG aW (z_) [.slice aa (z_).length ab]:Asn)) ah) ?_
 refine Y.aj .g2 (congrArg (fun z_=>(bZ g7 27 2 1 [.slice aa (z_).length ab,.slice am f.data.length an]:Asn)) ah) ?_
 refine Y.j (dA rfl .g6 bN .g2 aX) (.c .g1 (.c .g2 .n)) ?_
 exact⟨_,_,rfl,rfl⟩

theorem aI9 {w0:World}{S0:Bs}{f:DFs}{ak:Addr}{ab:Value}{ac:Value} (h0:gJ (mC 2 (by decide)) w0 (FF w0 S0) ak [ab,ac]) (a:Int) (hs:cJ [aG aW f.inodes [ab],aG cV f.data [ac]] w0 S0) (hp:bY f.inodes.length a) (hd:f.data.length=20) (hb:∀b,b∈eE f.inodes a→0≤b∧b≤19):
    Calls Tryz.prog 120 #[.pointer (some ak),.int .i64 a] w0 (aI w0 S0 (fun r l=>r= .tuple #[]∧l= [aG aW f.inodes [ab],aG cV (fW f a) [ac]])):=by
 obtain⟨bd,ap,⟨rfl, -, -⟩,aq⟩:=id h0
 obtain⟨be,bf⟩:=hp
 refine Y.enter (N:=26) Tryz.func120 rfl rfl (by simp) [(0,.pointer (some ak)),(1,.int .i64 a)] (by simp) hs ?_
 refine Y.i (WS.a .z) ?_
 rintro⟨bg,ar,rfl,a2,a3,a4⟩
 refine Y.i (WS.a .g1) ?_
 rintro⟨a5,a6,rfl,a7,a8,a9⟩
 refine Y.seq (Y.region (Y.mv rfl .z (Y.nc rfl .z (Y.fa rfl .z aP (Y.le rfl bO .z ap aq (Y.mv rfl .g5 ?_))))))
 refine Y.ab (.c .z .n) fN ?_
 rintro al aa
 obtain⟨y4,am⟩:=aJ (xs:=f.inodes) (j:=Int.toNat a) (by first | omega |(rw [hdl];omega))
 obtain⟨c5,an⟩:=aJ (xs:=al) (j:=Int.toNat a) (by rw [aa];exact(List.getElem?_eq_some_iff.1 am).1)
 refine Y.aq .g1 (eD am an) ?_
 refine Y.ab (.c .z .n) eZ ?_
 rintro⟨v6,v7⟩ rfl
 refine Y.i (WS.a .z) ?_
 rintro⟨ad,ae,rfl,au,av,aw⟩
 refine Y.i (WS.a .g1) ?_
 rintro⟨ag,ah,rfl,ax,ay,az⟩
 have ai:=lO (a:=a) am (by omega)
 have ao:∀b,b∈y4.blocks→0≤b∧b≤19:=by rw [←ai];exact hb
 refine Y.i (WS.h .g4 (by omega)) ?_
 rintro⟨aj,rfl⟩
 refine Y.ql rfl (aB (j:=Int.toNat a) rfl cI aU (.t .g1) (.t .z) (by omega) (by first | omega |(rw [hdl];omega))) ?_
 refine Y.fa rfl .z cS (Y.ql rfl (aN rfl eP (.t .z) (WS.j .g4 an rfl)) (Y.ql rfl (bE rfl dN (.t .z)) (Y.ql rfl (aS rfl .c) (Y.nt (Y.block ?_)))))
 refine Y.af (x':=lQ f.data y4.blocks 0) .g5 rfl ?_
 refine Y.ah (γ:=Nat) (fun k=> [(15,.int .i64 (k:Int)),(14,.int .i64 (y4.blocks.length:Int)),(13,.slice ad y4.blocks.length ae),(0,.pointer (some ak))]) (fun k=> [aG cV (lQ f.data y4.blocks k) [.slice a5 f.data.length a6],aG aY y4.blocks [.slice ad y4.blocks.length ae],aG dL y4.ents [.slice ag y4.ents.length ah],mL cA (List.take (Int.toNat a) f.inodes) (List.take (Int.toNat a) al),mL cA (List.drop (Int.toNat a+1) f.inodes) (List.drop (Int.toNat a+1) al),aG (bQ 44 72 (mC cA.sz cA.pos)) al [.slice (some aj) f.inodes.length ar]]) (fun k=>k≤y4.blocks.length) (fun k=>y4.blocks.length - k) 0 (Nat.zero_le _) (.c .z (.c .g1 (.c .g2 (.c .g10 .n)))) (fun _ h=>h.sel (.c .z (.c .z (.c .z (.c .z (.c .z (.c .z .n))))))) ?_
 rintro k hk
 have hdl:=iH (data:=f.data) (bs:=y4.blocks) k
 refine Y.seq (Y.region (Y.ql rfl (cU rfl (.t .z) (.t .g1)) (Y.nt (Y.seq ?_))))
 refine Y.u (.t .z) (fun ba=> ?_) (fun ba=> ?_)
 refine Y.skip (Y.g (Y.seq (Y.block (Y.seq (Y.region ?_)))))
 refine Y.i (WS.h .g1 (by omega)) ?_
 rintro⟨bb,rfl⟩
 refine Y.ql rfl (aB (j:=k) rfl dN hP (.t .g3) (.t .g1) rfl (by first | omega |(rw [hdl];omega))) ?_
 obtain⟨a0,af⟩:=aJ (xs:=y4.blocks) (j:=k) (by first | omega |(rw [hdl];omega))
 have a1:=ao _ (List.mem_of_getElem? af)
 refine Y.ql rfl (aN rfl bR (.t .z) (WS.m .g1 af)) (Y.as rfl .z (Y.nt (Y.region (Y.mv rfl .g7 (Y.nc rfl .z (Y.fa rfl .z fV (Y.le rfl kN .z ap aq ?_)))))))
 refine Y.mv rfl .g4 ?_
 refine Y.i (WS.h .z (by omega)) ?_
 rintro⟨bc,rfl⟩
 refine Y.ql rfl (aB (j:=Int.toNat a0) rfl lE kL (.t .g1) (.t .z) (by omega) (by first | omega |(rw [hdl];omega))) ?_
 refine Y.add (c:=aG bX [] [.slice none 0 0]) (fun w S=>aK w S none) ?_
 refine Y.es (aE rfl) rfl (mE (j:=Int.toNat a0) rfl kL (.t .z) .c rfl (.c .g1 (.c .z .n)) (by first | omega |(rw [hdl];omega))) ?_
 refine Y.af .z (aAh af) ?_
 refine Y.nil (Y.y (Y.g (Y.region ?_)))
 refine Y.ql rfl (bG (c:=((k+1:Nat):Int)) rfl (.t .g10) .c (wr (by omega) (by omega) (by omega))) ?_
 refine Y.er .g11 (Y.mv rfl .z (Y.nil ?_))
 refine Y.ae (k+1) (by omega) (by first | omega |(dsimp only;omega)) (.c .z (.c .g12 (.c .g13 (.c .g14 .n)))) (fun _ h=>h.sel (.c .z (.c .z (.c .z (.c .z (.c .z (.c .z .n)))))))
 refine Y.exit (Y.w (Y.w (Y.ag ?_)))
 refine Y.ac (c:=aG cA y4 [.int .i64 y4.kind,.int .i64 y4.links,.int .i64 y4.size,.slice ad y4.blocks.length ae,.slice ag y4.ents.length ah]) (.c .g1 (.c .g1 .n)) (fun w S h=>cP y4 h) ?_
 refine Y.ac (c:=aG aW f.inodes [.slice (some aj) f.inodes.length ar]) (.c .g4 (.c .z (.c .g1 (.c .g1 .n)))) (eH (K:=cA) aa am an) ?_
 refine Y.af (x':=fW f a) .g1 (by unfold fW;rw [ai,show k=y4.blocks.length by omega]) ?_
 refine Y.ay (zD rfl) (.c .g1 (.c .z .n)) ?_
 exact⟨rfl,rfl⟩

theorem aMl {w0:World}{S0:Bs}{f:DFs}{g0 e0 s0:Nat}{aa:List Value}{ad:Value}{ae:Value} (a:Int) (hs:cJ [bZ g0 e0 s0 1 (ad :: ae :: aa),aG aW f.inodes [ad],aG cV f.data [ae]] w0 S0) (hp:bY f.inodes.length a) (hd:f.data.length=20) (hb:∀b,b∈eE f.inodes a→0≤b∧b≤19):
    Calls Tryz.prog 207 #[.pointer (some ⟨g0,0,none⟩),.int .i64 a] w0 (aI w0 S0 (aDj g0 e0 s0 aa (oN f a))):=by
 obtain⟨bc,bd⟩:=hp
 refine Y.enter (N:=41) Tryz.func207 rfl rfl (by simp) [(0,.pointer (some ⟨g0,0,none⟩)),(1,.int .i64 a)] (by simp) hs ?_
 refine Y.i (WS.a .g1) ?_
 rintro⟨aq,aj,rfl,a3,a4,a5⟩
 refine Y.i (WS.a .g2) ?_
 rintro⟨ar,au,rfl,a6,a7,a8⟩
 refine Y.seq (Y.seq (Y.region (Y.ql rfl (aA rfl .c) (Y.nt (Y.block ?_)))))
 refine Y.ab (.c .g1 .n) fN ?_
 rintro af ab
 obtain⟨y4,ah⟩:=aJ (xs:=f.inodes) (j:=Int.toNat a) (by first | omega |(rw [hdl];omega))
 obtain⟨c5,ai⟩:=aJ (xs:=af) (j:=Int.toNat a) (by rw [ab];exact(List.getElem?_eq_some_iff.1 ah).1)
 refine Y.aq .g1 (eD ah ai) ?_
 refine Y.ab (.c .z .n) eZ ?_
 rintro⟨v6,v7⟩ rfl
 refine Y.i (WS.a .z) ?_
 rintro⟨ak,al,rfl,av,aw,ax⟩
 refine Y.i (WS.a .g1) ?_
 rintro⟨am,an,rfl,ay,az,a0⟩
 have ag:=lO (a:=a) ah (by omega)
 have ao:∀b,b∈y4.blocks→0≤b∧b≤19:=by rw [←ag];exact hb
 refine Y.af (x':=lQ f.data y4.blocks 0) .g6 rfl ?_
 refine Y.ah (γ:=Nat) (fun k=> [(4,.int .i64 (k:Int)),(0,.pointer (some ⟨g0,0,none⟩)),(1,.int .i64 a)]) (fun k=> [aG cV (lQ f.data y4.blocks k) [.slice ar f.data.length au],aG aY y4.blocks [.slice ak y4.blocks.length al],aG dL y4.ents [.slice am y4.ents.length an],mL cA (List.take (Int.toNat a) f.inodes) (List.take (Int.toNat a) af),mL cA (List.drop (Int.toNat a+1) f.inodes) (List.drop (Int.toNat a+1) af),aG (bQ 44 72 (mC cA.sz cA.pos)) af [.slice aq f.inodes.length aj],bZ g0 e0 s0 1 ((.slice aq f.inodes.length aj) :: (.slice ar f.data.length au) :: aa)]) (fun k=>k≤y4.blocks.length) (fun k=>y4.blocks.length - k) 0 (Nat.zero_le _) (.c .z (.c .g1 (.c .g2 .n))) (fun _ h=>h.sel (.c .z (.c .z (.c .z (.c .z (.c .z (.c .z (.c .z .n)))))))) ?_
 rintro k hk
 have hdl:=iH (data:=f.data) (bs:=y4.blocks) k
 refine Y.seq (Y.seq (Y.region (Y.mv rfl .z (Y.mv rfl .g2 (Y.nc rfl .z (Y.fa rfl .z aP (Y.ld rfl bO .z .g6 (Y.mv rfl .g7 ?_))))))))
 refine Y.i (WS.h .g5 (by omega)) ?_
 rintro⟨ap,rfl⟩
 refine Y.ql rfl (aB (j:=Int.toNat a) rfl cI aU (.t .g1) (.t .z) (by omega) (by first | omega |(rw [hdl];omega))) ?_
 refine Y.fa rfl .z cS (Y.ql rfl (aN rfl eP (.t .z) (WS.j .g5 ai rfl)) (Y.ql rfl (bE rfl dN (.t .z)) (Y.ql rfl (cU rfl (.t .g9) (.t .z)) (Y.nt ?_))))
 refine Y.u (.t .z) (fun a9=> ?_) (fun a9=> ?_)
 refine Y.skip (Y.g (Y.seq (Y.block ?_)))
 refine Y.dr .z 16 gB ?_
 refine Y.sc (qs 0 16++ [(16,false)]) (by kernel_rfl) ?_
 refine Y.dm rfl rfl .z .g12 (Y.dn rfl rfl .z .z (Y.df rfl rfl .z .z fV (Y.dl rfl rfl .z kN .z .g6 (Y.dm rfl rfl .z .g16 (Y.dn rfl rfl .z .z (Y.df rfl rfl .z .z aP (Y.dl rfl rfl .z bO .z .g6 (Y.dm rfl rfl .z (.s16 .g5) ?_))))))))
 refine Y.dk rfl rfl .z (aB (j:=Int.toNat a) rfl cI aU (.t .g1) (.t .z) (by omega) (by first | omega |(rw [hdl];omega))) ?_
 refine Y.df rfl rfl .z .z cS (Y.dk rfl rfl .z (aN rfl eP (.t .z) (WS.j .g5 ai rfl)) (Y.dm rfl rfl .z (.s16 .g7) ?_))
 refine Y.i (WS.h .g1 (by omega)) ?_
 rintro⟨ba,rfl⟩
 refine Y.dk rfl rfl .z (aB (j:=k) rfl dN hP (.t .g1) (.t .z) rfl (by first | omega |(rw [hdl];omega))) ?_
 obtain⟨a1,ac⟩:=aJ (xs:=y4.blocks) (j:=k) (by first | omega |(rw [hdl];omega))
 have a2:=ao _ (List.mem_of_getElem? ac)
 refine Y.dk rfl rfl .z (aN rfl bR (.t .z) (WS.m .g1 ac)) ?_
 refine Y.i (WS.h .z (by omega)) ?_
 rintro⟨bb,rfl⟩
 refine Y.dk rfl rfl .z (aB (j:=Int.toNat a1) rfl lE kL (.t .g11) (.t .z) (by omega) (by first | omega |(rw [hdl];omega))) ?_
 refine Y.add (c:=aG bX [] [.slice none 0 0]) (fun w S=>aK w S none) ?_
 refine Y.es (aC rfl rfl) rfl (mE (j:=Int.toNat a1) rfl kL (.t .z) .c rfl (.c .g1 (.c .z .n)) (by first | omega |(rw [hdl];omega))) ?_
 refine Y.af .z (aAh ac) ?_
 refine Y.sl rfl ?_
 refine Y.aa ?_
 refine Y.ai (by kernel_rfl) ?_
 refine Y.y (Y.g (Y.region (Y.mv rfl (.s16 .g11) ?_)))
 refine Y.ql rfl (bG (c:=((k+1:Nat):Int)) rfl (.t .z) .c (wr (by omega) (by omega) (by omega))) ?_
 refine Y.er (.s16 .g13) (Y.as rfl .z (Y.nil ?_))
 refine Y.ae (k+1) (by omega) (by first | omega |(dsimp only;omega)) (.c .z (.c (.s16 .g14) (.c (.s16 .g15) .n))) (fun _ h=>h.sel (.c .z (.c .z (.c .z (.c .z (.c .z (.c .z (.c .z .n))))))))
 refine Y.exit (Y.w (Y.w (Y.ag (Y.g (Y.region (Y.mv rfl .g12 (Y.nc rfl .z (Y.fa rfl .z aP ?_))))))))
 refine Y.ld rfl bO .z .g6 (Y.mv rfl (.s16 .g1) (Y.ql rfl (aZ (cs:= [.int .i64 0,.int .i64 0,.int .i64 0,.slice none 0 0,.slice none 0 0]) rfl qJ pv0 rfl) ?_))
 refine Y.ql rfl (aB (j:=Int.toNat a) rfl cI aU (.t .g2) (.t .g1) (by omega) (by first | omega |(rw [hdl];omega))) ?_
 refine Y.es (aE rfl) rfl (jZ (j:=Int.toNat a) (off:=0) (cs:= [.int .i64 0,.int .i64 0,.int .i64 0,.slice none 0 0,.slice none 0 0]) rfl aU (.t .z) rfl (.t .g1) rfl (nJ rfl) .g5 ai (Nat.le_of_ble_eq_true rfl)) ?_
 refine Y.af (x':=List.set af (Int.toNat a) [.int .i64 0,.int .i64 0,.int .i64 0,.slice none 0 0,.slice none 0 0]) .z rfl ?_
 refine Y.nil ?_
 refine Y.add (c:=aG aY [] [.slice none 0 0]) (fun w S=>aK w S none) ?_
 refine Y.add (c:=aG dL [] [.slice none 0 0]) (fun w S=>aK w S none) ?_
 refine Y.ac (c:=aG cA (⟨0,0,0,[],[]⟩:aF) [.int .i64 0,.int .i64 0,.int .i64 0,.slice none 0 0,.slice none 0 0]) (.c .g1 (.c .z .n)) (fun w S h=>cP (⟨0,0,0,[],[]⟩:aF) h) ?_
 refine Y.ac (c:=aG aW (List.set f.inodes (Int.toNat a) (⟨0,0,0,[],[]⟩:aF)) [.slice (some ap) f.inodes.length aj]) (.c .g1 (.c .z (.c .g3 (.c .g3 .n)))) (eU (K:=cA) ab (List.getElem?_eq_some_iff.1 ah).1 rfl) ?_
 refine Y.af (x':=fW f a) .g1 (by unfold fW;rw [ag,show k=y4.blocks.length by omega]) ?_
 refine Y.ay (zD rfl) (.c .g4 (.c .g1 (.c .z .n))) ?_
 exact⟨_,_,rfl,rfl⟩

theorem aNb {w0:World}{S0:Bs}{f:DFs}{g0 e0 s0:Nat}{aa:List Value}{ab:Value}{ac:Value} (a:Int) (hs:cJ [bZ g0 e0 s0 1 (ab :: ac :: aa),aG aW f.inodes [ab],aG cV f.data [ac]] w0 S0) (hp:bY f.inodes.length a) (hd:f.data.length=20) (hb:∀b,b∈eE f.inodes a→0≤b∧b≤19):
    Calls Tryz.prog 73 #[.pointer (some ⟨g0,0,none⟩),.int .i64 a] w0 (aI w0 S0 (aDj g0 e0 s0 aa (oN f a))):=by
 obtain⟨an,ao⟩:=hp
 refine Y.enter (N:=14) Tryz.func73 rfl rfl (by simp) [(0,.pointer (some ⟨g0,0,none⟩)),(1,.int .i64 a)] (by simp) hs ?_
 refine Y.i (WS.a .g1) ?_
 rintro⟨ad,ae,rfl,ah,ai,aj⟩
 refine Y.i (WS.a .g2) ?_
 rintro⟨af,ag,rfl,ak,al,am⟩
 refine Y.seq (Y.region (Y.mv rfl .z (Y.mv rfl .g2 ?_)))
 refine Y.cl rfl rfl Tryz.func120 rfl rfl (aR (.t .g1) (.t .z)) (.c .g1 (.c .g1 .n)) (fun _ _ hs tr=>aI9 (f:=f) (tr.ptrpre .z (⟨rfl,rfl,nJ rfl⟩:(mC 2 (by decide)).ro _ _ [.slice ad f.inodes.length ae,.slice af f.data.length ag] [.slice ad f.inodes.length ae,.slice af f.data.length ag]) (aFu (cs:= [.slice ad f.inodes.length ae,.slice af f.data.length ag]) (k:=2) rfl rfl)) _ hs (by first | assumption |(constructor <;> omega)) (by assumption) (by assumption)) ?_
 rintro _ _ ⟨rfl,rfl⟩
 refine Y.r (.c (.c .n)) ?_
 refine Y.af (x':=f.inodes) .z rfl ?_
 refine Y.af (x':=fW f a) .g1 rfl ?_
 refine Y.nt (Y.region (Y.mv rfl .g3 (Y.nc rfl .z (Y.fa rfl .z aP (Y.ld rfl bO .z .g2 (Y.mv rfl .g8 (Y.ql rfl (aZ (cs:= [.int .i64 0,.int .i64 0,.int .i64 0,.slice none 0 0,.slice none 0 0]) rfl qJ pv0 rfl) ?_)))))))
 refine Y.i (WS.h .g1 (by omega)) ?_
 rintro⟨ap,rfl⟩
 refine Y.ql rfl (aB (j:=Int.toNat a) rfl cI aU (.t .g2) (.t .g1) (by omega) (by omega)) ?_
 refine Y.add (c:=aG aY [] [.slice none 0 0]) (fun w S=>aK w S none) ?_
 refine Y.add (c:=aG dL [] [.slice none 0 0]) (fun w S=>aK w S none) ?_
 refine Y.ac (c:=aG cA (⟨0,0,0,[],[]⟩:aF) [.int .i64 0,.int .i64 0,.int .i64 0,.slice none 0 0,.slice none 0 0]) (.c .g1 (.c .z .n)) (fun w S h=>cP (⟨0,0,0,[],[]⟩:aF) h) ?_
 refine Y.es (aE rfl) rfl (mE (j:=Int.toNat a) rfl aU (.t .z) (.t .g1) rfl (.c .g2 (.c .z .n)) (by omega)) ?_
 refine Y.nil ?_
 refine Y.ay (zD rfl) (.c .g2 (.c .z (.c .z .n))) ?_
 exact⟨_,_,rfl,rfl⟩

theorem aK2 {w0:World}{S0:Bs}{f:DFs}{ad0:Addr} (h0:gJ eS w0 (FF w0 S0) ad0 f) (a:Int):
    Calls Tryz.prog 113 #[.pointer (some ad0),.int .i64 a] w0 (aI w0 S0 (fun r l=>r= .int .i64 (bS f a)∧l= [])):=by
 obtain⟨ec0,hF0,hr0,hc0⟩:=id h0
 obtain⟨u0_0,u0_1,rfl,h0_0,h0_1⟩:=cQ hr0
 obtain⟨A0_0,c0_0,rfl,hl0_0,hm0_0,hb0_0,he0_0⟩:=aD h0_0
 obtain⟨A0_1,c0_1,rfl,hl0_1,hm0_1,hb0_1,he0_1⟩:=aD h0_1
 refine Y.enter (N:=11) Tryz.func113 rfl rfl (by simp) [(0,.pointer (some ad0)),(1,.int .i64 a)] (by simp) (l0:= []) trivial ?_
 refine Y.seq (Y.region (Y.ql rfl (aA rfl .c) (Y.nt (Y.seq (Y.region (Y.mv rfl .g1 (Y.nc rfl .z ?_)))))))
 refine Y.ql rfl (qE rfl bN (.t .z) hF0 hc0 aX) (Y.mv rfl .g5 ?_)
 refine Y.cl rfl rfl Tryz.func45 rfl rfl (aR (.t .g1) (.t .z)) .n (fun _ _ hs tr=>aMd (aM f (tr.ctx h0_0) (tr.ctx h0_1)) _) ?_
 rintro _ _ ⟨v3,rfl,rfl⟩
 refine Y.r (.c .n) ?_
 refine Y.i (WS.a .z) ?_
 rintro⟨Ao5,co5,rfl,hlo5,hmo5,hbo5⟩
 refine Y.ql rfl (nK rfl (.t .z) (fun w=>aIe w (.int .i64 ((gQ f a).code)) (.slice Ao5 ((gQ f a).bytes).length co5))) ?_
 refine Y.er .g6 (Y.as rfl .z (Y.nt (Y.ret ?_)))
 refine Y.j (aT rfl .z) .n ?_
 exact⟨by rw [rD],rfl⟩

theorem aNj {w0:World}{S0:Bs}{f:DFs}{an:List Value} (h0:eS.ro w0 (FF w0 S0) f an) (a:Int):
    Calls Tryz.prog 30 #[.agg an.toArray,.int .i64 a] w0 (aI w0 S0 (wE (wX f a))):=by
 obtain⟨ba,bb,rfl,aa,ab⟩:=cQ h0
 obtain⟨ac,ad,rfl,ao,ap,aq,ar⟩:=aD aa
 obtain⟨ae,af,rfl,au,av,aw,ax⟩:=aD ab
 refine Y.enter (N:=20) Tryz.func30 rfl rfl (by simp) [(0,.agg #[.slice ac f.inodes.length ad,.slice ae f.data.length af]),(1,.int .i64 a)] (by simp) (l0:= []) trivial ?_
 refine Y.seq (Y.region ?_)
 refine Y.el rfl (fR (cs:= [.slice ac f.inodes.length ad,.slice ae f.data.length af]) (n:=2) rfl (.t .z) rfl rfl) ?_
 rintro _ _ ⟨g3,rfl,rfl⟩
 refine Y.el rfl (bD rfl vZ rfl rfl) ?_
 rintro _ _ ⟨g4,rfl,rfl⟩
 refine Y.nt (Y.seq (Y.seq (Y.region (Y.ql rfl (qW rfl bN (.t .g1) .g1 aX) (Y.mv rfl .g4 ?_)))))
 refine Y.cl rfl rfl Tryz.func43 rfl rfl (aR (.t .g1) (.t .z)) .n (fun _ _ hs tr=>aIc (aM f (tr.ctx aa) (tr.ctx ab)) _) ?_
 rintro _ _ ⟨rfl,rfl⟩
 refine Y.r .n ?_
 refine Y.as rfl .z (Y.nt (Y.seq (Y.region (Y.mv rfl .z (Y.ql rfl (cC rfl (.t .z) .c) (Y.nt ?_))))))
 refine Y.ad (.t .z) (fun b5=> ?_) (fun b5=> ?_)
 refine Y.seq (Y.region (Y.mv rfl .g2 ?_))
 refine Y.ql rfl (aZ (cs:= [.int .i64 (bS f a),.slice none 0 0,.slice none 0 0]) rfl mZ (pv1 (.t .z)) rfl) ?_
 refine Y.es (aE rfl) rfl (esW rfl (.t .g8) (.t .z) .z fH rfl rfl) ?_
 refine Y.nt (Y.ret (Y.m ?_))
 refine Y.add (c:=aG aW [] [.slice none 0 0]) (fun w S=>aK w S none) ?_
 refine Y.add (c:=aG cV [] [.slice none 0 0]) (fun w S=>aK w S none) ?_
 refine Y.j (dA rfl .g8 lN .g2 fH) (.c .g1 (.c .z .n)) ?_
 first |(rw [aD9 (by assumption)];exact⟨_,_,rfl,rfl⟩) |(rw [aAi (by assumption)];exact⟨_,_,rfl,rfl⟩)
 obtain⟨ah,⟨bc,bd⟩,be,bf⟩:=nI b5
 have ag:=mR ah
 have ai:=kC ag
 have bg:=kD ag
 have bh:=kO ai a
 refine Y.skip (Y.g (Y.seq (Y.region (Y.ql rfl (qW rfl bN (.t .g7) .g1 aX) ?_))))
 refine Y.cl rfl rfl Tryz.func63 rfl rfl (bH (.t .z)) .n (fun _ _ hs tr=>aJ9 (aM f (tr.ctx aa) (tr.ctx ab))) ?_
 rintro _ _ ⟨v9,bn,rfl,rfl⟩
 refine Y.r (.c (.c .n)) ?_
 refine Y.i (WS.a .z) ?_
 rintro⟨bi,bj,rfl,ay,az,a0⟩
 refine Y.i (WS.a .g1) ?_
 rintro⟨bk,bm,rfl,a1,a2,a3⟩
 refine Y.el rfl (bD rfl mQ rfl rfl) ?_
 rintro _ _ ⟨g15,rfl,rfl⟩
 refine Y.es (aE rfl) rfl (esW rfl (.t .z) (.t .g1) .z aX rfl rfl) ?_
 refine Y.nt (Y.seq (Y.region (Y.mv rfl .g12 ?_)))
 refine Y.cl rfl rfl Tryz.func73 rfl rfl (aR (.t .g1) (.t .z)) (.c .z (.c .z (.c .z .n))) (fun _ _ hs tr=>aNb (f:=f) _ hs (by first | assumption |(constructor <;> omega)) (by assumption) (by assumption)) ?_
 rintro _ _ ⟨bo,bp,rfl,rfl⟩
 refine Y.r (.c (.c (.c .n))) ?_
 refine Y.i (WS.a .g1) ?_
 rintro⟨aj,ak,rfl,a4,a5,a6⟩
 refine Y.i (WS.a .g2) ?_
 rintro⟨al,am,rfl,a7,a8,a9⟩
 refine Y.nt (Y.seq (Y.region (Y.ql rfl (qW rfl bN (.t .g2) .z aX) (Y.ql rfl (aZ (cs:= [.int .i64 0,.slice aj ((oN f a).inodes).length ak,.slice al ((oN f a).data).length am]) rfl mZ (pv1 (.t .z)) rfl) ?_))))
 refine Y.es (aE rfl) rfl (esW rfl (.t .g13) (.t .z) .g3 fH rfl rfl) ?_
 refine Y.nt (Y.ret ?_)
 refine Y.j (dA rfl .g13 lN .z fH) (.c .g2 (.c .g2 .n)) ?_
 first |(rw [aD9 (by assumption)];exact⟨_,_,rfl,rfl⟩) |(rw [aAi (by assumption)];exact⟨_,_,rfl,rfl⟩)

end Go.Proofs.YtmejbfmhaoilmaaGreat

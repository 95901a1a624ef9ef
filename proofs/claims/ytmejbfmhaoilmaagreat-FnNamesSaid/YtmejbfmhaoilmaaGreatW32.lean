/- What is proved: contracts of functions, one a function. No condition. -/
import Derived.Test.YtmejbfmhaoilmaaGreatBase1
import Derived.Test.YtmejbfmhaoilmaaGreatW31
import Derived.Test.YtmejbfmhaoilmaaGreatW30
namespace Go.Proofs.YtmejbfmhaoilmaaGreat
open Go Go.RowKit
set_option linter.unusedVariables false
set_option linter.unusedSimpArgs false
set_option maxHeartbeats 1000000
set_option maxRecDepth 20000
theorem aLf {w0:World}{S0:Bs}{x:(List Int)}{v0:Value} (h0:bY.ro w0 (FF w0 S0) x [v0]):
    Calls Tryz.prog 145 #[v0] w0 (aJ w0 S0 (fun r l=>l= [aG bY x [r]])):=by
 obtain⟨A0,c0,rfl,hl0,hm0,hb0,he0⟩:=aH h0
 refine Y.enter (N:=6) Tryz.func145 rfl rfl (by simp) [(0,.slice A0 x.length c0)] (by simp) (l0:= []) trivial ?_
 refine Y.seq (Y.region (Y.ql rfl (aA rfl .c) (Y.nt (Y.seq (Y.region ?_)))))
 refine Y.el rfl (eH rfl eQ (inz iO)) ?_
 rintro _ _ ⟨g2,rfl,rfl⟩
 refine Y.mv rfl .g2 ?_
 refine Y.add (c:=aG bY ([]:(List Int)) [.slice (some ⟨g2,0,none⟩) 0 0]) (fun w S=>aN w S _) ?_
 refine Y.el rfl (eG (bC _ _ _) rfl eQ iO rfl (.t .g1) (.t .z) (.c .z .n) (fun w1 S1 tr=>tr.ctx h0) (by first | omega |(simp only [List.length_append,List.length_take,List.length_nil,List.length_cons];omega)) (by first | omega |(simp only [List.length_append,List.length_take,List.length_nil,List.length_cons];omega))) ?_
 rintro _ _ rfl
 refine Y.af .z (List.nil_append _) ?_
 refine Y.h (WS.a .z) ?_
 rintro⟨Ao4,co4,rfl,hlo4,hmo4,hbo4⟩
 refine Y.er .g3 (Y.as rfl .z (Y.nt (Y.ret ?_)))
 refine Y.i (aY rfl .z) (.c .z .n) ?_
 rfl

theorem aMt {w0:World}{S0:Bs}{x:aF}{ag:List Value} (h0:bD.ro w0 (FF w0 S0) x ag):
    Calls Tryz.prog 115 #[.agg ag.toArray] w0 (aJ w0 S0 (aLk x)):=by
 obtain⟨ap,aq,rfl,aa,ab⟩:=cK h0
 obtain⟨ac,ad,rfl,ah,ai,aj,ak⟩:=aH aa
 obtain⟨ae,af,rfl,al,am,an,ao⟩:=aH ab
 refine Y.enter (N:=13) Tryz.func115 rfl rfl (by simp) [(0,.agg #[.int .i64 x.kind,.int .i64 x.links,.int .i64 x.size,.slice ac x.blocks.length ad,.slice ae x.ents.length af])] (by simp) (l0:= []) trivial ?_
 refine Y.seq (Y.region ?_)
 refine Y.el rfl (fT (cs:= [.int .i64 x.kind,.int .i64 x.links,.int .i64 x.size,.slice ac x.blocks.length ad,.slice ae x.ents.length af]) (n:=5) rfl (.t .z) rfl rfl) ?_
 rintro _ _ ⟨g3,rfl,rfl⟩
 refine Y.el rfl (bL rfl tB rfl rfl) ?_
 rintro _ _ ⟨g4,rfl,rfl⟩
 refine Y.nt (Y.seq (Y.region (Y.fa rfl .g1 dI (Y.ld rfl fA .z .g1 ?_))))
 refine Y.cl rfl rfl Tryz.func145 rfl rfl (bT (.t .z)) .n (fun _ _ hs tr=>aLf (tr.ctx aa)) ?_
 rintro _ _ rfl
 refine Y.m (.c .n) ?_
 refine Y.h (WS.a .z) ?_
 rintro⟨az,a0,rfl,ar,au,av⟩
 refine Y.fa rfl .g4 dI ?_
 refine Y.es (aD rfl) rfl (es1 (off:=3) rfl aCd (.t .z) (.t .g1) rfl rfl .g2 rfl .g3) ?_
 refine Y.nt (Y.seq (Y.region ?_))
 refine Y.el rfl (eH rfl cZ (inz eF)) ?_
 rintro _ _ ⟨g7,rfl,rfl⟩
 refine Y.fa rfl .g6 bE (Y.ld rfl dP .z .g1 ?_)
 refine Y.add (c:=aG cP ([]:(List aQ)) [.slice (some ⟨g7,0,none⟩) 0 0]) (fun w S=>aN w S _) ?_
 refine Y.el rfl (eG (fS _ (eX (bC _ _ _) (bC _ _ _))) rfl cZ eF rfl (.t .g2) (.t .z) (.c .z .n) (fun w1 S1 tr=>tr.ctx ab) (by first | omega |(simp only [List.length_append,List.length_take,List.length_nil,List.length_cons];omega)) (by first | omega |(simp only [List.length_append,List.length_take,List.length_nil,List.length_cons];omega))) ?_
 rintro _ _ rfl
 refine Y.af .z (List.nil_append _) ?_
 refine Y.h (WS.a .z) ?_
 rintro⟨a1,a2,rfl,aw,ax,ay⟩
 refine Y.fa rfl .g9 bE ?_
 refine Y.es (aD rfl) rfl (es1 (off:=4) rfl nC (.t .z) (.t .g1) rfl rfl .g2 rfl .g4) ?_
 refine Y.nt (Y.seq (Y.region (Y.ql rfl (qW rfl fG (.t .g10) .z aU) ?_)))
 refine Y.es (aD rfl) rfl (esW rfl (.t .g10) (.t .z) .g4 aU rfl rfl) ?_
 refine Y.nt (Y.ret ?_)
 refine Y.i (dD rfl .g10 fG .z aU) (.c .g4 (.c .g2 .n)) ?_
 exact⟨_,_,rfl,rfl⟩

theorem vJ {w0:World}{S0:Bs}{f:DFs}{bs:List Value} (h0:eU.ro w0 (FF w0 S0) f bs):
    Calls Tryz.prog 67 #[.agg bs.toArray] w0 (aJ w0 S0 (aId f)):=by
 obtain⟨co,cp,rfl,bd,be⟩:=cY h0
 obtain⟨af,ag,rfl,bt,bu,bv,ap⟩:=aH bd
 obtain⟨ah,ai,rfl,bw,bx,bz,aq⟩:=aH be
 refine Y.enter (N:=45) Tryz.func67 rfl rfl (by simp) [(0,.agg #[.slice af f.inodes.length ag,.slice ah f.data.length ai])] (by simp) (l0:= []) trivial ?_
 refine Y.seq (Y.region ?_)
 refine Y.el rfl (fT (cs:= [.slice af f.inodes.length ag,.slice ah f.data.length ai]) (n:=2) rfl (.t .z) rfl rfl) ?_
 rintro _ _ ⟨g3,rfl,rfl⟩
 refine Y.el rfl (bL rfl nF rfl rfl) ?_
 rintro _ _ ⟨g4,rfl,rfl⟩
 refine Y.nt (Y.seq (Y.region (Y.ql rfl (aZ (cs:= [.slice none 0 0,.slice none 0 0]) rfl aH1 pv0 rfl) ?_)))
 refine Y.el rfl (bL rfl nF rfl rfl) ?_
 rintro _ _ ⟨g5,rfl,rfl⟩
 refine Y.es (aD rfl) rfl (esW rfl (.t .z) (.t .g1) .z aW rfl rfl) ?_
 refine Y.nt (Y.seq (Y.seq (Y.region (Y.ql rfl (aA rfl .c) (Y.nt (Y.block ?_))))))
 refine Y.add (c:=aG aP [] [.slice none 0 0]) (fun w S=>aN w S none) ?_
 refine Y.aj (γ:=Nat×(Option Addr)×Nat) (fun⟨k,aa,ab⟩=> [(4,.int .i64 (k:Int)),(3,.pointer (some ⟨g5,0,none⟩)),(2,.pointer (some ⟨g4,0,none⟩)),(1,.pointer (some ⟨g3,0,none⟩))]) (fun⟨k,aa,ab⟩=> [aG aP (List.take k f.inodes) [.slice aa (List.take k f.inodes).length ab],cM g5 27 2 1 [.slice aa (List.take k f.inodes).length ab,.slice none 0 0],cM g4 27 2 1 [.slice none 0 0,.slice none 0 0],cM g3 27 2 1 [.slice af f.inodes.length ag,.slice ah f.data.length ai]]) (fun⟨k,aa,ab⟩=>k≤f.inodes.length) (fun⟨k,aa,ab⟩=>f.inodes.length - k) (0,none,0) (Nat.zero_le _) (.c .z (.c .g1 (.c .g3 (.c .g4 .n)))) (fun _ h=>h.sel (.c .z (.c .z (.c .z (.c .z .n))))) ?_
 rintro⟨k,aa,ab⟩ hk
 refine Y.seq (Y.seq (Y.region (Y.mv rfl .z (Y.fa rfl .g4 aO (Y.ld rfl bK .z .g3 (Y.ql rfl (bM rfl cE (.t .z)) (Y.ql rfl (dJ rfl (.t .g3) (.t .z)) (Y.nil ?_))))))))
 refine Y.g ?_
 refine Y.u (.t .z) (fun b7=> ?_) (fun b7=> ?_)
 refine Y.skip (Y.g (Y.seq (Y.block ?_)))
 refine Y.dr .g1 11 gG ?_
 refine Y.sc (qs 0 7++ [(7,false),(8,false),(9,false),(10,true),(11,false)]) (by kernel_rfl) ?_
 refine Y.df rfl rfl .g1 .g6 aO (Y.dl rfl rfl .g1 bK .z .z (Y.df rfl rfl .g1 .g10 aO (Y.dl rfl rfl .g1 bK .z .g2 (Y.dm rfl rfl .g1 .g9 ?_))))
 obtain⟨cx,ar,au⟩:=ap (by omega)
 subst ar
 obtain⟨x9,b0⟩:=aI (xs:=f.inodes) (j:=k) (by omega)
 obtain⟨b1,ak,av,aw⟩:=au.elem b0
 obtain⟨bf,bg,rfl,al,am⟩:=cK ak
 obtain⟨bh,bi,rfl,a5,a6,a7,a8⟩:=aH al
 obtain⟨bj,bk,rfl,a9,ba,bb,bc⟩:=aH am
 refine Y.dk rfl rfl .g1 (aC (j:=k) rfl cE aU (.t .g1) (.t .z) rfl (by omega)) ?_
 refine Y.dk rfl rfl .g1 (qE rfl fG (.t .z) av aw aU) ?_
 refine Y.call (aE rfl rfl) rfl (by decide) rfl (bS rfl Tryz.func115 rfl rfl (bT (.t .z))) .n (fun _ _ hs tr=>aMt (tr.ctx ak)) ?_
 rintro _ _ ⟨cy,cz,rfl,rfl⟩
 refine Y.m (.c (.c .n)) ?_
 refine Y.h (WS.a .z) ?_
 rintro⟨ax,ay,rfl,b2,b3,b4⟩
 refine Y.h (WS.a .g1) ?_
 rintro⟨az,a0,rfl,b5,b6,b8⟩
 refine Y.sk .g3 ?_
 refine Y.e (aE rfl rfl) rfl (by decide) rfl (aS (cs:= [.int .i64 x9.kind,.int .i64 x9.links,.int .i64 x9.size,.slice ax x9.blocks.length ay,.slice az x9.ents.length a0]) rfl cE (inz lF) (by decide) (pv1 (.t .z)) rfl rfl (by decide) rfl rfl) ?_
 rintro _ _ ⟨g19,rfl,rfl⟩
 refine Y.sk .g4 ?_
 refine Y.v (c:=aG bD (⟨x9.kind,x9.links,x9.size,x9.blocks,x9.ents⟩:aF) [.int .i64 x9.kind,.int .i64 x9.links,.int .i64 x9.size,.slice ax x9.blocks.length ay,.slice az x9.ents.length a0]) (.c .g1 (.c .g1 .n)) (fun w S h=>bF (⟨x9.kind,x9.links,x9.size,x9.blocks,x9.ents⟩:aF) h) ?_
 refine Y.e (aE rfl rfl) rfl (by decide) rfl (dU rfl cE lF rfl (.t .g7) (.t .z) (.c .g2 (.c .g1 (.c .z .n))) (by first | omega |(simp only [List.length_take,List.length_cons,List.length_nil];omega)) (by first | omega |(simp only [List.length_take,List.length_cons,List.length_nil];omega))) ?_
 rintro _ _ rfl
 refine Y.af .z (uX b0).symm ?_
 refine Y.h (WS.a .z) ?_
 rintro⟨bm,bn,rfl,b9,ca,cb⟩
 refine Y.sk .g1 ?_
 refine Y.df rfl rfl .g1 .g16 aO ?_
 refine Y.es (aE rfl rfl) rfl (es1 (off:=0) rfl aEy (.t .z) (.t .g1) rfl rfl .g1 rfl .z) ?_
 refine Y.sl rfl ?_
 refine Y.aa ?_
 refine Y.ag (by kernel_rfl) ?_
 refine Y.ac (Y.g (Y.region (Y.mv rfl .g16 ?_)))
 refine Y.ql rfl (bQ (c:=((k+1:Nat):Int)) rfl (.t .z) .c (wr (by omega) (by omega) (by omega))) ?_
 refine Y.er (.s16 .g2) (Y.as rfl .z (Y.nil ?_))
 refine Y.ae ((k+1),bm,bn) (by omega) (by first | omega |(dsimp only;omega)) (.c .z (.c (.s16 .g3) (.c (.s16 .g4) (.c (.s16 .g5) .n)))) (fun _ h=>h.sel (.c .g1 (.c .z (.c .z (.c .z .n)))))
 refine Y.exit (Y.ab (Y.ab (Y.ai (Y.g (Y.seq (Y.seq (Y.region (Y.ql rfl (aA rfl .c) ?_))))))))
 refine Y.nt (Y.block ?_)
 have a1:List.take k f.inodes=f.inodes:=(List.take_of_length_le (by omega))
 refine Y.ak .z (congrArg (fun z_=>(aG aP (z_) [.slice aa (z_).length ab]:Asn)) a1) ?_
 refine Y.ak .g1 (congrArg (fun z_=>(cM g5 27 2 1 [.slice aa (z_).length ab,.slice none 0 0]:Asn)) a1) ?_
 refine Y.add (c:=aG cG [] [.slice none 0 0]) (fun w S=>aN w S none) ?_
 refine Y.aj (γ:=Nat×(Option Addr)×Nat) (fun⟨q,ac,ad⟩=> [(5,.int .i64 (q:Int)),(3,.pointer (some ⟨g5,0,none⟩)),(2,.pointer (some ⟨g4,0,none⟩)),(1,.pointer (some ⟨g3,0,none⟩))]) (fun⟨q,ac,ad⟩=> [aG cG (List.take q f.data) [.slice ac (List.take q f.data).length ad],cM g5 27 2 1 [.slice aa (f.inodes).length ab,.slice ac (List.take q f.data).length ad],aG aP f.inodes [.slice aa (f.inodes).length ab],cM g4 27 2 1 [.slice none 0 0,.slice none 0 0],cM g3 27 2 1 [.slice af f.inodes.length ag,.slice ah f.data.length ai]]) (fun⟨q,ac,ad⟩=>q≤f.data.length) (fun⟨q,ac,ad⟩=>f.data.length - q) (0,none,0) (Nat.zero_le _) (.c .z (.c .g7 (.c .g8 (.c .g9 .n)))) (fun _ h=>h.sel (.c .z (.c .z (.c .z (.c .z (.c .z .n)))))) ?_
 rintro⟨q,ac,ad⟩ hq
 refine Y.seq (Y.seq (Y.region (Y.mv rfl .z (Y.fa rfl .g4 gR (Y.ld rfl lM .z .g4 (Y.ql rfl (bM rfl mA (.t .z)) (Y.ql rfl (dJ rfl (.t .g3) (.t .z)) (Y.nil ?_))))))))
 refine Y.g ?_
 refine Y.u (.t .z) (fun cq=> ?_) (fun cq=> ?_)
 refine Y.skip (Y.g (Y.seq (Y.block ?_)))
 refine Y.sel (.c .z (.c .g1 (.c .z (.c .z (.c .z .n))))) ?_
 refine Y.dr .g2 12 gG ?_
 refine Y.sc ([(0,true),(1,true)]++qs 3 5++ [(2,false),(8,false),(9,false),(10,false),(11,true),(12,false)]) (by kernel_rfl) ?_
 refine Y.df rfl rfl .g2 .g6 gR (Y.dl rfl rfl .g2 lM .z .z (Y.df rfl rfl .g2 .g10 gR (Y.dl rfl rfl .g2 lM .z .g2 (Y.dm rfl rfl .g2 .g9 ?_))))
 obtain⟨cr,an,ao⟩:=aq (by omega)
 subst an
 obtain⟨ct,a2⟩:=aI (xs:=f.data) (j:=q) (by omega)
 obtain⟨cc,ae,a3,a4⟩:=ao.elem a2
 obtain⟨cu,rfl⟩:=mD ae
 obtain⟨cv,cw,rfl,cd,ce,cf,cg⟩:=aH ae
 refine Y.dk rfl rfl .g2 (aC (j:=q) rfl mA mC (.t .g1) (.t .z) rfl (by omega)) ?_
 refine Y.dk rfl rfl .g2 (aL rfl nL (.t .z) (WS.j a3 a4 rfl)) ?_
 refine Y.e (aE rfl rfl) rfl (by decide) rfl (eH rfl gV (inz kB)) ?_
 rintro _ _ ⟨g29,rfl,rfl⟩
 refine Y.sk .g3 ?_
 refine Y.add (c:=aG cX ([]:(List UInt8)) [.slice (some ⟨g29,0,none⟩) 0 0]) (fun w S=>aN w S _) ?_
 refine Y.e (aE rfl rfl) rfl (by decide) rfl (eG (bC _ _ _) rfl gV kB rfl (.t .z) (.t .g1) (.c .z .n) (fun w1 S1 tr=>tr.ctx ae) (by first | omega |(simp only [List.length_take,List.length_cons,List.length_nil];omega)) (by first | omega |(simp only [List.length_take,List.length_cons,List.length_nil];omega))) ?_
 rintro _ _ rfl
 refine Y.af .z (List.nil_append _) ?_
 refine Y.h (WS.a .z) ?_
 rintro⟨bo,bp,rfl,ch,ci,cj⟩
 refine Y.sk .g4 ?_
 refine Y.e (aE rfl rfl) rfl (by decide) rfl (aS (cs:= [.slice bo ct.length bp]) rfl mA (inz wU) (by decide) (pv1 (.t .z)) rfl rfl (by decide) rfl rfl) ?_
 rintro _ _ ⟨g32,rfl,rfl⟩
 refine Y.sk .g5 ?_
 refine Y.e (aE rfl rfl) rfl (by decide) rfl (dU rfl mA wU rfl (.t .g8) (.t .z) (.c .g3 (.c .z (.c .z .n))) (by first | omega |(simp only [List.length_take,List.length_cons,List.length_nil];omega)) (by first | omega |(simp only [List.length_take,List.length_cons,List.length_nil];omega))) ?_
 rintro _ _ rfl
 refine Y.af .z (uX a2).symm ?_
 refine Y.h (WS.a .z) ?_
 rintro⟨bq,br,rfl,ck,cm,cn⟩
 refine Y.sk .g3 ?_
 refine Y.df rfl rfl .g3 (.s16 .g1) gR ?_
 refine Y.es (aE rfl rfl) rfl (es1 (off:=1) rfl aJx (.t .z) (.t .g1) rfl rfl .g3 rfl .g1) ?_
 refine Y.sl rfl ?_
 refine Y.aa ?_
 refine Y.ag (by kernel_rfl) ?_
 refine Y.ac (Y.g (Y.region (Y.mv rfl (.s16 .g1) ?_)))
 refine Y.ql rfl (bQ (c:=((q+1:Nat):Int)) rfl (.t .z) .c (wr (by omega) (by omega) (by omega))) ?_
 refine Y.er (.s16 .g3) (Y.as rfl .z (Y.nil ?_))
 refine Y.ae ((q+1),bq,br) (by omega) (by first | omega |(dsimp only;omega)) (.c .z (.c (.s16 .g4) (.c (.s16 .g5) (.c (.s16 .g6) .n)))) (fun _ h=>h.sel (.c .g1 (.c .z (.c .g1 (.c .g1 (.c .g1 .n))))))
 refine Y.exit (Y.ab (Y.ab (Y.ai (Y.g (Y.seq (Y.region (Y.ql rfl (qW rfl bI (.t .g6) .g1 aW) ?_)))))))
 refine Y.es (aD rfl) rfl (esW rfl (.t .g8) (.t .z) .g3 aW rfl rfl) ?_
 refine Y.nt (Y.ret ?_)
 have aj:List.take q f.data=f.data:=(List.take_of_length_le (by omega))
 refine Y.eq .z (congrArg (fun z_=>(.agg #[.slice aa (f.inodes).length ab,.slice ac (z_).length ad]:Value)) aj) ?_
 refine Y.ak .z (congrArg (fun z_=>(cM g4 27 2 1 [.slice aa (f.inodes).length ab,.slice ac (z_).length ad]:Asn)) aj) ?_
 refine Y.ak .g1 (congrArg (fun z_=>(aG cG (z_) [.slice ac (z_).length ad]:Asn)) aj) ?_
 refine Y.ak .g2 (congrArg (fun z_=>(cM g5 27 2 1 [.slice aa (f.inodes).length ab,.slice ac (z_).length ad]:Asn)) aj) ?_
 refine Y.i (dD rfl .g8 bI .g2 aW) (.c .g3 (.c .g1 .n)) ?_
 exact⟨_,_,rfl,rfl⟩

theorem aMf {w0:World}{S0:Bs}{f:DFs}{bh:List Value} (h0:eU.ro w0 (FF w0 S0) f bh):
    Calls Tryz.prog 63 #[.agg bh.toArray] w0 (aJ w0 S0 (aId f)):=by
 obtain⟨b1,b2,rfl,a8,ao⟩:=cY h0
 obtain⟨af,ag,rfl,bi,bj,bk,ap⟩:=aH a8
 obtain⟨ai,aj,rfl,bm,bn,bo,bp⟩:=aH ao
 refine Y.enter (N:=33) Tryz.func63 rfl rfl (by simp) [(0,.agg #[.slice af f.inodes.length ag,.slice ai f.data.length aj])] (by simp) (l0:= []) trivial ?_
 refine Y.seq (Y.region ?_)
 refine Y.el rfl (fT (cs:= [.slice af f.inodes.length ag,.slice ai f.data.length aj]) (n:=2) rfl (.t .z) rfl rfl) ?_
 rintro _ _ ⟨g3,rfl,rfl⟩
 refine Y.el rfl (bL rfl nF rfl rfl) ?_
 rintro _ _ ⟨g4,rfl,rfl⟩
 refine Y.nt (Y.seq (Y.region (Y.fa rfl .g1 gR (Y.ld rfl lM .z .g1 ?_))))
 refine Y.cl rfl rfl Tryz.func55 rfl rfl (bT (.t .z)) .n (fun _ _ hs tr=>aNu (tr.ctx ao)) ?_
 rintro _ _ rfl
 refine Y.m (.c .n) ?_
 refine Y.h (WS.a .z) ?_
 rintro⟨am,an,rfl,b3,b4,b5⟩
 refine Y.ql rfl (aZ (cs:= [.slice none 0 0,.slice am f.data.length an]) rfl aH1 (pv1 (.t .z)) rfl) ?_
 refine Y.el rfl (bL rfl nF rfl rfl) ?_
 rintro _ _ ⟨g7,rfl,rfl⟩
 refine Y.es (aD rfl) rfl (esW rfl (.t .z) (.t .g1) .z aW rfl rfl) ?_
 refine Y.nt (Y.seq (Y.seq (Y.region (Y.fa rfl .g6 aO (Y.ld rfl bK .z .g3 (Y.ql rfl (bM rfl cE (.t .z)) (Y.ql rfl (aV rfl .c) ?_)))))))
 refine Y.nt (Y.block ?_)
 refine Y.add (c:=aG aP [] [.slice none 0 0]) (fun w S=>aN w S none) ?_
 refine Y.aj (γ:=Nat×(Option Addr)×Nat) (fun⟨k,aa,ab⟩=> [(13,.int .i64 (k:Int)),(12,.int .i64 (f.inodes.length:Int)),(11,.slice af f.inodes.length ag),(3,.pointer (some ⟨g7,0,none⟩)),(2,.pointer (some ⟨g4,0,none⟩))]) (fun⟨k,aa,ab⟩=> [aG aP (List.take k f.inodes) [.slice aa (List.take k f.inodes).length ab],cM g7 27 2 1 [.slice aa (List.take k f.inodes).length ab,.slice am f.data.length an],aG cG f.data [.slice am f.data.length an],cM g4 27 2 1 [.slice none 0 0,.slice none 0 0],cM g3 27 2 1 [.slice af f.inodes.length ag,.slice ai f.data.length aj]]) (fun⟨k,aa,ab⟩=>k≤f.inodes.length) (fun⟨k,aa,ab⟩=>f.inodes.length - k) (0,none,0) (Nat.zero_le _) (.c .z (.c .g1 (.c .g2 (.c .g4 (.c .g9 .n))))) (fun _ h=>h.sel (.c .z (.c .z (.c .z (.c .z (.c .z .n)))))) ?_
 rintro⟨k,aa,ab⟩ hk
 refine Y.seq (Y.region (Y.ql rfl (dJ rfl (.t .z) (.t .g1)) (Y.nt (Y.seq ?_))))
 refine Y.u (.t .z) (fun b9=> ?_) (fun b9=> ?_)
 refine Y.skip (Y.g (Y.seq (Y.block (Y.seq (Y.region ?_)))))
 obtain⟨b6,ak,al⟩:=ap (by omega)
 subst ak
 obtain⟨ac,aq⟩:=aI (xs:=f.inodes) (j:=k) (by omega)
 obtain⟨bq,ar,au,av⟩:=al.elem aq
 obtain⟨a9,ba,rfl,ad,ae⟩:=cK ar
 obtain⟨bb,bc,rfl,a0,a1,a2,a3⟩:=aH ad
 obtain⟨bd,be,rfl,a4,a5,a6,a7⟩:=aH ae
 refine Y.ql rfl (aC (j:=k) rfl cE aU (.t .g3) (.t .g1) rfl (by omega)) ?_
 refine Y.ql rfl (qE rfl fG (.t .z) au av aU) ?_
 refine Y.el rfl (bL rfl tB rfl rfl) ?_
 rintro _ _ ⟨g15,rfl,rfl⟩
 refine Y.es (aD rfl) rfl (esW rfl (.t .z) (.t .g1) .z aU rfl rfl) ?_
 refine Y.nt (Y.seq ?_)
 refine Y.sel (.c .g1 (.c .g2 (.c .z (.c .z (.c .z (.c .z .n)))))) ?_
 refine Y.dr .g2 7 gG ?_
 refine Y.sc [(0,true),(1,true),(3,true),(4,true),(2,false),(6,true),(5,false),(7,false),(8,false),(9,false)] (by kernel_rfl) ?_
 refine Y.df rfl rfl .g2 .z dI (Y.dl rfl rfl .g2 fA .z .z (Y.df rfl rfl .g2 .g2 bE (Y.dl rfl rfl .g2 dP .z .z ?_)))
 refine Y.call (aE rfl rfl) rfl (by decide) rfl (bS rfl Tryz.func110 rfl rfl (bT (.t .g2))) .n (fun _ _ hs tr=>aJ0 (tr.ctx ad)) ?_
 rintro _ _ rfl
 refine Y.m (.c .n) ?_
 refine Y.h (WS.a .z) ?_
 rintro⟨aw,ax,rfl,br,bs,bt⟩
 refine Y.sk .g3 ?_
 refine Y.df rfl rfl .g3 .g5 dI ?_
 refine Y.call (aE rfl rfl) rfl (by decide) rfl (bS rfl Tryz.func111 rfl rfl (bT (.t .g2))) .n (fun _ _ hs tr=>aL6 (tr.ctx ae)) ?_
 rintro _ _ rfl
 refine Y.m (.c .n) ?_
 refine Y.h (WS.a .z) ?_
 rintro⟨ay,az,rfl,bu,bv,bw⟩
 refine Y.sk .g4 ?_
 refine Y.es (aE rfl rfl) rfl (es1 (off:=3) rfl aCd (.t .g1) (.t .g2) rfl rfl .g4 rfl .g3) ?_
 refine Y.sl rfl ?_
 refine Y.q (aE rfl rfl) rfl (by decide) rfl (aK rfl (.t .g7) (fun _=>bE _ _)) ?_
 refine Y.sl rfl ?_
 refine Y.es (aE rfl rfl) rfl (es1 (off:=4) rfl nC (.t .z) (.t .g1) rfl rfl .z rfl .g4) ?_
 refine Y.sl rfl ?_
 refine Y.aa ?_
 refine Y.ag (by kernel_rfl) ?_
 refine Y.g (Y.region (Y.fa rfl .g15 aO (Y.ld rfl bK .z .g5 (Y.ql rfl (qW rfl fG (.t .g10) .z aU) ?_))))
 refine Y.el rfl (aS (cs:= [.int .i64 ac.kind,.int .i64 ac.links,.int .i64 ac.size,.slice aw ac.blocks.length ax,.slice ay ac.ents.length az]) rfl cE (inz lF) (by decide) (pv1 (.t .z)) rfl rfl (by decide) rfl rfl) ?_
 rintro _ _ ⟨g20,rfl,rfl⟩
 refine Y.v (c:=aG bD (⟨ac.kind,ac.links,ac.size,ac.blocks,ac.ents⟩:aF) [.int .i64 ac.kind,.int .i64 ac.links,.int .i64 ac.size,.slice aw ac.blocks.length ax,.slice ay ac.ents.length az]) (.c .g3 (.c .g2 .n)) (fun w S h=>bF (⟨ac.kind,ac.links,ac.size,ac.blocks,ac.ents⟩:aF) h) ?_
 refine Y.el rfl (dU rfl cE lF rfl (.t .g2) (.t .z) (.c .g3 (.c .g1 (.c .z .n))) (by first | omega |(simp only [List.length_take,List.length_cons,List.length_nil];omega)) (by first | omega |(simp only [List.length_take,List.length_cons,List.length_nil];omega))) ?_
 rintro _ _ rfl
 refine Y.af .z (uX aq).symm ?_
 refine Y.h (WS.a .z) ?_
 rintro⟨bf,bg,rfl,bx,bz,b0⟩
 refine Y.fa rfl (.s16 .g4) aO ?_
 refine Y.es (aD rfl) rfl (es1 (off:=0) rfl aEy (.t .z) (.t .g1) rfl rfl .g3 rfl .z) ?_
 refine Y.nil (Y.ac (Y.g (Y.region ?_)))
 refine Y.ql rfl (bQ (c:=((k+1:Nat):Int)) rfl (.t (.s16 .g2)) .c (wr (by omega) (by omega) (by omega))) ?_
 refine Y.er (.s16 .g3) (Y.mv rfl .z (Y.nil ?_))
 refine Y.ae ((k+1),bf,bg) (by omega) (by first | omega |(dsimp only;omega)) (.c .z (.c (.s16 .g4) (.c (.s16 .g5) (.c (.s16 .g6) (.c (.s16 .g7) .n))))) (fun _ h=>h.sel (.c .g1 (.c .z (.c .g1 (.c .g1 (.c .g1 .n))))))
 refine Y.exit (Y.ab (Y.ab (Y.ai (Y.g (Y.seq (Y.region (Y.ql rfl (qW rfl bI (.t .g4) .g1 aW) ?_)))))))
 refine Y.es (aD rfl) rfl (esW rfl (.t .g6) (.t .z) .g3 aW rfl rfl) ?_
 refine Y.nt (Y.ret ?_)
 have ah:List.take k f.inodes=f.inodes:=(List.take_of_length_le (by omega))
 refine Y.eq .z (congrArg (fun z_=>(.agg #[.slice aa (z_).length ab,.slice am f.data.length an]:Value)) ah) ?_
 refine Y.ak .z (congrArg (fun z_=>(cM g4 27 2 1 [.slice aa (z_).length ab,.slice am f.data.length an]:Asn)) ah) ?_
 refine Y.ak .g1 (congrArg (fun z_=>(aG aP (z_) [.slice aa (z_).length ab]:Asn)) ah) ?_
 refine Y.ak .g2 (congrArg (fun z_=>(cM g7 27 2 1 [.slice aa (z_).length ab,.slice am f.data.length an]:Asn)) ah) ?_
 refine Y.i (dD rfl .g6 bI .g2 aW) (.c .g1 (.c .g2 .n)) ?_
 exact⟨_,_,rfl,rfl⟩

theorem aMa {w0:World}{S0:Bs}{f:DFs}{ak:Addr}{ab:Value}{ac:Value} (h0:gP (mM 2 (by decide)) w0 (FF w0 S0) ak [ab,ac]) (a:Int) (hs:cB [aG aP f.inodes [ab],aG cG f.data [ac]] w0 S0) (hp:bR f.inodes.length a) (hd:f.data.length=20) (hb:∀b,b∈fM f.inodes a→0≤b∧b≤19):
    Calls Tryz.prog 120 #[.pointer (some ak),.int .i64 a] w0 (aJ w0 S0 (fun r l=>r= .tuple #[]∧l= [aG aP f.inodes [ab],aG cG (iZ f a) [ac]])):=by
 obtain⟨bd,ap,⟨rfl, -, -⟩,aq⟩:=id h0
 obtain⟨be,bf⟩:=hp
 refine Y.enter (N:=26) Tryz.func120 rfl rfl (by simp) [(0,.pointer (some ak)),(1,.int .i64 a)] (by simp) hs ?_
 refine Y.h (WS.a .z) ?_
 rintro⟨bg,ar,rfl,a2,a3,a4⟩
 refine Y.h (WS.a .g1) ?_
 rintro⟨a5,a6,rfl,a7,a8,a9⟩
 refine Y.seq (Y.region (Y.mv rfl .z (Y.nc rfl .z (Y.fa rfl .z aO (Y.le rfl bK .z ap aq (Y.mv rfl .g5 ?_))))))
 refine Y.w (.c .z .n) eC ?_
 rintro al aa
 obtain⟨y4,am⟩:=aI (xs:=f.inodes) (j:=Int.toNat a) (by first | omega |(rw [hdl];omega))
 obtain⟨c5,an⟩:=aI (xs:=al) (j:=Int.toNat a) (by rw [aa];exact(List.getElem?_eq_some_iff.1 am).1)
 refine Y.an .g1 (cW am an) ?_
 refine Y.w (.c .z .n) dR ?_
 rintro⟨v6,v7⟩ rfl
 refine Y.h (WS.a .z) ?_
 rintro⟨ad,ae,rfl,au,av,aw⟩
 refine Y.h (WS.a .g1) ?_
 rintro⟨ag,ah,rfl,ax,ay,az⟩
 have ai:=sC (a:=a) am (by omega)
 have ao:∀b,b∈y4.blocks→0≤b∧b≤19:=by rw [←ai];exact hb
 refine Y.h (WS.i .g4 (by omega)) ?_
 rintro⟨aj,rfl⟩
 refine Y.ql rfl (aC (j:=Int.toNat a) rfl cE aU (.t .g1) (.t .z) (by omega) (by first | omega |(rw [hdl];omega))) ?_
 refine Y.fa rfl .z dI (Y.ql rfl (aL rfl fA (.t .z) (WS.h .g4 an rfl)) (Y.ql rfl (bM rfl eQ (.t .z)) (Y.ql rfl (aV rfl .c) (Y.nt (Y.block ?_)))))
 refine Y.af (x':=oU f.data y4.blocks 0) .g5 rfl ?_
 refine Y.aj (γ:=Nat) (fun k=> [(15,.int .i64 (k:Int)),(14,.int .i64 (y4.blocks.length:Int)),(13,.slice ad y4.blocks.length ae),(0,.pointer (some ak))]) (fun k=> [aG cG (oU f.data y4.blocks k) [.slice a5 f.data.length a6],aG bY y4.blocks [.slice ad y4.blocks.length ae],aG cP y4.ents [.slice ag y4.ents.length ah],lX bD (List.take (Int.toNat a) f.inodes) (List.take (Int.toNat a) al),lX bD (List.drop (Int.toNat a+1) f.inodes) (List.drop (Int.toNat a+1) al),aG (bA 44 72 (mM bD.sz bD.pos)) al [.slice (some aj) f.inodes.length ar]]) (fun k=>k≤y4.blocks.length) (fun k=>y4.blocks.length - k) 0 (Nat.zero_le _) (.c .z (.c .g1 (.c .g2 (.c .g10 .n)))) (fun _ h=>h.sel (.c .z (.c .z (.c .z (.c .z (.c .z (.c .z .n))))))) ?_
 rintro k hk
 have hdl:=lR (data:=f.data) (bs:=y4.blocks) k
 refine Y.seq (Y.region (Y.ql rfl (dJ rfl (.t .z) (.t .g1)) (Y.nt (Y.seq ?_))))
 refine Y.u (.t .z) (fun ba=> ?_) (fun ba=> ?_)
 refine Y.skip (Y.g (Y.seq (Y.block (Y.seq (Y.region ?_)))))
 refine Y.h (WS.i .g1 (by omega)) ?_
 rintro⟨bb,rfl⟩
 refine Y.ql rfl (aC (j:=k) rfl eQ jQ (.t .g3) (.t .g1) rfl (by first | omega |(rw [hdl];omega))) ?_
 obtain⟨a0,af⟩:=aI (xs:=y4.blocks) (j:=k) (by first | omega |(rw [hdl];omega))
 have a1:=ao _ (List.mem_of_getElem? af)
 refine Y.ql rfl (aL rfl cF (.t .z) (WS.m .g1 af)) (Y.as rfl .z (Y.nt (Y.region (Y.mv rfl .g7 (Y.nc rfl .z (Y.fa rfl .z gR (Y.le rfl lM .z ap aq ?_)))))))
 refine Y.mv rfl .g4 ?_
 refine Y.h (WS.i .z (by omega)) ?_
 rintro⟨bc,rfl⟩
 refine Y.ql rfl (aC (j:=Int.toNat a0) rfl mA mC (.t .g1) (.t .z) (by omega) (by first | omega |(rw [hdl];omega))) ?_
 refine Y.add (c:=aG cX [] [.slice none 0 0]) (fun w S=>aN w S none) ?_
 refine Y.es (aD rfl) rfl (oH (j:=Int.toNat a0) rfl mC (.t .z) .c rfl (.c .g1 (.c .z .n)) (by first | omega |(rw [hdl];omega))) ?_
 refine Y.af .z (aAg af) ?_
 refine Y.nil (Y.ac (Y.g (Y.region ?_)))
 refine Y.ql rfl (bQ (c:=((k+1:Nat):Int)) rfl (.t .g10) .c (wr (by omega) (by omega) (by omega))) ?_
 refine Y.er .g11 (Y.mv rfl .z (Y.nil ?_))
 refine Y.ae (k+1) (by omega) (by first | omega |(dsimp only;omega)) (.c .z (.c .g12 (.c .g13 (.c .g14 .n)))) (fun _ h=>h.sel (.c .z (.c .z (.c .z (.c .z (.c .z (.c .z .n)))))))
 refine Y.exit (Y.ab (Y.ab (Y.ai ?_)))
 refine Y.v (c:=aG bD y4 [.int .i64 y4.kind,.int .i64 y4.links,.int .i64 y4.size,.slice ad y4.blocks.length ae,.slice ag y4.ents.length ah]) (.c .g1 (.c .g1 .n)) (fun w S h=>bF y4 h) ?_
 refine Y.v (c:=aG aP f.inodes [.slice (some aj) f.inodes.length ar]) (.c .g4 (.c .z (.c .g1 (.c .g1 .n)))) (bU (K:=bD) aa am an) ?_
 refine Y.af (x':=iZ f a) .g1 (by unfold iZ;rw [ai,show k=y4.blocks.length by omega]) ?_
 refine Y.aw (sP rfl) (.c .g1 (.c .z .n)) ?_
 exact⟨rfl,rfl⟩

theorem aLj {w0:World}{S0:Bs}{f:DFs}{g0 e0 s0:Nat}{aa:List Value}{ad:Value}{ae:Value} (a:Int) (hs:cB [cM g0 e0 s0 1 (ad :: ae :: aa),aG aP f.inodes [ad],aG cG f.data [ae]] w0 S0) (hp:bR f.inodes.length a) (hd:f.data.length=20) (hb:∀b,b∈fM f.inodes a→0≤b∧b≤19):
    Calls Tryz.prog 207 #[.pointer (some ⟨g0,0,none⟩),.int .i64 a] w0 (aJ w0 S0 (yE g0 e0 s0 aa (sX f a))):=by
 obtain⟨bc,bd⟩:=hp
 refine Y.enter (N:=41) Tryz.func207 rfl rfl (by simp) [(0,.pointer (some ⟨g0,0,none⟩)),(1,.int .i64 a)] (by simp) hs ?_
 refine Y.h (WS.a .g1) ?_
 rintro⟨aq,aj,rfl,a3,a4,a5⟩
 refine Y.h (WS.a .g2) ?_
 rintro⟨ar,au,rfl,a6,a7,a8⟩
 refine Y.seq (Y.seq (Y.region (Y.ql rfl (aA rfl .c) (Y.nt (Y.block ?_)))))
 refine Y.w (.c .g1 .n) eC ?_
 rintro af ab
 obtain⟨y4,ah⟩:=aI (xs:=f.inodes) (j:=Int.toNat a) (by first | omega |(rw [hdl];omega))
 obtain⟨c5,ai⟩:=aI (xs:=af) (j:=Int.toNat a) (by rw [ab];exact(List.getElem?_eq_some_iff.1 ah).1)
 refine Y.an .g1 (cW ah ai) ?_
 refine Y.w (.c .z .n) dR ?_
 rintro⟨v6,v7⟩ rfl
 refine Y.h (WS.a .z) ?_
 rintro⟨ak,al,rfl,av,aw,ax⟩
 refine Y.h (WS.a .g1) ?_
 rintro⟨am,an,rfl,ay,az,a0⟩
 have ag:=sC (a:=a) ah (by omega)
 have ao:∀b,b∈y4.blocks→0≤b∧b≤19:=by rw [←ag];exact hb
 refine Y.af (x':=oU f.data y4.blocks 0) .g6 rfl ?_
 refine Y.aj (γ:=Nat) (fun k=> [(4,.int .i64 (k:Int)),(0,.pointer (some ⟨g0,0,none⟩)),(1,.int .i64 a)]) (fun k=> [aG cG (oU f.data y4.blocks k) [.slice ar f.data.length au],aG bY y4.blocks [.slice ak y4.blocks.length al],aG cP y4.ents [.slice am y4.ents.length an],lX bD (List.take (Int.toNat a) f.inodes) (List.take (Int.toNat a) af),lX bD (List.drop (Int.toNat a+1) f.inodes) (List.drop (Int.toNat a+1) af),aG (bA 44 72 (mM bD.sz bD.pos)) af [.slice aq f.inodes.length aj],cM g0 e0 s0 1 ((.slice aq f.inodes.length aj) :: (.slice ar f.data.length au) :: aa)]) (fun k=>k≤y4.blocks.length) (fun k=>y4.blocks.length - k) 0 (Nat.zero_le _) (.c .z (.c .g1 (.c .g2 .n))) (fun _ h=>h.sel (.c .z (.c .z (.c .z (.c .z (.c .z (.c .z (.c .z .n)))))))) ?_
 rintro k hk
 have hdl:=lR (data:=f.data) (bs:=y4.blocks) k
 refine Y.seq (Y.seq (Y.region (Y.mv rfl .z (Y.mv rfl .g2 (Y.nc rfl .z (Y.fa rfl .z aO (Y.ld rfl bK .z .g6 (Y.mv rfl .g7 ?_))))))))
 refine Y.h (WS.i .g5 (by omega)) ?_
 rintro⟨ap,rfl⟩
 refine Y.ql rfl (aC (j:=Int.toNat a) rfl cE aU (.t .g1) (.t .z) (by omega) (by first | omega |(rw [hdl];omega))) ?_
 refine Y.fa rfl .z dI (Y.ql rfl (aL rfl fA (.t .z) (WS.h .g5 ai rfl)) (Y.ql rfl (bM rfl eQ (.t .z)) (Y.ql rfl (dJ rfl (.t .g9) (.t .z)) (Y.nt ?_))))
 refine Y.u (.t .z) (fun a9=> ?_) (fun a9=> ?_)
 refine Y.skip (Y.g (Y.seq (Y.block ?_)))
 refine Y.dr .z 16 gG ?_
 refine Y.sc (qs 0 16++ [(16,false)]) (by kernel_rfl) ?_
 refine Y.dm rfl rfl .z .g12 (Y.dn rfl rfl .z .z (Y.df rfl rfl .z .z gR (Y.dl rfl rfl .z lM .z .g6 (Y.dm rfl rfl .z .g16 (Y.dn rfl rfl .z .z (Y.df rfl rfl .z .z aO (Y.dl rfl rfl .z bK .z .g6 (Y.dm rfl rfl .z (.s16 .g5) ?_))))))))
 refine Y.dk rfl rfl .z (aC (j:=Int.toNat a) rfl cE aU (.t .g1) (.t .z) (by omega) (by first | omega |(rw [hdl];omega))) ?_
 refine Y.df rfl rfl .z .z dI (Y.dk rfl rfl .z (aL rfl fA (.t .z) (WS.h .g5 ai rfl)) (Y.dm rfl rfl .z (.s16 .g7) ?_))
 refine Y.h (WS.i .g1 (by omega)) ?_
 rintro⟨ba,rfl⟩
 refine Y.dk rfl rfl .z (aC (j:=k) rfl eQ jQ (.t .g1) (.t .z) rfl (by first | omega |(rw [hdl];omega))) ?_
 obtain⟨a1,ac⟩:=aI (xs:=y4.blocks) (j:=k) (by first | omega |(rw [hdl];omega))
 have a2:=ao _ (List.mem_of_getElem? ac)
 refine Y.dk rfl rfl .z (aL rfl cF (.t .z) (WS.m .g1 ac)) ?_
 refine Y.h (WS.i .z (by omega)) ?_
 rintro⟨bb,rfl⟩
 refine Y.dk rfl rfl .z (aC (j:=Int.toNat a1) rfl mA mC (.t .g11) (.t .z) (by omega) (by first | omega |(rw [hdl];omega))) ?_
 refine Y.add (c:=aG cX [] [.slice none 0 0]) (fun w S=>aN w S none) ?_
 refine Y.es (aE rfl rfl) rfl (oH (j:=Int.toNat a1) rfl mC (.t .z) .c rfl (.c .g1 (.c .z .n)) (by first | omega |(rw [hdl];omega))) ?_
 refine Y.af .z (aAg ac) ?_
 refine Y.sl rfl ?_
 refine Y.aa ?_
 refine Y.ag (by kernel_rfl) ?_
 refine Y.ac (Y.g (Y.region (Y.mv rfl (.s16 .g11) ?_)))
 refine Y.ql rfl (bQ (c:=((k+1:Nat):Int)) rfl (.t .z) .c (wr (by omega) (by omega) (by omega))) ?_
 refine Y.er (.s16 .g13) (Y.as rfl .z (Y.nil ?_))
 refine Y.ae (k+1) (by omega) (by first | omega |(dsimp only;omega)) (.c .z (.c (.s16 .g14) (.c (.s16 .g15) .n))) (fun _ h=>h.sel (.c .z (.c .z (.c .z (.c .z (.c .z (.c .z (.c .z .n))))))))
 refine Y.exit (Y.ab (Y.ab (Y.ai (Y.g (Y.region (Y.mv rfl .g12 (Y.nc rfl .z (Y.fa rfl .z aO ?_))))))))
 refine Y.ld rfl bK .z .g6 (Y.mv rfl (.s16 .g1) (Y.ql rfl (aZ (cs:= [.int .i64 0,.int .i64 0,.int .i64 0,.slice none 0 0,.slice none 0 0]) rfl rX pv0 rfl) ?_))
 refine Y.ql rfl (aC (j:=Int.toNat a) rfl cE aU (.t .g2) (.t .g1) (by omega) (by first | omega |(rw [hdl];omega))) ?_
 refine Y.es (aD rfl) rfl (gY (j:=Int.toNat a) (off:=0) (cs:= [.int .i64 0,.int .i64 0,.int .i64 0,.slice none 0 0,.slice none 0 0]) rfl aU (.t .z) rfl (.t .g1) rfl (lZ rfl) .g5 ai (Nat.le_of_ble_eq_true rfl)) ?_
 refine Y.af (x':=List.set af (Int.toNat a) [.int .i64 0,.int .i64 0,.int .i64 0,.slice none 0 0,.slice none 0 0]) .z rfl ?_
 refine Y.nil ?_
 refine Y.add (c:=aG bY [] [.slice none 0 0]) (fun w S=>aN w S none) ?_
 refine Y.add (c:=aG cP [] [.slice none 0 0]) (fun w S=>aN w S none) ?_
 refine Y.v (c:=aG bD (⟨0,0,0,[],[]⟩:aF) [.int .i64 0,.int .i64 0,.int .i64 0,.slice none 0 0,.slice none 0 0]) (.c .g1 (.c .z .n)) (fun w S h=>bF (⟨0,0,0,[],[]⟩:aF) h) ?_
 refine Y.v (c:=aG aP (List.set f.inodes (Int.toNat a) (⟨0,0,0,[],[]⟩:aF)) [.slice (some ap) f.inodes.length aj]) (.c .g1 (.c .z (.c .g3 (.c .g3 .n)))) (dQ (K:=bD) ab (List.getElem?_eq_some_iff.1 ah).1 rfl) ?_
 refine Y.af (x':=iZ f a) .g1 (by unfold iZ;rw [ag,show k=y4.blocks.length by omega]) ?_
 refine Y.aw (sP rfl) (.c .g4 (.c .g1 (.c .z .n))) ?_
 exact⟨_,_,rfl,rfl⟩

theorem aN7 {w0:World}{S0:Bs}{f:DFs}{g0 e0 s0:Nat}{aa:List Value}{ab:Value}{ac:Value} (a:Int) (hs:cB [cM g0 e0 s0 1 (ab :: ac :: aa),aG aP f.inodes [ab],aG cG f.data [ac]] w0 S0) (hp:bR f.inodes.length a) (hd:f.data.length=20) (hb:∀b,b∈fM f.inodes a→0≤b∧b≤19):
    Calls Tryz.prog 73 #[.pointer (some ⟨g0,0,none⟩),.int .i64 a] w0 (aJ w0 S0 (yE g0 e0 s0 aa (sX f a))):=by
 obtain⟨an,ao⟩:=hp
 refine Y.enter (N:=14) Tryz.func73 rfl rfl (by simp) [(0,.pointer (some ⟨g0,0,none⟩)),(1,.int .i64 a)] (by simp) hs ?_
 refine Y.h (WS.a .g1) ?_
 rintro⟨ad,ae,rfl,ah,ai,aj⟩
 refine Y.h (WS.a .g2) ?_
 rintro⟨af,ag,rfl,ak,al,am⟩
 refine Y.seq (Y.region (Y.mv rfl .z (Y.mv rfl .g2 ?_)))
 refine Y.cl rfl rfl Tryz.func120 rfl rfl (aX (.t .g1) (.t .z)) (.c .g1 (.c .g1 .n)) (fun _ _ hs tr=>aMa (f:=f) (tr.ptrpre .z (⟨rfl,rfl,lZ rfl⟩:(mM 2 (by decide)).ro _ _ [.slice ad f.inodes.length ae,.slice af f.data.length ag] [.slice ad f.inodes.length ae,.slice af f.data.length ag]) (xB (cs:= [.slice ad f.inodes.length ae,.slice af f.data.length ag]) (k:=2) rfl rfl)) _ hs (by first | assumption |(constructor <;> omega)) (by assumption) (by assumption)) ?_
 rintro _ _ ⟨rfl,rfl⟩
 refine Y.m (.c (.c .n)) ?_
 refine Y.af (x':=f.inodes) .z rfl ?_
 refine Y.af (x':=iZ f a) .g1 rfl ?_
 refine Y.nt (Y.region (Y.mv rfl .g3 (Y.nc rfl .z (Y.fa rfl .z aO (Y.ld rfl bK .z .g2 (Y.mv rfl .g8 (Y.ql rfl (aZ (cs:= [.int .i64 0,.int .i64 0,.int .i64 0,.slice none 0 0,.slice none 0 0]) rfl rX pv0 rfl) ?_)))))))
 refine Y.h (WS.i .g1 (by omega)) ?_
 rintro⟨ap,rfl⟩
 refine Y.ql rfl (aC (j:=Int.toNat a) rfl cE aU (.t .g2) (.t .g1) (by omega) (by omega)) ?_
 refine Y.add (c:=aG bY [] [.slice none 0 0]) (fun w S=>aN w S none) ?_
 refine Y.add (c:=aG cP [] [.slice none 0 0]) (fun w S=>aN w S none) ?_
 refine Y.v (c:=aG bD (⟨0,0,0,[],[]⟩:aF) [.int .i64 0,.int .i64 0,.int .i64 0,.slice none 0 0,.slice none 0 0]) (.c .g1 (.c .z .n)) (fun w S h=>bF (⟨0,0,0,[],[]⟩:aF) h) ?_
 refine Y.es (aD rfl) rfl (oH (j:=Int.toNat a) rfl aU (.t .z) (.t .g1) rfl (.c .g2 (.c .z .n)) (by omega)) ?_
 refine Y.nil ?_
 refine Y.aw (sP rfl) (.c .g2 (.c .z (.c .z .n))) ?_
 exact⟨_,_,rfl,rfl⟩

theorem aMr {w0:World}{S0:Bs}{f:DFs}{ad0:Addr} (h0:gP eU w0 (FF w0 S0) ad0 f) (a:Int):
    Calls Tryz.prog 113 #[.pointer (some ad0),.int .i64 a] w0 (aJ w0 S0 (fun r l=>r= .int .i64 (dO f a)∧l= [])):=by
 obtain⟨ec0,hF0,hr0,hc0⟩:=id h0
 obtain⟨u0_0,u0_1,rfl,h0_0,h0_1⟩:=cY hr0
 obtain⟨A0_0,c0_0,rfl,hl0_0,hm0_0,hb0_0,he0_0⟩:=aH h0_0
 obtain⟨A0_1,c0_1,rfl,hl0_1,hm0_1,hb0_1,he0_1⟩:=aH h0_1
 refine Y.enter (N:=11) Tryz.func113 rfl rfl (by simp) [(0,.pointer (some ad0)),(1,.int .i64 a)] (by simp) (l0:= []) trivial ?_
 refine Y.seq (Y.region (Y.ql rfl (aA rfl .c) (Y.nt (Y.seq (Y.region (Y.mv rfl .g1 (Y.nc rfl .z ?_)))))))
 refine Y.ql rfl (qE rfl bI (.t .z) hF0 hc0 aW) (Y.mv rfl .g5 ?_)
 refine Y.cl rfl rfl Tryz.func45 rfl rfl (aX (.t .g1) (.t .z)) .n (fun _ _ hs tr=>aLh (aM f (tr.ctx h0_0) (tr.ctx h0_1)) _) ?_
 rintro _ _ ⟨v3,rfl,rfl⟩
 refine Y.m (.c .n) ?_
 refine Y.h (WS.a .z) ?_
 rintro⟨Ao5,co5,rfl,hlo5,hmo5,hbo5⟩
 refine Y.ql rfl (kZ rfl (.t .z) (fun w=>aIx w (.int .i64 ((lG f a).code)) (.slice Ao5 ((lG f a).bytes).length co5))) ?_
 refine Y.er .g6 (Y.as rfl .z (Y.nt (Y.ret ?_)))
 refine Y.i (aY rfl .z) .n ?_
 exact⟨by rw [rK],rfl⟩

end Go.Proofs.YtmejbfmhaoilmaaGreat

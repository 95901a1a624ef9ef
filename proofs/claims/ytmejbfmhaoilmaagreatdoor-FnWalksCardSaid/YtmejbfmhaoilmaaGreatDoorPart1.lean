/- What is proved: contracts of functions, one a function. No condition. -/
import Derived.Test.YtmejbfmhaoilmaaGreatDoorBase1
import Derived.Test.YtmejbfmhaoilmaaGreatDoorW24
import Derived.Test.YtmejbfmhaoilmaaGreatDoorW31
import Derived.Test.YtmejbfmhaoilmaaGreatDoorW11
namespace Go.Proofs.YtmejbfmhaoilmaaGreatDoor
open Go Go.RowKit
set_option linter.unusedVariables false
set_option linter.unusedSimpArgs false
set_option maxHeartbeats 1000000
set_option maxRecDepth 20000

end Go.Proofs.YtmejbfmhaoilmaaGreatDoor
/- What is proved: contracts of functions, one a function. No condition. -/
namespace Go.Proofs.YtmejbfmhaoilmaaGreatDoor
open Go Go.RowKit
set_option linter.unusedVariables false
set_option linter.unusedSimpArgs false
set_option maxHeartbeats 1000000
set_option maxRecDepth 20000
theorem aM3 {w0:World}{S0:Bs}{x:(List Int)}{v0:Value} (h0:bK.ro w0 (FF w0 S0) x [v0]):
    Calls Tryz.prog 161 #[v0] w0 (aI w0 S0 (fun r l=>l= [aH bK x [r]])):=by
 obtain⟨A0,c0,rfl,hl0,hm0,hb0,he0⟩:=aD h0
 refine Y.enter (N:=6) Tryz.func161 rfl rfl (by simp) [(0,.slice A0 x.length c0)] (by simp) (l0:= []) trivial ?_
 refine Y.seq (Y.region (Y.ql rfl (aA rfl .c) (Y.nt (Y.seq (Y.region ?_)))))
 refine Y.el rfl (eA rfl eF (inz gI)) ?_
 rintro _ _ ⟨g2,rfl,rfl⟩
 refine Y.mv rfl .g2 ?_
 refine Y.add (c:=aH bK ([]:(List Int)) [.slice (some ⟨g2,0,none⟩) 0 0]) (fun w S=>aL w S _) ?_
 refine Y.el rfl (eD (bT _ _ _) rfl eF gI rfl (.t .g1) (.t .z) (.c .z .n) (fun w1 S1 tr=>tr.ctx h0) (by first | omega |(simp only [List.length_append,List.length_take,List.length_nil,List.length_cons];omega)) (by first | omega |(simp only [List.length_append,List.length_take,List.length_nil,List.length_cons];omega))) ?_
 rintro _ _ rfl
 refine Y.ah .z (List.nil_append _) ?_
 refine Y.h (WS.a .z) ?_
 rintro⟨Ao4,co4,rfl,hlo4,hmo4,hbo4⟩
 refine Y.er .g3 (Y.as rfl .z (Y.nt (Y.ret ?_)))
 refine Y.i (aU rfl .z) (.c .z .n) ?_
 rfl

theorem aMa {w0:World}{S0:Bs}{x:aF}{ag:List Value} (h0:cR.ro w0 (FF w0 S0) x ag):
    Calls Tryz.prog 132 #[.agg ag.toArray] w0 (aI w0 S0 (aL7 x)):=by
 obtain⟨ap,aq,rfl,aa,ab⟩:=bY h0
 obtain⟨ac,ad,rfl,ah,ai,aj,ak⟩:=aD aa
 obtain⟨ae,af,rfl,al,am,an,ao⟩:=aD ab
 refine Y.enter (N:=13) Tryz.func132 rfl rfl (by simp) [(0,.agg #[.int .i64 x.kind,.int .i64 x.links,.int .i64 x.size,.slice ac x.blocks.length ad,.slice ae x.ents.length af])] (by simp) (l0:= []) trivial ?_
 refine Y.seq (Y.region ?_)
 refine Y.el rfl (fQ (cs:= [.int .i64 x.kind,.int .i64 x.links,.int .i64 x.size,.slice ac x.blocks.length ad,.slice ae x.ents.length af]) (n:=5) rfl (.t .z) rfl rfl) ?_
 rintro _ _ ⟨g3,rfl,rfl⟩
 refine Y.el rfl (bB rfl sX rfl rfl) ?_
 rintro _ _ ⟨g4,rfl,rfl⟩
 refine Y.nt (Y.seq (Y.region (Y.fa rfl .g1 dH (Y.ld rfl eZ .z .g1 ?_))))
 refine Y.cl rfl rfl Tryz.func161 rfl rfl (bG (.t .z)) .n (fun _ _ hs tr=>aM3 (tr.ctx aa)) ?_
 rintro _ _ rfl
 refine Y.m (.c .n) ?_
 refine Y.h (WS.a .z) ?_
 rintro⟨az,a0,rfl,ar,au,av⟩
 refine Y.fa rfl .g4 dH ?_
 refine Y.es (aE rfl) rfl (es1 (off:=3) rfl aEz (.t .z) (.t .g1) rfl rfl .g2 rfl .g3) ?_
 refine Y.nt (Y.seq (Y.region ?_))
 refine Y.el rfl (eA rfl dP (inz eI)) ?_
 rintro _ _ ⟨g7,rfl,rfl⟩
 refine Y.fa rfl .g6 bL (Y.ld rfl dX .z .g1 ?_)
 refine Y.add (c:=aH dU ([]:(List bO)) [.slice (some ⟨g7,0,none⟩) 0 0]) (fun w S=>aL w S _) ?_
 refine Y.el rfl (eD (iF _ (gF (bT _ _ _) (bT _ _ _))) rfl dP eI rfl (.t .g2) (.t .z) (.c .z .n) (fun w1 S1 tr=>tr.ctx ab) (by first | omega |(simp only [List.length_append,List.length_take,List.length_nil,List.length_cons];omega)) (by first | omega |(simp only [List.length_append,List.length_take,List.length_nil,List.length_cons];omega))) ?_
 rintro _ _ rfl
 refine Y.ah .z (List.nil_append _) ?_
 refine Y.h (WS.a .z) ?_
 rintro⟨a1,a2,rfl,aw,ax,ay⟩
 refine Y.fa rfl .g9 bL ?_
 refine Y.es (aE rfl) rfl (es1 (off:=4) rfl qO (.t .z) (.t .g1) rfl rfl .g2 rfl .g4) ?_
 refine Y.nt (Y.seq (Y.region (Y.ql rfl (qW rfl fH (.t .g10) .z aT) ?_)))
 refine Y.es (aE rfl) rfl (esW rfl (.t .g10) (.t .z) .g4 aT rfl rfl) ?_
 refine Y.nt (Y.ret ?_)
 refine Y.i (cU rfl .g10 fH .z aT) (.c .g4 (.c .g2 .n)) ?_
 exact⟨_,_,rfl,rfl⟩

theorem qC {w0:World}{S0:Bs}{f:DFs}{bs:List Value} (h0:dV.ro w0 (FF w0 S0) f bs):
    Calls Tryz.prog 104 #[.agg bs.toArray] w0 (aI w0 S0 (aKa f)):=by
 obtain⟨co,cp,rfl,bd,be⟩:=bZ h0
 obtain⟨af,ag,rfl,bt,bu,bv,ap⟩:=aD bd
 obtain⟨ah,ai,rfl,bw,bx,bz,aq⟩:=aD be
 refine Y.enter (N:=45) Tryz.func104 rfl rfl (by simp) [(0,.agg #[.slice af f.inodes.length ag,.slice ah f.data.length ai])] (by simp) (l0:= []) trivial ?_
 refine Y.seq (Y.region ?_)
 refine Y.el rfl (fQ (cs:= [.slice af f.inodes.length ag,.slice ah f.data.length ai]) (n:=2) rfl (.t .z) rfl rfl) ?_
 rintro _ _ ⟨g3,rfl,rfl⟩
 refine Y.el rfl (bB rfl rG rfl rfl) ?_
 rintro _ _ ⟨g4,rfl,rfl⟩
 refine Y.nt (Y.seq (Y.region (Y.ql rfl (aW (cs:= [.slice none 0 0,.slice none 0 0]) rfl aKj pv0 rfl) ?_)))
 refine Y.el rfl (bB rfl rG rfl rfl) ?_
 rintro _ _ ⟨g5,rfl,rfl⟩
 refine Y.es (aE rfl) rfl (esW rfl (.t .z) (.t .g1) .z bA rfl rfl) ?_
 refine Y.nt (Y.seq (Y.seq (Y.region (Y.ql rfl (aA rfl .c) (Y.nt (Y.block ?_))))))
 refine Y.add (c:=aH bJ [] [.slice none 0 0]) (fun w S=>aL w S none) ?_
 refine Y.ai (γ:=Nat×(Option Addr)×Nat) (fun⟨k,aa,ab⟩=> [(4,.int .i64 (k:Int)),(3,.pointer (some ⟨g5,0,none⟩)),(2,.pointer (some ⟨g4,0,none⟩)),(1,.pointer (some ⟨g3,0,none⟩))]) (fun⟨k,aa,ab⟩=> [aH bJ (List.take k f.inodes) [.slice aa (List.take k f.inodes).length ab],bV g5 27 2 1 [.slice aa (List.take k f.inodes).length ab,.slice none 0 0],bV g4 27 2 1 [.slice none 0 0,.slice none 0 0],bV g3 27 2 1 [.slice af f.inodes.length ag,.slice ah f.data.length ai]]) (fun⟨k,aa,ab⟩=>k≤f.inodes.length) (fun⟨k,aa,ab⟩=>f.inodes.length - k) (0,none,0) (Nat.zero_le _) (.c .z (.c .g1 (.c .g3 (.c .g4 .n)))) (fun _ h=>h.sel (.c .z (.c .z (.c .z (.c .z .n))))) ?_
 rintro⟨k,aa,ab⟩ hk
 refine Y.seq (Y.seq (Y.region (Y.mv rfl .z (Y.fa rfl .g4 aP (Y.ld rfl bR .z .g3 (Y.ql rfl (bD rfl cQ (.t .z)) (Y.ql rfl (dA rfl (.t .g3) (.t .z)) (Y.nil ?_))))))))
 refine Y.g ?_
 refine Y.u (.t .z) (fun b7=> ?_) (fun b7=> ?_)
 refine Y.skip (Y.g (Y.seq (Y.block ?_)))
 refine Y.dr .g1 11 fR ?_
 refine Y.sc (qs 0 7++ [(7,false),(8,false),(9,false),(10,true),(11,false)]) (by kernel_rfl) ?_
 refine Y.df rfl rfl .g1 .g6 aP (Y.dl rfl rfl .g1 bR .z .z (Y.df rfl rfl .g1 .g10 aP (Y.dl rfl rfl .g1 bR .z .g2 (Y.dm rfl rfl .g1 .g9 ?_))))
 obtain⟨cx,ar,au⟩:=ap (by omega)
 subst ar
 obtain⟨x9,b0⟩:=aK (xs:=f.inodes) (j:=k) (by omega)
 obtain⟨b1,ak,av,aw⟩:=au.elem b0
 obtain⟨bf,bg,rfl,al,am⟩:=bY ak
 obtain⟨bh,bi,rfl,a5,a6,a7,a8⟩:=aD al
 obtain⟨bj,bk,rfl,a9,ba,bb,bc⟩:=aD am
 refine Y.dk rfl rfl .g1 (aB (j:=k) rfl cQ aT (.t .g1) (.t .z) rfl (by omega)) ?_
 refine Y.dk rfl rfl .g1 (qE rfl fH (.t .z) av aw aT) ?_
 refine Y.call (aC rfl rfl) rfl (by decide) rfl (bE rfl Tryz.func132 rfl rfl (bG (.t .z))) .n (fun _ _ hs tr=>aMa (tr.ctx ak)) ?_
 rintro _ _ ⟨cy,cz,rfl,rfl⟩
 refine Y.m (.c (.c .n)) ?_
 refine Y.h (WS.a .z) ?_
 rintro⟨ax,ay,rfl,b2,b3,b4⟩
 refine Y.h (WS.a .g1) ?_
 rintro⟨az,a0,rfl,b5,b6,b8⟩
 refine Y.sk .g3 ?_
 refine Y.e (aC rfl rfl) rfl (by decide) rfl (aQ (cs:= [.int .i64 x9.kind,.int .i64 x9.links,.int .i64 x9.size,.slice ax x9.blocks.length ay,.slice az x9.ents.length a0]) rfl cQ (inz mN) (by decide) (pv1 (.t .z)) rfl rfl (by decide) rfl rfl) ?_
 rintro _ _ ⟨g19,rfl,rfl⟩
 refine Y.sk .g4 ?_
 refine Y.ad (c:=aH cR (⟨x9.kind,x9.links,x9.size,x9.blocks,x9.ents⟩:aF) [.int .i64 x9.kind,.int .i64 x9.links,.int .i64 x9.size,.slice ax x9.blocks.length ay,.slice az x9.ents.length a0]) (.c .g1 (.c .g1 .n)) (fun w S h=>cZ (⟨x9.kind,x9.links,x9.size,x9.blocks,x9.ents⟩:aF) h) ?_
 refine Y.e (aC rfl rfl) rfl (by decide) rfl (dK rfl cQ mN rfl (.t .g7) (.t .z) (.c .g2 (.c .g1 (.c .z .n))) (by first | omega |(simp only [List.length_take,List.length_cons,List.length_nil];omega)) (by first | omega |(simp only [List.length_take,List.length_cons,List.length_nil];omega))) ?_
 rintro _ _ rfl
 refine Y.ah .z (aBp b0).symm ?_
 refine Y.h (WS.a .z) ?_
 rintro⟨bm,bn,rfl,b9,ca,cb⟩
 refine Y.sk .g1 ?_
 refine Y.df rfl rfl .g1 .g16 aP ?_
 refine Y.es (aC rfl rfl) rfl (es1 (off:=0) rfl aG1 (.t .z) (.t .g1) rfl rfl .g1 rfl .z) ?_
 refine Y.sl rfl ?_
 refine Y.w ?_
 refine Y.af (by kernel_rfl) ?_
 refine Y.ab (Y.g (Y.region (Y.mv rfl .g16 ?_)))
 refine Y.ql rfl (bN (c:=((k+1:Nat):Int)) rfl (.t .z) .c (wr (by omega) (by omega) (by omega))) ?_
 refine Y.er (.s16 .g2) (Y.as rfl .z (Y.nil ?_))
 refine Y.ae ((k+1),bm,bn) (by omega) (by first | omega |(dsimp only;omega)) (.c .z (.c (.s16 .g3) (.c (.s16 .g4) (.c (.s16 .g5) .n)))) (fun _ h=>h.sel (.c .g1 (.c .z (.c .z (.c .z .n)))))
 refine Y.exit (Y.y (Y.y (Y.ag (Y.g (Y.seq (Y.seq (Y.region (Y.ql rfl (aA rfl .c) ?_))))))))
 refine Y.nt (Y.block ?_)
 have a1:List.take k f.inodes=f.inodes:=(List.take_of_length_le (by omega))
 refine Y.ak .z (congrArg (fun z_=>(aH bJ (z_) [.slice aa (z_).length ab]:Asn)) a1) ?_
 refine Y.ak .g1 (congrArg (fun z_=>(bV g5 27 2 1 [.slice aa (z_).length ab,.slice none 0 0]:Asn)) a1) ?_
 refine Y.add (c:=aH eH [] [.slice none 0 0]) (fun w S=>aL w S none) ?_
 refine Y.ai (γ:=Nat×(Option Addr)×Nat) (fun⟨q,ac,ad⟩=> [(5,.int .i64 (q:Int)),(3,.pointer (some ⟨g5,0,none⟩)),(2,.pointer (some ⟨g4,0,none⟩)),(1,.pointer (some ⟨g3,0,none⟩))]) (fun⟨q,ac,ad⟩=> [aH eH (List.take q f.data) [.slice ac (List.take q f.data).length ad],bV g5 27 2 1 [.slice aa (f.inodes).length ab,.slice ac (List.take q f.data).length ad],aH bJ f.inodes [.slice aa (f.inodes).length ab],bV g4 27 2 1 [.slice none 0 0,.slice none 0 0],bV g3 27 2 1 [.slice af f.inodes.length ag,.slice ah f.data.length ai]]) (fun⟨q,ac,ad⟩=>q≤f.data.length) (fun⟨q,ac,ad⟩=>f.data.length - q) (0,none,0) (Nat.zero_le _) (.c .z (.c .g7 (.c .g8 (.c .g9 .n)))) (fun _ h=>h.sel (.c .z (.c .z (.c .z (.c .z (.c .z .n)))))) ?_
 rintro⟨q,ac,ad⟩ hq
 refine Y.seq (Y.seq (Y.region (Y.mv rfl .z (Y.fa rfl .g4 gQ (Y.ld rfl mS .z .g4 (Y.ql rfl (bD rfl pH (.t .z)) (Y.ql rfl (dA rfl (.t .g3) (.t .z)) (Y.nil ?_))))))))
 refine Y.g ?_
 refine Y.u (.t .z) (fun cq=> ?_) (fun cq=> ?_)
 refine Y.skip (Y.g (Y.seq (Y.block ?_)))
 refine Y.sel (.c .z (.c .g1 (.c .z (.c .z (.c .z .n))))) ?_
 refine Y.dr .g2 12 fR ?_
 refine Y.sc ([(0,true),(1,true)]++qs 3 5++ [(2,false),(8,false),(9,false),(10,false),(11,true),(12,false)]) (by kernel_rfl) ?_
 refine Y.df rfl rfl .g2 .g6 gQ (Y.dl rfl rfl .g2 mS .z .z (Y.df rfl rfl .g2 .g10 gQ (Y.dl rfl rfl .g2 mS .z .g2 (Y.dm rfl rfl .g2 .g9 ?_))))
 obtain⟨cr,an,ao⟩:=aq (by omega)
 subst an
 obtain⟨ct,a2⟩:=aK (xs:=f.data) (j:=q) (by omega)
 obtain⟨cc,ae,a3,a4⟩:=ao.elem a2
 obtain⟨cu,rfl⟩:=lS ae
 obtain⟨cv,cw,rfl,cd,ce,cf,cg⟩:=aD ae
 refine Y.dk rfl rfl .g2 (aB (j:=q) rfl pH nY (.t .g1) (.t .z) rfl (by omega)) ?_
 refine Y.dk rfl rfl .g2 (aM rfl oG (.t .z) (WS.i a3 a4 rfl)) ?_
 refine Y.e (aC rfl rfl) rfl (by decide) rfl (eA rfl iJ (inz mC)) ?_
 rintro _ _ ⟨g29,rfl,rfl⟩
 refine Y.sk .g3 ?_
 refine Y.add (c:=aH dD ([]:(List UInt8)) [.slice (some ⟨g29,0,none⟩) 0 0]) (fun w S=>aL w S _) ?_
 refine Y.e (aC rfl rfl) rfl (by decide) rfl (eD (bT _ _ _) rfl iJ mC rfl (.t .z) (.t .g1) (.c .z .n) (fun w1 S1 tr=>tr.ctx ae) (by first | omega |(simp only [List.length_take,List.length_cons,List.length_nil];omega)) (by first | omega |(simp only [List.length_take,List.length_cons,List.length_nil];omega))) ?_
 rintro _ _ rfl
 refine Y.ah .z (List.nil_append _) ?_
 refine Y.h (WS.a .z) ?_
 rintro⟨bo,bp,rfl,ch,ci,cj⟩
 refine Y.sk .g4 ?_
 refine Y.e (aC rfl rfl) rfl (by decide) rfl (aQ (cs:= [.slice bo ct.length bp]) rfl pH (inz aC4) (by decide) (pv1 (.t .z)) rfl rfl (by decide) rfl rfl) ?_
 rintro _ _ ⟨g32,rfl,rfl⟩
 refine Y.sk .g5 ?_
 refine Y.e (aC rfl rfl) rfl (by decide) rfl (dK rfl pH aC4 rfl (.t .g8) (.t .z) (.c .g3 (.c .z (.c .z .n))) (by first | omega |(simp only [List.length_take,List.length_cons,List.length_nil];omega)) (by first | omega |(simp only [List.length_take,List.length_cons,List.length_nil];omega))) ?_
 rintro _ _ rfl
 refine Y.ah .z (aBp a2).symm ?_
 refine Y.h (WS.a .z) ?_
 rintro⟨bq,br,rfl,ck,cm,cn⟩
 refine Y.sk .g3 ?_
 refine Y.df rfl rfl .g3 (.s16 .g1) gQ ?_
 refine Y.es (aC rfl rfl) rfl (es1 (off:=1) rfl aJ6 (.t .z) (.t .g1) rfl rfl .g3 rfl .g1) ?_
 refine Y.sl rfl ?_
 refine Y.w ?_
 refine Y.af (by kernel_rfl) ?_
 refine Y.ab (Y.g (Y.region (Y.mv rfl (.s16 .g1) ?_)))
 refine Y.ql rfl (bN (c:=((q+1:Nat):Int)) rfl (.t .z) .c (wr (by omega) (by omega) (by omega))) ?_
 refine Y.er (.s16 .g3) (Y.as rfl .z (Y.nil ?_))
 refine Y.ae ((q+1),bq,br) (by omega) (by first | omega |(dsimp only;omega)) (.c .z (.c (.s16 .g4) (.c (.s16 .g5) (.c (.s16 .g6) .n)))) (fun _ h=>h.sel (.c .g1 (.c .z (.c .g1 (.c .g1 (.c .g1 .n))))))
 refine Y.exit (Y.y (Y.y (Y.ag (Y.g (Y.seq (Y.region (Y.ql rfl (qW rfl bX (.t .g6) .g1 bA) ?_)))))))
 refine Y.es (aE rfl) rfl (esW rfl (.t .g8) (.t .z) .g3 bA rfl rfl) ?_
 refine Y.nt (Y.ret ?_)
 have aj:List.take q f.data=f.data:=(List.take_of_length_le (by omega))
 refine Y.eq .z (congrArg (fun z_=>(.agg #[.slice aa (f.inodes).length ab,.slice ac (z_).length ad]:Value)) aj) ?_
 refine Y.ak .z (congrArg (fun z_=>(bV g4 27 2 1 [.slice aa (f.inodes).length ab,.slice ac (z_).length ad]:Asn)) aj) ?_
 refine Y.ak .g1 (congrArg (fun z_=>(aH eH (z_) [.slice ac (z_).length ad]:Asn)) aj) ?_
 refine Y.ak .g2 (congrArg (fun z_=>(bV g5 27 2 1 [.slice aa (f.inodes).length ab,.slice ac (z_).length ad]:Asn)) aj) ?_
 refine Y.i (cU rfl .g8 bX .g2 bA) (.c .g3 (.c .g1 .n)) ?_
 exact⟨_,_,rfl,rfl⟩

theorem aM9 {w0:World}{S0:Bs}{f:DFs}{g0 e0 s0:Nat}{aa:List Value}{ad:Value}{ae:Value} (a:Int) (hs:cI [bV g0 e0 s0 1 (ad :: ae :: aa),aH bJ f.inodes [ad],aH eH f.data [ae]] w0 S0) (hp:bQ f.inodes.length a) (hd:f.data.length=20) (hb:∀b,b∈gC f.inodes a→0≤b∧b≤19):
    Calls Tryz.prog 167 #[.pointer (some ⟨g0,0,none⟩),.int .i64 a] w0 (aI w0 S0 (aHp g0 e0 s0 aa (uF f a))):=by
 obtain⟨bc,bd⟩:=hp
 refine Y.enter (N:=41) Tryz.func167 rfl rfl (by simp) [(0,.pointer (some ⟨g0,0,none⟩)),(1,.int .i64 a)] (by simp) hs ?_
 refine Y.h (WS.a .g1) ?_
 rintro⟨aq,aj,rfl,a3,a4,a5⟩
 refine Y.h (WS.a .g2) ?_
 rintro⟨ar,au,rfl,a6,a7,a8⟩
 refine Y.seq (Y.seq (Y.region (Y.ql rfl (aA rfl .c) (Y.nt (Y.block ?_)))))
 refine Y.aa (.c .g1 .n) fP ?_
 rintro af ab
 obtain⟨y4,ah⟩:=aK (xs:=f.inodes) (j:=Int.toNat a) (by first | omega |(rw [hdl];omega))
 obtain⟨c5,ai⟩:=aK (xs:=af) (j:=Int.toNat a) (by rw [ab];exact(List.getElem?_eq_some_iff.1 ah).1)
 refine Y.au .g1 (eJ ah ai) ?_
 refine Y.aa (.c .z .n) fC ?_
 rintro⟨v6,v7⟩ rfl
 refine Y.h (WS.a .z) ?_
 rintro⟨ak,al,rfl,av,aw,ax⟩
 refine Y.h (WS.a .g1) ?_
 rintro⟨am,an,rfl,ay,az,a0⟩
 have ag:=vF (a:=a) ah (by omega)
 have ao:∀b,b∈y4.blocks→0≤b∧b≤19:=by rw [←ag];exact hb
 refine Y.ah (x':=qB f.data y4.blocks 0) .g6 rfl ?_
 refine Y.ai (γ:=Nat) (fun k=> [(4,.int .i64 (k:Int)),(0,.pointer (some ⟨g0,0,none⟩)),(1,.int .i64 a)]) (fun k=> [aH eH (qB f.data y4.blocks k) [.slice ar f.data.length au],aH bK y4.blocks [.slice ak y4.blocks.length al],aH dU y4.ents [.slice am y4.ents.length an],mZ cR (List.take (Int.toNat a) f.inodes) (List.take (Int.toNat a) af),mZ cR (List.drop (Int.toNat a+1) f.inodes) (List.drop (Int.toNat a+1) af),aH (bM 46 72 (nR cR.sz cR.pos)) af [.slice aq f.inodes.length aj],bV g0 e0 s0 1 ((.slice aq f.inodes.length aj) :: (.slice ar f.data.length au) :: aa)]) (fun k=>k≤y4.blocks.length) (fun k=>y4.blocks.length - k) 0 (Nat.zero_le _) (.c .z (.c .g1 (.c .g2 .n))) (fun _ h=>h.sel (.c .z (.c .z (.c .z (.c .z (.c .z (.c .z (.c .z .n)))))))) ?_
 rintro k hk
 have hdl:=mK (data:=f.data) (bs:=y4.blocks) k
 refine Y.seq (Y.seq (Y.region (Y.mv rfl .z (Y.mv rfl .g2 (Y.nc rfl .z (Y.fa rfl .z aP (Y.ld rfl bR .z .g6 (Y.mv rfl .g7 ?_))))))))
 refine Y.h (WS.h .g5 (by omega)) ?_
 rintro⟨ap,rfl⟩
 refine Y.ql rfl (aB (j:=Int.toNat a) rfl cQ aT (.t .g1) (.t .z) (by omega) (by first | omega |(rw [hdl];omega))) ?_
 refine Y.fa rfl .z dH (Y.ql rfl (aM rfl eZ (.t .z) (WS.j .g5 ai rfl)) (Y.ql rfl (bD rfl eF (.t .z)) (Y.ql rfl (dA rfl (.t .g9) (.t .z)) (Y.nt ?_))))
 refine Y.u (.t .z) (fun a9=> ?_) (fun a9=> ?_)
 refine Y.skip (Y.g (Y.seq (Y.block ?_)))
 refine Y.dr .z 16 fR ?_
 refine Y.sc (qs 0 16++ [(16,false)]) (by kernel_rfl) ?_
 refine Y.dm rfl rfl .z .g12 (Y.dn rfl rfl .z .z (Y.df rfl rfl .z .z gQ (Y.dl rfl rfl .z mS .z .g6 (Y.dm rfl rfl .z .g16 (Y.dn rfl rfl .z .z (Y.df rfl rfl .z .z aP (Y.dl rfl rfl .z bR .z .g6 (Y.dm rfl rfl .z (.s16 .g5) ?_))))))))
 refine Y.dk rfl rfl .z (aB (j:=Int.toNat a) rfl cQ aT (.t .g1) (.t .z) (by omega) (by first | omega |(rw [hdl];omega))) ?_
 refine Y.df rfl rfl .z .z dH (Y.dk rfl rfl .z (aM rfl eZ (.t .z) (WS.j .g5 ai rfl)) (Y.dm rfl rfl .z (.s16 .g7) ?_))
 refine Y.h (WS.h .g1 (by omega)) ?_
 rintro⟨ba,rfl⟩
 refine Y.dk rfl rfl .z (aB (j:=k) rfl eF jO (.t .g1) (.t .z) rfl (by first | omega |(rw [hdl];omega))) ?_
 obtain⟨a1,ac⟩:=aK (xs:=y4.blocks) (j:=k) (by first | omega |(rw [hdl];omega))
 have a2:=ao _ (List.mem_of_getElem? ac)
 refine Y.dk rfl rfl .z (aM rfl bP (.t .z) (WS.m .g1 ac)) ?_
 refine Y.h (WS.h .z (by omega)) ?_
 rintro⟨bb,rfl⟩
 refine Y.dk rfl rfl .z (aB (j:=Int.toNat a1) rfl pH nY (.t .g11) (.t .z) (by omega) (by first | omega |(rw [hdl];omega))) ?_
 refine Y.add (c:=aH dD [] [.slice none 0 0]) (fun w S=>aL w S none) ?_
 refine Y.es (aC rfl rfl) rfl (oV (j:=Int.toNat a1) rfl nY (.t .z) .c rfl (.c .g1 (.c .z .n)) (by first | omega |(rw [hdl];omega))) ?_
 refine Y.ah .z (aFc ac) ?_
 refine Y.sl rfl ?_
 refine Y.w ?_
 refine Y.af (by kernel_rfl) ?_
 refine Y.ab (Y.g (Y.region (Y.mv rfl (.s16 .g11) ?_)))
 refine Y.ql rfl (bN (c:=((k+1:Nat):Int)) rfl (.t .z) .c (wr (by omega) (by omega) (by omega))) ?_
 refine Y.er (.s16 .g13) (Y.as rfl .z (Y.nil ?_))
 refine Y.ae (k+1) (by omega) (by first | omega |(dsimp only;omega)) (.c .z (.c (.s16 .g14) (.c (.s16 .g15) .n))) (fun _ h=>h.sel (.c .z (.c .z (.c .z (.c .z (.c .z (.c .z (.c .z .n))))))))
 refine Y.exit (Y.y (Y.y (Y.ag (Y.g (Y.region (Y.mv rfl .g12 (Y.nc rfl .z (Y.fa rfl .z aP ?_))))))))
 refine Y.ld rfl bR .z .g6 (Y.mv rfl (.s16 .g1) (Y.ql rfl (aW (cs:= [.int .i64 0,.int .i64 0,.int .i64 0,.slice none 0 0,.slice none 0 0]) rfl sH pv0 rfl) ?_))
 refine Y.ql rfl (aB (j:=Int.toNat a) rfl cQ aT (.t .g2) (.t .g1) (by omega) (by first | omega |(rw [hdl];omega))) ?_
 refine Y.es (aE rfl) rfl (kU (j:=Int.toNat a) (off:=0) (cs:= [.int .i64 0,.int .i64 0,.int .i64 0,.slice none 0 0,.slice none 0 0]) rfl aT (.t .z) rfl (.t .g1) rfl (pX rfl) .g5 ai (Nat.le_of_ble_eq_true rfl)) ?_
 refine Y.ah (x':=List.set af (Int.toNat a) [.int .i64 0,.int .i64 0,.int .i64 0,.slice none 0 0,.slice none 0 0]) .z rfl ?_
 refine Y.nil ?_
 refine Y.add (c:=aH bK [] [.slice none 0 0]) (fun w S=>aL w S none) ?_
 refine Y.add (c:=aH dU [] [.slice none 0 0]) (fun w S=>aL w S none) ?_
 refine Y.ad (c:=aH cR (⟨0,0,0,[],[]⟩:aF) [.int .i64 0,.int .i64 0,.int .i64 0,.slice none 0 0,.slice none 0 0]) (.c .g1 (.c .z .n)) (fun w S h=>cZ (⟨0,0,0,[],[]⟩:aF) h) ?_
 refine Y.ad (c:=aH bJ (List.set f.inodes (Int.toNat a) (⟨0,0,0,[],[]⟩:aF)) [.slice (some ap) f.inodes.length aj]) (.c .g1 (.c .z (.c .g3 (.c .g3 .n)))) (eU (K:=cR) ab (List.getElem?_eq_some_iff.1 ah).1 rfl) ?_
 refine Y.ah (x':=kJ f a) .g1 (by unfold kJ;rw [ag,show k=y4.blocks.length by omega]) ?_
 refine Y.ax (aDi rfl) (.c .g4 (.c .g1 (.c .z .n))) ?_
 exact⟨_,_,rfl,rfl⟩

theorem aMi {w0:World}{S0:Bs}{f:DFs}{ad0:Addr} (h0:eV dV w0 (FF w0 S0) ad0 f) (a:Int):
    Calls Tryz.prog 164 #[.pointer (some ad0),.int .i64 a] w0 (aI w0 S0 (fun r l=>r= .int .i64 (dI f a)∧l= [])):=by
 obtain⟨ec0,hF0,hr0,hc0⟩:=id h0
 obtain⟨u0_0,u0_1,rfl,h0_0,h0_1⟩:=bZ hr0
 obtain⟨A0_0,c0_0,rfl,hl0_0,hm0_0,hb0_0,he0_0⟩:=aD h0_0
 obtain⟨A0_1,c0_1,rfl,hl0_1,hm0_1,hb0_1,he0_1⟩:=aD h0_1
 refine Y.enter (N:=11) Tryz.func164 rfl rfl (by simp) [(0,.pointer (some ad0)),(1,.int .i64 a)] (by simp) (l0:= []) trivial ?_
 refine Y.seq (Y.region (Y.ql rfl (aA rfl .c) (Y.nt (Y.seq (Y.region (Y.mv rfl .g1 (Y.nc rfl .z ?_)))))))
 refine Y.ql rfl (qE rfl bX (.t .z) hF0 hc0 bA) (Y.mv rfl .g5 ?_)
 refine Y.cl rfl rfl Tryz.func135 rfl rfl (aS (.t .g1) (.t .z)) .n (fun _ _ hs tr=>aKh (aJ f (tr.ctx h0_0) (tr.ctx h0_1)) _) ?_
 rintro _ _ ⟨v3,rfl,rfl⟩
 refine Y.m (.c .n) ?_
 refine Y.h (WS.a .z) ?_
 rintro⟨Ao5,co5,rfl,hlo5,hmo5,hbo5⟩
 refine Y.ql rfl (kK rfl (.t .z) (fun w=>aIj w (.int .i64 ((lD f a).code)) (.slice Ao5 ((lD f a).bytes).length co5))) ?_
 refine Y.er .g6 (Y.as rfl .z (Y.nt (Y.ret ?_)))
 refine Y.i (aU rfl .z) .n ?_
 exact⟨by rw [qT],rfl⟩

end Go.Proofs.YtmejbfmhaoilmaaGreatDoor
/- What is proved: contracts of functions, one a function. No condition. -/
namespace Go.Proofs.YtmejbfmhaoilmaaGreatDoor
open Go Go.RowKit
set_option linter.unusedVariables false
set_option linter.unusedSimpArgs false
set_option maxHeartbeats 1000000
set_option maxRecDepth 20000
theorem aJ4 {w0:World}{S0:Bs}{f:DFs}{aa:Addr} (h0:eV dV w0 (FF w0 S0) aa f) (a:Int) {b:(List Int)}{v2:Value} (h2:bK.ro w0 (FF w0 S0) b [v2]):
    Calls Tryz.prog 136 #[.pointer (some aa),.int .i64 a,v2] w0 (aI w0 S0 (fun r l=>r= .int .i64 (jW f a b)∧l= [])):=by
 obtain⟨au,av,al,aw⟩:=id h0
 obtain⟨am,an,rfl,ab,ac⟩:=bZ al
 obtain⟨ao,ap,rfl,ad,ae,af,ag⟩:=aD ab
 obtain⟨aq,ar,rfl,ah,ai,aj,ak⟩:=aD ac
 obtain⟨A2,c2,rfl,ax,ay,az,a0⟩:=aD h2
 refine Y.enter (N:=16) Tryz.func136 rfl rfl (by simp) [(0,.pointer (some aa)),(1,.int .i64 a),(2,.slice A2 b.length c2)] (by simp) (l0:= []) trivial ?_
 refine Y.seq (Y.region (Y.ql rfl (aA rfl .c) (Y.nt (Y.seq (Y.seq (Y.region (Y.mv rfl .g1 ?_)))))))
 refine Y.mv rfl .g3 ?_
 refine Y.cl rfl rfl Tryz.func164 rfl rfl (aS (.t .g1) (.t .z)) .n (fun _ _ hs tr=>aMi (tr.ctxP h0) _) ?_
 rintro _ _ ⟨rfl,rfl⟩
 refine Y.m .n ?_
 refine Y.as rfl .z (Y.nt (Y.seq (Y.region (Y.mv rfl .z (Y.ql rfl (bW rfl (.t .z) .c) (Y.nt ?_))))))
 refine Y.ac (.t .z) (fun b4=> ?_) (fun b4=> ?_)
 refine Y.seq (Y.region (Y.mv rfl .g2 (Y.er .g7 (Y.as rfl .z (Y.nt (Y.ret (Y.j ?_)))))))
 refine Y.i (aU rfl .z) .n ?_
 exact⟨by first |(rw [aE0 (by assumption)];done) |(rw [aEs (by assumption)];done),rfl⟩
 refine Y.skip (Y.g (Y.seq (Y.region (Y.mv rfl .g9 ?_))))
 refine Y.cl rfl rfl Tryz.func165 rfl rfl (bG (.t .z)) .n (fun _ _ hs tr=>aJ7 (tr.ctx h2)) ?_
 rintro _ _ ⟨rfl,rfl⟩
 refine Y.m .n ?_
 refine Y.er .g8 (Y.as rfl .z (Y.nt (Y.ret ?_)))
 refine Y.i (aU rfl .z) .n ?_
 exact⟨by first |(rw [aE0 (by assumption)];done) |(rw [aEs (by assumption)];done),rfl⟩

theorem aKd {w0:World}{S0:Bs}{f:DFs}{bb:List Value} (h0:dV.ro w0 (FF w0 S0) f bb) (a:Int) {L:(List UInt8)}{v2:Value} (h2:dD.ro w0 (FF w0 S0) L [v2]) {b:(List Int)}{v3:Value} (h3:bK.ro w0 (FF w0 S0) b [v3]) (ht:aX f=0) (hp:bQ f.inodes.length a) (hbz:iP b=0):
    Calls Tryz.prog 138 #[.agg bb.toArray,.int .i64 a,v2,v3] w0 (aI w0 S0 (aC7 (vK f a L b))):=by
 obtain⟨cg,ch,rfl,ah,ay⟩:=bZ h0
 obtain⟨ai,aj,rfl,bc,bd,be,bf⟩:=aD ah
 obtain⟨ak,al,rfl,bg,bh,bi,bj⟩:=aD ay
 obtain⟨A2,c2,rfl,cx,cy,cz,c0⟩:=aD h2
 obtain⟨A3,c3,rfl,c1,c4,c5,c6⟩:=aD h3
 have hI:=hU ht
 have hd:=oK ht
 obtain⟨hp1a,hp2a⟩:=hp
 have hB:=vC hI a
 have hpk:sE f.inodes b (((L.length:Int)+7) / 8)=fJ f L b:=iQ (aMs hI hbz)
 refine Y.enter (N:=104) Tryz.func138 rfl rfl (by simp) [(0,.agg #[.slice ai f.inodes.length aj,.slice ak f.data.length al]),(1,.int .i64 a),(2,.slice A2 L.length c2),(3,.slice A3 b.length c3)] (by simp) (l0:= []) trivial ?_
 refine Y.seq (Y.region ?_)
 refine Y.el rfl (fQ (cs:= [.slice ai f.inodes.length aj,.slice ak f.data.length al]) (n:=2) rfl (.t .z) rfl rfl) ?_
 rintro _ _ ⟨g5,rfl,rfl⟩
 refine Y.el rfl (bB rfl aEn rfl rfl) ?_
 rintro _ _ ⟨g6,rfl,rfl⟩
 refine Y.nt (Y.seq (Y.seq (Y.region (Y.mv rfl .g4 (Y.ql rfl (bD rfl iJ (.t .z)) ?_)))))
 refine Y.cl rfl rfl Tryz.func118 rfl rfl (bG (.t .z)) .n (fun _ _ hs tr=>aIf _) ?_
 rintro _ _ ⟨rfl,rfl⟩
 refine Y.m .n ?_
 refine Y.ql rfl (fF rfl (.t .z)) (Y.nt ?_)
 refine Y.ac (.t .z) (fun b7=> ?_) (fun b7=> ?_)
 refine Y.seq (Y.region (Y.ql rfl (aW (cs:= [.int .i64 2,.slice none 0 0,.slice none 0 0]) rfl oQ (pv1 .c) rfl) ?_))
 refine Y.es (aE rfl) rfl (esW rfl (.t .g5) (.t .z) .z gN rfl rfl) ?_
 refine Y.nt (Y.ret (Y.j ?_))
 refine Y.add (c:=aH bJ [] [.slice none 0 0]) (fun w S=>aL w S none) ?_
 refine Y.add (c:=aH eH [] [.slice none 0 0]) (fun w S=>aL w S none) ?_
 refine Y.i (cU rfl .g5 nO .g2 gN) (.c .g1 (.c .z .n)) ?_
 first |(rw [aBg (by omega)];exact⟨_,_,rfl,rfl⟩) |(rw [aA5 (by omega) hpn];exact⟨_,_,rfl,rfl⟩) |(rw [aAb (by omega) hpc];exact⟨_,_,rfl,rfl⟩)
 refine Y.skip (Y.g ?_)
 refine Y.aw (γ:=Nat×(Option Addr)×Nat) (fun⟨gp,Ap,cp⟩=> [(8,.pointer (some ⟨g6,0,none⟩)),(4,.pointer (some ⟨g5,0,none⟩)),(1,.int .i64 a),(2,.slice A2 L.length c2),(9,.pointer (some ⟨gp,0,none⟩))]) (fun⟨gp,Ap,cp⟩=> [bV gp 192 2 1 [.int .i64 ((sE f.inodes b (((L.length:Int)+7) / 8)).code),.slice Ap ((sE f.inodes b (((L.length:Int)+7) / 8)).list).length cp],aH bK ((sE f.inodes b (((L.length:Int)+7) / 8)).list) [.slice Ap ((sE f.inodes b (((L.length:Int)+7) / 8)).list).length cp],bV g6 133 3 1 [.int .i64 0,.slice none 0 0,.slice none 0 0],bV g5 27 2 1 [.slice ai f.inodes.length aj,.slice ak f.data.length al]]) (fun⟨gp,Ap,cp⟩=>True) ?_ ?_
 refine Y.dr .z 8 fR ?_
 refine Y.sc (qs 0 5) (by kernel_rfl) ?_
 refine Y.df rfl rfl .z .g5 aP (Y.dl rfl rfl .z bR .z .g1 (Y.dm rfl rfl .z .g11 (Y.dm rfl rfl .z .g11 (Y.dk rfl rfl .z (bD rfl iJ (.t .z)) (Y.w ?_)))))
 refine Y.ar (i:=5) (j:=7) (by kernel_rfl) ?_ ?_
 refine Y.call (aC rfl rfl) rfl (by decide) rfl (bE rfl Tryz.func59 rfl rfl (bG (.t .z))) .n (fun _ _ hs tr=>aIw _ (by omega) (by omega)) ?_
 rintro _ _ ⟨rfl,rfl⟩
 refine Y.m .n ?_
 refine Y.sk .z ?_
 refine Y.w ?_
 refine Y.sc [] (by kernel_rfl) ?_
 refine Y.w ?_
 refine Y.ar (i:=6) (j:=7) (by kernel_rfl) ?_ ?_
 refine Y.call (aC rfl rfl) rfl (by decide) rfl (bE rfl Tryz.func166 rfl rfl (eL (.t .g4) (.t .g3) (.t .z))) .n (fun _ _ hs tr=>aHu (tr.ctx ah) (tr.ctx h3) _) ?_
 rintro _ _ ⟨c7,rfl,rfl⟩
 refine Y.m (.c .n) ?_
 refine Y.h (WS.a .z) ?_
 rintro⟨a3,a4,rfl,bk,bm,bn⟩
 refine Y.sk .g1 ?_
 refine Y.w ?_
 refine Y.sc [(7,false),(8,false)] (by kernel_rfl) ?_
 refine Y.e (aC rfl rfl) rfl (by decide) rfl (bB rfl aFj rfl rfl) ?_
 rintro _ _ ⟨g13,rfl,rfl⟩
 refine Y.sk .g2 ?_
 refine Y.es (aC rfl rfl) rfl (esW rfl (.t .z) (.t .g1) .z nP rfl rfl) ?_
 refine Y.sl rfl ?_
 refine Y.w ?_
 refine Y.af (by kernel_rfl) ?_
 exact Y.ao (g13,a3,a4) trivial (.c .g12 (.c .g13 (.c .g15 (.c .g16 (.c .z .n))))) (fun _ h=>h.sel (.c .z (.c .z (.c .z (.c .z .n)))))
 refine Y.e (aC rfl rfl) rfl (by decide) rfl (bB rfl aFj rfl rfl) ?_
 rintro _ _ ⟨g14,rfl,rfl⟩
 refine Y.sk .g1 ?_
 refine Y.w ?_
 refine Y.sc [(6,false),(8,false)] (by kernel_rfl) ?_
 refine Y.call (aC rfl rfl) rfl (by decide) rfl (bE rfl Tryz.func166 rfl rfl (eL (.t .g5) (.t .g4) (.t .g1))) .n (fun _ _ hs tr=>aHu (tr.ctx ah) (tr.ctx h3) _) ?_
 rintro _ _ ⟨c8,rfl,rfl⟩
 refine Y.m (.c .n) ?_
 refine Y.h (WS.a .z) ?_
 rintro⟨a5,a6,rfl,bo,bp,bq⟩
 refine Y.sk .g2 ?_
 refine Y.es (aC rfl rfl) rfl (esW rfl (.t .g1) (.t .z) .g1 nP rfl rfl) ?_
 refine Y.sl rfl ?_
 refine Y.w ?_
 refine Y.af (by kernel_rfl) ?_
 exact Y.ao (g14,a5,a6) trivial (.c .g12 (.c .g13 (.c .g15 (.c .g16 (.c .g1 .n))))) (fun _ h=>h.sel (.c .z (.c .z (.c .z (.c .z .n)))))
 refine Y.e (aC rfl rfl) rfl (by decide) rfl (bB rfl aFj rfl rfl) ?_
 rintro _ _ ⟨g18,rfl,rfl⟩
 refine Y.sk .g1 ?_
 refine Y.w ?_
 refine Y.sc [(5,false),(6,false),(8,false)] (by kernel_rfl) ?_
 refine Y.call (aC rfl rfl) rfl (by decide) rfl (bE rfl Tryz.func59 rfl rfl (bG (.t .g1))) .n (fun _ _ hs tr=>aIw _ (by omega) (by omega)) ?_
 rintro _ _ ⟨rfl,rfl⟩
 refine Y.m .n ?_
 refine Y.sk .g1 ?_
 refine Y.call (aC rfl rfl) rfl (by decide) rfl (bE rfl Tryz.func166 rfl rfl (eL (.t .g5) (.t .g4) (.t .z))) .n (fun _ _ hs tr=>aHu (tr.ctx ah) (tr.ctx h3) _) ?_
 rintro _ _ ⟨c9,rfl,rfl⟩
 refine Y.m (.c .n) ?_
 refine Y.h (WS.a .z) ?_
 rintro⟨a7,a8,rfl,br,bt,bu⟩
 refine Y.sk .g2 ?_
 refine Y.es (aC rfl rfl) rfl (esW rfl (.t .g2) (.t .z) .g1 nP rfl rfl) ?_
 refine Y.sl rfl ?_
 refine Y.w ?_
 refine Y.af (by kernel_rfl) ?_
 exact Y.ao (g18,a7,a8) trivial (.c .g12 (.c .g13 (.c .g15 (.c .g16 (.c .g2 .n))))) (fun _ h=>h.sel (.c .z (.c .z (.c .z (.c .z .n)))))
 rintro⟨gp,Ap,cp⟩ -
 refine Y.seq (Y.seq (Y.region (Y.fa rfl .g4 aCc (Y.ld rfl bP .z .z (Y.ql rfl (bW rfl (.t .z) .c) (Y.nt ?_))))))
 refine Y.ac (.t .z) (fun az=> ?_) (fun az=> ?_)
 rw [hpk] at az
 have ar:(sE f.inodes b (((L.length:Int)+7) / 8))=(fJ f L b):=hpk
 refine Y.eq .z (congrArg (fun z_:qD=>(.bool (!decide (z_.code=0)):Value)) ar) ?_
 refine Y.eq .g1 (congrArg (fun z_:qD=>(.int .i64 (z_.code):Value)) ar) ?_
 refine Y.ak .z (congrArg (fun z_:qD=>(bV gp 192 2 1 [.int .i64 (z_.code),.slice Ap (z_.list).length cp]:Asn)) ar) ?_
 refine Y.ak .g1 (congrArg (fun z_:qD=>(aH bK (z_.list) [.slice Ap (z_.list).length cp]:Asn)) ar) ?_
 have hpn:¬(fJ f L b).code=0:=az
 refine Y.seq (Y.region (Y.fa rfl .g7 aCc (Y.ld rfl bP .z .g1 (Y.ql rfl (aW (cs:= [.int .i64 ((fJ f L b).code),.slice none 0 0,.slice none 0 0]) rfl oQ (pv1 (.t .z)) rfl) ?_))))
 refine Y.es (aE rfl) rfl (esW rfl (.t .g6) (.t .z) .g2 gN rfl rfl) ?_
 refine Y.nt (Y.ret (Y.j ?_))
 refine Y.add (c:=aH bJ [] [.slice none 0 0]) (fun w S=>aL w S none) ?_
 refine Y.add (c:=aH eH [] [.slice none 0 0]) (fun w S=>aL w S none) ?_
 refine Y.i (cU rfl .g6 nO .g2 gN) (.c .g1 (.c .z .n)) ?_
 first |(rw [aBg (by omega)];exact⟨_,_,rfl,rfl⟩) |(rw [aA5 (by omega) hpn];exact⟨_,_,rfl,rfl⟩) |(rw [aAb (by omega) hpc];exact⟨_,_,rfl,rfl⟩)
 rw [hpk] at az
 have au:(sE f.inodes b (((L.length:Int)+7) / 8))=(fJ f L b):=hpk
 refine Y.eq .z (congrArg (fun z_:qD=>(.bool (!decide (z_.code=0)):Value)) au) ?_
 refine Y.eq .g1 (congrArg (fun z_:qD=>(.int .i64 (z_.code):Value)) au) ?_
 refine Y.ak .z (congrArg (fun z_:qD=>(bV gp 192 2 1 [.int .i64 (z_.code),.slice Ap (z_.list).length cp]:Asn)) au) ?_
 refine Y.ak .g1 (congrArg (fun z_:qD=>(aH bK (z_.list) [.slice Ap (z_.list).length cp]:Asn)) au) ?_
 have hpc:(fJ f L b).code=0:=az
 have hpi:=aFa hpc
 have hpl:((fJ f L b).list.length:Int)=((L.length:Int)+7) / 8:=hpi.2
 refine Y.skip (Y.g (Y.seq (Y.region (Y.ql rfl (qW rfl bX (.t .g4) .g3 bA) ?_))))
 refine Y.cl rfl rfl Tryz.func104 rfl rfl (bG (.t .z)) .n (fun _ _ hs tr=>qC (aJ f (tr.ctx ah) (tr.ctx ay))) ?_
 rintro _ _ ⟨da,db,rfl,rfl⟩
 refine Y.m (.c (.c .n)) ?_
 refine Y.h (WS.a .z) ?_
 rintro⟨ci,ae,rfl,bv,bw,bx⟩
 refine Y.h (WS.a .g1) ?_
 rintro⟨am,an,rfl,bz,b0,b1⟩
 refine Y.el rfl (bB rfl rG rfl rfl) ?_
 rintro _ _ ⟨g33,rfl,rfl⟩
 refine Y.es (aE rfl) rfl (esW rfl (.t .z) (.t .g1) .z bA rfl rfl) ?_
 refine Y.nt (Y.seq (Y.region (Y.fa rfl .z aP (Y.ld rfl bR .z .z (Y.mv rfl .g10 ?_)))))
 refine Y.aa (.c .g1 .n) fP ?_
 rintro ab ao
 obtain⟨aa,ap⟩:=aK (xs:=f.inodes) (j:=Int.toNat a) (by first | omega |(rw [hdl];omega) |(rw [hsl];omega))
 obtain⟨dc,ad⟩:=aK (xs:=ab) (j:=Int.toNat a) (by rw [ao];exact(List.getElem?_eq_some_iff.1 ap).1)
 refine Y.au .g1 (eJ ap ad) ?_
 refine Y.aa (.c .z .n) fC ?_
 rintro⟨dd,dg⟩ rfl
 refine Y.h (WS.a .z) ?_
 rintro⟨a0,a1,rfl,b2,b3,b4⟩
 refine Y.h (WS.a .g1) ?_
 rintro⟨af,ag,rfl,b5,b6,b8⟩
 have av:=vF (a:=a) ap (by omega)
 have a2:∀b,b∈aa.blocks→0≤b∧b≤19:=by rw [←av];exact hB
 refine Y.h (WS.h .g4 (by omega)) ?_
 rintro⟨ac,rfl⟩
 refine Y.ql rfl (aB (j:=Int.toNat a) rfl cQ aT (.t .g1) (.t .z) (by omega) (by first | omega |(rw [hdl];omega) |(rw [hsl];omega))) ?_
 refine Y.as rfl .z (Y.nt (Y.seq (Y.seq (Y.region (Y.ql rfl (aA rfl .c) (Y.nt ?_))))))
 refine Y.block ?_
 refine Y.ah (x':=qB f.data aa.blocks 0) .g6 rfl ?_
 refine Y.ai (γ:=Nat) (fun k=> [(12,.int .i64 (k:Int)),(11,.pointer (some (Addr.add ac ((Int.toNat a) * 5)))),(10,.pointer (some ⟨g33,0,none⟩)),(8,.pointer (some ⟨g6,0,none⟩)),(2,.slice A2 L.length c2),(9,.pointer (some ⟨gp,0,none⟩))]) (fun k=> [aH eH (qB f.data aa.blocks k) [.slice am f.data.length an],aH bK aa.blocks [.slice a0 aa.blocks.length a1],aH dU aa.ents [.slice af aa.ents.length ag],mZ cR (List.take (Int.toNat a) f.inodes) (List.take (Int.toNat a) ab),mZ cR (List.drop (Int.toNat a+1) f.inodes) (List.drop (Int.toNat a+1) ab),aH (bM 46 72 (nR cR.sz cR.pos)) ab [.slice (some ac) f.inodes.length ae],bV g33 27 2 1 [.slice (some ac) f.inodes.length ae,.slice am f.data.length an],aH bK ((fJ f L b).list) [.slice Ap ((fJ f L b).list).length cp],bV gp 192 2 1 [.int .i64 ((fJ f L b).code),.slice Ap ((fJ f L b).list).length cp],bV g6 133 3 1 [.int .i64 0,.slice none 0 0,.slice none 0 0],bV g5 27 2 1 [.slice ai f.inodes.length aj,.slice ak f.data.length al]]) (fun k=>k≤aa.blocks.length) (fun k=>aa.blocks.length - k) 0 (Nat.zero_le _) (.c .z (.c .g1 (.c .g6 (.c .g12 (.c .g15 (.c .g16 .n)))))) (fun _ h=>h.sel (.c .z (.c .z (.c .z (.c .z (.c .z (.c .z (.c .z (.c .z (.c .z (.c .z (.c .z .n)))))))))))) ?_
 rintro k hk
 have hdl:=mK (data:=f.data) (bs:=aa.blocks) k
 refine Y.seq (Y.seq (Y.region (Y.mv rfl .z (Y.mv rfl .g2 (Y.nc rfl .z (Y.fa rfl .z dH (Y.ql rfl (aM rfl eZ (.t .z) (WS.j .g5 ad rfl)) (Y.ql rfl (bD rfl eF (.t .z)) ?_))))))))
 refine Y.ql rfl (dA rfl (.t .g5) (.t .z)) (Y.nt ?_)
 refine Y.u (.t .z) (fun cj=> ?_) (fun cj=> ?_)
 refine Y.skip (Y.g (Y.seq (Y.block ?_)))
 refine Y.dr .z 10 fR ?_
 refine Y.sc (qs 0 10++ [(10,false)]) (by kernel_rfl) ?_
 refine Y.df rfl rfl .z .g9 gQ (Y.dl rfl rfl .z mS .z .g6 (Y.dm rfl rfl .z .g10 (Y.dn rfl rfl .z .z (Y.df rfl rfl .z .z dH (Y.dk rfl rfl .z (aM rfl eZ (.t .z) (WS.j .g5 ad rfl)) (Y.dm rfl rfl .z .g13 ?_))))))
 refine Y.h (WS.h .g1 (by omega)) ?_
 rintro⟨ck,rfl⟩
 refine Y.dk rfl rfl .z (aB (j:=k) rfl eF jO (.t .g1) (.t .z) rfl (by first | omega |(rw [hdl];omega) |(rw [hsl];omega))) ?_
 obtain⟨b9,ax⟩:=aK (xs:=aa.blocks) (j:=k) (by first | omega |(rw [hdl];omega) |(rw [hsl];omega))
 have ca:=a2 _ (List.mem_of_getElem? ax)
 refine Y.dk rfl rfl .z (aM rfl bP (.t .z) (WS.m .g1 ax)) ?_
 refine Y.h (WS.h .z (by omega)) ?_
 rintro⟨cm,rfl⟩
 refine Y.dk rfl rfl .z (aB (j:=Int.toNat b9) rfl pH nY (.t .g7) (.t .z) (by omega) (by first | omega |(rw [hdl];omega) |(rw [hsl];omega))) ?_
 refine Y.add (c:=aH dD [] [.slice none 0 0]) (fun w S=>aL w S none) ?_
 refine Y.es (aC rfl rfl) rfl (oV (j:=Int.toNat b9) rfl nY (.t .z) .c rfl (.c .g1 (.c .z .n)) (by first | omega |(rw [hdl];omega) |(rw [hsl];omega))) ?_
 refine Y.ah .z (aFc ax) ?_
 refine Y.sl rfl ?_
 refine Y.w ?_
 refine Y.af (by kernel_rfl) ?_
 refine Y.ab (Y.g (Y.region (Y.mv rfl (.s16 .g1) ?_)))
 refine Y.ql rfl (bN (c:=((k+1:Nat):Int)) rfl (.t .z) .c (wr (by omega) (by omega) (by omega))) ?_
 refine Y.er (.s16 .g3) (Y.as rfl .z (Y.nil ?_))
 refine Y.ae (k+1) (by omega) (by first | omega |(dsimp only;omega)) (.c .z (.c (.s16 .g4) (.c (.s16 .g5) (.c (.s16 .g6) (.c (.s16 .g7) (.c (.s16 .g8) .n)))))) (fun _ h=>h.sel (.c .z (.c .z (.c .z (.c .z (.c .z (.c .z (.c .z (.c .z (.c .z (.c .z (.c .z .n))))))))))))
 refine Y.exit (Y.y (Y.y (Y.ag (Y.g (Y.seq (Y.region (Y.mv rfl .g8 (Y.fa rfl .g13 aG5 ?_))))))))
 refine Y.ld rfl eZ .z .g8 (Y.nc rfl .g2 (Y.fa rfl .z dH ?_))
 refine Y.es (aE rfl) rfl (kU (j:=Int.toNat a) (off:=3) (cs:= [.slice Ap ((fJ f L b).list).length cp]) rfl aEz (.t .z) (jA _ _ _) (.t .g2) rfl (pX rfl) .g5 ad (Nat.le_of_ble_eq_true rfl)) ?_
 refine Y.ah (x':=List.set ab (Int.toNat a) [.int .i64 aa.kind,.int .i64 aa.links,.int .i64 aa.size,.slice Ap ((fJ f L b).list).length cp,.slice af aa.ents.length ag]) .z rfl ?_
 refine Y.nt (Y.seq (Y.region (Y.mv rfl .g13 (Y.mv rfl (.s16 .g1) (Y.ql rfl (bD rfl iJ (.t .z)) (Y.nc rfl .g2 (Y.fa rfl .z gU ?_)))))))
 refine Y.es (aE rfl) rfl (kU (j:=Int.toNat a) (off:=2) (cs:= [.int .i64 (L.length:Int)]) rfl jO (.t .z) (jA _ _ _) (.t .g2) rfl (pX rfl) .z (tE ad) (Nat.le_of_ble_eq_true rfl)) ?_
 refine Y.ah (x':=List.set ab (Int.toNat a) [.int .i64 aa.kind,.int .i64 aa.links,.int .i64 (L.length:Int),.slice Ap ((fJ f L b).list).length cp,.slice af aa.ents.length ag]) .z (List.set_set ..) ?_
 refine Y.nt (Y.seq (Y.seq (Y.region (Y.ql rfl (aA rfl .c) (Y.nt (Y.block ?_))))))
 refine Y.ah (x':=kJ f a) .g1 (by unfold kJ;rw [av,show k=aa.blocks.length by omega]) ?_
 refine Y.ah (x':=vG (kJ f a) (fJ f L b).list L 0) .z rfl ?_
 refine Y.ai (γ:=Nat) (fun q=> [(13,.int .i64 (q:Int)),(11,.pointer (some (Addr.add ac ((Int.toNat a) * 5)))),(10,.pointer (some ⟨g33,0,none⟩)),(8,.pointer (some ⟨g6,0,none⟩)),(2,.slice A2 L.length c2)]) (fun q=> [aH eH (vG (kJ f a) (fJ f L b).list L q) [.slice am f.data.length an],aH (bM 46 72 (nR cR.sz cR.pos)) (List.set ab (Int.toNat a) [.int .i64 aa.kind,.int .i64 aa.links,.int .i64 (L.length:Int),.slice Ap ((fJ f L b).list).length cp,.slice af aa.ents.length ag]) [.slice (some ac) f.inodes.length ae],aH bK aa.blocks [.slice a0 aa.blocks.length a1],aH dU aa.ents [.slice af aa.ents.length ag],mZ cR (List.take (Int.toNat a) f.inodes) (List.take (Int.toNat a) ab),mZ cR (List.drop (Int.toNat a+1) f.inodes) (List.drop (Int.toNat a+1) ab),bV g33 27 2 1 [.slice (some ac) f.inodes.length ae,.slice am f.data.length an],aH bK ((fJ f L b).list) [.slice Ap ((fJ f L b).list).length cp],bV gp 192 2 1 [.int .i64 ((fJ f L b).code),.slice Ap ((fJ f L b).list).length cp],bV g6 133 3 1 [.int .i64 0,.slice none 0 0,.slice none 0 0],bV g5 27 2 1 [.slice ai f.inodes.length aj,.slice ak f.data.length al]]) (fun q=>q≤(fJ f L b).list.length) (fun q=>(fJ f L b).list.length - q) 0 (Nat.zero_le _) (.c .z (.c (.s16 .g3) (.c (.s16 .g4) (.c (.s16 .g5) (.c (.s16 .g6) .n))))) (fun _ h=>h.sel (.c .z (.c .z (.c .z (.c .z (.c .z (.c .z (.c .z (.c .z (.c .z (.c .z (.c .z .n)))))))))))) ?_
 rintro q hq
 have hsl:=(tK (data:=kJ f a) (bs:=(fJ f L b).list) (L:=L) q).trans (mK _)
 refine Y.seq (Y.seq (Y.region (Y.mv rfl .z (Y.mv rfl .g2 (Y.nc rfl .z (Y.fa rfl .z dH (Y.ql rfl (aM rfl eZ (.t .z) (WS.j .g1 (tE ad) rfl)) (Y.ql rfl (bD rfl eF (.t .z)) ?_))))))))
 refine Y.ql rfl (dA rfl (.t .g5) (.t .z)) (Y.nt ?_)
 refine Y.u (.t .z) (fun cn=> ?_) (fun cn=> ?_)
 refine Y.skip (Y.g (Y.seq (Y.block (Y.seq (Y.region (Y.mv rfl .g8 (Y.nc rfl .z (Y.fa rfl .z gU ?_))))))))
 refine Y.ql rfl (aM rfl bP (.t .z) (WS.j .g1 (tE ad) rfl)) (Y.mv rfl .g11 ?_)
 refine Y.ql rfl (bN (c:=((q+1:Nat):Int)) rfl (.t .z) .c (wr (by omega) (by omega) (by omega))) ?_
 refine Y.ql rfl (rH (c:=(((q+1) * 8:Nat):Int)) rfl (.t .z) .c (wr (by omega) (by omega) (by omega))) ?_
 refine Y.cl rfl rfl Tryz.func74 rfl rfl (aS (.t .g3) (.t .z)) .n (fun _ _ hs tr=>aGq _ _) ?_
 rintro _ _ ⟨rfl,rfl⟩
 refine Y.m .n ?_
 have co:=jH (L.length:Int) (((q+1) * 8:Nat):Int)
 refine Y.as rfl .z (Y.nt ?_)
 refine Y.sel (.c .z (.c .g2 (.c .z (.c .z (.c .z (.c .z (.c .z (.c .z (.c .z (.c .z (.c .z .n))))))))))) ?_
 refine Y.dr .g2 17 fR ?_
 refine Y.sc (qs 0 9++qs 10 5++ [(9,false),(15,false),(16,true),(17,false)]) (by kernel_rfl) ?_
 refine Y.df rfl rfl .g2 (.s16 .g2) gQ (Y.dl rfl rfl .g2 mS .z .g4 (Y.dm rfl rfl .g2 (.s16 .g3) (Y.dn rfl rfl .g2 .z (Y.df rfl rfl .g2 .z dH (Y.dk rfl rfl .g2 (aM rfl eZ (.t .z) (WS.j .z (tE ad) rfl)) (Y.dm rfl rfl .g2 (.s16 .g6) ?_))))))
 refine Y.h (WS.h .g7 (by omega)) ?_
 rintro⟨cq,rfl⟩
 refine Y.dk rfl rfl .g2 (aB (j:=q) rfl eF jO (.t .g1) (.t .z) rfl (by first | omega |(rw [hdl];omega) |(rw [hsl];omega))) ?_
 obtain⟨cb,aq⟩:=aK (xs:=(fJ f L b).list) (j:=q) (by first | omega |(rw [hdl];omega) |(rw [hsl];omega))
 have cc:=hpi.1 _ (List.mem_of_getElem? aq)
 refine Y.dk rfl rfl .g2 (aM rfl bP (.t .z) (WS.m .g5 aq)) (Y.dm rfl rfl .g2 (.s16 .g13) (Y.dm rfl rfl .g2 (.s16 .g10) ?_))
 refine Y.dk rfl rfl .g2 (rH (c:=((q * 8:Nat):Int)) rfl (.t .z) .c (wr (by omega) (by omega) (by omega))) ?_
 refine Y.dm rfl rfl .g2 .g12 ?_
 refine Y.eq .z (congrArg (Value.int .i64) (show eG (L.length:Int) (((q+1) * 8:Nat):Int)=((Int.toNat (eG (L.length:Int) (((q+1) * 8:Nat):Int)):Nat):Int) by omega)) ?_
 obtain⟨cr,aw⟩:∃A':Option Addr,A'=(if c2=q * 8 then A2 else Option.map (fun z=>Addr.add z ((q * 8) * 1)) A2):=⟨_,rfl⟩
 have a9:=nD (a:=q * 8) (b:=Int.toNat (eG (L.length:Int) (((q+1) * 8:Nat):Int))) aw h2 (by omega) (by omega)
 have ct:=gH (xs:=L) (a:=q * 8) (b:=Int.toNat (eG (L.length:Int) (((q+1) * 8:Nat):Int))) (by omega)
 refine Y.dk rfl rfl .g2 (jT (a:=q * 8) (b:=Int.toNat (eG (L.length:Int) (((q+1) * 8:Nat):Int))) rfl iJ aA9 (.t .g3) aw (.inr ⟨_,_,rfl,(.t .g1)⟩) (.inr ⟨_,_,rfl,(.t .z)⟩) (by omega) (by omega) (by omega)) ?_
 refine Y.e (aC rfl rfl) rfl (by decide) rfl (eA rfl iJ (inz mC)) ?_
 rintro _ _ ⟨g56,rfl,rfl⟩
 refine Y.sk .g3 ?_
 refine Y.add (c:=aH dD ([]:(List UInt8)) [.slice (some ⟨g56,0,none⟩) 0 0]) (fun w S=>aL w S _) ?_
 refine Y.e (aC rfl rfl) rfl (by decide) rfl (eD (bT _ _ _) rfl iJ mC rfl (.t .z) (.t .g1) (.c .z .n) (fun w1 S1 tr=>tr.ctx a9) (by first | omega |(simp only [List.length_append,List.length_take,List.length_nil,List.length_cons];omega)) (by first | omega |(simp only [List.length_append,List.length_take,List.length_nil,List.length_cons];omega))) ?_
 rintro _ _ rfl
 refine Y.ah .z (List.nil_append _) ?_
 refine Y.h (WS.a .z) ?_
 rintro⟨cu,cv,rfl,cd,ce,cf⟩
 refine Y.sk .g4 ?_
 refine Y.h (WS.h .g2 (by omega)) ?_
 rintro⟨cw,rfl⟩
 refine Y.dk rfl rfl .g4 (aB (j:=Int.toNat cb) rfl pH nY (.t .g14) (.t .g7) (by omega) (by first | omega |(rw [hdl];omega) |(rw [hsl];omega))) ?_
 refine Y.es (aC rfl rfl) rfl (oV (j:=Int.toNat cb) rfl nY (.t .z) (.t .g1) rfl (.c .g2 (.c .z .n)) (by first | omega |(rw [hdl];omega) |(rw [hsl];omega))) ?_
 refine Y.ah .z (by first | exact aD1 aq | rw [aBn,aD1 aq] | rw [aFq,aD1 aq]) ?_
 refine Y.sl rfl ?_
 refine Y.w ?_
 refine Y.af (by kernel_rfl) ?_
 refine Y.ab (Y.g (Y.region (Y.mv rfl (.s16 (.s16 .g1)) ?_)))
 refine Y.ql rfl (bN (c:=((q+1:Nat):Int)) rfl (.t .z) .c (wr (by omega) (by omega) (by omega))) ?_
 refine Y.er (.s16 (.s16 .g3)) (Y.as rfl .z (Y.nil ?_))
 refine Y.ae (q+1) (by omega) (by first | omega |(dsimp only;omega)) (.c .z (.c (.s16 (.s16 .g4)) (.c (.s16 (.s16 .g5)) (.c (.s16 (.s16 .g6)) (.c (.s16 (.s16 .g7)) .n))))) (fun _ h=>h.sel (.c .z (.c .g2 (.c .g2 (.c .g1 (.c .g1 (.c .g1 (.c .g1 (.c .g1 (.c .g1 (.c .g1 (.c .g1 .n))))))))))))
 refine Y.exit (Y.y (Y.y (Y.ag (Y.g (Y.seq (Y.region (Y.ql rfl (qW rfl bX (.t .g9) .g6 bA) (Y.ql rfl (aW (cs:= [.int .i64 0,.slice (some ac) f.inodes.length ae,.slice am f.data.length an]) rfl oQ (pv1 (.t .z)) rfl) ?_))))))))
 refine Y.es (aE rfl) rfl (esW rfl (.t .g12) (.t .z) .g9 gN rfl rfl) ?_
 refine Y.nt (Y.ret ?_)
 refine Y.ad (c:=aH cR (⟨aa.kind,aa.links,(L.length:Int),(fJ f L b).list,aa.ents⟩:aF) [.int .i64 aa.kind,.int .i64 aa.links,.int .i64 (L.length:Int),.slice Ap ((fJ f L b).list).length cp,.slice af aa.ents.length ag]) (.c .g8 (.c .g4 .n)) (fun w S h=>cZ (⟨aa.kind,aa.links,(L.length:Int),(fJ f L b).list,aa.ents⟩:aF) h) ?_
 refine Y.ad (c:=aH bJ (List.set f.inodes (Int.toNat a) (⟨aa.kind,aa.links,(L.length:Int),(fJ f L b).list,aa.ents⟩:aF)) [.slice (some ac) f.inodes.length ae]) (.c .g3 (.c .z (.c .g3 (.c .g3 .n)))) (eU (K:=cR) ao (List.getElem?_eq_some_iff.1 ap).1 rfl) ?_
 have ba:List.set f.inodes (Int.toNat a) (⟨aa.kind,aa.links,(L.length:Int),(fJ f L b).list,aa.ents⟩:aF)=vY f.inodes a (L.length:Int) (fJ f L b).list:=(aIn ap (by omega))
 refine Y.ak .z (congrArg (fun z_=>(aH bJ (z_) [.slice (some ac) f.inodes.length ae]:Asn)) ba) ?_
 refine Y.ah (x':=vG (kJ f a) (fJ f L b).list L (fJ f L b).list.length) .g2 (by rw [show q=(fJ f L b).list.length by omega]) ?_
 refine Y.i (cU rfl .g12 nO .g2 gN) (.c .g1 (.c .z .n)) ?_
 first |(rw [aBg (by omega)];exact⟨_,_,rfl,rfl⟩) |(rw [aA5 (by omega) hpn];exact⟨_,_,rfl,rfl⟩) |(rw [aAb (by omega) hpc];exact⟨_,_,rfl,rfl⟩)

end Go.Proofs.YtmejbfmhaoilmaaGreatDoor

/- What is proved: contracts of functions, one a function. No condition. -/
import Derived.Test.YtmejbfmhaoilmaaGreatBase1
import Derived.Test.YtmejbfmhaoilmaaGreatW3
namespace Go.Proofs.YtmejbfmhaoilmaaGreat
open Go Go.RowKit
set_option linter.unusedVariables false
set_option linter.unusedSimpArgs false
set_option maxHeartbeats 1000000
set_option maxRecDepth 20000
theorem aMz {w0:World}{S0:Bs}{x:(List Int)}{v0:Value} (h0:bY.ro w0 (FF w0 S0) x [v0]) {y:(List Int)}{v1:Value} (h1:bY.ro w0 (FF w0 S0) y [v1]):
    Calls Tryz.prog 104 #[v0,v1] w0 (aJ w0 S0 (fun r l=>r= .bool (decide (x=y))∧l= [])):=by
 obtain⟨A0,c0,rfl,au,av,aw,an⟩:=aH h0
 obtain⟨A1,c1,rfl,ax,ay,az,ao⟩:=aH h1
 refine Y.enter (N:=26) Tryz.func104 rfl rfl (by simp) [(0,.slice A0 x.length c0),(1,.slice A1 y.length c1)] (by simp) (l0:= []) trivial ?_
 refine Y.seq (Y.region (Y.ql rfl (aA rfl .c) (Y.nt (Y.seq (Y.seq (Y.region (Y.mv rfl .g1 ?_)))))))
 refine Y.ql rfl (bM rfl eQ (.t .z)) (Y.mv rfl .g4 (Y.ql rfl (bM rfl eQ (.t .z)) (Y.ql rfl (cU rfl (.t .g2) (.t .z)) (Y.nt ?_))))
 refine Y.ad (.t .z) (fun b3=> ?_) (fun b3=> ?_)
 refine Y.seq (Y.region (Y.er .g5 (Y.ql rfl (aA rfl .c) (Y.nt (Y.ret (Y.r ?_))))))
 refine Y.i (aY rfl .z) .n ?_
 exact⟨by rw [decide_eq_false (fun h=>by subst h;omega)],rfl⟩
 refine Y.skip (Y.g (Y.seq (Y.seq (Y.region (Y.mv rfl .g6 (Y.ql rfl (bM rfl eQ (.t .z)) (Y.ql rfl (aV rfl .c) (Y.nil ?_))))))))
 refine Y.g (Y.block ?_)
 refine Y.aj (γ:=Nat) (fun k=> [(13,.int .i64 (k:Int)),(12,.int .i64 (x.length:Int)),(0,.slice A0 x.length c0),(1,.slice A1 y.length c1)]) (fun k=> []) (fun k=>k≤x.length∧∀j,j<k→x[j]? =y[j]?) (fun k=>x.length - k) 0 ⟨Nat.zero_le _,pA⟩ (.c .z (.c .g1 (.c .g9 (.c .g10 .n)))) (fun _ h=>h) ?_
 rintro k ⟨hk,hallk⟩
 refine Y.seq (Y.region (Y.ql rfl (dJ rfl (.t .z) (.t .g1)) (Y.nt (Y.seq ?_))))
 refine Y.u (.t .z) (fun b4=> ?_) (fun b4=> ?_)
 refine Y.skip (Y.g (Y.seq (Y.block (Y.seq (Y.region (Y.mv rfl .g1 (Y.as rfl .z (Y.nil ?_))))))))
 refine Y.g (Y.seq ?_)
 refine Y.dr .z 9 gG ?_
 refine Y.sc (qs 0 9) (by kernel_rfl) ?_
 refine Y.dm rfl rfl .z .g5 (Y.dm rfl rfl .z .g1 ?_)
 obtain⟨a0,aa,ab⟩:=an (by omega)
 subst aa
 obtain⟨x6,ah⟩:=aI (xs:=x) (j:=k) (by omega)
 obtain⟨ap,ai,aj,ak⟩:=ab.elem ah
 obtain⟨rfl,a1⟩:=ai
 refine Y.dk rfl rfl .z (aC (j:=k) rfl eQ jQ (.t .g1) (.t .z) rfl (by omega)) ?_
 refine Y.dk rfl rfl .z (aL rfl cF (.t .z) (WS.j aj ak rfl)) (Y.dm rfl rfl .z .g10 (Y.dm rfl rfl .z .g5 ?_))
 obtain⟨a2,ac,ad⟩:=ao (by omega)
 subst ac
 obtain⟨x9,al⟩:=aI (xs:=y) (j:=k) (by omega)
 obtain⟨am,ae,af,ag⟩:=ad.elem al
 obtain⟨rfl,aq⟩:=ae
 refine Y.dk rfl rfl .z (aC (j:=k) rfl eQ jQ (.t .g1) (.t .z) rfl (by omega)) ?_
 refine Y.dk rfl rfl .z (aL rfl cF (.t .z) (WS.j af ag rfl)) (Y.dk rfl rfl .z (cU rfl (.t .g4) (.t .z)) (Y.aa ?_))
 refine Y.ag (by kernel_rfl) ?_
 refine Y.g ?_
 refine Y.ad (.t .z) (fun ar=> ?_) (fun ar=> ?_)
 refine Y.seq (Y.region (Y.ql rfl (aA rfl .c) (Y.nt (Y.ret (Y.y (Y.r (Y.r ?_)))))))
 refine Y.y (Y.r ?_)
 refine Y.i (aY rfl .z) .n ?_
 exact⟨by rw [decide_eq_false (sH ah al (by first | assumption |(intro e;subst e;contradiction) |(simp_all;done)))],rfl⟩
 refine Y.skip (Y.ac (Y.g (Y.region ?_)))
 refine Y.ql rfl (bQ (c:=((k+1:Nat):Int)) rfl (.t .g12) .c (wr (by omega) (by omega) (by omega))) ?_
 refine Y.er .g13 (Y.mv rfl .z (Y.nil ?_))
 refine Y.ae (k+1) ⟨by omega,oP hallk ah al (by first | assumption | exact aEg (by assumption) |(simp_all;done))⟩ (by first | omega |(dsimp only;omega)) (.c .z (.c .g14 (.c .g15 (.c .g16 .n)))) (fun _ h=>h)
 refine Y.exit (Y.ab (Y.ab (Y.ai (Y.g (Y.seq (Y.region (Y.ql rfl (aA rfl .c) (Y.nil ?_))))))))
 refine Y.g (Y.ret ?_)
 refine Y.i (aY rfl .z) .n ?_
 exact⟨by rw [decide_eq_true (sI (by omega) (by omega) hallk)],rfl⟩

theorem aMs {w0:World}{S0:Bs}{x:(List aQ)}{v0:Value} (h0:cP.ro w0 (FF w0 S0) x [v0]) {y:(List aQ)}{v1:Value} (h1:cP.ro w0 (FF w0 S0) y [v1]):
    Calls Tryz.prog 105 #[v0,v1] w0 (aJ w0 S0 (fun r l=>r= .bool (decide (x=y))∧l= [])):=by
 obtain⟨A0,c0,rfl,av,aw,ax,ap⟩:=aH h0
 obtain⟨A1,c1,rfl,ay,az,a0,aq⟩:=aH h1
 refine Y.enter (N:=26) Tryz.func105 rfl rfl (by simp) [(0,.slice A0 x.length c0),(1,.slice A1 y.length c1)] (by simp) (l0:= []) trivial ?_
 refine Y.seq (Y.region (Y.ql rfl (aA rfl .c) (Y.nt (Y.seq (Y.seq (Y.region (Y.mv rfl .g1 ?_)))))))
 refine Y.ql rfl (bM rfl cZ (.t .z)) (Y.mv rfl .g4 (Y.ql rfl (bM rfl cZ (.t .z)) (Y.ql rfl (cU rfl (.t .g2) (.t .z)) (Y.nt ?_))))
 refine Y.ad (.t .z) (fun b3=> ?_) (fun b3=> ?_)
 refine Y.seq (Y.region (Y.er .g5 (Y.ql rfl (aA rfl .c) (Y.nt (Y.ret (Y.r ?_))))))
 refine Y.i (aY rfl .z) .n ?_
 exact⟨by rw [decide_eq_false (fun h=>by subst h;omega)],rfl⟩
 refine Y.skip (Y.g (Y.seq (Y.seq (Y.region (Y.mv rfl .g6 (Y.ql rfl (bM rfl cZ (.t .z)) (Y.ql rfl (aV rfl .c) (Y.nil ?_))))))))
 refine Y.g (Y.block ?_)
 refine Y.aj (γ:=Nat) (fun k=> [(13,.int .i64 (k:Int)),(12,.int .i64 (x.length:Int)),(0,.slice A0 x.length c0),(1,.slice A1 y.length c1)]) (fun k=> []) (fun k=>k≤x.length∧∀j,j<k→x[j]? =y[j]?) (fun k=>x.length - k) 0 ⟨Nat.zero_le _,pA⟩ (.c .z (.c .g1 (.c .g9 (.c .g10 .n)))) (fun _ h=>h) ?_
 rintro k ⟨hk,hallk⟩
 refine Y.seq (Y.region (Y.ql rfl (dJ rfl (.t .z) (.t .g1)) (Y.nt (Y.seq ?_))))
 refine Y.u (.t .z) (fun b4=> ?_) (fun b4=> ?_)
 refine Y.skip (Y.g (Y.seq (Y.block (Y.seq (Y.region (Y.mv rfl .g1 (Y.as rfl .z (Y.nil ?_))))))))
 refine Y.g (Y.seq ?_)
 refine Y.dr .z 9 gG ?_
 refine Y.sc (qs 0 9) (by kernel_rfl) ?_
 refine Y.dm rfl rfl .z .g5 (Y.dm rfl rfl .z .g1 ?_)
 obtain⟨a1,aa,ab⟩:=ap (by omega)
 subst aa
 obtain⟨x6,ah⟩:=aI (xs:=x) (j:=k) (by omega)
 obtain⟨ar,ai,aj,ak⟩:=ab.elem ah
 obtain⟨rfl,an⟩:=eR ai
 refine Y.dk rfl rfl .z (aC (j:=k) rfl cZ dV (.t .g1) (.t .z) rfl (by omega)) ?_
 refine Y.dk rfl rfl .z (qE rfl pU (.t .z) aj ak dV) (Y.dm rfl rfl .z .g10 (Y.dm rfl rfl .z .g5 ?_))
 obtain⟨a2,ac,ad⟩:=aq (by omega)
 subst ac
 obtain⟨x9,al⟩:=aI (xs:=y) (j:=k) (by omega)
 obtain⟨ao,ae,af,ag⟩:=ad.elem al
 obtain⟨rfl,am⟩:=eR ae
 refine Y.dk rfl rfl .z (aC (j:=k) rfl cZ dV (.t .g1) (.t .z) rfl (by omega)) ?_
 refine Y.dk rfl rfl .z (qE rfl pU (.t .z) af ag dV) (Y.dk rfl rfl .z (uB rfl (aFe x6 x9) aFb (.t .g4) (.t .z)) (Y.aa ?_))
 refine Y.ag (by kernel_rfl) ?_
 refine Y.g ?_
 refine Y.ad (.t .z) (fun au=> ?_) (fun au=> ?_)
 refine Y.seq (Y.region (Y.ql rfl (aA rfl .c) (Y.nt (Y.ret (Y.y (Y.r (Y.r ?_)))))))
 refine Y.y (Y.r ?_)
 refine Y.i (aY rfl .z) .n ?_
 exact⟨by rw [decide_eq_false (sH ah al (by first | assumption |(intro e;subst e;contradiction) |(simp_all;done)))],rfl⟩
 refine Y.skip (Y.ac (Y.g (Y.region ?_)))
 refine Y.ql rfl (bQ (c:=((k+1:Nat):Int)) rfl (.t .g12) .c (wr (by omega) (by omega) (by omega))) ?_
 refine Y.er .g13 (Y.mv rfl .z (Y.nil ?_))
 refine Y.ae (k+1) ⟨by omega,oP hallk ah al (by first | assumption | exact aEg (by assumption) |(simp_all;done))⟩ (by first | omega |(dsimp only;omega)) (.c .z (.c .g14 (.c .g15 (.c .g16 .n)))) (fun _ h=>h)
 refine Y.exit (Y.ab (Y.ab (Y.ai (Y.g (Y.seq (Y.region (Y.ql rfl (aA rfl .c) (Y.nil ?_))))))))
 refine Y.g (Y.ret ?_)
 refine Y.i (aY rfl .z) .n ?_
 exact⟨by rw [decide_eq_true (sI (by omega) (by omega) hallk)],rfl⟩

theorem aOe {w0:World}{S0:Bs}{x:aF}{am:List Value} (h0:bD.ro w0 (FF w0 S0) x am) {y:aF}{an:List Value} (h1:bD.ro w0 (FF w0 S0) y an):
    Calls Tryz.prog 58 #[.agg am.toArray,.agg an.toArray] w0 (aJ w0 S0 (fun r l=>r= .bool (decide (x=y))∧l= [])):=by
 obtain⟨a6,a7,rfl,aa,ab⟩:=cK h0
 obtain⟨ac,ad,rfl,ao,ap,aq,ar⟩:=aH aa
 obtain⟨ae,af,rfl,au,av,aw,ax⟩:=aH ab
 obtain⟨a8,a9,rfl,ag,ah⟩:=cK h1
 obtain⟨ai,aj,rfl,ay,az,a0,a1⟩:=aH ag
 obtain⟨ak,al,rfl,a2,a3,a4,a5⟩:=aH ah
 refine Y.enter (N:=38) Tryz.func58 rfl rfl (by simp) [(0,.agg #[.int .i64 x.kind,.int .i64 x.links,.int .i64 x.size,.slice ac x.blocks.length ad,.slice ae x.ents.length af]),(1,.agg #[.int .i64 y.kind,.int .i64 y.links,.int .i64 y.size,.slice ai y.blocks.length aj,.slice ak y.ents.length al])] (by simp) (l0:= []) trivial ?_
 refine Y.seq (Y.region ?_)
 refine Y.el rfl (fT (cs:= [.int .i64 x.kind,.int .i64 x.links,.int .i64 x.size,.slice ac x.blocks.length ad,.slice ae x.ents.length af]) (n:=5) rfl (.t .z) rfl rfl) ?_
 rintro _ _ ⟨g5,rfl,rfl⟩
 refine Y.el rfl (fT (cs:= [.int .i64 y.kind,.int .i64 y.links,.int .i64 y.size,.slice ai y.blocks.length aj,.slice ak y.ents.length al]) (n:=5) rfl (.t .g2) rfl rfl) ?_
 rintro _ _ ⟨g6,rfl,rfl⟩
 refine Y.ql rfl (aA rfl .c) (Y.nt (Y.seq (Y.region (Y.fa rfl .g2 cV (Y.ld rfl cF .z .g1 (Y.fa rfl .g3 cV (Y.ld rfl cF .z .z ?_)))))))
 refine Y.ql rfl (bZ rfl (.t .g2) (.t .z)) (Y.mv rfl .z ?_)
 refine Y.al .z (fun g7=> ?_) (fun g7=> ?_)
 refine Y.qg rfl rfl .z rfl rfl rfl (aK rfl (.t .g8) (fun _=>gC _ _)) ?_
 refine Y.qg rfl rfl .g1 rfl rfl rfl (aL rfl cF (.t .z) (WS.g .g1 rfl)) ?_
 refine Y.qg rfl rfl .g2 rfl rfl rfl (aK rfl (.t .g9) (fun _=>gC _ _)) ?_
 refine Y.qg rfl rfl .g3 rfl rfl rfl (aL rfl cF (.t .z) (WS.g .z rfl)) ?_
 refine Y.qg rfl rfl .g4 rfl rfl rfl (bZ rfl (.t .g2) (.t .z)) ?_
 refine Y.ql rfl (bO rfl (.t .g5) (.t .z)) (Y.mv rfl .z ?_)
 refine Y.al .z (fun g8=> ?_) (fun g8=> ?_)
 refine Y.qg rfl rfl .z rfl rfl rfl (aK rfl (.t .g15) (fun _=>hX _ _)) ?_
 refine Y.qg rfl rfl .g1 rfl rfl rfl (aL rfl cF (.t .z) (WS.g .g1 rfl)) ?_
 refine Y.qg rfl rfl .g2 rfl rfl rfl (aK rfl (.t .g16) (fun _=>hX _ _)) ?_
 refine Y.qg rfl rfl .g3 rfl rfl rfl (aL rfl cF (.t .z) (WS.g .z rfl)) ?_
 refine Y.qg rfl rfl .g4 rfl rfl rfl (bZ rfl (.t .g2) (.t .z)) ?_
 refine Y.ql rfl (bO rfl (.t .g5) (.t .z)) (Y.mv rfl .z ?_)
 refine Y.al .z (fun g9=> ?_) (fun g9=> ?_)
 refine Y.qg rfl rfl .z rfl rfl rfl (aK rfl (.t (.s16 .g6)) (fun _=>dI _ _)) ?_
 refine Y.qg rfl rfl .g1 rfl rfl rfl (aL rfl fA (.t .z) (WS.g .g1 rfl)) ?_
 refine Y.qg rfl rfl .g2 rfl rfl rfl (aK rfl (.t (.s16 .g7)) (fun _=>dI _ _)) ?_
 refine Y.qg rfl rfl .g3 rfl rfl rfl (aL rfl fA (.t .z) (WS.g .z rfl)) ?_
 refine Y.call (fU rfl rfl .g4) rfl (by decide) rfl (bS rfl Tryz.func104 rfl rfl (aX (.t .g2) (.t .z))) .n (fun _ _ hs tr=>aMz (tr.ctx aa) (tr.ctx ag)) ?_
 rintro _ _ ⟨rfl,rfl⟩
 refine Y.m .n ?_
 refine Y.ql rfl (bO rfl (.t .g5) (.t .z)) (Y.mv rfl .z ?_)
 refine Y.al .z (fun g10=> ?_) (fun g10=> ?_)
 refine Y.qg rfl rfl .z rfl rfl rfl (aK rfl (.t (.s16 .g13)) (fun _=>bE _ _)) ?_
 refine Y.qg rfl rfl .g1 rfl rfl rfl (aL rfl dP (.t .z) (WS.g .g1 rfl)) ?_
 refine Y.qg rfl rfl .g2 rfl rfl rfl (aK rfl (.t (.s16 .g14)) (fun _=>bE _ _)) ?_
 refine Y.qg rfl rfl .g3 rfl rfl rfl (aL rfl dP (.t .z) (WS.g .z rfl)) ?_
 refine Y.call (fU rfl rfl .g4) rfl (by decide) rfl (bS rfl Tryz.func105 rfl rfl (aX (.t .g2) (.t .z))) .n (fun _ _ hs tr=>aMs (tr.ctx ab) (tr.ctx ah)) ?_
 rintro _ _ ⟨rfl,rfl⟩
 refine Y.m .n ?_
 refine Y.ql rfl (bO rfl (.t .g5) (.t .z)) (Y.er (.s16 (.s16 .g1)) (Y.as rfl .z (Y.nt (Y.ret ?_))))
 refine Y.i (aY rfl .z) .n ?_
 exact⟨congrArg Value.bool (by cases x;cases y;simp_all),rfl⟩
 refine Y.j rfl rfl .z rfl rfl (by decide) rfl ?_
 refine Y.j rfl rfl .g1 rfl rfl (by decide) rfl ?_
 refine Y.j rfl rfl .g2 rfl rfl (by decide) rfl ?_
 refine Y.j rfl rfl .g3 rfl rfl (by decide) rfl ?_
 refine Y.j rfl rfl .g4 rfl rfl (by decide) rfl ?_
 refine Y.ql rfl (bW rfl (.t .g5) .c) (Y.er (.s16 (.s16 .g1)) (Y.as rfl .z (Y.nt (Y.ret ?_))))
 refine Y.i (aY rfl .z) .n ?_
 exact⟨congrArg Value.bool (by cases x;cases y;simp_all),rfl⟩
 refine Y.j rfl rfl .z rfl rfl (by decide) rfl ?_
 refine Y.j rfl rfl .g1 rfl rfl (by decide) rfl ?_
 refine Y.j rfl rfl .g2 rfl rfl (by decide) rfl ?_
 refine Y.j rfl rfl .g3 rfl rfl (by decide) rfl ?_
 refine Y.j rfl rfl .g4 rfl rfl (by decide) rfl ?_
 refine Y.ql rfl (bW rfl (.t .g5) .c) (Y.mv rfl .z ?_)
 refine Y.j rfl rfl .z rfl rfl (by decide) rfl ?_
 refine Y.j rfl rfl .g1 rfl rfl (by decide) rfl ?_
 refine Y.j rfl rfl .g2 rfl rfl (by decide) rfl ?_
 refine Y.j rfl rfl .g3 rfl rfl (by decide) rfl ?_
 refine Y.j rfl rfl .g4 rfl rfl (by decide) rfl ?_
 refine Y.ql rfl (bW rfl (.t .g5) .c) (Y.er (.s16 (.s16 .g1)) (Y.as rfl .z (Y.nt (Y.ret ?_))))
 refine Y.i (aY rfl .z) .n ?_
 exact⟨congrArg Value.bool (by cases x;cases y;simp_all),rfl⟩
 refine Y.j rfl rfl .z rfl rfl (by decide) rfl ?_
 refine Y.j rfl rfl .g1 rfl rfl (by decide) rfl ?_
 refine Y.j rfl rfl .g2 rfl rfl (by decide) rfl ?_
 refine Y.j rfl rfl .g3 rfl rfl (by decide) rfl ?_
 refine Y.j rfl rfl .g4 rfl rfl (by decide) rfl ?_
 refine Y.ql rfl (bW rfl (.t .g5) .c) (Y.mv rfl .z ?_)
 refine Y.j rfl rfl .z rfl rfl (by decide) rfl ?_
 refine Y.j rfl rfl .g1 rfl rfl (by decide) rfl ?_
 refine Y.j rfl rfl .g2 rfl rfl (by decide) rfl ?_
 refine Y.j rfl rfl .g3 rfl rfl (by decide) rfl ?_
 refine Y.j rfl rfl .g4 rfl rfl (by decide) rfl ?_
 refine Y.ql rfl (bW rfl (.t .g5) .c) (Y.mv rfl .z ?_)
 refine Y.j rfl rfl .z rfl rfl (by decide) rfl ?_
 refine Y.j rfl rfl .g1 rfl rfl (by decide) rfl ?_
 refine Y.j rfl rfl .g2 rfl rfl (by decide) rfl ?_
 refine Y.j rfl rfl .g3 rfl rfl (by decide) rfl ?_
 refine Y.j rfl rfl .g4 rfl rfl (by decide) rfl ?_
 refine Y.ql rfl (bW rfl (.t .g5) .c) (Y.er (.s16 (.s16 .g1)) (Y.as rfl .z (Y.nt (Y.ret ?_))))
 refine Y.i (aY rfl .z) .n ?_
 exact⟨congrArg Value.bool (by cases x;cases y;simp_all),rfl⟩
 refine Y.j rfl rfl .z rfl rfl (by decide) rfl ?_
 refine Y.j rfl rfl .g1 rfl rfl (by decide) rfl ?_
 refine Y.j rfl rfl .g2 rfl rfl (by decide) rfl ?_
 refine Y.j rfl rfl .g3 rfl rfl (by decide) rfl ?_
 refine Y.j rfl rfl .g4 rfl rfl (by decide) rfl ?_
 refine Y.ql rfl (bW rfl (.t .g5) .c) (Y.mv rfl .z ?_)
 refine Y.j rfl rfl .z rfl rfl (by decide) rfl ?_
 refine Y.j rfl rfl .g1 rfl rfl (by decide) rfl ?_
 refine Y.j rfl rfl .g2 rfl rfl (by decide) rfl ?_
 refine Y.j rfl rfl .g3 rfl rfl (by decide) rfl ?_
 refine Y.j rfl rfl .g4 rfl rfl (by decide) rfl ?_
 refine Y.ql rfl (bW rfl (.t .g5) .c) (Y.mv rfl .z ?_)
 refine Y.j rfl rfl .z rfl rfl (by decide) rfl ?_
 refine Y.j rfl rfl .g1 rfl rfl (by decide) rfl ?_
 refine Y.j rfl rfl .g2 rfl rfl (by decide) rfl ?_
 refine Y.j rfl rfl .g3 rfl rfl (by decide) rfl ?_
 refine Y.j rfl rfl .g4 rfl rfl (by decide) rfl ?_
 refine Y.ql rfl (bW rfl (.t .g5) .c) (Y.mv rfl .z ?_)
 refine Y.j rfl rfl .z rfl rfl (by decide) rfl ?_
 refine Y.j rfl rfl .g1 rfl rfl (by decide) rfl ?_
 refine Y.j rfl rfl .g2 rfl rfl (by decide) rfl ?_
 refine Y.j rfl rfl .g3 rfl rfl (by decide) rfl ?_
 refine Y.j rfl rfl .g4 rfl rfl (by decide) rfl ?_
 refine Y.ql rfl (bW rfl (.t .g5) .c) (Y.er (.s16 (.s16 .g1)) (Y.as rfl .z (Y.nt (Y.ret ?_))))
 refine Y.i (aY rfl .z) .n ?_
 exact⟨congrArg Value.bool (by cases x;cases y;simp_all),rfl⟩

theorem aNy {w0:World}{S0:Bs}{xs:(List aF)}{v0:Value} (h0:aP.ro w0 (FF w0 S0) xs [v0]) {ys:(List aF)}{v1:Value} (h1:aP.ro w0 (FF w0 S0) ys [v1]) {f:FuncId}{fn:Func} (hfn:Tryz.prog.funcs[f]? =some fn) (hbody:fn.body.isSome=true) (hname:(fn.name == "runtime.NumGoroutine")=false) (hf:∀(w1:World) (S1:Bs) {x y:aF}{be bf:List Value},bD.ro w1 (FF w1 S1) x be→bD.ro w1 (FF w1 S1) y bf→Calls Tryz.prog f #[.agg be.toArray,.agg bf.toArray] w1 (aJ w1 S1 (fun r l=>r= .bool (decide (x=y))∧l= []))):
    Calls Tryz.prog 57 #[v0,v1,.func (.func f) #[] #[]] w0 (aJ w0 S0 (fun r l=>r= .bool (decide (xs=ys))∧l= [])):=by
 obtain⟨A0,c0,rfl,bu,bv,bw,bo⟩:=aH h0
 obtain⟨A1,c1,rfl,bx,bz,b0,bp⟩:=aH h1
 refine Y.enter (N:=32) Tryz.func57 rfl rfl (by simp) [(0,.slice A0 xs.length c0),(1,.slice A1 ys.length c1),(2,.func (.func f) #[] #[])] (by simp) (l0:= []) trivial ?_
 refine Y.seq (Y.region (Y.ql rfl (aA rfl .c) (Y.nt (Y.seq (Y.seq (Y.region (Y.mv rfl .g1 ?_)))))))
 refine Y.ql rfl (bM rfl cE (.t .z)) (Y.mv rfl .g4 (Y.ql rfl (bM rfl cE (.t .z)) (Y.ql rfl (cU rfl (.t .g2) (.t .z)) (Y.nt ?_))))
 refine Y.ad (.t .z) (fun b3=> ?_) (fun b3=> ?_)
 refine Y.seq (Y.region (Y.er .g5 (Y.ql rfl (aA rfl .c) (Y.nt (Y.ret (Y.r ?_))))))
 refine Y.i (aY rfl .z) .n ?_
 exact⟨by rw [decide_eq_false (fun h=>by subst h;omega)],rfl⟩
 refine Y.skip (Y.g (Y.seq (Y.seq (Y.region (Y.mv rfl .g6 (Y.ql rfl (bM rfl cE (.t .z)) (Y.ql rfl (aV rfl .c) (Y.nil ?_))))))))
 refine Y.g (Y.block ?_)
 refine Y.aj (γ:=Nat) (fun k=> [(17,.int .i64 (k:Int)),(16,.int .i64 (xs.length:Int)),(15,.slice A0 xs.length c0),(1,.slice A1 ys.length c1),(2,.func (.func f) #[] #[])]) (fun k=> []) (fun k=>k≤xs.length∧∀j,j<k→xs[j]? =ys[j]?) (fun k=>xs.length - k) 0 ⟨Nat.zero_le _,pA⟩ (.c .z (.c .g1 (.c .g2 (.c .g10 (.c .g11 .n))))) (fun _ h=>h) ?_
 rintro k ⟨hk,hallk⟩
 refine Y.seq (Y.region (Y.ql rfl (dJ rfl (.t .z) (.t .g1)) (Y.nt (Y.seq ?_))))
 refine Y.u (.t .z) (fun b4=> ?_) (fun b4=> ?_)
 refine Y.skip (Y.g (Y.seq (Y.block (Y.seq (Y.region (Y.mv rfl .g1 ?_))))))
 obtain⟨b1,ah,ai⟩:=bo (by omega)
 subst ah
 obtain⟨x6,aw⟩:=aI (xs:=xs) (j:=k) (by omega)
 obtain⟨bq,ax,ay,az⟩:=ai.elem aw
 obtain⟨bg,bh,rfl,ac,ad⟩:=cK ax
 obtain⟨bi,bj,rfl,a0,a1,a2,a3⟩:=aH ac
 obtain⟨bk,bm,rfl,a4,a5,a6,a7⟩:=aH ad
 refine Y.ql rfl (aC (j:=k) rfl cE aU (.t .g4) (.t .g2) rfl (by omega)) ?_
 refine Y.ql rfl (qE rfl fG (.t .z) ay az aU) ?_
 refine Y.el rfl (bL rfl tB rfl rfl) ?_
 rintro _ _ ⟨g10,rfl,rfl⟩
 refine Y.as rfl .g3 ?_
 refine Y.es (aD rfl) rfl (esW rfl (.t .g1) (.t .g2) .z aU rfl rfl) ?_
 refine Y.nt (Y.seq (Y.region (Y.mv rfl .g9 (Y.mv rfl .g1 ?_))))
 obtain⟨br,ae,af⟩:=bp (by omega)
 subst ae
 obtain⟨bs,ag⟩:=aI (xs:=ys) (j:=k) (by omega)
 obtain⟨bn,aj,ak,al⟩:=af.elem ag
 obtain⟨a8,a9,rfl,aa,ab⟩:=cK aj
 obtain⟨ba,bb,rfl,am,an,ao,ap⟩:=aH aa
 obtain⟨bc,bd,rfl,aq,ar,au,av⟩:=aH ab
 refine Y.ql rfl (aC (j:=k) rfl cE aU (.t .g1) (.t .z) rfl (by omega)) ?_
 refine Y.ql rfl (qE rfl fG (.t .z) ak al aU) ?_
 refine Y.el rfl (bL rfl tB rfl rfl) ?_
 rintro _ _ ⟨g16,rfl,rfl⟩
 refine Y.es (aD rfl) rfl (esW rfl (.t .z) (.t .g1) .z aU rfl rfl) ?_
 refine Y.nt (Y.seq (Y.region (Y.mv rfl .g15 (Y.ql rfl (qW rfl fG (.t .g7) .g1 aU) (Y.ql rfl (qW rfl fG (.t .g2) .z aU) ?_)))))
 refine Y.call (aD rfl) rfl (by decide) rfl (sL rfl (.t .g2) hfn hbody hname (aX (.t .g1) (.t .z))) .n (fun w1 S1 hs tr=>hf w1 S1 (hP x6 (tr.ctx ac) (tr.ctx ad)) (hP bs (tr.ctx aa) (tr.ctx ab))) ?_
 rintro _ _ ⟨rfl,rfl⟩
 refine Y.m .n ?_
 refine Y.ql rfl (fN rfl (.t .z)) (Y.nt ?_)
 refine Y.ad (.t .z) (fun bt=> ?_) (fun bt=> ?_)
 refine Y.seq (Y.region (Y.ql rfl (aA rfl .c) (Y.nt (Y.ret (Y.y (Y.r (Y.r ?_)))))))
 refine Y.y (Y.r ?_)
 refine Y.i (aY rfl .z) .n ?_
 exact⟨by rw [decide_eq_false (sH aw ag (by assumption))],rfl⟩
 refine Y.skip (Y.ac (Y.g (Y.region ?_)))
 refine Y.ql rfl (bQ (c:=((k+1:Nat):Int)) rfl (.t .g16) .c (wr (by omega) (by omega) (by omega))) ?_
 refine Y.er (.s16 .g1) (Y.mv rfl .z (Y.nil ?_))
 refine Y.ae (k+1) ⟨by omega,oP hallk aw ag (by assumption)⟩ (by first | omega |(dsimp only;omega)) (.c .z (.c (.s16 .g2) (.c (.s16 .g3) (.c (.s16 .g4) (.c (.s16 .g5) .n))))) (fun _ h=>h.sel .n)
 refine Y.exit (Y.ab (Y.ab (Y.ai (Y.g (Y.seq (Y.region (Y.ql rfl (aA rfl .c) (Y.nil ?_))))))))
 refine Y.g (Y.ret ?_)
 refine Y.i (aY rfl .z) .n ?_
 exact⟨by rw [decide_eq_true (sI (by omega) (by omega) hallk)],rfl⟩

theorem aN6 {w0:World}{S0:Bs}{x:(List UInt8)}{v0:Value} (h0:cX.ro w0 (FF w0 S0) x [v0]) {y:(List UInt8)}{v1:Value} (h1:cX.ro w0 (FF w0 S0) y [v1]):
    Calls Tryz.prog 60 #[v0,v1] w0 (aJ w0 S0 (fun r l=>r= .bool (decide (x=y))∧l= [])):=by
 obtain⟨A0,c0,rfl,hl0,hm0,hb0,he0⟩:=aH h0
 obtain⟨A1,c1,rfl,hl1,hm1,hb1,he1⟩:=aH h1
 refine Y.enter (N:=10) Tryz.func60 rfl rfl (by simp) [(0,.slice A0 x.length c0),(1,.slice A1 y.length c1)] (by simp) (l0:= []) trivial ?_
 refine Y.seq (Y.region (Y.ql rfl (aA rfl .c) (Y.nt (Y.seq (Y.region (Y.mv rfl .g1 (Y.ql rfl (aCa (xs:=x) rfl gV u_5 u_9 (.t .z) (WS.y h0)) ?_)))))))
 refine Y.mv rfl .g4 (Y.ql rfl (aCa (xs:=y) rfl gV u_5 u_9 (.t .z) (WS.y h1)) (Y.ql rfl (rM rfl (.t .g2) (.t .z)) (Y.er .g5 (Y.as rfl .z (Y.nt (Y.ret ?_))))))
 refine Y.i (aY rfl .z) .n ?_
 exact⟨congrArg Value.bool (decide_eq_decide.2 aGy),rfl⟩

theorem aNr {w0:World}{S0:Bs}{xs:(List (List UInt8))}{v0:Value} (h0:cG.ro w0 (FF w0 S0) xs [v0]) {ys:(List (List UInt8))}{v1:Value} (h1:cG.ro w0 (FF w0 S0) ys [v1]) {f:FuncId}{fn:Func} (hfn:Tryz.prog.funcs[f]? =some fn) (hbody:fn.body.isSome=true) (hname:(fn.name == "runtime.NumGoroutine")=false) (hf:∀(w1:World) (S1:Bs) {x y:(List UInt8)}{v1 v2:Value},cX.ro w1 (FF w1 S1) x [v1]→cX.ro w1 (FF w1 S1) y [v2]→Calls Tryz.prog f #[v1,v2] w1 (aJ w1 S1 (fun r l=>r= .bool (decide (x=y))∧l= []))):
    Calls Tryz.prog 59 #[v0,v1,.func (.func f) #[] #[]] w0 (aJ w0 S0 (fun r l=>r= .bool (decide (xs=ys))∧l= [])):=by
 obtain⟨A0,c0,rfl,a4,a5,a6,ar⟩:=aH h0
 obtain⟨A1,c1,rfl,a7,a8,a9,au⟩:=aH h1
 refine Y.enter (N:=32) Tryz.func59 rfl rfl (by simp) [(0,.slice A0 xs.length c0),(1,.slice A1 ys.length c1),(2,.func (.func f) #[] #[])] (by simp) (l0:= []) trivial ?_
 refine Y.seq (Y.region (Y.ql rfl (aA rfl .c) (Y.nt (Y.seq (Y.seq (Y.region (Y.mv rfl .g1 ?_)))))))
 refine Y.ql rfl (bM rfl mA (.t .z)) (Y.mv rfl .g4 (Y.ql rfl (bM rfl mA (.t .z)) (Y.ql rfl (cU rfl (.t .g2) (.t .z)) (Y.nt ?_))))
 refine Y.ad (.t .z) (fun b3=> ?_) (fun b3=> ?_)
 refine Y.seq (Y.region (Y.er .g5 (Y.ql rfl (aA rfl .c) (Y.nt (Y.ret (Y.r ?_))))))
 refine Y.i (aY rfl .z) .n ?_
 exact⟨by rw [decide_eq_false (fun h=>by subst h;omega)],rfl⟩
 refine Y.skip (Y.g (Y.seq (Y.seq (Y.region (Y.mv rfl .g6 (Y.ql rfl (bM rfl mA (.t .z)) (Y.ql rfl (aV rfl .c) (Y.nil ?_))))))))
 refine Y.g (Y.block ?_)
 refine Y.aj (γ:=Nat) (fun k=> [(17,.int .i64 (k:Int)),(16,.int .i64 (xs.length:Int)),(15,.slice A0 xs.length c0),(1,.slice A1 ys.length c1),(2,.func (.func f) #[] #[])]) (fun k=> []) (fun k=>k≤xs.length∧∀j,j<k→xs[j]? =ys[j]?) (fun k=>xs.length - k) 0 ⟨Nat.zero_le _,pA⟩ (.c .z (.c .g1 (.c .g2 (.c .g10 (.c .g11 .n))))) (fun _ h=>h) ?_
 rintro k ⟨hk,hallk⟩
 refine Y.seq (Y.region (Y.ql rfl (dJ rfl (.t .z) (.t .g1)) (Y.nt (Y.seq ?_))))
 refine Y.u (.t .z) (fun b4=> ?_) (fun b4=> ?_)
 refine Y.skip (Y.g (Y.seq (Y.block (Y.seq (Y.region (Y.mv rfl .g1 ?_))))))
 obtain⟨ba,ad,ae⟩:=ar (by omega)
 subst ad
 obtain⟨x6,aj⟩:=aI (xs:=xs) (j:=k) (by omega)
 obtain⟨av,ab,ak,al⟩:=ae.elem aj
 obtain⟨bb,rfl⟩:=mD ab
 obtain⟨bc,bd,rfl,aw,ax,ay,az⟩:=aH ab
 refine Y.ql rfl (aC (j:=k) rfl mA mC (.t .g4) (.t .g2) rfl (by omega)) ?_
 refine Y.ql rfl (aL rfl nL (.t .z) (WS.j ak al rfl)) (Y.as rfl .g2 (Y.as rfl .g1 (Y.nt (Y.seq (Y.region (Y.mv rfl .g9 (Y.mv rfl .g2 ?_)))))))
 obtain⟨be,af,ag⟩:=au (by omega)
 subst af
 obtain⟨bf,ac⟩:=aI (xs:=ys) (j:=k) (by omega)
 obtain⟨am,aa,ah,ai⟩:=ag.elem ac
 obtain⟨a0,rfl⟩:=mD aa
 obtain⟨a1,a2,rfl,an,ao,ap,aq⟩:=aH aa
 refine Y.ql rfl (aC (j:=k) rfl mA mC (.t .g1) (.t .z) rfl (by omega)) ?_
 refine Y.ql rfl (aL rfl nL (.t .z) (WS.j ah ai rfl)) (Y.as rfl .z (Y.nt (Y.seq (Y.region (Y.mv rfl .g15 (Y.mv rfl .g6 (Y.mv rfl .g2 ?_)))))))
 refine Y.call (aD rfl) rfl (by decide) rfl (sL rfl (.t .g2) hfn hbody hname (aX (.t .g1) (.t .z))) .n (fun w1 S1 hs tr=>hf w1 S1 (tr.ctx ab) (tr.ctx aa)) ?_
 rintro _ _ ⟨rfl,rfl⟩
 refine Y.m .n ?_
 refine Y.ql rfl (fN rfl (.t .z)) (Y.nt ?_)
 refine Y.ad (.t .z) (fun a3=> ?_) (fun a3=> ?_)
 refine Y.seq (Y.region (Y.ql rfl (aA rfl .c) (Y.nt (Y.ret (Y.y (Y.r (Y.r ?_)))))))
 refine Y.y (Y.r ?_)
 refine Y.i (aY rfl .z) .n ?_
 exact⟨by rw [decide_eq_false (sH aj ac (by assumption))],rfl⟩
 refine Y.skip (Y.ac (Y.g (Y.region ?_)))
 refine Y.ql rfl (bQ (c:=((k+1:Nat):Int)) rfl (.t .g16) .c (wr (by omega) (by omega) (by omega))) ?_
 refine Y.er (.s16 .g1) (Y.mv rfl .z (Y.nil ?_))
 refine Y.ae (k+1) ⟨by omega,oP hallk aj ac (by assumption)⟩ (by first | omega |(dsimp only;omega)) (.c .z (.c (.s16 .g2) (.c (.s16 .g3) (.c (.s16 .g4) (.c (.s16 .g5) .n))))) (fun _ h=>h)
 refine Y.exit (Y.ab (Y.ab (Y.ai (Y.g (Y.seq (Y.region (Y.ql rfl (aA rfl .c) (Y.nil ?_))))))))
 refine Y.g (Y.ret ?_)
 refine Y.i (aY rfl .z) .n ?_
 exact⟨by rw [decide_eq_true (sI (by omega) (by omega) hallk)],rfl⟩

theorem aOh {w0:World}{S0:Bs}{x:DFs}{am:List Value} (h0:eU.ro w0 (FF w0 S0) x am) {y:DFs}{an:List Value} (h1:eU.ro w0 (FF w0 S0) y an):
    Calls Tryz.prog 21 #[.agg am.toArray,.agg an.toArray] w0 (aJ w0 S0 (fun r l=>r= .bool (decide (x=y))∧l= [])):=by
 obtain⟨a6,a7,rfl,aa,ab⟩:=cY h0
 obtain⟨ac,ad,rfl,ao,ap,aq,ar⟩:=aH aa
 obtain⟨ae,af,rfl,au,av,aw,ax⟩:=aH ab
 obtain⟨a8,a9,rfl,ag,ah⟩:=cY h1
 obtain⟨ai,aj,rfl,ay,az,a0,a1⟩:=aH ag
 obtain⟨ak,al,rfl,a2,a3,a4,a5⟩:=aH ah
 refine Y.enter (N:=17) Tryz.func21 rfl rfl (by simp) [(0,.agg #[.slice ac x.inodes.length ad,.slice ae x.data.length af]),(1,.agg #[.slice ai y.inodes.length aj,.slice ak y.data.length al])] (by simp) (l0:= []) trivial ?_
 refine Y.seq (Y.region ?_)
 refine Y.el rfl (fT (cs:= [.slice ac x.inodes.length ad,.slice ae x.data.length af]) (n:=2) rfl (.t .z) rfl rfl) ?_
 rintro _ _ ⟨g5,rfl,rfl⟩
 refine Y.el rfl (fT (cs:= [.slice ai y.inodes.length aj,.slice ak y.data.length al]) (n:=2) rfl (.t .g2) rfl rfl) ?_
 rintro _ _ ⟨g6,rfl,rfl⟩
 refine Y.ql rfl (aA rfl .c) (Y.nt (Y.seq (Y.region (Y.fa rfl .g2 aO (Y.ld rfl bK .z .g1 (Y.fa rfl .g3 aO (Y.ld rfl bK .z .z ?_)))))))
 refine Y.cl rfl rfl Tryz.func57 rfl rfl (dX (.t .g2) (.t .z) .f) .n (fun _ _ hs tr=>aNy (tr.ctx aa) (tr.ctx ag) Tryz.func58 rfl rfl (fun w2 S2 x y _ _ h1 h2=>aOe h1 h2)) ?_
 rintro _ _ ⟨rfl,rfl⟩
 refine Y.m .n ?_
 refine Y.mv rfl .z ?_
 refine Y.al .z (fun g7=> ?_) (fun g7=> ?_)
 refine Y.qg rfl rfl .z rfl rfl rfl (aK rfl (.t .g8) (fun _=>gR _ _)) ?_
 refine Y.qg rfl rfl .g1 rfl rfl rfl (aL rfl lM (.t .z) (WS.g .g1 rfl)) ?_
 refine Y.qg rfl rfl .g2 rfl rfl rfl (aK rfl (.t .g9) (fun _=>gR _ _)) ?_
 refine Y.qg rfl rfl .g3 rfl rfl rfl (aL rfl lM (.t .z) (WS.g .z rfl)) ?_
 refine Y.call (fU rfl rfl .g4) rfl (by decide) rfl (bS rfl Tryz.func59 rfl rfl (dX (.t .g2) (.t .z) .f)) .n (fun _ _ hs tr=>aNr (tr.ctx ab) (tr.ctx ah) Tryz.func60 rfl rfl (fun w2 S2 x y _ _ h1 h2=>aN6 h1 h2)) ?_
 rintro _ _ ⟨rfl,rfl⟩
 refine Y.m .n ?_
 refine Y.ql rfl (bO rfl (.t .g5) (.t .z)) (Y.er .g12 (Y.as rfl .z (Y.nt (Y.ret ?_))))
 refine Y.i (aY rfl .z) .n ?_
 exact⟨congrArg Value.bool (by cases x;cases y;simp_all),rfl⟩
 refine Y.j rfl rfl .z rfl rfl (by decide) rfl ?_
 refine Y.j rfl rfl .g1 rfl rfl (by decide) rfl ?_
 refine Y.j rfl rfl .g2 rfl rfl (by decide) rfl ?_
 refine Y.j rfl rfl .g3 rfl rfl (by decide) rfl ?_
 refine Y.j rfl rfl .g4 rfl rfl (by decide) rfl ?_
 refine Y.ql rfl (bW rfl (.t .g5) .c) (Y.er .g12 (Y.as rfl .z (Y.nt (Y.ret ?_))))
 refine Y.i (aY rfl .z) .n ?_
 exact⟨congrArg Value.bool (by cases x;cases y;simp_all),rfl⟩

end Go.Proofs.YtmejbfmhaoilmaaGreat

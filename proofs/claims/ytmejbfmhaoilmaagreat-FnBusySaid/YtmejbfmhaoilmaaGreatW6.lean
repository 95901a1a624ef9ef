/- What is proved: contracts of functions, one a function. No condition. -/
import Derived.Test.YtmejbfmhaoilmaaGreatBase1
import Derived.Test.YtmejbfmhaoilmaaGreatW3
namespace Go.Proofs.YtmejbfmhaoilmaaGreat
open Go Go.RowKit
set_option linter.unusedVariables false
set_option linter.unusedSimpArgs false
set_option maxHeartbeats 1000000
set_option maxRecDepth 20000
theorem aLb {w0:World}{S0:Bs}{x:(List Int)}{v0:Value} (h0:aY.ro w0 (FF w0 S0) x [v0]) {y:(List Int)}{v1:Value} (h1:aY.ro w0 (FF w0 S0) y [v1]):
    Calls Tryz.prog 104 #[v0,v1] w0 (aI w0 S0 (fun r l=>r= .bool (decide (x=y))∧l= [])):=by
 obtain⟨A0,c0,rfl,au,av,aw,an⟩:=aD h0
 obtain⟨A1,c1,rfl,ax,ay,az,ao⟩:=aD h1
 refine Y.enter (N:=26) Tryz.func104 rfl rfl (by simp) [(0,.slice A0 x.length c0),(1,.slice A1 y.length c1)] (by simp) (l0:= []) trivial ?_
 refine Y.seq (Y.region (Y.ql rfl (aA rfl .c) (Y.nt (Y.seq (Y.seq (Y.region (Y.mv rfl .g1 ?_)))))))
 refine Y.ql rfl (bE rfl dN (.t .z)) (Y.mv rfl .g4 (Y.ql rfl (bE rfl dN (.t .z)) (Y.ql rfl (cC rfl (.t .g2) (.t .z)) (Y.nt ?_))))
 refine Y.ad (.t .z) (fun b3=> ?_) (fun b3=> ?_)
 refine Y.seq (Y.region (Y.er .g5 (Y.ql rfl (aA rfl .c) (Y.nt (Y.ret (Y.m ?_))))))
 refine Y.j (aT rfl .z) .n ?_
 exact⟨by rw [decide_eq_false (fun h=>by subst h;omega)],rfl⟩
 refine Y.skip (Y.g (Y.seq (Y.seq (Y.region (Y.mv rfl .g6 (Y.ql rfl (bE rfl dN (.t .z)) (Y.ql rfl (aS rfl .c) (Y.nil ?_))))))))
 refine Y.g (Y.block ?_)
 refine Y.ah (γ:=Nat) (fun k=> [(13,.int .i64 (k:Int)),(12,.int .i64 (x.length:Int)),(0,.slice A0 x.length c0),(1,.slice A1 y.length c1)]) (fun k=> []) (fun k=>k≤x.length∧∀j,j<k→x[j]? =y[j]?) (fun k=>x.length - k) 0 ⟨Nat.zero_le _,oM⟩ (.c .z (.c .g1 (.c .g9 (.c .g10 .n)))) (fun _ h=>h) ?_
 rintro k ⟨hk,hallk⟩
 refine Y.seq (Y.region (Y.ql rfl (cU rfl (.t .z) (.t .g1)) (Y.nt (Y.seq ?_))))
 refine Y.u (.t .z) (fun b4=> ?_) (fun b4=> ?_)
 refine Y.skip (Y.g (Y.seq (Y.block (Y.seq (Y.region (Y.mv rfl .g1 (Y.as rfl .z (Y.nil ?_))))))))
 refine Y.g (Y.seq ?_)
 refine Y.dr .z 9 gB ?_
 refine Y.sc (qs 0 9) (by kernel_rfl) ?_
 refine Y.dm rfl rfl .z .g5 (Y.dm rfl rfl .z .g1 ?_)
 obtain⟨a0,aa,ab⟩:=an (by omega)
 subst aa
 obtain⟨x6,ah⟩:=aJ (xs:=x) (j:=k) (by omega)
 obtain⟨ap,ai,aj,ak⟩:=ab.elem ah
 obtain⟨rfl,a1⟩:=ai
 refine Y.dk rfl rfl .z (aB (j:=k) rfl dN hP (.t .g1) (.t .z) rfl (by omega)) ?_
 refine Y.dk rfl rfl .z (aN rfl bR (.t .z) (WS.i aj ak rfl)) (Y.dm rfl rfl .z .g10 (Y.dm rfl rfl .z .g5 ?_))
 obtain⟨a2,ac,ad⟩:=ao (by omega)
 subst ac
 obtain⟨x9,al⟩:=aJ (xs:=y) (j:=k) (by omega)
 obtain⟨am,ae,af,ag⟩:=ad.elem al
 obtain⟨rfl,aq⟩:=ae
 refine Y.dk rfl rfl .z (aB (j:=k) rfl dN hP (.t .g1) (.t .z) rfl (by omega)) ?_
 refine Y.dk rfl rfl .z (aN rfl bR (.t .z) (WS.i af ag rfl)) (Y.dk rfl rfl .z (cC rfl (.t .g4) (.t .z)) (Y.aa ?_))
 refine Y.ai (by kernel_rfl) ?_
 refine Y.g ?_
 refine Y.ad (.t .z) (fun ar=> ?_) (fun ar=> ?_)
 refine Y.seq (Y.region (Y.ql rfl (aA rfl .c) (Y.nt (Y.ret (Y.v (Y.m (Y.m ?_)))))))
 refine Y.v (Y.m ?_)
 refine Y.j (aT rfl .z) .n ?_
 exact⟨by rw [decide_eq_false (rR ah al (by first | assumption |(intro e;subst e;contradiction) |(simp_all;done)))],rfl⟩
 refine Y.skip (Y.y (Y.g (Y.region ?_)))
 refine Y.ql rfl (bG (c:=((k+1:Nat):Int)) rfl (.t .g12) .c (wr (by omega) (by omega) (by omega))) ?_
 refine Y.er .g13 (Y.mv rfl .z (Y.nil ?_))
 refine Y.ae (k+1) ⟨by omega,oH hallk ah al (by first | assumption | exact aD7 (by assumption) |(simp_all;done))⟩ (by first | omega |(dsimp only;omega)) (.c .z (.c .g14 (.c .g15 (.c .g16 .n)))) (fun _ h=>h)
 refine Y.exit (Y.w (Y.w (Y.ag (Y.g (Y.seq (Y.region (Y.ql rfl (aA rfl .c) (Y.nil ?_))))))))
 refine Y.g (Y.ret ?_)
 refine Y.j (aT rfl .z) .n ?_
 exact⟨by rw [decide_eq_true (rV (by omega) (by omega) hallk)],rfl⟩

theorem aMn {w0:World}{S0:Bs}{x:(List bT)}{v0:Value} (h0:dL.ro w0 (FF w0 S0) x [v0]) {y:(List bT)}{v1:Value} (h1:dL.ro w0 (FF w0 S0) y [v1]):
    Calls Tryz.prog 105 #[v0,v1] w0 (aI w0 S0 (fun r l=>r= .bool (decide (x=y))∧l= [])):=by
 obtain⟨A0,c0,rfl,av,aw,ax,ap⟩:=aD h0
 obtain⟨A1,c1,rfl,ay,az,a0,aq⟩:=aD h1
 refine Y.enter (N:=26) Tryz.func105 rfl rfl (by simp) [(0,.slice A0 x.length c0),(1,.slice A1 y.length c1)] (by simp) (l0:= []) trivial ?_
 refine Y.seq (Y.region (Y.ql rfl (aA rfl .c) (Y.nt (Y.seq (Y.seq (Y.region (Y.mv rfl .g1 ?_)))))))
 refine Y.ql rfl (bE rfl dQ (.t .z)) (Y.mv rfl .g4 (Y.ql rfl (bE rfl dQ (.t .z)) (Y.ql rfl (cC rfl (.t .g2) (.t .z)) (Y.nt ?_))))
 refine Y.ad (.t .z) (fun b3=> ?_) (fun b3=> ?_)
 refine Y.seq (Y.region (Y.er .g5 (Y.ql rfl (aA rfl .c) (Y.nt (Y.ret (Y.m ?_))))))
 refine Y.j (aT rfl .z) .n ?_
 exact⟨by rw [decide_eq_false (fun h=>by subst h;omega)],rfl⟩
 refine Y.skip (Y.g (Y.seq (Y.seq (Y.region (Y.mv rfl .g6 (Y.ql rfl (bE rfl dQ (.t .z)) (Y.ql rfl (aS rfl .c) (Y.nil ?_))))))))
 refine Y.g (Y.block ?_)
 refine Y.ah (γ:=Nat) (fun k=> [(13,.int .i64 (k:Int)),(12,.int .i64 (x.length:Int)),(0,.slice A0 x.length c0),(1,.slice A1 y.length c1)]) (fun k=> []) (fun k=>k≤x.length∧∀j,j<k→x[j]? =y[j]?) (fun k=>x.length - k) 0 ⟨Nat.zero_le _,oM⟩ (.c .z (.c .g1 (.c .g9 (.c .g10 .n)))) (fun _ h=>h) ?_
 rintro k ⟨hk,hallk⟩
 refine Y.seq (Y.region (Y.ql rfl (cU rfl (.t .z) (.t .g1)) (Y.nt (Y.seq ?_))))
 refine Y.u (.t .z) (fun b4=> ?_) (fun b4=> ?_)
 refine Y.skip (Y.g (Y.seq (Y.block (Y.seq (Y.region (Y.mv rfl .g1 (Y.as rfl .z (Y.nil ?_))))))))
 refine Y.g (Y.seq ?_)
 refine Y.dr .z 9 gB ?_
 refine Y.sc (qs 0 9) (by kernel_rfl) ?_
 refine Y.dm rfl rfl .z .g5 (Y.dm rfl rfl .z .g1 ?_)
 obtain⟨a1,aa,ab⟩:=ap (by omega)
 subst aa
 obtain⟨x6,ah⟩:=aJ (xs:=x) (j:=k) (by omega)
 obtain⟨ar,ai,aj,ak⟩:=ab.elem ah
 obtain⟨rfl,an⟩:=fF ai
 refine Y.dk rfl rfl .z (aB (j:=k) rfl dQ fS (.t .g1) (.t .z) rfl (by omega)) ?_
 refine Y.dk rfl rfl .z (qE rfl uP (.t .z) aj ak fS) (Y.dm rfl rfl .z .g10 (Y.dm rfl rfl .z .g5 ?_))
 obtain⟨a2,ac,ad⟩:=aq (by omega)
 subst ac
 obtain⟨x9,al⟩:=aJ (xs:=y) (j:=k) (by omega)
 obtain⟨ao,ae,af,ag⟩:=ad.elem al
 obtain⟨rfl,am⟩:=fF ae
 refine Y.dk rfl rfl .z (aB (j:=k) rfl dQ fS (.t .g1) (.t .z) rfl (by omega)) ?_
 refine Y.dk rfl rfl .z (qE rfl uP (.t .z) af ag fS) (Y.dk rfl rfl .z (aGe rfl (aFa x6 x9) aFb (.t .g4) (.t .z)) (Y.aa ?_))
 refine Y.ai (by kernel_rfl) ?_
 refine Y.g ?_
 refine Y.ad (.t .z) (fun au=> ?_) (fun au=> ?_)
 refine Y.seq (Y.region (Y.ql rfl (aA rfl .c) (Y.nt (Y.ret (Y.v (Y.m (Y.m ?_)))))))
 refine Y.v (Y.m ?_)
 refine Y.j (aT rfl .z) .n ?_
 exact⟨by rw [decide_eq_false (rR ah al (by first | assumption |(intro e;subst e;contradiction) |(simp_all;done)))],rfl⟩
 refine Y.skip (Y.y (Y.g (Y.region ?_)))
 refine Y.ql rfl (bG (c:=((k+1:Nat):Int)) rfl (.t .g12) .c (wr (by omega) (by omega) (by omega))) ?_
 refine Y.er .g13 (Y.mv rfl .z (Y.nil ?_))
 refine Y.ae (k+1) ⟨by omega,oH hallk ah al (by first | assumption | exact aD7 (by assumption) |(simp_all;done))⟩ (by first | omega |(dsimp only;omega)) (.c .z (.c .g14 (.c .g15 (.c .g16 .n)))) (fun _ h=>h)
 refine Y.exit (Y.w (Y.w (Y.ag (Y.g (Y.seq (Y.region (Y.ql rfl (aA rfl .c) (Y.nil ?_))))))))
 refine Y.g (Y.ret ?_)
 refine Y.j (aT rfl .z) .n ?_
 exact⟨by rw [decide_eq_true (rV (by omega) (by omega) hallk)],rfl⟩

theorem aM5 {w0:World}{S0:Bs}{x:aF}{am:List Value} (h0:cA.ro w0 (FF w0 S0) x am) {y:aF}{an:List Value} (h1:cA.ro w0 (FF w0 S0) y an):
    Calls Tryz.prog 58 #[.agg am.toArray,.agg an.toArray] w0 (aI w0 S0 (fun r l=>r= .bool (decide (x=y))∧l= [])):=by
 obtain⟨a6,a7,rfl,aa,ab⟩:=bV h0
 obtain⟨ac,ad,rfl,ao,ap,aq,ar⟩:=aD aa
 obtain⟨ae,af,rfl,au,av,aw,ax⟩:=aD ab
 obtain⟨a8,a9,rfl,ag,ah⟩:=bV h1
 obtain⟨ai,aj,rfl,ay,az,a0,a1⟩:=aD ag
 obtain⟨ak,al,rfl,a2,a3,a4,a5⟩:=aD ah
 refine Y.enter (N:=38) Tryz.func58 rfl rfl (by simp) [(0,.agg #[.int .i64 x.kind,.int .i64 x.links,.int .i64 x.size,.slice ac x.blocks.length ad,.slice ae x.ents.length af]),(1,.agg #[.int .i64 y.kind,.int .i64 y.links,.int .i64 y.size,.slice ai y.blocks.length aj,.slice ak y.ents.length al])] (by simp) (l0:= []) trivial ?_
 refine Y.seq (Y.region ?_)
 refine Y.el rfl (fR (cs:= [.int .i64 x.kind,.int .i64 x.links,.int .i64 x.size,.slice ac x.blocks.length ad,.slice ae x.ents.length af]) (n:=5) rfl (.t .z) rfl rfl) ?_
 rintro _ _ ⟨g5,rfl,rfl⟩
 refine Y.el rfl (fR (cs:= [.int .i64 y.kind,.int .i64 y.links,.int .i64 y.size,.slice ai y.blocks.length aj,.slice ak y.ents.length al]) (n:=5) rfl (.t .g2) rfl rfl) ?_
 rintro _ _ ⟨g6,rfl,rfl⟩
 refine Y.ql rfl (aA rfl .c) (Y.nt (Y.seq (Y.region (Y.fa rfl .g2 bW (Y.ld rfl bR .z .g1 (Y.fa rfl .g3 bW (Y.ld rfl bR .z .z ?_)))))))
 refine Y.ql rfl (bP rfl (.t .g2) (.t .z)) (Y.mv rfl .z ?_)
 refine Y.ak .z (fun g7=> ?_) (fun g7=> ?_)
 refine Y.qg rfl rfl .z rfl rfl rfl (aL rfl (.t .g8) (fun _=>iR _ _)) ?_
 refine Y.qg rfl rfl .g1 rfl rfl rfl (aN rfl bR (.t .z) (WS.g .g1 rfl)) ?_
 refine Y.qg rfl rfl .g2 rfl rfl rfl (aL rfl (.t .g9) (fun _=>iR _ _)) ?_
 refine Y.qg rfl rfl .g3 rfl rfl rfl (aN rfl bR (.t .z) (WS.g .z rfl)) ?_
 refine Y.qg rfl rfl .g4 rfl rfl rfl (bP rfl (.t .g2) (.t .z)) ?_
 refine Y.ql rfl (bB rfl (.t .g5) (.t .z)) (Y.mv rfl .z ?_)
 refine Y.ak .z (fun g8=> ?_) (fun g8=> ?_)
 refine Y.qg rfl rfl .z rfl rfl rfl (aL rfl (.t .g15) (fun _=>gH _ _)) ?_
 refine Y.qg rfl rfl .g1 rfl rfl rfl (aN rfl bR (.t .z) (WS.g .g1 rfl)) ?_
 refine Y.qg rfl rfl .g2 rfl rfl rfl (aL rfl (.t .g16) (fun _=>gH _ _)) ?_
 refine Y.qg rfl rfl .g3 rfl rfl rfl (aN rfl bR (.t .z) (WS.g .z rfl)) ?_
 refine Y.qg rfl rfl .g4 rfl rfl rfl (bP rfl (.t .g2) (.t .z)) ?_
 refine Y.ql rfl (bB rfl (.t .g5) (.t .z)) (Y.mv rfl .z ?_)
 refine Y.ak .z (fun g9=> ?_) (fun g9=> ?_)
 refine Y.qg rfl rfl .z rfl rfl rfl (aL rfl (.t (.s16 .g6)) (fun _=>cS _ _)) ?_
 refine Y.qg rfl rfl .g1 rfl rfl rfl (aN rfl eP (.t .z) (WS.g .g1 rfl)) ?_
 refine Y.qg rfl rfl .g2 rfl rfl rfl (aL rfl (.t (.s16 .g7)) (fun _=>cS _ _)) ?_
 refine Y.qg rfl rfl .g3 rfl rfl rfl (aN rfl eP (.t .z) (WS.g .z rfl)) ?_
 refine Y.call (dX rfl rfl .g4) rfl (by decide) rfl (bF rfl Tryz.func104 rfl rfl (aR (.t .g2) (.t .z))) .n (fun _ _ hs tr=>aLb (tr.ctx aa) (tr.ctx ag)) ?_
 rintro _ _ ⟨rfl,rfl⟩
 refine Y.r .n ?_
 refine Y.ql rfl (bB rfl (.t .g5) (.t .z)) (Y.mv rfl .z ?_)
 refine Y.ak .z (fun g10=> ?_) (fun g10=> ?_)
 refine Y.qg rfl rfl .z rfl rfl rfl (aL rfl (.t (.s16 .g13)) (fun _=>bM _ _)) ?_
 refine Y.qg rfl rfl .g1 rfl rfl rfl (aN rfl eA (.t .z) (WS.g .g1 rfl)) ?_
 refine Y.qg rfl rfl .g2 rfl rfl rfl (aL rfl (.t (.s16 .g14)) (fun _=>bM _ _)) ?_
 refine Y.qg rfl rfl .g3 rfl rfl rfl (aN rfl eA (.t .z) (WS.g .z rfl)) ?_
 refine Y.call (dX rfl rfl .g4) rfl (by decide) rfl (bF rfl Tryz.func105 rfl rfl (aR (.t .g2) (.t .z))) .n (fun _ _ hs tr=>aMn (tr.ctx ab) (tr.ctx ah)) ?_
 rintro _ _ ⟨rfl,rfl⟩
 refine Y.r .n ?_
 refine Y.ql rfl (bB rfl (.t .g5) (.t .z)) (Y.er (.s16 (.s16 .g1)) (Y.as rfl .z (Y.nt (Y.ret ?_))))
 refine Y.j (aT rfl .z) .n ?_
 exact⟨congrArg Value.bool (by cases x;cases y;simp_all),rfl⟩
 refine Y.h rfl rfl .z rfl rfl (by decide) rfl ?_
 refine Y.h rfl rfl .g1 rfl rfl (by decide) rfl ?_
 refine Y.h rfl rfl .g2 rfl rfl (by decide) rfl ?_
 refine Y.h rfl rfl .g3 rfl rfl (by decide) rfl ?_
 refine Y.h rfl rfl .g4 rfl rfl (by decide) rfl ?_
 refine Y.ql rfl (aV rfl (.t .g5) .c) (Y.er (.s16 (.s16 .g1)) (Y.as rfl .z (Y.nt (Y.ret ?_))))
 refine Y.j (aT rfl .z) .n ?_
 exact⟨congrArg Value.bool (by cases x;cases y;simp_all),rfl⟩
 refine Y.h rfl rfl .z rfl rfl (by decide) rfl ?_
 refine Y.h rfl rfl .g1 rfl rfl (by decide) rfl ?_
 refine Y.h rfl rfl .g2 rfl rfl (by decide) rfl ?_
 refine Y.h rfl rfl .g3 rfl rfl (by decide) rfl ?_
 refine Y.h rfl rfl .g4 rfl rfl (by decide) rfl ?_
 refine Y.ql rfl (aV rfl (.t .g5) .c) (Y.mv rfl .z ?_)
 refine Y.h rfl rfl .z rfl rfl (by decide) rfl ?_
 refine Y.h rfl rfl .g1 rfl rfl (by decide) rfl ?_
 refine Y.h rfl rfl .g2 rfl rfl (by decide) rfl ?_
 refine Y.h rfl rfl .g3 rfl rfl (by decide) rfl ?_
 refine Y.h rfl rfl .g4 rfl rfl (by decide) rfl ?_
 refine Y.ql rfl (aV rfl (.t .g5) .c) (Y.er (.s16 (.s16 .g1)) (Y.as rfl .z (Y.nt (Y.ret ?_))))
 refine Y.j (aT rfl .z) .n ?_
 exact⟨congrArg Value.bool (by cases x;cases y;simp_all),rfl⟩
 refine Y.h rfl rfl .z rfl rfl (by decide) rfl ?_
 refine Y.h rfl rfl .g1 rfl rfl (by decide) rfl ?_
 refine Y.h rfl rfl .g2 rfl rfl (by decide) rfl ?_
 refine Y.h rfl rfl .g3 rfl rfl (by decide) rfl ?_
 refine Y.h rfl rfl .g4 rfl rfl (by decide) rfl ?_
 refine Y.ql rfl (aV rfl (.t .g5) .c) (Y.mv rfl .z ?_)
 refine Y.h rfl rfl .z rfl rfl (by decide) rfl ?_
 refine Y.h rfl rfl .g1 rfl rfl (by decide) rfl ?_
 refine Y.h rfl rfl .g2 rfl rfl (by decide) rfl ?_
 refine Y.h rfl rfl .g3 rfl rfl (by decide) rfl ?_
 refine Y.h rfl rfl .g4 rfl rfl (by decide) rfl ?_
 refine Y.ql rfl (aV rfl (.t .g5) .c) (Y.mv rfl .z ?_)
 refine Y.h rfl rfl .z rfl rfl (by decide) rfl ?_
 refine Y.h rfl rfl .g1 rfl rfl (by decide) rfl ?_
 refine Y.h rfl rfl .g2 rfl rfl (by decide) rfl ?_
 refine Y.h rfl rfl .g3 rfl rfl (by decide) rfl ?_
 refine Y.h rfl rfl .g4 rfl rfl (by decide) rfl ?_
 refine Y.ql rfl (aV rfl (.t .g5) .c) (Y.er (.s16 (.s16 .g1)) (Y.as rfl .z (Y.nt (Y.ret ?_))))
 refine Y.j (aT rfl .z) .n ?_
 exact⟨congrArg Value.bool (by cases x;cases y;simp_all),rfl⟩
 refine Y.h rfl rfl .z rfl rfl (by decide) rfl ?_
 refine Y.h rfl rfl .g1 rfl rfl (by decide) rfl ?_
 refine Y.h rfl rfl .g2 rfl rfl (by decide) rfl ?_
 refine Y.h rfl rfl .g3 rfl rfl (by decide) rfl ?_
 refine Y.h rfl rfl .g4 rfl rfl (by decide) rfl ?_
 refine Y.ql rfl (aV rfl (.t .g5) .c) (Y.mv rfl .z ?_)
 refine Y.h rfl rfl .z rfl rfl (by decide) rfl ?_
 refine Y.h rfl rfl .g1 rfl rfl (by decide) rfl ?_
 refine Y.h rfl rfl .g2 rfl rfl (by decide) rfl ?_
 refine Y.h rfl rfl .g3 rfl rfl (by decide) rfl ?_
 refine Y.h rfl rfl .g4 rfl rfl (by decide) rfl ?_
 refine Y.ql rfl (aV rfl (.t .g5) .c) (Y.mv rfl .z ?_)
 refine Y.h rfl rfl .z rfl rfl (by decide) rfl ?_
 refine Y.h rfl rfl .g1 rfl rfl (by decide) rfl ?_
 refine Y.h rfl rfl .g2 rfl rfl (by decide) rfl ?_
 refine Y.h rfl rfl .g3 rfl rfl (by decide) rfl ?_
 refine Y.h rfl rfl .g4 rfl rfl (by decide) rfl ?_
 refine Y.ql rfl (aV rfl (.t .g5) .c) (Y.mv rfl .z ?_)
 refine Y.h rfl rfl .z rfl rfl (by decide) rfl ?_
 refine Y.h rfl rfl .g1 rfl rfl (by decide) rfl ?_
 refine Y.h rfl rfl .g2 rfl rfl (by decide) rfl ?_
 refine Y.h rfl rfl .g3 rfl rfl (by decide) rfl ?_
 refine Y.h rfl rfl .g4 rfl rfl (by decide) rfl ?_
 refine Y.ql rfl (aV rfl (.t .g5) .c) (Y.er (.s16 (.s16 .g1)) (Y.as rfl .z (Y.nt (Y.ret ?_))))
 refine Y.j (aT rfl .z) .n ?_
 exact⟨congrArg Value.bool (by cases x;cases y;simp_all),rfl⟩

theorem aMr {w0:World}{S0:Bs}{xs:(List aF)}{v0:Value} (h0:aW.ro w0 (FF w0 S0) xs [v0]) {ys:(List aF)}{v1:Value} (h1:aW.ro w0 (FF w0 S0) ys [v1]) {f:FuncId}{fn:Func} (hfn:Tryz.prog.funcs[f]? =some fn) (hbody:fn.body.isSome=true) (hname:(fn.name == "runtime.NumGoroutine")=false) (hf:∀(w1:World) (S1:Bs) {x y:aF}{be bf:List Value},cA.ro w1 (FF w1 S1) x be→cA.ro w1 (FF w1 S1) y bf→Calls Tryz.prog f #[.agg be.toArray,.agg bf.toArray] w1 (aI w1 S1 (fun r l=>r= .bool (decide (x=y))∧l= []))):
    Calls Tryz.prog 57 #[v0,v1,.func (.func f) #[] #[]] w0 (aI w0 S0 (fun r l=>r= .bool (decide (xs=ys))∧l= [])):=by
 obtain⟨A0,c0,rfl,bu,bv,bw,bo⟩:=aD h0
 obtain⟨A1,c1,rfl,bx,bz,b0,bp⟩:=aD h1
 refine Y.enter (N:=32) Tryz.func57 rfl rfl (by simp) [(0,.slice A0 xs.length c0),(1,.slice A1 ys.length c1),(2,.func (.func f) #[] #[])] (by simp) (l0:= []) trivial ?_
 refine Y.seq (Y.region (Y.ql rfl (aA rfl .c) (Y.nt (Y.seq (Y.seq (Y.region (Y.mv rfl .g1 ?_)))))))
 refine Y.ql rfl (bE rfl cI (.t .z)) (Y.mv rfl .g4 (Y.ql rfl (bE rfl cI (.t .z)) (Y.ql rfl (cC rfl (.t .g2) (.t .z)) (Y.nt ?_))))
 refine Y.ad (.t .z) (fun b3=> ?_) (fun b3=> ?_)
 refine Y.seq (Y.region (Y.er .g5 (Y.ql rfl (aA rfl .c) (Y.nt (Y.ret (Y.m ?_))))))
 refine Y.j (aT rfl .z) .n ?_
 exact⟨by rw [decide_eq_false (fun h=>by subst h;omega)],rfl⟩
 refine Y.skip (Y.g (Y.seq (Y.seq (Y.region (Y.mv rfl .g6 (Y.ql rfl (bE rfl cI (.t .z)) (Y.ql rfl (aS rfl .c) (Y.nil ?_))))))))
 refine Y.g (Y.block ?_)
 refine Y.ah (γ:=Nat) (fun k=> [(17,.int .i64 (k:Int)),(16,.int .i64 (xs.length:Int)),(15,.slice A0 xs.length c0),(1,.slice A1 ys.length c1),(2,.func (.func f) #[] #[])]) (fun k=> []) (fun k=>k≤xs.length∧∀j,j<k→xs[j]? =ys[j]?) (fun k=>xs.length - k) 0 ⟨Nat.zero_le _,oM⟩ (.c .z (.c .g1 (.c .g2 (.c .g10 (.c .g11 .n))))) (fun _ h=>h) ?_
 rintro k ⟨hk,hallk⟩
 refine Y.seq (Y.region (Y.ql rfl (cU rfl (.t .z) (.t .g1)) (Y.nt (Y.seq ?_))))
 refine Y.u (.t .z) (fun b4=> ?_) (fun b4=> ?_)
 refine Y.skip (Y.g (Y.seq (Y.block (Y.seq (Y.region (Y.mv rfl .g1 ?_))))))
 obtain⟨b1,ah,ai⟩:=bo (by omega)
 subst ah
 obtain⟨x6,aw⟩:=aJ (xs:=xs) (j:=k) (by omega)
 obtain⟨bq,ax,ay,az⟩:=ai.elem aw
 obtain⟨bg,bh,rfl,ac,ad⟩:=bV ax
 obtain⟨bi,bj,rfl,a0,a1,a2,a3⟩:=aD ac
 obtain⟨bk,bm,rfl,a4,a5,a6,a7⟩:=aD ad
 refine Y.ql rfl (aB (j:=k) rfl cI aU (.t .g4) (.t .g2) rfl (by omega)) ?_
 refine Y.ql rfl (qE rfl fA (.t .z) ay az aU) ?_
 refine Y.el rfl (bD rfl qH rfl rfl) ?_
 rintro _ _ ⟨g10,rfl,rfl⟩
 refine Y.as rfl .g3 ?_
 refine Y.es (aE rfl) rfl (esW rfl (.t .g1) (.t .g2) .z aU rfl rfl) ?_
 refine Y.nt (Y.seq (Y.region (Y.mv rfl .g9 (Y.mv rfl .g1 ?_))))
 obtain⟨br,ae,af⟩:=bp (by omega)
 subst ae
 obtain⟨bs,ag⟩:=aJ (xs:=ys) (j:=k) (by omega)
 obtain⟨bn,aj,ak,al⟩:=af.elem ag
 obtain⟨a8,a9,rfl,aa,ab⟩:=bV aj
 obtain⟨ba,bb,rfl,am,an,ao,ap⟩:=aD aa
 obtain⟨bc,bd,rfl,aq,ar,au,av⟩:=aD ab
 refine Y.ql rfl (aB (j:=k) rfl cI aU (.t .g1) (.t .z) rfl (by omega)) ?_
 refine Y.ql rfl (qE rfl fA (.t .z) ak al aU) ?_
 refine Y.el rfl (bD rfl qH rfl rfl) ?_
 rintro _ _ ⟨g16,rfl,rfl⟩
 refine Y.es (aE rfl) rfl (esW rfl (.t .z) (.t .g1) .z aU rfl rfl) ?_
 refine Y.nt (Y.seq (Y.region (Y.mv rfl .g15 (Y.ql rfl (qW rfl fA (.t .g7) .g1 aU) (Y.ql rfl (qW rfl fA (.t .g2) .z aU) ?_)))))
 refine Y.call (aE rfl) rfl (by decide) rfl (vQ rfl (.t .g2) hfn hbody hname (aR (.t .g1) (.t .z))) .n (fun w1 S1 hs tr=>hf w1 S1 (gZ x6 (tr.ctx ac) (tr.ctx ad)) (gZ bs (tr.ctx aa) (tr.ctx ab))) ?_
 rintro _ _ ⟨rfl,rfl⟩
 refine Y.r .n ?_
 refine Y.ql rfl (eY rfl (.t .z)) (Y.nt ?_)
 refine Y.ad (.t .z) (fun bt=> ?_) (fun bt=> ?_)
 refine Y.seq (Y.region (Y.ql rfl (aA rfl .c) (Y.nt (Y.ret (Y.v (Y.m (Y.m ?_)))))))
 refine Y.v (Y.m ?_)
 refine Y.j (aT rfl .z) .n ?_
 exact⟨by rw [decide_eq_false (rR aw ag (by assumption))],rfl⟩
 refine Y.skip (Y.y (Y.g (Y.region ?_)))
 refine Y.ql rfl (bG (c:=((k+1:Nat):Int)) rfl (.t .g16) .c (wr (by omega) (by omega) (by omega))) ?_
 refine Y.er (.s16 .g1) (Y.mv rfl .z (Y.nil ?_))
 refine Y.ae (k+1) ⟨by omega,oH hallk aw ag (by assumption)⟩ (by first | omega |(dsimp only;omega)) (.c .z (.c (.s16 .g2) (.c (.s16 .g3) (.c (.s16 .g4) (.c (.s16 .g5) .n))))) (fun _ h=>h.sel .n)
 refine Y.exit (Y.w (Y.w (Y.ag (Y.g (Y.seq (Y.region (Y.ql rfl (aA rfl .c) (Y.nil ?_))))))))
 refine Y.g (Y.ret ?_)
 refine Y.j (aT rfl .z) .n ?_
 exact⟨by rw [decide_eq_true (rV (by omega) (by omega) hallk)],rfl⟩

theorem aMx {w0:World}{S0:Bs}{x:(List UInt8)}{v0:Value} (h0:bX.ro w0 (FF w0 S0) x [v0]) {y:(List UInt8)}{v1:Value} (h1:bX.ro w0 (FF w0 S0) y [v1]):
    Calls Tryz.prog 60 #[v0,v1] w0 (aI w0 S0 (fun r l=>r= .bool (decide (x=y))∧l= [])):=by
 obtain⟨A0,c0,rfl,hl0,hm0,hb0,he0⟩:=aD h0
 obtain⟨A1,c1,rfl,hl1,hm1,hb1,he1⟩:=aD h1
 refine Y.enter (N:=10) Tryz.func60 rfl rfl (by simp) [(0,.slice A0 x.length c0),(1,.slice A1 y.length c1)] (by simp) (l0:= []) trivial ?_
 refine Y.seq (Y.region (Y.ql rfl (aA rfl .c) (Y.nt (Y.seq (Y.region (Y.mv rfl .g1 (Y.ql rfl (aBj (xs:=x) rfl fO u_5 u_9 (.t .z) (WS.y h0)) ?_)))))))
 refine Y.mv rfl .g4 (Y.ql rfl (aBj (xs:=y) rfl fO u_5 u_9 (.t .z) (WS.y h1)) (Y.ql rfl (tV rfl (.t .g2) (.t .z)) (Y.er .g5 (Y.as rfl .z (Y.nt (Y.ret ?_))))))
 refine Y.j (aT rfl .z) .n ?_
 exact⟨congrArg Value.bool (decide_eq_decide.2 aFz),rfl⟩

theorem aM0 {w0:World}{S0:Bs}{xs:(List (List UInt8))}{v0:Value} (h0:cV.ro w0 (FF w0 S0) xs [v0]) {ys:(List (List UInt8))}{v1:Value} (h1:cV.ro w0 (FF w0 S0) ys [v1]) {f:FuncId}{fn:Func} (hfn:Tryz.prog.funcs[f]? =some fn) (hbody:fn.body.isSome=true) (hname:(fn.name == "runtime.NumGoroutine")=false) (hf:∀(w1:World) (S1:Bs) {x y:(List UInt8)}{v1 v2:Value},bX.ro w1 (FF w1 S1) x [v1]→bX.ro w1 (FF w1 S1) y [v2]→Calls Tryz.prog f #[v1,v2] w1 (aI w1 S1 (fun r l=>r= .bool (decide (x=y))∧l= []))):
    Calls Tryz.prog 59 #[v0,v1,.func (.func f) #[] #[]] w0 (aI w0 S0 (fun r l=>r= .bool (decide (xs=ys))∧l= [])):=by
 obtain⟨A0,c0,rfl,a4,a5,a6,ar⟩:=aD h0
 obtain⟨A1,c1,rfl,a7,a8,a9,au⟩:=aD h1
 refine Y.enter (N:=32) Tryz.func59 rfl rfl (by simp) [(0,.slice A0 xs.length c0),(1,.slice A1 ys.length c1),(2,.func (.func f) #[] #[])] (by simp) (l0:= []) trivial ?_
 refine Y.seq (Y.region (Y.ql rfl (aA rfl .c) (Y.nt (Y.seq (Y.seq (Y.region (Y.mv rfl .g1 ?_)))))))
 refine Y.ql rfl (bE rfl lE (.t .z)) (Y.mv rfl .g4 (Y.ql rfl (bE rfl lE (.t .z)) (Y.ql rfl (cC rfl (.t .g2) (.t .z)) (Y.nt ?_))))
 refine Y.ad (.t .z) (fun b3=> ?_) (fun b3=> ?_)
 refine Y.seq (Y.region (Y.er .g5 (Y.ql rfl (aA rfl .c) (Y.nt (Y.ret (Y.m ?_))))))
 refine Y.j (aT rfl .z) .n ?_
 exact⟨by rw [decide_eq_false (fun h=>by subst h;omega)],rfl⟩
 refine Y.skip (Y.g (Y.seq (Y.seq (Y.region (Y.mv rfl .g6 (Y.ql rfl (bE rfl lE (.t .z)) (Y.ql rfl (aS rfl .c) (Y.nil ?_))))))))
 refine Y.g (Y.block ?_)
 refine Y.ah (γ:=Nat) (fun k=> [(17,.int .i64 (k:Int)),(16,.int .i64 (xs.length:Int)),(15,.slice A0 xs.length c0),(1,.slice A1 ys.length c1),(2,.func (.func f) #[] #[])]) (fun k=> []) (fun k=>k≤xs.length∧∀j,j<k→xs[j]? =ys[j]?) (fun k=>xs.length - k) 0 ⟨Nat.zero_le _,oM⟩ (.c .z (.c .g1 (.c .g2 (.c .g10 (.c .g11 .n))))) (fun _ h=>h) ?_
 rintro k ⟨hk,hallk⟩
 refine Y.seq (Y.region (Y.ql rfl (cU rfl (.t .z) (.t .g1)) (Y.nt (Y.seq ?_))))
 refine Y.u (.t .z) (fun b4=> ?_) (fun b4=> ?_)
 refine Y.skip (Y.g (Y.seq (Y.block (Y.seq (Y.region (Y.mv rfl .g1 ?_))))))
 obtain⟨ba,ad,ae⟩:=ar (by omega)
 subst ad
 obtain⟨x6,aj⟩:=aJ (xs:=xs) (j:=k) (by omega)
 obtain⟨av,ab,ak,al⟩:=ae.elem aj
 obtain⟨bb,rfl⟩:=lB ab
 obtain⟨bc,bd,rfl,aw,ax,ay,az⟩:=aD ab
 refine Y.ql rfl (aB (j:=k) rfl lE kL (.t .g4) (.t .g2) rfl (by omega)) ?_
 refine Y.ql rfl (aN rfl lR (.t .z) (WS.i ak al rfl)) (Y.as rfl .g2 (Y.as rfl .g1 (Y.nt (Y.seq (Y.region (Y.mv rfl .g9 (Y.mv rfl .g2 ?_)))))))
 obtain⟨be,af,ag⟩:=au (by omega)
 subst af
 obtain⟨bf,ac⟩:=aJ (xs:=ys) (j:=k) (by omega)
 obtain⟨am,aa,ah,ai⟩:=ag.elem ac
 obtain⟨a0,rfl⟩:=lB aa
 obtain⟨a1,a2,rfl,an,ao,ap,aq⟩:=aD aa
 refine Y.ql rfl (aB (j:=k) rfl lE kL (.t .g1) (.t .z) rfl (by omega)) ?_
 refine Y.ql rfl (aN rfl lR (.t .z) (WS.i ah ai rfl)) (Y.as rfl .z (Y.nt (Y.seq (Y.region (Y.mv rfl .g15 (Y.mv rfl .g6 (Y.mv rfl .g2 ?_)))))))
 refine Y.call (aE rfl) rfl (by decide) rfl (vQ rfl (.t .g2) hfn hbody hname (aR (.t .g1) (.t .z))) .n (fun w1 S1 hs tr=>hf w1 S1 (tr.ctx ab) (tr.ctx aa)) ?_
 rintro _ _ ⟨rfl,rfl⟩
 refine Y.r .n ?_
 refine Y.ql rfl (eY rfl (.t .z)) (Y.nt ?_)
 refine Y.ad (.t .z) (fun a3=> ?_) (fun a3=> ?_)
 refine Y.seq (Y.region (Y.ql rfl (aA rfl .c) (Y.nt (Y.ret (Y.v (Y.m (Y.m ?_)))))))
 refine Y.v (Y.m ?_)
 refine Y.j (aT rfl .z) .n ?_
 exact⟨by rw [decide_eq_false (rR aj ac (by assumption))],rfl⟩
 refine Y.skip (Y.y (Y.g (Y.region ?_)))
 refine Y.ql rfl (bG (c:=((k+1:Nat):Int)) rfl (.t .g16) .c (wr (by omega) (by omega) (by omega))) ?_
 refine Y.er (.s16 .g1) (Y.mv rfl .z (Y.nil ?_))
 refine Y.ae (k+1) ⟨by omega,oH hallk aj ac (by assumption)⟩ (by first | omega |(dsimp only;omega)) (.c .z (.c (.s16 .g2) (.c (.s16 .g3) (.c (.s16 .g4) (.c (.s16 .g5) .n))))) (fun _ h=>h)
 refine Y.exit (Y.w (Y.w (Y.ag (Y.g (Y.seq (Y.region (Y.ql rfl (aA rfl .c) (Y.nil ?_))))))))
 refine Y.g (Y.ret ?_)
 refine Y.j (aT rfl .z) .n ?_
 exact⟨by rw [decide_eq_true (rV (by omega) (by omega) hallk)],rfl⟩

theorem aNf {w0:World}{S0:Bs}{x:DFs}{am:List Value} (h0:eS.ro w0 (FF w0 S0) x am) {y:DFs}{an:List Value} (h1:eS.ro w0 (FF w0 S0) y an):
    Calls Tryz.prog 21 #[.agg am.toArray,.agg an.toArray] w0 (aI w0 S0 (fun r l=>r= .bool (decide (x=y))∧l= [])):=by
 obtain⟨a6,a7,rfl,aa,ab⟩:=cQ h0
 obtain⟨ac,ad,rfl,ao,ap,aq,ar⟩:=aD aa
 obtain⟨ae,af,rfl,au,av,aw,ax⟩:=aD ab
 obtain⟨a8,a9,rfl,ag,ah⟩:=cQ h1
 obtain⟨ai,aj,rfl,ay,az,a0,a1⟩:=aD ag
 obtain⟨ak,al,rfl,a2,a3,a4,a5⟩:=aD ah
 refine Y.enter (N:=17) Tryz.func21 rfl rfl (by simp) [(0,.agg #[.slice ac x.inodes.length ad,.slice ae x.data.length af]),(1,.agg #[.slice ai y.inodes.length aj,.slice ak y.data.length al])] (by simp) (l0:= []) trivial ?_
 refine Y.seq (Y.region ?_)
 refine Y.el rfl (fR (cs:= [.slice ac x.inodes.length ad,.slice ae x.data.length af]) (n:=2) rfl (.t .z) rfl rfl) ?_
 rintro _ _ ⟨g5,rfl,rfl⟩
 refine Y.el rfl (fR (cs:= [.slice ai y.inodes.length aj,.slice ak y.data.length al]) (n:=2) rfl (.t .g2) rfl rfl) ?_
 rintro _ _ ⟨g6,rfl,rfl⟩
 refine Y.ql rfl (aA rfl .c) (Y.nt (Y.seq (Y.region (Y.fa rfl .g2 aP (Y.ld rfl bO .z .g1 (Y.fa rfl .g3 aP (Y.ld rfl bO .z .z ?_)))))))
 refine Y.cl rfl rfl Tryz.func57 rfl rfl (eQ (.t .g2) (.t .z) .f) .n (fun _ _ hs tr=>aMr (tr.ctx aa) (tr.ctx ag) Tryz.func58 rfl rfl (fun w2 S2 x y _ _ h1 h2=>aM5 h1 h2)) ?_
 rintro _ _ ⟨rfl,rfl⟩
 refine Y.r .n ?_
 refine Y.mv rfl .z ?_
 refine Y.ak .z (fun g7=> ?_) (fun g7=> ?_)
 refine Y.qg rfl rfl .z rfl rfl rfl (aL rfl (.t .g8) (fun _=>fV _ _)) ?_
 refine Y.qg rfl rfl .g1 rfl rfl rfl (aN rfl kN (.t .z) (WS.g .g1 rfl)) ?_
 refine Y.qg rfl rfl .g2 rfl rfl rfl (aL rfl (.t .g9) (fun _=>fV _ _)) ?_
 refine Y.qg rfl rfl .g3 rfl rfl rfl (aN rfl kN (.t .z) (WS.g .z rfl)) ?_
 refine Y.call (dX rfl rfl .g4) rfl (by decide) rfl (bF rfl Tryz.func59 rfl rfl (eQ (.t .g2) (.t .z) .f)) .n (fun _ _ hs tr=>aM0 (tr.ctx ab) (tr.ctx ah) Tryz.func60 rfl rfl (fun w2 S2 x y _ _ h1 h2=>aMx h1 h2)) ?_
 rintro _ _ ⟨rfl,rfl⟩
 refine Y.r .n ?_
 refine Y.ql rfl (bB rfl (.t .g5) (.t .z)) (Y.er .g12 (Y.as rfl .z (Y.nt (Y.ret ?_))))
 refine Y.j (aT rfl .z) .n ?_
 exact⟨congrArg Value.bool (by cases x;cases y;simp_all),rfl⟩
 refine Y.h rfl rfl .z rfl rfl (by decide) rfl ?_
 refine Y.h rfl rfl .g1 rfl rfl (by decide) rfl ?_
 refine Y.h rfl rfl .g2 rfl rfl (by decide) rfl ?_
 refine Y.h rfl rfl .g3 rfl rfl (by decide) rfl ?_
 refine Y.h rfl rfl .g4 rfl rfl (by decide) rfl ?_
 refine Y.ql rfl (aV rfl (.t .g5) .c) (Y.er .g12 (Y.as rfl .z (Y.nt (Y.ret ?_))))
 refine Y.j (aT rfl .z) .n ?_
 exact⟨congrArg Value.bool (by cases x;cases y;simp_all),rfl⟩

end Go.Proofs.YtmejbfmhaoilmaaGreat

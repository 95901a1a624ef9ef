/- What is proved: contracts of functions, one a function. No condition. -/
import Derived.Test.YtmejbfmhaoilmaaGreatBase1
import Derived.Test.YtmejbfmhaoilmaaGreatW10
import Derived.Test.YtmejbfmhaoilmaaGreatSortL
namespace Go.Proofs.YtmejbfmhaoilmaaGreat
open Go Go.RowKit
set_option linter.unusedVariables false
set_option linter.unusedSimpArgs false
set_option maxHeartbeats 1000000
set_option maxRecDepth 20000
theorem aNt {w0:World}{S0:Bs}{xs:(List aF)}{v0:Value} (h0:aP.ro w0 (FF w0 S0) xs [v0]) (hb:bJ xs=0):
    Calls Tryz.prog 99 #[v0] w0 (aJ w0 S0 (fun r l=>∃v:Value,r= .tuple #[v,.bool (decide (gD xs).Nodup)]∧l= [aG bY (dN (oZ xs) 20) [v]])):=by
 obtain⟨A0,c0,rfl,aj,ak,al,am⟩:=aH h0
 refine Y.enter (N:=29) Tryz.func99 rfl rfl (by simp) [(0,.slice A0 xs.length c0)] (by simp) (l0:= []) trivial ?_
 refine Y.seq (Y.region (Y.ql rfl (aA rfl .c) (Y.ql rfl (aA rfl .c) (Y.nt (Y.seq (Y.region ?_))))))
 refine Y.el rfl (eH rfl eQ (inz iO)) ?_
 rintro _ _ ⟨g2,rfl,rfl⟩
 refine Y.as rfl .z (Y.nt (Y.seq (Y.region (Y.ql rfl (aA rfl .c) (Y.nt (Y.seq ?_))))))
 refine Y.seq (Y.region (Y.ql rfl (aA rfl .c) (Y.nt (Y.block ?_))))
 refine Y.add (c:=aG bY ([]:(List Int)) [.slice (some ⟨g2,0,none⟩) 0 0]) (fun w S=>aN w S _) ?_
 refine Y.aj (γ:=Nat×(Option Addr)×Nat) (fun⟨k,aa,ab⟩=> [(6,.int .i64 (k:Int)),(5,.bool (decide (tL xs k))),(4,.slice aa (dN (oZ xs) k).length ab),(3,.bool false),(2,.slice none 0 0),(0,.slice A0 xs.length c0)]) (fun⟨k,aa,ab⟩=> [aG bY (dN (oZ xs) k) [.slice aa (dN (oZ xs) k).length ab],cM g2 2 1 0 []]) (fun⟨k,aa,ab⟩=>k≤20) (fun⟨k,aa,ab⟩=>20 - k) (0,(some ⟨g2,0,none⟩),0) (Nat.zero_le _) (.c .z (.e .g1 (congrArg Value.bool (decide_eq_true (fun j hj=>absurd hj (Nat.not_lt_zero j))).symm) (.c .g2 (.c .g4 (.c .g5 (.c .g6 .n)))))) (fun _ h=>h.sel (.c .z (.c .z .n))) ?_
 rintro⟨k,aa,ab⟩ hk
 have hpl:=qM (p:=(oZ xs)) (k:=k)
 refine Y.seq (Y.seq (Y.region (Y.mv rfl .z (Y.ql rfl (dJ rfl (.t .z) .c) (Y.nt ?_)))))
 refine Y.u (.t .z) (fun b4=> ?_) (fun b4=> ?_)
 refine Y.skip (Y.g (Y.seq (Y.block (Y.seq (Y.region (Y.mv rfl .g7 (Y.mv rfl .g3 ?_)))))))
 refine Y.cl rfl rfl Tryz.func134 rfl rfl (aX (.t .g1) (.t .z)) .n (fun _ _ hs tr=>aF6 (tr.ctx h0) _ (by assumption)) ?_
 rintro _ _ ⟨rfl,rfl⟩
 refine Y.m .n ?_
 refine Y.as rfl .z (Y.nt (Y.seq (Y.seq (Y.region (Y.mv rfl .z (Y.ql rfl (gO rfl (.t .z) .c) (Y.nil ?_)))))))
 refine Y.g ?_
 refine Y.u (.t .z) (fun b5=> ?_) (fun b5=> ?_)
 refine Y.region (Y.mv rfl .g10 (Y.mv rfl .g9 ?_))
 refine Y.el rfl (aS (cs:= [.int .i64 (k:Int)]) rfl eQ (inz iO) (by decide) (pv1 (.t .z)) rfl rfl (by decide) rfl rfl) ?_
 rintro _ _ ⟨g6,rfl,rfl⟩
 refine Y.add (c:=aG (iQ .i64) (k:Int) [.int .i64 (k:Int)]) (fun _ _=>⟨rfl,trivial⟩) ?_
 refine Y.el rfl (dU rfl eQ iO rfl (.t .g2) (.t .z) (.c .g2 (.c .g1 (.c .z .n))) (by first | omega |(simp only [List.length_append,List.length_take,List.length_nil,List.length_cons];omega)) (by first | omega |(simp only [List.length_append,List.length_take,List.length_nil,List.length_cons];omega))) ?_
 rintro _ _ rfl
 refine Y.af .z (rF (by first | exact decide_eq_true (by first | assumption | omega |(constructor <;> first | assumption |(rw [←lA];assumption;done) |(exact fun hm=>absurd (iU.2 hm) (by assumption)))) | exact decide_eq_false (by first | assumption | omega |(rintro⟨h1,h2⟩;first | contradiction |(exact absurd h2 (by assumption)) |(have:=lA.2 h1;contradiction) |(exact absurd (iU.1 (by assumption)) h1))))) ?_
 refine Y.h (WS.a .z) ?_
 rintro⟨ae,af,rfl,ag,ah,ai⟩
 refine Y.er .g14 (Y.as rfl .z (Y.nt (Y.region (Y.mv rfl .g14 (Y.mv rfl .z ?_)))))
 refine Y.al .z (fun g9=> ?_) (fun g9=> ?_)
 refine Y.qg rfl rfl .z rfl rfl rfl (aV rfl (.t .g9)) ?_
 refine Y.qg rfl rfl .g1 rfl rfl rfl (aCf rfl (.t .z) .c) ?_
 refine Y.ql rfl (bO rfl (.t .g2) (.t .z)) (Y.er (.s16 .g3) (Y.as rfl .z (Y.nil (Y.ac (Y.g (Y.region (Y.mv rfl (.s16 .g3) ?_)))))))
 refine Y.ql rfl (bQ (c:=((k+1:Nat):Int)) rfl (.t .z) .c (wr (by omega) (by omega) (by omega))) ?_
 refine Y.er (.s16 .g5) (Y.as rfl .z (Y.nil ?_))
 refine Y.ae ((k+1),ae,af) (by omega) (by first | omega |(dsimp only;omega)) (.c .z (.e .g3 (congrArg Value.bool (by first |(exact decide_eq_decide.2 ⟨fun h=>jS.2 ⟨by assumption,by omega⟩,fun h=>by have:=(jS.1 h).2;omega⟩) |(exact(decide_eq_false (fun h=>absurd (jS.1 h).1 (by assumption))).symm))) (.c .g9 (.c (.s16 .g6) (.c (.s16 .g7) (.c (.s16 .g8) .n)))))) (fun _ h=>h.sel (.c .z (.c .z .n)))
 refine Y.j rfl rfl .z rfl rfl (by decide) rfl ?_
 refine Y.j rfl rfl .g1 rfl rfl (by decide) rfl ?_
 refine Y.ql rfl (bW rfl (.t .g2) .c) (Y.er (.s16 .g3) (Y.as rfl .z (Y.nil (Y.ac (Y.g (Y.region (Y.mv rfl (.s16 .g3) ?_)))))))
 refine Y.ql rfl (bQ (c:=((k+1:Nat):Int)) rfl (.t .z) .c (wr (by omega) (by omega) (by omega))) ?_
 refine Y.er (.s16 .g5) (Y.as rfl .z (Y.nil ?_))
 refine Y.ae ((k+1),ae,af) (by omega) (by first | omega |(dsimp only;omega)) (.c .z (.e .g3 (congrArg Value.bool (by first |(exact decide_eq_decide.2 ⟨fun h=>jS.2 ⟨by assumption,by omega⟩,fun h=>by have:=(jS.1 h).2;omega⟩) |(exact(decide_eq_false (fun h=>absurd (jS.1 h).1 (by assumption))).symm))) (.c .g9 (.c (.s16 .g6) (.c (.s16 .g7) (.c (.s16 .g8) .n)))))) (fun _ h=>h.sel (.c .z (.c .z .n)))
 refine Y.skip (Y.g (Y.region (Y.mv rfl .g9 (Y.mv rfl .z ?_))))
 refine Y.al .z (fun g10=> ?_) (fun g10=> ?_)
 refine Y.qg rfl rfl .z rfl rfl rfl (aV rfl (.t .g4)) ?_
 refine Y.qg rfl rfl .g1 rfl rfl rfl (aCf rfl (.t .z) .c) ?_
 refine Y.ql rfl (bO rfl (.t .g2) (.t .z)) (Y.er .g14 (Y.as rfl .z (Y.nil (Y.ac (Y.g (Y.region (Y.mv rfl .g14 ?_)))))))
 refine Y.ql rfl (bQ (c:=((k+1:Nat):Int)) rfl (.t .z) .c (wr (by omega) (by omega) (by omega))) ?_
 refine Y.er .g16 (Y.as rfl .z (Y.nil ?_))
 have ac:dN (oZ xs) k=dN (oZ xs) (k+1):=(mB (by first | exact decide_eq_true (by first | assumption | omega |(constructor <;> first | assumption |(rw [←lA];assumption;done) |(exact fun hm=>absurd (iU.2 hm) (by assumption)))) | exact decide_eq_false (by first | assumption | omega |(rintro⟨h1,h2⟩;first | contradiction |(exact absurd h2 (by assumption)) |(have:=lA.2 h1;contradiction) |(exact absurd (iU.1 (by assumption)) h1)))))
 refine Y.eq (.s16 .g1) (congrArg (fun z_=>(.slice aa (z_).length ab:Value)) ac) ?_
 refine Y.ak .z (congrArg (fun z_=>(aG bY (z_) [.slice aa (z_).length ab]:Asn)) ac) ?_
 refine Y.ae ((k+1),aa,ab) (by omega) (by first | omega |(dsimp only;omega)) (.c .g1 (.e .g4 (congrArg Value.bool (by first |(exact decide_eq_decide.2 ⟨fun h=>jS.2 ⟨by assumption,by omega⟩,fun h=>by have:=(jS.1 h).2;omega⟩) |(exact(decide_eq_false (fun h=>absurd (jS.1 h).1 (by assumption))).symm))) (.c .z (.c (.s16 .g2) (.c (.s16 .g3) (.c (.s16 .g4) .n)))))) (fun _ h=>h.sel (.c .z (.c .z .n)))
 refine Y.j rfl rfl .z rfl rfl (by decide) rfl ?_
 refine Y.j rfl rfl .g1 rfl rfl (by decide) rfl ?_
 refine Y.ql rfl (bW rfl (.t .g2) .c) (Y.er .g14 (Y.as rfl .z (Y.nil (Y.ac (Y.g (Y.region (Y.mv rfl .g14 ?_)))))))
 refine Y.ql rfl (bQ (c:=((k+1:Nat):Int)) rfl (.t .z) .c (wr (by omega) (by omega) (by omega))) ?_
 refine Y.er .g16 (Y.as rfl .z (Y.nil ?_))
 have ad:dN (oZ xs) k=dN (oZ xs) (k+1):=(mB (by first | exact decide_eq_true (by first | assumption | omega |(constructor <;> first | assumption |(rw [←lA];assumption;done) |(exact fun hm=>absurd (iU.2 hm) (by assumption)))) | exact decide_eq_false (by first | assumption | omega |(rintro⟨h1,h2⟩;first | contradiction |(exact absurd h2 (by assumption)) |(have:=lA.2 h1;contradiction) |(exact absurd (iU.1 (by assumption)) h1)))))
 refine Y.eq (.s16 .g1) (congrArg (fun z_=>(.slice aa (z_).length ab:Value)) ad) ?_
 refine Y.ak .z (congrArg (fun z_=>(aG bY (z_) [.slice aa (z_).length ab]:Asn)) ad) ?_
 refine Y.ae ((k+1),aa,ab) (by omega) (by first | omega |(dsimp only;omega)) (.c .g1 (.e .g4 (congrArg Value.bool (by first |(exact decide_eq_decide.2 ⟨fun h=>jS.2 ⟨by assumption,by omega⟩,fun h=>by have:=(jS.1 h).2;omega⟩) |(exact(decide_eq_false (fun h=>absurd (jS.1 h).1 (by assumption))).symm))) (.c .z (.c (.s16 .g2) (.c (.s16 .g3) (.c (.s16 .g4) .n)))))) (fun _ h=>h.sel (.c .z (.c .z .n)))
 refine Y.exit (Y.ab (Y.ab (Y.ai (Y.g (Y.seq (Y.region (Y.mv rfl .g4 (Y.mv rfl .g4 ?_))))))))
 refine Y.er .g8 (Y.as rfl .g1 (Y.er .g8 (Y.as rfl .g1 (Y.nt (Y.ret ?_)))))
 refine Y.i (qB rfl .g1 .z) (.c .z .n) ?_
 exact⟨_,by rw [show k=20 by omega];exact congrArg (fun b=>Value.tuple #[_,.bool b]) (decide_eq_decide.2 (aE9 hb)),by rw [show k=20 by omega]⟩

theorem aOc {w0:World}{S0:Bs}{xs:(List aF)}{v0:Value} (h0:aP.ro w0 (FF w0 S0) xs [v0]) (hb:bJ xs=0):
    Calls Tryz.prog 97 #[v0] w0 (aJ w0 S0 (fun r l=>∃v:Value,r= .tuple #[v,.bool (decide (gD xs).Nodup)]∧l= [aG bY (kV (gD xs)) [v]])):=by
 obtain⟨A0,c0,rfl,be,bf,bg,ba⟩:=aH h0
 refine Y.enter (N:=28) Tryz.func97 rfl rfl (by simp) [(0,.slice A0 xs.length c0)] (by simp) (l0:= []) trivial ?_
 refine Y.seq (Y.region (Y.ql rfl (aA rfl .c) (Y.ql rfl (aA rfl .c) (Y.nt (Y.seq (Y.region (Y.ql rfl (aA rfl .c) ?_)))))))
 refine Y.nt (Y.seq (Y.seq (Y.region (Y.mv rfl .g3 (Y.ql rfl (bM rfl cE (.t .z)) (Y.ql rfl (aV rfl .c) (Y.nil ?_)))))))
 refine Y.g (Y.block ?_)
 refine Y.add (c:=aG bY [] [.slice none 0 0]) (fun w S=>aN w S none) ?_
 refine Y.aj (γ:=Nat×(Option Addr)×Nat) (fun⟨k,aa,ab⟩=> [(9,.int .i64 (k:Int)),(8,.int .i64 (xs.length:Int)),(7,.slice A0 xs.length c0),(4,.slice aa (gD (List.take k xs)).length ab),(3,.bool false),(2,.slice none 0 0)]) (fun⟨k,aa,ab⟩=> [aG bY (gD (List.take k xs)) [.slice aa (gD (List.take k xs)).length ab]]) (fun⟨k,aa,ab⟩=>k≤xs.length) (fun⟨k,aa,ab⟩=>xs.length - k) (0,none,0) (Nat.zero_le _) (.c .z (.c .g1 (.c .g2 (.c .g3 (.c .g4 (.c .g5 .n)))))) (fun _ h=>h.sel (.c .z .n)) ?_
 rintro⟨k,aa,ab⟩ hk
 have hu:=pR hb k
 refine Y.seq (Y.region (Y.ql rfl (dJ rfl (.t .z) (.t .g1)) (Y.nt (Y.seq ?_))))
 refine Y.u (.t .z) (fun b3=> ?_) (fun b3=> ?_)
 refine Y.skip (Y.g (Y.seq (Y.block (Y.seq (Y.region ?_)))))
 obtain⟨bh,af,ag⟩:=ba (by omega)
 subst af
 obtain⟨x5,ax⟩:=aI (xs:=xs) (j:=k) (by omega)
 obtain⟨bb,ai,aj,ak⟩:=ag.elem ax
 obtain⟨ay,az,rfl,ac,ah⟩:=cK ai
 obtain⟨a0,a1,rfl,al,am,an,ao⟩:=aH ac
 obtain⟨a2,a3,rfl,ap,aq,ar,au⟩:=aH ah
 refine Y.ql rfl (aC (j:=k) rfl cE aU (.t .g3) (.t .g1) rfl (by omega)) ?_
 refine Y.ql rfl (qE rfl fG (.t .z) aj ak aU) ?_
 refine Y.el rfl (bL rfl tB rfl rfl) ?_
 rintro _ _ ⟨g9,rfl,rfl⟩
 refine Y.es (aD rfl) rfl (esW rfl (.t .z) (.t .g1) .z aU rfl rfl) ?_
 refine Y.nt (Y.region (Y.mv rfl .g7 (Y.fa rfl .g1 dI (Y.ld rfl fA .z .z ?_))))
 refine Y.el rfl (eG (bC _ _ _) rfl eQ iO rfl (.t .g2) (.t .z) (.c .g1 .n) (fun w1 S1 tr=>tr.ctx ac) (by first | omega |(rw [oC (by assumption)];have:=pR hb (k+1);omega) |(have:=pR hb (k+1);rw [←oC (by assumption),List.length_append] at this;omega)) (by first | omega |(rw [oC (by assumption)];have:=pR hb (k+1);omega) |(have:=pR hb (k+1);rw [←oC (by assumption),List.length_append] at this;omega))) ?_
 rintro _ _ rfl
 refine Y.af .z (oC ax) ?_
 refine Y.h (WS.a .z) ?_
 rintro⟨av,aw,rfl,a4,a5,a6⟩
 refine Y.er .g11 (Y.as rfl .z (Y.nil (Y.ac (Y.g (Y.region ?_)))))
 refine Y.ql rfl (bQ (c:=((k+1:Nat):Int)) rfl (.t .g9) .c (wr (by omega) (by omega) (by omega))) ?_
 refine Y.er .g10 (Y.mv rfl .z (Y.nil ?_))
 refine Y.ae ((k+1),av,aw) (by omega) (by first | omega |(dsimp only;omega)) (.c .z (.c .g11 (.c .g12 (.c .g2 (.c .g13 (.c .g14 .n)))))) (fun _ h=>h.sel (.c .z .n))
 refine Y.exit (Y.ab (Y.ab (Y.ai (Y.g (Y.seq (Y.region (Y.mv rfl .g4 ?_)))))))
 have ad:gD (List.take k xs)=gD xs:=(congrArg gD (List.take_of_length_le (by omega)))
 refine Y.eq .z (congrArg (fun z_=>(.slice aa (z_).length ab:Value)) ad) ?_
 refine Y.eq .g5 (congrArg (fun z_=>(.slice aa (z_).length ab:Value)) ad) ?_
 refine Y.ak .z (congrArg (fun z_=>(aG bY (z_) [.slice aa (z_).length ab]:Asn)) ad) ?_
 refine Y.cl rfl rfl Tryz.func138 rfl rfl (bT (.t .g1)) (.c .z .n) (fun _ _ hs tr=>aLl hs) ?_
 rintro _ _ ⟨rfl,rfl⟩
 refine Y.m (.c .n) ?_
 have ae:(gD xs).length=(kV (gD xs)).length:=(zM _).symm
 refine Y.eq .g1 (congrArg (fun z_=>(.slice aa z_ ab:Value)) ae) ?_
 refine Y.eq .g2 (congrArg (fun z_=>(.slice aa z_ ab:Value)) ae) ?_
 refine Y.ak .z (congrArg (fun z_=>(aG bY (kV (gD xs)) [.slice aa z_ ab]:Asn)) ae) ?_
 refine Y.nt (Y.seq (Y.region (Y.mv rfl .g1 (Y.mv rfl .g2 ?_))))
 refine Y.cl rfl rfl Tryz.func110 rfl rfl (bT (.t .z)) .n (fun _ _ hs tr=>aJ0 (tr.own .z)) ?_
 rintro _ _ rfl
 refine Y.m (.c .n) ?_
 refine Y.h (WS.a .z) ?_
 rintro⟨bc,bd,rfl,a7,a8,a9⟩
 refine Y.cl rfl rfl Tryz.func139 rfl rfl (bT (.t .z)) (.c .z .n) (fun _ _ hs tr=>aMm hs) ?_
 rintro _ _ ⟨bi,rfl,rfl⟩
 refine Y.m .n ?_
 refine Y.ql rfl (bM rfl eQ (.t .z)) (Y.mv rfl .g6 (Y.ql rfl (bM rfl eQ (.t .z)) (Y.ql rfl (bZ rfl (.t .g2) (.t .z)) (Y.er .g16 (Y.as rfl .g7 (Y.er .g16 (Y.as rfl .g1 (Y.nil ?_))))))))
 refine Y.g (Y.ret ?_)
 refine Y.i (qB rfl .g1 .z) (.c .z .n) ?_
 exact⟨_,congrArg (fun b=>Value.tuple #[_,.bool b]) (by rw [decide_eq_decide,←aCt];omega),rfl⟩

theorem aJ6 {w0:World}{S0:Bs}{xs:(List Int)}{v0:Value} (h0:bY.ro w0 (FF w0 S0) xs [v0]):
    Calls Tryz.prog 114 #[v0] w0 (aJ w0 S0 (fun r l=>r= .int .i64 (iV xs)∧l= [])):=by
 obtain⟨A0,c0,rfl,ai,aj,ak,ag⟩:=aH h0
 refine Y.enter (N:=19) Tryz.func114 rfl rfl (by simp) [(0,.slice A0 xs.length c0)] (by simp) (l0:= []) trivial ?_
 refine Y.seq (Y.region (Y.ql rfl (aA rfl .c) (Y.nt (Y.seq (Y.seq (Y.region (Y.mv rfl .g1 ?_)))))))
 refine Y.ql rfl (bM rfl eQ (.t .z)) (Y.ql rfl (gO rfl (.t .z) .c) (Y.nt ?_))
 refine Y.u (.t .z) (fun b2=> ?_) (fun b2=> ?_)
 refine Y.seq (Y.region (Y.er .g3 (Y.ql rfl (aA rfl .c) (Y.nt (Y.ret (Y.r ?_))))))
 refine Y.i (aY rfl .z) .n ?_
 exact⟨by first |(rw [rW (by assumption)];done) |(rw [rU (by assumption) (by assumption)];done) |(rw [lO (by assumption) (pD (fun j b hj hb=>hallk j b (by omega) hb))];done) |(rw [lO (by assumption) (by assumption)];done),rfl⟩
 refine Y.skip (Y.g (Y.seq (Y.seq (Y.region (Y.ql rfl (aA rfl .c) (Y.nt (Y.block ?_)))))))
 refine Y.aj (γ:=Nat) (fun k=> [(3,.int .i64 (k:Int)),(0,.slice A0 xs.length c0)]) (fun k=> []) (fun k=>k≤xs.length∧∀j b,j<k→xs[j]? =some b→0≤b∧b≤19) (fun k=>xs.length - k) 0 ⟨Nat.zero_le _,eV (q:=fun _ b=>(0:Int)≤b∧b≤19)⟩ (.c .z (.c .g5 .n)) (fun _ h=>h) ?_
 rintro k ⟨hk,hallk⟩
 refine Y.seq (Y.seq (Y.region (Y.mv rfl .z (Y.mv rfl .g2 (Y.ql rfl (bM rfl eQ (.t .z)) (Y.ql rfl (dJ rfl (.t .g2) (.t .z)) (Y.nt ?_)))))))
 refine Y.u (.t .z) (fun b3=> ?_) (fun b3=> ?_)
 refine Y.skip (Y.g (Y.seq (Y.block (Y.seq (Y.region (Y.mv rfl .g5 (Y.mv rfl .g5 ?_)))))))
 obtain⟨al,aa,ab⟩:=ag (by omega)
 subst aa
 obtain⟨x5,ac⟩:=aI (xs:=xs) (j:=k) (by omega)
 obtain⟨ah,ad,ae,af⟩:=ab.elem ac
 obtain⟨rfl,am⟩:=ad
 refine Y.ql rfl (aC (j:=k) rfl eQ jQ (.t .g1) (.t .z) rfl (by omega)) ?_
 refine Y.ql rfl (aL rfl cF (.t .z) (WS.j ae af rfl)) ?_
 refine Y.cl rfl rfl Tryz.func46 rfl rfl (dX (.t .z) .c .c) .n (fun _ _ hs tr=>xL _ _ _) ?_
 rintro _ _ ⟨rfl,rfl⟩
 refine Y.m .n ?_
 refine Y.ql rfl (fN rfl (.t .z)) (Y.nt ?_)
 refine Y.ad (.t .z) (fun b7=> ?_) (fun b7=> ?_)
 refine Y.seq (Y.region (Y.ql rfl (aA rfl .c) (Y.nt (Y.ret (Y.y (Y.r (Y.r ?_)))))))
 refine Y.y (Y.r ?_)
 refine Y.i (aY rfl .z) .n ?_
 exact⟨by first |(rw [rW (by assumption)];done) |(rw [rU (by assumption) (aEb ac (by assumption))];done) |(rw [lO (by assumption) (pD (fun j b hj hb=>hallk j b (by omega) hb))];done) |(rw [lO (by assumption) (by assumption)];done),rfl⟩
 refine Y.skip (Y.ac (Y.g (Y.region (Y.mv rfl .g10 ?_))))
 refine Y.ql rfl (bQ (c:=((k+1:Nat):Int)) rfl (.t .z) .c (wr (by omega) (by omega) (by omega))) ?_
 refine Y.er .g12 (Y.as rfl .z (Y.nil ?_))
 refine Y.ae (k+1) ⟨by omega,eM (q:=fun _ b=>(0:Int)≤b∧b≤19) hallk ac b7⟩ (by first | omega |(dsimp only;omega)) (.c .z (.c .g13 .n)) (fun _ h=>h)
 refine Y.exit (Y.ab (Y.ab (Y.ai (Y.g (Y.seq (Y.region (Y.ql rfl (aA rfl .c) (Y.nil ?_))))))))
 refine Y.g (Y.ret ?_)
 refine Y.i (aY rfl .z) .n ?_
 exact⟨by first |(rw [rW (by assumption)];done) |(rw [rU (by assumption) (by assumption)];done) |(rw [lO (by assumption) (pD (fun j b hj hb=>hallk j b (by omega) hb))];done) |(rw [lO (by assumption) (by assumption)];done),rfl⟩

theorem aLb {w0:World}{S0:Bs}{xs:(List aF)}{v0:Value} (h0:aP.ro w0 (FF w0 S0) xs [v0]) {b:(List Int)}{v1:Value} (h1:bY.ro w0 (FF w0 S0) b [v1]):
    Calls Tryz.prog 146 #[v0,v1] w0 (aJ w0 S0 (fun r l=>r= .int .i64 (jK xs b)∧l= [])):=by
 obtain⟨A0,c0,rfl,aa,ab,ac,ad⟩:=aH h0
 obtain⟨A1,c1,rfl,ae,af,ag,ah⟩:=aH h1
 refine Y.enter (N:=13) Tryz.func146 rfl rfl (by simp) [(0,.slice A0 xs.length c0),(1,.slice A1 b.length c1)] (by simp) (l0:= []) trivial ?_
 refine Y.seq (Y.region (Y.ql rfl (aA rfl .c) (Y.nt (Y.seq (Y.seq (Y.region (Y.mv rfl .g1 ?_)))))))
 refine Y.cl rfl rfl Tryz.func98 rfl rfl (bT (.t .z)) .n (fun _ _ hs tr=>aL3 (tr.ctx h0)) ?_
 rintro _ _ ⟨rfl,rfl⟩
 refine Y.m .n ?_
 refine Y.as rfl .z (Y.nt (Y.seq (Y.region (Y.mv rfl .z (Y.ql rfl (cU rfl (.t .z) .c) (Y.nt ?_))))))
 refine Y.ad (.t .z) (fun b3=> ?_) (fun b3=> ?_)
 refine Y.seq (Y.region (Y.mv rfl .g2 (Y.er .g6 (Y.as rfl .z (Y.nt (Y.ret (Y.r ?_)))))))
 refine Y.i (aY rfl .z) .n ?_
 exact⟨by unfold jK;first |(rw [if_neg (by assumption)];done) |(rw [if_pos (by omega)];done),rfl⟩
 refine Y.skip (Y.g (Y.seq (Y.region (Y.mv rfl .g7 ?_))))
 refine Y.cl rfl rfl Tryz.func114 rfl rfl (bT (.t .z)) .n (fun _ _ hs tr=>aJ6 (tr.ctx h1)) ?_
 rintro _ _ ⟨rfl,rfl⟩
 refine Y.m .n ?_
 refine Y.er .g7 (Y.as rfl .z (Y.nt (Y.ret ?_)))
 refine Y.i (aY rfl .z) .n ?_
 exact⟨by unfold jK;first |(rw [if_neg (by assumption)];done) |(rw [if_pos (by omega)];done),rfl⟩

theorem aLm {w0:World}{S0:Bs}{xs:(List aF)}{v0:Value} (h0:aP.ro w0 (FF w0 S0) xs [v0]) {b:(List Int)}{v1:Value} (h1:bY.ro w0 (FF w0 S0) b [v1]) (hb:bJ xs=0):
    Calls Tryz.prog 147 #[v0,v1] w0 (aJ w0 S0 (fun r l=>l= [aG bY (nJ xs b) [r]])):=by
 obtain⟨A0,c0,rfl,aj,ak,al,am⟩:=aH h0
 obtain⟨A1,c1,rfl,an,ao,ap,aq⟩:=aH h1
 refine Y.enter (N:=27) Tryz.func147 rfl rfl (by simp) [(0,.slice A0 xs.length c0),(1,.slice A1 b.length c1)] (by simp) (l0:= []) trivial ?_
 refine Y.seq (Y.region (Y.ql rfl (aA rfl .c) (Y.nt (Y.seq (Y.region ?_)))))
 refine Y.el rfl (eH rfl eQ (inz iO)) ?_
 rintro _ _ ⟨g3,rfl,rfl⟩
 refine Y.as rfl .z (Y.nt (Y.seq (Y.seq (Y.region (Y.ql rfl (aA rfl .c) (Y.nt ?_))))))
 refine Y.block ?_
 refine Y.add (c:=aG bY ([]:(List Int)) [.slice (some ⟨g3,0,none⟩) 0 0]) (fun w S=>aN w S _) ?_
 refine Y.aj (γ:=Nat×(Option Addr)×Nat) (fun⟨k,aa,ab⟩=> [(6,.int .i64 (k:Int)),(5,.slice aa (dN (uI xs b) k).length ab),(4,.slice none 0 0),(0,.slice A0 xs.length c0),(1,.slice A1 b.length c1)]) (fun⟨k,aa,ab⟩=> [aG bY (dN (uI xs b) k) [.slice aa (dN (uI xs b) k).length ab],cM g3 2 1 0 []]) (fun⟨k,aa,ab⟩=>k≤20) (fun⟨k,aa,ab⟩=>20 - k) (0,(some ⟨g3,0,none⟩),0) (Nat.zero_le _) (.c .z (.c .g1 (.c .g3 (.c .g4 (.c .g5 .n))))) (fun _ h=>h.sel (.c .z (.c .z .n))) ?_
 rintro⟨k,aa,ab⟩ hk
 have hpl:=qM (p:=(uI xs b)) (k:=k)
 refine Y.seq (Y.seq (Y.region (Y.mv rfl .z (Y.ql rfl (dJ rfl (.t .z) .c) (Y.nt ?_)))))
 refine Y.u (.t .z) (fun b5=> ?_) (fun b5=> ?_)
 refine Y.skip (Y.g (Y.seq (Y.block (Y.seq (Y.region (Y.mv rfl .g5 (Y.mv rfl .g3 ?_)))))))
 refine Y.cl rfl rfl Tryz.func134 rfl rfl (aX (.t .g1) (.t .z)) .n (fun _ _ hs tr=>aF6 (tr.ctx h0) _ (by assumption)) ?_
 rintro _ _ ⟨rfl,rfl⟩
 refine Y.m .n ?_
 refine Y.ql rfl (bZ rfl (.t .z) .c) (Y.mv rfl .z ?_)
 refine Y.al .z (fun g6=> ?_) (fun g6=> ?_)
 refine Y.qg rfl rfl .z rfl rfl rfl (aV rfl (.t .g11)) ?_
 refine Y.qg rfl rfl .g1 rfl rfl rfl (aV rfl (.t .g8)) ?_
 refine Y.call (fU rfl rfl .g2) rfl (by decide) rfl (bS rfl Tryz.func143 rfl rfl (aX (.t .g1) (.t .z))) .n (fun _ _ hs tr=>aDx (tr.ctx h1) _) ?_
 rintro _ _ ⟨rfl,rfl⟩
 refine Y.m .n ?_
 refine Y.qg rfl rfl .g3 rfl rfl rfl (fN rfl (.t .z)) ?_
 refine Y.ql rfl (bO rfl (.t .g4) (.t .z)) (Y.nt ?_)
 refine Y.ad (.t .z) (fun b7=> ?_) (fun b7=> ?_)
 refine Y.region (Y.mv rfl .g13 (Y.mv rfl .g13 ?_))
 refine Y.el rfl (aS (cs:= [.int .i64 (k:Int)]) rfl eQ (inz iO) (by decide) (pv1 (.t .z)) rfl rfl (by decide) rfl rfl) ?_
 rintro _ _ ⟨g8,rfl,rfl⟩
 refine Y.add (c:=aG (iQ .i64) (k:Int) [.int .i64 (k:Int)]) (fun _ _=>⟨rfl,trivial⟩) ?_
 refine Y.el rfl (dU rfl eQ iO rfl (.t .g2) (.t .z) (.c .g2 (.c .g1 (.c .z .n))) (by first | omega |(simp only [List.length_append,List.length_take,List.length_nil,List.length_cons];omega)) (by first | omega |(simp only [List.length_append,List.length_take,List.length_nil,List.length_cons];omega))) ?_
 rintro _ _ rfl
 refine Y.af .z (rF (by first | exact decide_eq_true (by first | assumption | omega |(constructor <;> first | assumption |(rw [←lA];assumption;done) |(exact fun hm=>absurd (iU.2 hm) (by assumption)))) | exact decide_eq_false (by first | assumption | omega |(rintro⟨h1,h2⟩;first | contradiction |(exact absurd h2 (by assumption)) |(have:=lA.2 h1;contradiction) |(exact absurd (iU.1 (by assumption)) h1))))) ?_
 refine Y.h (WS.a .z) ?_
 rintro⟨ae,af,rfl,ag,ah,ai⟩
 refine Y.er (.s16 .g1) (Y.as rfl .z (Y.nil (Y.ac (Y.g (Y.region (Y.mv rfl (.s16 .g1) ?_))))))
 refine Y.ql rfl (bQ (c:=((k+1:Nat):Int)) rfl (.t .z) .c (wr (by omega) (by omega) (by omega))) ?_
 refine Y.er (.s16 .g3) (Y.as rfl .z (Y.nil ?_))
 refine Y.ae ((k+1),ae,af) (by omega) (by first | omega |(dsimp only;omega)) (.c .z (.c .g3 (.c (.s16 .g4) (.c (.s16 .g5) (.c (.s16 .g6) .n))))) (fun _ h=>h.sel (.c .z (.c .z .n)))
 refine Y.skip (Y.ac (Y.g (Y.region (Y.mv rfl .g12 ?_))))
 refine Y.ql rfl (bQ (c:=((k+1:Nat):Int)) rfl (.t .z) .c (wr (by omega) (by omega) (by omega))) ?_
 refine Y.er .g14 (Y.as rfl .z (Y.nil ?_))
 have ac:dN (uI xs b) k=dN (uI xs b) (k+1):=(mB (by first | exact decide_eq_true (by first | assumption | omega |(constructor <;> first | assumption |(rw [←lA];assumption;done) |(exact fun hm=>absurd (iU.2 hm) (by assumption)))) | exact decide_eq_false (by first | assumption | omega |(rintro⟨h1,h2⟩;first | contradiction |(exact absurd h2 (by assumption)) |(have:=lA.2 h1;contradiction) |(exact absurd (iU.1 (by assumption)) h1)))))
 refine Y.eq .g15 (congrArg (fun z_=>(.slice aa (z_).length ab:Value)) ac) ?_
 refine Y.ak .z (congrArg (fun z_=>(aG bY (z_) [.slice aa (z_).length ab]:Asn)) ac) ?_
 refine Y.ae ((k+1),aa,ab) (by omega) (by first | omega |(dsimp only;omega)) (.c .g1 (.c .z (.c .g16 (.c (.s16 .g1) (.c (.s16 .g2) .n))))) (fun _ h=>h.sel (.c .z (.c .z .n)))
 refine Y.j rfl rfl .z rfl rfl (by decide) rfl ?_
 refine Y.j rfl rfl .g1 rfl rfl (by decide) rfl ?_
 refine Y.j rfl rfl .g2 rfl rfl (by decide) rfl ?_
 refine Y.j rfl rfl .g3 rfl rfl (by decide) rfl ?_
 refine Y.ql rfl (bW rfl (.t .g4) .c) (Y.nt ?_)
 refine Y.ar (.t .z) ?_
 refine Y.skip (Y.ac (Y.g (Y.region (Y.mv rfl .g12 ?_))))
 refine Y.ql rfl (bQ (c:=((k+1:Nat):Int)) rfl (.t .z) .c (wr (by omega) (by omega) (by omega))) ?_
 refine Y.er .g14 (Y.as rfl .z (Y.nil ?_))
 have ad:dN (uI xs b) k=dN (uI xs b) (k+1):=(mB (by first | exact decide_eq_true (by first | assumption | omega |(constructor <;> first | assumption |(rw [←lA];assumption;done) |(exact fun hm=>absurd (iU.2 hm) (by assumption)))) | exact decide_eq_false (by first | assumption | omega |(rintro⟨h1,h2⟩;first | contradiction |(exact absurd h2 (by assumption)) |(have:=lA.2 h1;contradiction) |(exact absurd (iU.1 (by assumption)) h1)))))
 refine Y.eq .g15 (congrArg (fun z_=>(.slice aa (z_).length ab:Value)) ad) ?_
 refine Y.ak .z (congrArg (fun z_=>(aG bY (z_) [.slice aa (z_).length ab]:Asn)) ad) ?_
 refine Y.ae ((k+1),aa,ab) (by omega) (by first | omega |(dsimp only;omega)) (.c .g1 (.c .z (.c .g16 (.c (.s16 .g1) (.c (.s16 .g2) .n))))) (fun _ h=>h.sel (.c .z (.c .z .n)))
 refine Y.exit (Y.ab (Y.ab (Y.ai (Y.g (Y.seq (Y.region (Y.mv rfl .g3 (Y.er .g5 ?_))))))))
 refine Y.as rfl .z (Y.nt (Y.ret ?_))
 refine Y.i (aY rfl .z) (.c .z .n) ?_
 rw [show k=20 by omega];rfl

theorem aHn {w0:World}{S0:Bs}{xs:(List aF)}{v0:Value} (h0:aP.ro w0 (FF w0 S0) xs [v0]) {b:(List Int)}{v1:Value} (h1:bY.ro w0 (FF w0 S0) b [v1]) (n:Int):
    Calls Tryz.prog 116 #[v0,v1,.int .i64 n] w0 (aJ w0 S0 (aMj (sV xs b n))):=by
 obtain⟨A0,c0,rfl,ai,aj,ak,al⟩:=aH h0
 obtain⟨A1,c1,rfl,am,an,ao,ap⟩:=aH h1
 refine Y.enter (N:=32) Tryz.func116 rfl rfl (by simp) [(0,.slice A0 xs.length c0),(1,.slice A1 b.length c1),(2,.int .i64 n)] (by simp) (l0:= []) trivial ?_
 refine Y.seq (Y.region ?_)
 refine Y.el rfl (bL rfl aIz rfl rfl) ?_
 rintro _ _ ⟨g3,rfl,rfl⟩
 refine Y.nt (Y.seq (Y.seq (Y.region (Y.mv rfl .g1 (Y.mv rfl .g3 ?_)))))
 refine Y.cl rfl rfl Tryz.func146 rfl rfl (aX (.t .g1) (.t .z)) .n (fun _ _ hs tr=>aLb (tr.ctx h0) (tr.ctx h1)) ?_
 rintro _ _ ⟨rfl,rfl⟩
 refine Y.m .n ?_
 refine Y.as rfl .z (Y.nt (Y.seq (Y.region (Y.mv rfl .z (Y.ql rfl (cU rfl (.t .z) .c) (Y.nt ?_))))))
 refine Y.ad (.t .z) (fun b4=> ?_) (fun b4=> ?_)
 refine Y.seq (Y.region (Y.mv rfl .g2 (Y.ql rfl (aZ (cs:= [.int .i64 (jK xs b),.slice none 0 0]) rfl aD0 (pv1 (.t .z)) rfl) ?_)))
 refine Y.es (aD rfl) rfl (esW rfl (.t .g8) (.t .z) .z rQ rfl rfl) ?_
 refine Y.nt (Y.ret (Y.r ?_))
 refine Y.add (c:=aG bY [] [.slice none 0 0]) (fun w S=>aN w S none) ?_
 refine Y.i (dD rfl .g8 aEc .g1 rQ) (.c .z .n) ?_
 first |(rw [wO (by assumption)];exact⟨_,rfl,rfl⟩) |(rw [jA (by assumption),uT (by assumption)];exact⟨_,rfl,rfl⟩) |(rw [jA (by assumption),tX (by assumption) (by assumption)];exact⟨_,rfl,rfl⟩) |(rw [jA (by assumption),uS (by assumption) (by assumption)];exact⟨_,rfl,rfl⟩) |(rw [jA (by assumption)];exact⟨_,rfl,rfl⟩)
 refine Y.skip (Y.g (Y.seq (Y.seq (Y.region (Y.mv rfl .g9 ?_)))))
 refine Y.cl rfl rfl Tryz.func46 rfl rfl (dX (.t .z) .c .c) .n (fun _ _ hs tr=>xL _ _ _) ?_
 rintro _ _ ⟨rfl,rfl⟩
 refine Y.m .n ?_
 refine Y.ql rfl (fN rfl (.t .z)) (Y.nt ?_)
 refine Y.ad (.t .z) (fun b6=> ?_) (fun b6=> ?_)
 refine Y.seq (Y.region (Y.ql rfl (aZ (cs:= [.int .i64 3,.slice none 0 0]) rfl aD0 (pv1 .c) rfl) ?_))
 refine Y.es (aD rfl) rfl (esW rfl (.t .g10) (.t .z) .z rQ rfl rfl) ?_
 refine Y.nt (Y.ret (Y.r ?_))
 refine Y.add (c:=aG bY [] [.slice none 0 0]) (fun w S=>aN w S none) ?_
 refine Y.i (dD rfl .g10 aEc .g1 rQ) (.c .z .n) ?_
 first |(rw [wO (by assumption)];exact⟨_,rfl,rfl⟩) |(rw [jA (by assumption),uT (by assumption)];exact⟨_,rfl,rfl⟩) |(rw [jA (by assumption),tX (by assumption) (by assumption)];exact⟨_,rfl,rfl⟩) |(rw [jA (by assumption),uS (by assumption) (by assumption)];exact⟨_,rfl,rfl⟩) |(rw [jA (by assumption)];exact⟨_,rfl,rfl⟩)
 refine Y.skip (Y.g (Y.seq (Y.region (Y.mv rfl .g10 (Y.mv rfl .g12 ?_)))))
 refine Y.cl rfl rfl Tryz.func147 rfl rfl (aX (.t .g1) (.t .z)) .n (fun _ _ hs tr=>aLm (tr.ctx h0) (tr.ctx h1) (by first | assumption |(exact aGr (by assumption)))) ?_
 rintro _ _ rfl
 refine Y.m (.c .n) ?_
 refine Y.h (WS.a .z) ?_
 rintro⟨ab,ac,rfl,ad,ae,af⟩
 refine Y.as rfl .z (Y.nt (Y.seq (Y.seq (Y.region (Y.mv rfl .z (Y.ql rfl (bM rfl eQ (.t .z)) (Y.mv rfl (.s16 .g2) ?_)))))))
 refine Y.ql rfl (dJ rfl (.t .g1) (.t .z)) (Y.nt ?_)
 refine Y.u (.t .z) (fun ag=> ?_) (fun ag=> ?_)
 refine Y.seq (Y.region (Y.ql rfl (aZ (cs:= [.int .i64 8,.slice none 0 0]) rfl aD0 (pv1 .c) rfl) ?_))
 refine Y.es (aD rfl) rfl (esW rfl (.t (.s16 .g2)) (.t .z) .g1 rQ rfl rfl) ?_
 refine Y.nt (Y.ret (Y.r ?_))
 refine Y.add (c:=aG bY [] [.slice none 0 0]) (fun w S=>aN w S none) ?_
 refine Y.i (dD rfl (.s16 .g2) aEc .g1 rQ) (.c .z .n) ?_
 first |(rw [wO (by assumption)];exact⟨_,rfl,rfl⟩) |(rw [jA (by assumption),uT (by assumption)];exact⟨_,rfl,rfl⟩) |(rw [jA (by assumption),tX (by assumption) (by assumption)];exact⟨_,rfl,rfl⟩) |(rw [jA (by assumption),uS (by assumption) (by assumption)];exact⟨_,rfl,rfl⟩) |(rw [jA (by assumption)];exact⟨_,rfl,rfl⟩)
 refine Y.skip (Y.g (Y.seq (Y.region (Y.mv rfl .g4 (Y.mv rfl (.s16 .g5) ?_)))))
 refine Y.h (WS.w .z) ?_
 rintro⟨-,ah, -, -⟩
 have aa:(List.take (Int.toNat n) (nJ xs b)).length=Int.toNat n:=by rw [List.length_take];omega
 refine Y.eq .z (congrArg (Value.int .i64) (show n=(((List.take (Int.toNat n) (nJ xs b)).length:Nat):Int) by rw [aa];try omega)) ?_
 refine Y.v (c:=aG bY (List.take (Int.toNat n) (nJ xs b)) [.slice ab ((List.take (Int.toNat n) (nJ xs b)).length) ac]) (.c .z .n) (vD (by omega)) ?_
 refine Y.ql rfl (rB (b:=(List.take (Int.toNat n) (nJ xs b)).length) rfl eQ jQ (.t .g1) (.t .z) (by omega)) ?_
 refine Y.ql rfl (aZ (cs:= [.int .i64 0,.slice ab ((List.take (Int.toNat n) (nJ xs b)).length) ac]) rfl aD0 (pv1 (.t .z)) rfl) ?_
 refine Y.es (aD rfl) rfl (esW rfl (.t (.s16 .g5)) (.t .z) .g1 rQ rfl rfl) ?_
 refine Y.nt (Y.ret ?_)
 refine Y.i (dD rfl (.s16 .g5) aEc .z rQ) (.c .g1 .n) ?_
 first |(rw [wO (by assumption)];exact⟨_,rfl,rfl⟩) |(rw [jA (by assumption),uT (by assumption)];exact⟨_,rfl,rfl⟩) |(rw [jA (by assumption),tX (by assumption) (by assumption)];exact⟨_,rfl,rfl⟩) |(rw [jA (by assumption),uS (by assumption) (by assumption)];exact⟨_,rfl,rfl⟩) |(rw [jA (by assumption)];exact⟨_,rfl,rfl⟩)

end Go.Proofs.YtmejbfmhaoilmaaGreat

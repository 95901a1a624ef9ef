/- What is proved: contracts of functions, one a function. No condition. -/
import Derived.Test.YtmejbfmhaoilmaaGreatDoorBase1
import Derived.Test.YtmejbfmhaoilmaaGreatDoorW10
import Derived.Test.YtmejbfmhaoilmaaGreatDoorSortL
namespace Go.Proofs.YtmejbfmhaoilmaaGreatDoor
open Go Go.RowKit
set_option linter.unusedVariables false
set_option linter.unusedSimpArgs false
set_option maxHeartbeats 1000000
set_option maxRecDepth 20000
theorem aNn {w0:World}{S0:Bs}{xs:(List aF)}{v0:Value} (h0:bJ.ro w0 (FF w0 S0) xs [v0]) (hb:aZ xs=0):
    Calls Tryz.prog 70 #[v0] w0 (aI w0 S0 (fun r l=>∃v:Value,r= .tuple #[v,.bool (decide (fU xs).Nodup)]∧l= [aH bK (cV (oI xs) 20) [v]])):=by
 obtain⟨A0,c0,rfl,aj,ak,al,am⟩:=aD h0
 refine Y.enter (N:=29) Tryz.func70 rfl rfl (by simp) [(0,.slice A0 xs.length c0)] (by simp) (l0:= []) trivial ?_
 refine Y.seq (Y.region (Y.ql rfl (aA rfl .c) (Y.ql rfl (aA rfl .c) (Y.nt (Y.seq (Y.region ?_))))))
 refine Y.el rfl (eA rfl eF (inz gI)) ?_
 rintro _ _ ⟨g2,rfl,rfl⟩
 refine Y.as rfl .z (Y.nt (Y.seq (Y.region (Y.ql rfl (aA rfl .c) (Y.nt (Y.seq ?_))))))
 refine Y.seq (Y.region (Y.ql rfl (aA rfl .c) (Y.nt (Y.block ?_))))
 refine Y.add (c:=aH bK ([]:(List Int)) [.slice (some ⟨g2,0,none⟩) 0 0]) (fun w S=>aL w S _) ?_
 refine Y.ai (γ:=Nat×(Option Addr)×Nat) (fun⟨k,aa,ab⟩=> [(6,.int .i64 (k:Int)),(5,.bool (decide (sO xs k))),(4,.slice aa (cV (oI xs) k).length ab),(3,.bool false),(2,.slice none 0 0),(0,.slice A0 xs.length c0)]) (fun⟨k,aa,ab⟩=> [aH bK (cV (oI xs) k) [.slice aa (cV (oI xs) k).length ab],bV g2 2 1 0 []]) (fun⟨k,aa,ab⟩=>k≤20) (fun⟨k,aa,ab⟩=>20 - k) (0,(some ⟨g2,0,none⟩),0) (Nat.zero_le _) (.c .z (.e .g1 (congrArg Value.bool (decide_eq_true (fun j hj=>absurd hj (Nat.not_lt_zero j))).symm) (.c .g2 (.c .g4 (.c .g5 (.c .g6 .n)))))) (fun _ h=>h.sel (.c .z (.c .z .n))) ?_
 rintro⟨k,aa,ab⟩ hk
 have hpl:=nM (p:=(oI xs)) (k:=k)
 refine Y.seq (Y.seq (Y.region (Y.mv rfl .z (Y.ql rfl (dA rfl (.t .z) .c) (Y.nt ?_)))))
 refine Y.u (.t .z) (fun b4=> ?_) (fun b4=> ?_)
 refine Y.skip (Y.g (Y.seq (Y.block (Y.seq (Y.region (Y.mv rfl .g7 (Y.mv rfl .g3 ?_)))))))
 refine Y.cl rfl rfl Tryz.func56 rfl rfl (aS (.t .g1) (.t .z)) .n (fun _ _ hs tr=>aLl (tr.ctx h0) _ (by assumption)) ?_
 rintro _ _ ⟨rfl,rfl⟩
 refine Y.m .n ?_
 refine Y.as rfl .z (Y.nt (Y.seq (Y.seq (Y.region (Y.mv rfl .z (Y.ql rfl (fI rfl (.t .z) .c) (Y.nil ?_)))))))
 refine Y.g ?_
 refine Y.u (.t .z) (fun b5=> ?_) (fun b5=> ?_)
 refine Y.region (Y.mv rfl .g10 (Y.mv rfl .g9 ?_))
 refine Y.el rfl (aQ (cs:= [.int .i64 (k:Int)]) rfl eF (inz gI) (by decide) (pv1 (.t .z)) rfl rfl (by decide) rfl rfl) ?_
 rintro _ _ ⟨g6,rfl,rfl⟩
 refine Y.add (c:=aH (gS .i64) (k:Int) [.int .i64 (k:Int)]) (fun _ _=>⟨rfl,trivial⟩) ?_
 refine Y.el rfl (dK rfl eF gI rfl (.t .g2) (.t .z) (.c .g2 (.c .g1 (.c .z .n))) (by first | omega |(simp only [List.length_append,List.length_take,List.length_nil,List.length_cons];omega)) (by first | omega |(simp only [List.length_append,List.length_take,List.length_nil,List.length_cons];omega))) ?_
 rintro _ _ rfl
 refine Y.ah .z (oM (by first | exact decide_eq_true (by first | assumption | omega |(constructor <;> first | assumption |(rw [←kY];assumption;done) |(exact fun hm=>absurd (iM.2 hm) (by assumption)))) | exact decide_eq_false (by first | assumption | omega |(rintro⟨h1,h2⟩;first | contradiction |(exact absurd h2 (by assumption)) |(have:=kY.2 h1;contradiction) |(exact absurd (iM.1 (by assumption)) h1))))) ?_
 refine Y.h (WS.a .z) ?_
 rintro⟨ae,af,rfl,ag,ah,ai⟩
 refine Y.er .g14 (Y.as rfl .z (Y.nt (Y.region (Y.mv rfl .g14 (Y.mv rfl .z ?_)))))
 refine Y.al .z (fun g9=> ?_) (fun g9=> ?_)
 refine Y.qg rfl rfl .z rfl rfl rfl (aR rfl (.t .g9)) ?_
 refine Y.qg rfl rfl .g1 rfl rfl rfl (aB0 rfl (.t .z) .c) ?_
 refine Y.ql rfl (bI rfl (.t .g2) (.t .z)) (Y.er (.s16 .g3) (Y.as rfl .z (Y.nil (Y.ab (Y.g (Y.region (Y.mv rfl (.s16 .g3) ?_)))))))
 refine Y.ql rfl (bN (c:=((k+1:Nat):Int)) rfl (.t .z) .c (wr (by omega) (by omega) (by omega))) ?_
 refine Y.er (.s16 .g5) (Y.as rfl .z (Y.nil ?_))
 refine Y.ae ((k+1),ae,af) (by omega) (by first | omega |(dsimp only;omega)) (.c .z (.e .g3 (congrArg Value.bool (by first |(exact decide_eq_decide.2 ⟨fun h=>jX.2 ⟨by assumption,by omega⟩,fun h=>by have:=(jX.1 h).2;omega⟩) |(exact(decide_eq_false (fun h=>absurd (jX.1 h).1 (by assumption))).symm))) (.c .g9 (.c (.s16 .g6) (.c (.s16 .g7) (.c (.s16 .g8) .n)))))) (fun _ h=>h.sel (.c .z (.c .z .n)))
 refine Y.r rfl rfl .z rfl rfl (by decide) rfl ?_
 refine Y.r rfl rfl .g1 rfl rfl (by decide) rfl ?_
 refine Y.ql rfl (bH rfl (.t .g2) .c) (Y.er (.s16 .g3) (Y.as rfl .z (Y.nil (Y.ab (Y.g (Y.region (Y.mv rfl (.s16 .g3) ?_)))))))
 refine Y.ql rfl (bN (c:=((k+1:Nat):Int)) rfl (.t .z) .c (wr (by omega) (by omega) (by omega))) ?_
 refine Y.er (.s16 .g5) (Y.as rfl .z (Y.nil ?_))
 refine Y.ae ((k+1),ae,af) (by omega) (by first | omega |(dsimp only;omega)) (.c .z (.e .g3 (congrArg Value.bool (by first |(exact decide_eq_decide.2 ⟨fun h=>jX.2 ⟨by assumption,by omega⟩,fun h=>by have:=(jX.1 h).2;omega⟩) |(exact(decide_eq_false (fun h=>absurd (jX.1 h).1 (by assumption))).symm))) (.c .g9 (.c (.s16 .g6) (.c (.s16 .g7) (.c (.s16 .g8) .n)))))) (fun _ h=>h.sel (.c .z (.c .z .n)))
 refine Y.skip (Y.g (Y.region (Y.mv rfl .g9 (Y.mv rfl .z ?_))))
 refine Y.al .z (fun g10=> ?_) (fun g10=> ?_)
 refine Y.qg rfl rfl .z rfl rfl rfl (aR rfl (.t .g4)) ?_
 refine Y.qg rfl rfl .g1 rfl rfl rfl (aB0 rfl (.t .z) .c) ?_
 refine Y.ql rfl (bI rfl (.t .g2) (.t .z)) (Y.er .g14 (Y.as rfl .z (Y.nil (Y.ab (Y.g (Y.region (Y.mv rfl .g14 ?_)))))))
 refine Y.ql rfl (bN (c:=((k+1:Nat):Int)) rfl (.t .z) .c (wr (by omega) (by omega) (by omega))) ?_
 refine Y.er .g16 (Y.as rfl .z (Y.nil ?_))
 have ac:cV (oI xs) k=cV (oI xs) (k+1):=(kL (by first | exact decide_eq_true (by first | assumption | omega |(constructor <;> first | assumption |(rw [←kY];assumption;done) |(exact fun hm=>absurd (iM.2 hm) (by assumption)))) | exact decide_eq_false (by first | assumption | omega |(rintro⟨h1,h2⟩;first | contradiction |(exact absurd h2 (by assumption)) |(have:=kY.2 h1;contradiction) |(exact absurd (iM.1 (by assumption)) h1)))))
 refine Y.eq (.s16 .g1) (congrArg (fun z_=>(.slice aa (z_).length ab:Value)) ac) ?_
 refine Y.ak .z (congrArg (fun z_=>(aH bK (z_) [.slice aa (z_).length ab]:Asn)) ac) ?_
 refine Y.ae ((k+1),aa,ab) (by omega) (by first | omega |(dsimp only;omega)) (.c .g1 (.e .g4 (congrArg Value.bool (by first |(exact decide_eq_decide.2 ⟨fun h=>jX.2 ⟨by assumption,by omega⟩,fun h=>by have:=(jX.1 h).2;omega⟩) |(exact(decide_eq_false (fun h=>absurd (jX.1 h).1 (by assumption))).symm))) (.c .z (.c (.s16 .g2) (.c (.s16 .g3) (.c (.s16 .g4) .n)))))) (fun _ h=>h.sel (.c .z (.c .z .n)))
 refine Y.r rfl rfl .z rfl rfl (by decide) rfl ?_
 refine Y.r rfl rfl .g1 rfl rfl (by decide) rfl ?_
 refine Y.ql rfl (bH rfl (.t .g2) .c) (Y.er .g14 (Y.as rfl .z (Y.nil (Y.ab (Y.g (Y.region (Y.mv rfl .g14 ?_)))))))
 refine Y.ql rfl (bN (c:=((k+1:Nat):Int)) rfl (.t .z) .c (wr (by omega) (by omega) (by omega))) ?_
 refine Y.er .g16 (Y.as rfl .z (Y.nil ?_))
 have ad:cV (oI xs) k=cV (oI xs) (k+1):=(kL (by first | exact decide_eq_true (by first | assumption | omega |(constructor <;> first | assumption |(rw [←kY];assumption;done) |(exact fun hm=>absurd (iM.2 hm) (by assumption)))) | exact decide_eq_false (by first | assumption | omega |(rintro⟨h1,h2⟩;first | contradiction |(exact absurd h2 (by assumption)) |(have:=kY.2 h1;contradiction) |(exact absurd (iM.1 (by assumption)) h1)))))
 refine Y.eq (.s16 .g1) (congrArg (fun z_=>(.slice aa (z_).length ab:Value)) ad) ?_
 refine Y.ak .z (congrArg (fun z_=>(aH bK (z_) [.slice aa (z_).length ab]:Asn)) ad) ?_
 refine Y.ae ((k+1),aa,ab) (by omega) (by first | omega |(dsimp only;omega)) (.c .g1 (.e .g4 (congrArg Value.bool (by first |(exact decide_eq_decide.2 ⟨fun h=>jX.2 ⟨by assumption,by omega⟩,fun h=>by have:=(jX.1 h).2;omega⟩) |(exact(decide_eq_false (fun h=>absurd (jX.1 h).1 (by assumption))).symm))) (.c .z (.c (.s16 .g2) (.c (.s16 .g3) (.c (.s16 .g4) .n)))))) (fun _ h=>h.sel (.c .z (.c .z .n)))
 refine Y.exit (Y.y (Y.y (Y.ag (Y.g (Y.seq (Y.region (Y.mv rfl .g4 (Y.mv rfl .g4 ?_))))))))
 refine Y.er .g8 (Y.as rfl .g1 (Y.er .g8 (Y.as rfl .g1 (Y.nt (Y.ret ?_)))))
 refine Y.i (lA rfl .g1 .z) (.c .z .n) ?_
 exact⟨_,by rw [show k=20 by omega];exact congrArg (fun b=>Value.tuple #[_,.bool b]) (decide_eq_decide.2 (aFv hb)),by rw [show k=20 by omega]⟩

theorem aO1 {w0:World}{S0:Bs}{xs:(List aF)}{v0:Value} (h0:bJ.ro w0 (FF w0 S0) xs [v0]) (hb:aZ xs=0):
    Calls Tryz.prog 63 #[v0] w0 (aI w0 S0 (fun r l=>∃v:Value,r= .tuple #[v,.bool (decide (fU xs).Nodup)]∧l= [aH bK (kW (fU xs)) [v]])):=by
 obtain⟨A0,c0,rfl,be,bf,bg,ba⟩:=aD h0
 refine Y.enter (N:=28) Tryz.func63 rfl rfl (by simp) [(0,.slice A0 xs.length c0)] (by simp) (l0:= []) trivial ?_
 refine Y.seq (Y.region (Y.ql rfl (aA rfl .c) (Y.ql rfl (aA rfl .c) (Y.nt (Y.seq (Y.region (Y.ql rfl (aA rfl .c) ?_)))))))
 refine Y.nt (Y.seq (Y.seq (Y.region (Y.mv rfl .g3 (Y.ql rfl (bD rfl cQ (.t .z)) (Y.ql rfl (aR rfl .c) (Y.nil ?_)))))))
 refine Y.g (Y.block ?_)
 refine Y.add (c:=aH bK [] [.slice none 0 0]) (fun w S=>aL w S none) ?_
 refine Y.ai (γ:=Nat×(Option Addr)×Nat) (fun⟨k,aa,ab⟩=> [(9,.int .i64 (k:Int)),(8,.int .i64 (xs.length:Int)),(7,.slice A0 xs.length c0),(4,.slice aa (fU (List.take k xs)).length ab),(3,.bool false),(2,.slice none 0 0)]) (fun⟨k,aa,ab⟩=> [aH bK (fU (List.take k xs)) [.slice aa (fU (List.take k xs)).length ab]]) (fun⟨k,aa,ab⟩=>k≤xs.length) (fun⟨k,aa,ab⟩=>xs.length - k) (0,none,0) (Nat.zero_le _) (.c .z (.c .g1 (.c .g2 (.c .g3 (.c .g4 (.c .g5 .n)))))) (fun _ h=>h.sel (.c .z .n)) ?_
 rintro⟨k,aa,ab⟩ hk
 have hu:=oY hb k
 refine Y.seq (Y.region (Y.ql rfl (dA rfl (.t .z) (.t .g1)) (Y.nt (Y.seq ?_))))
 refine Y.u (.t .z) (fun b3=> ?_) (fun b3=> ?_)
 refine Y.skip (Y.g (Y.seq (Y.block (Y.seq (Y.region ?_)))))
 obtain⟨bh,af,ag⟩:=ba (by omega)
 subst af
 obtain⟨x5,ax⟩:=aK (xs:=xs) (j:=k) (by omega)
 obtain⟨bb,ai,aj,ak⟩:=ag.elem ax
 obtain⟨ay,az,rfl,ac,ah⟩:=bY ai
 obtain⟨a0,a1,rfl,al,am,an,ao⟩:=aD ac
 obtain⟨a2,a3,rfl,ap,aq,ar,au⟩:=aD ah
 refine Y.ql rfl (aB (j:=k) rfl cQ aT (.t .g3) (.t .g1) rfl (by omega)) ?_
 refine Y.ql rfl (qE rfl fH (.t .z) aj ak aT) ?_
 refine Y.el rfl (bB rfl sX rfl rfl) ?_
 rintro _ _ ⟨g9,rfl,rfl⟩
 refine Y.es (aE rfl) rfl (esW rfl (.t .z) (.t .g1) .z aT rfl rfl) ?_
 refine Y.nt (Y.region (Y.mv rfl .g7 (Y.fa rfl .g1 dH (Y.ld rfl eZ .z .z ?_))))
 refine Y.el rfl (eD (bT _ _ _) rfl eF gI rfl (.t .g2) (.t .z) (.c .g1 .n) (fun w1 S1 tr=>tr.ctx ac) (by first | omega |(rw [nT (by assumption)];have:=oY hb (k+1);omega) |(have:=oY hb (k+1);rw [←nT (by assumption),List.length_append] at this;omega)) (by first | omega |(rw [nT (by assumption)];have:=oY hb (k+1);omega) |(have:=oY hb (k+1);rw [←nT (by assumption),List.length_append] at this;omega))) ?_
 rintro _ _ rfl
 refine Y.ah .z (nT ax) ?_
 refine Y.h (WS.a .z) ?_
 rintro⟨av,aw,rfl,a4,a5,a6⟩
 refine Y.er .g11 (Y.as rfl .z (Y.nil (Y.ab (Y.g (Y.region ?_)))))
 refine Y.ql rfl (bN (c:=((k+1:Nat):Int)) rfl (.t .g9) .c (wr (by omega) (by omega) (by omega))) ?_
 refine Y.er .g10 (Y.mv rfl .z (Y.nil ?_))
 refine Y.ae ((k+1),av,aw) (by omega) (by first | omega |(dsimp only;omega)) (.c .z (.c .g11 (.c .g12 (.c .g2 (.c .g13 (.c .g14 .n)))))) (fun _ h=>h.sel (.c .z .n))
 refine Y.exit (Y.y (Y.y (Y.ag (Y.g (Y.seq (Y.region (Y.mv rfl .g4 ?_)))))))
 have ad:fU (List.take k xs)=fU xs:=(congrArg fU (List.take_of_length_le (by omega)))
 refine Y.eq .z (congrArg (fun z_=>(.slice aa (z_).length ab:Value)) ad) ?_
 refine Y.eq .g5 (congrArg (fun z_=>(.slice aa (z_).length ab:Value)) ad) ?_
 refine Y.ak .z (congrArg (fun z_=>(aH bK (z_) [.slice aa (z_).length ab]:Asn)) ad) ?_
 refine Y.cl rfl rfl Tryz.func92 rfl rfl (bG (.t .g1)) (.c .z .n) (fun _ _ hs tr=>aOk hs) ?_
 rintro _ _ ⟨rfl,rfl⟩
 refine Y.m (.c .n) ?_
 have ae:(fU xs).length=(kW (fU xs)).length:=(zN _).symm
 refine Y.eq .g1 (congrArg (fun z_=>(.slice aa z_ ab:Value)) ae) ?_
 refine Y.eq .g2 (congrArg (fun z_=>(.slice aa z_ ab:Value)) ae) ?_
 refine Y.ak .z (congrArg (fun z_=>(aH bK (kW (fU xs)) [.slice aa z_ ab]:Asn)) ae) ?_
 refine Y.nt (Y.seq (Y.region (Y.mv rfl .g1 (Y.mv rfl .g2 ?_))))
 refine Y.cl rfl rfl Tryz.func94 rfl rfl (bG (.t .z)) .n (fun _ _ hs tr=>aOp (tr.own .z)) ?_
 rintro _ _ rfl
 refine Y.m (.c .n) ?_
 refine Y.h (WS.a .z) ?_
 rintro⟨bc,bd,rfl,a7,a8,a9⟩
 refine Y.cl rfl rfl Tryz.func93 rfl rfl (bG (.t .z)) (.c .z .n) (fun _ _ hs tr=>aOi hs) ?_
 rintro _ _ ⟨bi,rfl,rfl⟩
 refine Y.m .n ?_
 refine Y.ql rfl (bD rfl eF (.t .z)) (Y.mv rfl .g6 (Y.ql rfl (bD rfl eF (.t .z)) (Y.ql rfl (bU rfl (.t .g2) (.t .z)) (Y.er .g16 (Y.as rfl .g7 (Y.er .g16 (Y.as rfl .g1 (Y.nil ?_))))))))
 refine Y.g (Y.ret ?_)
 refine Y.i (lA rfl .g1 .z) (.c .z .n) ?_
 exact⟨_,congrArg (fun b=>Value.tuple #[_,.bool b]) (by rw [decide_eq_decide,←aCb];omega),rfl⟩

theorem aJ7 {w0:World}{S0:Bs}{xs:(List Int)}{v0:Value} (h0:bK.ro w0 (FF w0 S0) xs [v0]):
    Calls Tryz.prog 165 #[v0] w0 (aI w0 S0 (fun r l=>r= .int .i64 (iP xs)∧l= [])):=by
 obtain⟨A0,c0,rfl,ai,aj,ak,ag⟩:=aD h0
 refine Y.enter (N:=19) Tryz.func165 rfl rfl (by simp) [(0,.slice A0 xs.length c0)] (by simp) (l0:= []) trivial ?_
 refine Y.seq (Y.region (Y.ql rfl (aA rfl .c) (Y.nt (Y.seq (Y.seq (Y.region (Y.mv rfl .g1 ?_)))))))
 refine Y.ql rfl (bD rfl eF (.t .z)) (Y.ql rfl (fI rfl (.t .z) .c) (Y.nt ?_))
 refine Y.u (.t .z) (fun b2=> ?_) (fun b2=> ?_)
 refine Y.seq (Y.region (Y.er .g3 (Y.ql rfl (aA rfl .c) (Y.nt (Y.ret (Y.j ?_))))))
 refine Y.i (aU rfl .z) .n ?_
 exact⟨by first |(rw [qR (by assumption)];done) |(rw [qU (by assumption) (by assumption)];done) |(rw [lP (by assumption) (oW (fun j b hj hb=>hallk j b (by omega) hb))];done) |(rw [lP (by assumption) (by assumption)];done),rfl⟩
 refine Y.skip (Y.g (Y.seq (Y.seq (Y.region (Y.ql rfl (aA rfl .c) (Y.nt (Y.block ?_)))))))
 refine Y.ai (γ:=Nat) (fun k=> [(3,.int .i64 (k:Int)),(0,.slice A0 xs.length c0)]) (fun k=> []) (fun k=>k≤xs.length∧∀j b,j<k→xs[j]? =some b→0≤b∧b≤19) (fun k=>xs.length - k) 0 ⟨Nat.zero_le _,eN (q:=fun _ b=>(0:Int)≤b∧b≤19)⟩ (.c .z (.c .g5 .n)) (fun _ h=>h) ?_
 rintro k ⟨hk,hallk⟩
 refine Y.seq (Y.seq (Y.region (Y.mv rfl .z (Y.mv rfl .g2 (Y.ql rfl (bD rfl eF (.t .z)) (Y.ql rfl (dA rfl (.t .g2) (.t .z)) (Y.nt ?_)))))))
 refine Y.u (.t .z) (fun b3=> ?_) (fun b3=> ?_)
 refine Y.skip (Y.g (Y.seq (Y.block (Y.seq (Y.region (Y.mv rfl .g5 (Y.mv rfl .g5 ?_)))))))
 obtain⟨al,aa,ab⟩:=ag (by omega)
 subst aa
 obtain⟨x5,ac⟩:=aK (xs:=xs) (j:=k) (by omega)
 obtain⟨ah,ad,ae,af⟩:=ab.elem ac
 obtain⟨rfl,am⟩:=ad
 refine Y.ql rfl (aB (j:=k) rfl eF jO (.t .g1) (.t .z) rfl (by omega)) ?_
 refine Y.ql rfl (aM rfl bP (.t .z) (WS.i ae af rfl)) ?_
 refine Y.cl rfl rfl Tryz.func86 rfl rfl (eL (.t .z) .c .c) .n (fun _ _ hs tr=>yK _ _ _) ?_
 rintro _ _ ⟨rfl,rfl⟩
 refine Y.m .n ?_
 refine Y.ql rfl (fF rfl (.t .z)) (Y.nt ?_)
 refine Y.ac (.t .z) (fun b7=> ?_) (fun b7=> ?_)
 refine Y.seq (Y.region (Y.ql rfl (aA rfl .c) (Y.nt (Y.ret (Y.v (Y.j (Y.j ?_)))))))
 refine Y.v (Y.j ?_)
 refine Y.i (aU rfl .z) .n ?_
 exact⟨by first |(rw [qR (by assumption)];done) |(rw [qU (by assumption) (aFg ac (by assumption))];done) |(rw [lP (by assumption) (oW (fun j b hj hb=>hallk j b (by omega) hb))];done) |(rw [lP (by assumption) (by assumption)];done),rfl⟩
 refine Y.skip (Y.ab (Y.g (Y.region (Y.mv rfl .g10 ?_))))
 refine Y.ql rfl (bN (c:=((k+1:Nat):Int)) rfl (.t .z) .c (wr (by omega) (by omega) (by omega))) ?_
 refine Y.er .g12 (Y.as rfl .z (Y.nil ?_))
 refine Y.ae (k+1) ⟨by omega,dS (q:=fun _ b=>(0:Int)≤b∧b≤19) hallk ac b7⟩ (by first | omega |(dsimp only;omega)) (.c .z (.c .g13 .n)) (fun _ h=>h)
 refine Y.exit (Y.y (Y.y (Y.ag (Y.g (Y.seq (Y.region (Y.ql rfl (aA rfl .c) (Y.nil ?_))))))))
 refine Y.g (Y.ret ?_)
 refine Y.i (aU rfl .z) .n ?_
 exact⟨by first |(rw [qR (by assumption)];done) |(rw [qU (by assumption) (by assumption)];done) |(rw [lP (by assumption) (oW (fun j b hj hb=>hallk j b (by omega) hb))];done) |(rw [lP (by assumption) (by assumption)];done),rfl⟩

theorem aNg {w0:World}{S0:Bs}{xs:(List aF)}{v0:Value} (h0:bJ.ro w0 (FF w0 S0) xs [v0]) {b:(List Int)}{v1:Value} (h1:bK.ro w0 (FF w0 S0) b [v1]):
    Calls Tryz.prog 182 #[v0,v1] w0 (aI w0 S0 (fun r l=>r= .int .i64 (jC xs b)∧l= [])):=by
 obtain⟨A0,c0,rfl,aa,ab,ac,ad⟩:=aD h0
 obtain⟨A1,c1,rfl,ae,af,ag,ah⟩:=aD h1
 refine Y.enter (N:=13) Tryz.func182 rfl rfl (by simp) [(0,.slice A0 xs.length c0),(1,.slice A1 b.length c1)] (by simp) (l0:= []) trivial ?_
 refine Y.seq (Y.region (Y.ql rfl (aA rfl .c) (Y.nt (Y.seq (Y.seq (Y.region (Y.mv rfl .g1 ?_)))))))
 refine Y.cl rfl rfl Tryz.func69 rfl rfl (bG (.t .z)) .n (fun _ _ hs tr=>aNh (tr.ctx h0)) ?_
 rintro _ _ ⟨rfl,rfl⟩
 refine Y.m .n ?_
 refine Y.as rfl .z (Y.nt (Y.seq (Y.region (Y.mv rfl .z (Y.ql rfl (bW rfl (.t .z) .c) (Y.nt ?_))))))
 refine Y.ac (.t .z) (fun b3=> ?_) (fun b3=> ?_)
 refine Y.seq (Y.region (Y.mv rfl .g2 (Y.er .g6 (Y.as rfl .z (Y.nt (Y.ret (Y.j ?_)))))))
 refine Y.i (aU rfl .z) .n ?_
 exact⟨by unfold jC;first |(rw [if_neg (by assumption)];done) |(rw [if_pos (by omega)];done),rfl⟩
 refine Y.skip (Y.g (Y.seq (Y.region (Y.mv rfl .g7 ?_))))
 refine Y.cl rfl rfl Tryz.func165 rfl rfl (bG (.t .z)) .n (fun _ _ hs tr=>aJ7 (tr.ctx h1)) ?_
 rintro _ _ ⟨rfl,rfl⟩
 refine Y.m .n ?_
 refine Y.er .g7 (Y.as rfl .z (Y.nt (Y.ret ?_)))
 refine Y.i (aU rfl .z) .n ?_
 exact⟨by unfold jC;first |(rw [if_neg (by assumption)];done) |(rw [if_pos (by omega)];done),rfl⟩

theorem aMx {w0:World}{S0:Bs}{xs:(List aF)}{v0:Value} (h0:bJ.ro w0 (FF w0 S0) xs [v0]) {b:(List Int)}{v1:Value} (h1:bK.ro w0 (FF w0 S0) b [v1]) (hb:aZ xs=0):
    Calls Tryz.prog 183 #[v0,v1] w0 (aI w0 S0 (fun r l=>l= [aH bK (mY xs b) [r]])):=by
 obtain⟨A0,c0,rfl,aj,ak,al,am⟩:=aD h0
 obtain⟨A1,c1,rfl,an,ao,ap,aq⟩:=aD h1
 refine Y.enter (N:=27) Tryz.func183 rfl rfl (by simp) [(0,.slice A0 xs.length c0),(1,.slice A1 b.length c1)] (by simp) (l0:= []) trivial ?_
 refine Y.seq (Y.region (Y.ql rfl (aA rfl .c) (Y.nt (Y.seq (Y.region ?_)))))
 refine Y.el rfl (eA rfl eF (inz gI)) ?_
 rintro _ _ ⟨g3,rfl,rfl⟩
 refine Y.as rfl .z (Y.nt (Y.seq (Y.seq (Y.region (Y.ql rfl (aA rfl .c) (Y.nt ?_))))))
 refine Y.block ?_
 refine Y.add (c:=aH bK ([]:(List Int)) [.slice (some ⟨g3,0,none⟩) 0 0]) (fun w S=>aL w S _) ?_
 refine Y.ai (γ:=Nat×(Option Addr)×Nat) (fun⟨k,aa,ab⟩=> [(6,.int .i64 (k:Int)),(5,.slice aa (cV (tM xs b) k).length ab),(4,.slice none 0 0),(0,.slice A0 xs.length c0),(1,.slice A1 b.length c1)]) (fun⟨k,aa,ab⟩=> [aH bK (cV (tM xs b) k) [.slice aa (cV (tM xs b) k).length ab],bV g3 2 1 0 []]) (fun⟨k,aa,ab⟩=>k≤20) (fun⟨k,aa,ab⟩=>20 - k) (0,(some ⟨g3,0,none⟩),0) (Nat.zero_le _) (.c .z (.c .g1 (.c .g3 (.c .g4 (.c .g5 .n))))) (fun _ h=>h.sel (.c .z (.c .z .n))) ?_
 rintro⟨k,aa,ab⟩ hk
 have hpl:=nM (p:=(tM xs b)) (k:=k)
 refine Y.seq (Y.seq (Y.region (Y.mv rfl .z (Y.ql rfl (dA rfl (.t .z) .c) (Y.nt ?_)))))
 refine Y.u (.t .z) (fun b5=> ?_) (fun b5=> ?_)
 refine Y.skip (Y.g (Y.seq (Y.block (Y.seq (Y.region (Y.mv rfl .g5 (Y.mv rfl .g3 ?_)))))))
 refine Y.cl rfl rfl Tryz.func56 rfl rfl (aS (.t .g1) (.t .z)) .n (fun _ _ hs tr=>aLl (tr.ctx h0) _ (by assumption)) ?_
 rintro _ _ ⟨rfl,rfl⟩
 refine Y.m .n ?_
 refine Y.ql rfl (bU rfl (.t .z) .c) (Y.mv rfl .z ?_)
 refine Y.al .z (fun g6=> ?_) (fun g6=> ?_)
 refine Y.qg rfl rfl .z rfl rfl rfl (aR rfl (.t .g11)) ?_
 refine Y.qg rfl rfl .g1 rfl rfl rfl (aR rfl (.t .g8)) ?_
 refine Y.call (eB rfl rfl .g2) rfl (by decide) rfl (bE rfl Tryz.func73 rfl rfl (aS (.t .g1) (.t .z))) .n (fun _ _ hs tr=>aJc (tr.ctx h1) _) ?_
 rintro _ _ ⟨rfl,rfl⟩
 refine Y.m .n ?_
 refine Y.qg rfl rfl .g3 rfl rfl rfl (fF rfl (.t .z)) ?_
 refine Y.ql rfl (bI rfl (.t .g4) (.t .z)) (Y.nt ?_)
 refine Y.ac (.t .z) (fun b7=> ?_) (fun b7=> ?_)
 refine Y.region (Y.mv rfl .g13 (Y.mv rfl .g13 ?_))
 refine Y.el rfl (aQ (cs:= [.int .i64 (k:Int)]) rfl eF (inz gI) (by decide) (pv1 (.t .z)) rfl rfl (by decide) rfl rfl) ?_
 rintro _ _ ⟨g8,rfl,rfl⟩
 refine Y.add (c:=aH (gS .i64) (k:Int) [.int .i64 (k:Int)]) (fun _ _=>⟨rfl,trivial⟩) ?_
 refine Y.el rfl (dK rfl eF gI rfl (.t .g2) (.t .z) (.c .g2 (.c .g1 (.c .z .n))) (by first | omega |(simp only [List.length_append,List.length_take,List.length_nil,List.length_cons];omega)) (by first | omega |(simp only [List.length_append,List.length_take,List.length_nil,List.length_cons];omega))) ?_
 rintro _ _ rfl
 refine Y.ah .z (oM (by first | exact decide_eq_true (by first | assumption | omega |(constructor <;> first | assumption |(rw [←kY];assumption;done) |(exact fun hm=>absurd (iM.2 hm) (by assumption)))) | exact decide_eq_false (by first | assumption | omega |(rintro⟨h1,h2⟩;first | contradiction |(exact absurd h2 (by assumption)) |(have:=kY.2 h1;contradiction) |(exact absurd (iM.1 (by assumption)) h1))))) ?_
 refine Y.h (WS.a .z) ?_
 rintro⟨ae,af,rfl,ag,ah,ai⟩
 refine Y.er (.s16 .g1) (Y.as rfl .z (Y.nil (Y.ab (Y.g (Y.region (Y.mv rfl (.s16 .g1) ?_))))))
 refine Y.ql rfl (bN (c:=((k+1:Nat):Int)) rfl (.t .z) .c (wr (by omega) (by omega) (by omega))) ?_
 refine Y.er (.s16 .g3) (Y.as rfl .z (Y.nil ?_))
 refine Y.ae ((k+1),ae,af) (by omega) (by first | omega |(dsimp only;omega)) (.c .z (.c .g3 (.c (.s16 .g4) (.c (.s16 .g5) (.c (.s16 .g6) .n))))) (fun _ h=>h.sel (.c .z (.c .z .n)))
 refine Y.skip (Y.ab (Y.g (Y.region (Y.mv rfl .g12 ?_))))
 refine Y.ql rfl (bN (c:=((k+1:Nat):Int)) rfl (.t .z) .c (wr (by omega) (by omega) (by omega))) ?_
 refine Y.er .g14 (Y.as rfl .z (Y.nil ?_))
 have ac:cV (tM xs b) k=cV (tM xs b) (k+1):=(kL (by first | exact decide_eq_true (by first | assumption | omega |(constructor <;> first | assumption |(rw [←kY];assumption;done) |(exact fun hm=>absurd (iM.2 hm) (by assumption)))) | exact decide_eq_false (by first | assumption | omega |(rintro⟨h1,h2⟩;first | contradiction |(exact absurd h2 (by assumption)) |(have:=kY.2 h1;contradiction) |(exact absurd (iM.1 (by assumption)) h1)))))
 refine Y.eq .g15 (congrArg (fun z_=>(.slice aa (z_).length ab:Value)) ac) ?_
 refine Y.ak .z (congrArg (fun z_=>(aH bK (z_) [.slice aa (z_).length ab]:Asn)) ac) ?_
 refine Y.ae ((k+1),aa,ab) (by omega) (by first | omega |(dsimp only;omega)) (.c .g1 (.c .z (.c .g16 (.c (.s16 .g1) (.c (.s16 .g2) .n))))) (fun _ h=>h.sel (.c .z (.c .z .n)))
 refine Y.r rfl rfl .z rfl rfl (by decide) rfl ?_
 refine Y.r rfl rfl .g1 rfl rfl (by decide) rfl ?_
 refine Y.r rfl rfl .g2 rfl rfl (by decide) rfl ?_
 refine Y.r rfl rfl .g3 rfl rfl (by decide) rfl ?_
 refine Y.ql rfl (bH rfl (.t .g4) .c) (Y.nt ?_)
 refine Y.ap (.t .z) ?_
 refine Y.skip (Y.ab (Y.g (Y.region (Y.mv rfl .g12 ?_))))
 refine Y.ql rfl (bN (c:=((k+1:Nat):Int)) rfl (.t .z) .c (wr (by omega) (by omega) (by omega))) ?_
 refine Y.er .g14 (Y.as rfl .z (Y.nil ?_))
 have ad:cV (tM xs b) k=cV (tM xs b) (k+1):=(kL (by first | exact decide_eq_true (by first | assumption | omega |(constructor <;> first | assumption |(rw [←kY];assumption;done) |(exact fun hm=>absurd (iM.2 hm) (by assumption)))) | exact decide_eq_false (by first | assumption | omega |(rintro⟨h1,h2⟩;first | contradiction |(exact absurd h2 (by assumption)) |(have:=kY.2 h1;contradiction) |(exact absurd (iM.1 (by assumption)) h1)))))
 refine Y.eq .g15 (congrArg (fun z_=>(.slice aa (z_).length ab:Value)) ad) ?_
 refine Y.ak .z (congrArg (fun z_=>(aH bK (z_) [.slice aa (z_).length ab]:Asn)) ad) ?_
 refine Y.ae ((k+1),aa,ab) (by omega) (by first | omega |(dsimp only;omega)) (.c .g1 (.c .z (.c .g16 (.c (.s16 .g1) (.c (.s16 .g2) .n))))) (fun _ h=>h.sel (.c .z (.c .z .n)))
 refine Y.exit (Y.y (Y.y (Y.ag (Y.g (Y.seq (Y.region (Y.mv rfl .g3 (Y.er .g5 ?_))))))))
 refine Y.as rfl .z (Y.nt (Y.ret ?_))
 refine Y.i (aU rfl .z) (.c .z .n) ?_
 rw [show k=20 by omega];rfl

theorem aHu {w0:World}{S0:Bs}{xs:(List aF)}{v0:Value} (h0:bJ.ro w0 (FF w0 S0) xs [v0]) {b:(List Int)}{v1:Value} (h1:bK.ro w0 (FF w0 S0) b [v1]) (n:Int):
    Calls Tryz.prog 166 #[v0,v1,.int .i64 n] w0 (aI w0 S0 (aK3 (sE xs b n))):=by
 obtain⟨A0,c0,rfl,ai,aj,ak,al⟩:=aD h0
 obtain⟨A1,c1,rfl,am,an,ao,ap⟩:=aD h1
 refine Y.enter (N:=32) Tryz.func166 rfl rfl (by simp) [(0,.slice A0 xs.length c0),(1,.slice A1 b.length c1),(2,.int .i64 n)] (by simp) (l0:= []) trivial ?_
 refine Y.seq (Y.region ?_)
 refine Y.el rfl (bB rfl aFj rfl rfl) ?_
 rintro _ _ ⟨g3,rfl,rfl⟩
 refine Y.nt (Y.seq (Y.seq (Y.region (Y.mv rfl .g1 (Y.mv rfl .g3 ?_)))))
 refine Y.cl rfl rfl Tryz.func182 rfl rfl (aS (.t .g1) (.t .z)) .n (fun _ _ hs tr=>aNg (tr.ctx h0) (tr.ctx h1)) ?_
 rintro _ _ ⟨rfl,rfl⟩
 refine Y.m .n ?_
 refine Y.as rfl .z (Y.nt (Y.seq (Y.region (Y.mv rfl .z (Y.ql rfl (bW rfl (.t .z) .c) (Y.nt ?_))))))
 refine Y.ac (.t .z) (fun b4=> ?_) (fun b4=> ?_)
 refine Y.seq (Y.region (Y.mv rfl .g2 (Y.ql rfl (aW (cs:= [.int .i64 (jC xs b),.slice none 0 0]) rfl aAe (pv1 (.t .z)) rfl) ?_)))
 refine Y.es (aE rfl) rfl (esW rfl (.t .g8) (.t .z) .z nP rfl rfl) ?_
 refine Y.nt (Y.ret (Y.j ?_))
 refine Y.add (c:=aH bK [] [.slice none 0 0]) (fun w S=>aL w S none) ?_
 refine Y.i (cU rfl .g8 aBb .g1 nP) (.c .z .n) ?_
 first |(rw [wI (by assumption)];exact⟨_,rfl,rfl⟩) |(rw [iQ (by assumption),uP (by assumption)];exact⟨_,rfl,rfl⟩) |(rw [iQ (by assumption),tH (by assumption) (by assumption)];exact⟨_,rfl,rfl⟩) |(rw [iQ (by assumption),tF (by assumption) (by assumption)];exact⟨_,rfl,rfl⟩) |(rw [iQ (by assumption)];exact⟨_,rfl,rfl⟩)
 refine Y.skip (Y.g (Y.seq (Y.seq (Y.region (Y.mv rfl .g9 ?_)))))
 refine Y.cl rfl rfl Tryz.func86 rfl rfl (eL (.t .z) .c .c) .n (fun _ _ hs tr=>yK _ _ _) ?_
 rintro _ _ ⟨rfl,rfl⟩
 refine Y.m .n ?_
 refine Y.ql rfl (fF rfl (.t .z)) (Y.nt ?_)
 refine Y.ac (.t .z) (fun b6=> ?_) (fun b6=> ?_)
 refine Y.seq (Y.region (Y.ql rfl (aW (cs:= [.int .i64 3,.slice none 0 0]) rfl aAe (pv1 .c) rfl) ?_))
 refine Y.es (aE rfl) rfl (esW rfl (.t .g10) (.t .z) .z nP rfl rfl) ?_
 refine Y.nt (Y.ret (Y.j ?_))
 refine Y.add (c:=aH bK [] [.slice none 0 0]) (fun w S=>aL w S none) ?_
 refine Y.i (cU rfl .g10 aBb .g1 nP) (.c .z .n) ?_
 first |(rw [wI (by assumption)];exact⟨_,rfl,rfl⟩) |(rw [iQ (by assumption),uP (by assumption)];exact⟨_,rfl,rfl⟩) |(rw [iQ (by assumption),tH (by assumption) (by assumption)];exact⟨_,rfl,rfl⟩) |(rw [iQ (by assumption),tF (by assumption) (by assumption)];exact⟨_,rfl,rfl⟩) |(rw [iQ (by assumption)];exact⟨_,rfl,rfl⟩)
 refine Y.skip (Y.g (Y.seq (Y.region (Y.mv rfl .g10 (Y.mv rfl .g12 ?_)))))
 refine Y.cl rfl rfl Tryz.func183 rfl rfl (aS (.t .g1) (.t .z)) .n (fun _ _ hs tr=>aMx (tr.ctx h0) (tr.ctx h1) (by first | assumption |(exact aHd (by assumption)))) ?_
 rintro _ _ rfl
 refine Y.m (.c .n) ?_
 refine Y.h (WS.a .z) ?_
 rintro⟨ab,ac,rfl,ad,ae,af⟩
 refine Y.as rfl .z (Y.nt (Y.seq (Y.seq (Y.region (Y.mv rfl .z (Y.ql rfl (bD rfl eF (.t .z)) (Y.mv rfl (.s16 .g2) ?_)))))))
 refine Y.ql rfl (dA rfl (.t .g1) (.t .z)) (Y.nt ?_)
 refine Y.u (.t .z) (fun ag=> ?_) (fun ag=> ?_)
 refine Y.seq (Y.region (Y.ql rfl (aW (cs:= [.int .i64 8,.slice none 0 0]) rfl aAe (pv1 .c) rfl) ?_))
 refine Y.es (aE rfl) rfl (esW rfl (.t (.s16 .g2)) (.t .z) .g1 nP rfl rfl) ?_
 refine Y.nt (Y.ret (Y.j ?_))
 refine Y.add (c:=aH bK [] [.slice none 0 0]) (fun w S=>aL w S none) ?_
 refine Y.i (cU rfl (.s16 .g2) aBb .g1 nP) (.c .z .n) ?_
 first |(rw [wI (by assumption)];exact⟨_,rfl,rfl⟩) |(rw [iQ (by assumption),uP (by assumption)];exact⟨_,rfl,rfl⟩) |(rw [iQ (by assumption),tH (by assumption) (by assumption)];exact⟨_,rfl,rfl⟩) |(rw [iQ (by assumption),tF (by assumption) (by assumption)];exact⟨_,rfl,rfl⟩) |(rw [iQ (by assumption)];exact⟨_,rfl,rfl⟩)
 refine Y.skip (Y.g (Y.seq (Y.region (Y.mv rfl .g4 (Y.mv rfl (.s16 .g5) ?_)))))
 refine Y.h (WS.r .z) ?_
 rintro⟨-,ah, -, -⟩
 have aa:(List.take (Int.toNat n) (mY xs b)).length=Int.toNat n:=by rw [List.length_take];omega
 refine Y.eq .z (congrArg (Value.int .i64) (show n=(((List.take (Int.toNat n) (mY xs b)).length:Nat):Int) by rw [aa];try omega)) ?_
 refine Y.ad (c:=aH bK (List.take (Int.toNat n) (mY xs b)) [.slice ab ((List.take (Int.toNat n) (mY xs b)).length) ac]) (.c .z .n) (pG (by omega)) ?_
 refine Y.ql rfl (jJ (b:=(List.take (Int.toNat n) (mY xs b)).length) rfl eF jO (.t .g1) (.t .z) (by omega)) ?_
 refine Y.ql rfl (aW (cs:= [.int .i64 0,.slice ab ((List.take (Int.toNat n) (mY xs b)).length) ac]) rfl aAe (pv1 (.t .z)) rfl) ?_
 refine Y.es (aE rfl) rfl (esW rfl (.t (.s16 .g5)) (.t .z) .g1 nP rfl rfl) ?_
 refine Y.nt (Y.ret ?_)
 refine Y.i (cU rfl (.s16 .g5) aBb .z nP) (.c .g1 .n) ?_
 first |(rw [wI (by assumption)];exact⟨_,rfl,rfl⟩) |(rw [iQ (by assumption),uP (by assumption)];exact⟨_,rfl,rfl⟩) |(rw [iQ (by assumption),tH (by assumption) (by assumption)];exact⟨_,rfl,rfl⟩) |(rw [iQ (by assumption),tF (by assumption) (by assumption)];exact⟨_,rfl,rfl⟩) |(rw [iQ (by assumption)];exact⟨_,rfl,rfl⟩)

end Go.Proofs.YtmejbfmhaoilmaaGreatDoor

/- What is proved: contracts of functions, one a function. No condition. -/
import Derived.Test.YtmejbfmhaoilmaaGreatBase1
import Derived.Test.YtmejbfmhaoilmaaGreatW10
import Derived.Test.YtmejbfmhaoilmaaGreatSortL
namespace Go.Proofs.YtmejbfmhaoilmaaGreat
open Go Go.RowKit
set_option linter.unusedVariables false
set_option linter.unusedSimpArgs false
set_option maxHeartbeats 1000000
set_option maxRecDepth 20000
theorem aNd {w0:World}{S0:Bs}{xs:(List aF)}{v0:Value} (h0:aW.ro w0 (FF w0 S0) xs [v0]) (hb:bJ xs=0):
    Calls Tryz.prog 99 #[v0] w0 (aI w0 S0 (fun r l=>∃v:Value,r= .tuple #[v,.bool (decide (eW xs).Nodup)]∧l= [aG aY (cB (oK xs) 20) [v]])):=by
 obtain⟨A0,c0,rfl,aj,ak,al,am⟩:=aD h0
 refine Y.enter (N:=29) Tryz.func99 rfl rfl (by simp) [(0,.slice A0 xs.length c0)] (by simp) (l0:= []) trivial ?_
 refine Y.seq (Y.region (Y.ql rfl (aA rfl .c) (Y.ql rfl (aA rfl .c) (Y.nt (Y.seq (Y.region ?_))))))
 refine Y.el rfl (dW rfl dN (inz fI)) ?_
 rintro _ _ ⟨g2,rfl,rfl⟩
 refine Y.as rfl .z (Y.nt (Y.seq (Y.region (Y.ql rfl (aA rfl .c) (Y.nt (Y.seq ?_))))))
 refine Y.seq (Y.region (Y.ql rfl (aA rfl .c) (Y.nt (Y.block ?_))))
 refine Y.add (c:=aG aY ([]:(List Int)) [.slice (some ⟨g2,0,none⟩) 0 0]) (fun w S=>aK w S _) ?_
 refine Y.ah (γ:=Nat×(Option Addr)×Nat) (fun⟨k,aa,ab⟩=> [(6,.int .i64 (k:Int)),(5,.bool (decide (sR xs k))),(4,.slice aa (cB (oK xs) k).length ab),(3,.bool false),(2,.slice none 0 0),(0,.slice A0 xs.length c0)]) (fun⟨k,aa,ab⟩=> [aG aY (cB (oK xs) k) [.slice aa (cB (oK xs) k).length ab],bZ g2 2 1 0 []]) (fun⟨k,aa,ab⟩=>k≤20) (fun⟨k,aa,ab⟩=>20 - k) (0,(some ⟨g2,0,none⟩),0) (Nat.zero_le _) (.c .z (.e .g1 (congrArg Value.bool (decide_eq_true (fun j hj=>absurd hj (Nat.not_lt_zero j))).symm) (.c .g2 (.c .g4 (.c .g5 (.c .g6 .n)))))) (fun _ h=>h.sel (.c .z (.c .z .n))) ?_
 rintro⟨k,aa,ab⟩ hk
 have hpl:=lX (p:=(oK xs)) (k:=k)
 refine Y.seq (Y.seq (Y.region (Y.mv rfl .z (Y.ql rfl (cU rfl (.t .z) .c) (Y.nt ?_)))))
 refine Y.u (.t .z) (fun b4=> ?_) (fun b4=> ?_)
 refine Y.skip (Y.g (Y.seq (Y.block (Y.seq (Y.region (Y.mv rfl .g7 (Y.mv rfl .g3 ?_)))))))
 refine Y.cl rfl rfl Tryz.func134 rfl rfl (aR (.t .g1) (.t .z)) .n (fun _ _ hs tr=>aHh (tr.ctx h0) _ (by assumption)) ?_
 rintro _ _ ⟨rfl,rfl⟩
 refine Y.r .n ?_
 refine Y.as rfl .z (Y.nt (Y.seq (Y.seq (Y.region (Y.mv rfl .z (Y.ql rfl (gA rfl (.t .z) .c) (Y.nil ?_)))))))
 refine Y.g ?_
 refine Y.u (.t .z) (fun b5=> ?_) (fun b5=> ?_)
 refine Y.region (Y.mv rfl .g10 (Y.mv rfl .g9 ?_))
 refine Y.el rfl (aO (cs:= [.int .i64 (k:Int)]) rfl dN (inz fI) (by decide) (pv1 (.t .z)) rfl rfl (by decide) rfl rfl) ?_
 rintro _ _ ⟨g6,rfl,rfl⟩
 refine Y.add (c:=aG (gV .i64) (k:Int) [.int .i64 (k:Int)]) (fun _ _=>⟨rfl,trivial⟩) ?_
 refine Y.el rfl (dC rfl dN fI rfl (.t .g2) (.t .z) (.c .g2 (.c .g1 (.c .z .n))) (by first | omega |(simp only [List.length_append,List.length_take,List.length_nil,List.length_cons];omega)) (by first | omega |(simp only [List.length_append,List.length_take,List.length_nil,List.length_cons];omega))) ?_
 rintro _ _ rfl
 refine Y.af .z (nC (by first | exact decide_eq_true (by first | assumption | omega |(constructor <;> first | assumption |(rw [←iL];assumption;done) |(exact fun hm=>absurd (fQ.2 hm) (by assumption)))) | exact decide_eq_false (by first | assumption | omega |(rintro⟨h1,h2⟩;first | contradiction |(exact absurd h2 (by assumption)) |(have:=iL.2 h1;contradiction) |(exact absurd (fQ.1 (by assumption)) h1))))) ?_
 refine Y.i (WS.a .z) ?_
 rintro⟨ae,af,rfl,ag,ah,ai⟩
 refine Y.er .g14 (Y.as rfl .z (Y.nt (Y.region (Y.mv rfl .g14 (Y.mv rfl .z ?_)))))
 refine Y.ak .z (fun g9=> ?_) (fun g9=> ?_)
 refine Y.qg rfl rfl .z rfl rfl rfl (aS rfl (.t .g9)) ?_
 refine Y.qg rfl rfl .g1 rfl rfl rfl (aAu rfl (.t .z) .c) ?_
 refine Y.ql rfl (bB rfl (.t .g2) (.t .z)) (Y.er (.s16 .g3) (Y.as rfl .z (Y.nil (Y.y (Y.g (Y.region (Y.mv rfl (.s16 .g3) ?_)))))))
 refine Y.ql rfl (bG (c:=((k+1:Nat):Int)) rfl (.t .z) .c (wr (by omega) (by omega) (by omega))) ?_
 refine Y.er (.s16 .g5) (Y.as rfl .z (Y.nil ?_))
 refine Y.ae ((k+1),ae,af) (by omega) (by first | omega |(dsimp only;omega)) (.c .z (.e .g3 (congrArg Value.bool (by first |(exact decide_eq_decide.2 ⟨fun h=>jU.2 ⟨by assumption,by omega⟩,fun h=>by have:=(jU.1 h).2;omega⟩) |(exact(decide_eq_false (fun h=>absurd (jU.1 h).1 (by assumption))).symm))) (.c .g9 (.c (.s16 .g6) (.c (.s16 .g7) (.c (.s16 .g8) .n)))))) (fun _ h=>h.sel (.c .z (.c .z .n)))
 refine Y.h rfl rfl .z rfl rfl (by decide) rfl ?_
 refine Y.h rfl rfl .g1 rfl rfl (by decide) rfl ?_
 refine Y.ql rfl (aV rfl (.t .g2) .c) (Y.er (.s16 .g3) (Y.as rfl .z (Y.nil (Y.y (Y.g (Y.region (Y.mv rfl (.s16 .g3) ?_)))))))
 refine Y.ql rfl (bG (c:=((k+1:Nat):Int)) rfl (.t .z) .c (wr (by omega) (by omega) (by omega))) ?_
 refine Y.er (.s16 .g5) (Y.as rfl .z (Y.nil ?_))
 refine Y.ae ((k+1),ae,af) (by omega) (by first | omega |(dsimp only;omega)) (.c .z (.e .g3 (congrArg Value.bool (by first |(exact decide_eq_decide.2 ⟨fun h=>jU.2 ⟨by assumption,by omega⟩,fun h=>by have:=(jU.1 h).2;omega⟩) |(exact(decide_eq_false (fun h=>absurd (jU.1 h).1 (by assumption))).symm))) (.c .g9 (.c (.s16 .g6) (.c (.s16 .g7) (.c (.s16 .g8) .n)))))) (fun _ h=>h.sel (.c .z (.c .z .n)))
 refine Y.skip (Y.g (Y.region (Y.mv rfl .g9 (Y.mv rfl .z ?_))))
 refine Y.ak .z (fun g10=> ?_) (fun g10=> ?_)
 refine Y.qg rfl rfl .z rfl rfl rfl (aS rfl (.t .g4)) ?_
 refine Y.qg rfl rfl .g1 rfl rfl rfl (aAu rfl (.t .z) .c) ?_
 refine Y.ql rfl (bB rfl (.t .g2) (.t .z)) (Y.er .g14 (Y.as rfl .z (Y.nil (Y.y (Y.g (Y.region (Y.mv rfl .g14 ?_)))))))
 refine Y.ql rfl (bG (c:=((k+1:Nat):Int)) rfl (.t .z) .c (wr (by omega) (by omega) (by omega))) ?_
 refine Y.er .g16 (Y.as rfl .z (Y.nil ?_))
 have ac:cB (oK xs) k=cB (oK xs) (k+1):=(iP (by first | exact decide_eq_true (by first | assumption | omega |(constructor <;> first | assumption |(rw [←iL];assumption;done) |(exact fun hm=>absurd (fQ.2 hm) (by assumption)))) | exact decide_eq_false (by first | assumption | omega |(rintro⟨h1,h2⟩;first | contradiction |(exact absurd h2 (by assumption)) |(have:=iL.2 h1;contradiction) |(exact absurd (fQ.1 (by assumption)) h1)))))
 refine Y.eq (.s16 .g1) (congrArg (fun z_=>(.slice aa (z_).length ab:Value)) ac) ?_
 refine Y.aj .z (congrArg (fun z_=>(aG aY (z_) [.slice aa (z_).length ab]:Asn)) ac) ?_
 refine Y.ae ((k+1),aa,ab) (by omega) (by first | omega |(dsimp only;omega)) (.c .g1 (.e .g4 (congrArg Value.bool (by first |(exact decide_eq_decide.2 ⟨fun h=>jU.2 ⟨by assumption,by omega⟩,fun h=>by have:=(jU.1 h).2;omega⟩) |(exact(decide_eq_false (fun h=>absurd (jU.1 h).1 (by assumption))).symm))) (.c .z (.c (.s16 .g2) (.c (.s16 .g3) (.c (.s16 .g4) .n)))))) (fun _ h=>h.sel (.c .z (.c .z .n)))
 refine Y.h rfl rfl .z rfl rfl (by decide) rfl ?_
 refine Y.h rfl rfl .g1 rfl rfl (by decide) rfl ?_
 refine Y.ql rfl (aV rfl (.t .g2) .c) (Y.er .g14 (Y.as rfl .z (Y.nil (Y.y (Y.g (Y.region (Y.mv rfl .g14 ?_)))))))
 refine Y.ql rfl (bG (c:=((k+1:Nat):Int)) rfl (.t .z) .c (wr (by omega) (by omega) (by omega))) ?_
 refine Y.er .g16 (Y.as rfl .z (Y.nil ?_))
 have ad:cB (oK xs) k=cB (oK xs) (k+1):=(iP (by first | exact decide_eq_true (by first | assumption | omega |(constructor <;> first | assumption |(rw [←iL];assumption;done) |(exact fun hm=>absurd (fQ.2 hm) (by assumption)))) | exact decide_eq_false (by first | assumption | omega |(rintro⟨h1,h2⟩;first | contradiction |(exact absurd h2 (by assumption)) |(have:=iL.2 h1;contradiction) |(exact absurd (fQ.1 (by assumption)) h1)))))
 refine Y.eq (.s16 .g1) (congrArg (fun z_=>(.slice aa (z_).length ab:Value)) ad) ?_
 refine Y.aj .z (congrArg (fun z_=>(aG aY (z_) [.slice aa (z_).length ab]:Asn)) ad) ?_
 refine Y.ae ((k+1),aa,ab) (by omega) (by first | omega |(dsimp only;omega)) (.c .g1 (.e .g4 (congrArg Value.bool (by first |(exact decide_eq_decide.2 ⟨fun h=>jU.2 ⟨by assumption,by omega⟩,fun h=>by have:=(jU.1 h).2;omega⟩) |(exact(decide_eq_false (fun h=>absurd (jU.1 h).1 (by assumption))).symm))) (.c .z (.c (.s16 .g2) (.c (.s16 .g3) (.c (.s16 .g4) .n)))))) (fun _ h=>h.sel (.c .z (.c .z .n)))
 refine Y.exit (Y.w (Y.w (Y.ag (Y.g (Y.seq (Y.region (Y.mv rfl .g4 (Y.mv rfl .g4 ?_))))))))
 refine Y.er .g8 (Y.as rfl .g1 (Y.er .g8 (Y.as rfl .g1 (Y.nt (Y.ret ?_)))))
 refine Y.j (oE rfl .g1 .z) (.c .z .n) ?_
 exact⟨_,by rw [show k=20 by omega];exact congrArg (fun b=>Value.tuple #[_,.bool b]) (decide_eq_decide.2 (aEl hb)),by rw [show k=20 by omega]⟩

theorem aLc {w0:World}{S0:Bs}{xs:(List aF)}{v0:Value} (h0:aW.ro w0 (FF w0 S0) xs [v0]) (hb:bJ xs=0):
    Calls Tryz.prog 97 #[v0] w0 (aI w0 S0 (fun r l=>∃v:Value,r= .tuple #[v,.bool (decide (eW xs).Nodup)]∧l= [aG aY (jQ (eW xs)) [v]])):=by
 obtain⟨A0,c0,rfl,be,bf,bg,ba⟩:=aD h0
 refine Y.enter (N:=28) Tryz.func97 rfl rfl (by simp) [(0,.slice A0 xs.length c0)] (by simp) (l0:= []) trivial ?_
 refine Y.seq (Y.region (Y.ql rfl (aA rfl .c) (Y.ql rfl (aA rfl .c) (Y.nt (Y.seq (Y.region (Y.ql rfl (aA rfl .c) ?_)))))))
 refine Y.nt (Y.seq (Y.seq (Y.region (Y.mv rfl .g3 (Y.ql rfl (bE rfl cI (.t .z)) (Y.ql rfl (aS rfl .c) (Y.nil ?_)))))))
 refine Y.g (Y.block ?_)
 refine Y.add (c:=aG aY [] [.slice none 0 0]) (fun w S=>aK w S none) ?_
 refine Y.ah (γ:=Nat×(Option Addr)×Nat) (fun⟨k,aa,ab⟩=> [(9,.int .i64 (k:Int)),(8,.int .i64 (xs.length:Int)),(7,.slice A0 xs.length c0),(4,.slice aa (eW (List.take k xs)).length ab),(3,.bool false),(2,.slice none 0 0)]) (fun⟨k,aa,ab⟩=> [aG aY (eW (List.take k xs)) [.slice aa (eW (List.take k xs)).length ab]]) (fun⟨k,aa,ab⟩=>k≤xs.length) (fun⟨k,aa,ab⟩=>xs.length - k) (0,none,0) (Nat.zero_le _) (.c .z (.c .g1 (.c .g2 (.c .g3 (.c .g4 (.c .g5 .n)))))) (fun _ h=>h.sel (.c .z .n)) ?_
 rintro⟨k,aa,ab⟩ hk
 have hu:=pB hb k
 refine Y.seq (Y.region (Y.ql rfl (cU rfl (.t .z) (.t .g1)) (Y.nt (Y.seq ?_))))
 refine Y.u (.t .z) (fun b3=> ?_) (fun b3=> ?_)
 refine Y.skip (Y.g (Y.seq (Y.block (Y.seq (Y.region ?_)))))
 obtain⟨bh,af,ag⟩:=ba (by omega)
 subst af
 obtain⟨x5,ax⟩:=aJ (xs:=xs) (j:=k) (by omega)
 obtain⟨bb,ai,aj,ak⟩:=ag.elem ax
 obtain⟨ay,az,rfl,ac,ah⟩:=bV ai
 obtain⟨a0,a1,rfl,al,am,an,ao⟩:=aD ac
 obtain⟨a2,a3,rfl,ap,aq,ar,au⟩:=aD ah
 refine Y.ql rfl (aB (j:=k) rfl cI aU (.t .g3) (.t .g1) rfl (by omega)) ?_
 refine Y.ql rfl (qE rfl fA (.t .z) aj ak aU) ?_
 refine Y.el rfl (bD rfl qH rfl rfl) ?_
 rintro _ _ ⟨g9,rfl,rfl⟩
 refine Y.es (aE rfl) rfl (esW rfl (.t .z) (.t .g1) .z aU rfl rfl) ?_
 refine Y.nt (Y.region (Y.mv rfl .g7 (Y.fa rfl .g1 cS (Y.ld rfl eP .z .z ?_))))
 refine Y.el rfl (dU (bI _ _ _) rfl dN fI rfl (.t .g2) (.t .z) (.c .g1 .n) (fun w1 S1 tr=>tr.ctx ac) (by first | omega |(rw [nS (by assumption)];have:=pB hb (k+1);omega) |(have:=pB hb (k+1);rw [←nS (by assumption),List.length_append] at this;omega)) (by first | omega |(rw [nS (by assumption)];have:=pB hb (k+1);omega) |(have:=pB hb (k+1);rw [←nS (by assumption),List.length_append] at this;omega))) ?_
 rintro _ _ rfl
 refine Y.af .z (nS ax) ?_
 refine Y.i (WS.a .z) ?_
 rintro⟨av,aw,rfl,a4,a5,a6⟩
 refine Y.er .g11 (Y.as rfl .z (Y.nil (Y.y (Y.g (Y.region ?_)))))
 refine Y.ql rfl (bG (c:=((k+1:Nat):Int)) rfl (.t .g9) .c (wr (by omega) (by omega) (by omega))) ?_
 refine Y.er .g10 (Y.mv rfl .z (Y.nil ?_))
 refine Y.ae ((k+1),av,aw) (by omega) (by first | omega |(dsimp only;omega)) (.c .z (.c .g11 (.c .g12 (.c .g2 (.c .g13 (.c .g14 .n)))))) (fun _ h=>h.sel (.c .z .n))
 refine Y.exit (Y.w (Y.w (Y.ag (Y.g (Y.seq (Y.region (Y.mv rfl .g4 ?_)))))))
 have ad:eW (List.take k xs)=eW xs:=(congrArg eW (List.take_of_length_le (by omega)))
 refine Y.eq .z (congrArg (fun z_=>(.slice aa (z_).length ab:Value)) ad) ?_
 refine Y.eq .g5 (congrArg (fun z_=>(.slice aa (z_).length ab:Value)) ad) ?_
 refine Y.aj .z (congrArg (fun z_=>(aG aY (z_) [.slice aa (z_).length ab]:Asn)) ad) ?_
 refine Y.cl rfl rfl Tryz.func138 rfl rfl (bH (.t .g1)) (.c .z .n) (fun _ _ hs tr=>aKy hs) ?_
 rintro _ _ ⟨rfl,rfl⟩
 refine Y.r (.c .n) ?_
 have ae:(eW xs).length=(jQ (eW xs)).length:=(yV _).symm
 refine Y.eq .g1 (congrArg (fun z_=>(.slice aa z_ ab:Value)) ae) ?_
 refine Y.eq .g2 (congrArg (fun z_=>(.slice aa z_ ab:Value)) ae) ?_
 refine Y.aj .z (congrArg (fun z_=>(aG aY (jQ (eW xs)) [.slice aa z_ ab]:Asn)) ae) ?_
 refine Y.nt (Y.seq (Y.region (Y.mv rfl .g1 (Y.mv rfl .g2 ?_))))
 refine Y.cl rfl rfl Tryz.func110 rfl rfl (bH (.t .z)) .n (fun _ _ hs tr=>aI2 (tr.own .z)) ?_
 rintro _ _ rfl
 refine Y.r (.c .n) ?_
 refine Y.i (WS.a .z) ?_
 rintro⟨bc,bd,rfl,a7,a8,a9⟩
 refine Y.cl rfl rfl Tryz.func139 rfl rfl (bH (.t .z)) (.c .z .n) (fun _ _ hs tr=>aKq hs) ?_
 rintro _ _ ⟨bi,rfl,rfl⟩
 refine Y.r .n ?_
 refine Y.ql rfl (bE rfl dN (.t .z)) (Y.mv rfl .g6 (Y.ql rfl (bE rfl dN (.t .z)) (Y.ql rfl (bP rfl (.t .g2) (.t .z)) (Y.er .g16 (Y.as rfl .g7 (Y.er .g16 (Y.as rfl .g1 (Y.nil ?_))))))))
 refine Y.g (Y.ret ?_)
 refine Y.j (oE rfl .g1 .z) (.c .z .n) ?_
 exact⟨_,congrArg (fun b=>Value.tuple #[_,.bool b]) (by rw [decide_eq_decide,←aAo];omega),rfl⟩

theorem aIy {w0:World}{S0:Bs}{xs:(List Int)}{v0:Value} (h0:aY.ro w0 (FF w0 S0) xs [v0]):
    Calls Tryz.prog 114 #[v0] w0 (aI w0 S0 (fun r l=>r= .int .i64 (gN xs)∧l= [])):=by
 obtain⟨A0,c0,rfl,ai,aj,ak,ag⟩:=aD h0
 refine Y.enter (N:=19) Tryz.func114 rfl rfl (by simp) [(0,.slice A0 xs.length c0)] (by simp) (l0:= []) trivial ?_
 refine Y.seq (Y.region (Y.ql rfl (aA rfl .c) (Y.nt (Y.seq (Y.seq (Y.region (Y.mv rfl .g1 ?_)))))))
 refine Y.ql rfl (bE rfl dN (.t .z)) (Y.ql rfl (gA rfl (.t .z) .c) (Y.nt ?_))
 refine Y.u (.t .z) (fun b2=> ?_) (fun b2=> ?_)
 refine Y.seq (Y.region (Y.er .g3 (Y.ql rfl (aA rfl .c) (Y.nt (Y.ret (Y.m ?_))))))
 refine Y.j (aT rfl .z) .n ?_
 exact⟨by first |(rw [kK (by assumption)];done) |(rw [kJ (by assumption) (by assumption)];done) |(rw [hY (by assumption) (nQ (fun j b hj hb=>hallk j b (by omega) hb))];done) |(rw [hY (by assumption) (by assumption)];done),rfl⟩
 refine Y.skip (Y.g (Y.seq (Y.seq (Y.region (Y.ql rfl (aA rfl .c) (Y.nt (Y.block ?_)))))))
 refine Y.ah (γ:=Nat) (fun k=> [(3,.int .i64 (k:Int)),(0,.slice A0 xs.length c0)]) (fun k=> []) (fun k=>k≤xs.length∧∀j b,j<k→xs[j]? =some b→0≤b∧b≤19) (fun k=>xs.length - k) 0 ⟨Nat.zero_le _,eR (q:=fun _ b=>(0:Int)≤b∧b≤19)⟩ (.c .z (.c .g5 .n)) (fun _ h=>h) ?_
 rintro k ⟨hk,hallk⟩
 refine Y.seq (Y.seq (Y.region (Y.mv rfl .z (Y.mv rfl .g2 (Y.ql rfl (bE rfl dN (.t .z)) (Y.ql rfl (cU rfl (.t .g2) (.t .z)) (Y.nt ?_)))))))
 refine Y.u (.t .z) (fun b3=> ?_) (fun b3=> ?_)
 refine Y.skip (Y.g (Y.seq (Y.block (Y.seq (Y.region (Y.mv rfl .g5 (Y.mv rfl .g5 ?_)))))))
 obtain⟨al,aa,ab⟩:=ag (by omega)
 subst aa
 obtain⟨x5,ac⟩:=aJ (xs:=xs) (j:=k) (by omega)
 obtain⟨ah,ad,ae,af⟩:=ab.elem ac
 obtain⟨rfl,am⟩:=ad
 refine Y.ql rfl (aB (j:=k) rfl dN hP (.t .g1) (.t .z) rfl (by omega)) ?_
 refine Y.ql rfl (aN rfl bR (.t .z) (WS.i ae af rfl)) ?_
 refine Y.cl rfl rfl Tryz.func46 rfl rfl (eQ (.t .z) .c .c) .n (fun _ _ hs tr=>xG _ _ _) ?_
 rintro _ _ ⟨rfl,rfl⟩
 refine Y.r .n ?_
 refine Y.ql rfl (eY rfl (.t .z)) (Y.nt ?_)
 refine Y.ad (.t .z) (fun b7=> ?_) (fun b7=> ?_)
 refine Y.seq (Y.region (Y.ql rfl (aA rfl .c) (Y.nt (Y.ret (Y.v (Y.m (Y.m ?_)))))))
 refine Y.v (Y.m ?_)
 refine Y.j (aT rfl .z) .n ?_
 exact⟨by first |(rw [kK (by assumption)];done) |(rw [kJ (by assumption) (aDt ac (by assumption))];done) |(rw [hY (by assumption) (nQ (fun j b hj hb=>hallk j b (by omega) hb))];done) |(rw [hY (by assumption) (by assumption)];done),rfl⟩
 refine Y.skip (Y.y (Y.g (Y.region (Y.mv rfl .g10 ?_))))
 refine Y.ql rfl (bG (c:=((k+1:Nat):Int)) rfl (.t .z) .c (wr (by omega) (by omega) (by omega))) ?_
 refine Y.er .g12 (Y.as rfl .z (Y.nil ?_))
 refine Y.ae (k+1) ⟨by omega,dY (q:=fun _ b=>(0:Int)≤b∧b≤19) hallk ac b7⟩ (by first | omega |(dsimp only;omega)) (.c .z (.c .g13 .n)) (fun _ h=>h)
 refine Y.exit (Y.w (Y.w (Y.ag (Y.g (Y.seq (Y.region (Y.ql rfl (aA rfl .c) (Y.nil ?_))))))))
 refine Y.g (Y.ret ?_)
 refine Y.j (aT rfl .z) .n ?_
 exact⟨by first |(rw [kK (by assumption)];done) |(rw [kJ (by assumption) (by assumption)];done) |(rw [hY (by assumption) (nQ (fun j b hj hb=>hallk j b (by omega) hb))];done) |(rw [hY (by assumption) (by assumption)];done),rfl⟩

theorem aL7 {w0:World}{S0:Bs}{xs:(List aF)}{v0:Value} (h0:aW.ro w0 (FF w0 S0) xs [v0]) {b:(List Int)}{v1:Value} (h1:aY.ro w0 (FF w0 S0) b [v1]):
    Calls Tryz.prog 146 #[v0,v1] w0 (aI w0 S0 (fun r l=>r= .int .i64 (jD xs b)∧l= [])):=by
 obtain⟨A0,c0,rfl,aa,ab,ac,ad⟩:=aD h0
 obtain⟨A1,c1,rfl,ae,af,ag,ah⟩:=aD h1
 refine Y.enter (N:=13) Tryz.func146 rfl rfl (by simp) [(0,.slice A0 xs.length c0),(1,.slice A1 b.length c1)] (by simp) (l0:= []) trivial ?_
 refine Y.seq (Y.region (Y.ql rfl (aA rfl .c) (Y.nt (Y.seq (Y.seq (Y.region (Y.mv rfl .g1 ?_)))))))
 refine Y.cl rfl rfl Tryz.func98 rfl rfl (bH (.t .z)) .n (fun _ _ hs tr=>aMk (tr.ctx h0)) ?_
 rintro _ _ ⟨rfl,rfl⟩
 refine Y.r .n ?_
 refine Y.as rfl .z (Y.nt (Y.seq (Y.region (Y.mv rfl .z (Y.ql rfl (cC rfl (.t .z) .c) (Y.nt ?_))))))
 refine Y.ad (.t .z) (fun b3=> ?_) (fun b3=> ?_)
 refine Y.seq (Y.region (Y.mv rfl .g2 (Y.er .g6 (Y.as rfl .z (Y.nt (Y.ret (Y.m ?_)))))))
 refine Y.j (aT rfl .z) .n ?_
 exact⟨by unfold jD;first |(rw [if_neg (by assumption)];done) |(rw [if_pos (by omega)];done),rfl⟩
 refine Y.skip (Y.g (Y.seq (Y.region (Y.mv rfl .g7 ?_))))
 refine Y.cl rfl rfl Tryz.func114 rfl rfl (bH (.t .z)) .n (fun _ _ hs tr=>aIy (tr.ctx h1)) ?_
 rintro _ _ ⟨rfl,rfl⟩
 refine Y.r .n ?_
 refine Y.er .g7 (Y.as rfl .z (Y.nt (Y.ret ?_)))
 refine Y.j (aT rfl .z) .n ?_
 exact⟨by unfold jD;first |(rw [if_neg (by assumption)];done) |(rw [if_pos (by omega)];done),rfl⟩

theorem aMc {w0:World}{S0:Bs} (c:Int) {xs:(List Int)}{v1:Value} (h1:aY.ro w0 (FF w0 S0) xs [v1]):
    Calls Tryz.prog 62 #[.int .i64 c,v1] w0 (aI w0 S0 (fun r l=>r= .int .i64 (if c=0 then gN xs else c)∧l= [])):=by
 obtain⟨A1,c1,rfl,aa,ab,ac,ad⟩:=aD h1
 refine Y.enter (N:=16) Tryz.func62 rfl rfl (by simp) [(0,.int .i64 c),(1,.slice A1 xs.length c1)] (by simp) (l0:= []) trivial ?_
 refine Y.seq (Y.region (Y.ql rfl (aA rfl .c) (Y.nt (Y.seq (Y.block (Y.seq (Y.region ?_)))))))
 refine Y.mv rfl .g1 (Y.ql rfl (cC rfl (.t .z) .c) (Y.as rfl .z (Y.nt ?_)))
 refine Y.ad (.t .z) (fun b2=> ?_) (fun b2=> ?_)
 refine Y.seq (Y.region (Y.mv rfl .g4 (Y.er .g4 (Y.as rfl .z (Y.nt (Y.ret (Y.v ?_)))))))
 refine Y.m ?_
 refine Y.j (aT rfl .z) .n ?_
 exact⟨by first |(rw [if_neg (by assumption)];done) |(rw [if_pos (by assumption)];first |(rw [kK (by assumption)];done) |(rw [kJ (by assumption) (by assumption)];done) |(rw [hY (by assumption) (by assumption)];done)),rfl⟩
 refine Y.seq (Y.region (Y.mv rfl .g5 (Y.ql rfl (bE rfl dN (.t .z)) (Y.ql rfl (gA rfl (.t .z) .c) (Y.as rfl .z (Y.nt ?_))))))
 refine Y.u (.t .z) (fun b3=> ?_) (fun b3=> ?_)
 refine Y.seq (Y.region (Y.er .g7 (Y.ql rfl (aA rfl .c) (Y.nt (Y.ret (Y.v (Y.m ?_)))))))
 refine Y.j (aT rfl .z) .n ?_
 exact⟨by first |(rw [if_neg (by assumption)];done) |(rw [if_pos (by assumption)];first |(rw [kK (by assumption)];done) |(rw [kJ (by assumption) (by assumption)];done) |(rw [hY (by assumption) (by assumption)];done)),rfl⟩
 refine Y.seq (Y.region (Y.mv rfl .g9 ?_))
 refine Y.cl rfl rfl Tryz.func108 rfl rfl (aR (.t .z) .f) .n (fun _ _ hs tr=>rE (tr.ctx h1) Tryz.func109 rfl rfl (fun w2 S2 h2 x=>aK1 x)) ?_
 rintro _ _ ⟨rfl,rfl⟩
 refine Y.r .n ?_
 refine Y.as rfl .z (Y.nt ?_)
 refine Y.cond (.t .z) (fun b4=> ?_) (fun b4=> ?_)
 refine Y.seq (Y.region (Y.er .g10 (Y.ql rfl (aA rfl .c) (Y.nt (Y.ret (Y.v (Y.m ?_)))))))
 refine Y.j (aT rfl .z) .n ?_
 exact⟨by first |(rw [if_neg (by assumption)];done) |(rw [if_pos (by assumption)];first |(rw [kK (by assumption)];done) |(rw [kJ (by assumption) (by assumption)];done) |(rw [hY (by assumption) (by assumption)];done)),rfl⟩
 refine Y.skip (Y.y (Y.g (Y.seq (Y.region (Y.er .g10 (Y.ql rfl (aA rfl .c) (Y.nt ?_)))))))
 refine Y.ret ?_
 refine Y.j (aT rfl .z) .n ?_
 exact⟨by first |(rw [if_neg (by assumption)];done) |(rw [if_pos (by assumption)];first |(rw [kK (by assumption)];done) |(rw [kJ (by assumption) (by assumption)];done) |(rw [hY (by assumption) (by assumption)];done)),rfl⟩

theorem aKp {w0:World}{S0:Bs}{xs:(List aF)}{v0:Value} (h0:aW.ro w0 (FF w0 S0) xs [v0]) {b:(List Int)}{v1:Value} (h1:aY.ro w0 (FF w0 S0) b [v1]) (hb:bJ xs=0):
    Calls Tryz.prog 147 #[v0,v1] w0 (aI w0 S0 (fun r l=>l= [aG aY (kA xs b) [r]])):=by
 obtain⟨A0,c0,rfl,aj,ak,al,am⟩:=aD h0
 obtain⟨A1,c1,rfl,an,ao,ap,aq⟩:=aD h1
 refine Y.enter (N:=27) Tryz.func147 rfl rfl (by simp) [(0,.slice A0 xs.length c0),(1,.slice A1 b.length c1)] (by simp) (l0:= []) trivial ?_
 refine Y.seq (Y.region (Y.ql rfl (aA rfl .c) (Y.nt (Y.seq (Y.region ?_)))))
 refine Y.el rfl (dW rfl dN (inz fI)) ?_
 rintro _ _ ⟨g3,rfl,rfl⟩
 refine Y.as rfl .z (Y.nt (Y.seq (Y.seq (Y.region (Y.ql rfl (aA rfl .c) (Y.nt ?_))))))
 refine Y.block ?_
 refine Y.add (c:=aG aY ([]:(List Int)) [.slice (some ⟨g3,0,none⟩) 0 0]) (fun w S=>aK w S _) ?_
 refine Y.ah (γ:=Nat×(Option Addr)×Nat) (fun⟨k,aa,ab⟩=> [(6,.int .i64 (k:Int)),(5,.slice aa (cB (nB xs b) k).length ab),(4,.slice none 0 0),(0,.slice A0 xs.length c0),(1,.slice A1 b.length c1)]) (fun⟨k,aa,ab⟩=> [aG aY (cB (nB xs b) k) [.slice aa (cB (nB xs b) k).length ab],bZ g3 2 1 0 []]) (fun⟨k,aa,ab⟩=>k≤20) (fun⟨k,aa,ab⟩=>20 - k) (0,(some ⟨g3,0,none⟩),0) (Nat.zero_le _) (.c .z (.c .g1 (.c .g3 (.c .g4 (.c .g5 .n))))) (fun _ h=>h.sel (.c .z (.c .z .n))) ?_
 rintro⟨k,aa,ab⟩ hk
 have hpl:=lX (p:=(nB xs b)) (k:=k)
 refine Y.seq (Y.seq (Y.region (Y.mv rfl .z (Y.ql rfl (cU rfl (.t .z) .c) (Y.nt ?_)))))
 refine Y.u (.t .z) (fun b5=> ?_) (fun b5=> ?_)
 refine Y.skip (Y.g (Y.seq (Y.block (Y.seq (Y.region (Y.mv rfl .g5 (Y.mv rfl .g3 ?_)))))))
 refine Y.cl rfl rfl Tryz.func134 rfl rfl (aR (.t .g1) (.t .z)) .n (fun _ _ hs tr=>aHh (tr.ctx h0) _ (by assumption)) ?_
 rintro _ _ ⟨rfl,rfl⟩
 refine Y.r .n ?_
 refine Y.ql rfl (bP rfl (.t .z) .c) (Y.mv rfl .z ?_)
 refine Y.ak .z (fun g6=> ?_) (fun g6=> ?_)
 refine Y.qg rfl rfl .z rfl rfl rfl (aS rfl (.t .g11)) ?_
 refine Y.qg rfl rfl .g1 rfl rfl rfl (aS rfl (.t .g8)) ?_
 refine Y.call (dX rfl rfl .g2) rfl (by decide) rfl (bF rfl Tryz.func143 rfl rfl (aR (.t .g1) (.t .z))) .n (fun _ _ hs tr=>aD1 (tr.ctx h1) _) ?_
 rintro _ _ ⟨rfl,rfl⟩
 refine Y.r .n ?_
 refine Y.qg rfl rfl .g3 rfl rfl rfl (eY rfl (.t .z)) ?_
 refine Y.ql rfl (bB rfl (.t .g4) (.t .z)) (Y.nt ?_)
 refine Y.ad (.t .z) (fun b7=> ?_) (fun b7=> ?_)
 refine Y.region (Y.mv rfl .g13 (Y.mv rfl .g13 ?_))
 refine Y.el rfl (aO (cs:= [.int .i64 (k:Int)]) rfl dN (inz fI) (by decide) (pv1 (.t .z)) rfl rfl (by decide) rfl rfl) ?_
 rintro _ _ ⟨g8,rfl,rfl⟩
 refine Y.add (c:=aG (gV .i64) (k:Int) [.int .i64 (k:Int)]) (fun _ _=>⟨rfl,trivial⟩) ?_
 refine Y.el rfl (dC rfl dN fI rfl (.t .g2) (.t .z) (.c .g2 (.c .g1 (.c .z .n))) (by first | omega |(simp only [List.length_append,List.length_take,List.length_nil,List.length_cons];omega)) (by first | omega |(simp only [List.length_append,List.length_take,List.length_nil,List.length_cons];omega))) ?_
 rintro _ _ rfl
 refine Y.af .z (nC (by first | exact decide_eq_true (by first | assumption | omega |(constructor <;> first | assumption |(rw [←iL];assumption;done) |(exact fun hm=>absurd (fQ.2 hm) (by assumption)))) | exact decide_eq_false (by first | assumption | omega |(rintro⟨h1,h2⟩;first | contradiction |(exact absurd h2 (by assumption)) |(have:=iL.2 h1;contradiction) |(exact absurd (fQ.1 (by assumption)) h1))))) ?_
 refine Y.i (WS.a .z) ?_
 rintro⟨ae,af,rfl,ag,ah,ai⟩
 refine Y.er (.s16 .g1) (Y.as rfl .z (Y.nil (Y.y (Y.g (Y.region (Y.mv rfl (.s16 .g1) ?_))))))
 refine Y.ql rfl (bG (c:=((k+1:Nat):Int)) rfl (.t .z) .c (wr (by omega) (by omega) (by omega))) ?_
 refine Y.er (.s16 .g3) (Y.as rfl .z (Y.nil ?_))
 refine Y.ae ((k+1),ae,af) (by omega) (by first | omega |(dsimp only;omega)) (.c .z (.c .g3 (.c (.s16 .g4) (.c (.s16 .g5) (.c (.s16 .g6) .n))))) (fun _ h=>h.sel (.c .z (.c .z .n)))
 refine Y.skip (Y.y (Y.g (Y.region (Y.mv rfl .g12 ?_))))
 refine Y.ql rfl (bG (c:=((k+1:Nat):Int)) rfl (.t .z) .c (wr (by omega) (by omega) (by omega))) ?_
 refine Y.er .g14 (Y.as rfl .z (Y.nil ?_))
 have ac:cB (nB xs b) k=cB (nB xs b) (k+1):=(iP (by first | exact decide_eq_true (by first | assumption | omega |(constructor <;> first | assumption |(rw [←iL];assumption;done) |(exact fun hm=>absurd (fQ.2 hm) (by assumption)))) | exact decide_eq_false (by first | assumption | omega |(rintro⟨h1,h2⟩;first | contradiction |(exact absurd h2 (by assumption)) |(have:=iL.2 h1;contradiction) |(exact absurd (fQ.1 (by assumption)) h1)))))
 refine Y.eq .g15 (congrArg (fun z_=>(.slice aa (z_).length ab:Value)) ac) ?_
 refine Y.aj .z (congrArg (fun z_=>(aG aY (z_) [.slice aa (z_).length ab]:Asn)) ac) ?_
 refine Y.ae ((k+1),aa,ab) (by omega) (by first | omega |(dsimp only;omega)) (.c .g1 (.c .z (.c .g16 (.c (.s16 .g1) (.c (.s16 .g2) .n))))) (fun _ h=>h.sel (.c .z (.c .z .n)))
 refine Y.h rfl rfl .z rfl rfl (by decide) rfl ?_
 refine Y.h rfl rfl .g1 rfl rfl (by decide) rfl ?_
 refine Y.h rfl rfl .g2 rfl rfl (by decide) rfl ?_
 refine Y.h rfl rfl .g3 rfl rfl (by decide) rfl ?_
 refine Y.ql rfl (aV rfl (.t .g4) .c) (Y.nt ?_)
 refine Y.an (.t .z) ?_
 refine Y.skip (Y.y (Y.g (Y.region (Y.mv rfl .g12 ?_))))
 refine Y.ql rfl (bG (c:=((k+1:Nat):Int)) rfl (.t .z) .c (wr (by omega) (by omega) (by omega))) ?_
 refine Y.er .g14 (Y.as rfl .z (Y.nil ?_))
 have ad:cB (nB xs b) k=cB (nB xs b) (k+1):=(iP (by first | exact decide_eq_true (by first | assumption | omega |(constructor <;> first | assumption |(rw [←iL];assumption;done) |(exact fun hm=>absurd (fQ.2 hm) (by assumption)))) | exact decide_eq_false (by first | assumption | omega |(rintro⟨h1,h2⟩;first | contradiction |(exact absurd h2 (by assumption)) |(have:=iL.2 h1;contradiction) |(exact absurd (fQ.1 (by assumption)) h1)))))
 refine Y.eq .g15 (congrArg (fun z_=>(.slice aa (z_).length ab:Value)) ad) ?_
 refine Y.aj .z (congrArg (fun z_=>(aG aY (z_) [.slice aa (z_).length ab]:Asn)) ad) ?_
 refine Y.ae ((k+1),aa,ab) (by omega) (by first | omega |(dsimp only;omega)) (.c .g1 (.c .z (.c .g16 (.c (.s16 .g1) (.c (.s16 .g2) .n))))) (fun _ h=>h.sel (.c .z (.c .z .n)))
 refine Y.exit (Y.w (Y.w (Y.ag (Y.g (Y.seq (Y.region (Y.mv rfl .g3 (Y.er .g5 ?_))))))))
 refine Y.as rfl .z (Y.nt (Y.ret ?_))
 refine Y.j (aT rfl .z) (.c .z .n) ?_
 rw [show k=20 by omega];rfl

theorem aKf {w0:World}{S0:Bs}{xs:(List aF)}{v0:Value} (h0:aW.ro w0 (FF w0 S0) xs [v0]) {b:(List Int)}{v1:Value} (h1:aY.ro w0 (FF w0 S0) b [v1]) (hb:bJ xs=0):
    Calls Tryz.prog 148 #[v0,v1] w0 (aI w0 S0 (fun r l=>l= [aG aY (kA xs b) [r]])):=by
 obtain⟨A0,c0,rfl,ao,ap,aq,ar⟩:=aD h0
 obtain⟨A1,c1,rfl,au,av,aw,ax⟩:=aD h1
 refine Y.enter (N:=33) Tryz.func148 rfl rfl (by simp) [(0,.slice A0 xs.length c0),(1,.slice A1 b.length c1)] (by simp) (l0:= []) trivial ?_
 refine Y.seq (Y.region (Y.ql rfl (aA rfl .c) (Y.nt (Y.seq (Y.region (Y.mv rfl .g1 ?_))))))
 refine Y.cl rfl rfl Tryz.func97 rfl rfl (bH (.t .z)) .n (fun _ _ hs tr=>aLc (tr.ctx h0) (by first | assumption |(exact wL (by assumption)))) ?_
 rintro _ _ ⟨v3,rfl,rfl⟩
 refine Y.r (.c .n) ?_
 refine Y.i (WS.a .z) ?_
 rintro⟨ae,af,rfl,al,am,an⟩
 refine Y.mv rfl .z (Y.ql rfl (bL (v:= .slice ae (jQ (eW xs)).length af) rfl (.t .z) rfl) (Y.ql rfl (bL (v:= .bool (decide (eW xs).Nodup)) rfl (.t .g1) rfl) (Y.as rfl .g1 (Y.as rfl .g1 (Y.nt (Y.seq (Y.region ?_)))))))
 refine Y.ql rfl (aA rfl .c) (Y.nt (Y.seq (Y.seq (Y.region (Y.ql rfl (aS rfl .c) (Y.nt ?_))))))
 refine Y.block ?_
 refine Y.add (c:=aG aY [] [.slice none 0 0]) (fun w S=>aK w S none) ?_
 refine Y.ah (γ:=Nat×(Option Addr)×Nat) (fun⟨k,aa,ab⟩=> [(14,.int .i64 (k:Int)),(7,.slice aa (cB (nB xs b) k).length ab),(5,.slice ae (jQ (eW xs)).length af),(4,.slice none 0 0),(1,.slice A1 b.length c1)]) (fun⟨k,aa,ab⟩=> [aG aY (cB (nB xs b) k) [.slice aa (cB (nB xs b) k).length ab],aG aY (jQ (eW xs)) [.slice ae (jQ (eW xs)).length af]]) (fun⟨k,aa,ab⟩=>k≤20) (fun⟨k,aa,ab⟩=>20 - k) (0,none,0) (Nat.zero_le _) (.c .z (.c .g1 (.c .g3 (.c .g9 (.c .g11 .n))))) (fun _ h=>h.sel (.c .z (.c .z .n))) ?_
 rintro⟨k,aa,ab⟩ hk
 have hpl:=lX (p:=(nB xs b)) (k:=k)
 refine Y.seq (Y.region (Y.ql rfl (cU rfl (.t .z) .c) (Y.nt (Y.seq ?_))))
 refine Y.u (.t .z) (fun b7=> ?_) (fun b7=> ?_)
 refine Y.skip (Y.g (Y.seq (Y.block (Y.seq (Y.region (Y.mv rfl .g1 (Y.as rfl .z (Y.nil ?_))))))))
 refine Y.g (Y.seq (Y.region (Y.mv rfl .g5 (Y.mv rfl .g1 ?_))))
 refine Y.cl rfl rfl Tryz.func140 rfl rfl (aR (.t .g1) (.t .z)) .n (fun _ _ hs tr=>uI (tr.own .g1) _) ?_
 rintro _ _ ⟨rfl,rfl⟩
 refine Y.r .n ?_
 refine Y.ql rfl (eY rfl (.t .z)) (Y.mv rfl .z ?_)
 refine Y.ao .z (fun g8=> ?_) (fun g8=> ?_)
 refine Y.qg rfl rfl .z rfl rfl rfl (aS rfl (.t .g12)) ?_
 refine Y.qg rfl rfl .g1 rfl rfl rfl (aS rfl (.t .g6)) ?_
 refine Y.call (dX rfl rfl .g2) rfl (by decide) rfl (bF rfl Tryz.func140 rfl rfl (aR (.t .g1) (.t .z))) .n (fun _ _ hs tr=>uI (tr.ctx h1) _) ?_
 rintro _ _ ⟨rfl,rfl⟩
 refine Y.r .n ?_
 refine Y.qg rfl rfl .g3 rfl rfl rfl (eY rfl (.t .z)) ?_
 refine Y.ql rfl (bB rfl (.t .g4) (.t .z)) (Y.nt ?_)
 refine Y.ad (.t .z) (fun b9=> ?_) (fun b9=> ?_)
 refine Y.region (Y.mv rfl .g14 (Y.mv rfl .g11 ?_))
 refine Y.el rfl (aO (cs:= [.int .i64 (k:Int)]) rfl dN (inz fI) (by decide) (pv1 (.t .z)) rfl rfl (by decide) rfl rfl) ?_
 rintro _ _ ⟨g10,rfl,rfl⟩
 refine Y.add (c:=aG (gV .i64) (k:Int) [.int .i64 (k:Int)]) (fun _ _=>⟨rfl,trivial⟩) ?_
 refine Y.el rfl (dC rfl dN fI rfl (.t .g2) (.t .z) (.c .g2 (.c .g1 (.c .z .n))) (by first | omega |(simp only [List.length_append,List.length_take,List.length_nil,List.length_cons];omega)) (by first | omega |(simp only [List.length_append,List.length_take,List.length_nil,List.length_cons];omega))) ?_
 rintro _ _ rfl
 refine Y.af .z (nC (by first | exact decide_eq_true (by first | assumption | omega |(constructor <;> first | assumption |(rw [←iL];assumption;done) |(exact fun hm=>absurd (fQ.2 hm) (by assumption)))) | exact decide_eq_false (by first | assumption | omega |(rintro⟨h1,h2⟩;first | contradiction |(exact absurd h2 (by assumption)) |(have:=iL.2 h1;contradiction) |(exact absurd (fQ.1 (by assumption)) h1))))) ?_
 refine Y.i (WS.a .z) ?_
 rintro⟨ag,ah,rfl,ai,aj,ak⟩
 refine Y.er (.s16 .g2) (Y.as rfl .z (Y.nil (Y.y (Y.g (Y.region ?_)))))
 refine Y.ql rfl (bG (c:=((k+1:Nat):Int)) rfl (.t (.s16 .g2)) .c (wr (by omega) (by omega) (by omega))) ?_
 refine Y.er (.s16 .g3) (Y.mv rfl .z (Y.nil ?_))
 refine Y.ae ((k+1),ag,ah) (by omega) (by first | omega |(dsimp only;omega)) (.c .z (.c .g2 (.c (.s16 .g4) (.c (.s16 .g5) (.c (.s16 .g6) .n))))) (fun _ h=>h.sel (.c .z (.c .z .n)))
 refine Y.skip (Y.y (Y.g (Y.region ?_)))
 refine Y.ql rfl (bG (c:=((k+1:Nat):Int)) rfl (.t .g13) .c (wr (by omega) (by omega) (by omega))) ?_
 refine Y.er .g14 (Y.mv rfl .z (Y.nil ?_))
 have ac:cB (nB xs b) k=cB (nB xs b) (k+1):=(iP (by first | exact decide_eq_true (by first | assumption | omega |(constructor <;> first | assumption |(rw [←iL];assumption;done) |(exact fun hm=>absurd (fQ.2 hm) (by assumption)))) | exact decide_eq_false (by first | assumption | omega |(rintro⟨h1,h2⟩;first | contradiction |(exact absurd h2 (by assumption)) |(have:=iL.2 h1;contradiction) |(exact absurd (fQ.1 (by assumption)) h1)))))
 refine Y.eq .g15 (congrArg (fun z_=>(.slice aa (z_).length ab:Value)) ac) ?_
 refine Y.aj .z (congrArg (fun z_=>(aG aY (z_) [.slice aa (z_).length ab]:Asn)) ac) ?_
 refine Y.ae ((k+1),aa,ab) (by omega) (by first | omega |(dsimp only;omega)) (.c .g1 (.c .z (.c .g16 (.c (.s16 .g1) (.c (.s16 .g2) .n))))) (fun _ h=>h.sel (.c .z (.c .z .n)))
 refine Y.h rfl rfl .z rfl rfl (by decide) rfl ?_
 refine Y.h rfl rfl .g1 rfl rfl (by decide) rfl ?_
 refine Y.h rfl rfl .g2 rfl rfl (by decide) rfl ?_
 refine Y.h rfl rfl .g3 rfl rfl (by decide) rfl ?_
 refine Y.ql rfl (aV rfl (.t .g4) .c) (Y.nt ?_)
 refine Y.an (.t .z) ?_
 refine Y.skip (Y.y (Y.g (Y.region ?_)))
 refine Y.ql rfl (bG (c:=((k+1:Nat):Int)) rfl (.t .g13) .c (wr (by omega) (by omega) (by omega))) ?_
 refine Y.er .g14 (Y.mv rfl .z (Y.nil ?_))
 have ad:cB (nB xs b) k=cB (nB xs b) (k+1):=(iP (by first | exact decide_eq_true (by first | assumption | omega |(constructor <;> first | assumption |(rw [←iL];assumption;done) |(exact fun hm=>absurd (fQ.2 hm) (by assumption)))) | exact decide_eq_false (by first | assumption | omega |(rintro⟨h1,h2⟩;first | contradiction |(exact absurd h2 (by assumption)) |(have:=iL.2 h1;contradiction) |(exact absurd (fQ.1 (by assumption)) h1)))))
 refine Y.eq .g15 (congrArg (fun z_=>(.slice aa (z_).length ab:Value)) ad) ?_
 refine Y.aj .z (congrArg (fun z_=>(aG aY (z_) [.slice aa (z_).length ab]:Asn)) ad) ?_
 refine Y.ae ((k+1),aa,ab) (by omega) (by first | omega |(dsimp only;omega)) (.c .g1 (.c .z (.c .g16 (.c (.s16 .g1) (.c (.s16 .g2) .n))))) (fun _ h=>h.sel (.c .z (.c .z .n)))
 refine Y.exit (Y.w (Y.w (Y.ag (Y.g (Y.seq (Y.region (Y.mv rfl .g2 (Y.er .g5 ?_))))))))
 refine Y.as rfl .z (Y.nt (Y.ret ?_))
 refine Y.j (aT rfl .z) (.c .z .n) ?_
 rw [show k=20 by omega];rfl

theorem aKo {w0:World}{S0:Bs}{xs:(List aF)}{v0:Value} (h0:aW.ro w0 (FF w0 S0) xs [v0]) {b:(List Int)}{v1:Value} (h1:aY.ro w0 (FF w0 S0) b [v1]) (n:Int) (hb:bJ xs=0):
    Calls Tryz.prog 118 #[v0,v1,.int .i64 n] w0 (aI w0 S0 (fun r l=>∃v:Value,r= .tuple #[v,.int .i64 (hJ xs b n).code]∧l= [aG aY (hJ xs b n).list [v]])):=by
 obtain⟨A0,c0,rfl,ag,ah,ai,aj⟩:=aD h0
 obtain⟨A1,c1,rfl,ak,al,am,an⟩:=aD h1
 refine Y.enter (N:=22) Tryz.func118 rfl rfl (by simp) [(0,.slice A0 xs.length c0),(1,.slice A1 b.length c1),(2,.int .i64 n)] (by simp) (l0:= []) trivial ?_
 refine Y.seq (Y.region (Y.ql rfl (aA rfl .c) (Y.ql rfl (aA rfl .c) (Y.nt (Y.seq (Y.seq (Y.region ?_)))))))
 refine Y.mv rfl .g4 ?_
 refine Y.cl rfl rfl Tryz.func84 rfl rfl (eQ (.t .z) .c .c) .n (fun _ _ hs tr=>wH _ _ _) ?_
 rintro _ _ ⟨rfl,rfl⟩
 refine Y.r .n ?_
 refine Y.ql rfl (eY rfl (.t .z)) (Y.nt ?_)
 refine Y.ad (.t .z) (fun b3=> ?_) (fun b3=> ?_)
 refine Y.seq (Y.region (Y.er .g4 (Y.ql rfl (aA rfl .c) (Y.er .g4 (Y.ql rfl (aA rfl .c) (Y.nt (Y.ret ?_)))))))
 refine Y.m ?_
 refine Y.add (c:=aG aY [] [.slice none 0 0]) (fun w S=>aK w S none) ?_
 refine Y.j (oE rfl .g1 .z) (.c .z .n) ?_
 first |(rw [nZ (by assumption)];exact⟨_,rfl,rfl⟩) |(rw [nY (by assumption) (by assumption)];exact⟨_,rfl,rfl⟩) |(rw [nT (by assumption) (by assumption)];exact⟨_,rfl,rfl⟩)
 refine Y.skip (Y.g (Y.seq (Y.region (Y.mv rfl .g5 (Y.mv rfl .g7 ?_)))))
 refine Y.cl rfl rfl Tryz.func148 rfl rfl (aR (.t .g1) (.t .z)) .n (fun _ _ hs tr=>aKf (tr.ctx h0) (tr.ctx h1) (by first | assumption |(exact wL (by assumption)))) ?_
 rintro _ _ rfl
 refine Y.r (.c .n) ?_
 refine Y.i (WS.a .z) ?_
 rintro⟨ab,ac,rfl,ad,ae,af⟩
 refine Y.as rfl .z (Y.nt (Y.seq (Y.seq (Y.region (Y.mv rfl .z ?_)))))
 refine Y.cl rfl rfl Tryz.func149 rfl rfl (bH (.t .z)) .n (fun _ _ hs tr=>qQ (tr.own .z)) ?_
 rintro _ _ ⟨rfl,rfl⟩
 refine Y.r .n ?_
 refine Y.mv rfl .g13 (Y.ql rfl (cU rfl (.t .g1) (.t .z)) (Y.nt ?_))
 refine Y.u (.t .z) (fun b7=> ?_) (fun b7=> ?_)
 refine Y.seq (Y.region (Y.er .g12 (Y.ql rfl (aA rfl .c) (Y.er .g12 (Y.ql rfl (aA rfl .c) (Y.nt (Y.ret ?_)))))))
 refine Y.m ?_
 refine Y.add (c:=aG aY [] [.slice none 0 0]) (fun w S=>aK w S none) ?_
 refine Y.j (oE rfl .g1 .z) (.c .z .n) ?_
 first |(rw [nZ (by assumption)];exact⟨_,rfl,rfl⟩) |(rw [nY (by assumption) (by assumption)];exact⟨_,rfl,rfl⟩) |(rw [nT (by assumption) (by assumption)];exact⟨_,rfl,rfl⟩)
 refine Y.skip (Y.g (Y.seq (Y.region (Y.mv rfl .g4 (Y.mv rfl .g16 ?_)))))
 refine Y.i (WS.w .z) ?_
 rintro⟨-,ao, -, -⟩
 have aa:(List.take (Int.toNat n) (kA xs b)).length=Int.toNat n:=by rw [List.length_take];omega
 refine Y.eq .z (congrArg (Value.int .i64) (show n=(((List.take (Int.toNat n) (kA xs b)).length:Nat):Int) by rw [aa];try omega)) ?_
 refine Y.ac (c:=aG aY (List.take (Int.toNat n) (kA xs b)) [.slice ab ((List.take (Int.toNat n) (kA xs b)).length) ac]) (.c .z .n) (pJ (by omega)) ?_
 refine Y.ql rfl (lP (b:=(List.take (Int.toNat n) (kA xs b)).length) rfl dN hP (.t .g1) (.t .z) (by omega)) ?_
 refine Y.er .g15 (Y.as rfl .z (Y.er .g15 (Y.ql rfl (aA rfl .c) (Y.nt (Y.ret ?_)))))
 refine Y.j (oE rfl .g1 .z) (.c .z .n) ?_
 first |(rw [nZ (by assumption)];exact⟨_,rfl,rfl⟩) |(rw [nY (by assumption) (by assumption)];exact⟨_,rfl,rfl⟩) |(rw [nT (by assumption) (by assumption)];exact⟨_,rfl,rfl⟩)

theorem aG0 {w0:World}{S0:Bs}{xs:(List aF)}{v0:Value} (h0:aW.ro w0 (FF w0 S0) xs [v0]) {b:(List Int)}{v1:Value} (h1:aY.ro w0 (FF w0 S0) b [v1]) (n:Int):
    Calls Tryz.prog 116 #[v0,v1,.int .i64 n] w0 (aI w0 S0 (aL5 (sE xs b n))):=by
 obtain⟨A0,c0,rfl,ai,aj,ak,al⟩:=aD h0
 obtain⟨A1,c1,rfl,am,an,ao,ap⟩:=aD h1
 refine Y.enter (N:=32) Tryz.func116 rfl rfl (by simp) [(0,.slice A0 xs.length c0),(1,.slice A1 b.length c1),(2,.int .i64 n)] (by simp) (l0:= []) trivial ?_
 refine Y.seq (Y.region ?_)
 refine Y.el rfl (bD rfl aH9 rfl rfl) ?_
 rintro _ _ ⟨g3,rfl,rfl⟩
 refine Y.nt (Y.seq (Y.seq (Y.region (Y.mv rfl .g1 (Y.mv rfl .g3 ?_)))))
 refine Y.cl rfl rfl Tryz.func146 rfl rfl (aR (.t .g1) (.t .z)) .n (fun _ _ hs tr=>aL7 (tr.ctx h0) (tr.ctx h1)) ?_
 rintro _ _ ⟨rfl,rfl⟩
 refine Y.r .n ?_
 refine Y.as rfl .z (Y.nt (Y.seq (Y.region (Y.mv rfl .z (Y.ql rfl (cC rfl (.t .z) .c) (Y.nt ?_))))))
 refine Y.ad (.t .z) (fun b4=> ?_) (fun b4=> ?_)
 refine Y.seq (Y.region (Y.mv rfl .g2 (Y.ql rfl (aZ (cs:= [.int .i64 (jD xs b),.slice none 0 0]) rfl aEh (pv1 (.t .z)) rfl) ?_)))
 refine Y.es (aE rfl) rfl (esW rfl (.t .g8) (.t .z) .z rG rfl rfl) ?_
 refine Y.nt (Y.ret (Y.m ?_))
 refine Y.add (c:=aG aY [] [.slice none 0 0]) (fun w S=>aK w S none) ?_
 refine Y.j (dA rfl .g8 aDe .g1 rG) (.c .z .n) ?_
 first |(rw [vK (by assumption)];exact⟨_,rfl,rfl⟩) |(rw [iS (by assumption),nZ (by assumption)];exact⟨_,rfl,rfl⟩) |(rw [iS (by assumption),nY (by assumption) (by assumption)];exact⟨_,rfl,rfl⟩) |(rw [iS (by assumption),nT (by assumption) (by assumption)];exact⟨_,rfl,rfl⟩) |(rw [iS (by assumption)];exact⟨_,rfl,rfl⟩)
 refine Y.skip (Y.g (Y.seq (Y.seq (Y.region (Y.mv rfl .g9 ?_)))))
 refine Y.cl rfl rfl Tryz.func46 rfl rfl (eQ (.t .z) .c .c) .n (fun _ _ hs tr=>xG _ _ _) ?_
 rintro _ _ ⟨rfl,rfl⟩
 refine Y.r .n ?_
 refine Y.ql rfl (eY rfl (.t .z)) (Y.nt ?_)
 refine Y.ad (.t .z) (fun b6=> ?_) (fun b6=> ?_)
 refine Y.seq (Y.region (Y.ql rfl (aZ (cs:= [.int .i64 3,.slice none 0 0]) rfl aEh (pv1 .c) rfl) ?_))
 refine Y.es (aE rfl) rfl (esW rfl (.t .g10) (.t .z) .z rG rfl rfl) ?_
 refine Y.nt (Y.ret (Y.m ?_))
 refine Y.add (c:=aG aY [] [.slice none 0 0]) (fun w S=>aK w S none) ?_
 refine Y.j (dA rfl .g10 aDe .g1 rG) (.c .z .n) ?_
 first |(rw [vK (by assumption)];exact⟨_,rfl,rfl⟩) |(rw [iS (by assumption),nZ (by assumption)];exact⟨_,rfl,rfl⟩) |(rw [iS (by assumption),nY (by assumption) (by assumption)];exact⟨_,rfl,rfl⟩) |(rw [iS (by assumption),nT (by assumption) (by assumption)];exact⟨_,rfl,rfl⟩) |(rw [iS (by assumption)];exact⟨_,rfl,rfl⟩)
 refine Y.skip (Y.g (Y.seq (Y.region (Y.mv rfl .g10 (Y.mv rfl .g12 ?_)))))
 refine Y.cl rfl rfl Tryz.func147 rfl rfl (aR (.t .g1) (.t .z)) .n (fun _ _ hs tr=>aKp (tr.ctx h0) (tr.ctx h1) (by first | assumption |(exact wL (by assumption)))) ?_
 rintro _ _ rfl
 refine Y.r (.c .n) ?_
 refine Y.i (WS.a .z) ?_
 rintro⟨ab,ac,rfl,ad,ae,af⟩
 refine Y.as rfl .z (Y.nt (Y.seq (Y.seq (Y.region (Y.mv rfl .z (Y.ql rfl (bE rfl dN (.t .z)) (Y.mv rfl (.s16 .g2) ?_)))))))
 refine Y.ql rfl (cU rfl (.t .g1) (.t .z)) (Y.nt ?_)
 refine Y.u (.t .z) (fun ag=> ?_) (fun ag=> ?_)
 refine Y.seq (Y.region (Y.ql rfl (aZ (cs:= [.int .i64 8,.slice none 0 0]) rfl aEh (pv1 .c) rfl) ?_))
 refine Y.es (aE rfl) rfl (esW rfl (.t (.s16 .g2)) (.t .z) .g1 rG rfl rfl) ?_
 refine Y.nt (Y.ret (Y.m ?_))
 refine Y.add (c:=aG aY [] [.slice none 0 0]) (fun w S=>aK w S none) ?_
 refine Y.j (dA rfl (.s16 .g2) aDe .g1 rG) (.c .z .n) ?_
 first |(rw [vK (by assumption)];exact⟨_,rfl,rfl⟩) |(rw [iS (by assumption),nZ (by assumption)];exact⟨_,rfl,rfl⟩) |(rw [iS (by assumption),nY (by assumption) (by assumption)];exact⟨_,rfl,rfl⟩) |(rw [iS (by assumption),nT (by assumption) (by assumption)];exact⟨_,rfl,rfl⟩) |(rw [iS (by assumption)];exact⟨_,rfl,rfl⟩)
 refine Y.skip (Y.g (Y.seq (Y.region (Y.mv rfl .g4 (Y.mv rfl (.s16 .g5) ?_)))))
 refine Y.i (WS.w .z) ?_
 rintro⟨-,ah, -, -⟩
 have aa:(List.take (Int.toNat n) (kA xs b)).length=Int.toNat n:=by rw [List.length_take];omega
 refine Y.eq .z (congrArg (Value.int .i64) (show n=(((List.take (Int.toNat n) (kA xs b)).length:Nat):Int) by rw [aa];try omega)) ?_
 refine Y.ac (c:=aG aY (List.take (Int.toNat n) (kA xs b)) [.slice ab ((List.take (Int.toNat n) (kA xs b)).length) ac]) (.c .z .n) (pJ (by omega)) ?_
 refine Y.ql rfl (lP (b:=(List.take (Int.toNat n) (kA xs b)).length) rfl dN hP (.t .g1) (.t .z) (by omega)) ?_
 refine Y.ql rfl (aZ (cs:= [.int .i64 0,.slice ab ((List.take (Int.toNat n) (kA xs b)).length) ac]) rfl aEh (pv1 (.t .z)) rfl) ?_
 refine Y.es (aE rfl) rfl (esW rfl (.t (.s16 .g5)) (.t .z) .g1 rG rfl rfl) ?_
 refine Y.nt (Y.ret ?_)
 refine Y.j (dA rfl (.s16 .g5) aDe .z rG) (.c .g1 .n) ?_
 first |(rw [vK (by assumption)];exact⟨_,rfl,rfl⟩) |(rw [iS (by assumption),nZ (by assumption)];exact⟨_,rfl,rfl⟩) |(rw [iS (by assumption),nY (by assumption) (by assumption)];exact⟨_,rfl,rfl⟩) |(rw [iS (by assumption),nT (by assumption) (by assumption)];exact⟨_,rfl,rfl⟩) |(rw [iS (by assumption)];exact⟨_,rfl,rfl⟩)

end Go.Proofs.YtmejbfmhaoilmaaGreat

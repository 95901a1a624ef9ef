/- What is proved: contracts of functions, one a function. No condition. -/
import Derived.Test.YtmejbfmhaoilmaaGreatDoorBase1
import Derived.Test.YtmejbfmhaoilmaaGreatDoorPart2
import Derived.Test.YtmejbfmhaoilmaaGreatDoorBase2
import Derived.Test.YtmejbfmhaoilmaaGreatDoorPart3
import Derived.Test.YtmejbfmhaoilmaaGreatDoorStrL
import Derived.Test.YtmejbfmhaoilmaaGreatDoorPart5
namespace Go.Proofs.YtmejbfmhaoilmaaGreatDoor
open Go Go.RowKit
set_option linter.unusedVariables false
set_option linter.unusedSimpArgs false
set_option maxHeartbeats 1000000
set_option maxRecDepth 20000
theorem aL9 {w0:World}{S0:Bs}{f:DFs}{ag:Addr} (h0:eV dV w0 (FF w0 S0) ag f) (a:Int):
    Calls Tryz.prog 26 #[.pointer (some ag),.int .i64 a] w0 (aI w0 S0 (fun r l=>r= .bool (decide (qZ f a))∧l= [])):=by
 obtain⟨bk,aw,bb,ax⟩:=id h0
 obtain⟨bc,bd,rfl,aa,ah⟩:=bZ bb
 obtain⟨be,bf,rfl,ay,az,a0,ab⟩:=aD aa
 obtain⟨bg,bh,rfl,a1,a2,a3,a4⟩:=aD ah
 refine Y.enter (N:=24) Tryz.func26 rfl rfl (by simp) [(0,.pointer (some ag)),(1,.int .i64 a)] (by simp) (l0:= []) trivial ?_
 refine Y.seq (Y.region (Y.ql rfl (aA rfl .c) (Y.nt (Y.seq (Y.region (Y.mv rfl .g2 (Y.mv rfl .g2 ?_)))))))
 refine Y.nc rfl .z (Y.fa rfl .z aP (Y.le rfl bR .z aw ax ?_))
 refine Y.cl rfl rfl Tryz.func49 rfl rfl (bG (.t .z)) .n (fun _ _ hs tr=>aLr (tr.ctx aa)) ?_
 rintro _ _ ⟨rfl,rfl⟩
 refine Y.m .n ?_
 refine Y.ql rfl (iT (c:=(f.inodes.length:Int) - 1) rfl (.t .z) .c (wr (by omega) (by omega) (by omega))) ?_
 refine Y.cl rfl rfl Tryz.func48 rfl rfl (eL (.t .g6) .c (.t .z)) .n (fun _ _ hs tr=>aBe _ _ _) ?_
 rintro _ _ ⟨rfl,rfl⟩
 refine Y.m .n ?_
 refine Y.mv rfl .z ?_
 refine Y.al .z (fun g3=> ?_) (fun g3=> ?_)
 refine Y.qg rfl rfl .z rfl rfl rfl (aR rfl (.t .g10)) ?_
 refine Y.qg rfl rfl .g1 rfl rfl rfl (dZ rfl (.t .z)) ?_
 refine Y.qg rfl rfl .g2 rfl rfl rfl (aN rfl (.t .z) (fun _=>aP _ _)) ?_
 refine Y.qg rfl rfl .g3 rfl rfl rfl (aM rfl bR (.t .z) (WS.el aw ax rfl)) ?_
 refine Y.qg rfl rfl .g4 rfl rfl rfl (aR rfl (.t .g15)) ?_
 obtain⟨bm,ac,ad⟩:=ab (by omega)
 subst ac
 obtain⟨x5,ai⟩:=aK (xs:=f.inodes) (j:=Int.toNat a) (by omega)
 obtain⟨bi,aj,ak,al⟩:=ad.elem ai
 obtain⟨a5,a6,rfl,ae,af⟩:=bY aj
 obtain⟨a7,a8,rfl,am,an,ao,ap⟩:=aD ae
 obtain⟨a9,ba,rfl,aq,ar,au,av⟩:=aD af
 have bj:=cO (i:=a) ai (by omega)
 have bn:=cP (a:=a) ai (by omega)
 refine Y.qg rfl rfl .g5 rfl rfl rfl (aB (j:=Int.toNat a) rfl cQ aT (.t .g1) (.t .z) (by omega) (by omega)) ?_
 refine Y.qg rfl rfl .g6 rfl rfl rfl (aN rfl (.t .z) (fun _=>bS _ _)) ?_
 refine Y.qg rfl rfl .g7 rfl rfl rfl (aM rfl bP (.t .z) (WS.el ak al rfl)) ?_
 refine Y.qg rfl rfl .g8 rfl rfl rfl (bW rfl (.t .z) .c) ?_
 refine Y.ql rfl (bI rfl (.t .g9) (.t .z)) (Y.er (.s16 .g3) (Y.as rfl .z (Y.nt (Y.ret ?_))))
 refine Y.i (aU rfl .z) .n ?_
 exact⟨congrArg Value.bool (by rw [Bool.eq_iff_iff];simp only [Bool.not_eq_true',decide_eq_false_iff_not,decide_eq_true_eq,qZ,bj];exact⟨fun hh=>⟨by assumption,hh⟩,fun hh=>hh.2⟩),rfl⟩
 refine Y.r rfl rfl .z rfl rfl (by decide) rfl ?_
 refine Y.r rfl rfl .g1 rfl rfl (by decide) rfl ?_
 refine Y.r rfl rfl .g2 rfl rfl (by decide) rfl ?_
 refine Y.r rfl rfl .g3 rfl rfl (by decide) rfl ?_
 refine Y.r rfl rfl .g4 rfl rfl (by decide) rfl ?_
 refine Y.r rfl rfl .g5 rfl rfl (by decide) rfl ?_
 refine Y.r rfl rfl .g6 rfl rfl (by decide) rfl ?_
 refine Y.r rfl rfl .g7 rfl rfl (by decide) rfl ?_
 refine Y.r rfl rfl .g8 rfl rfl (by decide) rfl ?_
 refine Y.ql rfl (bH rfl (.t .g9) .c) (Y.er (.s16 .g3) (Y.as rfl .z (Y.nt (Y.ret ?_))))
 refine Y.i (aU rfl .z) .n ?_
 exact⟨by rw [decide_eq_false (fun hh=>absurd hh.1 (by assumption))],rfl⟩

theorem aNt {w0:World}{S0:Bs}{f:DFs}{ah:List Value} (h0:dV.ro w0 (FF w0 S0) f ah) (a:Int) (b:Int):
    Calls Tryz.prog 13 #[.agg ah.toArray,.int .i64 a,.int .i64 b] w0 (aI w0 S0 (fun r l=>r= .bool (rN f a b)∧l= [])):=by
 obtain⟨av,aw,rfl,aa,ab⟩:=bZ h0
 obtain⟨ac,ad,rfl,ai,aj,ak,al⟩:=aD aa
 obtain⟨ae,af,rfl,am,an,ao,ap⟩:=aD ab
 refine Y.enter (N:=26) Tryz.func13 rfl rfl (by simp) [(0,.agg #[.slice ac f.inodes.length ad,.slice ae f.data.length af]),(1,.int .i64 a),(2,.int .i64 b)] (by simp) (l0:= []) trivial ?_
 refine Y.seq (Y.region ?_)
 refine Y.el rfl (fQ (cs:= [.slice ac f.inodes.length ad,.slice ae f.data.length af]) (n:=2) rfl (.t .z) rfl rfl) ?_
 rintro _ _ ⟨g3,rfl,rfl⟩
 refine Y.ql rfl (aA rfl .c) (Y.nt (Y.seq (Y.region (Y.ql rfl (qW rfl bX (.t .g1) .z bA) ?_))))
 refine Y.cl rfl rfl Tryz.func16 rfl rfl (bG (.t .z)) .n (fun _ _ hs tr=>aIi (aJ f (tr.ctx aa) (tr.ctx ab))) ?_
 rintro _ _ ⟨rfl,rfl⟩
 refine Y.m .n ?_
 refine Y.ql rfl (bU rfl (.t .z) .c) (Y.mv rfl .z ?_)
 refine Y.al .z (fun g4=> ?_) (fun g4=> ?_)
 have ag:=nE g4
 have ax:=hU ag
 refine Y.qg rfl rfl .z rfl rfl rfl (aR rfl (.t .g7)) ?_
 refine Y.call (eB rfl rfl .g1) rfl (by decide) rfl (bE rfl Tryz.func26 rfl rfl (aS (.t .g6) (.t .z))) .n (fun _ _ hs tr=>aL9 (tr.ptr .z (aJ f (tr.ctx aa) (tr.ctx ab))) _) ?_
 rintro _ _ ⟨rfl,rfl⟩
 refine Y.m .n ?_
 refine Y.ql rfl (bI rfl (.t .g2) (.t .z)) (Y.mv rfl .z ?_)
 refine Y.al .z (fun g6=> ?_) (fun g6=> ?_)
 obtain⟨⟨ay,az⟩,a0⟩:=id g6
 refine Y.qg rfl rfl .z rfl rfl rfl (aR rfl (.t .g12)) ?_
 refine Y.call (eB rfl rfl .g1) rfl (by decide) rfl (bE rfl Tryz.func26 rfl rfl (aS (.t .g10) (.t .z))) .n (fun _ _ hs tr=>aL9 (tr.ptr .z (aJ f (tr.ctx aa) (tr.ctx ab))) _) ?_
 rintro _ _ ⟨rfl,rfl⟩
 refine Y.m .n ?_
 refine Y.ql rfl (bI rfl (.t .g2) (.t .z)) (Y.mv rfl .z ?_)
 refine Y.al .z (fun g8=> ?_) (fun g8=> ?_)
 obtain⟨⟨a1,a2⟩,a3⟩:=id g8
 refine Y.qg rfl rfl .z rfl rfl rfl (aN rfl (.t .g13) (fun _=>aP _ _)) ?_
 refine Y.qg rfl rfl .g1 rfl rfl rfl (aM rfl bR (.t .z) (WS.g .z rfl)) ?_
 refine Y.qg rfl rfl .g2 rfl rfl rfl (aR rfl (.t (.s16 .g2))) ?_
 refine Y.call (eB rfl rfl .g3) rfl (by decide) rfl (bE rfl Tryz.func28 rfl rfl (aS (.t .g1) (.t .z))) .n (fun _ _ hs tr=>aMu (tr.ctx aa) _ (hU (by assumption)) (uH (by assumption)) (by constructor <;> first | omega |(have:=yH (by assumption);omega))) ?_
 rintro _ _ rfl
 refine Y.m (.c .n) ?_
 refine Y.h (WS.a .z) ?_
 rintro⟨a4,a5,rfl,aq,ar,au⟩
 refine Y.qg rfl rfl .g4 rfl rfl rfl (aR rfl (.t (.s16 .g3))) ?_
 refine Y.call (eB rfl rfl .g5) rfl (by decide) rfl (bE rfl Tryz.func27 rfl rfl (aS (.t .g1) (.t .z))) .n (fun _ _ hs tr=>aDw (tr.own .z) _) ?_
 rintro _ _ ⟨rfl,rfl⟩
 refine Y.m .n ?_
 refine Y.ql rfl (bI rfl (.t .g6) (.t .z)) (Y.er (.s16 .g3) (Y.as rfl .z (Y.nt (Y.ret ?_))))
 refine Y.i (aU rfl .z) .n ?_
 exact⟨by first |(rw [qN (by assumption) (by assumption) (by assumption)];done) |(rw [iN (fun hh=>absurd hh.1 (by assumption))];done) |(rw [iN (fun hh=>absurd hh.2.1 (by assumption))];done) |(rw [iN (fun hh=>absurd hh.2.2 (by assumption))];done),rfl⟩
 refine Y.r rfl rfl .z rfl rfl (by decide) rfl ?_
 refine Y.r rfl rfl .g1 rfl rfl (by decide) rfl ?_
 refine Y.r rfl rfl .g2 rfl rfl (by decide) rfl ?_
 refine Y.r rfl rfl .g3 rfl rfl (by decide) rfl ?_
 refine Y.r rfl rfl .g4 rfl rfl (by decide) rfl ?_
 refine Y.r rfl rfl .g5 rfl rfl (by decide) rfl ?_
 refine Y.ql rfl (bH rfl (.t .g6) .c) (Y.er (.s16 .g3) (Y.as rfl .z (Y.nt (Y.ret ?_))))
 refine Y.i (aU rfl .z) .n ?_
 exact⟨by first |(rw [qN (by assumption) (by assumption) (by assumption)];done) |(rw [iN (fun hh=>absurd hh.1 (by assumption))];done) |(rw [iN (fun hh=>absurd hh.2.1 (by assumption))];done) |(rw [iN (fun hh=>absurd hh.2.2 (by assumption))];done),rfl⟩
 refine Y.r rfl rfl .z rfl rfl (by decide) rfl ?_
 refine Y.r rfl rfl .g1 rfl rfl (by decide) rfl ?_
 refine Y.ql rfl (bH rfl (.t .g2) .c) (Y.mv rfl .z ?_)
 refine Y.r rfl rfl .z rfl rfl (by decide) rfl ?_
 refine Y.r rfl rfl .g1 rfl rfl (by decide) rfl ?_
 refine Y.r rfl rfl .g2 rfl rfl (by decide) rfl ?_
 refine Y.r rfl rfl .g3 rfl rfl (by decide) rfl ?_
 refine Y.r rfl rfl .g4 rfl rfl (by decide) rfl ?_
 refine Y.r rfl rfl .g5 rfl rfl (by decide) rfl ?_
 refine Y.ql rfl (bH rfl (.t .g6) .c) (Y.er (.s16 .g3) (Y.as rfl .z (Y.nt (Y.ret ?_))))
 refine Y.i (aU rfl .z) .n ?_
 exact⟨by first |(rw [qN (by assumption) (by assumption) (by assumption)];done) |(rw [iN (fun hh=>absurd hh.1 (by assumption))];done) |(rw [iN (fun hh=>absurd hh.2.1 (by assumption))];done) |(rw [iN (fun hh=>absurd hh.2.2 (by assumption))];done),rfl⟩
 refine Y.r rfl rfl .z rfl rfl (by decide) rfl ?_
 refine Y.r rfl rfl .g1 rfl rfl (by decide) rfl ?_
 refine Y.ql rfl (bH rfl (.t .g2) .c) (Y.mv rfl .z ?_)
 refine Y.r rfl rfl .z rfl rfl (by decide) rfl ?_
 refine Y.r rfl rfl .g1 rfl rfl (by decide) rfl ?_
 refine Y.ql rfl (bH rfl (.t .g2) .c) (Y.mv rfl .z ?_)
 refine Y.r rfl rfl .z rfl rfl (by decide) rfl ?_
 refine Y.r rfl rfl .g1 rfl rfl (by decide) rfl ?_
 refine Y.r rfl rfl .g2 rfl rfl (by decide) rfl ?_
 refine Y.r rfl rfl .g3 rfl rfl (by decide) rfl ?_
 refine Y.r rfl rfl .g4 rfl rfl (by decide) rfl ?_
 refine Y.r rfl rfl .g5 rfl rfl (by decide) rfl ?_
 refine Y.ql rfl (bH rfl (.t .g6) .c) (Y.er (.s16 .g3) (Y.as rfl .z (Y.nt (Y.ret ?_))))
 refine Y.i (aU rfl .z) .n ?_
 exact⟨by first |(rw [qN (by assumption) (by assumption) (by assumption)];done) |(rw [iN (fun hh=>absurd hh.1 (by assumption))];done) |(rw [iN (fun hh=>absurd hh.2.1 (by assumption))];done) |(rw [iN (fun hh=>absurd hh.2.2 (by assumption))];done),rfl⟩

end Go.Proofs.YtmejbfmhaoilmaaGreatDoor
/- What is proved: contracts of functions, one a function. No condition. -/
namespace Go.Proofs.YtmejbfmhaoilmaaGreatDoor
open Go Go.RowKit
set_option linter.unusedVariables false
set_option linter.unusedSimpArgs false
set_option maxHeartbeats 1000000
set_option maxRecDepth 20000
theorem aKp {w0:World}{S0:Bs} (s:ByteArray) (ak:s.size≤140737488351232) (hG:iS xX w0 (FF w0 S0)):
    Calls Tryz.prog 24 #[.string s] w0 (aI w0 S0 (fun r l=>∃v:Value,r= .tuple #[v,.int .i64 (eS s)]∧l= [aH cT (bC s) [v]])):=by
 refine Y.enter (N:=39) Tryz.func24 rfl rfl (by simp) [(0,.string s)] (by simp) (l0:= []) trivial ?_
 refine Y.seq (Y.region (Y.ql rfl (aA rfl .c) (Y.ql rfl (aA rfl .c) (Y.nt (Y.seq (Y.seq (Y.region ?_)))))))
 refine Y.mv rfl .g2 (Y.ql rfl (lZ rfl u_9 (.t .z)) (Y.ql rfl (fI rfl (.t .z) .c) (Y.nt ?_)))
 refine Y.u (.t .z) (fun b1=> ?_) (fun b1=> ?_)
 refine Y.seq (Y.region (Y.er .g4 (Y.ql rfl (aA rfl .c) (Y.er .g4 (Y.ql rfl (aA rfl .c) (Y.nt (Y.ret ?_)))))))
 refine Y.j ?_
 refine Y.add (c:=aH cT [] [.slice none 0 0]) (fun w S=>aL w S none) ?_
 refine Y.i (lA rfl .g1 .z) (.c .z .n) ?_
 have hh:=aE8 (s:=s) (by omega);rw [hh.1,hh.2];exact⟨_,rfl,rfl⟩
 refine Y.skip (Y.g (Y.seq (Y.seq (Y.region (Y.mv rfl .g5 (Y.ql rfl (sU rfl (.t .z) .c) (Y.nt ?_)))))))
 refine Y.u (.t .z) (fun b3=> ?_) (fun b3=> ?_)
 refine Y.seq (Y.region (Y.er .g6 (Y.ql rfl (aA rfl .c) (Y.er .g6 (Y.ql rfl (aA rfl .c) (Y.nt (Y.ret ?_)))))))
 refine Y.j ?_
 refine Y.add (c:=aH cT [] [.slice none 0 0]) (fun w S=>aL w S none) ?_
 refine Y.i (lA rfl .g1 .z) (.c .z .n) ?_
 have hh:=wO (s:=s) (by omega) (by assumption);rw [hh.1,hh.2];exact⟨_,rfl,rfl⟩
 refine Y.skip (Y.g (Y.seq (Y.seq (Y.region (Y.mv rfl .g7 ?_)))))
 refine Y.cl rfl rfl Tryz.func44 rfl rfl (aS (.t .z) .c) .n (fun _ _ hs tr=>aOd _ (by first | assumption |(have:=rY (List.mem_of_getElem? (by assumption));rw [ByteArray.size_extract] at this;omega))) ?_
 rintro _ _ ⟨rfl,rfl⟩
 refine Y.m .n ?_
 refine Y.ql rfl (fF rfl (.t .z)) (Y.mv rfl .z ?_)
 refine Y.an .z (fun g5=> ?_) (fun g5=> ?_)
 refine Y.r rfl rfl .z rfl rfl (by decide) rfl ?_
 refine Y.r rfl rfl .g1 rfl rfl (by decide) rfl ?_
 refine Y.ql rfl (bI rfl (.t .g2) .c) (Y.nt ?_)
 refine Y.aq (.t .z) ?_
 refine Y.seq (Y.region (Y.er .g13 (Y.ql rfl (aA rfl .c) (Y.er .g13 (Y.ql rfl (aA rfl .c) (Y.nt (Y.ret ?_)))))))
 refine Y.j ?_
 refine Y.add (c:=aH cT [] [.slice none 0 0]) (fun w S=>aL w S none) ?_
 refine Y.i (lA rfl .g1 .z) (.c .z .n) ?_
 have hh:=tT (s:=s) (by omega) (by assumption) (by first | exact aCg (by omega) | exact .inl (by assumption) | exact .inr (by assumption));rw [hh.1,hh.2];exact⟨_,rfl,rfl⟩
 have al:=aLc g5
 refine Y.qg rfl rfl .z rfl rfl rfl (aR rfl (.t .g11)) ?_
 refine Y.call (eB rfl rfl .g1) rfl (by decide) rfl (bE rfl Tryz.func45 rfl rfl (aS (.t .z) .c)) .n (fun _ _ hs tr=>aNq _ (by first | assumption |(have:=rY (List.mem_of_getElem? (by assumption));rw [ByteArray.size_extract] at this;omega))) ?_
 rintro _ _ ⟨rfl,rfl⟩
 refine Y.m .n ?_
 refine Y.ql rfl (bH rfl (.t .g2) (.t .z)) (Y.nt ?_)
 refine Y.u (.t .z) (fun b7=> ?_) (fun b7=> ?_)
 refine Y.seq (Y.region (Y.er .g13 (Y.ql rfl (aA rfl .c) (Y.er .g13 (Y.ql rfl (aA rfl .c) (Y.nt (Y.ret ?_)))))))
 refine Y.j ?_
 refine Y.add (c:=aH cT [] [.slice none 0 0]) (fun w S=>aL w S none) ?_
 refine Y.i (lA rfl .g1 .z) (.c .z .n) ?_
 have hh:=tT (s:=s) (by omega) (by assumption) (by first | exact aCg (by omega) | exact .inl (by assumption) | exact .inr (by assumption));rw [hh.1,hh.2];exact⟨_,rfl,rfl⟩
 refine Y.skip (Y.g (Y.seq (Y.region (Y.mv rfl .g14 ?_))))
 refine Y.ql rfl (rO (a:=1) (b:=s.size) rfl u_9 (.t .z) (.inr ⟨_,_,rfl,.c⟩) (.inl ⟨rfl,rfl⟩) (by omega) (by omega)) ?_
 refine Y.cl rfl rfl Tryz.func46 rfl rfl (aS (.t .z) .c) .n (fun _ _ hs tr=>aOn _ (by rw [ByteArray.size_extract];omega) (iS.tr tr hG)) ?_
 rintro _ _ rfl
 refine Y.m (.c .n) ?_
 refine Y.h (WS.a .z) ?_
 rintro⟨aa,ab,rfl,ad,ae,af⟩
 refine Y.as rfl .z (Y.nt (Y.seq (Y.seq (Y.region (Y.mv rfl .z (Y.ql rfl (bD rfl eQ (.t .z)) (Y.ql rfl (fI rfl (.t .z) .c) ?_)))))))
 refine Y.nt ?_
 refine Y.u (.t .z) (fun ag=> ?_) (fun ag=> ?_)
 refine Y.seq (Y.region (Y.er (.s16 .g4) (Y.ql rfl (aA rfl .c) (Y.er (.s16 .g4) (Y.ql rfl (aA rfl .c) (Y.nt (Y.ret ?_)))))))
 refine Y.j ?_
 refine Y.add (c:=aH cT [] [.slice none 0 0]) (fun w S=>aL w S none) ?_
 refine Y.i (lA rfl .g1 .z) (.c .z .n) ?_
 have hnc:=tC (xs:=jL (ByteArray.extract s 1 s.size)) (by omega);have hh:=aAi (s:=s) (by omega) (by assumption) (by first | exact yY (by assumption) (by assumption)) (by rw [hnc];decide);rw [hnc] at hh;rw [hh.1,hh.2];exact⟨_,rfl,rfl⟩
 refine Y.skip (Y.g (Y.seq (Y.seq (Y.region (Y.mv rfl .g3 (Y.ql rfl (bD rfl eQ (.t .z)) (Y.ql rfl (aR rfl .c) (Y.nil ?_))))))))
 refine Y.g (Y.block ?_)
 refine Y.ai (γ:=Nat) (fun k=> [(28,.int .i64 (k:Int)),(27,.int .i64 ((jL (ByteArray.extract s 1 s.size)).length:Int)),(26,.slice aa (jL (ByteArray.extract s 1 s.size)).length ab),(4,.slice aa (jL (ByteArray.extract s 1 s.size)).length ab)]) (fun k=> [aH cT (jL (ByteArray.extract s 1 s.size)) [.slice aa (jL (ByteArray.extract s 1 s.size)).length ab]]) (fun k=>k≤(jL (ByteArray.extract s 1 s.size)).length∧∀(j:Nat) (s_:ByteArray),j<k→(jL (ByteArray.extract s 1 s.size))[j]? =some s_→aV s_=0) (fun k=>(jL (ByteArray.extract s 1 s.size)).length - k) 0 ⟨Nat.zero_le _,eN (q:=fun _ (s:ByteArray)=>aV s=0)⟩ (.c .z (.c .g1 (.c .g2 (.c .g6 .n)))) (fun _ h=>h.sel (.c .z .n)) ?_
 rintro k ⟨hk,hallk⟩
 refine Y.seq (Y.region (Y.ql rfl (dA rfl (.t .z) (.t .g1)) (Y.nt (Y.seq ?_))))
 refine Y.u (.t .z) (fun ah=> ?_) (fun ah=> ?_)
 refine Y.skip (Y.g (Y.seq (Y.block (Y.seq (Y.region ?_)))))
 refine Y.h (WS.h .z (by omega)) ?_
 rintro⟨ai,rfl⟩
 refine Y.ql rfl (aB (j:=k) rfl eQ mU (.t .g3) (.t .g1) rfl (by omega)) ?_
 obtain⟨am,ac⟩:=aK (xs:=jL (ByteArray.extract s 1 s.size)) (j:=k) (by omega)
 refine Y.ql rfl (aM rfl iH (.t .z) (WS.m .z ac)) (Y.as rfl .z (Y.nt (Y.seq (Y.region (Y.mv rfl .z ?_)))))
 refine Y.cl rfl rfl Tryz.func43 rfl rfl (bG (.t .z)) .n (fun _ _ hs tr=>aLp _ (by first | assumption |(have:=rY (List.mem_of_getElem? (by assumption));rw [ByteArray.size_extract] at this;omega))) ?_
 rintro _ _ ⟨rfl,rfl⟩
 refine Y.m .n ?_
 refine Y.as rfl .z (Y.nt (Y.seq (Y.region (Y.mv rfl .z (Y.ql rfl (bW rfl (.t .z) .c) (Y.nt ?_))))))
 refine Y.ac (.t .z) (fun aj=> ?_) (fun aj=> ?_)
 refine Y.seq (Y.region (Y.mv rfl .g2 (Y.ql rfl (aA rfl .c) (Y.as rfl .g1 (Y.nt (Y.ret (Y.v ?_)))))))
 refine Y.j (Y.j (Y.v (Y.j ?_)))
 refine Y.add (c:=aH cT [] [.slice none 0 0]) (fun w S=>aL w S none) ?_
 refine Y.i (lA rfl .g1 .z) (.c .z .n) ?_
 have hnc:=aBt (xs:=jL (ByteArray.extract s 1 s.size)) (by omega) hallk ac (by assumption);have hh:=aAi (s:=s) (by omega) (by assumption) (by first | exact yY (by assumption) (by assumption)) (by rw [hnc];assumption);rw [hnc] at hh;rw [hh.1,hh.2];exact⟨_,rfl,rfl⟩
 refine Y.skip (Y.ab (Y.g (Y.region ?_)))
 refine Y.ql rfl (bN (c:=((k+1:Nat):Int)) rfl (.t .g9) .c (wr (by omega) (by omega) (by omega))) ?_
 refine Y.er .g10 (Y.mv rfl .z (Y.nil ?_))
 refine Y.ae (k+1) ⟨by omega,dS (q:=fun _ (s:ByteArray)=>aV s=0) hallk ac (by first | assumption | omega)⟩ (by first | omega |(dsimp only;omega)) (.c .z (.c .g11 (.c .g12 (.c .g13 .n)))) (fun _ h=>h.sel (.c .z .n))
 refine Y.exit (Y.y (Y.y (Y.ag (Y.g (Y.seq (Y.region (Y.mv rfl .g4 (Y.as rfl .z ?_))))))))
 refine Y.ql rfl (aA rfl .c) (Y.nt (Y.ret ?_))
 refine Y.i (lA rfl .g1 .z) (.c .z .n) ?_
 have hnc:=qM (xs:=jL (ByteArray.extract s 1 s.size)) (by omega) hallk (by omega);have hh:=aA1 (s:=s) (by omega) (by assumption) (by first | exact yY (by assumption) (by assumption)) hnc;rw [hh.1,hh.2];exact⟨_,rfl,rfl⟩

end Go.Proofs.YtmejbfmhaoilmaaGreatDoor
/- What is proved: contracts of functions, one a function. No condition. -/
namespace Go.Proofs.YtmejbfmhaoilmaaGreatDoor
open Go Go.RowKit
set_option linter.unusedVariables false
set_option linter.unusedSimpArgs false
set_option maxHeartbeats 1000000
set_option maxRecDepth 20000
theorem aM5 {w0:World}{S0:Bs} (s:ByteArray) (ah:s.size≤140737488351232) (hG:iS xX w0 (FF w0 S0)):
    Calls Tryz.prog 11 #[.string s] w0 (aI w0 S0 (aNc (nV s))):=by
 refine Y.enter (N:=27) Tryz.func11 rfl rfl (by simp) [(0,.string s)] (by simp) (l0:= []) trivial ?_
 refine Y.seq (Y.region ?_)
 refine Y.el rfl (bB rfl aNu rfl rfl) ?_
 rintro _ _ ⟨g1,rfl,rfl⟩
 refine Y.nt (Y.seq (Y.region (Y.mv rfl .g1 ?_)))
 refine Y.cl rfl rfl Tryz.func24 rfl rfl (bG (.t .z)) .n (fun _ _ hs tr=>aKp _ (by first | assumption | omega) (iS.tr tr hG)) ?_
 rintro _ _ ⟨v2,rfl,rfl⟩
 refine Y.m (.c .n) ?_
 refine Y.h (WS.a .z) ?_
 rintro⟨ac,ad,rfl,ae,af,ag⟩
 have aa:=(lI s).1
 refine Y.mv rfl .z (Y.ql rfl (bF (v:= .slice ac (bC s).length ad) rfl (.t .z) rfl) (Y.ql rfl (bF (v:= .int .i64 (eS s)) rfl (.t .g1) rfl) (Y.as rfl .g1 (Y.as rfl .g1 (Y.nt (Y.seq (Y.block ?_)))))))
 refine Y.seq (Y.region (Y.mv rfl .z (Y.ql rfl (bW rfl (.t .z) .c) (Y.as rfl .z (Y.nt ?_)))))
 refine Y.ac (.t .z) (fun b5=> ?_) (fun b5=> ?_)
 refine Y.seq (Y.region (Y.mv rfl .g3 (Y.ql rfl (aW (cs:= [.int .i64 (eS s),.string (⟨#[]⟩)]) rfl aGw (pv1 (.t .z)) rfl) ?_)))
 refine Y.es (aE rfl) rfl (esW rfl (.t .g12) (.t .z) .g1 zE rfl rfl) ?_
 refine Y.nt (Y.ret (Y.v (Y.j ?_)))
 refine Y.i (cU rfl .g12 aH4 .z zE) .n ?_
 first |(exact⟨by rw [nL (by assumption)],rfl,gE s⟩) |(exact⟨by rw [uD (by assumption)],rfl,gE s⟩) |(have hh:=uX (s:=s) (by assumption);exact⟨by rw [nL (by rw [hh.1];assumption),hh.1],rfl,gE s⟩) |(have hh:=vH (s:=s) (by assumption) (lU.1 (by assumption));exact⟨by rw [nL (by rw [hh.1];decide),hh.1],rfl,gE s⟩)
 refine Y.seq (Y.region (Y.mv rfl .g4 (Y.ql rfl (bD rfl eQ (.t .z)) (Y.ql rfl (bU rfl (.t .z) .c) (Y.as rfl .z (Y.nt ?_))))))
 refine Y.u (.t .z) (fun b6=> ?_) (fun b6=> ?_)
 refine Y.seq (Y.region (Y.ql rfl (aW (cs:= [.int .i64 4,.string (⟨#[]⟩)]) rfl aGw (pv1 .c) rfl) ?_))
 refine Y.es (aE rfl) rfl (esW rfl (.t .g15) (.t .z) .g1 zE rfl rfl) ?_
 refine Y.nt (Y.ret (Y.v (Y.j ?_)))
 refine Y.i (cU rfl .g15 aH4 .z zE) .n ?_
 first |(exact⟨by rw [nL (by assumption)],rfl,gE s⟩) |(exact⟨by rw [uD (by assumption)],rfl,gE s⟩) |(have hh:=uX (s:=s) (by assumption);exact⟨by rw [nL (by rw [hh.1];assumption),hh.1],rfl,gE s⟩) |(have hh:=vH (s:=s) (by assumption) (lU.1 (by assumption));exact⟨by rw [nL (by rw [hh.1];decide),hh.1],rfl,gE s⟩)
 refine Y.skip (Y.ab (Y.g (Y.seq (Y.region (Y.mv rfl .g8 (Y.mv rfl .g9 (Y.ql rfl (bD rfl eQ (.t .z)) ?_)))))))
 refine Y.ql rfl (iT (c:=((bC s).length:Int) - 1) rfl (.t .z) .c (wr (by omega) (by omega) (by omega))) ?_
 refine Y.h (WS.h .z (by omega)) ?_
 rintro⟨ai,rfl⟩
 refine Y.ql rfl (aB (j:=Int.toNat (((bC s).length:Int) - 1)) rfl eQ mU (.t .g3) (.t .z) (by omega) (by omega)) ?_
 obtain⟨x8,ab⟩:=aK (xs:=bC s) (j:=Int.toNat (((bC s).length:Int) - 1)) (by omega)
 refine Y.ql rfl (aM rfl iH (.t .z) (WS.m .z ab)) (Y.ql rfl (aW (cs:= [.int .i64 0,.string x8]) rfl aGw (pv1 (.t .z)) rfl) ?_)
 refine Y.es (aE rfl) rfl (esW rfl (.t (.s16 .g5)) (.t .z) .g1 zE rfl rfl) ?_
 refine Y.nt (Y.ret ?_)
 refine Y.i (cU rfl (.s16 .g5) aH4 .z zE) .n ?_
 first |(exact⟨by rw [nL (by assumption)],rfl,gE s⟩) |(exact⟨by rw [uD (by assumption)],rfl,gE s⟩) |(have hh:=uX (s:=s) (by assumption);exact⟨by rw [nL (by rw [hh.1];assumption),hh.1],rfl,gE s⟩) |(have hh:=vH (s:=s) (by assumption) (lU.1 (by assumption));exact⟨by rw [nL (by rw [hh.1];decide),hh.1],rfl,gE s⟩) |(have hh:=vA (s:=s) (by assumption) (fun e=>absurd (lU.2 e) (by assumption));exact⟨by rw [uD hh.1,hh.2.2 _ _ (by omega) ab],rfl,gE s⟩)

end Go.Proofs.YtmejbfmhaoilmaaGreatDoor
/- What is proved: contracts of functions, one a function. No condition. -/
namespace Go.Proofs.YtmejbfmhaoilmaaGreatDoor
open Go Go.RowKit
set_option linter.unusedVariables false
set_option linter.unusedSimpArgs false
set_option maxHeartbeats 1000000
set_option maxRecDepth 20000
theorem aMv {w0:World}{S0:Bs}{f:DFs}{al:Addr} (h0:eV dV w0 (FF w0 S0) al f) {x:(List ByteArray)}{v1:Value} (h1:cT.ro w0 (FF w0 S0) x [v1]) (ht:aX f=0):
    Calls Tryz.prog 41 #[.pointer (some al),v1] w0 (aI w0 S0 (fun r l=>r= .tuple #[.int .i64 (wkC f.inodes 0 x).1,.int .i64 (wkC f.inodes 0 x).2]∧l= [])):=by
 obtain⟨bv,bg,bh,bi⟩:=id h0
 obtain⟨bj,bk,rfl,ax,ay⟩:=bZ bh
 obtain⟨bm,bn,rfl,a8,a9,ba,ac⟩:=aD ax
 obtain⟨bo,bp,rfl,bb,bc,bd,be⟩:=aD ay
 obtain⟨A1,c1,rfl,bw,bx,bz,bq⟩:=aD h1
 have hI:=hU ht
 have b0:=kA ht
 refine Y.enter (N:=32) Tryz.func41 rfl rfl (by simp) [(0,.pointer (some al)),(1,.slice A1 x.length c1)] (by simp) (l0:= []) trivial ?_
 refine Y.seq (Y.region (Y.ql rfl (aA rfl .c) (Y.ql rfl (aA rfl .c) (Y.nt (Y.seq (Y.region (Y.ql rfl (aA rfl .c) ?_)))))))
 refine Y.nt (Y.seq (Y.seq (Y.region (Y.mv rfl .g4 (Y.ql rfl (bD rfl eQ (.t .z)) (Y.ql rfl (aR rfl .c) (Y.nil ?_)))))))
 refine Y.g (Y.block ?_)
 refine Y.ai (γ:=Nat×Int) (fun⟨k,a⟩=> [(11,.int .i64 (k:Int)),(10,.int .i64 (x.length:Int)),(9,.slice A1 x.length c1),(6,.int .i64 a),(0,.pointer (some al))]) (fun⟨k,a⟩=> []) (fun⟨k,a⟩=>k≤x.length∧bQ f.inodes.length a∧wkC f.inodes 0 x=wkC f.inodes a (x.drop k)) (fun⟨k,a⟩=>x.length - k) (0,0) ⟨Nat.zero_le _,kA ht,rfl⟩ (.c .z (.c .g1 (.c .g2 (.c .g3 (.c .g6 .n))))) (fun _ h=>h) ?_
 rintro⟨k,a⟩ ⟨hk,hpa,hwk⟩
 obtain⟨b1,b2⟩:=hpa
 have hor:=fun s:ByteArray=>rU (s:=s) (a:=a) ht rfl
 refine Y.seq (Y.region (Y.ql rfl (dA rfl (.t .z) (.t .g1)) (Y.nt (Y.seq ?_))))
 refine Y.u (.t .z) (fun b4=> ?_) (fun b4=> ?_)
 refine Y.skip (Y.g (Y.seq (Y.block (Y.seq (Y.region ?_)))))
 obtain⟨b3,ad,ae⟩:=bq (by omega)
 subst ad
 obtain⟨x6,am⟩:=aK (xs:=x) (j:=k) (by first | omega)
 obtain⟨br,az,a0,a1⟩:=ae.elem am
 obtain⟨rfl,b5⟩:=az
 refine Y.ql rfl (aB (j:=k) rfl eQ mU (.t .g3) (.t .g1) rfl (by first | omega)) ?_
 refine Y.ql rfl (aM rfl iH (.t .z) (WS.i a0 a1 rfl)) (Y.as rfl .z (Y.nt (Y.seq (Y.seq (Y.region (Y.mv rfl .g8 (Y.nc rfl .z ?_)))))))
 refine Y.fa rfl .z aP (Y.le rfl bR .z bg bi (Y.mv rfl .g11 ?_))
 obtain⟨b6,af,ag⟩:=ac (by omega)
 subst af
 obtain⟨x9,ah⟩:=aK (xs:=f.inodes) (j:=Int.toNat a) (by first | omega)
 obtain⟨bf,ai,aj,ak⟩:=ag.elem ah
 obtain⟨a2,a3,rfl,aa,ab⟩:=bY ai
 obtain⟨a4,a5,rfl,an,ao,ap,aq⟩:=aD aa
 obtain⟨a6,a7,rfl,ar,au,av,aw⟩:=aD ab
 have b7:=cO (i:=a) ah (by omega)
 have bs:=cP (a:=a) ah (by omega)
 have b8:=dL (a:=a) ah (by omega)
 have b9:=mR (a:=a) ah (by omega)
 refine Y.ql rfl (aB (j:=Int.toNat a) rfl cQ aT (.t .g1) (.t .z) (by omega) (by first | omega)) ?_
 refine Y.fa rfl .z bS (Y.le rfl bP .z aj ak (Y.ql rfl (bW rfl (.t .z) .c) (Y.nt ?_)))
 refine Y.ac (.t .z) (fun bt=> ?_) (fun bt=> ?_)
 refine Y.seq (Y.region (Y.ql rfl (aA rfl .c) (Y.ql rfl (aA rfl .c) (Y.nt (Y.ret (Y.j (Y.v ?_)))))))
 refine Y.j (Y.j (Y.v (Y.j ?_)))
 refine Y.i (lA rfl .g1 .z) .n ?_
 rw [hwk,aLb am (by omega)];exact⟨rfl,rfl⟩
 refine Y.skip (Y.g (Y.seq (Y.region (Y.mv rfl (.s16 .g1) (Y.mv rfl (.s16 .g1) (Y.mv rfl .g11 ?_))))))
 refine Y.cl rfl rfl Tryz.func23 rfl rfl (eL (.t .g2) (.t .g1) (.t .z)) .n (fun _ _ hs tr=>aM0 (tr.ctxP h0) _ _ (by first | assumption | omega) (by first | assumption |(constructor <;> omega))) ?_
 rintro _ _ ⟨rfl,rfl⟩
 refine Y.m .n ?_
 refine Y.er (.s16 .g4) (Y.as rfl .z (Y.nt (Y.seq (Y.region (Y.mv rfl .z (Y.ql rfl (dA rfl (.t .z) .c) (Y.nil ?_)))))))
 refine Y.g ?_
 refine Y.u (.t .z) (fun bu=> ?_) (fun bu=> ?_)
 refine Y.seq (Y.region (Y.ql rfl (aA rfl .c) (Y.ql rfl (aA rfl .c) (Y.nt (Y.ret (Y.v (Y.j ?_)))))))
 refine Y.j (Y.v (Y.j ?_))
 refine Y.i (lA rfl .g1 .z) .n ?_
 have h9:=rU (s:=x6) (a:=a) ht bs;have h8:=hor x6;rw [hwk,aKm am (by omega) (by omega)];exact⟨rfl,rfl⟩
 refine Y.skip (Y.ab (Y.g (Y.region ?_)))
 refine Y.ql rfl (bN (c:=((k+1:Nat):Int)) rfl (.t (.s16 .g4)) .c (wr (by omega) (by omega) (by omega))) ?_
 refine Y.er (.s16 .g5) (Y.mv rfl .z (Y.nil ?_))
 refine Y.ae ((k+1),fX (aG (f).inodes a) x6) ⟨by omega,(by exact sW ht (by omega)),(by have h8:=aLi am (show aY f.inodes a=2 by omega) (by omega);rw [hwk,h8])⟩ (by first | omega |(dsimp only;omega)) (.c .z (.c (.s16 .g6) (.c (.s16 .g7) (.c .g4 (.c (.s16 .g8) .n))))) (fun _ h=>h)
 refine Y.exit (Y.y (Y.y (Y.ag (Y.g (Y.seq (Y.region (Y.mv rfl .g4 (Y.as rfl .z ?_))))))))
 refine Y.ql rfl (aA rfl .c) (Y.nt (Y.ret ?_))
 refine Y.i (lA rfl .g1 .z) .n ?_
 rw [hwk,aD0 (by omega)];exact⟨rfl,rfl⟩

theorem aLz {w0:World}{S0:Bs}{f:DFs}{aa:Addr} (h0:eV dV w0 (FF w0 S0) aa f) (s:ByteArray) (a1:s.size≤140737488351232) (ht:aX f=0) (hG:iS xX w0 (FF w0 S0)):
    Calls Tryz.prog 20 #[.pointer (some aa),.string s] w0 (aI w0 S0 (fun r l=>r= .tuple #[.int .i64 (cC f s).1,.int .i64 (cC f s).2]∧l= [])):=by
 obtain⟨a2,a3,an,a4⟩:=id h0
 obtain⟨ao,ap,rfl,ab,ac⟩:=bZ an
 obtain⟨aq,ar,rfl,ad,ae,af,ag⟩:=aD ab
 obtain⟨au,av,rfl,ah,ai,aj,ak⟩:=aD ac
 refine Y.enter (N:=21) Tryz.func20 rfl rfl (by simp) [(0,.pointer (some aa)),(1,.string s)] (by simp) (l0:= []) trivial ?_
 refine Y.seq (Y.region (Y.ql rfl (aA rfl .c) (Y.ql rfl (aA rfl .c) (Y.nt (Y.seq (Y.region (Y.mv rfl .g3 ?_)))))))
 refine Y.cl rfl rfl Tryz.func24 rfl rfl (bG (.t .z)) .n (fun _ _ hs tr=>aKp _ (by first | assumption | omega) (iS.tr tr hG)) ?_
 rintro _ _ ⟨v3,rfl,rfl⟩
 refine Y.m (.c .n) ?_
 refine Y.h (WS.a .z) ?_
 rintro⟨aw,ax,rfl,ay,az,a0⟩
 have al:=(lI s).1
 refine Y.mv rfl .z (Y.ql rfl (bF (v:= .slice aw (bC s).length ax) rfl (.t .z) rfl) (Y.ql rfl (bF (v:= .int .i64 (eS s)) rfl (.t .g1) rfl) (Y.as rfl .g1 (Y.as rfl .g1 (Y.nt (Y.seq (Y.seq ?_)))))))
 refine Y.region (Y.mv rfl .z (Y.ql rfl (bW rfl (.t .z) .c) (Y.nt ?_)))
 refine Y.ac (.t .z) (fun b6=> ?_) (fun b6=> ?_)
 refine Y.seq (Y.region (Y.mv rfl .g2 (Y.er .g11 (Y.ql rfl (aA rfl .c) (Y.er .g11 (Y.as rfl .g1 (Y.nt ?_)))))))
 refine Y.ret (Y.j ?_)
 refine Y.i (lA rfl .g1 .z) .n ?_
 rw [aAf (by assumption)];exact⟨rfl,rfl⟩
 refine Y.skip (Y.g (Y.seq (Y.region (Y.mv rfl .g11 (Y.mv rfl .g4 ?_)))))
 refine Y.cl rfl rfl Tryz.func41 rfl rfl (aS (.t .g1) (.t .z)) .n (fun _ _ hs tr=>aMv (tr.ctxP h0) (tr.own .z) (by assumption)) ?_
 rintro _ _ ⟨rfl,rfl⟩
 refine Y.m .n ?_
 have am:=pL ht (bC s) 0 (kA ht)
 refine Y.ql rfl (bF (v:= .int .i64 ((wkC (f).inodes 0 (bC s)).1)) rfl (.t .z) rfl) (Y.ql rfl (bF (v:= .int .i64 ((wkC (f).inodes 0 (bC s)).2)) rfl (.t .g1) rfl) (Y.er .g15 (Y.as rfl .g1 (Y.er .g15 (Y.as rfl .g1 (Y.nt (Y.ret ?_)))))))
 refine Y.i (lA rfl .g1 .z) .n ?_
 rw [tJ (by assumption)];exact⟨rfl,rfl⟩

theorem aNm {w0:World}{S0:Bs}{f:DFs}{aw:Addr} (h0:eV dV w0 (FF w0 S0) aw f) (s:ByteArray) (b2:s.size≤140737488351232) (ht:aX f=0) (hG:iS xX w0 (FF w0 S0)):
    Calls Tryz.prog 21 #[.pointer (some aw),.string s] w0 (aI w0 S0 (fun r l=>r= .tuple #[.int .i64 (aO f s).1,.string (aO f s).2.1,.int .i64 (aO f s).2.2]∧l= [])):=by
 obtain⟨b3,bh,bi,bj⟩:=id h0
 obtain⟨bk,bm,rfl,ax,ay⟩:=bZ bi
 obtain⟨bn,bo,rfl,a7,a8,a9,af⟩:=aD ax
 obtain⟨bp,bq,rfl,ba,bb,bc,bd⟩:=aD ay
 refine Y.enter (N:=54) Tryz.func21 rfl rfl (by simp) [(0,.pointer (some aw)),(1,.string s)] (by simp) (l0:= []) trivial ?_
 refine Y.seq (Y.region (Y.ql rfl (aA rfl .c) (Y.ql rfl (aA rfl .c) (Y.ql rfl (aA rfl .c) (Y.nt (Y.seq (Y.region ?_)))))))
 refine Y.mv rfl .g4 ?_
 refine Y.cl rfl rfl Tryz.func24 rfl rfl (bG (.t .z)) .n (fun _ _ hs tr=>aKp _ (by first | assumption | omega) (iS.tr tr hG)) ?_
 rintro _ _ ⟨v3,rfl,rfl⟩
 refine Y.m (.c .n) ?_
 refine Y.h (WS.a .z) ?_
 rintro⟨az,be,rfl,br,bs,bt⟩
 have bf:=(lI s).1
 refine Y.mv rfl .z (Y.ql rfl (bF (v:= .slice az (bC s).length be) rfl (.t .z) rfl) (Y.ql rfl (bF (v:= .int .i64 (eS s)) rfl (.t .g1) rfl) (Y.as rfl .g1 (Y.as rfl .g1 (Y.nt (Y.seq (Y.block ?_)))))))
 refine Y.seq (Y.region (Y.mv rfl .z (Y.ql rfl (bW rfl (.t .z) .c) (Y.as rfl .z (Y.nt ?_)))))
 refine Y.ac (.t .z) (fun b6=> ?_) (fun b6=> ?_)
 refine Y.seq (Y.region (Y.mv rfl .g3 (Y.er .g13 (Y.ql rfl (aA rfl .c) (Y.er .g13 (Y.ql rfl (aA rfl .c) (Y.er .g13 (Y.as rfl .g2 ?_))))))))
 refine Y.nt (Y.ret (Y.v (Y.j ?_)))
 refine Y.i (wC rfl .g2 .g1 .z) .n ?_
 have hh:=uX (s:=s) (by assumption);rw [vM (by rw [hh.1];assumption),hh.1];exact⟨rfl,rfl⟩
 refine Y.seq (Y.region (Y.mv rfl .g4 (Y.ql rfl (bD rfl eQ (.t .z)) (Y.ql rfl (bU rfl (.t .z) .c) (Y.as rfl .z (Y.nt ?_))))))
 refine Y.u (.t .z) (fun b7=> ?_) (fun b7=> ?_)
 refine Y.seq (Y.region (Y.er .g16 (Y.ql rfl (aA rfl .c) (Y.er .g16 (Y.ql rfl (aA rfl .c) (Y.er .g16 (Y.ql rfl (aA rfl .c) (Y.nil ?_))))))))
 refine Y.g (Y.ret (Y.v (Y.j ?_)))
 refine Y.i (wC rfl .g2 .g1 .z) .n ?_
 have hh:=vH (s:=s) (by assumption) (lU.1 (by assumption));rw [vM (by rw [hh.1];decide),hh.1];exact⟨rfl,rfl⟩
 refine Y.skip (Y.ab (Y.g (Y.seq (Y.region (Y.mv rfl .g8 (Y.ql rfl (bD rfl eQ (.t .z)) ?_))))))
 refine Y.ql rfl (iT (c:=((bC s).length:Int) - 1) rfl (.t .z) .c (wr (by omega) (by omega) (by omega))) ?_
 refine Y.as rfl .z (Y.nt (Y.seq (Y.region (Y.mv rfl (.s16 .g5) (Y.mv rfl .g13 (Y.mv rfl .g2 ?_))))))
 refine Y.eq .z (congrArg (Value.int .i64) (show((bC s).length:Int) - 1=((Int.toNat (((bC s).length:Int) - 1):Nat):Int) by omega)) ?_
 obtain⟨b4,ag⟩:∃A':Option Addr,A'=(if be=0 then az else Option.map (fun z=>Addr.add z (0 * 1)) az):=⟨_,rfl⟩
 have b5:=gH (xs:=bC s) (a:=0) (b:=Int.toNat (((bC s).length:Int) - 1)) (by omega)
 have b8:True:=trivial
 refine Y.ql rfl (jT (a:=0) (b:=Int.toNat (((bC s).length:Int) - 1)) rfl eQ mU (.t .g1) ag (.inl ⟨rfl,rfl⟩) (.inr ⟨_,_,rfl,(.t .z)⟩) (by omega) (by omega) (by omega)) ?_
 refine Y.cl rfl rfl Tryz.func41 rfl rfl (aS (.t .g3) (.t .z)) .n (fun _ _ hs tr=>aMv (tr.ctxP h0) (nD (a:=0) (b:=Int.toNat (((bC s).length:Int) - 1)) ag (tr.own .z) (by omega) (by omega)) (by assumption)) ?_
 rintro _ _ ⟨rfl,rfl⟩
 refine Y.m .n ?_
 have a0:=pL ht (fY (bC s) 0 (Int.toNat (((bC s).length:Int) - 1))) 0 (kA ht)
 refine Y.mv rfl .z (Y.ql rfl (bF (v:= .int .i64 ((wkC (f).inodes 0 (fY (bC s) 0 (Int.toNat (((bC s).length:Int) - 1)))).1)) rfl (.t .z) rfl) (Y.ql rfl (bF (v:= .int .i64 ((wkC (f).inodes 0 (fY (bC s) 0 (Int.toNat (((bC s).length:Int) - 1)))).2)) rfl (.t .g1) rfl) (Y.as rfl .g1 (Y.er (.s16 .g4) (Y.as rfl .g1 (Y.nt (Y.seq ?_)))))))
 refine Y.block (Y.seq (Y.region (Y.mv rfl .z (Y.ql rfl (bW rfl (.t .z) .c) (Y.as rfl .z (Y.nt ?_))))))
 refine Y.ac (.t .z) (fun bu=> ?_) (fun bu=> ?_)
 refine Y.seq (Y.region (Y.mv rfl .g3 (Y.er (.s16 (.s16 .g1)) (Y.ql rfl (aA rfl .c) (Y.er (.s16 (.s16 .g1)) (Y.ql rfl (aA rfl .c) (Y.er (.s16 (.s16 .g1)) (Y.as rfl .g2 ?_))))))))
 refine Y.nt (Y.ret (Y.v (Y.j ?_)))
 refine Y.i (wC rfl .g2 .g1 .z) .n ?_
 have hh:=vA (s:=s) (by assumption) (fun e=>absurd (lU.2 e) (by assumption));have hT:fY (bC s) 0 (Int.toNat (((bC s).length:Int) - 1))=fO s:=(by rw [hh.2.1,show Int.toNat (((bC s).length:Int) - 1)=(bC s).length - 1 by omega];simp [fY]);rw [xV hh.1 (by rw [←hT];assumption),←hT];exact⟨rfl,rfl⟩
 refine Y.seq (Y.region (Y.mv rfl (.s16 (.s16 .g1)) (Y.nc rfl .z (Y.fa rfl .z aP (Y.le rfl bR .z bh bj (Y.mv rfl .g8 ?_))))))
 obtain⟨bv,ab,ac⟩:=af (by omega)
 subst ab
 obtain⟨b9,aa⟩:=aK (xs:=f.inodes) (j:=Int.toNat ((wkC (f).inodes 0 (fY (bC s) 0 (Int.toNat (((bC s).length:Int) - 1)))).1)) (by omega)
 obtain⟨bg,ah,ai,aj⟩:=ac.elem aa
 obtain⟨a1,a2,rfl,ad,ae⟩:=bY ah
 obtain⟨a3,a4,rfl,am,an,ao,ap⟩:=aD ad
 obtain⟨a5,a6,rfl,aq,ar,au,av⟩:=aD ae
 have ak:=cO (i:=((wkC (f).inodes 0 (fY (bC s) 0 (Int.toNat (((bC s).length:Int) - 1)))).1)) aa (by omega)
 have bw:=cP (a:=((wkC (f).inodes 0 (fY (bC s) 0 (Int.toNat (((bC s).length:Int) - 1)))).1)) aa (by omega)
 have bx:=dL (a:=((wkC (f).inodes 0 (fY (bC s) 0 (Int.toNat (((bC s).length:Int) - 1)))).1)) aa (by omega)
 have bz:=mR (a:=((wkC (f).inodes 0 (fY (bC s) 0 (Int.toNat (((bC s).length:Int) - 1)))).1)) aa (by omega)
 refine Y.ql rfl (aB (j:=Int.toNat ((wkC (f).inodes 0 (fY (bC s) 0 (Int.toNat (((bC s).length:Int) - 1)))).1)) rfl cQ aT (.t .g1) (.t .z) (by omega) (by omega)) ?_
 refine Y.fa rfl .z bS (Y.le rfl bP .z ai aj (Y.ql rfl (bW rfl (.t .z) .c) (Y.as rfl .z (Y.nt ?_))))
 refine Y.ac (.t .z) (fun b0=> ?_) (fun b0=> ?_)
 refine Y.seq (Y.region (Y.er (.s16 (.s16 .g10)) (Y.ql rfl (aA rfl .c) (Y.er (.s16 (.s16 .g10)) (Y.ql rfl (aA rfl .c) (Y.er (.s16 (.s16 .g10)) (Y.ql rfl (aA rfl .c) (Y.nil ?_))))))))
 refine Y.g (Y.ret (Y.v (Y.j ?_)))
 refine Y.i (wC rfl .g2 .g1 .z) .n ?_
 have hh:=vA (s:=s) (by assumption) (fun e=>absurd (lU.2 e) (by assumption));have hT:fY (bC s) 0 (Int.toNat (((bC s).length:Int) - 1))=fO s:=(by rw [hh.2.1,show Int.toNat (((bC s).length:Int) - 1)=(bC s).length - 1 by omega];simp [fY]);rw [xW hh.1 (by rw [←hT];assumption) (by rw [←hT];rw [ak];assumption)];exact⟨rfl,rfl⟩
 refine Y.skip (Y.ab (Y.g (Y.seq ?_)))
 refine Y.dr .z 7 fR ?_
 refine Y.sc (qs 0 7++ [(7,false)]) (by kernel_rfl) ?_
 refine Y.dm rfl rfl .z .g14 (Y.dm rfl rfl .z (.s16 (.s16 .g3)) (Y.dm rfl rfl .z (.s16 .g9) ?_))
 refine Y.h (WS.h .z (by omega)) ?_
 rintro⟨b1,rfl⟩
 refine Y.dk rfl rfl .z (aB (j:=Int.toNat (((bC s).length:Int) - 1)) rfl eQ mU (.t .g1) (.t .z) (by omega) (by omega)) ?_
 obtain⟨ca,al⟩:=aK (xs:=bC s) (j:=Int.toNat (((bC s).length:Int) - 1)) (by omega)
 refine Y.dk rfl rfl .z (aM rfl iH (.t .z) (WS.m .z al)) (Y.er (.s16 (.s16 .g15)) (Y.dk rfl rfl .z (aA rfl (.t .g4)) (Y.er (.s16 (.s16 .g15)) (Y.dk rfl rfl .z (aA rfl (.t .g1)) (Y.er (.s16 (.s16 .g15)) ?_)))))
 refine Y.q (aC rfl rfl) rfl (by decide) rfl (aA rfl .c) ?_
 refine Y.sl rfl ?_
 refine Y.w ?_
 refine Y.af (by kernel_rfl) ?_
 refine Y.g (Y.ret ?_)
 refine Y.i (wC rfl .g2 .g1 .z) .n ?_
 have hh:=vA (s:=s) (by assumption) (fun e=>absurd (lU.2 e) (by assumption));have hT:fY (bC s) 0 (Int.toNat (((bC s).length:Int) - 1))=fO s:=(by rw [hh.2.1,show Int.toNat (((bC s).length:Int) - 1)=(bC s).length - 1 by omega];simp [fY]);rw [vB hh.1 (by rw [←hT];assumption) (by rw [←hT];rw [ak];assumption),←hT,hh.2.2 _ _ (by omega) al];exact⟨rfl,rfl⟩

theorem aNi {w0:World}{S0:Bs}{f:DFs}{ah:Addr} (h0:eV dV w0 (FF w0 S0) ah f) (a:Int) (hp:bQ f.inodes.length a):
    Calls Tryz.prog 25 #[.pointer (some ah),.int .i64 a] w0 (aI w0 S0 (aHx (uN f a))):=by
 obtain⟨bp,bd,be,bf⟩:=id h0
 obtain⟨bg,bh,rfl,ai,aj⟩:=bZ be
 obtain⟨bi,bj,rfl,ax,ay,az,ab⟩:=aD ai
 obtain⟨bk,bm,rfl,a0,a1,a2,a3⟩:=aD aj
 obtain⟨bq,br⟩:=hp
 refine Y.enter (N:=31) Tryz.func25 rfl rfl (by simp) [(0,.pointer (some ah)),(1,.int .i64 a)] (by simp) (l0:= []) trivial ?_
 refine Y.seq (Y.region ?_)
 refine Y.el rfl (bB rfl aGc rfl rfl) ?_
 rintro _ _ ⟨g3,rfl,rfl⟩
 refine Y.nt (Y.seq (Y.region (Y.mv rfl .g1 (Y.nc rfl .z (Y.fa rfl .z aP (Y.le rfl bR .z bd bf (Y.mv rfl .g6 ?_)))))))
 obtain⟨bs,ac,ad⟩:=ab (by omega)
 subst ac
 obtain⟨x5,ae⟩:=aK (xs:=f.inodes) (j:=Int.toNat a) (by omega)
 obtain⟨bn,ak,al,am⟩:=ad.elem ae
 obtain⟨a4,a5,rfl,af,aa⟩:=bY ak
 obtain⟨a6,a7,rfl,an,ao,ap,aq⟩:=aD af
 obtain⟨a8,a9,rfl,ar,au,av,aw⟩:=aD aa
 have ag:=cO (i:=a) ae (by omega)
 have ba:=cP (a:=a) ae (by omega)
 have bb:=dL (a:=a) ae (by omega)
 have bc:=mR (a:=a) ae (by omega)
 refine Y.ql rfl (aB (j:=Int.toNat a) rfl cQ aT (.t .g1) (.t .z) (by omega) (by omega)) ?_
 refine Y.ql rfl (qE rfl fH (.t .z) al am aT) ?_
 refine Y.el rfl (bB rfl sX rfl rfl) ?_
 rintro _ _ ⟨g9,rfl,rfl⟩
 refine Y.es (aE rfl) rfl (esW rfl (.t .z) (.t .g1) .z aT rfl rfl) ?_
 refine Y.nt (Y.seq (Y.seq (Y.region (Y.fa rfl .z bS (Y.ld rfl bP .z .z (Y.ql rfl (bU rfl (.t .z) .c) (Y.nil ?_)))))))
 refine Y.g ?_
 refine Y.u (.t .z) (fun bo=> ?_) (fun bo=> ?_)
 refine Y.seq ?_
 refine Y.dr .z 7 fR ?_
 refine Y.sc (qs 0 5++ [(5,false),(6,true),(7,false)]) (by kernel_rfl) ?_
 refine Y.dm rfl rfl .z .g13 (Y.df rfl rfl .z .g4 bS (Y.dl rfl rfl .z bP .z .z (Y.df rfl rfl .z .g6 bL (Y.dl rfl rfl .z dX .z .z ?_))))
 refine Y.call (aC rfl rfl) rfl (by decide) rfl (bE rfl Tryz.func47 rfl rfl (bG (.t .z))) .n (fun _ _ hs tr=>aOl (tr.ctx aa)) ?_
 rintro _ _ ⟨rfl,rfl⟩
 refine Y.m .n ?_
 refine Y.sk .z ?_
 refine Y.dk rfl rfl .z (aW (ps:= [(0,.int .i64 0),(1,.int .i64 a),(2,.int .i64 x5.kind),(3,.int .i64 1),(4,.int .i64 (x5.ents.length:Int))]) (cs:= [.int .i64 0,.int .i64 a,.int .i64 x5.kind,.int .i64 1,.int .i64 (x5.ents.length:Int)]) rfl wA (by intro act hact;simp only [List.map_toArray,List.map_cons,List.map_nil,(show Val _ _ _ from .c) act hact,(show Val _ _ _ from(.t .g5)) act hact,(show Val _ _ _ from(.t .g3)) act hact,(show Val _ _ _ from .c) act hact,(show Val _ _ _ from(.t .z)) act hact]) rfl) ?_
 refine Y.es (aC rfl rfl) rfl (esW rfl (.t (.s16 .g2)) (.t .z) .g1 kV rfl rfl) ?_
 refine Y.sl rfl ?_
 refine Y.w ?_
 refine Y.af (by kernel_rfl) ?_
 refine Y.g (Y.ret (Y.j ?_))
 refine Y.i (cU rfl (.s16 .g2) uI .z kV) .n ?_
 first |(rw [wG (by omega),ag,ba];exact⟨rfl,rfl⟩) |(rw [wH (by omega),ag,bb,bc];exact⟨rfl,rfl⟩)
 refine Y.skip (Y.g (Y.seq (Y.region (Y.mv rfl .g13 (Y.fa rfl .g4 bS (Y.ld rfl bP .z .z (Y.fa rfl .g6 iZ (Y.ld rfl bP .z .z ?_))))))))
 refine Y.fa rfl .g8 gU (Y.ld rfl bP .z .z ?_)
 refine Y.ql rfl (aW (ps:= [(0,.int .i64 0),(1,.int .i64 a),(2,.int .i64 x5.kind),(3,.int .i64 x5.links),(4,.int .i64 x5.size)]) (cs:= [.int .i64 0,.int .i64 a,.int .i64 x5.kind,.int .i64 x5.links,.int .i64 x5.size]) rfl wA (by intro act hact;simp only [List.map_toArray,List.map_cons,List.map_nil,(show Val _ _ _ from .c) act hact,(show Val _ _ _ from(.t .g6)) act hact,(show Val _ _ _ from(.t .g4)) act hact,(show Val _ _ _ from(.t .g2)) act hact,(show Val _ _ _ from(.t .z)) act hact]) rfl) ?_
 refine Y.es (aE rfl) rfl (esW rfl (.t (.s16 .g3)) (.t .z) .g1 kV rfl rfl) ?_
 refine Y.nt (Y.ret ?_)
 refine Y.i (cU rfl (.s16 .g3) uI .z kV) .n ?_
 first |(rw [wG (by omega),ag,ba];exact⟨rfl,rfl⟩) |(rw [wH (by omega),ag,bb,bc];exact⟨rfl,rfl⟩)

end Go.Proofs.YtmejbfmhaoilmaaGreatDoor
/- What is proved: contracts of functions, one a function. No condition. -/
namespace Go.Proofs.YtmejbfmhaoilmaaGreatDoor
open Go Go.RowKit
set_option linter.unusedVariables false
set_option linter.unusedSimpArgs false
set_option maxHeartbeats 1000000
set_option maxRecDepth 20000
theorem c_8 {w0:World}{S0:Bs}{f:DFs}{ag:List Value} (h0:dV.ro w0 (FF w0 S0) f ag) (s:ByteArray) (au:s.size≤140737488351232) (hG:iS xX w0 (FF w0 S0)):
    Calls Tryz.prog 8 #[.agg ag.toArray,.string s] w0 (aI w0 S0 (aHw (jR f s))):=by
 obtain⟨aq,ar,rfl,aa,ab⟩:=bZ h0
 obtain⟨ac,ad,rfl,ah,ai,aj,ak⟩:=aD aa
 obtain⟨ae,af,rfl,al,am,an,ao⟩:=aD ab
 refine Y.enter (N:=22) Tryz.func8 rfl rfl (by simp) [(0,.agg #[.slice ac f.inodes.length ad,.slice ae f.data.length af]),(1,.string s)] (by simp) (l0:= []) trivial ?_
 refine Y.seq (Y.region ?_)
 refine Y.el rfl (fQ (cs:= [.slice ac f.inodes.length ad,.slice ae f.data.length af]) (n:=2) rfl (.t .z) rfl rfl) ?_
 rintro _ _ ⟨g3,rfl,rfl⟩
 refine Y.el rfl (bB rfl yQ rfl rfl) ?_
 rintro _ _ ⟨g4,rfl,rfl⟩
 refine Y.nt (Y.seq (Y.seq (Y.region (Y.ql rfl (qW rfl bX (.t .g1) .g1 bA) ?_))))
 refine Y.cl rfl rfl Tryz.func16 rfl rfl (bG (.t .z)) .n (fun _ _ hs tr=>aIi (aJ f (tr.ctx aa) (tr.ctx ab))) ?_
 rintro _ _ ⟨rfl,rfl⟩
 refine Y.m .n ?_
 refine Y.as rfl .z (Y.nt (Y.seq (Y.region (Y.mv rfl .z (Y.ql rfl (bW rfl (.t .z) .c) (Y.nt ?_))))))
 refine Y.ac (.t .z) (fun b5=> ?_) (fun b5=> ?_)
 refine Y.seq (Y.region (Y.mv rfl .g2 (Y.ql rfl (aW (cs:= [.int .i64 (cS f),.int .i64 0]) rfl yI (pv1 (.t .z)) rfl) ?_)))
 refine Y.es (aE rfl) rfl (esW rfl (.t .g7) (.t .z) .z kH rfl rfl) ?_
 refine Y.nt (Y.ret (Y.j ?_))
 refine Y.i (cU rfl .g7 tS .z kH) .n ?_
 first |(rw [aEo (by assumption)];exact⟨rfl,rfl⟩) |(rw [wK hF];exact⟨rfl,rfl⟩)
 have hF:cS f=0:=b5
 have ht:=nE hF
 refine Y.skip (Y.g (Y.seq (Y.region (Y.mv rfl .g8 ?_))))
 refine Y.cl rfl rfl Tryz.func20 rfl rfl (aS (.t .g7) (.t .z)) .n (fun _ _ hs tr=>aLz (tr.ptr .g1 (aJ f (tr.ctx aa) (tr.ctx ab))) _ (by first | assumption | omega) (by assumption) (iS.tr tr hG)) ?_
 rintro _ _ ⟨rfl,rfl⟩
 refine Y.m .n ?_
 have ap:=qV ht s
 refine Y.mv rfl .z (Y.ql rfl (bF (v:= .int .i64 ((cC f s).1)) rfl (.t .z) rfl) (Y.ql rfl (bF (v:= .int .i64 ((cC f s).2)) rfl (.t .g1) rfl) (Y.as rfl .g1 (Y.as rfl .g1 (Y.nt (Y.seq (Y.region ?_)))))))
 refine Y.mv rfl .z (Y.mv rfl .g2 (Y.ql rfl (aW (cs:= [.int .i64 ((cC f s).2),.int .i64 ((cC f s).1)]) rfl yI (pv2 (.t .g1) (.t .z)) rfl) ?_))
 refine Y.es (aE rfl) rfl (esW rfl (.t .g15) (.t .z) .z kH rfl rfl) ?_
 refine Y.nt (Y.ret ?_)
 refine Y.i (cU rfl .g15 tS .z kH) .n ?_
 first |(rw [aEo (by assumption)];exact⟨rfl,rfl⟩) |(rw [wK hF];exact⟨rfl,rfl⟩)

theorem c_9 {w0:World}{S0:Bs}{f:DFs}{ag:List Value} (h0:dV.ro w0 (FF w0 S0) f ag) (s:ByteArray) (au:s.size≤140737488351232) (hG:iS xX w0 (FF w0 S0)):
    Calls Tryz.prog 9 #[.agg ag.toArray,.string s] w0 (aI w0 S0 (aHw (qF f s))):=by
 obtain⟨aq,ar,rfl,aa,ab⟩:=bZ h0
 obtain⟨ac,ad,rfl,ah,ai,aj,ak⟩:=aD aa
 obtain⟨ae,af,rfl,al,am,an,ao⟩:=aD ab
 refine Y.enter (N:=24) Tryz.func9 rfl rfl (by simp) [(0,.agg #[.slice ac f.inodes.length ad,.slice ae f.data.length af]),(1,.string s)] (by simp) (l0:= []) trivial ?_
 refine Y.seq (Y.region ?_)
 refine Y.el rfl (fQ (cs:= [.slice ac f.inodes.length ad,.slice ae f.data.length af]) (n:=2) rfl (.t .z) rfl rfl) ?_
 rintro _ _ ⟨g3,rfl,rfl⟩
 refine Y.el rfl (bB rfl yQ rfl rfl) ?_
 rintro _ _ ⟨g4,rfl,rfl⟩
 refine Y.nt (Y.seq (Y.seq (Y.region (Y.ql rfl (qW rfl bX (.t .g1) .g1 bA) ?_))))
 refine Y.cl rfl rfl Tryz.func16 rfl rfl (bG (.t .z)) .n (fun _ _ hs tr=>aIi (aJ f (tr.ctx aa) (tr.ctx ab))) ?_
 rintro _ _ ⟨rfl,rfl⟩
 refine Y.m .n ?_
 refine Y.as rfl .z (Y.nt (Y.seq (Y.region (Y.mv rfl .z (Y.ql rfl (bW rfl (.t .z) .c) (Y.nt ?_))))))
 refine Y.ac (.t .z) (fun b5=> ?_) (fun b5=> ?_)
 refine Y.seq (Y.region (Y.mv rfl .g2 (Y.ql rfl (aW (cs:= [.int .i64 (cS f),.int .i64 0]) rfl yI (pv1 (.t .z)) rfl) ?_)))
 refine Y.es (aE rfl) rfl (esW rfl (.t .g7) (.t .z) .z kH rfl rfl) ?_
 refine Y.nt (Y.ret (Y.j ?_))
 refine Y.i (cU rfl .g7 tS .z kH) .n ?_
 first |(rw [aHn (by assumption)];exact⟨rfl,rfl⟩) |(rw [aDd hF];exact⟨rfl,rfl⟩)
 have hF:cS f=0:=b5
 have ht:=nE hF
 refine Y.skip (Y.g (Y.seq (Y.region (Y.mv rfl .g8 ?_))))
 refine Y.cl rfl rfl Tryz.func21 rfl rfl (aS (.t .g7) (.t .z)) .n (fun _ _ hs tr=>aNm (tr.ptr .g1 (aJ f (tr.ctx aa) (tr.ctx ab))) _ (by first | assumption | omega) (by assumption) (iS.tr tr hG)) ?_
 rintro _ _ ⟨rfl,rfl⟩
 refine Y.m .n ?_
 have ap:=mE (f:=f) (s:=s)
 refine Y.mv rfl .z (Y.ql rfl (bF (v:= .int .i64 ((aO f s).1)) rfl (.t .z) rfl) (Y.ql rfl (bF (v:= .string ((aO f s).2.1)) rfl (.t .g1) rfl) (Y.ql rfl (bF (v:= .int .i64 ((aO f s).2.2)) rfl (.t .g2) rfl) (Y.as rfl .g2 (Y.as rfl .g2 (Y.as rfl .g2 (Y.nt ?_)))))))
 refine Y.seq (Y.region (Y.mv rfl .z (Y.mv rfl .g3 (Y.ql rfl (aW (cs:= [.int .i64 ((aO f s).2.2),.int .i64 ((aO f s).1)]) rfl yI (pv2 (.t .g1) (.t .z)) rfl) ?_))))
 refine Y.es (aE rfl) rfl (esW rfl (.t (.s16 .g1)) (.t .z) .z kH rfl rfl) ?_
 refine Y.nt (Y.ret ?_)
 refine Y.i (cU rfl (.s16 .g1) tS .z kH) .n ?_
 first |(rw [aHn (by assumption)];exact⟨rfl,rfl⟩) |(rw [aDd hF];exact⟨rfl,rfl⟩)

theorem aNe {w0:World}{S0:Bs}{f:DFs}{ag:List Value} (h0:dV.ro w0 (FF w0 S0) f ag) (s:ByteArray) (au:s.size≤140737488351232) (hG:iS xX w0 (FF w0 S0)):
    Calls Tryz.prog 12 #[.agg ag.toArray,.string s] w0 (aI w0 S0 (aHx (gO f s))):=by
 obtain⟨aq,ar,rfl,aa,ab⟩:=bZ h0
 obtain⟨ac,ad,rfl,ah,ai,aj,ak⟩:=aD aa
 obtain⟨ae,af,rfl,al,am,an,ao⟩:=aD ab
 refine Y.enter (N:=25) Tryz.func12 rfl rfl (by simp) [(0,.agg #[.slice ac f.inodes.length ad,.slice ae f.data.length af]),(1,.string s)] (by simp) (l0:= []) trivial ?_
 refine Y.seq (Y.region ?_)
 refine Y.el rfl (fQ (cs:= [.slice ac f.inodes.length ad,.slice ae f.data.length af]) (n:=2) rfl (.t .z) rfl rfl) ?_
 rintro _ _ ⟨g3,rfl,rfl⟩
 refine Y.el rfl (bB rfl aGc rfl rfl) ?_
 rintro _ _ ⟨g4,rfl,rfl⟩
 refine Y.nt (Y.seq (Y.seq (Y.region (Y.ql rfl (qW rfl bX (.t .g1) .g1 bA) ?_))))
 refine Y.cl rfl rfl Tryz.func16 rfl rfl (bG (.t .z)) .n (fun _ _ hs tr=>aIi (aJ f (tr.ctx aa) (tr.ctx ab))) ?_
 rintro _ _ ⟨rfl,rfl⟩
 refine Y.m .n ?_
 refine Y.as rfl .z (Y.nt (Y.seq (Y.region (Y.mv rfl .z (Y.ql rfl (bW rfl (.t .z) .c) (Y.nt ?_))))))
 refine Y.ac (.t .z) (fun b5=> ?_) (fun b5=> ?_)
 refine Y.seq (Y.region (Y.mv rfl .g2 (Y.ql rfl (aW (cs:= [.int .i64 (cS f),.int .i64 0,.int .i64 0,.int .i64 0,.int .i64 0]) rfl wA (pv1 (.t .z)) rfl) ?_)))
 refine Y.es (aE rfl) rfl (esW rfl (.t .g7) (.t .z) .z kV rfl rfl) ?_
 refine Y.nt (Y.ret (Y.j ?_))
 refine Y.i (cU rfl .g7 uI .z kV) .n ?_
 first |(rw [pS (by assumption)];exact⟨rfl,rfl⟩) |(rw [pP hF (by assumption)];exact⟨rfl,rfl⟩) |(rw [oL hF (by assumption)];exact⟨rfl,rfl⟩)
 have hF:cS f=0:=b5
 have ht:=nE hF
 refine Y.skip (Y.g (Y.seq (Y.region (Y.mv rfl .g8 ?_))))
 refine Y.cl rfl rfl Tryz.func20 rfl rfl (aS (.t .g7) (.t .z)) .n (fun _ _ hs tr=>aLz (tr.ptr .g1 (aJ f (tr.ctx aa) (tr.ctx ab))) _ (by first | assumption | omega) (by assumption) (iS.tr tr hG)) ?_
 rintro _ _ ⟨rfl,rfl⟩
 refine Y.m .n ?_
 have ap:=qV ht s
 refine Y.mv rfl .z (Y.ql rfl (bF (v:= .int .i64 ((cC f s).1)) rfl (.t .z) rfl) (Y.ql rfl (bF (v:= .int .i64 ((cC f s).2)) rfl (.t .g1) rfl) (Y.as rfl .g1 (Y.as rfl .g1 (Y.nt (Y.seq (Y.seq ?_)))))))
 refine Y.region (Y.mv rfl .z (Y.ql rfl (bW rfl (.t .z) .c) (Y.nt ?_)))
 refine Y.ac (.t .z) (fun b7=> ?_) (fun b7=> ?_)
 refine Y.seq (Y.region (Y.mv rfl .g2 (Y.ql rfl (aW (cs:= [.int .i64 ((cC f s).2),.int .i64 0,.int .i64 0,.int .i64 0,.int .i64 0]) rfl wA (pv1 (.t .z)) rfl) ?_)))
 refine Y.es (aE rfl) rfl (esW rfl (.t .g16) (.t .z) .z kV rfl rfl) ?_
 refine Y.nt (Y.ret (Y.j ?_))
 refine Y.i (cU rfl .g16 uI .z kV) .n ?_
 first |(rw [pS (by assumption)];exact⟨rfl,rfl⟩) |(rw [pP hF (by assumption)];exact⟨rfl,rfl⟩) |(rw [oL hF (by assumption)];exact⟨rfl,rfl⟩)
 refine Y.skip (Y.g (Y.seq (Y.region (Y.mv rfl .g3 ?_))))
 refine Y.cl rfl rfl Tryz.func25 rfl rfl (aS (.t .g16) (.t .z)) .n (fun _ _ hs tr=>aNi (tr.ptr .g1 (aJ f (tr.ctx aa) (tr.ctx ab))) _ (by first | assumption |(constructor <;> omega))) ?_
 rintro _ _ ⟨rfl,rfl⟩
 refine Y.m .n ?_
 refine Y.es (aE rfl) rfl (esW rfl (.t .g16) (.t .z) .z kV rfl rfl) ?_
 refine Y.nt (Y.ret ?_)
 refine Y.i (cU rfl .g16 uI .z kV) .n ?_
 first |(rw [pS (by assumption)];exact⟨rfl,rfl⟩) |(rw [pP hF (by assumption)];exact⟨rfl,rfl⟩) |(rw [oL hF (by assumption)];exact⟨rfl,rfl⟩)

end Go.Proofs.YtmejbfmhaoilmaaGreatDoor
/- What is proved: contracts of functions, one a function. No condition. -/
namespace Go.Proofs.YtmejbfmhaoilmaaGreatDoor
open Go Go.RowKit
set_option linter.unusedVariables false
set_option linter.unusedSimpArgs false
set_option maxHeartbeats 1000000
set_option maxRecDepth 20000

end Go.Proofs.YtmejbfmhaoilmaaGreatDoor

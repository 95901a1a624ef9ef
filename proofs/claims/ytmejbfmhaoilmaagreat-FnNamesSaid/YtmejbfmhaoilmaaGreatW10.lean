/- What is proved: contracts of functions, one a function. No condition. -/
import Derived.Test.YtmejbfmhaoilmaaGreatBase1
import Derived.Test.YtmejbfmhaoilmaaGreatW3
namespace Go.Proofs.YtmejbfmhaoilmaaGreat
open Go Go.RowKit
set_option linter.unusedVariables false
set_option linter.unusedSimpArgs false
set_option maxHeartbeats 1000000
set_option maxRecDepth 20000
theorem aJ0 {w0:World}{S0:Bs}{x:(List Int)}{v0:Value} (h0:bY.ro w0 (FF w0 S0) x [v0]):
    Calls Tryz.prog 110 #[v0] w0 (aJ w0 S0 (fun r l=>l= [aG bY x [r]])):=by
 obtain⟨A0,c0,rfl,ae,af,ag,aa⟩:=aH h0
 refine Y.enter (N:=8) Tryz.func110 rfl rfl (by simp) [(0,.slice A0 x.length c0)] (by simp) (l0:= []) trivial ?_
 refine Y.seq (Y.region (Y.ql rfl (aA rfl .c) (Y.nt (Y.seq (Y.seq (Y.region (Y.mv rfl .g1 ?_)))))))
 refine Y.ql rfl (wP rfl eQ (.t .z) .c) (Y.nt ?_)
 refine Y.cond (.t .z) (fun b2=> ?_) (fun b2=> ?_)
 refine Y.seq (Y.region (Y.er .g2 (Y.ql rfl (aA rfl .c) (Y.nt (Y.ret (Y.r ?_))))))
 refine Y.add (c:=aG bY [] [.slice none 0 0]) (fun w S=>aN w S none) ?_
 refine Y.af .z (aAj aa (by assumption)) ?_
 refine Y.i (aY rfl .z) (.c .z .n) ?_
 rfl
 refine Y.skip (Y.g (Y.seq (Y.region ?_)))
 refine Y.el rfl (eH rfl eQ (inz iO)) ?_
 rintro _ _ ⟨g4,rfl,rfl⟩
 refine Y.mv rfl .g4 ?_
 refine Y.add (c:=aG bY ([]:(List Int)) [.slice (some ⟨g4,0,none⟩) 0 0]) (fun w S=>aN w S _) ?_
 refine Y.el rfl (eG (bC _ _ _) rfl eQ iO rfl (.t .g1) (.t .z) (.c .z .n) (fun w1 S1 tr=>tr.ctx h0) (by first | omega |(simp only [List.length_append,List.length_take,List.length_nil,List.length_cons];omega)) (by first | omega |(simp only [List.length_append,List.length_take,List.length_nil,List.length_cons];omega))) ?_
 rintro _ _ rfl
 refine Y.af .z (List.nil_append _) ?_
 refine Y.h (WS.a .z) ?_
 rintro⟨ah,ai,rfl,ab,ac,ad⟩
 refine Y.er .g5 (Y.as rfl .z (Y.nt (Y.ret ?_)))
 refine Y.i (aY rfl .z) (.c .z .n) ?_
 rfl

theorem aF6 {w0:World}{S0:Bs}{xs:(List aF)}{v0:Value} (h0:aP.ro w0 (FF w0 S0) xs [v0]) (a:Int) (hb:bJ xs=0):
    Calls Tryz.prog 134 #[v0,.int .i64 a] w0 (aJ w0 S0 (fun r l=>r= .int .i64 (pG xs a:Int)∧l= [])):=by
 obtain⟨A0,c0,rfl,ba,bb,bc,a5⟩:=aH h0
 refine Y.enter (N:=37) Tryz.func134 rfl rfl (by simp) [(0,.slice A0 xs.length c0),(1,.int .i64 a)] (by simp) (l0:= []) trivial ?_
 refine Y.seq (Y.region (Y.ql rfl (aA rfl .c) (Y.nt (Y.seq (Y.region (Y.ql rfl (aA rfl .c) (Y.nil ?_)))))))
 refine Y.g (Y.seq (Y.seq (Y.region (Y.ql rfl (aA rfl .c) (Y.nt (Y.block ?_))))))
 refine Y.aj (γ:=Nat) (fun k=> [(6,.int .i64 (k:Int)),(5,.int .i64 (fQ (aA7 a) (List.take k xs):Int)),(4,.int .i64 0),(0,.slice A0 xs.length c0),(1,.int .i64 a)]) (fun k=> []) (fun k=>k≤xs.length) (fun k=>xs.length - k) 0 (Nat.zero_le _) (.c .z (.e .g1 rfl (.c .g2 (.c .g3 (.c .g4 .n))))) (fun _ h=>h) ?_
 rintro k hk
 refine Y.seq (Y.seq (Y.region (Y.mv rfl .z (Y.mv rfl .g4 (Y.ql rfl (bM rfl cE (.t .z)) (Y.ql rfl (dJ rfl (.t .g2) (.t .z)) (Y.nt ?_)))))))
 refine Y.u (.t .z) (fun b2=> ?_) (fun b2=> ?_)
 refine Y.skip (Y.g (Y.seq (Y.block (Y.seq (Y.region (Y.ql rfl (aA rfl .c) (Y.nt ?_)))))))
 refine Y.block ?_
 obtain⟨a6,ac,ad⟩:=a5 (by omega)
 subst ac
 obtain⟨x4,an⟩:=aI (xs:=xs) (j:=k) (by omega)
 obtain⟨a7,ao,ae,af⟩:=ad.elem an
 obtain⟨ay,az,rfl,ag,ah⟩:=cK ao
 obtain⟨a0,a1,rfl,ap,aq,ar,aa⟩:=aH ag
 obtain⟨a2,a3,rfl,au,av,aw,ax⟩:=aH ah
 have g1:=yQ (aA7 a) an
 have g3:=aHk hb a
 unfold pG at g3
 refine Y.aj (γ:=Nat) (fun q=> [(7,.int .i64 (q:Int)),(6,.int .i64 (k:Int)),(5,.int .i64 ((fQ (aA7 a) (List.take k xs)+fQ (wF a) (List.take q x4.blocks):Nat):Int)),(4,.int .i64 0),(0,.slice (some a6) xs.length c0),(1,.int .i64 a)]) (fun q=> []) (fun q=>q≤x4.blocks.length) (fun q=>x4.blocks.length - q) 0 (Nat.zero_le _) (.c .z (.c .g5 (.e .g6 (congrArg (Value.int .i64) (by simp only [List.take_zero,fQ];omega)) (.c .g7 (.c .g8 (.c .g9 .n)))))) (fun _ h=>h) ?_
 rintro q hq
 have g2:=uQ (wF a) (xs:=x4.blocks) (k:=q)
 have g4:aA7 a x4=fQ (wF a) x4.blocks:=rfl
 refine Y.seq (Y.seq (Y.region (Y.mv rfl .z (Y.mv rfl .g5 (Y.mv rfl .g3 ?_)))))
 refine Y.ql rfl (aC (j:=k) rfl cE aU (.t .g1) (.t .z) rfl (by omega)) ?_
 refine Y.fa rfl .z dI (Y.le rfl fA .z ae af (Y.ql rfl (bM rfl eQ (.t .z)) (Y.ql rfl (dJ rfl (.t .g6) (.t .z)) (Y.nt ?_))))
 refine Y.u (.t .z) (fun b8=> ?_) (fun b8=> ?_)
 refine Y.skip (Y.g (Y.seq (Y.block (Y.seq (Y.region (Y.mv rfl .g12 (Y.mv rfl .g10 ?_)))))))
 refine Y.ql rfl (aC (j:=k) rfl cE aU (.t .g1) (.t .z) rfl (by omega)) ?_
 refine Y.fa rfl .z dI (Y.le rfl fA .z ae af (Y.mv rfl .g13 ?_))
 obtain⟨bd,ai,aj⟩:=aa (by omega)
 subst ai
 obtain⟨be,ab⟩:=aI (xs:=x4.blocks) (j:=q) (by omega)
 obtain⟨a4,ak,al,am⟩:=aj.elem ab
 obtain⟨rfl,a8⟩:=ak
 refine Y.ql rfl (aC (j:=q) rfl eQ jQ (.t .g1) (.t .z) rfl (by omega)) ?_
 refine Y.ql rfl (aL rfl cF (.t .z) (WS.j al am rfl)) (Y.mv rfl (.s16 .g5) (Y.ql rfl (bZ rfl (.t .g1) (.t .z)) (Y.nt ?_)))
 refine Y.u (.t .z) (fun a9=> ?_) (fun a9=> ?_)
 refine Y.region (Y.mv rfl (.s16 .g4) ?_)
 refine Y.ql rfl (bQ (c:=(((fQ (aA7 a) (List.take k xs)+fQ (wF a) (List.take q x4.blocks))+1:Nat):Int)) rfl (.t .z) .c (wr (by omega) (by omega) (by omega))) ?_
 refine Y.er (.s16 .g6) (Y.as rfl .z (Y.nil (Y.ac (Y.g (Y.region (Y.mv rfl (.s16 .g5) ?_))))))
 refine Y.ql rfl (bQ (c:=((q+1:Nat):Int)) rfl (.t .z) .c (wr (by omega) (by omega) (by omega))) ?_
 refine Y.er (.s16 .g7) (Y.as rfl .z (Y.nil ?_))
 refine Y.ae (q+1) (by omega) (by first | omega |(dsimp only;omega)) (.c .z (.c (.s16 .g8) (.e .g3 (congrArg (Value.int .i64) (by have hs:=jW (wF a) ab;unfold wF at hs ⊢;split at hs <;>(first | omega | contradiction))) (.c (.s16 .g9) (.c (.s16 .g10) (.c (.s16 .g11) .n)))))) (fun _ h=>h)
 refine Y.skip (Y.ac (Y.g (Y.region (Y.mv rfl (.s16 .g2) ?_))))
 refine Y.ql rfl (bQ (c:=((q+1:Nat):Int)) rfl (.t .z) .c (wr (by omega) (by omega) (by omega))) ?_
 refine Y.er (.s16 .g4) (Y.as rfl .z (Y.nil ?_))
 refine Y.ae (q+1) (by omega) (by first | omega |(dsimp only;omega)) (.c .z (.c (.s16 .g5) (.e (.s16 .g6) (congrArg (Value.int .i64) (by have hs:=jW (wF a) ab;unfold wF at hs ⊢;split at hs <;>(first | omega | contradiction))) (.c (.s16 .g7) (.c (.s16 .g8) (.c (.s16 .g9) .n)))))) (fun _ h=>h)
 refine Y.exit (Y.ab (Y.ab (Y.ai (Y.ac (Y.g (Y.region (Y.mv rfl .g9 ?_)))))))
 refine Y.ql rfl (bQ (c:=((k+1:Nat):Int)) rfl (.t .z) .c (wr (by omega) (by omega) (by omega))) ?_
 refine Y.er .g11 (Y.as rfl .z (Y.nil ?_))
 refine Y.ae (k+1) (by omega) (by first | omega |(dsimp only;omega)) (.c .z (.e .g12 (congrArg (Value.int .i64) (by have hs:=jW (aA7 a) an;have bf:=pS (wF a) (xs:=x4.blocks) (k:=q) (by omega);unfold aA7 at hs ⊢;omega)) (.c .g13 (.c .g14 (.c .g15 .n))))) (fun _ h=>h)
 refine Y.exit (Y.ab (Y.ab (Y.ai (Y.g (Y.seq (Y.region (Y.mv rfl .g5 (Y.er .g7 ?_))))))))
 refine Y.as rfl .z (Y.nt (Y.ret ?_))
 refine Y.i (aY rfl .z) .n ?_
 exact⟨by unfold pG;rw [pS _ (by omega)],rfl⟩

theorem aDx {w0:World}{S0:Bs}{xs:(List Int)}{v0:Value} (h0:bY.ro w0 (FF w0 S0) xs [v0]) (v:Int):
    Calls Tryz.prog 143 #[v0,.int .i64 v] w0 (aJ w0 S0 (fun r l=>r= .bool (decide (v∈xs))∧l= [])):=by
 obtain⟨A0,c0,rfl,ai,aj,ak,ag⟩:=aH h0
 refine Y.enter (N:=18) Tryz.func143 rfl rfl (by simp) [(0,.slice A0 xs.length c0),(1,.int .i64 v)] (by simp) (l0:= []) trivial ?_
 refine Y.seq (Y.region (Y.ql rfl (aA rfl .c) (Y.nt (Y.seq (Y.seq (Y.region (Y.ql rfl (aA rfl .c) ?_)))))))
 refine Y.nt (Y.block ?_)
 refine Y.aj (γ:=Nat) (fun k=> [(5,.int .i64 (k:Int)),(0,.slice A0 xs.length c0),(1,.int .i64 v)]) (fun k=> []) (fun k=>k≤xs.length∧∀j y,j<k→xs[j]? =some y→¬y=v) (fun k=>xs.length - k) 0 ⟨Nat.zero_le _,eV (q:=fun _ y=>¬y=v)⟩ (.c .z (.c .g2 (.c .g3 .n))) (fun _ h=>h) ?_
 rintro k ⟨hk,hallk⟩
 refine Y.seq (Y.seq (Y.region (Y.mv rfl .z (Y.mv rfl .g2 (Y.ql rfl (bM rfl eQ (.t .z)) (Y.ql rfl (dJ rfl (.t .g2) (.t .z)) (Y.nt ?_)))))))
 refine Y.u (.t .z) (fun b2=> ?_) (fun b2=> ?_)
 refine Y.skip (Y.g (Y.seq (Y.block (Y.seq (Y.region (Y.mv rfl .g5 (Y.mv rfl .g5 ?_)))))))
 obtain⟨al,aa,ab⟩:=ag (by omega)
 subst aa
 obtain⟨x4,ac⟩:=aI (xs:=xs) (j:=k) (by omega)
 obtain⟨ah,ad,ae,af⟩:=ab.elem ac
 obtain⟨rfl,am⟩:=ad
 refine Y.ql rfl (aC (j:=k) rfl eQ jQ (.t .g1) (.t .z) rfl (by omega)) ?_
 refine Y.ql rfl (aL rfl cF (.t .z) (WS.j ae af rfl)) (Y.mv rfl .g10 (Y.ql rfl (bZ rfl (.t .g1) (.t .z)) (Y.nt ?_)))
 refine Y.u (.t .z) (fun b6=> ?_) (fun b6=> ?_)
 refine Y.seq (Y.region (Y.ql rfl (aA rfl .c) (Y.nt (Y.ret (Y.y (Y.r (Y.r ?_)))))))
 refine Y.y (Y.r ?_)
 refine Y.i (aY rfl .z) .n ?_
 exact⟨by rw [decide_eq_true ((by assumption:x4=v) ▸ List.mem_of_getElem? ac)],rfl⟩
 refine Y.skip (Y.ac (Y.g (Y.region (Y.mv rfl .g10 ?_))))
 refine Y.ql rfl (bQ (c:=((k+1:Nat):Int)) rfl (.t .z) .c (wr (by omega) (by omega) (by omega))) ?_
 refine Y.er .g12 (Y.as rfl .z (Y.nil ?_))
 refine Y.ae (k+1) ⟨by omega,eM (q:=fun _ y=>¬y=v) hallk ac (by assumption)⟩ (by first | omega |(dsimp only;omega)) (.c .z (.c .g13 (.c .g14 .n))) (fun _ h=>h)
 refine Y.exit (Y.ab (Y.ab (Y.ai (Y.g (Y.seq (Y.region (Y.ql rfl (aA rfl .c) (Y.nil ?_))))))))
 refine Y.g (Y.ret ?_)
 refine Y.i (aY rfl .z) .n ?_
 exact⟨by rw [decide_eq_false (fun hm=>uH (k:=k) hallk (by rw [List.take_of_length_le (by omega)];exact hm))],rfl⟩

end Go.Proofs.YtmejbfmhaoilmaaGreat

/- What is proved: contracts of functions, one a function. No condition. -/
import Derived.Test.YtmejbfmhaoilmaaGreatDoorBase1
import Derived.Test.YtmejbfmhaoilmaaGreatDoorW3
namespace Go.Proofs.YtmejbfmhaoilmaaGreatDoor
open Go Go.RowKit
set_option linter.unusedVariables false
set_option linter.unusedSimpArgs false
set_option maxHeartbeats 1000000
set_option maxRecDepth 20000
theorem aOp {w0:World}{S0:Bs}{x:(List Int)}{v0:Value} (h0:bK.ro w0 (FF w0 S0) x [v0]):
    Calls Tryz.prog 94 #[v0] w0 (aI w0 S0 (fun r l=>l= [aH bK x [r]])):=by
 obtain⟨A0,c0,rfl,ae,af,ag,aa⟩:=aD h0
 refine Y.enter (N:=8) Tryz.func94 rfl rfl (by simp) [(0,.slice A0 x.length c0)] (by simp) (l0:= []) trivial ?_
 refine Y.seq (Y.region (Y.ql rfl (aA rfl .c) (Y.nt (Y.seq (Y.seq (Y.region (Y.mv rfl .g1 ?_)))))))
 refine Y.ql rfl (aJe rfl eF (.t .z) .c) (Y.nt ?_)
 refine Y.cond (.t .z) (fun b2=> ?_) (fun b2=> ?_)
 refine Y.seq (Y.region (Y.er .g2 (Y.ql rfl (aA rfl .c) (Y.nt (Y.ret (Y.j ?_))))))
 refine Y.add (c:=aH bK [] [.slice none 0 0]) (fun w S=>aL w S none) ?_
 refine Y.ah .z (aKn aa (by assumption)) ?_
 refine Y.i (aU rfl .z) (.c .z .n) ?_
 rfl
 refine Y.skip (Y.g (Y.seq (Y.region ?_)))
 refine Y.el rfl (eA rfl eF (inz gI)) ?_
 rintro _ _ ⟨g4,rfl,rfl⟩
 refine Y.mv rfl .g4 ?_
 refine Y.add (c:=aH bK ([]:(List Int)) [.slice (some ⟨g4,0,none⟩) 0 0]) (fun w S=>aL w S _) ?_
 refine Y.el rfl (eD (bT _ _ _) rfl eF gI rfl (.t .g1) (.t .z) (.c .z .n) (fun w1 S1 tr=>tr.ctx h0) (by first | omega |(simp only [List.length_append,List.length_take,List.length_nil,List.length_cons];omega)) (by first | omega |(simp only [List.length_append,List.length_take,List.length_nil,List.length_cons];omega))) ?_
 rintro _ _ rfl
 refine Y.ah .z (List.nil_append _) ?_
 refine Y.h (WS.a .z) ?_
 rintro⟨ah,ai,rfl,ab,ac,ad⟩
 refine Y.er .g5 (Y.as rfl .z (Y.nt (Y.ret ?_)))
 refine Y.i (aU rfl .z) (.c .z .n) ?_
 rfl

theorem aLl {w0:World}{S0:Bs}{xs:(List aF)}{v0:Value} (h0:bJ.ro w0 (FF w0 S0) xs [v0]) (a:Int) (hb:aZ xs=0):
    Calls Tryz.prog 56 #[v0,.int .i64 a] w0 (aI w0 S0 (fun r l=>r= .int .i64 (countB xs a:Int)∧l= [])):=by
 obtain⟨A0,c0,rfl,ba,bb,bc,a5⟩:=aD h0
 refine Y.enter (N:=37) Tryz.func56 rfl rfl (by simp) [(0,.slice A0 xs.length c0),(1,.int .i64 a)] (by simp) (l0:= []) trivial ?_
 refine Y.seq (Y.region (Y.ql rfl (aA rfl .c) (Y.nt (Y.seq (Y.region (Y.ql rfl (aA rfl .c) (Y.nil ?_)))))))
 refine Y.g (Y.seq (Y.seq (Y.region (Y.ql rfl (aA rfl .c) (Y.nt (Y.block ?_))))))
 refine Y.ai (γ:=Nat) (fun k=> [(6,.int .i64 (k:Int)),(5,.int .i64 (gJ (aAg a) (List.take k xs):Int)),(4,.int .i64 0),(0,.slice A0 xs.length c0),(1,.int .i64 a)]) (fun k=> []) (fun k=>k≤xs.length) (fun k=>xs.length - k) 0 (Nat.zero_le _) (.c .z (.e .g1 rfl (.c .g2 (.c .g3 (.c .g4 .n))))) (fun _ h=>h) ?_
 rintro k hk
 refine Y.seq (Y.seq (Y.region (Y.mv rfl .z (Y.mv rfl .g4 (Y.ql rfl (bD rfl cQ (.t .z)) (Y.ql rfl (dA rfl (.t .g2) (.t .z)) (Y.nt ?_)))))))
 refine Y.u (.t .z) (fun b2=> ?_) (fun b2=> ?_)
 refine Y.skip (Y.g (Y.seq (Y.block (Y.seq (Y.region (Y.ql rfl (aA rfl .c) (Y.nt ?_)))))))
 refine Y.block ?_
 obtain⟨a6,ac,ad⟩:=a5 (by omega)
 subst ac
 obtain⟨x4,an⟩:=aK (xs:=xs) (j:=k) (by omega)
 obtain⟨a7,ao,ae,af⟩:=ad.elem an
 obtain⟨ay,az,rfl,ag,ah⟩:=bY ao
 obtain⟨a0,a1,rfl,ap,aq,ar,aa⟩:=aD ag
 obtain⟨a2,a3,rfl,au,av,aw,ax⟩:=aD ah
 have g1:=yC (aAg a) an
 have g3:=aHs hb a
 unfold countB at g3
 refine Y.ai (γ:=Nat) (fun q=> [(7,.int .i64 (q:Int)),(6,.int .i64 (k:Int)),(5,.int .i64 ((gJ (aAg a) (List.take k xs)+gJ (wD a) (List.take q x4.blocks):Nat):Int)),(4,.int .i64 0),(0,.slice (some a6) xs.length c0),(1,.int .i64 a)]) (fun q=> []) (fun q=>q≤x4.blocks.length) (fun q=>x4.blocks.length - q) 0 (Nat.zero_le _) (.c .z (.c .g5 (.e .g6 (congrArg (Value.int .i64) (by simp only [List.take_zero,gJ];omega)) (.c .g7 (.c .g8 (.c .g9 .n)))))) (fun _ h=>h) ?_
 rintro q hq
 have g2:=uK (wD a) (xs:=x4.blocks) (k:=q)
 have g4:aAg a x4=gJ (wD a) x4.blocks:=rfl
 refine Y.seq (Y.seq (Y.region (Y.mv rfl .z (Y.mv rfl .g5 (Y.mv rfl .g3 ?_)))))
 refine Y.ql rfl (aB (j:=k) rfl cQ aT (.t .g1) (.t .z) rfl (by omega)) ?_
 refine Y.fa rfl .z dH (Y.le rfl eZ .z ae af (Y.ql rfl (bD rfl eF (.t .z)) (Y.ql rfl (dA rfl (.t .g6) (.t .z)) (Y.nt ?_))))
 refine Y.u (.t .z) (fun b8=> ?_) (fun b8=> ?_)
 refine Y.skip (Y.g (Y.seq (Y.block (Y.seq (Y.region (Y.mv rfl .g12 (Y.mv rfl .g10 ?_)))))))
 refine Y.ql rfl (aB (j:=k) rfl cQ aT (.t .g1) (.t .z) rfl (by omega)) ?_
 refine Y.fa rfl .z dH (Y.le rfl eZ .z ae af (Y.mv rfl .g13 ?_))
 obtain⟨bd,ai,aj⟩:=aa (by omega)
 subst ai
 obtain⟨be,ab⟩:=aK (xs:=x4.blocks) (j:=q) (by omega)
 obtain⟨a4,ak,al,am⟩:=aj.elem ab
 obtain⟨rfl,a8⟩:=ak
 refine Y.ql rfl (aB (j:=q) rfl eF jO (.t .g1) (.t .z) rfl (by omega)) ?_
 refine Y.ql rfl (aM rfl bP (.t .z) (WS.i al am rfl)) (Y.mv rfl (.s16 .g5) (Y.ql rfl (bU rfl (.t .g1) (.t .z)) (Y.nt ?_)))
 refine Y.u (.t .z) (fun a9=> ?_) (fun a9=> ?_)
 refine Y.region (Y.mv rfl (.s16 .g4) ?_)
 refine Y.ql rfl (bN (c:=(((gJ (aAg a) (List.take k xs)+gJ (wD a) (List.take q x4.blocks))+1:Nat):Int)) rfl (.t .z) .c (wr (by omega) (by omega) (by omega))) ?_
 refine Y.er (.s16 .g6) (Y.as rfl .z (Y.nil (Y.ab (Y.g (Y.region (Y.mv rfl (.s16 .g5) ?_))))))
 refine Y.ql rfl (bN (c:=((q+1:Nat):Int)) rfl (.t .z) .c (wr (by omega) (by omega) (by omega))) ?_
 refine Y.er (.s16 .g7) (Y.as rfl .z (Y.nil ?_))
 refine Y.ae (q+1) (by omega) (by first | omega |(dsimp only;omega)) (.c .z (.c (.s16 .g8) (.e .g3 (congrArg (Value.int .i64) (by have hs:=jY (wD a) ab;unfold wD at hs ⊢;split at hs <;>(first | omega | contradiction))) (.c (.s16 .g9) (.c (.s16 .g10) (.c (.s16 .g11) .n)))))) (fun _ h=>h)
 refine Y.skip (Y.ab (Y.g (Y.region (Y.mv rfl (.s16 .g2) ?_))))
 refine Y.ql rfl (bN (c:=((q+1:Nat):Int)) rfl (.t .z) .c (wr (by omega) (by omega) (by omega))) ?_
 refine Y.er (.s16 .g4) (Y.as rfl .z (Y.nil ?_))
 refine Y.ae (q+1) (by omega) (by first | omega |(dsimp only;omega)) (.c .z (.c (.s16 .g5) (.e (.s16 .g6) (congrArg (Value.int .i64) (by have hs:=jY (wD a) ab;unfold wD at hs ⊢;split at hs <;>(first | omega | contradiction))) (.c (.s16 .g7) (.c (.s16 .g8) (.c (.s16 .g9) .n)))))) (fun _ h=>h)
 refine Y.exit (Y.y (Y.y (Y.ag (Y.ab (Y.g (Y.region (Y.mv rfl .g9 ?_)))))))
 refine Y.ql rfl (bN (c:=((k+1:Nat):Int)) rfl (.t .z) .c (wr (by omega) (by omega) (by omega))) ?_
 refine Y.er .g11 (Y.as rfl .z (Y.nil ?_))
 refine Y.ae (k+1) (by omega) (by first | omega |(dsimp only;omega)) (.c .z (.e .g12 (congrArg (Value.int .i64) (by have hs:=jY (aAg a) an;have bf:=pJ (wD a) (xs:=x4.blocks) (k:=q) (by omega);unfold aAg at hs ⊢;omega)) (.c .g13 (.c .g14 (.c .g15 .n))))) (fun _ h=>h)
 refine Y.exit (Y.y (Y.y (Y.ag (Y.g (Y.seq (Y.region (Y.mv rfl .g5 (Y.er .g7 ?_))))))))
 refine Y.as rfl .z (Y.nt (Y.ret ?_))
 refine Y.i (aU rfl .z) .n ?_
 exact⟨by unfold countB;rw [pJ _ (by omega)],rfl⟩

theorem aJc {w0:World}{S0:Bs}{xs:(List Int)}{v0:Value} (h0:bK.ro w0 (FF w0 S0) xs [v0]) (v:Int):
    Calls Tryz.prog 73 #[v0,.int .i64 v] w0 (aI w0 S0 (fun r l=>r= .bool (decide (v∈xs))∧l= [])):=by
 obtain⟨A0,c0,rfl,ai,aj,ak,ag⟩:=aD h0
 refine Y.enter (N:=18) Tryz.func73 rfl rfl (by simp) [(0,.slice A0 xs.length c0),(1,.int .i64 v)] (by simp) (l0:= []) trivial ?_
 refine Y.seq (Y.region (Y.ql rfl (aA rfl .c) (Y.nt (Y.seq (Y.seq (Y.region (Y.ql rfl (aA rfl .c) ?_)))))))
 refine Y.nt (Y.block ?_)
 refine Y.ai (γ:=Nat) (fun k=> [(5,.int .i64 (k:Int)),(0,.slice A0 xs.length c0),(1,.int .i64 v)]) (fun k=> []) (fun k=>k≤xs.length∧∀j y,j<k→xs[j]? =some y→¬y=v) (fun k=>xs.length - k) 0 ⟨Nat.zero_le _,eN (q:=fun _ y=>¬y=v)⟩ (.c .z (.c .g2 (.c .g3 .n))) (fun _ h=>h) ?_
 rintro k ⟨hk,hallk⟩
 refine Y.seq (Y.seq (Y.region (Y.mv rfl .z (Y.mv rfl .g2 (Y.ql rfl (bD rfl eF (.t .z)) (Y.ql rfl (dA rfl (.t .g2) (.t .z)) (Y.nt ?_)))))))
 refine Y.u (.t .z) (fun b2=> ?_) (fun b2=> ?_)
 refine Y.skip (Y.g (Y.seq (Y.block (Y.seq (Y.region (Y.mv rfl .g5 (Y.mv rfl .g5 ?_)))))))
 obtain⟨al,aa,ab⟩:=ag (by omega)
 subst aa
 obtain⟨x4,ac⟩:=aK (xs:=xs) (j:=k) (by omega)
 obtain⟨ah,ad,ae,af⟩:=ab.elem ac
 obtain⟨rfl,am⟩:=ad
 refine Y.ql rfl (aB (j:=k) rfl eF jO (.t .g1) (.t .z) rfl (by omega)) ?_
 refine Y.ql rfl (aM rfl bP (.t .z) (WS.i ae af rfl)) (Y.mv rfl .g10 (Y.ql rfl (bU rfl (.t .g1) (.t .z)) (Y.nt ?_)))
 refine Y.u (.t .z) (fun b6=> ?_) (fun b6=> ?_)
 refine Y.seq (Y.region (Y.ql rfl (aA rfl .c) (Y.nt (Y.ret (Y.v (Y.j (Y.j ?_)))))))
 refine Y.v (Y.j ?_)
 refine Y.i (aU rfl .z) .n ?_
 exact⟨by rw [decide_eq_true ((by assumption:x4=v) ▸ List.mem_of_getElem? ac)],rfl⟩
 refine Y.skip (Y.ab (Y.g (Y.region (Y.mv rfl .g10 ?_))))
 refine Y.ql rfl (bN (c:=((k+1:Nat):Int)) rfl (.t .z) .c (wr (by omega) (by omega) (by omega))) ?_
 refine Y.er .g12 (Y.as rfl .z (Y.nil ?_))
 refine Y.ae (k+1) ⟨by omega,dS (q:=fun _ y=>¬y=v) hallk ac (by assumption)⟩ (by first | omega |(dsimp only;omega)) (.c .z (.c .g13 (.c .g14 .n))) (fun _ h=>h)
 refine Y.exit (Y.y (Y.y (Y.ag (Y.g (Y.seq (Y.region (Y.ql rfl (aA rfl .c) (Y.nil ?_))))))))
 refine Y.g (Y.ret ?_)
 refine Y.i (aU rfl .z) .n ?_
 exact⟨by rw [decide_eq_false (fun hm=>tO (k:=k) hallk (by rw [List.take_of_length_le (by omega)];exact hm))],rfl⟩

end Go.Proofs.YtmejbfmhaoilmaaGreatDoor

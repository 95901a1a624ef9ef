/- What is proved: contracts of functions, one a function. No condition. -/
import Derived.Test.YtmejbfmhaoilmaaGreatBase1
import Derived.Test.YtmejbfmhaoilmaaGreatW50
namespace Go.Proofs.YtmejbfmhaoilmaaGreat
open Go Go.RowKit
set_option linter.unusedVariables false
set_option linter.unusedSimpArgs false
set_option maxHeartbeats 1000000
set_option maxRecDepth 20000
theorem aLw {w0:World}{S0:Bs}{ls:(List Int)}{v0:Value} (h0:aY.ro w0 (FF w0 S0) ls [v0]) (v:Int):
    Calls Tryz.prog 18 #[v0,.int .i64 v] w0 (aI w0 S0 (fun r l=>r= .bool (decide (v∈ls))∧l= [])):=by
 obtain⟨A0,c0,rfl,ai,aj,ak,ag⟩:=aD h0
 refine Y.enter (N:=18) Tryz.func18 rfl rfl (by simp) [(0,.slice A0 ls.length c0),(1,.int .i64 v)] (by simp) (l0:= []) trivial ?_
 refine Y.seq (Y.region (Y.ql rfl (aA rfl .c) (Y.nt (Y.seq (Y.seq (Y.region (Y.ql rfl (aA rfl .c) ?_)))))))
 refine Y.nt (Y.block ?_)
 refine Y.ah (γ:=Nat) (fun k=> [(5,.int .i64 (k:Int)),(0,.slice A0 ls.length c0),(1,.int .i64 v)]) (fun k=> []) (fun k=>k≤ls.length∧∀j y,j<k→ls[j]? =some y→¬y=v) (fun k=>ls.length - k) 0 ⟨Nat.zero_le _,eR (q:=fun _ y=>¬y=v)⟩ (.c .z (.c .g2 (.c .g3 .n))) (fun _ h=>h) ?_
 rintro k ⟨hk,hallk⟩
 refine Y.seq (Y.seq (Y.region (Y.mv rfl .z (Y.mv rfl .g2 (Y.ql rfl (bE rfl dN (.t .z)) (Y.ql rfl (cU rfl (.t .g2) (.t .z)) (Y.nt ?_)))))))
 refine Y.u (.t .z) (fun b2=> ?_) (fun b2=> ?_)
 refine Y.skip (Y.g (Y.seq (Y.block (Y.seq (Y.region (Y.mv rfl .g5 (Y.mv rfl .g5 ?_)))))))
 obtain⟨al,aa,ab⟩:=ag (by omega)
 subst aa
 obtain⟨x4,ac⟩:=aJ (xs:=ls) (j:=k) (by omega)
 obtain⟨ah,ad,ae,af⟩:=ab.elem ac
 obtain⟨rfl,am⟩:=ad
 refine Y.ql rfl (aB (j:=k) rfl dN hP (.t .g1) (.t .z) rfl (by omega)) ?_
 refine Y.ql rfl (aN rfl bR (.t .z) (WS.i ae af rfl)) (Y.mv rfl .g10 (Y.ql rfl (bP rfl (.t .g1) (.t .z)) (Y.nt ?_)))
 refine Y.u (.t .z) (fun b6=> ?_) (fun b6=> ?_)
 refine Y.seq (Y.region (Y.ql rfl (aA rfl .c) (Y.nt (Y.ret (Y.v (Y.m (Y.m ?_)))))))
 refine Y.v (Y.m ?_)
 refine Y.j (aT rfl .z) .n ?_
 exact⟨by rw [decide_eq_true ((by assumption:x4=v) ▸ List.mem_of_getElem? ac)],rfl⟩
 refine Y.skip (Y.y (Y.g (Y.region (Y.mv rfl .g10 ?_))))
 refine Y.ql rfl (bG (c:=((k+1:Nat):Int)) rfl (.t .z) .c (wr (by omega) (by omega) (by omega))) ?_
 refine Y.er .g12 (Y.as rfl .z (Y.nil ?_))
 refine Y.ae (k+1) ⟨by omega,dY (q:=fun _ y=>¬y=v) hallk ac (by assumption)⟩ (by first | omega |(dsimp only;omega)) (.c .z (.c .g13 (.c .g14 .n))) (fun _ h=>h)
 refine Y.exit (Y.w (Y.w (Y.ag (Y.g (Y.seq (Y.region (Y.ql rfl (aA rfl .c) (Y.nil ?_))))))))
 refine Y.g (Y.ret ?_)
 refine Y.j (aT rfl .z) .n ?_
 exact⟨by rw [decide_eq_false (fun hm=>pR (k:=k) hallk (by rw [List.take_of_length_le (by omega)];exact hm))],rfl⟩

end Go.Proofs.YtmejbfmhaoilmaaGreat

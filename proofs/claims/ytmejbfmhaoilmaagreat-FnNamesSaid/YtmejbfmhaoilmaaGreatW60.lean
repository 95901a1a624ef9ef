/- What is proved: contracts of functions, one a function. No condition. -/
import Derived.Test.YtmejbfmhaoilmaaGreatBase1
import Derived.Test.YtmejbfmhaoilmaaGreatW1
import Derived.Test.YtmejbfmhaoilmaaGreatBase2
namespace Go.Proofs.YtmejbfmhaoilmaaGreat
open Go Go.RowKit
set_option linter.unusedVariables false
set_option linter.unusedSimpArgs false
set_option maxHeartbeats 1000000
set_option maxRecDepth 20000
theorem aLz {w0:World}{S0:Bs}{x:(List ByteArray)}{v0:Value} (h0:fB.ro w0 (FF w0 S0) x [v0]):
    Calls Tryz.prog 206 #[v0] w0 (aJ w0 S0 (fun r l=>r= .int .i64 (mQ x)∧l= [])):=by
 obtain⟨A0,c0,rfl,ai,aj,ak,ag⟩:=aH h0
 refine Y.enter (N:=22) Tryz.func206 rfl rfl (by simp) [(0,.slice A0 x.length c0)] (by simp) (l0:= []) trivial ?_
 refine Y.seq (Y.region (Y.ql rfl (aA rfl .c) (Y.nt (Y.seq (Y.seq (Y.region (Y.mv rfl .g1 ?_)))))))
 refine Y.ql rfl (bM rfl hZ (.t .z)) (Y.ql rfl (gO rfl (.t .z) .c) (Y.nt ?_))
 refine Y.u (.t .z) (fun b2=> ?_) (fun b2=> ?_)
 refine Y.seq (Y.region (Y.er .g3 (Y.ql rfl (aA rfl .c) (Y.nt (Y.ret (Y.r ?_))))))
 refine Y.i (aY rfl .z) .n ?_
 exact⟨by first |(rw [wV (by omega)];done) |(rw [xK (by omega) hallk (by omega)];done),rfl⟩
 refine Y.skip (Y.g (Y.seq (Y.seq (Y.region (Y.ql rfl (aA rfl .c) (Y.nt (Y.block ?_)))))))
 refine Y.aj (γ:=Nat) (fun k=> [(3,.int .i64 (k:Int)),(0,.slice A0 x.length c0)]) (fun k=> []) (fun k=>k≤x.length∧∀(j:Nat) (s:ByteArray),j<k→x[j]? =some s→cD s=0) (fun k=>x.length - k) 0 ⟨Nat.zero_le _,eV (q:=fun _ (s:ByteArray)=>cD s=0)⟩ (.c .z (.c .g5 .n)) (fun _ h=>h) ?_
 rintro k ⟨hk,hallk⟩
 refine Y.seq (Y.seq (Y.region (Y.mv rfl .z (Y.mv rfl .g2 (Y.ql rfl (bM rfl hZ (.t .z)) (Y.ql rfl (dJ rfl (.t .g2) (.t .z)) (Y.nt ?_)))))))
 refine Y.u (.t .z) (fun b3=> ?_) (fun b3=> ?_)
 refine Y.skip (Y.g (Y.seq (Y.block (Y.seq (Y.region (Y.mv rfl .g5 (Y.mv rfl .g5 ?_)))))))
 obtain⟨al,aa,ab⟩:=ag (by omega)
 subst aa
 obtain⟨x5,ac⟩:=aI (xs:=x) (j:=k) (by omega)
 obtain⟨ah,ad,ae,af⟩:=ab.elem ac
 obtain⟨rfl,am⟩:=ad
 refine Y.ql rfl (aC (j:=k) rfl hZ tF (.t .g1) (.t .z) rfl (by omega)) ?_
 refine Y.ql rfl (aL rfl iR (.t .z) (WS.j ae af rfl)) ?_
 refine Y.cl rfl rfl Tryz.func126 rfl rfl (bT (.t .z)) .n (fun _ _ hs tr=>aGh _ (by first | assumption | omega)) ?_
 rintro _ _ ⟨rfl,rfl⟩
 refine Y.m .n ?_
 refine Y.as rfl .z (Y.nt (Y.seq (Y.region (Y.mv rfl .z (Y.ql rfl (cU rfl (.t .z) .c) (Y.nt ?_))))))
 refine Y.ad (.t .z) (fun b7=> ?_) (fun b7=> ?_)
 refine Y.seq (Y.region (Y.mv rfl .g2 (Y.as rfl .z (Y.nt (Y.ret (Y.y (Y.r ?_)))))))
 refine Y.r (Y.y (Y.r ?_))
 refine Y.i (aY rfl .z) .n ?_
 exact⟨by first |(rw [wV (by omega)];done) |(rw [aH9 (by omega) hallk ac (by assumption)];done) |(rw [xK (by omega) hallk (by omega)];done),rfl⟩
 refine Y.skip (Y.ac (Y.g (Y.region (Y.mv rfl .g12 ?_))))
 refine Y.ql rfl (bQ (c:=((k+1:Nat):Int)) rfl (.t .z) .c (wr (by omega) (by omega) (by omega))) ?_
 refine Y.er .g14 (Y.as rfl .z (Y.nil ?_))
 refine Y.ae (k+1) ⟨by omega,eM (q:=fun _ (s:ByteArray)=>cD s=0) hallk ac (by first | assumption | omega)⟩ (by first | omega |(dsimp only;omega)) (.c .z (.c .g15 .n)) (fun _ h=>h)
 refine Y.exit (Y.ab (Y.ab (Y.ai (Y.g (Y.seq (Y.region (Y.ql rfl (aA rfl .c) (Y.nil ?_))))))))
 refine Y.g (Y.ret ?_)
 refine Y.i (aY rfl .z) .n ?_
 exact⟨by first |(rw [wV (by omega)];done) |(rw [xK (by omega) hallk (by omega)];done),rfl⟩

theorem aLr {w0:World}{S0:Bs}{x:(List ByteArray)}{v0:Value} (h0:fB.ro w0 (FF w0 S0) x [v0]) (hok:∀s,s∈x→cD s=0) (hl:x.length≤6):
    Calls Tryz.prog 181 #[v0] w0 (aJ w0 S0 (fun r l=>r= .string (aBs x)∧l= [])):=by
 obtain⟨A0,c0,rfl,aj,ak,al,ah⟩:=aH h0
 have am:(⟨#[47]⟩:ByteArray).size=1:=rfl
 refine Y.enter (N:=21) Tryz.func181 rfl rfl (by simp) [(0,.slice A0 x.length c0)] (by simp) (l0:= []) trivial ?_
 refine Y.seq (Y.region (Y.ql rfl (aA rfl .c) (Y.nt (Y.seq (Y.region (Y.ql rfl (aA rfl .c) (Y.nil ?_)))))))
 refine Y.g (Y.seq (Y.seq (Y.region (Y.ql rfl (aA rfl .c) (Y.nt (Y.block ?_))))))
 refine Y.aj (γ:=Nat) (fun k=> [(4,.int .i64 (k:Int)),(3,.string (jnB (List.take k x))),(2,.string (⟨#[]⟩)),(0,.slice A0 x.length c0)]) (fun k=> []) (fun k=>k≤x.length) (fun k=>x.length - k) 0 (Nat.zero_le _) (.c .z (.e .g1 (congrArg Value.string (show(⟨#[]⟩:ByteArray)=jnB (List.take 0 x) from rfl)) (.c .g2 (.c .g3 .n)))) (fun _ h=>h) ?_
 rintro k hk
 have hjs:=aB1 (xs:=List.take k x) (fun s hs=>hok s (List.mem_of_mem_take hs))
 have hjt:= @List.length_take _ k x
 refine Y.seq (Y.seq (Y.region (Y.mv rfl .z (Y.mv rfl .g4 (Y.ql rfl (bM rfl hZ (.t .z)) (Y.ql rfl (dJ rfl (.t .g2) (.t .z)) (Y.nt ?_)))))))
 refine Y.u (.t .z) (fun b2=> ?_) (fun b2=> ?_)
 refine Y.skip (Y.g (Y.seq (Y.block (Y.region (Y.mv rfl .g5 ?_)))))
 refine Y.ql rfl (aF8 rfl (.t .z) .c (by first | omega |(rw [ByteArray.size_append];omega))) ?_
 refine Y.mv rfl .g9 (Y.mv rfl .g7 ?_)
 obtain⟨an,aa,ab⟩:=ah (by omega)
 subst aa
 obtain⟨x4,ac⟩:=aI (xs:=x) (j:=k) (by omega)
 obtain⟨ai,ad,ae,af⟩:=ab.elem ac
 obtain⟨rfl,ao⟩:=ad
 have ag:=(rV (hok _ (List.mem_of_getElem? ac))).1
 refine Y.ql rfl (aC (j:=k) rfl hZ tF (.t .g1) (.t .z) rfl (by omega)) ?_
 refine Y.ql rfl (aL rfl iR (.t .z) (WS.j ae af rfl)) ?_
 refine Y.ql rfl (aF8 rfl (.t .g4) (.t .z) (by first | omega |(rw [ByteArray.size_append];omega))) ?_
 refine Y.er .g12 (Y.as rfl .z (Y.nil (Y.ac (Y.g (Y.region (Y.mv rfl .g12 ?_))))))
 refine Y.ql rfl (bQ (c:=((k+1:Nat):Int)) rfl (.t .z) .c (wr (by omega) (by omega) (by omega))) ?_
 refine Y.er .g14 (Y.as rfl .z (Y.nil ?_))
 refine Y.ae (k+1) (by omega) (by first | omega |(dsimp only;omega)) (.c .z (.e .g3 (congrArg Value.string (aL5 ac)) (.c .g15 (.c .g16 .n)))) (fun _ h=>h)
 refine Y.exit (Y.ab (Y.ab (Y.ai (Y.g (Y.seq (Y.seq (Y.region (Y.mv rfl .g5 ?_))))))))
 refine Y.ql rfl (rM rfl (.t .z) .c) (Y.nt ?_)
 refine Y.u (.t .z) (fun b6=> ?_) (fun b6=> ?_)
 refine Y.seq (Y.region (Y.er .g8 (Y.ql rfl (aA rfl .c) (Y.nt (Y.ret (Y.r ?_))))))
 refine Y.i (aY rfl .z) .n ?_
 first |(exact⟨congrArg Value.string (by rw [List.take_of_length_le (by omega)] at *;exact(aE5 (by assumption)).symm),rfl⟩) |(exact⟨congrArg Value.string (by rw [List.take_of_length_le (by omega)] at *;exact(aEf (by assumption)).symm),rfl⟩)
 refine Y.skip (Y.g (Y.seq (Y.region (Y.mv rfl .g7 (Y.er .g9 (Y.as rfl .z (Y.nt ?_)))))))
 refine Y.ret ?_
 refine Y.i (aY rfl .z) .n ?_
 first |(exact⟨congrArg Value.string (by rw [List.take_of_length_le (by omega)] at *;exact(aE5 (by assumption)).symm),rfl⟩) |(exact⟨congrArg Value.string (by rw [List.take_of_length_le (by omega)] at *;exact(aEf (by assumption)).symm),rfl⟩)

end Go.Proofs.YtmejbfmhaoilmaaGreat

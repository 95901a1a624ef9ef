/- What is proved: contracts of functions, one a function. No condition. -/
import Derived.Test.YtmejbfmhaoilmaaGreatBase1
import Derived.Test.YtmejbfmhaoilmaaGreatW1
namespace Go.Proofs.YtmejbfmhaoilmaaGreat
open Go Go.RowKit
set_option linter.unusedVariables false
set_option linter.unusedSimpArgs false
set_option maxHeartbeats 1000000
set_option maxRecDepth 20000
theorem aL3 {w0:World}{S0:Bs}{x:(List ByteArray)}{v0:Value} (h0:fJ.ro w0 (FF w0 S0) x [v0]):
    Calls Tryz.prog 206 #[v0] w0 (aI w0 S0 (fun r l=>r= .int .i64 (mM x)∧l= [])):=by
 obtain⟨A0,c0,rfl,ai,aj,ak,ag⟩:=aD h0
 refine Y.enter (N:=22) Tryz.func206 rfl rfl (by simp) [(0,.slice A0 x.length c0)] (by simp) (l0:= []) trivial ?_
 refine Y.seq (Y.region (Y.ql rfl (aA rfl .c) (Y.nt (Y.seq (Y.seq (Y.region (Y.mv rfl .g1 ?_)))))))
 refine Y.ql rfl (bE rfl jJ (.t .z)) (Y.ql rfl (gA rfl (.t .z) .c) (Y.nt ?_))
 refine Y.u (.t .z) (fun b2=> ?_) (fun b2=> ?_)
 refine Y.seq (Y.region (Y.er .g3 (Y.ql rfl (aA rfl .c) (Y.nt (Y.ret (Y.m ?_))))))
 refine Y.j (aT rfl .z) .n ?_
 exact⟨by first |(rw [xS (by omega)];done) |(rw [xE (by omega) hallk (by omega)];done),rfl⟩
 refine Y.skip (Y.g (Y.seq (Y.seq (Y.region (Y.ql rfl (aA rfl .c) (Y.nt (Y.block ?_)))))))
 refine Y.ah (γ:=Nat) (fun k=> [(3,.int .i64 (k:Int)),(0,.slice A0 x.length c0)]) (fun k=> []) (fun k=>k≤x.length∧∀(j:Nat) (s:ByteArray),j<k→x[j]? =some s→cK s=0) (fun k=>x.length - k) 0 ⟨Nat.zero_le _,eR (q:=fun _ (s:ByteArray)=>cK s=0)⟩ (.c .z (.c .g5 .n)) (fun _ h=>h) ?_
 rintro k ⟨hk,hallk⟩
 refine Y.seq (Y.seq (Y.region (Y.mv rfl .z (Y.mv rfl .g2 (Y.ql rfl (bE rfl jJ (.t .z)) (Y.ql rfl (cU rfl (.t .g2) (.t .z)) (Y.nt ?_)))))))
 refine Y.u (.t .z) (fun b3=> ?_) (fun b3=> ?_)
 refine Y.skip (Y.g (Y.seq (Y.block (Y.seq (Y.region (Y.mv rfl .g5 (Y.mv rfl .g5 ?_)))))))
 obtain⟨al,aa,ab⟩:=ag (by omega)
 subst aa
 obtain⟨x5,ac⟩:=aJ (xs:=x) (j:=k) (by omega)
 obtain⟨ah,ad,ae,af⟩:=ab.elem ac
 obtain⟨rfl,am⟩:=ad
 refine Y.ql rfl (aB (j:=k) rfl jJ uW (.t .g1) (.t .z) rfl (by omega)) ?_
 refine Y.ql rfl (aN rfl kP (.t .z) (WS.i ae af rfl)) ?_
 refine Y.cl rfl rfl Tryz.func126 rfl rfl (bH (.t .z)) .n (fun _ _ hs tr=>aIu _ (by first | assumption | omega)) ?_
 rintro _ _ ⟨rfl,rfl⟩
 refine Y.r .n ?_
 refine Y.as rfl .z (Y.nt (Y.seq (Y.region (Y.mv rfl .z (Y.ql rfl (cC rfl (.t .z) .c) (Y.nt ?_))))))
 refine Y.ad (.t .z) (fun b7=> ?_) (fun b7=> ?_)
 refine Y.seq (Y.region (Y.mv rfl .g2 (Y.as rfl .z (Y.nt (Y.ret (Y.v (Y.m ?_)))))))
 refine Y.m (Y.v (Y.m ?_))
 refine Y.j (aT rfl .z) .n ?_
 exact⟨by first |(rw [xS (by omega)];done) |(rw [aFw (by omega) hallk ac (by assumption)];done) |(rw [xE (by omega) hallk (by omega)];done),rfl⟩
 refine Y.skip (Y.y (Y.g (Y.region (Y.mv rfl .g12 ?_))))
 refine Y.ql rfl (bG (c:=((k+1:Nat):Int)) rfl (.t .z) .c (wr (by omega) (by omega) (by omega))) ?_
 refine Y.er .g14 (Y.as rfl .z (Y.nil ?_))
 refine Y.ae (k+1) ⟨by omega,dY (q:=fun _ (s:ByteArray)=>cK s=0) hallk ac (by first | assumption | omega)⟩ (by first | omega |(dsimp only;omega)) (.c .z (.c .g15 .n)) (fun _ h=>h)
 refine Y.exit (Y.w (Y.w (Y.ag (Y.g (Y.seq (Y.region (Y.ql rfl (aA rfl .c) (Y.nil ?_))))))))
 refine Y.g (Y.ret ?_)
 refine Y.j (aT rfl .z) .n ?_
 exact⟨by first |(rw [xS (by omega)];done) |(rw [xE (by omega) hallk (by omega)];done),rfl⟩

theorem aLf {w0:World}{S0:Bs}{x:(List ByteArray)}{v0:Value} (h0:fJ.ro w0 (FF w0 S0) x [v0]) (hok:∀s,s∈x→cK s=0) (hl:x.length≤6):
    Calls Tryz.prog 181 #[v0] w0 (aI w0 S0 (fun r l=>r= .string (aBn x)∧l= [])):=by
 obtain⟨A0,c0,rfl,aj,ak,al,ah⟩:=aD h0
 have am:(⟨#[47]⟩:ByteArray).size=1:=rfl
 refine Y.enter (N:=21) Tryz.func181 rfl rfl (by simp) [(0,.slice A0 x.length c0)] (by simp) (l0:= []) trivial ?_
 refine Y.seq (Y.region (Y.ql rfl (aA rfl .c) (Y.nt (Y.seq (Y.region (Y.ql rfl (aA rfl .c) (Y.nil ?_)))))))
 refine Y.g (Y.seq (Y.seq (Y.region (Y.ql rfl (aA rfl .c) (Y.nt (Y.block ?_))))))
 refine Y.ah (γ:=Nat) (fun k=> [(4,.int .i64 (k:Int)),(3,.string (jnB (List.take k x))),(2,.string (⟨#[]⟩)),(0,.slice A0 x.length c0)]) (fun k=> []) (fun k=>k≤x.length) (fun k=>x.length - k) 0 (Nat.zero_le _) (.c .z (.e .g1 (congrArg Value.string (show(⟨#[]⟩:ByteArray)=jnB (List.take 0 x) from rfl)) (.c .g2 (.c .g3 .n)))) (fun _ h=>h) ?_
 rintro k hk
 have hjs:=aBy (xs:=List.take k x) (fun s hs=>hok s (List.mem_of_mem_take hs))
 have hjt:= @List.length_take _ k x
 refine Y.seq (Y.seq (Y.region (Y.mv rfl .z (Y.mv rfl .g4 (Y.ql rfl (bE rfl jJ (.t .z)) (Y.ql rfl (cU rfl (.t .g2) (.t .z)) (Y.nt ?_)))))))
 refine Y.u (.t .z) (fun b2=> ?_) (fun b2=> ?_)
 refine Y.skip (Y.g (Y.seq (Y.block (Y.region (Y.mv rfl .g5 ?_)))))
 refine Y.ql rfl (aGp rfl (.t .z) .c (by first | omega |(rw [ByteArray.size_append];omega))) ?_
 refine Y.mv rfl .g9 (Y.mv rfl .g7 ?_)
 obtain⟨an,aa,ab⟩:=ah (by omega)
 subst aa
 obtain⟨x4,ac⟩:=aJ (xs:=x) (j:=k) (by omega)
 obtain⟨ai,ad,ae,af⟩:=ab.elem ac
 obtain⟨rfl,ao⟩:=ad
 have ag:=(uC (hok _ (List.mem_of_getElem? ac))).1
 refine Y.ql rfl (aB (j:=k) rfl jJ uW (.t .g1) (.t .z) rfl (by omega)) ?_
 refine Y.ql rfl (aN rfl kP (.t .z) (WS.i ae af rfl)) ?_
 refine Y.ql rfl (aGp rfl (.t .g4) (.t .z) (by first | omega |(rw [ByteArray.size_append];omega))) ?_
 refine Y.er .g12 (Y.as rfl .z (Y.nil (Y.y (Y.g (Y.region (Y.mv rfl .g12 ?_))))))
 refine Y.ql rfl (bG (c:=((k+1:Nat):Int)) rfl (.t .z) .c (wr (by omega) (by omega) (by omega))) ?_
 refine Y.er .g14 (Y.as rfl .z (Y.nil ?_))
 refine Y.ae (k+1) (by omega) (by first | omega |(dsimp only;omega)) (.c .z (.e .g3 (congrArg Value.string (aKk ac)) (.c .g15 (.c .g16 .n)))) (fun _ h=>h)
 refine Y.exit (Y.w (Y.w (Y.ag (Y.g (Y.seq (Y.seq (Y.region (Y.mv rfl .g5 ?_))))))))
 refine Y.ql rfl (tV rfl (.t .z) .c) (Y.nt ?_)
 refine Y.u (.t .z) (fun b6=> ?_) (fun b6=> ?_)
 refine Y.seq (Y.region (Y.er .g8 (Y.ql rfl (aA rfl .c) (Y.nt (Y.ret (Y.m ?_))))))
 refine Y.j (aT rfl .z) .n ?_
 first |(exact⟨congrArg Value.string (by rw [List.take_of_length_le (by omega)] at *;exact(aEd (by assumption)).symm),rfl⟩) |(exact⟨congrArg Value.string (by rw [List.take_of_length_le (by omega)] at *;exact(aD2 (by assumption)).symm),rfl⟩)
 refine Y.skip (Y.g (Y.seq (Y.region (Y.mv rfl .g7 (Y.er .g9 (Y.as rfl .z (Y.nt ?_)))))))
 refine Y.ret ?_
 refine Y.j (aT rfl .z) .n ?_
 first |(exact⟨congrArg Value.string (by rw [List.take_of_length_le (by omega)] at *;exact(aEd (by assumption)).symm),rfl⟩) |(exact⟨congrArg Value.string (by rw [List.take_of_length_le (by omega)] at *;exact(aD2 (by assumption)).symm),rfl⟩)

end Go.Proofs.YtmejbfmhaoilmaaGreat

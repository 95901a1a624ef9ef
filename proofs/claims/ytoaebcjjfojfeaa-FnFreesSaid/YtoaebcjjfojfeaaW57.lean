/- What is proved: contracts of functions, one a function. No condition. -/
import Derived.Test.YtoaebcjjfojfeaaW52
namespace Go.Proofs.Ytoaebcjjfojfeaa
open Go Go.RowKit
set_option linter.unusedVariables false
set_option linter.unusedSimpArgs false
set_option maxHeartbeats 1000000 in
set_option maxRecDepth 20000 in
theorem c_62 {w0 : World} {S0 : Bs} {ls : (List Int)} {v0 : Value} (h0 : kSl_2.ro w0 (FF w0 S0) ls [v0]) (v : Int)  :
    Calls Try.prog 62 #[v0, .int .i64 v] w0 (TriPost w0 S0 (fun r l => r = .bool (decide (v ∈ ls)) ∧ l = [])) := by
 obtain ⟨A0, c0, rfl, hl0, hm0, hb0, he0⟩ := ro_form h0
 refine FJ.enter (N := 18) Try.func62 rfl rfl (by simp) [(0, .slice A0 ls.length c0), (1, .int .i64 v)] (by simp) (l0 := []) trivial ?_
 refine FJ.seq (FJ.region (FJ.ql rfl (q_assign rfl .c) (FJ.nil (FJ.then_ ?_))))
 refine FJ.seq (FJ.seq (FJ.region (FJ.ql rfl (q_assign rfl .c) (FJ.nil ?_))))
 refine FJ.then_ (FJ.block ?_)
 refine FJ.loopi (γ := Nat) (fun k => [(5, .int .i64 (k : Int)), (0, .slice A0 ls.length c0), (1, .int .i64 v)]) (fun k => []) (fun k => k ≤ ls.length ∧ ∀ j y, j < k → ls[j]? = some y → ¬ y = v) (fun k => ls.length - k) 0 ⟨Nat.zero_le _, all_zero (q := fun _ y => ¬ y = v)⟩ (.c .z (.c (.s (.s .z)) (.c (.s (.s (.s .z))) .n))) (fun _ h => h) ?_
 rintro k ⟨hk, hallk⟩
 refine FJ.seq (FJ.seq (FJ.region (FJ.ql rfl (q_move rfl (.t .z)) (FJ.ql rfl (q_move rfl (.t (.s (.s .z)))) ?_))))
 refine FJ.ql rfl (q_len rfl u_22 (.t .z)) (FJ.ql rfl (q_lss rfl (.t (.s (.s .z))) (.t .z)) (FJ.nil (FJ.then_ ?_)))
 refine FJ.condP (.t .z) (fun b2 => ?_) (fun b2 => ?_)
 refine FJ.skip (FJ.then_ (FJ.seq (FJ.block (FJ.seq ?_))))
 refine FJ.region (FJ.ql rfl (q_move rfl (.t (.s4 (.s .z)))) (FJ.ql rfl (q_move rfl (.t (.s4 (.s .z)))) ?_))
 obtain ⟨ad3, hAad3, hrad3⟩ := he0 (by omega)
 subst hAad3
 obtain ⟨x4, hx4⟩ := get_ex (xs := ls) (j := k) (by omega)
 obtain ⟨ece5, hre5, hFe5, hce5⟩ := hrad3.elem hx4
 obtain ⟨rfl, se5⟩ := hre5
 refine FJ.ql rfl (q_indexAddr (j := k) rfl u_22 sz_2 (.t (.s .z)) (.t .z) rfl (by omega)) ?_
 refine FJ.ql rfl (q_load rfl ag_2 (.t .z) (WS.el0 hFe5 hce5 rfl)) (FJ.ql rfl (q_move rfl (.t (.s4 (.s4 (.s (.s .z)))))) (FJ.ql rfl (q_eql rfl (.t (.s .z)) (.t .z)) (FJ.nil (FJ.then_ ?_))))
 refine FJ.condP (.t .z) (fun b6 => ?_) (fun b6 => ?_)
 refine FJ.seq (FJ.region (FJ.ql rfl (q_assign rfl .c) (FJ.nil (FJ.then_ ?_))))
 refine FJ.ret (FJ.inBR (FJ.thenR (FJ.thenR (FJ.inBR ?_))))
 refine FJ.thenR ?_
 refine FJ.doneS (res1 rfl .z) .n ?_
 exact ⟨by rw [decide_eq_true ((by assumption : x4 = v) ▸ List.mem_of_getElem? hx4)], rfl⟩
 refine FJ.skip (FJ.inBN (FJ.then_ (FJ.region (FJ.ql rfl (q_move rfl (.t (.s4 (.s4 (.s (.s .z)))))) ?_))))
 refine FJ.ql rfl (q_add (c := ((k + 1 : Nat) : Int)) rfl (.t .z) .c (wr (by omega) (by omega) (by omega))) ?_
 refine FJ.er (.s4 (.s4 (.s4 .z))) (FJ.ql rfl (q_assign rfl (.t .z)) (FJ.nil ?_))
 refine FJ.again (k + 1) ⟨by omega, all_succ (q := fun _ y => ¬ y = v) hallk hx4 (by assumption)⟩ (by first | omega | (dsimp only; omega)) (.c .z (.c (.s4 (.s4 (.s4 (.s .z)))) (.c (.s4 (.s4 (.s4 (.s (.s .z))))) .n))) (fun _ h => h)
 refine FJ.exit (FJ.thenE (FJ.thenE (FJ.inB (FJ.then_ ?_))))
 refine FJ.seq (FJ.region (FJ.ql rfl (q_assign rfl .c) (FJ.nil (FJ.then_ ?_))))
 refine FJ.ret ?_
 refine FJ.doneS (res1 rfl .z) .n ?_
 exact ⟨by rw [decide_eq_false (fun hm => not_mem_take (k := k) hallk (by rw [List.take_of_length_le (by omega)]; exact hm))], rfl⟩

end Go.Proofs.Ytoaebcjjfojfeaa

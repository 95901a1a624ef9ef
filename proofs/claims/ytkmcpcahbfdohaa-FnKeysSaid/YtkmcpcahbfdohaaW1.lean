/- What is proved: contracts of functions, one a function. No condition. -/
import Derived.Test.YtkmcpcahbfdohaaTypes
import Derived.Test.YtkmcpcahbfdohaaBase1
namespace Go.Proofs.Ytkmcpcahbfdohaa
open Go Go.RowKit
set_option linter.unusedVariables false
set_option linter.unusedSimpArgs false
set_option maxHeartbeats 1000000 in
set_option maxRecDepth 20000 in
theorem c_77 {w0 : World} {S0 : Bs} (n : Int) (lo : Int) (hi : Int)  :
    Calls Try.prog 77 #[.int .i64 n, .int .i64 lo, .int .i64 hi] w0 (TriPost w0 S0 (fun r l => r = .bool (decide (lo ≤ n ∧ n ≤ hi)) ∧ l = [])) := by
 refine FJ.enter (N := 15) Try.func77 rfl rfl (by simp) [(0, .int .i64 n), (1, .int .i64 lo), (2, .int .i64 hi)] (by simp) (l0 := []) trivial ?_
 refine FJ.seq (FJ.region (FJ.ql rfl (q_assign rfl .c) (FJ.nil (FJ.then_ ?_))))
 refine FJ.seq (FJ.region (FJ.ql rfl (q_move rfl (.t (.s .z))) (FJ.ql rfl (q_move rfl (.t (.s (.s (.s .z))))) (FJ.ql rfl (q_geq rfl (.t (.s .z)) (.t .z)) ?_))))
 refine FJ.ql rfl (q_move rfl (.t .z)) ?_
 refine FJ.caseP .z (fun g1 => ?_) (fun g1 => ?_)
 refine FJ.q (goes_listg rfl rfl .z) rfl (by decide) rfl (q_move rfl (.t (.s4 (.s .z)))) ?_
 refine FJ.q (goes_listg rfl rfl (.s .z)) rfl (by decide) rfl (q_move rfl (.t (.s4 (.s4 .z)))) ?_
 refine FJ.q (goes_listg rfl rfl (.s (.s .z))) rfl (by decide) rfl (q_leq rfl (.t (.s .z)) (.t .z)) ?_
 refine FJ.ql rfl (q_pickT rfl (.t (.s (.s (.s .z)))) (.t .z)) (FJ.er (.s4 (.s4 .z)) (FJ.ql rfl (q_assign rfl (.t .z)) (FJ.nil (FJ.then_ ?_))))
 refine FJ.ret ?_
 refine FJ.doneS (res1 rfl .z) .n ?_
 exact ⟨by first | (simp [*]; done) | (simp; omega), rfl⟩
 refine FJ.skipl rfl rfl .z rfl rfl (by decide) rfl ?_
 refine FJ.skipl rfl rfl (.s .z) rfl rfl (by decide) rfl ?_
 refine FJ.skipl rfl rfl (.s (.s .z)) rfl rfl (by decide) rfl ?_
 refine FJ.ql rfl (q_pickF rfl (.t (.s (.s (.s .z)))) .c) (FJ.er (.s4 (.s4 .z)) (FJ.ql rfl (q_assign rfl (.t .z)) (FJ.nil (FJ.then_ ?_))))
 refine FJ.ret ?_
 refine FJ.doneS (res1 rfl .z) .n ?_
 exact ⟨by first | (simp [*]; done) | (simp; omega), rfl⟩

set_option maxHeartbeats 1000000 in
set_option maxRecDepth 20000 in
theorem c_79 {w0 : World} {S0 : Bs} (n : Int) (lo : Int) (hi : Int)  :
    Calls Try.prog 79 #[.int .i64 n, .int .i64 lo, .int .i64 hi] w0 (TriPost w0 S0 (fun r l => r = .bool (decide (lo ≤ n ∧ n ≤ hi)) ∧ l = [])) := by
 refine FJ.enter (N := 15) Try.func79 rfl rfl (by simp) [(0, .int .i64 n), (1, .int .i64 lo), (2, .int .i64 hi)] (by simp) (l0 := []) trivial ?_
 refine FJ.seq (FJ.region (FJ.ql rfl (q_assign rfl .c) (FJ.nil (FJ.then_ ?_))))
 refine FJ.seq (FJ.region (FJ.ql rfl (q_move rfl (.t (.s .z))) (FJ.ql rfl (q_move rfl (.t (.s (.s (.s .z))))) (FJ.ql rfl (q_geq rfl (.t (.s .z)) (.t .z)) ?_))))
 refine FJ.ql rfl (q_move rfl (.t .z)) ?_
 refine FJ.caseP .z (fun g1 => ?_) (fun g1 => ?_)
 refine FJ.q (goes_listg rfl rfl .z) rfl (by decide) rfl (q_move rfl (.t (.s4 (.s .z)))) ?_
 refine FJ.q (goes_listg rfl rfl (.s .z)) rfl (by decide) rfl (q_move rfl (.t (.s4 (.s4 .z)))) ?_
 refine FJ.q (goes_listg rfl rfl (.s (.s .z))) rfl (by decide) rfl (q_leq rfl (.t (.s .z)) (.t .z)) ?_
 refine FJ.ql rfl (q_pickT rfl (.t (.s (.s (.s .z)))) (.t .z)) (FJ.er (.s4 (.s4 .z)) (FJ.ql rfl (q_assign rfl (.t .z)) (FJ.nil (FJ.then_ ?_))))
 refine FJ.ret ?_
 refine FJ.doneS (res1 rfl .z) .n ?_
 exact ⟨by first | (simp [*]; done) | (simp; omega), rfl⟩
 refine FJ.skipl rfl rfl .z rfl rfl (by decide) rfl ?_
 refine FJ.skipl rfl rfl (.s .z) rfl rfl (by decide) rfl ?_
 refine FJ.skipl rfl rfl (.s (.s .z)) rfl rfl (by decide) rfl ?_
 refine FJ.ql rfl (q_pickF rfl (.t (.s (.s (.s .z)))) .c) (FJ.er (.s4 (.s4 .z)) (FJ.ql rfl (q_assign rfl (.t .z)) (FJ.nil (FJ.then_ ?_))))
 refine FJ.ret ?_
 refine FJ.doneS (res1 rfl .z) .n ?_
 exact ⟨by first | (simp [*]; done) | (simp; omega), rfl⟩

set_option maxHeartbeats 1000000 in
set_option maxRecDepth 20000 in
theorem c_150 {w0 : World} {S0 : Bs} (n : Int)  :
    Calls Try.prog 150 #[.int .i64 n] w0 (TriPost w0 S0 (fun r l => r = .bool (!decide (0 ≤ n ∧ n ≤ 65535)) ∧ l = [])) := by
 refine FJ.enter (N := 6) Try.func150 rfl rfl (by simp) [(0, .int .i64 n)] (by simp) (l0 := []) trivial ?_
 refine FJ.seq (FJ.region (FJ.ql rfl (q_assign rfl .c) (FJ.nil (FJ.then_ ?_))))
 refine FJ.seq (FJ.region (FJ.ql rfl (q_move rfl (.t (.s .z))) ?_))
 refine FJ.call (goes_list rfl) rfl (by decide) rfl (c_call rfl Try.func79 rfl rfl (args3 (.t .z) .c .c)) .n (fun w1 S1 hs tr => c_79 _ _ _) ?_
 rintro _ _ ⟨rfl, rfl⟩
 refine FJ.cat .n ?_
 refine FJ.ql rfl (q_not rfl (.t .z)) (FJ.er (.s (.s (.s .z))) (FJ.ql rfl (q_assign rfl (.t .z)) (FJ.nil (FJ.then_ ?_))))
 refine FJ.ret ?_
 refine FJ.doneS (res1 rfl .z) .n ?_
 exact ⟨rfl, rfl⟩

set_option maxHeartbeats 1000000 in
set_option maxRecDepth 20000 in
theorem c_157 {w0 : World} {S0 : Bs} {xs : (List Int)} {v0 : Value} (h0 : kSl_2.ro w0 (FF w0 S0) xs [v0]) {f : FuncId} {us : Array Value} {fn : Func} (hfn : Try.prog.funcs[f]? = some fn) (hbody : fn.body.isSome = true) (hname : (fn.name == "runtime.NumGoroutine") = false) {p : Int → Bool} (hf : ∀ w1 S1, (∀ b, FF w0 S0 b → FF w1 S1 b ∧ w1.heap[b]? = w0.heap[b]?) → ∀ x : Int, Calls Try.prog f (#[.int .i64 x] ++ us) w1 (TriPost w1 S1 (fun r l => r = .bool (p x) ∧ l = [])))  :
    Calls Try.prog 157 #[v0, .func (.func f) #[] us] w0 (TriPost w0 S0 (fun r l => r = .int .i64 (idxF p xs) ∧ l = [])) := by
 obtain ⟨A0, c0, rfl, hl0, hm0, hb0, he0⟩ := ro_form h0
 refine FJ.enter (N := 19) Try.func157 rfl rfl (by simp) [(0, .slice A0 xs.length c0), (1, .func (.func f) #[] us)] (by simp) (l0 := []) trivial ?_
 refine FJ.seq (FJ.region (FJ.ql rfl (q_assign rfl .c) (FJ.nil (FJ.then_ ?_))))
 refine FJ.seq (FJ.seq (FJ.region (FJ.ql rfl (q_move rfl (.t (.s .z))) (FJ.ql rfl (q_len rfl u_40 (.t .z)) ?_))))
 refine FJ.ql rfl (q_move rfl .c) (FJ.nil (FJ.then_ (FJ.block ?_)))
 refine FJ.loopi (γ := Nat) (fun k => [(8, .int .i64 (k : Int)), (7, .int .i64 (xs.length : Int)), (0, .slice A0 xs.length c0), (1, .func (.func f) #[] us)]) (fun k => []) (fun k => k ≤ xs.length ∧ ∀ j x, j < k → xs[j]? = some x → p x = false) (fun k => xs.length - k) 0 ⟨Nat.zero_le _, all_zero (q := fun _ x => p x = false)⟩ (.c .z (.c (.s .z) (.c (.s4 .z) (.c (.s4 (.s .z)) .n)))) (fun _ h => h) ?_
 rintro k ⟨hk, hallk⟩
 refine FJ.seq (FJ.region (FJ.ql rfl (q_lss rfl (.t .z) (.t (.s .z))) (FJ.nil (FJ.then_ ?_))))
 refine FJ.seq ?_
 refine FJ.condP (.t .z) (fun b2 => ?_) (fun b2 => ?_)
 refine FJ.skip (FJ.then_ (FJ.seq (FJ.block (FJ.seq ?_))))
 refine FJ.region (FJ.ql rfl (q_move rfl (.t (.s .z))) (FJ.ql rfl (q_assign rfl (.t .z)) (FJ.nil (FJ.then_ ?_))))
 refine FJ.seq (FJ.region (FJ.ql rfl (q_move rfl (.t (.s4 (.s (.s .z))))) (FJ.ql rfl (q_move rfl (.t (.s4 (.s (.s .z))))) (FJ.ql rfl (q_move rfl (.t (.s (.s .z)))) ?_))))
 obtain ⟨ad3, hAad3, hrad3⟩ := he0 (by omega)
 subst hAad3
 obtain ⟨x4, hx4⟩ := get_ex (xs := xs) (j := k) (by omega)
 obtain ⟨ece5, hre5, hFe5, hce5⟩ := hrad3.elem hx4
 obtain ⟨rfl, se5⟩ := hre5
 refine FJ.ql rfl (q_indexAddr (j := k) rfl u_40 sz_2 (.t (.s .z)) (.t .z) rfl (by omega)) ?_
 refine FJ.ql rfl (q_load rfl ag_2 (.t .z) (WS.el0 hFe5 hce5 rfl)) ?_
 refine FJ.call (goes_list rfl) rfl (by decide) rfl (c_callv rfl (.t (.s4 .z)) hfn hbody hname (args1 (.t .z))) .n (fun w1 S1 hs tr => hf w1 S1 (fun b hb => tr.wide b hb) x4) ?_
 rintro _ _ ⟨rfl, rfl⟩
 refine FJ.cat .n ?_
 refine FJ.nil (FJ.then_ ?_)
 refine FJ.cond (.t .z) (fun b6 => ?_) (fun b6 => ?_)
 refine FJ.seq (FJ.region (FJ.ql rfl (q_move rfl (.t (.s4 (.s (.s .z))))) (FJ.ql rfl (q_assign rfl (.t .z)) (FJ.nil ?_))))
 refine FJ.then_ (FJ.ret (FJ.inBR (FJ.thenR (FJ.thenR ?_))))
 refine FJ.inBR (FJ.thenR ?_)
 refine FJ.doneS (res1 rfl .z) .n ?_
 exact ⟨by rw [idxF_some (by assumption) (by assumption) hallk], rfl⟩
 refine FJ.skip (FJ.inBN (FJ.then_ (FJ.region ?_)))
 refine FJ.ql rfl (q_add (c := ((k + 1 : Nat) : Int)) rfl (.t (.s4 (.s4 (.s .z)))) .c (wr (by omega) (by omega) (by omega))) ?_
 refine FJ.er (.s4 (.s4 (.s (.s .z)))) (FJ.ql rfl (q_move rfl (.t .z)) (FJ.nil ?_))
 refine FJ.again (k + 1) ⟨by omega, all_succ (q := fun _ x => p x = false) hallk hx4 b6⟩ (by first | omega | (dsimp only; omega)) (.c .z (.c (.s4 (.s4 (.s (.s (.s .z))))) (.c (.s4 (.s4 (.s4 .z))) (.c (.s4 (.s4 (.s4 (.s .z)))) .n)))) (fun _ h => h)
 refine FJ.exit (FJ.thenE (FJ.thenE (FJ.inB (FJ.then_ ?_))))
 refine FJ.seq (FJ.region (FJ.ql rfl (q_assign rfl .c) (FJ.nil (FJ.then_ ?_))))
 refine FJ.ret ?_
 refine FJ.doneS (res1 rfl .z) .n ?_
 exact ⟨by rw [idxF_none (fun j x hx => hallk j x (by have := (List.getElem?_eq_some_iff.1 hx).1; omega) hx)], rfl⟩

set_option maxHeartbeats 1000000 in
set_option maxRecDepth 20000 in
theorem c_149 {w0 : World} {S0 : Bs} {xs : (List Int)} {v0 : Value} (h0 : kSl_2.ro w0 (FF w0 S0) xs [v0]) {f : FuncId} {us : Array Value} {fn : Func} (hfn : Try.prog.funcs[f]? = some fn) (hbody : fn.body.isSome = true) (hname : (fn.name == "runtime.NumGoroutine") = false) {p : Int → Bool} (hf : ∀ w1 S1, (∀ b, FF w0 S0 b → FF w1 S1 b ∧ w1.heap[b]? = w0.heap[b]?) → ∀ x : Int, Calls Try.prog f (#[.int .i64 x] ++ us) w1 (TriPost w1 S1 (fun r l => r = .bool (p x) ∧ l = [])))  :
    Calls Try.prog 149 #[v0, .func (.func f) #[] us] w0 (TriPost w0 S0 (fun r l => r = .bool (xs.any p) ∧ l = [])) := by
 obtain ⟨A0, c0, rfl, hl0, hm0, hb0, he0⟩ := ro_form h0
 refine FJ.enter (N := 9) Try.func149 rfl rfl (by simp) [(0, .slice A0 xs.length c0), (1, .func (.func f) #[] us)] (by simp) (l0 := []) trivial ?_
 refine FJ.seq (FJ.region (FJ.ql rfl (q_assign rfl .c) (FJ.nil (FJ.then_ ?_))))
 refine FJ.seq (FJ.region (FJ.ql rfl (q_move rfl (.t (.s .z))) (FJ.ql rfl (q_move rfl (.t (.s (.s (.s .z))))) ?_)))
 refine FJ.call (goes_list rfl) rfl (by decide) rfl (c_call rfl Try.func157 rfl rfl (args2 (.t (.s .z)) (.t .z))) .n (fun w1 S1 hs tr => c_157 (tr.ctx h0) hfn hbody hname (fun w2 S2 h2 x => hf w2 S2 (fun b hb => ⟨(h2 b (tr.wide b hb).1).1, (h2 b (tr.wide b hb).1).2.trans (tr.wide b hb).2⟩) x)) ?_
 rintro _ _ ⟨rfl, rfl⟩
 refine FJ.cat .n ?_
 refine FJ.ql rfl (q_geq rfl (.t .z) .c) (FJ.er (.s4 .z) (FJ.ql rfl (q_assign rfl (.t .z)) (FJ.nil (FJ.then_ ?_))))
 refine FJ.ret ?_
 refine FJ.doneS (res1 rfl .z) .n ?_
 exact ⟨by rw [idxF_any], rfl⟩

set_option maxHeartbeats 1000000 in
set_option maxRecDepth 20000 in
theorem c_102 {w0 : World} {S0 : Bs} {xs : (List Int)} {v0 : Value} (h0 : kSl_2.ro w0 (FF w0 S0) xs [v0])  :
    Calls Try.prog 102 #[v0] w0 (TriPost w0 S0 (fun r l => r = .int .i64 (wordsFault xs) ∧ l = [])) := by
 obtain ⟨A0, c0, rfl, hl0, hm0, hb0, he0⟩ := ro_form h0
 refine FJ.enter (N := 10) Try.func102 rfl rfl (by simp) [(0, .slice A0 xs.length c0)] (by simp) (l0 := []) trivial ?_
 refine FJ.seq (FJ.region (FJ.ql rfl (q_assign rfl .c) (FJ.nil (FJ.then_ ?_))))
 refine FJ.seq (FJ.block (FJ.seq (FJ.region (FJ.ql rfl (q_move rfl (.t (.s .z))) ?_))))
 refine FJ.ql rfl (q_len rfl u_40 (.t .z)) (FJ.ql rfl (q_gtr rfl (.t .z) .c) (FJ.ql rfl (q_assign rfl (.t .z)) (FJ.nil (FJ.then_ ?_))))
 refine FJ.condP (.t .z) (fun b2 => ?_) (fun b2 => ?_)
 refine FJ.seq (FJ.region (FJ.er (.s4 .z) (FJ.ql rfl (q_assign rfl .c) (FJ.nil ?_))))
 refine FJ.then_ (FJ.ret (FJ.inBR (FJ.thenR ?_)))
 refine FJ.doneS (res1 rfl .z) .n ?_
 exact ⟨by rw [wordsFault_2 (by assumption)], rfl⟩
 refine FJ.seq (FJ.region (FJ.ql rfl (q_move rfl (.t (.s4 (.s .z)))) ?_))
 refine FJ.call (goes_list rfl) rfl (by decide) rfl (c_call rfl Try.func149 rfl rfl (args2 (.t .z) .f)) .n (fun w1 S1 hs tr => c_149 (tr.ctx h0) Try.func150 rfl rfl (fun w2 S2 h2 x => c_150 x)) ?_
 rintro _ _ ⟨rfl, rfl⟩
 refine FJ.cat .n ?_
 refine FJ.ql rfl (q_assign rfl (.t .z)) (FJ.nil (FJ.then_ ?_))
 refine FJ.cond (.t .z) (fun b3 => ?_) (fun b3 => ?_)
 refine FJ.seq (FJ.region (FJ.er (.s4 (.s (.s (.s .z)))) (FJ.ql rfl (q_assign rfl .c) (FJ.nil ?_))))
 refine FJ.then_ (FJ.ret (FJ.inBR (FJ.thenR ?_)))
 refine FJ.doneS (res1 rfl .z) .n ?_
 exact ⟨by rw [wordsFault_3' (by assumption) (by assumption)], rfl⟩
 refine FJ.skip (FJ.inBN (FJ.then_ (FJ.seq (FJ.region ?_))))
 refine FJ.er (.s4 (.s (.s (.s .z)))) (FJ.ql rfl (q_assign rfl .c) (FJ.nil (FJ.then_ (FJ.ret ?_))))
 refine FJ.doneS (res1 rfl .z) .n ?_
 exact ⟨by rw [wordsFault_0' (by assumption) (by assumption)], rfl⟩

set_option maxHeartbeats 1000000 in
set_option maxRecDepth 20000 in
theorem c_117 {w0 : World} {S0 : Bs} {xs : (List Int)} {v0 : Value} (h0 : kSl_2.ro w0 (FF w0 S0) xs [v0])  :
    Calls Try.prog 117 #[v0] w0 (TriPost w0 S0 (fun r l => r = .int .i64 (wordsFault xs) ∧ l = [])) := by
 obtain ⟨A0, c0, rfl, hl0, hm0, hb0, he0⟩ := ro_form h0
 refine FJ.enter (N := 19) Try.func117 rfl rfl (by simp) [(0, .slice A0 xs.length c0)] (by simp) (l0 := []) trivial ?_
 refine FJ.seq (FJ.region (FJ.ql rfl (q_assign rfl .c) (FJ.nil (FJ.then_ ?_))))
 refine FJ.seq (FJ.seq (FJ.region (FJ.ql rfl (q_move rfl (.t (.s .z))) (FJ.ql rfl (q_len rfl u_40 (.t .z)) ?_))))
 refine FJ.ql rfl (q_gtr rfl (.t .z) .c) (FJ.nil (FJ.then_ ?_))
 refine FJ.condP (.t .z) (fun b2 => ?_) (fun b2 => ?_)
 refine FJ.seq (FJ.region (FJ.er (.s (.s (.s .z))) (FJ.ql rfl (q_assign rfl .c) (FJ.nil ?_))))
 refine FJ.then_ (FJ.ret (FJ.thenR ?_))
 refine FJ.doneS (res1 rfl .z) .n ?_
 exact ⟨by rw [wordsFault_2 (by assumption)], rfl⟩
 refine FJ.skip (FJ.then_ (FJ.seq (FJ.seq (FJ.region ?_))))
 refine FJ.ql rfl (q_assign rfl .c) (FJ.nil (FJ.then_ (FJ.block ?_)))
 refine FJ.loopi (γ := Nat) (fun k => [(3, .int .i64 (k : Int)), (0, .slice A0 xs.length c0)]) (fun k => []) (fun k => k ≤ xs.length ∧ ∀ j x, j < k → xs[j]? = some x → 0 ≤ x ∧ x ≤ 65535) (fun k => xs.length - k) 0 ⟨Nat.zero_le _, all_zero (q := fun _ x => 0 ≤ x ∧ x ≤ 65535)⟩ (.c .z (.c (.s4 (.s .z)) .n)) (fun _ h => h) ?_
 rintro k ⟨hk, hallk⟩
 refine FJ.seq (FJ.seq (FJ.region (FJ.ql rfl (q_move rfl (.t .z)) (FJ.ql rfl (q_move rfl (.t (.s (.s .z)))) ?_))))
 refine FJ.ql rfl (q_len rfl u_40 (.t .z)) (FJ.ql rfl (q_lss rfl (.t (.s (.s .z))) (.t .z)) (FJ.nil (FJ.then_ ?_)))
 refine FJ.condP (.t .z) (fun b3 => ?_) (fun b3 => ?_)
 refine FJ.skip (FJ.then_ (FJ.seq (FJ.block (FJ.seq ?_))))
 refine FJ.region (FJ.ql rfl (q_move rfl (.t (.s4 (.s .z)))) (FJ.ql rfl (q_move rfl (.t (.s4 (.s .z)))) ?_))
 obtain ⟨ad4, hAad4, hrad4⟩ := he0 (by omega)
 subst hAad4
 obtain ⟨x5, hx5⟩ := get_ex (xs := xs) (j := k) (by omega)
 obtain ⟨ece6, hre6, hFe6, hce6⟩ := hrad4.elem hx5
 obtain ⟨rfl, se6⟩ := hre6
 refine FJ.ql rfl (q_indexAddr (j := k) rfl u_40 sz_2 (.t (.s .z)) (.t .z) rfl (by omega)) ?_
 refine FJ.ql rfl (q_load rfl ag_2 (.t .z) (WS.el0 hFe6 hce6 rfl)) ?_
 refine FJ.call (goes_list rfl) rfl (by decide) rfl (c_call rfl Try.func77 rfl rfl (args3 (.t .z) .c .c)) .n (fun w1 S1 hs tr => c_77 _ _ _) ?_
 rintro _ _ ⟨rfl, rfl⟩
 refine FJ.cat .n ?_
 refine FJ.ql rfl (q_not rfl (.t .z)) (FJ.nil (FJ.then_ ?_))
 refine FJ.condN (.t .z) (fun b7 => ?_) (fun b7 => ?_)
 refine FJ.seq (FJ.region (FJ.ql rfl (q_assign rfl .c) (FJ.nil (FJ.then_ ?_))))
 refine FJ.ret (FJ.inBR (FJ.thenR (FJ.thenR (FJ.inBR ?_))))
 refine FJ.thenR ?_
 refine FJ.doneS (res1 rfl .z) .n ?_
 exact ⟨by rw [wordsFault_3 (by assumption) (by assumption) (by assumption)], rfl⟩
 refine FJ.skip (FJ.inBN (FJ.then_ (FJ.region (FJ.ql rfl (q_move rfl (.t (.s4 (.s4 (.s (.s .z)))))) ?_))))
 refine FJ.ql rfl (q_add (c := ((k + 1 : Nat) : Int)) rfl (.t .z) .c (wr (by omega) (by omega) (by omega))) ?_
 refine FJ.er (.s4 (.s4 (.s4 .z))) (FJ.ql rfl (q_assign rfl (.t .z)) (FJ.nil ?_))
 refine FJ.again (k + 1) ⟨by omega, all_succ (q := fun _ x => 0 ≤ x ∧ x ≤ 65535) hallk hx5 b7⟩ (by first | omega | (dsimp only; omega)) (.c .z (.c (.s4 (.s4 (.s4 (.s .z)))) .n)) (fun _ h => h)
 refine FJ.exit (FJ.thenE (FJ.thenE (FJ.inB (FJ.then_ ?_))))
 refine FJ.seq (FJ.region (FJ.ql rfl (q_assign rfl .c) (FJ.nil (FJ.then_ ?_))))
 refine FJ.ret ?_
 refine FJ.doneS (res1 rfl .z) .n ?_
 exact ⟨by rw [wordsFault_0 (by assumption) (fun j x hj hx => hallk j x (by omega) hx)], rfl⟩

set_option maxHeartbeats 1000000 in
set_option maxRecDepth 20000 in
theorem c_143 {w0 : World} {S0 : Bs} {xs : (List (List Int))} {v0 : Value} (h0 : kSl_40.ro w0 (FF w0 S0) xs [v0])  :
    Calls Try.prog 143 #[v0] w0 (TriPost w0 S0 (fun r l => r = .int .i64 xs.length ∧ l = [])) := by
 obtain ⟨A0, c0, rfl, hl0, hm0, hb0, he0⟩ := ro_form h0
 refine FJ.enter (N := 5) Try.func143 rfl rfl (by simp) [(0, .slice A0 xs.length c0)] (by simp) (l0 := []) trivial ?_
 refine FJ.seq (FJ.region (FJ.ql rfl (q_assign rfl .c) (FJ.nil (FJ.then_ ?_))))
 refine FJ.seq (FJ.region (FJ.ql rfl (q_move rfl (.t (.s .z))) (FJ.ql rfl (q_len rfl u_22 (.t .z)) (FJ.er (.s (.s .z)) ?_))))
 refine FJ.ql rfl (q_assign rfl (.t .z)) (FJ.nil (FJ.then_ (FJ.ret ?_)))
 refine FJ.doneS (res1 rfl .z) .n ?_
 exact ⟨rfl, rfl⟩

set_option maxHeartbeats 1000000 in
set_option maxRecDepth 20000 in
theorem c_83 {w0 : World} {S0 : Bs} {d : DDisk} {ad0 : Addr} (h0 : PtrRo kT_25 w0 (FF w0 S0) ad0 d)  :
    Calls Try.prog 83 #[.pointer (some ad0)] w0 (TriPost w0 S0 (fun r l => r = .int .i64 (diskFault d) ∧ l = [])) := by
 obtain ⟨ec0, hF0, hr0, hc0⟩ := id h0
 obtain ⟨u0_0, u0_1, rfl, h0_0, h0_1⟩ := kT_25_ro hr0
 obtain ⟨A0_0, c0_0, rfl, hl0_0, hm0_0, hb0_0, he0_0⟩ := ro_form h0_0
 obtain ⟨A0_1, c0_1, rfl, hl0_1, hm0_1, hb0_1, he0_1⟩ := ro_form h0_1
 refine FJ.enter (N := 78) Try.func83 rfl rfl (by simp) [(0, .pointer (some ad0))] (by simp) (l0 := []) trivial ?_
 refine FJ.seq (FJ.region (FJ.ql rfl (q_assign rfl .c) (FJ.nil (FJ.then_ ?_))))
 refine FJ.seq (FJ.seq (FJ.region (FJ.ql rfl (q_move rfl (.t (.s .z))) (FJ.ql rfl (q_nilCheck rfl (.t .z)) ?_))))
 refine FJ.ql rfl (q_fieldAddr rfl (.t .z) (fun _ => fa_25_0 _ _)) (FJ.ql rfl (q_load rfl ag_22 (.t .z) (WS.el hF0 hc0 rfl)) (FJ.ql rfl (q_len rfl u_22 (.t .z)) (FJ.ql rfl (q_gtr rfl (.t .z) .c) (FJ.ql rfl (q_move rfl (.t .z)) ?_))))
 refine FJ.caseP .z (fun g3 => ?_) (fun g3 => ?_)
 refine FJ.skipl rfl rfl .z rfl rfl (by decide) rfl ?_
 refine FJ.skipl rfl rfl (.s .z) rfl rfl (by decide) rfl ?_
 refine FJ.skipl rfl rfl (.s (.s .z)) rfl rfl (by decide) rfl ?_
 refine FJ.skipl rfl rfl (.s (.s (.s .z))) rfl rfl (by decide) rfl ?_
 refine FJ.skipl rfl rfl (.s4 .z) rfl rfl (by decide) rfl ?_
 refine FJ.skipl rfl rfl (.s4 (.s .z)) rfl rfl (by decide) rfl ?_
 refine FJ.ql rfl (q_pickT rfl (.t (.s4 (.s (.s .z)))) .c) (FJ.nil (FJ.then_ ?_))
 refine FJ.condT (.t .z) ?_
 refine FJ.seq (FJ.region (FJ.er (.s4 (.s4 (.s4 (.s (.s .z))))) (FJ.ql rfl (q_assign rfl .c) (FJ.nil ?_))))
 refine FJ.then_ (FJ.ret (FJ.thenR ?_))
 refine FJ.doneS (res1 rfl .z) .n ?_
 exact ⟨by first | (rw [diskFault_2 (by assumption)]; done) | (rw [diskFault_2' (by assumption)]; done), rfl⟩
 refine FJ.q (goes_listg rfl rfl .z) rfl (by decide) rfl (q_move rfl (.t (.s4 (.s4 .z)))) ?_
 refine FJ.q (goes_listg rfl rfl (.s .z)) rfl (by decide) rfl (q_nilCheck rfl (.t .z)) ?_
 refine FJ.q (goes_listg rfl rfl (.s (.s .z))) rfl (by decide) rfl (q_fieldAddr rfl (.t .z) (fun _ => fa_25_1 _ _)) ?_
 refine FJ.q (goes_listg rfl rfl (.s (.s (.s .z)))) rfl (by decide) rfl (q_load rfl ag_23 (.t .z) (WS.el hF0 hc0 rfl)) ?_
 refine FJ.q (goes_listg rfl rfl (.s4 .z)) rfl (by decide) rfl (q_len rfl u_23 (.t .z)) ?_
 refine FJ.q (goes_listg rfl rfl (.s4 (.s .z))) rfl (by decide) rfl (q_gtr rfl (.t .z) .c) ?_
 refine FJ.ql rfl (q_pickF rfl (.t (.s4 (.s (.s .z)))) (.t .z)) (FJ.nil (FJ.then_ ?_))
 refine FJ.condP (.t .z) (fun b4 => ?_) (fun b4 => ?_)
 refine FJ.seq (FJ.region (FJ.er (.s4 (.s4 (.s4 (.s (.s .z))))) (FJ.ql rfl (q_assign rfl .c) (FJ.nil ?_))))
 refine FJ.then_ (FJ.ret (FJ.thenR ?_))
 refine FJ.doneS (res1 rfl .z) .n ?_
 exact ⟨by first | (rw [diskFault_2 (by assumption)]; done) | (rw [diskFault_2' (by assumption)]; done), rfl⟩
 refine FJ.skip (FJ.then_ (FJ.seq (FJ.seq (FJ.region ?_))))
 refine FJ.ql rfl (q_assign rfl .c) (FJ.nil (FJ.then_ (FJ.block ?_)))
 refine FJ.loopi (γ := Nat) (fun k => [(3, .int .i64 (k : Int)), (0, .pointer (some ad0))]) (fun k => []) (fun k => k ≤ d.blocks.length ∧ ∀ j x, j < k → d.blocks[j]? = some x → wordsFault x = 0) (fun k => d.blocks.length - k) 0 ⟨Nat.zero_le _, all_zero (q := fun _ x => wordsFault x = 0)⟩ (.c .z (.c (.s16 .z) .n)) (fun _ h => h) ?_
 rintro k ⟨hk, hallk⟩
 refine FJ.seq (FJ.seq (FJ.region (FJ.ql rfl (q_move rfl (.t .z)) (FJ.ql rfl (q_move rfl (.t (.s (.s .z)))) ?_))))
 refine FJ.ql rfl (q_nilCheck rfl (.t .z)) (FJ.ql rfl (q_fieldAddr rfl (.t .z) (fun _ => fa_25_0 _ _)) (FJ.ql rfl (q_load rfl ag_22 (.t .z) (WS.el hF0 hc0 rfl)) (FJ.ql rfl (q_len rfl u_22 (.t .z)) (FJ.ql rfl (q_lss rfl (.t (.s4 (.s .z))) (.t .z)) ?_))))
 refine FJ.nil (FJ.then_ ?_)
 refine FJ.condP (.t .z) (fun b5 => ?_) (fun b5 => ?_)
 refine FJ.skip (FJ.then_ (FJ.seq (FJ.block (FJ.seq ?_))))
 refine FJ.region (FJ.ql rfl (q_move rfl (.t (.s4 (.s4 .z)))) (FJ.ql rfl (q_nilCheck rfl (.t .z)) (FJ.ql rfl (q_fieldAddr rfl (.t .z) (fun _ => fa_25_0 _ _)) (FJ.ql rfl (q_load rfl ag_22 (.t .z) (WS.el hF0 hc0 rfl)) ?_))))
 refine FJ.ql rfl (q_move rfl (.t (.s4 (.s4 (.s (.s (.s .z))))))) ?_
 obtain ⟨ad6, hAad6, hrad6⟩ := he0_0 (by omega)
 subst hAad6
 obtain ⟨x7, hx7⟩ := get_ex (xs := d.blocks) (j := k) (by omega)
 obtain ⟨ece8, hre8, hFe8, hce8⟩ := hrad6.elem hx7
 obtain ⟨ue8, rfl⟩ := sl_one hre8
 obtain ⟨Ae8, ce8, rfl, hle8, hme8, hbe8, hee8⟩ := ro_form hre8
 refine FJ.ql rfl (q_indexAddr (j := k) rfl u_22 sz_40 (.t (.s .z)) (.t .z) rfl (by omega)) ?_
 refine FJ.ql rfl (q_load rfl ag_40 (.t .z) (WS.el0 hFe8 hce8 rfl)) ?_
 refine FJ.call (goes_list rfl) rfl (by decide) rfl (c_call rfl Try.func117 rfl rfl (args1 (.t .z))) .n (fun w1 S1 hs tr => c_117 (tr.ctx hre8)) ?_
 rintro _ _ ⟨rfl, rfl⟩
 refine FJ.cat .n ?_
 refine FJ.ql rfl (q_assign rfl (.t .z)) (FJ.nil (FJ.then_ (FJ.seq (FJ.region ?_))))
 refine FJ.ql rfl (q_move rfl (.t .z)) (FJ.ql rfl (q_neq rfl (.t .z) .c) (FJ.nil (FJ.then_ ?_)))
 refine FJ.condN (.t .z) (fun b10 => ?_) (fun b10 => ?_)
 refine FJ.seq (FJ.region (FJ.ql rfl (q_move rfl (.t (.s (.s .z)))) (FJ.ql rfl (q_assign rfl (.t .z)) (FJ.nil ?_))))
 refine FJ.then_ (FJ.ret (FJ.inBR (FJ.thenR (FJ.thenR ?_))))
 refine FJ.inBR (FJ.thenR ?_)
 refine FJ.doneS (res1 rfl .z) .n ?_
 exact ⟨by rw [diskFault_w (by assumption) (by assumption) (by assumption) (by assumption) hallk], rfl⟩
 refine FJ.skip (FJ.inBN (FJ.then_ (FJ.region (FJ.ql rfl (q_move rfl (.t (.s16 (.s (.s .z))))) ?_))))
 refine FJ.ql rfl (q_add (c := ((k + 1 : Nat) : Int)) rfl (.t .z) .c (wr (by omega) (by omega) (by omega))) ?_
 refine FJ.er (.s16 (.s4 .z)) (FJ.ql rfl (q_assign rfl (.t .z)) (FJ.nil ?_))
 refine FJ.again (k + 1) ⟨by omega, all_succ (q := fun _ x => wordsFault x = 0) hallk hx7 b10⟩ (by first | omega | (dsimp only; omega)) (.c .z (.c (.s16 (.s4 (.s .z))) .n)) (fun _ h => h)
 refine FJ.exit (FJ.thenE (FJ.thenE (FJ.inB (FJ.then_ ?_))))
 refine FJ.seq (FJ.seq (FJ.region (FJ.ql rfl (q_assign rfl .c) (FJ.nil ?_))))
 refine FJ.then_ (FJ.block ?_)
 refine FJ.loopi (γ := Nat) (fun q => [(5, .int .i64 (q : Int)), (0, .pointer (some ad0))]) (fun q => []) (fun q => q ≤ d.cache.length ∧ ∀ j x, j < q → d.cache[j]? = some x → putFault d.blocks.length x = 0) (fun q => d.cache.length - q) 0 ⟨Nat.zero_le _, all_zero (q := fun _ x => putFault d.blocks.length x = 0)⟩ (.c .z (.c (.s4 (.s4 (.s .z))) .n)) (fun _ h => h) ?_
 rintro q ⟨hq, hallq⟩
 refine FJ.seq (FJ.seq (FJ.region (FJ.ql rfl (q_move rfl (.t .z)) (FJ.ql rfl (q_move rfl (.t (.s (.s .z)))) ?_))))
 refine FJ.ql rfl (q_nilCheck rfl (.t .z)) (FJ.ql rfl (q_fieldAddr rfl (.t .z) (fun _ => fa_25_1 _ _)) (FJ.ql rfl (q_load rfl ag_23 (.t .z) (WS.el hF0 hc0 rfl)) (FJ.ql rfl (q_len rfl u_23 (.t .z)) (FJ.ql rfl (q_lss rfl (.t (.s4 (.s .z))) (.t .z)) ?_))))
 refine FJ.nil (FJ.then_ ?_)
 refine FJ.condP (.t .z) (fun b11 => ?_) (fun b11 => ?_)
 refine FJ.skip (FJ.then_ (FJ.seq (FJ.block (FJ.seq ?_))))
 refine FJ.seq ?_
 refine FJ.draw [] 16 (by kernel_rfl) ?_
 refine FJ.sch [(0, true), (1, true), (2, true), (3, true), (4, true), (5, true), (6, true), (7, true), (8, true), (9, true), (10, true), (11, true), (12, true), (13, true), (14, false), (15, true)] 0 #[true, true, true, true, true, true, true, true, true, true, true, true, true, true, true, true] (by rfl) (by kernel_rfl) ?_
 refine FJ.dq rfl rfl rfl (by decide) rfl .z (q_move rfl (.t (.s4 (.s4 .z)))) (FJ.dq rfl rfl rfl (by decide) rfl .z (q_nilCheck rfl (.t .z)) (FJ.dq rfl rfl rfl (by decide) rfl .z (q_fieldAddr rfl (.t .z) (fun _ => fa_25_1 _ _)) (FJ.dq rfl rfl rfl (by decide) rfl .z (q_load rfl ag_23 (.t .z) (WS.el hF0 hc0 rfl)) (FJ.dq rfl rfl rfl (by decide) rfl .z (q_move rfl (.t (.s4 (.s4 (.s (.s (.s .z))))))) ?_))))
 obtain ⟨ad12, hAad12, hrad12⟩ := he0_1 (by omega)
 subst hAad12
 obtain ⟨x13, hx13⟩ := get_ex (xs := d.cache) (j := q) (by omega)
 obtain ⟨ece14, hre14, hFe14, hce14⟩ := hrad12.elem hx13
 obtain ⟨ue14_1, rfl, he14_1⟩ := kT_57_ro hre14
 obtain ⟨Ae14_1, ce14_1, rfl, hle14_1, hme14_1, hbe14_1, hee14_1⟩ := ro_form he14_1
 refine FJ.dq rfl rfl rfl (by decide) rfl .z (q_indexAddr (j := q) rfl u_23 sz_57 (.t (.s .z)) (.t .z) rfl (by omega)) ?_
 refine FJ.dq rfl rfl rfl (by decide) rfl .z (q_fieldAddr rfl (.t .z) (fun _ => fa_57_0 _ _)) (FJ.dq rfl rfl rfl (by decide) rfl .z (q_load rfl ag_2 (.t .z) (WS.el hFe14 hce14 rfl)) (FJ.dq rfl rfl rfl (by decide) rfl .z (q_move rfl (.t (.s16 .z))) (FJ.dq rfl rfl rfl (by decide) rfl .z (q_nilCheck rfl (.t .z)) (FJ.dq rfl rfl rfl (by decide) rfl .z (q_fieldAddr rfl (.t .z) (fun _ => fa_25_0 _ _)) ?_))))
 refine FJ.dq rfl rfl rfl (by decide) rfl .z (q_load rfl ag_22 (.t .z) (WS.el hF0 hc0 rfl)) (FJ.dq rfl rfl rfl (by decide) rfl .z (q_len rfl u_22 (.t .z)) ?_)
 refine FJ.dq rfl rfl rfl (by decide) rfl .z (q_sub (c := (d.blocks.length : Int) - 1) rfl (.t .z) .c (wr (by omega) (by omega) (by omega))) ?_
 refine FJ.call (goes_sch rfl rfl) rfl (by decide) rfl (c_call rfl Try.func77 rfl rfl (args3 (.t (.s4 (.s (.s .z)))) .c (.t .z))) .n (fun w1 S1 hs tr => c_77 _ _ _) ?_
 rintro _ _ ⟨rfl, rfl⟩
 refine FJ.cat .n ?_
 refine FJ.sk .z ?_
 refine FJ.dq rfl rfl rfl (by decide) rfl .z (q_not rfl (.t .z)) (FJ.schN ?_)
 refine FJ.drawN (by kernel_rfl) ?_
 refine FJ.then_ ?_
 refine FJ.condN (.t .z) (fun b16 => ?_) (fun b16 => ?_)
 refine FJ.seq (FJ.region (FJ.ql rfl (q_assign rfl .c) (FJ.nil (FJ.then_ ?_))))
 refine FJ.ret (FJ.thenR (FJ.inBR (FJ.thenR (FJ.thenR ?_))))
 refine FJ.inBR (FJ.thenR ?_)
 refine FJ.doneS (res1 rfl .z) .n ?_
 exact ⟨by rw [diskFault_p (by assumption) (by assumption) (fun j y hj hy => hallk j y (by omega) hy) (by assumption) (by rw [putFault_3 (by assumption)]; decide) hallq, putFault_3 (by assumption)], rfl⟩
 refine FJ.skip (FJ.then_ (FJ.seq (FJ.region (FJ.ql rfl (q_move rfl (.t (.s16 (.s4 (.s4 .z))))) ?_))))
 refine FJ.ql rfl (q_nilCheck rfl (.t .z)) (FJ.ql rfl (q_fieldAddr rfl (.t .z) (fun _ => fa_25_1 _ _)) (FJ.ql rfl (q_load rfl ag_23 (.t .z) (WS.el hF0 hc0 rfl)) (FJ.ql rfl (q_move rfl (.t (.s16 (.s4 (.s4 (.s (.s (.s .z)))))))) ?_)))
 refine FJ.ql rfl (q_indexAddr (j := q) rfl u_23 sz_57 (.t (.s .z)) (.t .z) rfl (by omega)) ?_
 refine FJ.ql rfl (q_fieldAddr rfl (.t .z) (fun _ => fa_57_1 _ _)) (FJ.ql rfl (q_load rfl ag_40 (.t .z) (WS.el hFe14 hce14 rfl)) ?_)
 refine FJ.call (goes_list rfl) rfl (by decide) rfl (c_call rfl Try.func117 rfl rfl (args1 (.t .z))) .n (fun w1 S1 hs tr => c_117 (tr.ctx he14_1)) ?_
 rintro _ _ ⟨rfl, rfl⟩
 refine FJ.cat .n ?_
 refine FJ.ql rfl (q_assign rfl (.t .z)) (FJ.nil (FJ.then_ (FJ.seq (FJ.region ?_))))
 refine FJ.ql rfl (q_move rfl (.t .z)) (FJ.ql rfl (q_neq rfl (.t .z) .c) (FJ.nil (FJ.then_ ?_)))
 refine FJ.condN (.t .z) (fun b17 => ?_) (fun b17 => ?_)
 refine FJ.seq (FJ.region (FJ.ql rfl (q_move rfl (.t (.s (.s .z)))) (FJ.ql rfl (q_assign rfl (.t .z)) (FJ.nil ?_))))
 refine FJ.then_ (FJ.ret (FJ.inBR (FJ.thenR (FJ.thenR ?_))))
 refine FJ.inBR (FJ.thenR ?_)
 refine FJ.doneS (res1 rfl .z) .n ?_
 exact ⟨by rw [diskFault_p (by assumption) (by assumption) (fun j y hj hy => hallk j y (by omega) hy) (by assumption) (by rw [putFault_w (by assumption)]; assumption) hallq, putFault_w (by assumption)], rfl⟩
 refine FJ.skip (FJ.inBN (FJ.then_ (FJ.region (FJ.ql rfl (q_move rfl (.t (.s16 (.s16 (.s (.s (.s .z))))))) ?_))))
 refine FJ.ql rfl (q_add (c := ((q + 1 : Nat) : Int)) rfl (.t .z) .c (wr (by omega) (by omega) (by omega))) ?_
 refine FJ.er (.s16 (.s16 (.s4 (.s .z)))) (FJ.ql rfl (q_assign rfl (.t .z)) (FJ.nil ?_))
 refine FJ.again (q + 1) ⟨by omega, all_succ (q := fun _ x => putFault d.blocks.length x = 0) hallq hx13 (by rw [putFault_w (by assumption)]; exact b17)⟩ (by first | omega | (dsimp only; omega)) (.c .z (.c (.s16 (.s16 (.s4 (.s (.s .z))))) .n)) (fun _ h => h)
 refine FJ.exit (FJ.thenE (FJ.thenE (FJ.inB (FJ.then_ ?_))))
 refine FJ.seq (FJ.region (FJ.ql rfl (q_assign rfl .c) (FJ.nil (FJ.then_ ?_))))
 refine FJ.ret ?_
 refine FJ.doneS (res1 rfl .z) .n ?_
 exact ⟨by rw [diskFault_0 (by assumption) (by assumption) (fun j y hj hy => hallk j y (by omega) hy) (fun j y hj hy => hallq j y (by omega) hy)], rfl⟩

set_option maxHeartbeats 1000000 in
set_option maxRecDepth 20000 in
theorem c_86 {w0 : World} {S0 : Bs} {d : DDisk} {cs0 : List Value} (h0 : kT_25.ro w0 (FF w0 S0) d cs0)  :
    Calls Try.prog 86 #[.agg cs0.toArray] w0 (TriPost w0 S0 (fun r l => r = .int .i64 (diskFault d) ∧ l = [])) := by
 obtain ⟨u0_0, u0_1, rfl, h0_0, h0_1⟩ := kT_25_ro h0
 obtain ⟨A0_0, c0_0, rfl, hl0_0, hm0_0, hb0_0, he0_0⟩ := ro_form h0_0
 obtain ⟨A0_1, c0_1, rfl, hl0_1, hm0_1, hb0_1, he0_1⟩ := ro_form h0_1
 refine FJ.enter (N := 54) Try.func86 rfl rfl (by simp) [(0, .agg #[.slice A0_0 d.blocks.length c0_0, .slice A0_1 d.cache.length c0_1])] (by simp) (l0 := []) trivial ?_
 refine FJ.seq (FJ.region ?_)
 refine FJ.e (goes_list rfl) rfl (by decide) rfl (e_box (cs := [.slice A0_0 d.blocks.length c0_0, .slice A0_1 d.cache.length c0_1]) (n := 2) rfl (.t .z) rfl rfl) ?_
 rintro _ _ ⟨g3, rfl, rfl⟩
 refine FJ.ql rfl (q_assign rfl .c) (FJ.nil (FJ.then_ (FJ.seq (FJ.seq ?_))))
 refine FJ.region (FJ.ql rfl (q_fieldAddr rfl (.t (.s .z)) (fun _ => fa_25_0 _ _)) (FJ.ql rfl (q_load rfl ag_22 (.t .z) (WS.row .z rfl)) (FJ.ql rfl (q_len rfl u_22 (.t .z)) (FJ.ql rfl (q_gtr rfl (.t .z) .c) ?_))))
 refine FJ.ql rfl (q_move rfl (.t .z)) ?_
 refine FJ.caseP .z (fun g4 => ?_) (fun g4 => ?_)
 refine FJ.skipl rfl rfl .z rfl rfl (by decide) rfl ?_
 refine FJ.skipl rfl rfl (.s .z) rfl rfl (by decide) rfl ?_
 refine FJ.skipl rfl rfl (.s (.s .z)) rfl rfl (by decide) rfl ?_
 refine FJ.skipl rfl rfl (.s (.s (.s .z))) rfl rfl (by decide) rfl ?_
 refine FJ.ql rfl (q_pickT rfl (.t (.s4 .z)) .c) (FJ.nil (FJ.then_ ?_))
 refine FJ.condT (.t .z) ?_
 refine FJ.seq (FJ.region (FJ.er (.s4 (.s4 (.s (.s .z)))) (FJ.ql rfl (q_assign rfl .c) (FJ.nil ?_))))
 refine FJ.then_ (FJ.ret (FJ.thenR ?_))
 refine FJ.doneS (res1 rfl .z) .n ?_
 exact ⟨by first | (rw [diskFault_2 (by assumption)]; done) | (rw [diskFault_2' (by assumption)]; done), rfl⟩
 refine FJ.q (goes_listg rfl rfl .z) rfl (by decide) rfl (q_fieldAddr rfl (.t (.s4 (.s (.s .z)))) (fun _ => fa_25_1 _ _)) ?_
 refine FJ.q (goes_listg rfl rfl (.s .z)) rfl (by decide) rfl (q_load rfl ag_23 (.t .z) (WS.row .z rfl)) ?_
 refine FJ.q (goes_listg rfl rfl (.s (.s .z))) rfl (by decide) rfl (q_len rfl u_23 (.t .z)) ?_
 refine FJ.q (goes_listg rfl rfl (.s (.s (.s .z)))) rfl (by decide) rfl (q_gtr rfl (.t .z) .c) ?_
 refine FJ.ql rfl (q_pickF rfl (.t (.s4 .z)) (.t .z)) (FJ.nil (FJ.then_ ?_))
 refine FJ.condP (.t .z) (fun b5 => ?_) (fun b5 => ?_)
 refine FJ.seq (FJ.region (FJ.er (.s4 (.s4 (.s (.s .z)))) (FJ.ql rfl (q_assign rfl .c) (FJ.nil ?_))))
 refine FJ.then_ (FJ.ret (FJ.thenR ?_))
 refine FJ.doneS (res1 rfl .z) .n ?_
 exact ⟨by first | (rw [diskFault_2 (by assumption)]; done) | (rw [diskFault_2' (by assumption)]; done), rfl⟩
 refine FJ.skip (FJ.then_ (FJ.seq (FJ.seq (FJ.region ?_))))
 refine FJ.ql rfl (q_fieldAddr rfl (.t (.s4 (.s4 (.s (.s (.s .z)))))) (fun _ => fa_25_0 _ _)) (FJ.ql rfl (q_load rfl ag_22 (.t .z) (WS.row .z rfl)) (FJ.ql rfl (q_len rfl u_22 (.t .z)) (FJ.ql rfl (q_move rfl .c) (FJ.nil ?_))))
 refine FJ.then_ (FJ.block ?_)
 refine FJ.loopi (γ := Nat) (fun k => [(22, .int .i64 (k : Int)), (21, .int .i64 (d.blocks.length : Int)), (20, .slice A0_0 d.blocks.length c0_0), (1, .pointer (some ⟨g3, 0, none⟩))]) (fun k => [rowA g3 25 2 1 [.slice A0_0 d.blocks.length c0_0, .slice A0_1 d.cache.length c0_1]]) (fun k => k ≤ d.blocks.length ∧ ∀ j x, j < k → d.blocks[j]? = some x → wordsFault x = 0) (fun k => d.blocks.length - k) 0 ⟨Nat.zero_le _, all_zero (q := fun _ x => wordsFault x = 0)⟩ (.c .z (.c (.s .z) (.c (.s (.s .z)) (.c (.s4 (.s4 (.s4 (.s (.s (.s .z)))))) .n)))) (fun _ h => h.sel (.c .z .n)) ?_
 rintro k ⟨hk, hallk⟩
 refine FJ.seq (FJ.region (FJ.ql rfl (q_lss rfl (.t .z) (.t (.s .z))) (FJ.nil (FJ.then_ ?_))))
 refine FJ.seq ?_
 refine FJ.condP (.t .z) (fun b6 => ?_) (fun b6 => ?_)
 refine FJ.skip (FJ.then_ (FJ.seq (FJ.block (FJ.seq ?_))))
 refine FJ.region ?_
 obtain ⟨ad7, hAad7, hrad7⟩ := he0_0 (by omega)
 subst hAad7
 obtain ⟨x8, hx8⟩ := get_ex (xs := d.blocks) (j := k) (by omega)
 obtain ⟨ece9, hre9, hFe9, hce9⟩ := hrad7.elem hx8
 obtain ⟨ue9, rfl⟩ := sl_one hre9
 obtain ⟨Ae9, ce9, rfl, hle9, hme9, hbe9, hee9⟩ := ro_form hre9
 refine FJ.ql rfl (q_indexAddr (j := k) rfl u_22 sz_40 (.t (.s (.s (.s .z)))) (.t (.s .z)) rfl (by omega)) ?_
 refine FJ.ql rfl (q_load rfl ag_40 (.t .z) (WS.el0 hFe9 hce9 rfl)) (FJ.ql rfl (q_assign rfl (.t .z)) (FJ.nil (FJ.then_ (FJ.seq ?_))))
 refine FJ.region (FJ.ql rfl (q_move rfl (.t .z)) ?_)
 refine FJ.call (goes_list rfl) rfl (by decide) rfl (c_call rfl Try.func102 rfl rfl (args1 (.t .z))) .n (fun w1 S1 hs tr => c_102 (tr.ctx hre9)) ?_
 rintro _ _ ⟨rfl, rfl⟩
 refine FJ.cat .n ?_
 refine FJ.ql rfl (q_assign rfl (.t .z)) (FJ.nil (FJ.then_ (FJ.seq (FJ.region ?_))))
 refine FJ.ql rfl (q_move rfl (.t .z)) (FJ.ql rfl (q_neq rfl (.t .z) .c) (FJ.nil (FJ.then_ ?_)))
 refine FJ.condN (.t .z) (fun b11 => ?_) (fun b11 => ?_)
 refine FJ.seq (FJ.region (FJ.ql rfl (q_move rfl (.t (.s (.s .z)))) (FJ.ql rfl (q_assign rfl (.t .z)) (FJ.nil ?_))))
 refine FJ.then_ (FJ.ret (FJ.inBR (FJ.thenR (FJ.thenR ?_))))
 refine FJ.inBR (FJ.thenR ?_)
 refine FJ.doneS (res1 rfl .z) .n ?_
 exact ⟨by rw [diskFault_w (by assumption) (by assumption) (by assumption) (by assumption) hallk], rfl⟩
 refine FJ.skip (FJ.inBN (FJ.then_ (FJ.region ?_)))
 refine FJ.ql rfl (q_add (c := ((k + 1 : Nat) : Int)) rfl (.t (.s4 (.s4 (.s .z)))) .c (wr (by omega) (by omega) (by omega))) ?_
 refine FJ.er (.s4 (.s4 (.s (.s .z)))) (FJ.ql rfl (q_move rfl (.t .z)) (FJ.nil ?_))
 refine FJ.again (k + 1) ⟨by omega, all_succ (q := fun _ x => wordsFault x = 0) hallk hx8 b11⟩ (by first | omega | (dsimp only; omega)) (.c .z (.c (.s4 (.s4 (.s (.s (.s .z))))) (.c (.s4 (.s4 (.s4 .z))) (.c (.s4 (.s4 (.s4 (.s .z)))) .n)))) (fun _ h => h.sel (.c .z .n))
 refine FJ.exit (FJ.thenE (FJ.thenE (FJ.inB (FJ.then_ ?_))))
 refine FJ.seq (FJ.seq (FJ.region (FJ.ql rfl (q_fieldAddr rfl (.t (.s4 .z)) (fun _ => fa_25_1 _ _)) (FJ.ql rfl (q_load rfl ag_23 (.t .z) (WS.row .z rfl)) ?_))))
 refine FJ.ql rfl (q_len rfl u_23 (.t .z)) (FJ.ql rfl (q_move rfl .c) (FJ.nil (FJ.then_ (FJ.block ?_))))
 refine FJ.loopi (γ := Nat) (fun q => [(35, .int .i64 (q : Int)), (34, .int .i64 (d.cache.length : Int)), (33, .slice A0_1 d.cache.length c0_1), (1, .pointer (some ⟨g3, 0, none⟩))]) (fun q => [rowA g3 25 2 1 [.slice A0_0 d.blocks.length c0_0, .slice A0_1 d.cache.length c0_1]]) (fun q => q ≤ d.cache.length ∧ ∀ j x, j < q → d.cache[j]? = some x → putFault d.blocks.length x = 0) (fun q => d.cache.length - q) 0 ⟨Nat.zero_le _, all_zero (q := fun _ x => putFault d.blocks.length x = 0)⟩ (.c .z (.c (.s .z) (.c (.s (.s .z)) (.c (.s4 (.s4 .z)) .n)))) (fun _ h => h.sel (.c .z .n)) ?_
 rintro q ⟨hq, hallq⟩
 refine FJ.seq (FJ.region (FJ.ql rfl (q_lss rfl (.t .z) (.t (.s .z))) (FJ.nil (FJ.then_ ?_))))
 refine FJ.seq ?_
 refine FJ.condP (.t .z) (fun b12 => ?_) (fun b12 => ?_)
 refine FJ.skip (FJ.then_ (FJ.seq (FJ.block (FJ.seq ?_))))
 refine FJ.region ?_
 obtain ⟨ad13, hAad13, hrad13⟩ := he0_1 (by omega)
 subst hAad13
 obtain ⟨x14, hx14⟩ := get_ex (xs := d.cache) (j := q) (by omega)
 obtain ⟨ece15, hre15, hFe15, hce15⟩ := hrad13.elem hx14
 obtain ⟨ue15_1, rfl, he15_1⟩ := kT_57_ro hre15
 obtain ⟨Ae15_1, ce15_1, rfl, hle15_1, hme15_1, hbe15_1, hee15_1⟩ := ro_form he15_1
 refine FJ.ql rfl (q_indexAddr (j := q) rfl u_23 sz_57 (.t (.s (.s (.s .z)))) (.t (.s .z)) rfl (by omega)) ?_
 refine FJ.ql rfl (q_loadA (cs := [.int .i64 x14.at_, .slice Ae15_1 x14.words.length ce15_1]) rfl ag_57 sz_57 (.t .z) (WS.els hFe15 hce15)) ?_
 refine FJ.e (goes_list rfl) rfl (by decide) rfl (e_alloc rfl z_57 rfl rfl) ?_
 rintro _ _ ⟨g17, rfl, rfl⟩
 refine FJ.es (goes_list rfl) rfl (es_store (off := 0) (cs := [.int .i64 x14.at_, .slice Ae15_1 x14.words.length ce15_1]) rfl sz_57 (.t .z) (.t (.s .z)) rfl (ones rfl) .z (Nat.le_of_ble_eq_true rfl) (.c .z (.c (.s .z) .n))) ?_
 refine FJ.nil (FJ.then_ (FJ.seq (FJ.seq ?_)))
 refine FJ.draw [rowA g17 57 2 1 [.int .i64 x14.at_, .slice Ae15_1 x14.words.length ce15_1], rowA g3 25 2 1 [.slice A0_0 d.blocks.length c0_0, .slice (some ad13) d.cache.length c0_1]] 8 (by kernel_rfl) ?_
 refine FJ.sch [(0, true), (1, true), (2, true), (3, true), (4, false), (5, true), (6, false), (7, true)] 0 #[true, true, true, true, true, true, true, true] (by rfl) (by kernel_rfl) ?_
 refine FJ.dq rfl rfl rfl (by decide) rfl .z (q_fieldAddr rfl (.t .z) (fun _ => fa_57_0 _ _)) (FJ.dq rfl rfl rfl (by decide) rfl .z (q_load rfl ag_2 (.t .z) (WS.row .z rfl)) (FJ.dq rfl rfl rfl (by decide) rfl .z (q_fieldAddr rfl (.t (.s4 (.s4 (.s .z)))) (fun _ => fa_25_0 _ _)) (FJ.dq rfl rfl rfl (by decide) rfl .z (q_load rfl ag_22 (.t .z) (WS.row (.s .z) rfl)) ?_)))
 refine FJ.call (goes_sch rfl rfl) rfl (by decide) rfl (c_call rfl Try.func143 rfl rfl (args1 (.t .z))) .n (fun w1 S1 hs tr => c_143 (tr.ctx h0_0)) ?_
 rintro _ _ ⟨rfl, rfl⟩
 refine FJ.cat .n ?_
 refine FJ.sk .z ?_
 refine FJ.dq rfl rfl rfl (by decide) rfl .z (q_sub (c := (d.blocks.length : Int) - 1) rfl (.t .z) .c (wr (by omega) (by omega) (by omega))) ?_
 refine FJ.call (goes_sch rfl rfl) rfl (by decide) rfl (c_call rfl Try.func79 rfl rfl (args3 (.t (.s4 .z)) .c (.t .z))) .n (fun w1 S1 hs tr => c_79 _ _ _) ?_
 rintro _ _ ⟨rfl, rfl⟩
 refine FJ.cat .n ?_
 refine FJ.sk .z ?_
 refine FJ.dq rfl rfl rfl (by decide) rfl .z (q_not rfl (.t .z)) (FJ.schN ?_)
 refine FJ.drawN (by kernel_rfl) ?_
 refine FJ.then_ ?_
 refine FJ.condN (.t .z) (fun b18 => ?_) (fun b18 => ?_)
 refine FJ.seq (FJ.region (FJ.ql rfl (q_assign rfl .c) (FJ.nil (FJ.then_ ?_))))
 refine FJ.ret (FJ.thenR (FJ.inBR (FJ.thenR (FJ.thenR ?_))))
 refine FJ.inBR (FJ.thenR ?_)
 refine FJ.doneS (res1 rfl .z) .n ?_
 exact ⟨by rw [diskFault_p (by assumption) (by assumption) (fun j y hj hy => hallk j y (by omega) hy) (by assumption) (by rw [putFault_3 (by assumption)]; decide) hallq, putFault_3 (by assumption)], rfl⟩
 refine FJ.skip (FJ.then_ (FJ.seq (FJ.region (FJ.ql rfl (q_fieldAddr rfl (.t (.s4 (.s4 .z))) (fun _ => fa_57_1 _ _)) ?_))))
 refine FJ.ql rfl (q_load rfl ag_40 (.t .z) (WS.row .z rfl)) ?_
 refine FJ.call (goes_list rfl) rfl (by decide) rfl (c_call rfl Try.func102 rfl rfl (args1 (.t .z))) .n (fun w1 S1 hs tr => c_102 (tr.ctx he15_1)) ?_
 rintro _ _ ⟨rfl, rfl⟩
 refine FJ.cat .n ?_
 refine FJ.ql rfl (q_assign rfl (.t .z)) (FJ.nil (FJ.then_ (FJ.seq (FJ.region ?_))))
 refine FJ.ql rfl (q_move rfl (.t .z)) (FJ.ql rfl (q_neq rfl (.t .z) .c) (FJ.nil (FJ.then_ ?_)))
 refine FJ.condN (.t .z) (fun b19 => ?_) (fun b19 => ?_)
 refine FJ.seq (FJ.region (FJ.ql rfl (q_move rfl (.t (.s (.s .z)))) (FJ.ql rfl (q_assign rfl (.t .z)) (FJ.nil ?_))))
 refine FJ.then_ (FJ.ret (FJ.inBR (FJ.thenR (FJ.thenR ?_))))
 refine FJ.inBR (FJ.thenR ?_)
 refine FJ.doneS (res1 rfl .z) .n ?_
 exact ⟨by rw [diskFault_p (by assumption) (by assumption) (fun j y hj hy => hallk j y (by omega) hy) (by assumption) (by rw [putFault_w (by assumption)]; assumption) hallq, putFault_w (by assumption)], rfl⟩
 refine FJ.skip (FJ.inBN (FJ.then_ (FJ.region ?_)))
 refine FJ.ql rfl (q_add (c := ((q + 1 : Nat) : Int)) rfl (.t (.s16 (.s (.s .z)))) .c (wr (by omega) (by omega) (by omega))) ?_
 refine FJ.er (.s16 (.s (.s (.s .z)))) (FJ.ql rfl (q_move rfl (.t .z)) (FJ.nil ?_))
 refine FJ.again (q + 1) ⟨by omega, all_succ (q := fun _ x => putFault d.blocks.length x = 0) hallq hx14 (by rw [putFault_w (by assumption)]; exact b19)⟩ (by first | omega | (dsimp only; omega)) (.c .z (.c (.s16 (.s4 .z)) (.c (.s16 (.s4 (.s .z))) (.c (.s16 (.s4 (.s (.s .z)))) .n)))) (fun _ h => h.sel (.c (.s .z) .n))
 refine FJ.exit (FJ.thenE (FJ.thenE (FJ.inB (FJ.then_ ?_))))
 refine FJ.seq (FJ.region (FJ.ql rfl (q_assign rfl .c) (FJ.nil (FJ.then_ ?_))))
 refine FJ.ret ?_
 refine FJ.doneS (res1 rfl .z) .n ?_
 exact ⟨by rw [diskFault_0 (by assumption) (by assumption) (fun j y hj hy => hallk j y (by omega) hy) (fun j y hj hy => hallq j y (by omega) hy)], rfl⟩
end Go.Proofs.Ytkmcpcahbfdohaa

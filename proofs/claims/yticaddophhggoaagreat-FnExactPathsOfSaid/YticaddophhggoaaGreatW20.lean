/- What is proved: contracts of functions, one a function. No condition. -/
import Derived.Test.YticaddophhggoaaGreatW11
namespace Go.Proofs.YticaddophhggoaaGreat
open Go Go.RowKit
set_option linter.unusedVariables false
set_option linter.unusedSimpArgs false
set_option maxHeartbeats 1000000 in
set_option maxRecDepth 20000 in
theorem c_200 {w0 : World} {S0 : Bs} {xs : (List (List UInt8))} {v0 : Value} (h0 : kSl_26.ro w0 (FF w0 S0) xs [v0]) {f : FuncId} {fn : Func} (hfn : Tryz.prog.funcs[f]? = some fn) (hbody : fn.body.isSome = true) (hname : (fn.name == "runtime.NumGoroutine") = false) {p : (List UInt8) → Bool} (hf : ∀ (w1 : World) (S1 : Bs) {x : (List UInt8)} {v1 : Value}, kSl_5.ro w1 (FF w1 S1) x [v1] → Calls Tryz.prog f #[v1] w1 (TriPost w1 S1 (fun r l => r = .bool (p x) ∧ l = [])))  :
    Calls Tryz.prog 200 #[v0, .func (.func f) #[] #[]] w0 (TriPost w0 S0 (fun r l => r = .int .i64 (idxF p xs) ∧ l = [])) := by
 obtain ⟨A0, c0, rfl, hl0, hm0, hb0, he0⟩ := ro_form h0
 refine FJ.enter (N := 19) Tryz.func200 rfl rfl (by simp) [(0, .slice A0 xs.length c0), (1, .func (.func f) #[] #[])] (by simp) (l0 := []) trivial ?_
 refine FJ.seq (FJ.region (FJ.ql rfl (q_assign rfl .c) (FJ.nil (FJ.then_ ?_))))
 refine FJ.seq (FJ.seq (FJ.region (FJ.ql rfl (q_move rfl (.t (.s .z))) (FJ.ql rfl (q_len rfl u_23 (.t .z)) ?_))))
 refine FJ.ql rfl (q_move rfl .c) (FJ.nil (FJ.then_ (FJ.block ?_)))
 refine FJ.loopi (γ := Nat) (fun k => [(8, .int .i64 (k : Int)), (7, .int .i64 (xs.length : Int)), (0, .slice A0 xs.length c0), (1, .func (.func f) #[] #[])]) (fun k => []) (fun k => k ≤ xs.length ∧ ∀ j x, j < k → xs[j]? = some x → p x = false) (fun k => xs.length - k) 0 ⟨Nat.zero_le _, all_zero (q := fun _ x => p x = false)⟩ (.c .z (.c (.s .z) (.c (.s4 .z) (.c (.s4 (.s .z)) .n)))) (fun _ h => h) ?_
 rintro k ⟨hk, hallk⟩
 refine FJ.seq (FJ.region (FJ.ql rfl (q_lss rfl (.t .z) (.t (.s .z))) (FJ.nil (FJ.then_ ?_))))
 refine FJ.seq ?_
 refine FJ.condP (.t .z) (fun b2 => ?_) (fun b2 => ?_)
 refine FJ.skip (FJ.then_ (FJ.seq (FJ.block (FJ.seq ?_))))
 refine FJ.region (FJ.ql rfl (q_move rfl (.t (.s .z))) (FJ.ql rfl (q_assign rfl (.t .z)) (FJ.nil (FJ.then_ ?_))))
 refine FJ.seq (FJ.region (FJ.ql rfl (q_move rfl (.t (.s4 (.s (.s .z))))) (FJ.ql rfl (q_move rfl (.t (.s4 (.s (.s .z))))) (FJ.ql rfl (q_move rfl (.t (.s (.s .z)))) ?_))))
 obtain ⟨ad3, hAad3, hrad3⟩ := he0 (by omega)
 subst hAad3
 obtain ⟨x4, hx4⟩ := get_ex (xs := xs) (j := k) (by omega)
 obtain ⟨ece5, hre5, hFe5, hce5⟩ := hrad3.elem hx4
 obtain ⟨ue5, rfl⟩ := sl_one hre5
 obtain ⟨Ae5, ce5, rfl, hle5, hme5, hbe5, hee5⟩ := ro_form hre5
 refine FJ.ql rfl (q_indexAddr (j := k) rfl u_23 sz_26 (.t (.s .z)) (.t .z) rfl (by omega)) ?_
 refine FJ.ql rfl (q_load rfl ag_26 (.t .z) (WS.el0 hFe5 hce5 rfl)) ?_
 refine FJ.call (goes_list rfl) rfl (by decide) rfl (c_callv rfl (.t (.s4 .z)) hfn hbody hname (args1 (.t .z))) .n (fun w1 S1 hs tr => hf w1 S1 (tr.ctx hre5)) ?_
 rintro _ _ ⟨rfl, rfl⟩
 refine FJ.cat .n ?_
 refine FJ.nil (FJ.then_ ?_)
 refine FJ.cond (.t .z) (fun b7 => ?_) (fun b7 => ?_)
 refine FJ.seq (FJ.region (FJ.ql rfl (q_move rfl (.t (.s4 (.s (.s .z))))) (FJ.ql rfl (q_assign rfl (.t .z)) (FJ.nil ?_))))
 refine FJ.then_ (FJ.ret (FJ.inBR (FJ.thenR (FJ.thenR ?_))))
 refine FJ.inBR (FJ.thenR ?_)
 refine FJ.doneS (res1 rfl .z) .n ?_
 exact ⟨by rw [idxF_some (by assumption) (by assumption) hallk], rfl⟩
 refine FJ.skip (FJ.inBN (FJ.then_ (FJ.region ?_)))
 refine FJ.ql rfl (q_add (c := ((k + 1 : Nat) : Int)) rfl (.t (.s4 (.s4 (.s .z)))) .c (wr (by omega) (by omega) (by omega))) ?_
 refine FJ.er (.s4 (.s4 (.s (.s .z)))) (FJ.ql rfl (q_move rfl (.t .z)) (FJ.nil ?_))
 refine FJ.again (k + 1) ⟨by omega, all_succ (q := fun _ x => p x = false) hallk hx4 b7⟩ (by first | omega | (dsimp only; omega)) (.c .z (.c (.s4 (.s4 (.s (.s (.s .z))))) (.c (.s4 (.s4 (.s4 .z))) (.c (.s4 (.s4 (.s4 (.s .z)))) .n)))) (fun _ h => h)
 refine FJ.exit (FJ.thenE (FJ.thenE (FJ.inB (FJ.then_ ?_))))
 refine FJ.seq (FJ.region (FJ.ql rfl (q_assign rfl .c) (FJ.nil (FJ.then_ ?_))))
 refine FJ.ret ?_
 refine FJ.doneS (res1 rfl .z) .n ?_
 exact ⟨by rw [idxF_none (fun j x hx => hallk j x (by have := (List.getElem?_eq_some_iff.1 hx).1; omega) hx)], rfl⟩

set_option maxHeartbeats 1000000 in
set_option maxRecDepth 20000 in
theorem c_180 {w0 : World} {S0 : Bs} {b : (List UInt8)} {v0 : Value} (h0 : kSl_5.ro w0 (FF w0 S0) b [v0])  :
    Calls Tryz.prog 180 #[v0] w0 (TriPost w0 S0 (fun r l => r = .bool (decide ((8 : Int) < (b.length : Int))) ∧ l = [])) := by
 obtain ⟨A0, c0, rfl, hl0, hm0, hb0, he0⟩ := ro_form h0
 refine FJ.enter (N := 6) Tryz.func180 rfl rfl (by simp) [(0, .slice A0 b.length c0)] (by simp) (l0 := []) trivial ?_
 refine FJ.seq (FJ.region (FJ.ql rfl (q_assign rfl .c) (FJ.nil (FJ.then_ ?_))))
 refine FJ.seq (FJ.region (FJ.ql rfl (q_move rfl (.t (.s .z))) (FJ.ql rfl (q_len rfl u_26 (.t .z)) (FJ.ql rfl (q_gtr rfl (.t .z) .c) ?_))))
 refine FJ.er (.s (.s (.s .z))) (FJ.ql rfl (q_assign rfl (.t .z)) (FJ.nil (FJ.then_ (FJ.ret ?_))))
 refine FJ.doneS (res1 rfl .z) .n ?_
 exact ⟨rfl, rfl⟩

set_option maxHeartbeats 1000000 in
set_option maxRecDepth 20000 in
theorem c_179 {w0 : World} {S0 : Bs} {xs : (List (List UInt8))} {v0 : Value} (h0 : kSl_26.ro w0 (FF w0 S0) xs [v0]) {f : FuncId} {fn : Func} (hfn : Tryz.prog.funcs[f]? = some fn) (hbody : fn.body.isSome = true) (hname : (fn.name == "runtime.NumGoroutine") = false) {p : (List UInt8) → Bool} (hf : ∀ (w1 : World) (S1 : Bs) {x : (List UInt8)} {v1 : Value}, kSl_5.ro w1 (FF w1 S1) x [v1] → Calls Tryz.prog f #[v1] w1 (TriPost w1 S1 (fun r l => r = .bool (p x) ∧ l = [])))  :
    Calls Tryz.prog 179 #[v0, .func (.func f) #[] #[]] w0 (TriPost w0 S0 (fun r l => r = .bool (xs.any p) ∧ l = [])) := by
 obtain ⟨A0, c0, rfl, hl0, hm0, hb0, he0⟩ := ro_form h0
 refine FJ.enter (N := 9) Tryz.func179 rfl rfl (by simp) [(0, .slice A0 xs.length c0), (1, .func (.func f) #[] #[])] (by simp) (l0 := []) trivial ?_
 refine FJ.seq (FJ.region (FJ.ql rfl (q_assign rfl .c) (FJ.nil (FJ.then_ ?_))))
 refine FJ.seq (FJ.region (FJ.ql rfl (q_move rfl (.t (.s .z))) (FJ.ql rfl (q_move rfl (.t (.s (.s (.s .z))))) ?_)))
 refine FJ.call (goes_list rfl) rfl (by decide) rfl (c_call rfl Tryz.func200 rfl rfl (args2 (.t (.s .z)) (.t .z))) .n (fun w1 S1 hs tr => c_200 (tr.ctx h0) hfn hbody hname (fun w2 S2 x _ h1 => hf w2 S2 h1)) ?_
 rintro _ _ ⟨rfl, rfl⟩
 refine FJ.cat .n ?_
 refine FJ.ql rfl (q_geq rfl (.t .z) .c) (FJ.er (.s4 .z) (FJ.ql rfl (q_assign rfl (.t .z)) (FJ.nil (FJ.then_ ?_))))
 refine FJ.ret ?_
 refine FJ.doneS (res1 rfl .z) .n ?_
 exact ⟨by rw [idxF_any], rfl⟩

set_option maxHeartbeats 1000000 in
set_option maxRecDepth 20000 in
theorem c_178 {w0 : World} {S0 : Bs} {f : DFs} {cs0 : List Value} (h0 : kT_31.ro w0 (FF w0 S0) f cs0)  :
    Calls Tryz.prog 178 #[.agg cs0.toArray] w0 (TriPost w0 S0 (fun r l => r = .int .i64 (rootFault f) ∧ l = [])) := by
 obtain ⟨u0_0, u0_1, rfl, h0_0, h0_1⟩ := kT_31_ro h0
 obtain ⟨A0_0, c0_0, rfl, hl0_0, hm0_0, hb0_0, he0_0⟩ := ro_form h0_0
 obtain ⟨A0_1, c0_1, rfl, hl0_1, hm0_1, hb0_1, he0_1⟩ := ro_form h0_1
 refine FJ.enter (N := 28) Tryz.func178 rfl rfl (by simp) [(0, .agg #[.slice A0_0 f.inodes.length c0_0, .slice A0_1 f.data.length c0_1])] (by simp) (l0 := []) trivial ?_
 refine FJ.seq (FJ.region ?_)
 refine FJ.e (goes_list rfl) rfl (by decide) rfl (e_box (cs := [.slice A0_0 f.inodes.length c0_0, .slice A0_1 f.data.length c0_1]) (n := 2) rfl (.t .z) rfl rfl) ?_
 rintro _ _ ⟨g3, rfl, rfl⟩
 refine FJ.ql rfl (q_assign rfl .c) (FJ.nil (FJ.then_ (FJ.seq (FJ.seq ?_))))
 refine FJ.region (FJ.ql rfl (q_fieldAddr rfl (.t (.s .z)) (fun _ => fa_31_0 _ _)) (FJ.ql rfl (q_load rfl ag_29 (.t .z) (WS.row .z rfl)) ?_))
 refine FJ.call (goes_list rfl) rfl (by decide) rfl (c_call rfl Tryz.func107 rfl rfl (args1 (.t .z))) .n (fun w1 S1 hs tr => c_107 (tr.ctx h0_0)) ?_
 rintro _ _ ⟨rfl, rfl⟩
 refine FJ.cat .n ?_
 refine FJ.ql rfl (q_assign rfl (.t .z)) (FJ.nil (FJ.then_ (FJ.seq (FJ.region ?_))))
 refine FJ.ql rfl (q_move rfl (.t .z)) (FJ.ql rfl (q_neq rfl (.t .z) .c) (FJ.nil (FJ.then_ ?_)))
 refine FJ.condN (.t .z) (fun b4 => ?_) (fun b4 => ?_)
 refine FJ.seq (FJ.region (FJ.ql rfl (q_move rfl (.t (.s (.s .z)))) (FJ.er (.s4 (.s (.s (.s .z)))) (FJ.ql rfl (q_assign rfl (.t .z)) ?_))))
 refine FJ.nil (FJ.then_ (FJ.ret (FJ.thenR ?_)))
 refine FJ.doneS (res1 rfl .z) .n ?_
 exact ⟨by first | (rw [rootFault_f (by assumption)]; done) | (rw [rootFault_1 (by assumption) (by omega)]; done) | (rw [rootFault_0 (by assumption) (by omega) (by omega) (by omega)]; done), rfl⟩
 refine FJ.skip (FJ.then_ (FJ.seq (FJ.seq (FJ.region ?_))))
 refine FJ.ql rfl (q_fieldAddr rfl (.t (.s4 (.s (.s (.s .z))))) (fun _ => fa_31_0 _ _)) (FJ.ql rfl (q_load rfl ag_29 (.t .z) (WS.row .z rfl)) (FJ.ql rfl (q_len rfl u_29 (.t .z)) (FJ.ql rfl (q_eql rfl (.t .z) .c) (FJ.ql rfl (q_move rfl (.t .z)) ?_))))
 refine FJ.caseP .z (fun g5 => ?_) (fun g5 => ?_)
 refine FJ.skipl rfl rfl .z rfl rfl (by decide) rfl ?_
 refine FJ.skipl rfl rfl (.s .z) rfl rfl (by decide) rfl ?_
 refine FJ.skipl rfl rfl (.s (.s .z)) rfl rfl (by decide) rfl ?_
 refine FJ.skipl rfl rfl (.s (.s (.s .z))) rfl rfl (by decide) rfl ?_
 refine FJ.skipl rfl rfl (.s4 .z) rfl rfl (by decide) rfl ?_
 refine FJ.skipl rfl rfl (.s4 (.s .z)) rfl rfl (by decide) rfl ?_
 refine FJ.ql rfl (q_pickT rfl (.t (.s4 (.s (.s .z)))) .c) (FJ.ql rfl (q_move rfl (.t .z)) ?_)
 refine FJ.skipl rfl rfl .z rfl rfl (by decide) rfl ?_
 refine FJ.skipl rfl rfl (.s .z) rfl rfl (by decide) rfl ?_
 refine FJ.skipl rfl rfl (.s (.s .z)) rfl rfl (by decide) rfl ?_
 refine FJ.skipl rfl rfl (.s (.s (.s .z))) rfl rfl (by decide) rfl ?_
 refine FJ.ql rfl (q_pickT rfl (.t (.s4 .z)) .c) (FJ.nil (FJ.then_ ?_))
 refine FJ.condT (.t .z) ?_
 refine FJ.seq (FJ.region (FJ.er (.s16 (.s4 (.s4 .z))) (FJ.ql rfl (q_assign rfl .c) (FJ.nil ?_))))
 refine FJ.then_ (FJ.ret (FJ.thenR ?_))
 refine FJ.doneS (res1 rfl .z) .n ?_
 exact ⟨by first | (rw [rootFault_f (by assumption)]; done) | (rw [rootFault_1 (by assumption) (by omega)]; done) | (rw [rootFault_0 (by assumption) (by omega) (by omega) (by omega)]; done), rfl⟩
 refine FJ.q (goes_listg rfl rfl .z) rfl (by decide) rfl (q_fieldAddr rfl (.t (.s4 (.s4 (.s4 .z)))) (fun _ => fa_31_0 _ _)) ?_
 refine FJ.q (goes_listg rfl rfl (.s .z)) rfl (by decide) rfl (q_load rfl ag_29 (.t .z) (WS.row .z rfl)) ?_
 obtain ⟨ad6, hAad6, hrad6⟩ := he0_0 (by omega)
 subst hAad6
 obtain ⟨x7, hx7⟩ := get_ex (xs := f.inodes) (j := 0) (by omega)
 obtain ⟨ece8, hre8, hFe8, hce8⟩ := hrad6.elem hx7
 obtain ⟨ue8_3, ue8_4, rfl, he8_3, he8_4⟩ := kT_73_ro hre8
 obtain ⟨Ae8_3, ce8_3, rfl, hle8_3, hme8_3, hbe8_3, hee8_3⟩ := ro_form he8_3
 obtain ⟨Ae8_4, ce8_4, rfl, hle8_4, hme8_4, hbe8_4, hee8_4⟩ := ro_form he8_4
 have kx7 := kind_at (i := 0) hx7 (by omega)
 have nx7 := ents_at (a := 0) hx7 (by omega)
 refine FJ.q (goes_listg rfl rfl (.s (.s .z))) rfl (by decide) rfl (q_indexAddr (j := 0) rfl u_29 sz_73 (.t .z) .c rfl (by omega)) ?_
 refine FJ.q (goes_listg rfl rfl (.s (.s (.s .z)))) rfl (by decide) rfl (q_fieldAddr rfl (.t .z) (fun _ => fa_73_0 _ _)) ?_
 refine FJ.q (goes_listg rfl rfl (.s4 .z)) rfl (by decide) rfl (q_load rfl ag_2 (.t .z) (WS.el hFe8 hce8 rfl)) ?_
 refine FJ.q (goes_listg rfl rfl (.s4 (.s .z))) rfl (by decide) rfl (q_neq rfl (.t .z) .c) ?_
 refine FJ.ql rfl (q_pickF rfl (.t (.s4 (.s (.s .z)))) (.t .z)) (FJ.ql rfl (q_move rfl (.t .z)) ?_)
 refine FJ.caseN .z (fun g11 => ?_) (fun g11 => ?_)
 refine FJ.skipl rfl rfl .z rfl rfl (by decide) rfl ?_
 refine FJ.skipl rfl rfl (.s .z) rfl rfl (by decide) rfl ?_
 refine FJ.skipl rfl rfl (.s (.s .z)) rfl rfl (by decide) rfl ?_
 refine FJ.skipl rfl rfl (.s (.s (.s .z))) rfl rfl (by decide) rfl ?_
 refine FJ.ql rfl (q_pickT rfl (.t (.s4 .z)) .c) (FJ.nil (FJ.then_ ?_))
 refine FJ.condT (.t .z) ?_
 refine FJ.seq (FJ.region (FJ.er (.s16 (.s4 (.s4 .z))) (FJ.ql rfl (q_assign rfl .c) (FJ.nil ?_))))
 refine FJ.then_ (FJ.ret (FJ.thenR ?_))
 refine FJ.doneS (res1 rfl .z) .n ?_
 exact ⟨by first | (rw [rootFault_f (by assumption)]; done) | (rw [rootFault_1 (by assumption) (by omega)]; done) | (rw [rootFault_0 (by assumption) (by omega) (by omega) (by omega)]; done), rfl⟩
 refine FJ.q (goes_listg rfl rfl .z) rfl (by decide) rfl (q_fieldAddr rfl (.t (.s16 (.s4 .z))) (fun _ => fa_31_1 _ _)) ?_
 refine FJ.q (goes_listg rfl rfl (.s .z)) rfl (by decide) rfl (q_load rfl ag_23 (.t .z) (WS.row .z rfl)) ?_
 refine FJ.q (goes_listg rfl rfl (.s (.s .z))) rfl (by decide) rfl (q_len rfl u_23 (.t .z)) ?_
 refine FJ.q (goes_listg rfl rfl (.s (.s (.s .z)))) rfl (by decide) rfl (q_neq rfl (.t .z) .c) ?_
 refine FJ.ql rfl (q_pickF rfl (.t (.s4 .z)) (.t .z)) (FJ.nil (FJ.then_ ?_))
 refine FJ.condN (.t .z) (fun b12 => ?_) (fun b12 => ?_)
 refine FJ.seq (FJ.region (FJ.er (.s16 (.s4 (.s4 .z))) (FJ.ql rfl (q_assign rfl .c) (FJ.nil ?_))))
 refine FJ.then_ (FJ.ret (FJ.thenR ?_))
 refine FJ.doneS (res1 rfl .z) .n ?_
 exact ⟨by first | (rw [rootFault_f (by assumption)]; done) | (rw [rootFault_1 (by assumption) (by omega)]; done) | (rw [rootFault_0 (by assumption) (by omega) (by omega) (by omega)]; done), rfl⟩
 refine FJ.skip (FJ.then_ (FJ.seq (FJ.region (FJ.er (.s16 (.s4 (.s4 .z))) ?_))))
 refine FJ.ql rfl (q_assign rfl .c) (FJ.nil (FJ.then_ (FJ.ret ?_)))
 refine FJ.doneS (res1 rfl .z) .n ?_
 exact ⟨by first | (rw [rootFault_f (by assumption)]; done) | (rw [rootFault_1 (by assumption) (by omega)]; done) | (rw [rootFault_0 (by assumption) (by omega) (by omega) (by omega)]; done), rfl⟩

set_option maxHeartbeats 1000000 in
set_option maxRecDepth 20000 in
theorem c_138 {w0 : World} {S0 : Bs} {f : DFs} {cs0 : List Value} (h0 : kT_31.ro w0 (FF w0 S0) f cs0)  :
    Calls Tryz.prog 138 #[.agg cs0.toArray] w0 (TriPost w0 S0 (fun r l => r = .int .i64 (treeFault f) ∧ l = [])) := by
 obtain ⟨u0_0, u0_1, rfl, h0_0, h0_1⟩ := kT_31_ro h0
 obtain ⟨A0_0, c0_0, rfl, hl0_0, hm0_0, hb0_0, he0_0⟩ := ro_form h0_0
 obtain ⟨A0_1, c0_1, rfl, hl0_1, hm0_1, hb0_1, he0_1⟩ := ro_form h0_1
 refine FJ.enter (N := 58) Tryz.func138 rfl rfl (by simp) [(0, .agg #[.slice A0_0 f.inodes.length c0_0, .slice A0_1 f.data.length c0_1])] (by simp) (l0 := []) trivial ?_
 refine FJ.seq (FJ.region ?_)
 refine FJ.e (goes_list rfl) rfl (by decide) rfl (e_box (cs := [.slice A0_0 f.inodes.length c0_0, .slice A0_1 f.data.length c0_1]) (n := 2) rfl (.t .z) rfl rfl) ?_
 rintro _ _ ⟨g3, rfl, rfl⟩
 refine FJ.ql rfl (q_assign rfl .c) (FJ.nil (FJ.then_ (FJ.seq (FJ.seq ?_))))
 refine FJ.region ?_
 refine FJ.ql rfl (q_loadA (cs := [.slice A0_0 f.inodes.length c0_0, .slice A0_1 f.data.length c0_1]) rfl ag_31 sz_31 (.t (.s .z)) (WS.rows0 .z (fun i u h => by exact h))) ?_
 refine FJ.call (goes_list rfl) rfl (by decide) rfl (c_call rfl Tryz.func178 rfl rfl (args1 (.t .z))) .n (fun w1 S1 hs tr => c_178 (kT_31_mk f (tr.ctx h0_0) (tr.ctx h0_1))) ?_
 rintro _ _ ⟨rfl, rfl⟩
 refine FJ.cat .n ?_
 refine FJ.ql rfl (q_assign rfl (.t .z)) (FJ.nil (FJ.then_ (FJ.seq (FJ.region ?_))))
 refine FJ.ql rfl (q_move rfl (.t .z)) (FJ.ql rfl (q_neq rfl (.t .z) .c) (FJ.nil (FJ.then_ ?_)))
 refine FJ.condN (.t .z) (fun b4 => ?_) (fun b4 => ?_)
 refine FJ.seq (FJ.region (FJ.ql rfl (q_move rfl (.t (.s (.s .z)))) (FJ.er (.s4 (.s (.s .z))) (FJ.ql rfl (q_assign rfl (.t .z)) ?_))))
 refine FJ.nil (FJ.then_ (FJ.ret (FJ.thenR ?_)))
 refine FJ.doneS (res1 rfl .z) .n ?_
 exact ⟨by first | (rw [treeFault_r (by assumption)]; done) | (rw [treeFault_2 (by assumption) (by assumption)]; done) | (rw [treeFault_7 (by assumption) (by assumption) (by assumption)]; done) | (rw [treeFault_0 (by assumption) (by assumption) (by assumption) (badE_no (fun j x hj hx => hallk j x (by omega) hx))]; done), rfl⟩
 have hId5 := (rootOk b4).1
 refine FJ.skip (FJ.then_ (FJ.seq (FJ.seq (FJ.region ?_))))
 refine FJ.ql rfl (q_fieldAddr rfl (.t (.s4 (.s (.s .z)))) (fun _ => fa_31_1 _ _)) (FJ.ql rfl (q_load rfl ag_23 (.t .z) (WS.row .z rfl)) ?_)
 refine FJ.call (goes_list rfl) rfl (by decide) rfl (c_call rfl Tryz.func179 rfl rfl (args2 (.t .z) .f)) .n (fun w1 S1 hs tr => c_179 (tr.ctx h0_1) Tryz.func180 rfl rfl (fun w2 S2 x _ h1 => c_180 h1)) ?_
 rintro _ _ ⟨rfl, rfl⟩
 refine FJ.cat .n ?_
 refine FJ.nil (FJ.then_ ?_)
 refine FJ.cond (.t .z) (fun b6 => ?_) (fun b6 => ?_)
 refine FJ.seq (FJ.region (FJ.er (.s4 (.s4 .z)) (FJ.ql rfl (q_assign rfl .c) (FJ.nil ?_))))
 refine FJ.then_ (FJ.ret (FJ.thenR ?_))
 refine FJ.doneS (res1 rfl .z) .n ?_
 exact ⟨by first | (rw [treeFault_r (by assumption)]; done) | (rw [treeFault_2 (by assumption) (by assumption)]; done) | (rw [treeFault_7 (by assumption) (by assumption) (by assumption)]; done) | (rw [treeFault_0 (by assumption) (by assumption) (by assumption) (badE_no (fun j x hj hx => hallk j x (by omega) hx))]; done), rfl⟩
 refine FJ.skip (FJ.then_ (FJ.seq (FJ.seq (FJ.region ?_))))
 refine FJ.ql rfl (q_fieldAddr rfl (.t (.s4 (.s4 (.s .z)))) (fun _ => fa_31_0 _ _)) (FJ.ql rfl (q_load rfl ag_29 (.t .z) (WS.row .z rfl)) ?_)
 refine FJ.call (goes_list rfl) rfl (by decide) rfl (c_call rfl Tryz.func181 rfl rfl (args1 (.t .z))) .n (fun w1 S1 hs tr => c_181 (tr.ctx h0_0) (by first | assumption | (exact ask_ok (by assumption)))) ?_
 rintro _ _ ⟨v7, rfl, rfl⟩
 refine FJ.cat (.c .n) ?_
 refine FJ.know (WS.oform .z) ?_
 rintro ⟨Ao9, co9, rfl, hlo9, hmo9, hbo9⟩
 refine FJ.ql rfl (q_move rfl (.t .z)) (FJ.ql rfl (q_extract (v := .slice Ao9 (sortI (usedL f.inodes)).length co9) rfl (.t .z) rfl) (FJ.ql rfl (q_extract (v := .bool (decide (usedL f.inodes).Nodup)) rfl (.t (.s .z)) rfl) (FJ.ql rfl (q_assign rfl (.t (.s .z))) (FJ.ql rfl (q_assign rfl (.t (.s .z))) ?_))))
 refine FJ.nil (FJ.then_ (FJ.seq (FJ.region (FJ.ql rfl (q_move rfl (.t .z)) ?_))))
 refine FJ.ql rfl (q_not rfl (.t .z)) (FJ.nil (FJ.then_ ?_))
 refine FJ.condN (.t .z) (fun b10 => ?_) (fun b10 => ?_)
 refine FJ.seq (FJ.region (FJ.er (.s16 (.s (.s .z))) (FJ.ql rfl (q_assign rfl .c) (FJ.nil ?_))))
 refine FJ.then_ (FJ.ret (FJ.thenR ?_))
 refine FJ.doneS (res1 rfl .z) .n ?_
 exact ⟨by first | (rw [treeFault_r (by assumption)]; done) | (rw [treeFault_2 (by assumption) (by assumption)]; done) | (rw [treeFault_7 (by assumption) (by assumption) (by assumption)]; done) | (rw [treeFault_0 (by assumption) (by assumption) (by assumption) (badE_no (fun j x hj hx => hallk j x (by omega) hx))]; done), rfl⟩
 refine FJ.skip (FJ.then_ (FJ.seq (FJ.seq (FJ.region ?_))))
 refine FJ.ql rfl (q_fieldAddr rfl (.t (.s16 (.s (.s (.s .z))))) (fun _ => fa_31_0 _ _)) (FJ.ql rfl (q_load rfl ag_29 (.t .z) (WS.row (.s .z) rfl)) (FJ.ql rfl (q_len rfl u_29 (.t .z)) (FJ.ql rfl (q_move rfl .c) (FJ.nil ?_))))
 refine FJ.then_ (FJ.block ?_)
 refine FJ.loopi (γ := Nat) (fun k => [(29, .int .i64 (k : Int)), (28, .int .i64 (f.inodes.length : Int)), (27, .slice A0_0 f.inodes.length c0_0), (1, .pointer (some ⟨g3, 0, none⟩))]) (fun k => [ownA kSl_2 (sortI (usedL f.inodes)) [.slice Ao9 (sortI (usedL f.inodes)).length co9], rowA g3 31 2 1 [.slice A0_0 f.inodes.length c0_0, .slice A0_1 f.data.length c0_1]]) (fun k => k ≤ f.inodes.length ∧ ∀ j x, j < k → f.inodes[j]? = some x → goodX f.inodes x) (fun k => f.inodes.length - k) 0 ⟨Nat.zero_le _, all_zero (q := fun _ x => goodX f.inodes x)⟩ (.c .z (.c (.s .z) (.c (.s (.s .z)) (.c (.s16 (.s4 (.s (.s (.s .z))))) .n)))) (fun _ h => h.sel (.c .z (.c .z .n))) ?_
 rintro k ⟨hk, hallk⟩
 refine FJ.seq (FJ.region (FJ.ql rfl (q_lss rfl (.t .z) (.t (.s .z))) (FJ.nil (FJ.then_ ?_))))
 refine FJ.seq ?_
 refine FJ.condP (.t .z) (fun b11 => ?_) (fun b11 => ?_)
 refine FJ.skip (FJ.then_ (FJ.seq (FJ.block (FJ.seq ?_))))
 refine FJ.region ?_
 obtain ⟨ad12, hAad12, hrad12⟩ := he0_0 (by omega)
 subst hAad12
 obtain ⟨x13, hx13⟩ := get_ex (xs := f.inodes) (j := k) (by omega)
 obtain ⟨ece14, hre14, hFe14, hce14⟩ := hrad12.elem hx13
 obtain ⟨ue14_3, ue14_4, rfl, he14_3, he14_4⟩ := kT_73_ro hre14
 obtain ⟨Ae14_3, ce14_3, rfl, hle14_3, hme14_3, hbe14_3, hee14_3⟩ := ro_form he14_3
 obtain ⟨Ae14_4, ce14_4, rfl, hle14_4, hme14_4, hbe14_4, hee14_4⟩ := ro_form he14_4
 have kx13 := kind_at (i := ((k : Nat) : Int)) hx13 (by omega)
 have nx13 := ents_at (a := ((k : Nat) : Int)) hx13 (by omega)
 have iox13 := inodes_all hId5 _ (List.mem_of_getElem? hx13)
 refine FJ.ql rfl (q_indexAddr (j := k) rfl u_29 sz_73 (.t (.s (.s (.s .z)))) (.t (.s .z)) rfl (by omega)) ?_
 refine FJ.ql rfl (q_loadA (cs := [.int .i64 x13.kind, .int .i64 x13.links, .int .i64 x13.size, .slice Ae14_3 x13.blocks.length ce14_3, .slice Ae14_4 x13.ents.length ce14_4]) rfl ag_73 sz_73 (.t .z) (WS.els hFe14 hce14)) ?_
 refine FJ.e (goes_list rfl) rfl (by decide) rfl (e_alloc rfl z_73 rfl rfl) ?_
 rintro _ _ ⟨g17, rfl, rfl⟩
 refine FJ.es (goes_list rfl) rfl (es_store (off := 0) (cs := [.int .i64 x13.kind, .int .i64 x13.links, .int .i64 x13.size, .slice Ae14_3 x13.blocks.length ce14_3, .slice Ae14_4 x13.ents.length ce14_4]) rfl sz_73 (.t .z) (.t (.s .z)) rfl (ones rfl) .z (Nat.le_of_ble_eq_true rfl) (.c .z (.c (.s .z) (.c (.s (.s .z)) (.c (.s (.s (.s .z))) (.c (.s (.s (.s (.s .z)))) .n)))))) ?_
 refine FJ.nil (FJ.then_ (FJ.seq (FJ.region (FJ.ql rfl (q_fieldAddr rfl (.t .z) (fun _ => fa_73_4 _ _)) ?_))))
 refine FJ.ql rfl (q_load rfl ag_71 (.t .z) (WS.row .z rfl)) (FJ.ql rfl (q_len rfl u_71 (.t .z)) (FJ.ql rfl (q_move rfl .c) (FJ.nil (FJ.then_ ?_))))
 refine FJ.block ?_
 refine FJ.loopi (γ := Nat) (fun q => [(36, .int .i64 (q : Int)), (35, .int .i64 (x13.ents.length : Int)), (34, .slice Ae14_4 x13.ents.length ce14_4), (29, .int .i64 (k : Int)), (28, .int .i64 (f.inodes.length : Int)), (27, .slice (some ad12) f.inodes.length c0_0), (1, .pointer (some ⟨g3, 0, none⟩))]) (fun q => [rowA g17 73 5 1 [.int .i64 x13.kind, .int .i64 x13.links, .int .i64 x13.size, .slice Ae14_3 x13.blocks.length ce14_3, .slice Ae14_4 x13.ents.length ce14_4], ownA kSl_2 (sortI (usedL f.inodes)) [.slice Ao9 (sortI (usedL f.inodes)).length co9], rowA g3 31 2 1 [.slice (some ad12) f.inodes.length c0_0, .slice A0_1 f.data.length c0_1]]) (fun q => q ≤ x13.ents.length ∧ ∀ j e, j < q → x13.ents[j]? = some e → ¬ entBad f.inodes e) (fun q => x13.ents.length - q) 0 ⟨Nat.zero_le _, all_zero (q := fun _ e => ¬ entBad f.inodes e)⟩ (.c .z (.c (.s .z) (.c (.s (.s .z)) (.c (.s4 (.s4 .z)) (.c (.s4 (.s4 (.s .z))) (.c (.s4 (.s4 (.s (.s .z)))) (.c (.s4 (.s4 (.s (.s (.s .z))))) .n))))))) (fun _ h => h.sel (.c .z (.c .z (.c .z .n)))) ?_
 rintro q ⟨hq, hallq⟩
 refine FJ.seq (FJ.region (FJ.ql rfl (q_lss rfl (.t .z) (.t (.s .z))) (FJ.nil (FJ.then_ ?_))))
 refine FJ.seq ?_
 refine FJ.condP (.t .z) (fun b18 => ?_) (fun b18 => ?_)
 refine FJ.skip (FJ.then_ (FJ.seq (FJ.block (FJ.seq ?_))))
 refine FJ.region ?_
 obtain ⟨ad19, hAad19, hrad19⟩ := hee14_4 (by omega)
 subst hAad19
 obtain ⟨x20, hx20⟩ := get_ex (xs := x13.ents) (j := q) (by omega)
 obtain ⟨ece21, hre21, hFe21, hce21⟩ := hrad19.elem hx20
 obtain ⟨rfl, se21_0⟩ := kT_151_ro hre21
 have pox20 := ents_ok iox13 _ _ hx20
 refine FJ.ql rfl (q_indexAddr (j := q) rfl u_71 sz_151 (.t (.s (.s (.s .z)))) (.t (.s .z)) rfl (by omega)) ?_
 refine FJ.ql rfl (q_loadA (cs := [.string x20.name, .int .i64 x20.ino]) rfl ag_151 sz_151 (.t .z) (WS.els hFe21 hce21)) ?_
 refine FJ.e (goes_list rfl) rfl (by decide) rfl (e_alloc rfl z_151 rfl rfl) ?_
 rintro _ _ ⟨g22, rfl, rfl⟩
 refine FJ.es (goes_list rfl) rfl (es_store (off := 0) (cs := [.string x20.name, .int .i64 x20.ino]) rfl sz_151 (.t .z) (.t (.s .z)) rfl (ones rfl) .z (Nat.le_of_ble_eq_true rfl) (.c .z (.c (.s .z) .n))) ?_
 refine FJ.nil (FJ.then_ (FJ.seq ?_))
 refine FJ.sel (.c (.s (.s .z)) (.c .z (.c .z (.c .z .n)))) ?_
 refine FJ.draw [rowA g22 151 2 1 [.string x20.name, .int .i64 x20.ino], rowA g17 73 5 1 [.int .i64 x13.kind, .int .i64 x13.links, .int .i64 x13.size, .slice Ae14_3 x13.blocks.length ce14_3, .slice (some ad19) x13.ents.length ce14_4], rowA g3 31 2 1 [.slice (some ad12) f.inodes.length c0_0, .slice A0_1 f.data.length c0_1]] 16 (by kernel_rfl) ?_
 refine FJ.sch [(0, true), (1, true), (2, true), (3, true), (4, false), (5, true), (6, true)] 9 #[true, true, true, true, true, true, true, false, false, false, false, false, false, false, false, false] (by rfl) (by kernel_rfl) ?_
 refine FJ.dq rfl rfl rfl (by decide) rfl (.s .z) (q_fieldAddr rfl (.t .z) (fun _ => fa_151_1 _ _)) (FJ.dq rfl rfl rfl (by decide) rfl (.s .z) (q_load rfl ag_2 (.t .z) (WS.row .z rfl)) (FJ.dq rfl rfl rfl (by decide) rfl (.s .z) (q_fieldAddr rfl (.t (.s4 (.s4 (.s4 .z)))) (fun _ => fa_31_0 _ _)) (FJ.dq rfl rfl rfl (by decide) rfl (.s .z) (q_load rfl ag_29 (.t .z) (WS.row (.s (.s .z)) rfl)) ?_)))
 refine FJ.call (goes_sch rfl rfl) rfl (by decide) rfl (c_call rfl Tryz.func109 rfl rfl (args1 (.t .z))) .n (fun w1 S1 hs tr => c_109 (tr.ctx h0_0)) ?_
 rintro _ _ ⟨rfl, rfl⟩
 refine FJ.cat .n ?_
 refine FJ.sk (.s .z) ?_
 refine FJ.dq rfl rfl rfl (by decide) rfl (.s .z) (q_geq rfl (.t (.s (.s (.s .z)))) (.t .z)) (FJ.dq rfl rfl rfl (by decide) rfl (.s .z) (q_move rfl (.t .z)) (FJ.schN ?_))
 refine FJ.caseP .z (fun g23 => ?_) (fun g23 => ?_)
 refine FJ.sch [(7, true), (8, true), (9, true), (10, true), (11, true), (12, true), (13, true), (14, true), (15, true)] 0 #[true, true, true, true, true, true, true, true, true, true, true, true, true, true, true, true] (by rfl) (by kernel_rfl) ?_
 refine FJ.dskip rfl rfl rfl .z rfl rfl (by decide) rfl (.s .z) ?_
 refine FJ.dskip rfl rfl rfl (.s .z) rfl rfl (by decide) rfl (.s .z) ?_
 refine FJ.dskip rfl rfl rfl (.s (.s .z)) rfl rfl (by decide) rfl (.s .z) ?_
 refine FJ.dskip rfl rfl rfl (.s (.s (.s .z))) rfl rfl (by decide) rfl (.s .z) ?_
 refine FJ.dskip rfl rfl rfl (.s4 .z) rfl rfl (by decide) rfl (.s .z) ?_
 refine FJ.dskip rfl rfl rfl (.s4 (.s .z)) rfl rfl (by decide) rfl (.s .z) ?_
 refine FJ.dskip rfl rfl rfl (.s4 (.s (.s .z))) rfl rfl (by decide) rfl (.s .z) ?_
 refine FJ.dskip rfl rfl rfl (.s4 (.s (.s (.s .z)))) rfl rfl (by decide) rfl (.s .z) ?_
 refine FJ.dq rfl rfl rfl (by decide) rfl (.s .z) (q_pickT rfl (.t (.s4 (.s4 .z))) .c) (FJ.schN ?_)
 refine FJ.drawN (by kernel_rfl) ?_
 refine FJ.then_ ?_
 refine FJ.condT (.t .z) ?_
 refine FJ.seq (FJ.region (FJ.ql rfl (q_assign rfl .c) (FJ.nil (FJ.then_ ?_))))
 refine FJ.ret (FJ.inBR (FJ.thenR (FJ.thenR (FJ.inBR ?_))))
 refine FJ.inBR (FJ.thenR (FJ.thenR (FJ.inBR (FJ.thenR ?_))))
 refine FJ.doneS (res1 rfl .z) .n ?_
 exact ⟨by first | (rw [treeFault_r (by assumption)]; done) | (rw [treeFault_2 (by assumption) (by assumption)]; done) | (rw [treeFault_7 (by assumption) (by assumption) (by assumption)]; done) | (rw [treeFault_4 (by assumption) (by assumption) (by assumption) (badE_yes hx13 hx20 (by first | exact kind_out (by assumption) | (show kindAt f.inodes x20.ino = 0; omega)))]; done) | (rw [treeFault_0 (by assumption) (by assumption) (by assumption) (badE_no (fun j x hj hx => hallk j x (by omega) hx))]; done), rfl⟩
 refine FJ.sch [(7, true), (8, true), (9, true), (10, true), (11, true), (12, true), (13, true), (14, true), (15, true)] 0 #[true, true, true, true, true, true, true, true, true, true, true, true, true, true, true, true] (by rfl) (by kernel_rfl) ?_
 refine FJ.dqg rfl rfl rfl .z rfl (by decide) rfl (.s .z) (q_fieldAddr rfl (.t (.s16 (.s .z))) (fun _ => fa_31_0 _ _)) ?_
 refine FJ.dqg rfl rfl rfl (.s .z) rfl (by decide) rfl (.s .z) (q_load rfl ag_29 (.t .z) (WS.row (.s (.s .z)) rfl)) ?_
 refine FJ.dqg rfl rfl rfl (.s (.s .z)) rfl (by decide) rfl (.s .z) (q_fieldAddr rfl (.t (.s4 (.s4 (.s .z)))) (fun _ => fa_151_1 _ _)) ?_
 refine FJ.dqg rfl rfl rfl (.s (.s (.s .z))) rfl (by decide) rfl (.s .z) (q_load rfl ag_2 (.t .z) (WS.row .z rfl)) ?_
 obtain ⟨x24, hx24⟩ := get_ex (xs := f.inodes) (j := Int.toNat x20.ino) (by omega)
 obtain ⟨ece25, hre25, hFe25, hce25⟩ := hrad12.elem hx24
 obtain ⟨ue25_3, ue25_4, rfl, he25_3, he25_4⟩ := kT_73_ro hre25
 obtain ⟨Ae25_3, ce25_3, rfl, hle25_3, hme25_3, hbe25_3, hee25_3⟩ := ro_form he25_3
 obtain ⟨Ae25_4, ce25_4, rfl, hle25_4, hme25_4, hbe25_4, hee25_4⟩ := ro_form he25_4
 have kx24 := kind_at (i := x20.ino) hx24 (by omega)
 have nx24 := ents_at (a := x20.ino) hx24 (by omega)
 have iox24 := inodes_all hId5 _ (List.mem_of_getElem? hx24)
 refine FJ.dqg rfl rfl rfl (.s4 .z) rfl (by decide) rfl (.s .z) (q_indexAddr (j := Int.toNat x20.ino) rfl u_29 sz_73 (.t (.s (.s .z))) (.t .z) (by omega) (by omega)) ?_
 refine FJ.dqg rfl rfl rfl (.s4 (.s .z)) rfl (by decide) rfl (.s .z) (q_fieldAddr rfl (.t .z) (fun _ => fa_73_0 _ _)) ?_
 refine FJ.dqg rfl rfl rfl (.s4 (.s (.s .z))) rfl (by decide) rfl (.s .z) (q_load rfl ag_2 (.t .z) (WS.el hFe25 hce25 rfl)) ?_
 refine FJ.dqg rfl rfl rfl (.s4 (.s (.s (.s .z)))) rfl (by decide) rfl (.s .z) (q_eql rfl (.t .z) .c) ?_
 refine FJ.dq rfl rfl rfl (by decide) rfl (.s .z) (q_pickF rfl (.t (.s4 (.s4 .z))) (.t .z)) (FJ.schN ?_)
 refine FJ.drawN (by kernel_rfl) ?_
 refine FJ.then_ ?_
 refine FJ.condP (.t .z) (fun b28 => ?_) (fun b28 => ?_)
 refine FJ.seq (FJ.region (FJ.ql rfl (q_assign rfl .c) (FJ.nil (FJ.then_ ?_))))
 refine FJ.ret (FJ.inBR (FJ.thenR (FJ.thenR (FJ.inBR ?_))))
 refine FJ.inBR (FJ.thenR (FJ.thenR (FJ.inBR (FJ.thenR ?_))))
 refine FJ.doneS (res1 rfl .z) .n ?_
 exact ⟨by first | (rw [treeFault_r (by assumption)]; done) | (rw [treeFault_2 (by assumption) (by assumption)]; done) | (rw [treeFault_7 (by assumption) (by assumption) (by assumption)]; done) | (rw [treeFault_4 (by assumption) (by assumption) (by assumption) (badE_yes hx13 hx20 (by first | exact kind_out (by assumption) | (show kindAt f.inodes x20.ino = 0; omega)))]; done) | (rw [treeFault_0 (by assumption) (by assumption) (by assumption) (badE_no (fun j x hj hx => hallk j x (by omega) hx))]; done), rfl⟩
 refine FJ.skip (FJ.inBN (FJ.then_ (FJ.region ?_)))
 refine FJ.ql rfl (q_add (c := ((q + 1 : Nat) : Int)) rfl (.t (.s16 (.s4 .z))) .c (wr (by omega) (by omega) (by omega))) ?_
 refine FJ.er (.s16 (.s4 (.s .z))) (FJ.ql rfl (q_move rfl (.t .z)) (FJ.nil ?_))
 refine FJ.again (q + 1) ⟨by omega, all_succ (q := fun _ e => ¬ entBad f.inodes e) hallq hx20 (fun hb => by have hbb : kindAt f.inodes x20.ino = 0 := hb; omega)⟩ (by first | omega | (dsimp only; omega)) (.c .z (.c (.s16 (.s4 (.s (.s .z)))) (.c (.s16 (.s4 (.s (.s (.s .z))))) (.c (.s16 (.s4 (.s4 .z))) (.c (.s16 (.s4 (.s4 (.s .z)))) (.c (.s16 (.s4 (.s4 (.s (.s .z))))) (.c (.s16 (.s4 (.s4 (.s (.s (.s .z)))))) .n))))))) (fun _ h => h.sel (.c (.s (.s .z)) (.c .z (.c (.s .z) .n))))
 refine FJ.exit (FJ.thenE (FJ.thenE (FJ.inB (FJ.inBN ?_))))
 refine FJ.then_ (FJ.region ?_)
 refine FJ.ql rfl (q_add (c := ((k + 1 : Nat) : Int)) rfl (.t (.s4 .z)) .c (wr (by omega) (by omega) (by omega))) ?_
 refine FJ.er (.s4 (.s .z)) (FJ.ql rfl (q_move rfl (.t .z)) (FJ.nil ?_))
 refine FJ.again (k + 1) ⟨by omega, all_succ (q := fun _ x => goodX f.inodes x) hallk hx13 (fun j e he => hallq j e (by have := (List.getElem?_eq_some_iff.1 he).1; omega) he)⟩ (by first | omega | (dsimp only; omega)) (.c .z (.c (.s4 (.s (.s .z))) (.c (.s4 (.s (.s (.s .z)))) (.c (.s4 (.s4 .z)) .n)))) (fun _ h => h.sel (.c (.s .z) (.c (.s .z) .n)))
 refine FJ.exit (FJ.thenE (FJ.thenE (FJ.inB (FJ.then_ ?_))))
 refine FJ.seq (FJ.region (FJ.ql rfl (q_assign rfl .c) (FJ.nil (FJ.then_ ?_))))
 refine FJ.ret ?_
 refine FJ.doneS (res1 rfl .z) .n ?_
 exact ⟨by first | (rw [treeFault_r (by assumption)]; done) | (rw [treeFault_2 (by assumption) (by assumption)]; done) | (rw [treeFault_7 (by assumption) (by assumption) (by assumption)]; done) | (rw [treeFault_0 (by assumption) (by assumption) (by assumption) (badE_no (fun j x hj hx => hallk j x (by omega) hx))]; done), rfl⟩

set_option maxHeartbeats 1000000 in
set_option maxRecDepth 20000 in
theorem c_134 {w0 : World} {S0 : Bs} {f : DFs} {ad0 : Addr} (h0 : PtrRo kT_31 w0 (FF w0 S0) ad0 f)  :
    Calls Tryz.prog 134 #[.pointer (some ad0)] w0 (TriPost w0 S0 (fun r l => r = .int .i64 (treeFault f) ∧ l = [])) := by
 obtain ⟨ec0, hF0, hr0, hc0⟩ := id h0
 obtain ⟨u0_0, u0_1, rfl, h0_0, h0_1⟩ := kT_31_ro hr0
 obtain ⟨A0_0, c0_0, rfl, hl0_0, hm0_0, hb0_0, he0_0⟩ := ro_form h0_0
 obtain ⟨A0_1, c0_1, rfl, hl0_1, hm0_1, hb0_1, he0_1⟩ := ro_form h0_1
 refine FJ.enter (N := 122) Tryz.func134 rfl rfl (by simp) [(0, .pointer (some ad0))] (by simp) (l0 := []) trivial ?_
 refine FJ.seq (FJ.region (FJ.ql rfl (q_assign rfl .c) (FJ.nil (FJ.then_ ?_))))
 refine FJ.seq (FJ.seq (FJ.region (FJ.ql rfl (q_move rfl (.t (.s .z))) (FJ.ql rfl (q_nilCheck rfl (.t .z)) ?_))))
 refine FJ.ql rfl (q_fieldAddr rfl (.t .z) (fun _ => fa_31_0 _ _)) (FJ.ql rfl (q_load rfl ag_29 (.t .z) (WS.el hF0 hc0 rfl)) ?_)
 refine FJ.call (goes_list rfl) rfl (by decide) rfl (c_call rfl Tryz.func173 rfl rfl (args1 (.t .z))) .n (fun w1 S1 hs tr => c_173 (tr.ctx h0_0)) ?_
 rintro _ _ ⟨rfl, rfl⟩
 refine FJ.cat .n ?_
 refine FJ.ql rfl (q_assign rfl (.t .z)) (FJ.nil (FJ.then_ (FJ.seq (FJ.region ?_))))
 refine FJ.ql rfl (q_move rfl (.t .z)) (FJ.ql rfl (q_neq rfl (.t .z) .c) (FJ.nil (FJ.then_ ?_)))
 refine FJ.condN (.t .z) (fun b3 => ?_) (fun b3 => ?_)
 refine FJ.seq (FJ.region (FJ.ql rfl (q_move rfl (.t (.s (.s .z)))) (FJ.er (.s4 (.s4 (.s .z))) (FJ.ql rfl (q_assign rfl (.t .z)) ?_))))
 refine FJ.nil (FJ.then_ (FJ.ret (FJ.thenR ?_)))
 refine FJ.doneS (res1 rfl .z) .n ?_
 exact ⟨by first | (rw [treeFault_r (by rw [rootFault_f (by assumption)]; assumption), rootFault_f (by assumption)]; done) | (rw [treeFault_r (by rw [rootFault_1 (by assumption) (by omega)]; decide), rootFault_1 (by assumption) (by omega)]; done) | (rw [treeFault_2 (rootFault_0 (by assumption) (by omega) (by omega) (by omega)) (by assumption)]; done) | (rw [treeFault_7 (rootFault_0 (by assumption) (by omega) (by omega) (by omega)) (bigD_no (fun j b hj hb => hallz j b (by omega) hb)) (by assumption)]; done) | (rw [treeFault_0 (rootFault_0 (by assumption) (by omega) (by omega) (by omega)) (bigD_no (fun j b hj hb => hallz j b (by omega) hb)) (by assumption) (badE_no (fun j x hj hx => hallk j x (by omega) hx))]; done), rfl⟩
 refine FJ.skip (FJ.then_ (FJ.seq (FJ.seq (FJ.region ?_))))
 refine FJ.ql rfl (q_move rfl (.t (.s4 (.s4 (.s .z))))) (FJ.ql rfl (q_nilCheck rfl (.t .z)) (FJ.ql rfl (q_fieldAddr rfl (.t .z) (fun _ => fa_31_0 _ _)) (FJ.ql rfl (q_load rfl ag_29 (.t .z) (WS.el hF0 hc0 rfl)) (FJ.ql rfl (q_len rfl u_29 (.t .z)) ?_))))
 refine FJ.ql rfl (q_eql rfl (.t .z) .c) (FJ.ql rfl (q_move rfl (.t .z)) ?_)
 refine FJ.caseP .z (fun g4 => ?_) (fun g4 => ?_)
 refine FJ.skipl rfl rfl .z rfl rfl (by decide) rfl ?_
 refine FJ.skipl rfl rfl (.s .z) rfl rfl (by decide) rfl ?_
 refine FJ.skipl rfl rfl (.s (.s .z)) rfl rfl (by decide) rfl ?_
 refine FJ.skipl rfl rfl (.s (.s (.s .z))) rfl rfl (by decide) rfl ?_
 refine FJ.skipl rfl rfl (.s4 .z) rfl rfl (by decide) rfl ?_
 refine FJ.skipl rfl rfl (.s4 (.s .z)) rfl rfl (by decide) rfl ?_
 refine FJ.skipl rfl rfl (.s4 (.s (.s .z))) rfl rfl (by decide) rfl ?_
 refine FJ.skipl rfl rfl (.s4 (.s (.s (.s .z)))) rfl rfl (by decide) rfl ?_
 refine FJ.ql rfl (q_pickT rfl (.t (.s4 (.s4 .z))) .c) (FJ.ql rfl (q_move rfl (.t .z)) ?_)
 refine FJ.skipl rfl rfl .z rfl rfl (by decide) rfl ?_
 refine FJ.skipl rfl rfl (.s .z) rfl rfl (by decide) rfl ?_
 refine FJ.skipl rfl rfl (.s (.s .z)) rfl rfl (by decide) rfl ?_
 refine FJ.skipl rfl rfl (.s (.s (.s .z))) rfl rfl (by decide) rfl ?_
 refine FJ.skipl rfl rfl (.s4 .z) rfl rfl (by decide) rfl ?_
 refine FJ.skipl rfl rfl (.s4 (.s .z)) rfl rfl (by decide) rfl ?_
 refine FJ.ql rfl (q_pickT rfl (.t (.s4 (.s (.s .z)))) .c) (FJ.nil (FJ.then_ ?_))
 refine FJ.condT (.t .z) ?_
 refine FJ.seq (FJ.region (FJ.er (.s16 (.s16 .z)) (FJ.ql rfl (q_assign rfl .c) (FJ.nil ?_))))
 refine FJ.then_ (FJ.ret (FJ.thenR ?_))
 refine FJ.doneS (res1 rfl .z) .n ?_
 exact ⟨by first | (rw [treeFault_r (by rw [rootFault_f (by assumption)]; assumption), rootFault_f (by assumption)]; done) | (rw [treeFault_r (by rw [rootFault_1 (by assumption) (by omega)]; decide), rootFault_1 (by assumption) (by omega)]; done) | (rw [treeFault_2 (rootFault_0 (by assumption) (by omega) (by omega) (by omega)) (by assumption)]; done) | (rw [treeFault_7 (rootFault_0 (by assumption) (by omega) (by omega) (by omega)) (bigD_no (fun j b hj hb => hallz j b (by omega) hb)) (by assumption)]; done) | (rw [treeFault_0 (rootFault_0 (by assumption) (by omega) (by omega) (by omega)) (bigD_no (fun j b hj hb => hallz j b (by omega) hb)) (by assumption) (badE_no (fun j x hj hx => hallk j x (by omega) hx))]; done), rfl⟩
 refine FJ.q (goes_listg rfl rfl .z) rfl (by decide) rfl (q_move rfl (.t (.s16 .z))) ?_
 refine FJ.q (goes_listg rfl rfl (.s .z)) rfl (by decide) rfl (q_nilCheck rfl (.t .z)) ?_
 refine FJ.q (goes_listg rfl rfl (.s (.s .z))) rfl (by decide) rfl (q_fieldAddr rfl (.t .z) (fun _ => fa_31_0 _ _)) ?_
 refine FJ.q (goes_listg rfl rfl (.s (.s (.s .z)))) rfl (by decide) rfl (q_load rfl ag_29 (.t .z) (WS.el hF0 hc0 rfl)) ?_
 obtain ⟨ad5, hAad5, hrad5⟩ := he0_0 (by omega)
 subst hAad5
 obtain ⟨x6, hx6⟩ := get_ex (xs := f.inodes) (j := 0) (by omega)
 obtain ⟨ece7, hre7, hFe7, hce7⟩ := hrad5.elem hx6
 obtain ⟨ue7_3, ue7_4, rfl, he7_3, he7_4⟩ := kT_73_ro hre7
 obtain ⟨Ae7_3, ce7_3, rfl, hle7_3, hme7_3, hbe7_3, hee7_3⟩ := ro_form he7_3
 obtain ⟨Ae7_4, ce7_4, rfl, hle7_4, hme7_4, hbe7_4, hee7_4⟩ := ro_form he7_4
 have kx6 := kind_at (i := 0) hx6 (by omega)
 have nx6 := ents_at (a := 0) hx6 (by omega)
 have iox6 := inodes_all b3 _ (List.mem_of_getElem? hx6)
 refine FJ.q (goes_listg rfl rfl (.s4 .z)) rfl (by decide) rfl (q_indexAddr (j := 0) rfl u_29 sz_73 (.t .z) .c rfl (by omega)) ?_
 refine FJ.q (goes_listg rfl rfl (.s4 (.s .z))) rfl (by decide) rfl (q_fieldAddr rfl (.t .z) (fun _ => fa_73_0 _ _)) ?_
 refine FJ.q (goes_listg rfl rfl (.s4 (.s (.s .z)))) rfl (by decide) rfl (q_load rfl ag_2 (.t .z) (WS.el hFe7 hce7 rfl)) ?_
 refine FJ.q (goes_listg rfl rfl (.s4 (.s (.s (.s .z))))) rfl (by decide) rfl (q_neq rfl (.t .z) .c) ?_
 refine FJ.ql rfl (q_pickF rfl (.t (.s4 (.s4 .z))) (.t .z)) (FJ.ql rfl (q_move rfl (.t .z)) ?_)
 refine FJ.caseN .z (fun g10 => ?_) (fun g10 => ?_)
 refine FJ.skipl rfl rfl .z rfl rfl (by decide) rfl ?_
 refine FJ.skipl rfl rfl (.s .z) rfl rfl (by decide) rfl ?_
 refine FJ.skipl rfl rfl (.s (.s .z)) rfl rfl (by decide) rfl ?_
 refine FJ.skipl rfl rfl (.s (.s (.s .z))) rfl rfl (by decide) rfl ?_
 refine FJ.skipl rfl rfl (.s4 .z) rfl rfl (by decide) rfl ?_
 refine FJ.skipl rfl rfl (.s4 (.s .z)) rfl rfl (by decide) rfl ?_
 refine FJ.ql rfl (q_pickT rfl (.t (.s4 (.s (.s .z)))) .c) (FJ.nil (FJ.then_ ?_))
 refine FJ.condT (.t .z) ?_
 refine FJ.seq (FJ.region (FJ.er (.s16 (.s16 .z)) (FJ.ql rfl (q_assign rfl .c) (FJ.nil ?_))))
 refine FJ.then_ (FJ.ret (FJ.thenR ?_))
 refine FJ.doneS (res1 rfl .z) .n ?_
 exact ⟨by first | (rw [treeFault_r (by rw [rootFault_f (by assumption)]; assumption), rootFault_f (by assumption)]; done) | (rw [treeFault_r (by rw [rootFault_1 (by assumption) (by omega)]; decide), rootFault_1 (by assumption) (by omega)]; done) | (rw [treeFault_2 (rootFault_0 (by assumption) (by omega) (by omega) (by omega)) (by assumption)]; done) | (rw [treeFault_7 (rootFault_0 (by assumption) (by omega) (by omega) (by omega)) (bigD_no (fun j b hj hb => hallz j b (by omega) hb)) (by assumption)]; done) | (rw [treeFault_0 (rootFault_0 (by assumption) (by omega) (by omega) (by omega)) (bigD_no (fun j b hj hb => hallz j b (by omega) hb)) (by assumption) (badE_no (fun j x hj hx => hallk j x (by omega) hx))]; done), rfl⟩
 refine FJ.q (goes_listg rfl rfl .z) rfl (by decide) rfl (q_move rfl (.t (.s16 (.s4 (.s4 (.s (.s .z))))))) ?_
 refine FJ.q (goes_listg rfl rfl (.s .z)) rfl (by decide) rfl (q_nilCheck rfl (.t .z)) ?_
 refine FJ.q (goes_listg rfl rfl (.s (.s .z))) rfl (by decide) rfl (q_fieldAddr rfl (.t .z) (fun _ => fa_31_1 _ _)) ?_
 refine FJ.q (goes_listg rfl rfl (.s (.s (.s .z)))) rfl (by decide) rfl (q_load rfl ag_23 (.t .z) (WS.el hF0 hc0 rfl)) ?_
 refine FJ.q (goes_listg rfl rfl (.s4 .z)) rfl (by decide) rfl (q_len rfl u_23 (.t .z)) ?_
 refine FJ.q (goes_listg rfl rfl (.s4 (.s .z))) rfl (by decide) rfl (q_neq rfl (.t .z) .c) ?_
 refine FJ.ql rfl (q_pickF rfl (.t (.s4 (.s (.s .z)))) (.t .z)) (FJ.nil (FJ.then_ ?_))
 refine FJ.condN (.t .z) (fun b11 => ?_) (fun b11 => ?_)
 refine FJ.seq (FJ.region (FJ.er (.s16 (.s16 .z)) (FJ.ql rfl (q_assign rfl .c) (FJ.nil ?_))))
 refine FJ.then_ (FJ.ret (FJ.thenR ?_))
 refine FJ.doneS (res1 rfl .z) .n ?_
 exact ⟨by first | (rw [treeFault_r (by rw [rootFault_f (by assumption)]; assumption), rootFault_f (by assumption)]; done) | (rw [treeFault_r (by rw [rootFault_1 (by assumption) (by omega)]; decide), rootFault_1 (by assumption) (by omega)]; done) | (rw [treeFault_2 (rootFault_0 (by assumption) (by omega) (by omega) (by omega)) (by assumption)]; done) | (rw [treeFault_7 (rootFault_0 (by assumption) (by omega) (by omega) (by omega)) (bigD_no (fun j b hj hb => hallz j b (by omega) hb)) (by assumption)]; done) | (rw [treeFault_0 (rootFault_0 (by assumption) (by omega) (by omega) (by omega)) (bigD_no (fun j b hj hb => hallz j b (by omega) hb)) (by assumption) (badE_no (fun j x hj hx => hallk j x (by omega) hx))]; done), rfl⟩
 refine FJ.skip (FJ.then_ (FJ.seq (FJ.seq (FJ.region ?_))))
 refine FJ.ql rfl (q_assign rfl .c) (FJ.nil (FJ.then_ (FJ.block ?_)))
 refine FJ.loopi (γ := Nat) (fun z => [(4, .int .i64 (z : Int)), (0, .pointer (some ad0))]) (fun z => []) (fun z => z ≤ f.data.length ∧ ∀ j b, j < z → f.data[j]? = some b → ¬ (8 : Int) < (b.length : Int)) (fun z => f.data.length - z) 0 ⟨Nat.zero_le _, all_zero (q := fun _ (b : List UInt8) => ¬ (8 : Int) < (b.length : Int))⟩ (.c .z (.c (.s16 (.s16 (.s (.s .z)))) .n)) (fun _ h => h) ?_
 rintro z ⟨hz, hallz⟩
 refine FJ.seq (FJ.seq (FJ.region (FJ.ql rfl (q_move rfl (.t .z)) (FJ.ql rfl (q_move rfl (.t (.s (.s .z)))) ?_))))
 refine FJ.ql rfl (q_nilCheck rfl (.t .z)) (FJ.ql rfl (q_fieldAddr rfl (.t .z) (fun _ => fa_31_1 _ _)) (FJ.ql rfl (q_load rfl ag_23 (.t .z) (WS.el hF0 hc0 rfl)) (FJ.ql rfl (q_len rfl u_23 (.t .z)) (FJ.ql rfl (q_lss rfl (.t (.s4 (.s .z))) (.t .z)) ?_))))
 refine FJ.nil (FJ.then_ ?_)
 refine FJ.condP (.t .z) (fun b12 => ?_) (fun b12 => ?_)
 refine FJ.skip (FJ.then_ (FJ.seq (FJ.block (FJ.seq ?_))))
 refine FJ.region (FJ.ql rfl (q_move rfl (.t (.s4 (.s4 .z)))) (FJ.ql rfl (q_nilCheck rfl (.t .z)) (FJ.ql rfl (q_fieldAddr rfl (.t .z) (fun _ => fa_31_1 _ _)) (FJ.ql rfl (q_load rfl ag_23 (.t .z) (WS.el hF0 hc0 rfl)) ?_))))
 refine FJ.ql rfl (q_move rfl (.t (.s4 (.s4 (.s (.s (.s .z))))))) ?_
 obtain ⟨ad13, hAad13, hrad13⟩ := he0_1 (by omega)
 subst hAad13
 obtain ⟨x14, hx14⟩ := get_ex (xs := f.data) (j := z) (by omega)
 obtain ⟨ece15, hre15, hFe15, hce15⟩ := hrad13.elem hx14
 obtain ⟨ue15, rfl⟩ := sl_one hre15
 obtain ⟨Ae15, ce15, rfl, hle15, hme15, hbe15, hee15⟩ := ro_form hre15
 refine FJ.ql rfl (q_indexAddr (j := z) rfl u_23 sz_26 (.t (.s .z)) (.t .z) rfl (by omega)) ?_
 refine FJ.ql rfl (q_load rfl ag_26 (.t .z) (WS.el0 hFe15 hce15 rfl)) (FJ.ql rfl (q_len rfl u_26 (.t .z)) (FJ.ql rfl (q_gtr rfl (.t .z) .c) (FJ.nil (FJ.then_ ?_))))
 refine FJ.condP (.t .z) (fun b17 => ?_) (fun b17 => ?_)
 refine FJ.seq (FJ.region (FJ.ql rfl (q_assign rfl .c) (FJ.nil (FJ.then_ ?_))))
 refine FJ.ret (FJ.inBR (FJ.thenR (FJ.thenR (FJ.inBR ?_))))
 refine FJ.thenR ?_
 refine FJ.doneS (res1 rfl .z) .n ?_
 exact ⟨by first | (rw [treeFault_r (by rw [rootFault_f (by assumption)]; assumption), rootFault_f (by assumption)]; done) | (rw [treeFault_r (by rw [rootFault_1 (by assumption) (by omega)]; decide), rootFault_1 (by assumption) (by omega)]; done) | (rw [treeFault_2 (rootFault_0 (by assumption) (by omega) (by omega) (by omega)) (bigD_yes hx14 (by assumption))]; done) | (rw [treeFault_7 (rootFault_0 (by assumption) (by omega) (by omega) (by omega)) (bigD_no (fun j b hj hb => hallz j b (by omega) hb)) (by assumption)]; done) | (rw [treeFault_0 (rootFault_0 (by assumption) (by omega) (by omega) (by omega)) (bigD_no (fun j b hj hb => hallz j b (by omega) hb)) (by assumption) (badE_no (fun j x hj hx => hallk j x (by omega) hx))]; done), rfl⟩
 refine FJ.skip (FJ.inBN (FJ.then_ (FJ.region (FJ.ql rfl (q_move rfl (.t (.s16 .z))) ?_))))
 refine FJ.ql rfl (q_add (c := ((z + 1 : Nat) : Int)) rfl (.t .z) .c (wr (by omega) (by omega) (by omega))) ?_
 refine FJ.er (.s16 (.s (.s .z))) (FJ.ql rfl (q_assign rfl (.t .z)) (FJ.nil ?_))
 refine FJ.again (z + 1) ⟨by omega, all_succ (q := fun _ (b : List UInt8) => ¬ (8 : Int) < (b.length : Int)) hallz hx14 (by assumption)⟩ (by first | omega | (dsimp only; omega)) (.c .z (.c (.s16 (.s (.s (.s .z)))) .n)) (fun _ h => h)
 refine FJ.exit (FJ.thenE (FJ.thenE (FJ.inB (FJ.then_ ?_))))
 refine FJ.seq (FJ.seq (FJ.region (FJ.ql rfl (q_move rfl (.t (.s4 (.s4 .z)))) (FJ.ql rfl (q_nilCheck rfl (.t .z)) ?_))))
 refine FJ.ql rfl (q_fieldAddr rfl (.t .z) (fun _ => fa_31_0 _ _)) (FJ.ql rfl (q_load rfl ag_29 (.t .z) (WS.el hF0 hc0 rfl)) ?_)
 refine FJ.call (goes_list rfl) rfl (by decide) rfl (c_call rfl Tryz.func174 rfl rfl (args1 (.t .z))) .n (fun w1 S1 hs tr => c_174 (tr.ctx h0_0) (by assumption)) ?_
 rintro _ _ ⟨v18, rfl, rfl⟩
 refine FJ.cat (.c .n) ?_
 refine FJ.know (WS.oform .z) ?_
 rintro ⟨Ao20, co20, rfl, hlo20, hmo20, hbo20⟩
 refine FJ.ql rfl (q_move rfl (.t .z)) (FJ.ql rfl (q_extract (v := .slice Ao20 (placesTo (usedP f.inodes) 20).length co20) rfl (.t .z) rfl) (FJ.ql rfl (q_extract (v := .bool (decide (usedL f.inodes).Nodup)) rfl (.t (.s .z)) rfl) (FJ.ql rfl (q_assign rfl (.t (.s .z))) (FJ.ql rfl (q_assign rfl (.t (.s .z))) ?_))))
 refine FJ.nil (FJ.then_ (FJ.seq (FJ.region (FJ.ql rfl (q_move rfl (.t .z)) ?_))))
 refine FJ.ql rfl (q_not rfl (.t .z)) (FJ.nil (FJ.then_ ?_))
 refine FJ.condN (.t .z) (fun b21 => ?_) (fun b21 => ?_)
 refine FJ.seq (FJ.region (FJ.ql rfl (q_assign rfl .c) (FJ.nil (FJ.then_ ?_))))
 refine FJ.ret (FJ.thenR ?_)
 refine FJ.doneS (res1 rfl .z) .n ?_
 exact ⟨by first | (rw [treeFault_r (by rw [rootFault_f (by assumption)]; assumption), rootFault_f (by assumption)]; done) | (rw [treeFault_r (by rw [rootFault_1 (by assumption) (by omega)]; decide), rootFault_1 (by assumption) (by omega)]; done) | (rw [treeFault_2 (rootFault_0 (by assumption) (by omega) (by omega) (by omega)) (by assumption)]; done) | (rw [treeFault_7 (rootFault_0 (by assumption) (by omega) (by omega) (by omega)) (bigD_no (fun j b hj hb => hallz j b (by omega) hb)) (by assumption)]; done) | (rw [treeFault_0 (rootFault_0 (by assumption) (by omega) (by omega) (by omega)) (bigD_no (fun j b hj hb => hallz j b (by omega) hb)) (by assumption) (badE_no (fun j x hj hx => hallk j x (by omega) hx))]; done), rfl⟩
 refine FJ.skip (FJ.then_ (FJ.seq (FJ.seq (FJ.region ?_))))
 refine FJ.ql rfl (q_assign rfl .c) (FJ.nil (FJ.then_ (FJ.block ?_)))
 refine FJ.loopi (γ := Nat) (fun k => [(7, .int .i64 (k : Int)), (0, .pointer (some ad0))]) (fun k => [ownA kSl_2 (placesTo (usedP f.inodes) 20) [.slice Ao20 (placesTo (usedP f.inodes) 20).length co20]]) (fun k => k ≤ f.inodes.length ∧ ∀ j x, j < k → f.inodes[j]? = some x → goodX f.inodes x) (fun k => f.inodes.length - k) 0 ⟨Nat.zero_le _, all_zero (q := fun _ x => goodX f.inodes x)⟩ (.c .z (.c (.s16 (.s4 (.s .z))) .n)) (fun _ h => h.sel (.c .z .n)) ?_
 rintro k ⟨hk, hallk⟩
 refine FJ.seq (FJ.seq (FJ.region (FJ.ql rfl (q_move rfl (.t .z)) (FJ.ql rfl (q_move rfl (.t (.s (.s .z)))) ?_))))
 refine FJ.ql rfl (q_nilCheck rfl (.t .z)) (FJ.ql rfl (q_fieldAddr rfl (.t .z) (fun _ => fa_31_0 _ _)) (FJ.ql rfl (q_load rfl ag_29 (.t .z) (WS.el hF0 hc0 rfl)) (FJ.ql rfl (q_len rfl u_29 (.t .z)) (FJ.ql rfl (q_lss rfl (.t (.s4 (.s .z))) (.t .z)) ?_))))
 refine FJ.nil (FJ.then_ ?_)
 refine FJ.condP (.t .z) (fun b22 => ?_) (fun b22 => ?_)
 refine FJ.skip (FJ.then_ (FJ.seq (FJ.block (FJ.seq ?_))))
 refine FJ.region (FJ.ql rfl (q_assign rfl .c) (FJ.nil (FJ.then_ (FJ.block ?_))))
 obtain ⟨x23, hx23⟩ := get_ex (xs := f.inodes) (j := k) (by omega)
 obtain ⟨ece24, hre24, hFe24, hce24⟩ := hrad5.elem hx23
 obtain ⟨ue24_3, ue24_4, rfl, he24_3, he24_4⟩ := kT_73_ro hre24
 obtain ⟨Ae24_3, ce24_3, rfl, hle24_3, hme24_3, hbe24_3, hee24_3⟩ := ro_form he24_3
 obtain ⟨Ae24_4, ce24_4, rfl, hle24_4, hme24_4, hbe24_4, hee24_4⟩ := ro_form he24_4
 have kx23 := kind_at (i := ((k : Nat) : Int)) hx23 (by omega)
 have nx23 := ents_at (a := ((k : Nat) : Int)) hx23 (by omega)
 have iox23 := inodes_all b3 _ (List.mem_of_getElem? hx23)
 refine FJ.loopi (γ := Nat) (fun q => [(8, .int .i64 (q : Int)), (7, .int .i64 (k : Int)), (0, .pointer (some ad0))]) (fun q => [ownA kSl_2 (placesTo (usedP f.inodes) 20) [.slice Ao20 (placesTo (usedP f.inodes) 20).length co20]]) (fun q => q ≤ x23.ents.length ∧ ∀ j e, j < q → x23.ents[j]? = some e → ¬ entBad f.inodes e) (fun q => x23.ents.length - q) 0 ⟨Nat.zero_le _, all_zero (q := fun _ e => ¬ entBad f.inodes e)⟩ (.c .z (.c (.s4 (.s4 .z)) (.c (.s4 (.s4 (.s .z))) .n))) (fun _ h => h.sel (.c .z .n)) ?_
 rintro q ⟨hq, hallq⟩
 refine FJ.seq (FJ.seq (FJ.region (FJ.ql rfl (q_move rfl (.t .z)) (FJ.ql rfl (q_move rfl (.t (.s (.s (.s .z))))) ?_))))
 refine FJ.ql rfl (q_nilCheck rfl (.t .z)) (FJ.ql rfl (q_fieldAddr rfl (.t .z) (fun _ => fa_31_0 _ _)) (FJ.ql rfl (q_load rfl ag_29 (.t .z) (WS.el hF0 hc0 rfl)) (FJ.ql rfl (q_move rfl (.t (.s4 (.s (.s .z))))) ?_)))
 refine FJ.ql rfl (q_indexAddr (j := k) rfl u_29 sz_73 (.t (.s .z)) (.t .z) rfl (by omega)) ?_
 refine FJ.ql rfl (q_fieldAddr rfl (.t .z) (fun _ => fa_73_4 _ _)) (FJ.ql rfl (q_load rfl ag_71 (.t .z) (WS.el hFe24 hce24 rfl)) (FJ.ql rfl (q_len rfl u_71 (.t .z)) (FJ.ql rfl (q_lss rfl (.t (.s4 (.s4 (.s .z)))) (.t .z)) (FJ.nil ?_))))
 refine FJ.then_ ?_
 refine FJ.condP (.t .z) (fun b27 => ?_) (fun b27 => ?_)
 refine FJ.skip (FJ.then_ (FJ.seq (FJ.block (FJ.seq ?_))))
 refine FJ.region (FJ.ql rfl (q_move rfl (.t (.s4 (.s4 (.s4 (.s .z)))))) (FJ.ql rfl (q_nilCheck rfl (.t .z)) (FJ.ql rfl (q_fieldAddr rfl (.t .z) (fun _ => fa_31_0 _ _)) (FJ.ql rfl (q_load rfl ag_29 (.t .z) (WS.el hF0 hc0 rfl)) ?_))))
 refine FJ.ql rfl (q_move rfl (.t (.s16 .z))) ?_
 refine FJ.ql rfl (q_indexAddr (j := k) rfl u_29 sz_73 (.t (.s .z)) (.t .z) rfl (by omega)) ?_
 refine FJ.ql rfl (q_fieldAddr rfl (.t .z) (fun _ => fa_73_4 _ _)) (FJ.ql rfl (q_load rfl ag_71 (.t .z) (WS.el hFe24 hce24 rfl)) (FJ.ql rfl (q_move rfl (.t (.s16 (.s (.s (.s .z)))))) ?_))
 obtain ⟨ad28, hAad28, hrad28⟩ := hee24_4 (by omega)
 subst hAad28
 obtain ⟨x29, hx29⟩ := get_ex (xs := x23.ents) (j := q) (by omega)
 obtain ⟨ece30, hre30, hFe30, hce30⟩ := hrad28.elem hx29
 obtain ⟨rfl, se30_0⟩ := kT_151_ro hre30
 have pox29 := ents_ok iox23 _ _ hx29
 refine FJ.ql rfl (q_indexAddr (j := q) rfl u_71 sz_151 (.t (.s .z)) (.t .z) rfl (by omega)) ?_
 refine FJ.ql rfl (q_fieldAddr rfl (.t .z) (fun _ => fa_151_1 _ _)) (FJ.ql rfl (q_load rfl ag_2 (.t .z) (WS.el hFe30 hce30 rfl)) (FJ.ql rfl (q_assign rfl (.t .z)) (FJ.nil (FJ.then_ ?_))))
 refine FJ.seq (FJ.region (FJ.ql rfl (q_move rfl (.t .z)) (FJ.ql rfl (q_move rfl (.t (.s16 (.s4 (.s4 (.s (.s (.s .z)))))))) (FJ.ql rfl (q_nilCheck rfl (.t .z)) ?_))))
 refine FJ.ql rfl (q_fieldAddr rfl (.t .z) (fun _ => fa_31_0 _ _)) (FJ.ql rfl (q_load rfl ag_29 (.t .z) (WS.el hF0 hc0 rfl)) (FJ.ql rfl (q_len rfl u_29 (.t .z)) (FJ.ql rfl (q_geq rfl (.t (.s4 (.s .z))) (.t .z)) (FJ.ql rfl (q_move rfl (.t .z)) ?_))))
 refine FJ.caseP .z (fun g31 => ?_) (fun g31 => ?_)
 refine FJ.skipl rfl rfl .z rfl rfl (by decide) rfl ?_
 refine FJ.skipl rfl rfl (.s .z) rfl rfl (by decide) rfl ?_
 refine FJ.skipl rfl rfl (.s (.s .z)) rfl rfl (by decide) rfl ?_
 refine FJ.skipl rfl rfl (.s (.s (.s .z))) rfl rfl (by decide) rfl ?_
 refine FJ.skipl rfl rfl (.s4 .z) rfl rfl (by decide) rfl ?_
 refine FJ.skipl rfl rfl (.s4 (.s .z)) rfl rfl (by decide) rfl ?_
 refine FJ.skipl rfl rfl (.s4 (.s (.s .z))) rfl rfl (by decide) rfl ?_
 refine FJ.skipl rfl rfl (.s4 (.s (.s (.s .z)))) rfl rfl (by decide) rfl ?_
 refine FJ.skipl rfl rfl (.s4 (.s4 .z)) rfl rfl (by decide) rfl ?_
 refine FJ.ql rfl (q_pickT rfl (.t (.s4 (.s4 (.s .z)))) .c) (FJ.nil (FJ.then_ ?_))
 refine FJ.condT (.t .z) ?_
 refine FJ.seq (FJ.region (FJ.ql rfl (q_assign rfl .c) (FJ.nil (FJ.then_ ?_))))
 refine FJ.ret (FJ.inBR (FJ.thenR (FJ.thenR (FJ.inBR ?_))))
 refine FJ.inBR (FJ.thenR (FJ.thenR (FJ.inBR (FJ.thenR ?_))))
 refine FJ.doneS (res1 rfl .z) .n ?_
 exact ⟨by first | (rw [treeFault_r (by rw [rootFault_f (by assumption)]; assumption), rootFault_f (by assumption)]; done) | (rw [treeFault_r (by rw [rootFault_1 (by assumption) (by omega)]; decide), rootFault_1 (by assumption) (by omega)]; done) | (rw [treeFault_2 (rootFault_0 (by assumption) (by omega) (by omega) (by omega)) (by assumption)]; done) | (rw [treeFault_7 (rootFault_0 (by assumption) (by omega) (by omega) (by omega)) (bigD_no (fun j b hj hb => hallz j b (by omega) hb)) (by assumption)]; done) | (rw [treeFault_4 (rootFault_0 (by assumption) (by omega) (by omega) (by omega)) (bigD_no (fun j b hj hb => hallz j b (by omega) hb)) (by assumption) (badE_yes hx23 hx29 (by first | exact kind_out (by assumption) | (show kindAt f.inodes x29.ino = 0; omega)))]; done) | (rw [treeFault_0 (rootFault_0 (by assumption) (by omega) (by omega) (by omega)) (bigD_no (fun j b hj hb => hallz j b (by omega) hb)) (by assumption) (badE_no (fun j x hj hx => hallk j x (by omega) hx))]; done), rfl⟩
 refine FJ.q (goes_listg rfl rfl .z) rfl (by decide) rfl (q_move rfl (.t (.s16 (.s16 (.s (.s .z)))))) ?_
 refine FJ.q (goes_listg rfl rfl (.s .z)) rfl (by decide) rfl (q_nilCheck rfl (.t .z)) ?_
 refine FJ.q (goes_listg rfl rfl (.s (.s .z))) rfl (by decide) rfl (q_fieldAddr rfl (.t .z) (fun _ => fa_31_0 _ _)) ?_
 refine FJ.q (goes_listg rfl rfl (.s (.s (.s .z)))) rfl (by decide) rfl (q_load rfl ag_29 (.t .z) (WS.el hF0 hc0 rfl)) ?_
 refine FJ.q (goes_listg rfl rfl (.s4 .z)) rfl (by decide) rfl (q_move rfl (.t (.s4 (.s4 (.s4 .z))))) ?_
 obtain ⟨x32, hx32⟩ := get_ex (xs := f.inodes) (j := Int.toNat x29.ino) (by omega)
 obtain ⟨ece33, hre33, hFe33, hce33⟩ := hrad5.elem hx32
 obtain ⟨ue33_3, ue33_4, rfl, he33_3, he33_4⟩ := kT_73_ro hre33
 obtain ⟨Ae33_3, ce33_3, rfl, hle33_3, hme33_3, hbe33_3, hee33_3⟩ := ro_form he33_3
 obtain ⟨Ae33_4, ce33_4, rfl, hle33_4, hme33_4, hbe33_4, hee33_4⟩ := ro_form he33_4
 have kx32 := kind_at (i := x29.ino) hx32 (by omega)
 have nx32 := ents_at (a := x29.ino) hx32 (by omega)
 have iox32 := inodes_all b3 _ (List.mem_of_getElem? hx32)
 refine FJ.q (goes_listg rfl rfl (.s4 (.s .z))) rfl (by decide) rfl (q_indexAddr (j := Int.toNat x29.ino) rfl u_29 sz_73 (.t (.s .z)) (.t .z) (by omega) (by omega)) ?_
 refine FJ.q (goes_listg rfl rfl (.s4 (.s (.s .z)))) rfl (by decide) rfl (q_fieldAddr rfl (.t .z) (fun _ => fa_73_0 _ _)) ?_
 refine FJ.q (goes_listg rfl rfl (.s4 (.s (.s (.s .z))))) rfl (by decide) rfl (q_load rfl ag_2 (.t .z) (WS.el hFe33 hce33 rfl)) ?_
 refine FJ.q (goes_listg rfl rfl (.s4 (.s4 .z))) rfl (by decide) rfl (q_eql rfl (.t .z) .c) ?_
 refine FJ.ql rfl (q_pickF rfl (.t (.s4 (.s4 (.s .z)))) (.t .z)) (FJ.nil (FJ.then_ ?_))
 refine FJ.condP (.t .z) (fun b36 => ?_) (fun b36 => ?_)
 refine FJ.seq (FJ.region (FJ.ql rfl (q_assign rfl .c) (FJ.nil (FJ.then_ ?_))))
 refine FJ.ret (FJ.inBR (FJ.thenR (FJ.thenR (FJ.inBR ?_))))
 refine FJ.inBR (FJ.thenR (FJ.thenR (FJ.inBR (FJ.thenR ?_))))
 refine FJ.doneS (res1 rfl .z) .n ?_
 exact ⟨by first | (rw [treeFault_r (by rw [rootFault_f (by assumption)]; assumption), rootFault_f (by assumption)]; done) | (rw [treeFault_r (by rw [rootFault_1 (by assumption) (by omega)]; decide), rootFault_1 (by assumption) (by omega)]; done) | (rw [treeFault_2 (rootFault_0 (by assumption) (by omega) (by omega) (by omega)) (by assumption)]; done) | (rw [treeFault_7 (rootFault_0 (by assumption) (by omega) (by omega) (by omega)) (bigD_no (fun j b hj hb => hallz j b (by omega) hb)) (by assumption)]; done) | (rw [treeFault_4 (rootFault_0 (by assumption) (by omega) (by omega) (by omega)) (bigD_no (fun j b hj hb => hallz j b (by omega) hb)) (by assumption) (badE_yes hx23 hx29 (by first | exact kind_out (by assumption) | (show kindAt f.inodes x29.ino = 0; omega)))]; done) | (rw [treeFault_0 (rootFault_0 (by assumption) (by omega) (by omega) (by omega)) (bigD_no (fun j b hj hb => hallz j b (by omega) hb)) (by assumption) (badE_no (fun j x hj hx => hallk j x (by omega) hx))]; done), rfl⟩
 refine FJ.skip (FJ.inBN (FJ.then_ (FJ.region (FJ.ql rfl (q_move rfl (.t (.s16 (.s16 (.s4 (.s4 (.s (.s .z)))))))) ?_))))
 refine FJ.ql rfl (q_add (c := ((q + 1 : Nat) : Int)) rfl (.t .z) .c (wr (by omega) (by omega) (by omega))) ?_
 refine FJ.er (.s16 (.s16 (.s4 (.s4 (.s4 .z))))) (FJ.ql rfl (q_assign rfl (.t .z)) (FJ.nil ?_))
 refine FJ.again (q + 1) ⟨by omega, all_succ (q := fun _ e => ¬ entBad f.inodes e) hallq hx29 (fun hb => by have hbb : kindAt f.inodes x29.ino = 0 := hb; omega)⟩ (by first | omega | (dsimp only; omega)) (.c .z (.c (.s16 (.s16 (.s4 (.s4 (.s4 (.s .z)))))) (.c (.s16 (.s16 (.s4 (.s4 (.s4 (.s (.s .z))))))) .n))) (fun _ h => h.sel (.c .z .n))
 refine FJ.exit (FJ.thenE (FJ.thenE (FJ.inB (FJ.inBN ?_))))
 refine FJ.then_ (FJ.region (FJ.ql rfl (q_move rfl (.t (.s4 (.s4 (.s4 .z))))) ?_))
 refine FJ.ql rfl (q_add (c := ((k + 1 : Nat) : Int)) rfl (.t .z) .c (wr (by omega) (by omega) (by omega))) ?_
 refine FJ.er (.s4 (.s4 (.s4 (.s (.s .z))))) (FJ.ql rfl (q_assign rfl (.t .z)) (FJ.nil ?_))
 refine FJ.again (k + 1) ⟨by omega, all_succ (q := fun _ x => goodX f.inodes x) hallk hx23 (fun j e he => hallq j e (by have := (List.getElem?_eq_some_iff.1 he).1; omega) he)⟩ (by first | omega | (dsimp only; omega)) (.c .z (.c (.s4 (.s4 (.s4 (.s (.s (.s .z)))))) .n)) (fun _ h => h.sel (.c .z .n))
 refine FJ.exit (FJ.thenE (FJ.thenE (FJ.inB (FJ.then_ ?_))))
 refine FJ.seq (FJ.region (FJ.ql rfl (q_assign rfl .c) (FJ.nil (FJ.then_ ?_))))
 refine FJ.ret ?_
 refine FJ.doneS (res1 rfl .z) .n ?_
 exact ⟨by first | (rw [treeFault_r (by rw [rootFault_f (by assumption)]; assumption), rootFault_f (by assumption)]; done) | (rw [treeFault_r (by rw [rootFault_1 (by assumption) (by omega)]; decide), rootFault_1 (by assumption) (by omega)]; done) | (rw [treeFault_2 (rootFault_0 (by assumption) (by omega) (by omega) (by omega)) (by assumption)]; done) | (rw [treeFault_7 (rootFault_0 (by assumption) (by omega) (by omega) (by omega)) (bigD_no (fun j b hj hb => hallz j b (by omega) hb)) (by assumption)]; done) | (rw [treeFault_0 (rootFault_0 (by assumption) (by omega) (by omega) (by omega)) (bigD_no (fun j b hj hb => hallz j b (by omega) hb)) (by assumption) (badE_no (fun j x hj hx => hallk j x (by omega) hx))]; done), rfl⟩

end Go.Proofs.YticaddophhggoaaGreat

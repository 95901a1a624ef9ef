/- What is proved: contracts of functions, one a function. No condition. -/
import Derived.Test.YtoaebcjjfojfeaaW3
namespace Go.Proofs.Ytoaebcjjfojfeaa
open Go Go.RowKit
set_option linter.unusedVariables false
set_option linter.unusedSimpArgs false
set_option maxHeartbeats 1000000 in
set_option maxRecDepth 20000 in
theorem c_126 {w0 : World} {S0 : Bs} {x : DInode} {cs0 : List Value} (h0 : kT_30.ro w0 (FF w0 S0) x cs0)  :
    Calls Try.prog 126 #[.agg cs0.toArray] w0 (TriPost w0 S0 (fun r l => r = .bool (decide (x.kind = 0)) ∧ l = [])) := by
 obtain ⟨u0_3, u0_4, rfl, h0_3, h0_4⟩ := kT_30_ro h0
 obtain ⟨A0_3, c0_3, rfl, hl0_3, hm0_3, hb0_3, he0_3⟩ := ro_form h0_3
 obtain ⟨A0_4, c0_4, rfl, hl0_4, hm0_4, hb0_4, he0_4⟩ := ro_form h0_4
 refine FJ.enter (N := 6) Try.func126 rfl rfl (by simp) [(0, .agg #[.int .i64 x.kind, .int .i64 x.links, .int .i64 x.size, .slice A0_3 x.blocks.length c0_3, .slice A0_4 x.ents.length c0_4])] (by simp) (l0 := []) trivial ?_
 refine FJ.seq (FJ.region ?_)
 refine FJ.e (goes_list rfl) rfl (by decide) rfl (e_box (cs := [.int .i64 x.kind, .int .i64 x.links, .int .i64 x.size, .slice A0_3 x.blocks.length c0_3, .slice A0_4 x.ents.length c0_4]) (n := 5) rfl (.t .z) rfl rfl) ?_
 rintro _ _ ⟨g3, rfl, rfl⟩
 refine FJ.ql rfl (q_assign rfl .c) (FJ.nil (FJ.then_ (FJ.seq (FJ.region ?_))))
 refine FJ.ql rfl (q_fieldAddr rfl (.t (.s .z)) (fun _ => fa_30_0 _ _)) (FJ.ql rfl (q_load rfl ag_2 (.t .z) (WS.row .z rfl)) (FJ.ql rfl (q_eql rfl (.t .z) .c) (FJ.er (.s (.s (.s .z))) (FJ.ql rfl (q_assign rfl (.t .z)) ?_))))
 refine FJ.nil (FJ.then_ (FJ.ret ?_))
 refine FJ.doneS (res1 rfl .z) .n ?_
 exact ⟨rfl, rfl⟩

set_option maxHeartbeats 1000000 in
set_option maxRecDepth 20000 in
theorem c_125 {w0 : World} {S0 : Bs} {xs : (List DInode)} {v0 : Value} (h0 : kSl_30.ro w0 (FF w0 S0) xs [v0]) {f : FuncId} {fn : Func} (hfn : Try.prog.funcs[f]? = some fn) (hbody : fn.body.isSome = true) (hname : (fn.name == "runtime.NumGoroutine") = false) {p : DInode → Bool} (hf : ∀ (w1 : World) (S1 : Bs) {x : DInode} {cs : List Value}, kT_30.ro w1 (FF w1 S1) x cs → Calls Try.prog f #[.agg cs.toArray] w1 (TriPost w1 S1 (fun r l => r = .bool (p x) ∧ l = [])))  :
    Calls Try.prog 125 #[v0, .func (.func f) #[] #[]] w0 (TriPost w0 S0 (fun r l => r = .int .i64 (idxF p xs) ∧ l = [])) := by
 obtain ⟨A0, c0, rfl, hl0, hm0, hb0, he0⟩ := ro_form h0
 refine FJ.enter (N := 19) Try.func125 rfl rfl (by simp) [(0, .slice A0 xs.length c0), (1, .func (.func f) #[] #[])] (by simp) (l0 := []) trivial ?_
 refine FJ.seq (FJ.region (FJ.ql rfl (q_assign rfl .c) (FJ.nil (FJ.then_ ?_))))
 refine FJ.seq (FJ.seq (FJ.region (FJ.ql rfl (q_move rfl (.t (.s .z))) (FJ.ql rfl (q_len rfl u_41 (.t .z)) ?_))))
 refine FJ.ql rfl (q_move rfl .c) (FJ.nil (FJ.then_ (FJ.block ?_)))
 refine FJ.loopi (γ := Nat) (fun k => [(8, .int .i64 (k : Int)), (7, .int .i64 (xs.length : Int)), (0, .slice A0 xs.length c0), (1, .func (.func f) #[] #[])]) (fun k => []) (fun k => k ≤ xs.length ∧ ∀ j x, j < k → xs[j]? = some x → p x = false) (fun k => xs.length - k) 0 ⟨Nat.zero_le _, all_zero (q := fun _ x => p x = false)⟩ (.c .z (.c (.s .z) (.c (.s4 .z) (.c (.s4 (.s .z)) .n)))) (fun _ h => h) ?_
 rintro k ⟨hk, hallk⟩
 refine FJ.seq (FJ.region (FJ.ql rfl (q_lss rfl (.t .z) (.t (.s .z))) (FJ.nil (FJ.then_ ?_))))
 refine FJ.seq ?_
 refine FJ.condP (.t .z) (fun b2 => ?_) (fun b2 => ?_)
 refine FJ.skip (FJ.then_ (FJ.seq (FJ.block (FJ.seq ?_))))
 refine FJ.region (FJ.ql rfl (q_move rfl (.t (.s .z))) (FJ.ql rfl (q_assign rfl (.t .z)) (FJ.nil (FJ.then_ ?_))))
 refine FJ.seq (FJ.region (FJ.ql rfl (q_move rfl (.t (.s4 (.s (.s .z))))) (FJ.ql rfl (q_move rfl (.t (.s4 (.s (.s .z))))) (FJ.ql rfl (q_move rfl (.t (.s (.s .z)))) ?_))))
 obtain ⟨ad3, hAad3, hrad3⟩ := he0 (by omega)
 subst hAad3
 obtain ⟨x4, hx4⟩ := get_ex (xs := xs) (j := k) (by omega)
 obtain ⟨ece5, hre5, hFe5, hce5⟩ := hrad3.elem hx4
 obtain ⟨ue5_3, ue5_4, rfl, he5_3, he5_4⟩ := kT_30_ro hre5
 obtain ⟨Ae5_3, ce5_3, rfl, hle5_3, hme5_3, hbe5_3, hee5_3⟩ := ro_form he5_3
 obtain ⟨Ae5_4, ce5_4, rfl, hle5_4, hme5_4, hbe5_4, hee5_4⟩ := ro_form he5_4
 refine FJ.ql rfl (q_indexAddr (j := k) rfl u_41 sz_30 (.t (.s .z)) (.t .z) rfl (by omega)) ?_
 refine FJ.ql rfl (q_loadA (cs := [.int .i64 x4.kind, .int .i64 x4.links, .int .i64 x4.size, .slice Ae5_3 x4.blocks.length ce5_3, .slice Ae5_4 x4.ents.length ce5_4]) rfl ag_30 sz_30 (.t .z) (WS.els hFe5 hce5)) ?_
 refine FJ.call (goes_list rfl) rfl (by decide) rfl (c_callv rfl (.t (.s4 .z)) hfn hbody hname (args1 (.t .z))) .n (fun w1 S1 hs tr => hf w1 S1 (tr.ctx hre5)) ?_
 rintro _ _ ⟨rfl, rfl⟩
 refine FJ.cat .n ?_
 refine FJ.nil (FJ.then_ ?_)
 refine FJ.cond (.t .z) (fun b8 => ?_) (fun b8 => ?_)
 refine FJ.seq (FJ.region (FJ.ql rfl (q_move rfl (.t (.s4 (.s (.s .z))))) (FJ.ql rfl (q_assign rfl (.t .z)) (FJ.nil ?_))))
 refine FJ.then_ (FJ.ret (FJ.inBR (FJ.thenR (FJ.thenR ?_))))
 refine FJ.inBR (FJ.thenR ?_)
 refine FJ.doneS (res1 rfl .z) .n ?_
 exact ⟨by rw [idxF_some (by assumption) (by assumption) hallk], rfl⟩
 refine FJ.skip (FJ.inBN (FJ.then_ (FJ.region ?_)))
 refine FJ.ql rfl (q_add (c := ((k + 1 : Nat) : Int)) rfl (.t (.s4 (.s4 (.s .z)))) .c (wr (by omega) (by omega) (by omega))) ?_
 refine FJ.er (.s4 (.s4 (.s (.s .z)))) (FJ.ql rfl (q_move rfl (.t .z)) (FJ.nil ?_))
 refine FJ.again (k + 1) ⟨by omega, all_succ (q := fun _ x => p x = false) hallk hx4 b8⟩ (by first | omega | (dsimp only; omega)) (.c .z (.c (.s4 (.s4 (.s (.s (.s .z))))) (.c (.s4 (.s4 (.s4 .z))) (.c (.s4 (.s4 (.s4 (.s .z)))) .n)))) (fun _ h => h)
 refine FJ.exit (FJ.thenE (FJ.thenE (FJ.inB (FJ.then_ ?_))))
 refine FJ.seq (FJ.region (FJ.ql rfl (q_assign rfl .c) (FJ.nil (FJ.then_ ?_))))
 refine FJ.ret ?_
 refine FJ.doneS (res1 rfl .z) .n ?_
 exact ⟨by rw [idxF_none (fun j x hx => hallk j x (by have := (List.getElem?_eq_some_iff.1 hx).1; omega) hx)], rfl⟩

set_option maxHeartbeats 1000000 in
set_option maxRecDepth 20000 in
theorem c_81 {w0 : World} {S0 : Bs} {xs : (List DInode)} {v0 : Value} (h0 : kSl_30.ro w0 (FF w0 S0) xs [v0])  :
    Calls Try.prog 81 #[v0] w0 (TriPost w0 S0 (fun r l => r = .tuple #[.int .i64 (if freeAt xs < 0 then 0 else freeAt xs), .int .i64 (if freeAt xs < 0 then 8 else 0)] ∧ l = [])) := by
 obtain ⟨A0, c0, rfl, hl0, hm0, hb0, he0⟩ := ro_form h0
 refine FJ.enter (N := 17) Try.func81 rfl rfl (by simp) [(0, .slice A0 xs.length c0)] (by simp) (l0 := []) trivial ?_
 refine FJ.seq (FJ.region (FJ.ql rfl (q_assign rfl .c) (FJ.ql rfl (q_assign rfl .c) (FJ.nil ?_))))
 refine FJ.then_ (FJ.seq (FJ.region (FJ.ql rfl (q_move rfl (.t (.s (.s .z)))) ?_)))
 refine FJ.call (goes_list rfl) rfl (by decide) rfl (c_call rfl Try.func125 rfl rfl (args2 (.t .z) .f)) .n (fun w1 S1 hs tr => c_125 (tr.ctx h0) Try.func126 rfl rfl (fun w2 S2 x _ h1 => c_126 h1)) ?_
 rintro _ _ ⟨rfl, rfl⟩
 refine FJ.cat .n ?_
 refine FJ.ql rfl (q_assign rfl (.t .z)) (FJ.nil (FJ.then_ (FJ.seq (FJ.block ?_))))
 refine FJ.seq (FJ.region (FJ.ql rfl (q_move rfl (.t .z)) (FJ.ql rfl (q_geq rfl (.t .z) .c) (FJ.ql rfl (q_assign rfl (.t .z)) ?_))))
 refine FJ.nil (FJ.then_ ?_)
 refine FJ.condP (.t .z) (fun b2 => ?_) (fun b2 => ?_)
 refine FJ.seq (FJ.region (FJ.ql rfl (q_move rfl (.t (.s (.s (.s .z))))) (FJ.er (.s4 (.s4 .z)) (FJ.ql rfl (q_assign rfl (.t .z)) ?_))))
 refine FJ.er (.s4 (.s4 .z)) (FJ.ql rfl (q_assign rfl .c) (FJ.nil (FJ.then_ (FJ.ret ?_))))
 refine FJ.inBR (FJ.thenR ?_)
 refine FJ.doneS (res2 rfl (.s .z) .z) .n ?_
 exact ⟨by first | (rw [if_neg (free_hit (by assumption)).2, if_neg (free_hit (by assumption)).2, (free_hit (by assumption)).1]; done) | (have e := free_miss (by assumption); rw [if_pos (by omega)] at e; rw [e]; rfl) | (have e := free_miss (by assumption); rw [if_neg (by omega)] at e; rw [if_neg (by omega), if_neg (by omega), e]; done), rfl⟩
 refine FJ.seq (FJ.region (FJ.ql rfl (q_move rfl (.t (.s4 (.s4 .z)))) (FJ.ql rfl (q_len rfl u_41 (.t .z)) (FJ.ql rfl (q_eql rfl (.t .z) .c) ?_))))
 refine FJ.ql rfl (q_assign rfl (.t .z)) (FJ.nil (FJ.then_ ?_))
 refine FJ.condP (.t .z) (fun b3 => ?_) (fun b3 => ?_)
 refine FJ.seq (FJ.region (FJ.er (.s4 (.s4 (.s (.s (.s .z))))) (FJ.ql rfl (q_assign rfl .c) (FJ.er (.s4 (.s4 (.s (.s (.s .z))))) ?_))))
 refine FJ.ql rfl (q_assign rfl .c) (FJ.nil (FJ.then_ (FJ.ret (FJ.inBR ?_))))
 refine FJ.thenR ?_
 refine FJ.doneS (res2 rfl (.s .z) .z) .n ?_
 exact ⟨by first | (rw [if_neg (free_hit (by assumption)).2, if_neg (free_hit (by assumption)).2, (free_hit (by assumption)).1]; done) | (have e := free_miss (by assumption); rw [if_pos (by omega)] at e; rw [e]; rfl) | (have e := free_miss (by assumption); rw [if_neg (by omega)] at e; rw [if_neg (by omega), if_neg (by omega), e]; done), rfl⟩
 refine FJ.skip (FJ.inBN (FJ.then_ (FJ.seq (FJ.region ?_))))
 refine FJ.ql rfl (q_move rfl (.t (.s4 (.s4 (.s4 .z))))) ?_
 refine FJ.call (goes_list rfl) rfl (by decide) rfl (c_call rfl Try.func85 rfl rfl (args1 (.t .z))) .n (fun w1 S1 hs tr => c_85 (tr.ctx h0)) ?_
 rintro _ _ ⟨rfl, rfl⟩
 refine FJ.cat .n ?_
 refine FJ.er (.s4 (.s4 (.s4 (.s .z)))) (FJ.ql rfl (q_assign rfl (.t .z)) (FJ.er (.s4 (.s4 (.s4 (.s .z)))) (FJ.ql rfl (q_assign rfl .c) (FJ.nil ?_))))
 refine FJ.then_ (FJ.ret ?_)
 refine FJ.doneS (res2 rfl (.s .z) .z) .n ?_
 exact ⟨by first | (rw [if_neg (free_hit (by assumption)).2, if_neg (free_hit (by assumption)).2, (free_hit (by assumption)).1]; done) | (have e := free_miss (by assumption); rw [if_pos (by omega)] at e; rw [e]; rfl) | (have e := free_miss (by assumption); rw [if_neg (by omega)] at e; rw [if_neg (by omega), if_neg (by omega), e]; done), rfl⟩

set_option maxHeartbeats 1000000 in
set_option maxRecDepth 20000 in
theorem c_30 {w0 : World} {S0 : Bs} {xs : (List DInode)} {v0 : Value} (h0 : kSl_30.ro w0 (FF w0 S0) xs [v0])  :
    Calls Try.prog 30 #[v0] w0 (TriPost w0 S0 (RA_48 (freePlace xs))) := by
 obtain ⟨A0, c0, rfl, hl0, hm0, hb0, he0⟩ := ro_form h0
 refine FJ.enter (N := 20) Try.func30 rfl rfl (by simp) [(0, .slice A0 xs.length c0)] (by simp) (l0 := []) trivial ?_
 refine FJ.seq (FJ.region ?_)
 refine FJ.e (goes_list rfl) rfl (by decide) rfl (e_alloc rfl z_48 rfl rfl) ?_
 rintro _ _ ⟨g2, rfl, rfl⟩
 refine FJ.nil (FJ.then_ (FJ.seq (FJ.seq (FJ.region ?_))))
 refine FJ.ql rfl (q_move rfl (.t (.s .z))) ?_
 refine FJ.call (goes_list rfl) rfl (by decide) rfl (c_call rfl Try.func80 rfl rfl (args1 (.t .z))) .n (fun w1 S1 hs tr => c_80 (tr.ctx h0)) ?_
 rintro _ _ ⟨rfl, rfl⟩
 refine FJ.cat .n ?_
 refine FJ.ql rfl (q_assign rfl (.t .z)) (FJ.nil (FJ.then_ (FJ.seq (FJ.region ?_))))
 refine FJ.ql rfl (q_move rfl (.t .z)) (FJ.ql rfl (q_neq rfl (.t .z) .c) (FJ.nil (FJ.then_ ?_)))
 refine FJ.condN (.t .z) (fun b3 => ?_) (fun b3 => ?_)
 refine FJ.seq (FJ.region (FJ.ql rfl (q_move rfl (.t (.s (.s .z)))) ?_))
 refine FJ.ql rfl (q_build (ps := [(0, .int .i64 (inodesFault xs))]) (cs := [.int .i64 (inodesFault xs), .int .i64 0]) rfl bl_48 (by intro act hact; simp only [List.map_toArray, List.map_cons, List.map_nil, (show Val _ _ _ from (.t .z)) act hact]) rfl) ?_
 refine FJ.es (goes_list rfl) rfl (es_store (off := 0) (cs := [.int .i64 (inodesFault xs), .int .i64 0]) rfl sz_48 (.t (.s4 (.s (.s (.s .z))))) (.t .z) rfl (ones rfl) .z (Nat.le_of_ble_eq_true rfl) (.c .z (.c (.s .z) .n))) ?_
 refine FJ.nil (FJ.then_ (FJ.ret (FJ.thenR ?_)))
 refine FJ.doneS (resC (cs := [.int .i64 (inodesFault xs), .int .i64 0]) rfl (.s4 (.s (.s (.s .z)))) ag_48 sz_48 (WS.rows0 (cs := [.int .i64 (inodesFault xs), .int .i64 0]) .z (fun _ _ h => h))) .n ?_
 first | (rw [freePlace_f (by assumption)]; exact ⟨rfl, rfl⟩) | (by_cases hz : freeAt xs < 0 <;> first | (rw [freePlace_8 (by assumption) hz]; exact ⟨by simp [hz], rfl⟩) | (rw [freePlace_0 (by assumption) hz]; exact ⟨by simp [hz], rfl⟩))
 refine FJ.skip (FJ.then_ (FJ.seq (FJ.region (FJ.ql rfl (q_move rfl (.t (.s4 (.s (.s .z))))) ?_))))
 refine FJ.call (goes_list rfl) rfl (by decide) rfl (c_call rfl Try.func81 rfl rfl (args1 (.t .z))) .n (fun w1 S1 hs tr => c_81 (tr.ctx h0)) ?_
 rintro _ _ ⟨rfl, rfl⟩
 refine FJ.cat .n ?_
 refine FJ.ql rfl (q_move rfl (.t .z)) (FJ.ql rfl (q_extract (v := .int .i64 (if freeAt xs < 0 then 0 else freeAt xs)) rfl (.t .z) rfl) (FJ.ql rfl (q_extract (v := .int .i64 (if freeAt xs < 0 then 8 else 0)) rfl (.t (.s .z)) rfl) (FJ.ql rfl (q_assign rfl (.t (.s .z))) (FJ.ql rfl (q_assign rfl (.t (.s .z))) ?_))))
 refine FJ.nil (FJ.then_ (FJ.seq (FJ.region (FJ.ql rfl (q_move rfl (.t .z)) ?_))))
 refine FJ.ql rfl (q_move rfl (.t (.s (.s .z)))) ?_
 refine FJ.ql rfl (q_build (ps := [(0, .int .i64 (if freeAt xs < 0 then 8 else 0)), (1, .int .i64 (if freeAt xs < 0 then 0 else freeAt xs))]) (cs := [.int .i64 (if freeAt xs < 0 then 8 else 0), .int .i64 (if freeAt xs < 0 then 0 else freeAt xs)]) rfl bl_48 (by intro act hact; simp only [List.map_toArray, List.map_cons, List.map_nil, (show Val _ _ _ from (.t (.s .z))) act hact, (show Val _ _ _ from (.t .z)) act hact]) rfl) ?_
 refine FJ.es (goes_list rfl) rfl (es_store (off := 0) (cs := [.int .i64 (if freeAt xs < 0 then 8 else 0), .int .i64 (if freeAt xs < 0 then 0 else freeAt xs)]) rfl sz_48 (.t (.s4 (.s4 (.s4 (.s (.s (.s .z))))))) (.t .z) rfl (ones rfl) .z (Nat.le_of_ble_eq_true rfl) (.c .z (.c (.s .z) .n))) ?_
 refine FJ.nil (FJ.then_ (FJ.ret ?_))
 refine FJ.doneS (resC (cs := [.int .i64 (if freeAt xs < 0 then 8 else 0), .int .i64 (if freeAt xs < 0 then 0 else freeAt xs)]) rfl (.s4 (.s4 (.s4 (.s (.s (.s .z)))))) ag_48 sz_48 (WS.rows0 (cs := [.int .i64 (if freeAt xs < 0 then 8 else 0), .int .i64 (if freeAt xs < 0 then 0 else freeAt xs)]) .z (fun _ _ h => h))) .n ?_
 first | (rw [freePlace_f (by assumption)]; exact ⟨rfl, rfl⟩) | (by_cases hz : freeAt xs < 0 <;> first | (rw [freePlace_8 (by assumption) hz]; exact ⟨by simp [hz], rfl⟩) | (rw [freePlace_0 (by assumption) hz]; exact ⟨by simp [hz], rfl⟩))

set_option maxHeartbeats 1000000 in
set_option maxRecDepth 20000 in
theorem c_79 {w0 : World} {S0 : Bs} {xs : (List DInode)} {v0 : Value} (h0 : kSl_30.ro w0 (FF w0 S0) xs [v0]) (hb : inodesFault xs = 0) :
    Calls Try.prog 79 #[v0] w0 (TriPost w0 S0 (fun r l => r = .int .i64 (freeAt xs) ∧ l = [])) := by
 obtain ⟨A0, c0, rfl, hl0, hm0, hb0, he0⟩ := ro_form h0
 refine FJ.enter (N := 22) Try.func79 rfl rfl (by simp) [(0, .slice A0 xs.length c0)] (by simp) (l0 := []) trivial ?_
 refine FJ.seq (FJ.region (FJ.ql rfl (q_assign rfl .c) (FJ.nil (FJ.then_ ?_))))
 refine FJ.seq (FJ.seq (FJ.region (FJ.ql rfl (q_assign rfl .c) (FJ.nil ?_))))
 refine FJ.then_ (FJ.block ?_)
 refine FJ.loopi (γ := Nat) (fun k => [(3, .int .i64 (k : Int)), (0, .slice A0 xs.length c0)]) (fun k => []) (fun k => k ≤ xs.length ∧ ∀ j y, j < k → xs[j]? = some y → ¬ DInode.kind y = 0) (fun k => xs.length - k) 0 ⟨Nat.zero_le _, all_zero (q := fun _ y => ¬ DInode.kind y = 0)⟩ (.c .z (.c (.s (.s .z)) .n)) (fun _ h => h) ?_
 rintro k ⟨hk, hallk⟩
 refine FJ.seq (FJ.seq (FJ.region (FJ.ql rfl (q_move rfl (.t .z)) (FJ.ql rfl (q_move rfl (.t (.s (.s .z)))) ?_))))
 refine FJ.ql rfl (q_len rfl u_41 (.t .z)) (FJ.ql rfl (q_lss rfl (.t (.s (.s .z))) (.t .z)) (FJ.nil (FJ.then_ ?_)))
 refine FJ.condP (.t .z) (fun b2 => ?_) (fun b2 => ?_)
 refine FJ.skip (FJ.then_ (FJ.seq (FJ.block (FJ.seq ?_))))
 refine FJ.region (FJ.ql rfl (q_move rfl (.t (.s4 (.s .z)))) (FJ.ql rfl (q_move rfl (.t (.s4 (.s .z)))) ?_))
 obtain ⟨ad3, hAad3, hrad3⟩ := he0 (by omega)
 subst hAad3
 obtain ⟨x4, hx4⟩ := get_ex (xs := xs) (j := k) (by omega)
 obtain ⟨ece5, hre5, hFe5, hce5⟩ := hrad3.elem hx4
 obtain ⟨ue5_3, ue5_4, rfl, he5_3, he5_4⟩ := kT_30_ro hre5
 obtain ⟨Ae5_3, ce5_3, rfl, hle5_3, hme5_3, hbe5_3, hee5_3⟩ := ro_form he5_3
 obtain ⟨Ae5_4, ce5_4, rfl, hle5_4, hme5_4, hbe5_4, hee5_4⟩ := ro_form he5_4
 refine FJ.ql rfl (q_indexAddr (j := k) rfl u_41 sz_30 (.t (.s .z)) (.t .z) rfl (by omega)) ?_
 refine FJ.ql rfl (q_fieldAddr rfl (.t .z) (fun _ => fa_30_0 _ _)) (FJ.ql rfl (q_load rfl ag_2 (.t .z) (WS.el hFe5 hce5 rfl)) (FJ.ql rfl (q_eql rfl (.t .z) .c) (FJ.nil (FJ.then_ ?_))))
 refine FJ.condP (.t .z) (fun b8 => ?_) (fun b8 => ?_)
 refine FJ.seq (FJ.region (FJ.ql rfl (q_move rfl (.t (.s4 (.s4 (.s (.s .z)))))) (FJ.ql rfl (q_assign rfl (.t .z)) (FJ.nil ?_))))
 refine FJ.then_ (FJ.ret (FJ.inBR (FJ.thenR (FJ.thenR ?_))))
 refine FJ.inBR (FJ.thenR ?_)
 refine FJ.doneS (res1 rfl .z) .n ?_
 exact ⟨by first | (rw [freeAt_i hx4 (by assumption) hallk]; done) | (rw [freeAt_l (q := k) (by omega) hallk (by assumption)]; done) | (rw [freeAt_n (q := k) (by omega) hallk (by assumption) (inodes_10 hb)]; done), rfl⟩
 refine FJ.skip (FJ.inBN (FJ.then_ (FJ.region (FJ.ql rfl (q_move rfl (.t (.s4 (.s4 (.s (.s .z)))))) ?_))))
 refine FJ.ql rfl (q_add (c := ((k + 1 : Nat) : Int)) rfl (.t .z) .c (wr (by omega) (by omega) (by omega))) ?_
 refine FJ.er (.s4 (.s4 (.s4 .z))) (FJ.ql rfl (q_assign rfl (.t .z)) (FJ.nil ?_))
 refine FJ.again (k + 1) ⟨by omega, all_succ (q := fun _ y => ¬ DInode.kind y = 0) hallk hx4 (by assumption)⟩ (by first | omega | (dsimp only; omega)) (.c .z (.c (.s4 (.s4 (.s4 (.s .z)))) .n)) (fun _ h => h)
 refine FJ.exit (FJ.thenE (FJ.thenE (FJ.inB (FJ.then_ ?_))))
 refine FJ.seq (FJ.seq (FJ.region (FJ.ql rfl (q_move rfl (.t (.s4 (.s .z)))) (FJ.ql rfl (q_len rfl u_41 (.t .z)) ?_))))
 refine FJ.ql rfl (q_lss rfl (.t .z) .c) (FJ.nil (FJ.then_ ?_))
 refine FJ.condP (.t .z) (fun b9 => ?_) (fun b9 => ?_)
 refine FJ.seq (FJ.region (FJ.ql rfl (q_move rfl (.t (.s4 (.s4 .z)))) (FJ.ql rfl (q_len rfl u_41 (.t .z)) (FJ.ql rfl (q_assign rfl (.t .z)) ?_))))
 refine FJ.nil (FJ.then_ (FJ.ret (FJ.thenR ?_)))
 refine FJ.doneS (res1 rfl .z) .n ?_
 exact ⟨by first | (rw [freeAt_l (q := k) (by omega) hallk (by assumption)]; done) | (rw [freeAt_n (q := k) (by omega) hallk (by assumption) (inodes_10 hb)]; done), rfl⟩
 refine FJ.skip (FJ.then_ (FJ.seq (FJ.region (FJ.ql rfl (q_assign rfl .c) ?_))))
 refine FJ.nil (FJ.then_ (FJ.ret ?_))
 refine FJ.doneS (res1 rfl .z) .n ?_
 exact ⟨by first | (rw [freeAt_l (q := k) (by omega) hallk (by assumption)]; done) | (rw [freeAt_n (q := k) (by omega) hallk (by assumption) (inodes_10 hb)]; done), rfl⟩

set_option maxHeartbeats 1000000 in
set_option maxRecDepth 20000 in
theorem c_28 {w0 : World} {S0 : Bs} {xs : (List DInode)} {v0 : Value} (h0 : kSl_30.ro w0 (FF w0 S0) xs [v0])  :
    Calls Try.prog 28 #[v0] w0 (TriPost w0 S0 (RA_48 (freePlace xs))) := by
 obtain ⟨A0, c0, rfl, hl0, hm0, hb0, he0⟩ := ro_form h0
 refine FJ.enter (N := 18) Try.func28 rfl rfl (by simp) [(0, .slice A0 xs.length c0)] (by simp) (l0 := []) trivial ?_
 refine FJ.seq (FJ.region ?_)
 refine FJ.e (goes_list rfl) rfl (by decide) rfl (e_alloc rfl z_48 rfl rfl) ?_
 rintro _ _ ⟨g2, rfl, rfl⟩
 refine FJ.nil (FJ.then_ (FJ.seq (FJ.seq (FJ.region ?_))))
 refine FJ.ql rfl (q_move rfl (.t (.s .z))) ?_
 refine FJ.call (goes_list rfl) rfl (by decide) rfl (c_call rfl Try.func78 rfl rfl (args1 (.t .z))) .n (fun w1 S1 hs tr => c_78 (tr.ctx h0)) ?_
 rintro _ _ ⟨rfl, rfl⟩
 refine FJ.cat .n ?_
 refine FJ.ql rfl (q_assign rfl (.t .z)) (FJ.nil (FJ.then_ (FJ.seq (FJ.region ?_))))
 refine FJ.ql rfl (q_move rfl (.t .z)) (FJ.ql rfl (q_neq rfl (.t .z) .c) (FJ.nil (FJ.then_ ?_)))
 refine FJ.condN (.t .z) (fun b3 => ?_) (fun b3 => ?_)
 refine FJ.seq (FJ.region (FJ.ql rfl (q_move rfl (.t (.s (.s .z)))) ?_))
 refine FJ.ql rfl (q_build (ps := [(0, .int .i64 (inodesFault xs))]) (cs := [.int .i64 (inodesFault xs), .int .i64 0]) rfl bl_48 (by intro act hact; simp only [List.map_toArray, List.map_cons, List.map_nil, (show Val _ _ _ from (.t .z)) act hact]) rfl) ?_
 refine FJ.es (goes_list rfl) rfl (es_store (off := 0) (cs := [.int .i64 (inodesFault xs), .int .i64 0]) rfl sz_48 (.t (.s4 (.s (.s (.s .z))))) (.t .z) rfl (ones rfl) .z (Nat.le_of_ble_eq_true rfl) (.c .z (.c (.s .z) .n))) ?_
 refine FJ.nil (FJ.then_ (FJ.ret (FJ.thenR ?_)))
 refine FJ.doneS (resC (cs := [.int .i64 (inodesFault xs), .int .i64 0]) rfl (.s4 (.s (.s (.s .z)))) ag_48 sz_48 (WS.rows0 (cs := [.int .i64 (inodesFault xs), .int .i64 0]) .z (fun _ _ h => h))) .n ?_
 first | (rw [freePlace_f (by assumption)]; exact ⟨rfl, rfl⟩) | (rw [freePlace_8 (by assumption) (by assumption)]; exact ⟨rfl, rfl⟩) | (rw [freePlace_0 (by assumption) (by assumption)]; exact ⟨rfl, rfl⟩)
 refine FJ.skip (FJ.then_ (FJ.seq (FJ.region (FJ.ql rfl (q_move rfl (.t (.s4 (.s (.s .z))))) ?_))))
 refine FJ.call (goes_list rfl) rfl (by decide) rfl (c_call rfl Try.func79 rfl rfl (args1 (.t .z))) .n (fun w1 S1 hs tr => c_79 (tr.ctx h0) (by assumption)) ?_
 rintro _ _ ⟨rfl, rfl⟩
 refine FJ.cat .n ?_
 refine FJ.ql rfl (q_assign rfl (.t .z)) (FJ.nil (FJ.then_ (FJ.seq (FJ.seq ?_))))
 refine FJ.region (FJ.ql rfl (q_move rfl (.t .z)) (FJ.ql rfl (q_lss rfl (.t .z) .c) (FJ.nil (FJ.then_ ?_))))
 refine FJ.condP (.t .z) (fun b4 => ?_) (fun b4 => ?_)
 refine FJ.seq (FJ.region ?_)
 refine FJ.ql rfl (q_build (ps := [(0, .int .i64 8)]) (cs := [.int .i64 8, .int .i64 0]) rfl bl_48 (by intro act hact; simp only [List.map_toArray, List.map_cons, List.map_nil, (show Val _ _ _ from .c) act hact]) rfl) ?_
 refine FJ.es (goes_list rfl) rfl (es_store (off := 0) (cs := [.int .i64 8, .int .i64 0]) rfl sz_48 (.t (.s4 (.s4 (.s (.s (.s .z)))))) (.t .z) rfl (ones rfl) .z (Nat.le_of_ble_eq_true rfl) (.c .z (.c (.s .z) .n))) ?_
 refine FJ.nil (FJ.then_ (FJ.ret (FJ.thenR ?_)))
 refine FJ.doneS (resC (cs := [.int .i64 8, .int .i64 0]) rfl (.s4 (.s4 (.s (.s (.s .z))))) ag_48 sz_48 (WS.rows0 (cs := [.int .i64 8, .int .i64 0]) .z (fun _ _ h => h))) .n ?_
 first | (rw [freePlace_f (by assumption)]; exact ⟨rfl, rfl⟩) | (rw [freePlace_8 (by assumption) (by assumption)]; exact ⟨rfl, rfl⟩) | (rw [freePlace_0 (by assumption) (by assumption)]; exact ⟨rfl, rfl⟩)
 refine FJ.skip (FJ.then_ (FJ.seq (FJ.region (FJ.ql rfl (q_move rfl (.t (.s (.s .z)))) ?_))))
 refine FJ.ql rfl (q_build (ps := [(1, .int .i64 (freeAt xs))]) (cs := [.int .i64 0, .int .i64 (freeAt xs)]) rfl bl_48 (by intro act hact; simp only [List.map_toArray, List.map_cons, List.map_nil, (show Val _ _ _ from (.t .z)) act hact]) rfl) ?_
 refine FJ.es (goes_list rfl) rfl (es_store (off := 0) (cs := [.int .i64 0, .int .i64 (freeAt xs)]) rfl sz_48 (.t (.s4 (.s4 (.s4 .z)))) (.t .z) rfl (ones rfl) .z (Nat.le_of_ble_eq_true rfl) (.c .z (.c (.s .z) .n))) ?_
 refine FJ.nil (FJ.then_ (FJ.ret ?_))
 refine FJ.doneS (resC (cs := [.int .i64 0, .int .i64 (freeAt xs)]) rfl (.s4 (.s4 (.s4 .z))) ag_48 sz_48 (WS.rows0 (cs := [.int .i64 0, .int .i64 (freeAt xs)]) .z (fun _ _ h => h))) .n ?_
 first | (rw [freePlace_f (by assumption)]; exact ⟨rfl, rfl⟩) | (rw [freePlace_8 (by assumption) (by assumption)]; exact ⟨rfl, rfl⟩) | (rw [freePlace_0 (by assumption) (by assumption)]; exact ⟨rfl, rfl⟩)
end Go.Proofs.Ytoaebcjjfojfeaa

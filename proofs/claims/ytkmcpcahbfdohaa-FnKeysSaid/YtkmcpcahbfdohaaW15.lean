/- What is proved: contracts of functions, one a function. No condition. -/
import Derived.Test.YtkmcpcahbfdohaaW13
namespace Go.Proofs.Ytkmcpcahbfdohaa
open Go Go.RowKit
set_option linter.unusedVariables false
set_option linter.unusedSimpArgs false
set_option maxHeartbeats 1000000 in
set_option maxRecDepth 20000 in
theorem c_134 {w0 : World} {S0 : Bs} {x : (List DExt)} {v0 : Value} (h0 : kSl_135.ro w0 (FF w0 S0) x [v0])  :
    Calls Try.prog 134 #[v0] w0 (TriPost w0 S0 (fun r l => l = [ownA kSl_135 x [r]])) := by
 obtain ⟨A0, c0, rfl, hl0, hm0, hb0, he0⟩ := ro_form h0
 refine FJ.enter (N := 8) Try.func134 rfl rfl (by simp) [(0, .slice A0 x.length c0)] (by simp) (l0 := []) trivial ?_
 refine FJ.seq (FJ.region (FJ.ql rfl (q_assign rfl .c) (FJ.nil (FJ.then_ ?_))))
 refine FJ.seq (FJ.seq (FJ.region (FJ.ql rfl (q_move rfl (.t (.s .z))) (FJ.ql rfl (q_eqnil rfl u_41 (.t .z) .c) ?_))))
 refine FJ.nil (FJ.then_ ?_)
 refine FJ.cond (.t .z) (fun b2 => ?_) (fun b2 => ?_)
 refine FJ.seq (FJ.region (FJ.er (.s (.s .z)) (FJ.ql rfl (q_assign rfl .c) (FJ.nil ?_))))
 refine FJ.then_ (FJ.ret (FJ.thenR ?_))
 refine FJ.add (c := ownA kSl_135 [] [.slice none 0 0]) (fun w S => own_nil w S none) ?_
 refine FJ.ceq .z (nil_of he0 (by assumption)) ?_
 refine FJ.doneS (res1 rfl .z) (.c .z .n) ?_
 rfl
 refine FJ.skip (FJ.then_ (FJ.seq (FJ.region ?_)))
 refine FJ.e (goes_list rfl) rfl (by decide) rfl (e_buildNil rfl u_41 (inz inf_135)) ?_
 rintro _ _ ⟨g4, rfl, rfl⟩
 refine FJ.ql rfl (q_move rfl (.t (.s4 .z))) ?_
 refine FJ.add (c := ownA kSl_135 ([] : (List DExt)) [.slice (some ⟨g4, 0, none⟩) 0 0]) (fun w S => own_nil w S _) ?_
 refine FJ.e (goes_list rfl) rfl (by decide) rfl (e_appendF (flat_iso _ (flat_pair (flat_scalar _ _ _) (flat_pair (flat_scalar _ _ _) (flat_scalar _ _ _)))) rfl u_41 inf_135 rfl (.t (.s .z)) (.t .z) (.c .z .n) (fun w1 S1 tr => tr.ctx h0) (by first | omega | (simp only [List.length_append, List.length_take, List.length_nil, List.length_cons]; omega)) (by first | omega | (simp only [List.length_append, List.length_take, List.length_nil, List.length_cons]; omega))) ?_
 rintro _ _ rfl
 refine FJ.ceq .z (List.nil_append _) ?_
 refine FJ.know (WS.oform .z) ?_
 rintro ⟨Ao6, co6, rfl, hlo6, hmo6, hbo6⟩
 refine FJ.er (.s4 (.s .z)) (FJ.ql rfl (q_assign rfl (.t .z)) (FJ.nil (FJ.then_ (FJ.ret ?_))))
 refine FJ.doneS (res1 rfl .z) (.c .z .n) ?_
 rfl

set_option maxHeartbeats 1000000 in
set_option maxRecDepth 20000 in
theorem c_128 {w0 : World} {S0 : Bs} {xs : (List DExt)} {v0 : Value} (h0 : kSl_135.ro w0 (FF w0 S0) xs [v0]) {f : FuncId} {us : Array Value} {fn : Func} (hfn : Try.prog.funcs[f]? = some fn) (hbody : fn.body.isSome = true) (hname : (fn.name == "runtime.NumGoroutine") = false) {p : DExt → Bool} (hf : ∀ w1 S1, (∀ b, FF w0 S0 b → FF w1 S1 b ∧ w1.heap[b]? = w0.heap[b]?) → ∀ x : DExt, Calls Try.prog f (#[.agg #[.int .i64 x.frm, .int .i64 x.cnt, .int .i64 x.key]] ++ us) w1 (TriPost w1 S1 (fun r l => r = .bool (p x) ∧ l = [])))  :
    Calls Try.prog 128 #[v0, .func (.func f) #[] us] w0 (TriPost w0 S0 (fun r l => r = .int .i64 (idxF p xs) ∧ l = [])) := by
 obtain ⟨A0, c0, rfl, hl0, hm0, hb0, he0⟩ := ro_form h0
 refine FJ.enter (N := 19) Try.func128 rfl rfl (by simp) [(0, .slice A0 xs.length c0), (1, .func (.func f) #[] us)] (by simp) (l0 := []) trivial ?_
 refine FJ.seq (FJ.region (FJ.ql rfl (q_assign rfl .c) (FJ.nil (FJ.then_ ?_))))
 refine FJ.seq (FJ.seq (FJ.region (FJ.ql rfl (q_move rfl (.t (.s .z))) (FJ.ql rfl (q_len rfl u_41 (.t .z)) ?_))))
 refine FJ.ql rfl (q_move rfl .c) (FJ.nil (FJ.then_ (FJ.block ?_)))
 refine FJ.loopi (γ := Nat) (fun k => [(8, .int .i64 (k : Int)), (7, .int .i64 (xs.length : Int)), (0, .slice A0 xs.length c0), (1, .func (.func f) #[] us)]) (fun k => []) (fun k => k ≤ xs.length ∧ ∀ j x, j < k → xs[j]? = some x → p x = false) (fun k => xs.length - k) 0 ⟨Nat.zero_le _, all_zero (q := fun _ x => p x = false)⟩ (.c .z (.c (.s .z) (.c (.s4 .z) (.c (.s4 (.s .z)) .n)))) (fun _ h => h) ?_
 rintro k ⟨hk, hallk⟩
 refine FJ.seq (FJ.region (FJ.ql rfl (q_lss rfl (.t .z) (.t (.s .z))) (FJ.nil (FJ.then_ ?_))))
 refine FJ.seq ?_
 refine FJ.condP (.t .z) (fun b2 => ?_) (fun b2 => ?_)
 refine FJ.skip (FJ.then_ (FJ.seq (FJ.block (FJ.seq ?_))))
 refine FJ.region (FJ.ql rfl (q_move rfl (.t (.s .z))) (FJ.ql rfl (q_assign rfl (.t .z)) (FJ.nil (FJ.then_ ?_))))
 refine FJ.seq (FJ.region (FJ.ql rfl (q_move rfl (.t (.s4 (.s (.s .z))))) (FJ.ql rfl (q_move rfl (.t (.s4 (.s (.s .z))))) (FJ.ql rfl (q_move rfl (.t (.s (.s .z)))) ?_))))
 obtain ⟨ad3, hAad3, hrad3⟩ := he0 (by omega)
 subst hAad3
 obtain ⟨x4, hx4⟩ := get_ex (xs := xs) (j := k) (by omega)
 obtain ⟨ece5, hre5, hFe5, hce5⟩ := hrad3.elem hx4
 obtain rfl := kT_135_ro hre5
 refine FJ.ql rfl (q_indexAddr (j := k) rfl u_41 sz_135 (.t (.s .z)) (.t .z) rfl (by omega)) ?_
 refine FJ.ql rfl (q_loadA (cs := [.int .i64 x4.frm, .int .i64 x4.cnt, .int .i64 x4.key]) rfl ag_135 sz_135 (.t .z) (WS.els hFe5 hce5)) ?_
 refine FJ.call (goes_list rfl) rfl (by decide) rfl (c_callv rfl (.t (.s4 .z)) hfn hbody hname (args1 (.t .z))) .n (fun w1 S1 hs tr => hf w1 S1 (fun b hb => tr.wide b hb) x4) ?_
 rintro _ _ ⟨rfl, rfl⟩
 refine FJ.cat .n ?_
 refine FJ.nil (FJ.then_ ?_)
 refine FJ.cond (.t .z) (fun b6 => ?_) (fun b6 => ?_)
 refine FJ.seq (FJ.region (FJ.ql rfl (q_move rfl (.t (.s4 (.s (.s .z))))) (FJ.ql rfl (q_assign rfl (.t .z)) (FJ.nil ?_))))
 refine FJ.then_ (FJ.ret (FJ.inBR (FJ.thenR (FJ.thenR ?_))))
 refine FJ.inBR (FJ.thenR ?_)
 refine FJ.doneS (res1 rfl .z) .n ?_
 exact ⟨by rw [idxF_some (by assumption) (by assumption) hallk], rfl⟩
 refine FJ.skip (FJ.inBN (FJ.then_ (FJ.region ?_)))
 refine FJ.ql rfl (q_add (c := ((k + 1 : Nat) : Int)) rfl (.t (.s4 (.s4 (.s .z)))) .c (wr (by omega) (by omega) (by omega))) ?_
 refine FJ.er (.s4 (.s4 (.s (.s .z)))) (FJ.ql rfl (q_move rfl (.t .z)) (FJ.nil ?_))
 refine FJ.again (k + 1) ⟨by omega, all_succ (q := fun _ x => p x = false) hallk hx4 b6⟩ (by first | omega | (dsimp only; omega)) (.c .z (.c (.s4 (.s4 (.s (.s (.s .z))))) (.c (.s4 (.s4 (.s4 .z))) (.c (.s4 (.s4 (.s4 (.s .z)))) .n)))) (fun _ h => h)
 refine FJ.exit (FJ.thenE (FJ.thenE (FJ.inB (FJ.then_ ?_))))
 refine FJ.seq (FJ.region (FJ.ql rfl (q_assign rfl .c) (FJ.nil (FJ.then_ ?_))))
 refine FJ.ret ?_
 refine FJ.doneS (res1 rfl .z) .n ?_
 exact ⟨by rw [idxF_none (fun j x hx => hallk j x (by have := (List.getElem?_eq_some_iff.1 hx).1; omega) hx)], rfl⟩

set_option maxHeartbeats 1000000 in
set_option maxRecDepth 20000 in
theorem c_122 {w0 : World} {S0 : Bs} {xs : (List DExt)} {v0 : Value} (h0 : kSl_135.ro w0 (FF w0 S0) xs [v0]) {f : FuncId} {us : Array Value} {fn : Func} (hfn : Try.prog.funcs[f]? = some fn) (hbody : fn.body.isSome = true) (hname : (fn.name == "runtime.NumGoroutine") = false) {p : DExt → Bool} (hf : ∀ w1 S1, (∀ b, FF w0 S0 b → FF w1 S1 b ∧ w1.heap[b]? = w0.heap[b]?) → ∀ x : DExt, Calls Try.prog f (#[.agg #[.int .i64 x.frm, .int .i64 x.cnt, .int .i64 x.key]] ++ us) w1 (TriPost w1 S1 (fun r l => r = .bool (p x) ∧ l = [])))  :
    Calls Try.prog 122 #[v0, .func (.func f) #[] us] w0 (TriPost w0 S0 (fun r l => r = .bool (xs.any p) ∧ l = [])) := by
 obtain ⟨A0, c0, rfl, hl0, hm0, hb0, he0⟩ := ro_form h0
 refine FJ.enter (N := 9) Try.func122 rfl rfl (by simp) [(0, .slice A0 xs.length c0), (1, .func (.func f) #[] us)] (by simp) (l0 := []) trivial ?_
 refine FJ.seq (FJ.region (FJ.ql rfl (q_assign rfl .c) (FJ.nil (FJ.then_ ?_))))
 refine FJ.seq (FJ.region (FJ.ql rfl (q_move rfl (.t (.s .z))) (FJ.ql rfl (q_move rfl (.t (.s (.s (.s .z))))) ?_)))
 refine FJ.call (goes_list rfl) rfl (by decide) rfl (c_call rfl Try.func128 rfl rfl (args2 (.t (.s .z)) (.t .z))) .n (fun w1 S1 hs tr => c_128 (tr.ctx h0) hfn hbody hname (fun w2 S2 h2 x => hf w2 S2 (fun b hb => ⟨(h2 b (tr.wide b hb).1).1, (h2 b (tr.wide b hb).1).2.trans (tr.wide b hb).2⟩) x)) ?_
 rintro _ _ ⟨rfl, rfl⟩
 refine FJ.cat .n ?_
 refine FJ.ql rfl (q_geq rfl (.t .z) .c) (FJ.er (.s4 .z) (FJ.ql rfl (q_assign rfl (.t .z)) (FJ.nil (FJ.then_ ?_))))
 refine FJ.ret ?_
 refine FJ.doneS (res1 rfl .z) .n ?_
 exact ⟨by rw [idxF_any], rfl⟩

set_option maxHeartbeats 1000000 in
set_option maxRecDepth 20000 in
theorem c_136 {w0 : World} {S0 : Bs} {e : DExt} {cs0 : List Value} (h0 : kT_135.ro w0 (FF w0 S0) e cs0) {key : Int} {ad1 : Addr} (h1 : PtrRo (kint .i64) w0 (FF w0 S0) ad1 key)  :
    Calls Try.prog 136 #[.agg cs0.toArray, .pointer (some ad1)] w0 (TriPost w0 S0 (fun r l => r = .bool (decide (e.key = key)) ∧ l = [])) := by
 obtain rfl := kT_135_ro h0
 obtain ⟨ec1, hF1, ⟨rfl, -⟩, hc1⟩ := h1
 refine FJ.enter (N := 8) Try.func136 rfl rfl (by simp) [(0, .agg #[.int .i64 e.frm, .int .i64 e.cnt, .int .i64 e.key]), (1, .pointer (some ad1))] (by simp) (l0 := []) trivial ?_
 refine FJ.seq (FJ.region ?_)
 refine FJ.e (goes_list rfl) rfl (by decide) rfl (e_box (cs := [.int .i64 e.frm, .int .i64 e.cnt, .int .i64 e.key]) (n := 3) rfl (.t .z) rfl rfl) ?_
 rintro _ _ ⟨g1, rfl, rfl⟩
 refine FJ.ql rfl (q_assign rfl .c) (FJ.nil (FJ.then_ (FJ.seq (FJ.region ?_))))
 refine FJ.ql rfl (q_fieldAddr rfl (.t (.s .z)) (fun _ => fa_135_2 _ _)) (FJ.ql rfl (q_load rfl ag_2 (.t .z) (WS.row .z rfl)) (FJ.ql rfl (q_load rfl ag_2 (.t (.s4 (.s .z))) (WS.el0 hF1 hc1 rfl)) (FJ.ql rfl (q_eql rfl (.t (.s .z)) (.t .z)) (FJ.er (.s4 .z) ?_))))
 refine FJ.ql rfl (q_assign rfl (.t .z)) (FJ.nil (FJ.then_ (FJ.ret ?_)))
 refine FJ.doneS (res1 rfl .z) .n ?_
 exact ⟨rfl, rfl⟩

set_option maxHeartbeats 1000000 in
set_option maxRecDepth 20000 in
theorem c_127 {w0 : World} {S0 : Bs} {k : DKern} {cs0 : List Value} (h0 : kT_43.ro w0 (FF w0 S0) k cs0)  :
    Calls Try.prog 127 #[.agg cs0.toArray] w0 (TriPost w0 S0 (RA_43 k)) := by
 obtain ⟨u0_0, u0_1, u0_2, rfl, h0_0, h0_1, h0_2⟩ := kT_43_ro h0
 obtain ⟨A0_0, c0_0, rfl, hl0_0, hm0_0, hb0_0, he0_0⟩ := ro_form h0_0
 obtain ⟨A0_1, c0_1, rfl, hl0_1, hm0_1, hb0_1, he0_1⟩ := ro_form h0_1
 obtain ⟨A0_2, c0_2, rfl, hl0_2, hm0_2, hb0_2, he0_2⟩ := ro_form h0_2
 refine FJ.enter (N := 11) Try.func127 rfl rfl (by simp) [(0, .agg #[.slice A0_0 k.disk.blocks.length c0_0, .slice A0_1 k.disk.cache.length c0_1, .slice A0_2 k.exts.length c0_2])] (by simp) (l0 := []) trivial ?_
 refine FJ.seq (FJ.region ?_)
 refine FJ.e (goes_list rfl) rfl (by decide) rfl (e_box (cs := [.slice A0_0 k.disk.blocks.length c0_0, .slice A0_1 k.disk.cache.length c0_1, .slice A0_2 k.exts.length c0_2]) (n := 3) rfl (.t .z) rfl rfl) ?_
 rintro _ _ ⟨g4, rfl, rfl⟩
 refine FJ.e (goes_list rfl) rfl (by decide) rfl (e_alloc rfl z_43 rfl rfl) ?_
 rintro _ _ ⟨g5, rfl, rfl⟩
 refine FJ.nil (FJ.then_ (FJ.seq ?_))
 refine FJ.draw [rowA g5 43 3 1 [.slice none 0 0, .slice none 0 0, .slice none 0 0], rowA g4 43 3 1 [.slice A0_0 k.disk.blocks.length c0_0, .slice A0_1 k.disk.cache.length c0_1, .slice A0_2 k.exts.length c0_2]] 8 (by kernel_rfl) ?_
 refine FJ.sch [(0, true), (1, true), (4, true), (5, true)] 5 #[true, true, false, false, true, true, false, false, false] (by rfl) (by kernel_rfl) ?_
 refine FJ.dq rfl rfl rfl (by decide) rfl .z (q_fieldAddr rfl (.t (.s .z)) (fun _ => fa_43_0 _ _)) (FJ.dq rfl rfl rfl (by decide) rfl .z (q_loadA (cs := [.slice A0_0 k.disk.blocks.length c0_0, .slice A0_1 k.disk.cache.length c0_1]) rfl ag_25 sz_25 (.t .z) (WS.rows (.s .z) (sub_at rfl))) (FJ.dq rfl rfl rfl (by decide) rfl .z (q_fieldAddr rfl (.t (.s (.s (.s .z)))) (fun _ => fa_43_1 _ _)) (FJ.dq rfl rfl rfl (by decide) rfl .z (q_load rfl ag_41 (.t .z) (WS.row (.s .z) rfl)) (FJ.schN ?_))))
 refine FJ.fork2 (i := 2) (j := 3) (by kernel_rfl) ?_ ?_
 refine FJ.call (goes_sch rfl rfl) rfl (by decide) rfl (c_call rfl Try.func118 rfl rfl (args1 (.t (.s (.s .z))))) .n (fun w1 S1 hs tr => c_118 (kT_25_mk k.disk (tr.ctx h0_0) (tr.ctx h0_1))) ?_
 rintro _ _ ⟨v6, v8, rfl, rfl⟩
 refine FJ.cat (.c (.c .n)) ?_
 refine FJ.know (WS.oform .z) ?_
 rintro ⟨Ao10, co10, rfl, hlo10, hmo10, hbo10⟩
 refine FJ.know (WS.oform (.s .z)) ?_
 rintro ⟨Ao11, co11, rfl, hlo11, hmo11, hbo11⟩
 refine FJ.sk (.s (.s .z)) ?_
 refine FJ.schN ?_
 refine FJ.sch [(3, false), (6, false), (7, true), (8, false)] 0 #[true, true, true, true, true, true, true, true, true] (by rfl) (by kernel_rfl) ?_
 refine FJ.e (goes_sch rfl rfl) rfl (by decide) rfl (e_buildNil rfl u_41 (inz inf_135)) ?_
 rintro _ _ ⟨g12, rfl, rfl⟩
 refine FJ.sk (.s (.s (.s .z))) ?_
 refine FJ.add (c := ownA kSl_135 ([] : (List DExt)) [.slice (some ⟨g12, 0, none⟩) 0 0]) (fun w S => own_nil w S _) ?_
 refine FJ.e (goes_sch rfl rfl) rfl (by decide) rfl (e_appendF (flat_iso _ (flat_pair (flat_scalar _ _ _) (flat_pair (flat_scalar _ _ _) (flat_scalar _ _ _)))) rfl u_41 inf_135 rfl (.t .z) (.t (.s (.s .z))) (.c .z .n) (fun w1 S1 tr => tr.ctx h0_2) (by first | omega | (simp only [List.length_append, List.length_take, List.length_nil, List.length_cons]; omega)) (by first | omega | (simp only [List.length_append, List.length_take, List.length_nil, List.length_cons]; omega))) ?_
 rintro _ _ rfl
 refine FJ.ceq .z (List.nil_append _) ?_
 refine FJ.know (WS.oform .z) ?_
 rintro ⟨Ao14, co14, rfl, hlo14, hmo14, hbo14⟩
 refine FJ.sk (.s4 .z) ?_
 refine FJ.dq rfl rfl rfl (by decide) rfl (.s4 .z) (q_build (ps := [(0, .agg #[.slice Ao10 k.disk.blocks.length co10, .slice Ao11 k.disk.cache.length co11]), (1, .slice Ao14 k.exts.length co14)]) (cs := [.slice Ao10 k.disk.blocks.length co10, .slice Ao11 k.disk.cache.length co11, .slice Ao14 k.exts.length co14]) rfl bl_43 (by intro act hact; simp only [List.map_toArray, List.map_cons, List.map_nil, (show Val _ _ _ from (.t (.s (.s .z)))) act hact, (show Val _ _ _ from (.t .z)) act hact]) rfl) ?_
 refine FJ.es (goes_sch rfl rfl) rfl (es_store (off := 0) (cs := [.slice Ao10 k.disk.blocks.length co10, .slice Ao11 k.disk.cache.length co11, .slice Ao14 k.exts.length co14]) rfl sz_43 (.t (.s4 (.s4 .z))) (.t .z) rfl (ones rfl) (.s4 .z) (Nat.le_of_ble_eq_true rfl) (.c .z (.c (.s .z) (.c (.s (.s .z)) .n)))) ?_
 refine FJ.sl rfl ?_
 refine FJ.schN ?_
 refine FJ.drawN (by kernel_rfl) ?_
 refine FJ.then_ (FJ.ret ?_)
 refine FJ.doneS (resC (cs := [.slice Ao10 k.disk.blocks.length co10, .slice Ao11 k.disk.cache.length co11, .slice Ao14 k.exts.length co14]) rfl (.s4 (.s4 .z)) ag_43 sz_43 (WS.rows0 (cs := [.slice Ao10 k.disk.blocks.length co10, .slice Ao11 k.disk.cache.length co11, .slice Ao14 k.exts.length co14]) .z (fun _ _ h => h))) (.c (.s (.s (.s .z))) (.c (.s (.s (.s .z))) (.c (.s .z) .n))) ?_
 skip
 exact ⟨_, _, _, rfl, rfl⟩
 refine FJ.e (goes_sch rfl rfl) rfl (by decide) rfl (e_buildNil rfl u_41 (inz inf_135)) ?_
 rintro _ _ ⟨g15, rfl, rfl⟩
 refine FJ.sk (.s .z) ?_
 refine FJ.schN ?_
 refine FJ.sch [(2, false), (6, false), (7, true), (8, false)] 0 #[true, true, true, true, true, true, true, true, true] (by rfl) (by kernel_rfl) ?_
 refine FJ.call (goes_sch rfl rfl) rfl (by decide) rfl (c_call rfl Try.func118 rfl rfl (args1 (.t (.s (.s (.s .z)))))) .n (fun w1 S1 hs tr => c_118 (kT_25_mk k.disk (tr.ctx h0_0) (tr.ctx h0_1))) ?_
 rintro _ _ ⟨v16, v18, rfl, rfl⟩
 refine FJ.cat (.c (.c .n)) ?_
 refine FJ.know (WS.oform .z) ?_
 rintro ⟨Ao20, co20, rfl, hlo20, hmo20, hbo20⟩
 refine FJ.know (WS.oform (.s .z)) ?_
 rintro ⟨Ao21, co21, rfl, hlo21, hmo21, hbo21⟩
 refine FJ.sk (.s (.s (.s .z))) ?_
 refine FJ.add (c := ownA kSl_135 ([] : (List DExt)) [.slice (some ⟨g15, 0, none⟩) 0 0]) (fun w S => own_nil w S _) ?_
 refine FJ.e (goes_sch rfl rfl) rfl (by decide) rfl (e_appendF (flat_iso _ (flat_pair (flat_scalar _ _ _) (flat_pair (flat_scalar _ _ _) (flat_scalar _ _ _)))) rfl u_41 inf_135 rfl (.t (.s .z)) (.t (.s (.s .z))) (.c .z .n) (fun w1 S1 tr => tr.ctx h0_2) (by first | omega | (simp only [List.length_append, List.length_take, List.length_nil, List.length_cons]; omega)) (by first | omega | (simp only [List.length_append, List.length_take, List.length_nil, List.length_cons]; omega))) ?_
 rintro _ _ rfl
 refine FJ.ceq .z (List.nil_append _) ?_
 refine FJ.know (WS.oform .z) ?_
 rintro ⟨Ao23, co23, rfl, hlo23, hmo23, hbo23⟩
 refine FJ.sk (.s4 .z) ?_
 refine FJ.dq rfl rfl rfl (by decide) rfl (.s4 .z) (q_build (ps := [(0, .agg #[.slice Ao20 k.disk.blocks.length co20, .slice Ao21 k.disk.cache.length co21]), (1, .slice Ao23 k.exts.length co23)]) (cs := [.slice Ao20 k.disk.blocks.length co20, .slice Ao21 k.disk.cache.length co21, .slice Ao23 k.exts.length co23]) rfl bl_43 (by intro act hact; simp only [List.map_toArray, List.map_cons, List.map_nil, (show Val _ _ _ from (.t (.s .z))) act hact, (show Val _ _ _ from (.t .z)) act hact]) rfl) ?_
 refine FJ.es (goes_sch rfl rfl) rfl (es_store (off := 0) (cs := [.slice Ao20 k.disk.blocks.length co20, .slice Ao21 k.disk.cache.length co21, .slice Ao23 k.exts.length co23]) rfl sz_43 (.t (.s4 (.s4 .z))) (.t .z) rfl (ones rfl) (.s4 .z) (Nat.le_of_ble_eq_true rfl) (.c .z (.c (.s .z) (.c (.s (.s .z)) .n)))) ?_
 refine FJ.sl rfl ?_
 refine FJ.schN ?_
 refine FJ.drawN (by kernel_rfl) ?_
 refine FJ.then_ (FJ.ret ?_)
 refine FJ.doneS (resC (cs := [.slice Ao20 k.disk.blocks.length co20, .slice Ao21 k.disk.cache.length co21, .slice Ao23 k.exts.length co23]) rfl (.s4 (.s4 .z)) ag_43 sz_43 (WS.rows0 (cs := [.slice Ao20 k.disk.blocks.length co20, .slice Ao21 k.disk.cache.length co21, .slice Ao23 k.exts.length co23]) .z (fun _ _ h => h))) (.c (.s (.s .z)) (.c (.s (.s .z)) (.c (.s .z) .n))) ?_
 skip
 exact ⟨_, _, _, rfl, rfl⟩

set_option maxHeartbeats 1000000 in
set_option maxRecDepth 20000 in
theorem c_124 {w0 : World} {S0 : Bs} {k : DKern} {cs0 : List Value} (h0 : kT_43.ro w0 (FF w0 S0) k cs0)  :
    Calls Try.prog 124 #[.agg cs0.toArray] w0 (TriPost w0 S0 (RA_43 k)) := by
 obtain ⟨u0_0, u0_1, u0_2, rfl, h0_0, h0_1, h0_2⟩ := kT_43_ro h0
 obtain ⟨A0_0, c0_0, rfl, hl0_0, hm0_0, hb0_0, he0_0⟩ := ro_form h0_0
 obtain ⟨A0_1, c0_1, rfl, hl0_1, hm0_1, hb0_1, he0_1⟩ := ro_form h0_1
 obtain ⟨A0_2, c0_2, rfl, hl0_2, hm0_2, hb0_2, he0_2⟩ := ro_form h0_2
 refine FJ.enter (N := 10) Try.func124 rfl rfl (by simp) [(0, .agg #[.slice A0_0 k.disk.blocks.length c0_0, .slice A0_1 k.disk.cache.length c0_1, .slice A0_2 k.exts.length c0_2])] (by simp) (l0 := []) trivial ?_
 refine FJ.seq (FJ.region ?_)
 refine FJ.e (goes_list rfl) rfl (by decide) rfl (e_box (cs := [.slice A0_0 k.disk.blocks.length c0_0, .slice A0_1 k.disk.cache.length c0_1, .slice A0_2 k.exts.length c0_2]) (n := 3) rfl (.t .z) rfl rfl) ?_
 rintro _ _ ⟨g4, rfl, rfl⟩
 refine FJ.e (goes_list rfl) rfl (by decide) rfl (e_alloc rfl z_43 rfl rfl) ?_
 rintro _ _ ⟨g5, rfl, rfl⟩
 refine FJ.nil (FJ.then_ (FJ.seq ?_))
 refine FJ.draw [rowA g5 43 3 1 [.slice none 0 0, .slice none 0 0, .slice none 0 0], rowA g4 43 3 1 [.slice A0_0 k.disk.blocks.length c0_0, .slice A0_1 k.disk.cache.length c0_1, .slice A0_2 k.exts.length c0_2]] 7 (by kernel_rfl) ?_
 refine FJ.sch [(0, true), (1, true), (3, true), (4, true), (2, false), (5, false), (6, true), (7, false)] 0 #[true, true, true, true, true, true, true, true] (by rfl) (by kernel_rfl) ?_
 refine FJ.dq rfl rfl rfl (by decide) rfl .z (q_fieldAddr rfl (.t (.s .z)) (fun _ => fa_43_0 _ _)) (FJ.dq rfl rfl rfl (by decide) rfl .z (q_loadA (cs := [.slice A0_0 k.disk.blocks.length c0_0, .slice A0_1 k.disk.cache.length c0_1]) rfl ag_25 sz_25 (.t .z) (WS.rows (.s .z) (sub_at rfl))) (FJ.dq rfl rfl rfl (by decide) rfl .z (q_fieldAddr rfl (.t (.s (.s (.s .z)))) (fun _ => fa_43_1 _ _)) (FJ.dq rfl rfl rfl (by decide) rfl .z (q_load rfl ag_41 (.t .z) (WS.row (.s .z) rfl)) ?_)))
 refine FJ.call (goes_sch rfl rfl) rfl (by decide) rfl (c_call rfl Try.func96 rfl rfl (args1 (.t (.s (.s .z))))) .n (fun w1 S1 hs tr => c_96 (kT_25_mk k.disk (tr.ctx h0_0) (tr.ctx h0_1))) ?_
 rintro _ _ ⟨v6, v8, rfl, rfl⟩
 refine FJ.cat (.c (.c .n)) ?_
 refine FJ.know (WS.oform .z) ?_
 rintro ⟨Ao10, co10, rfl, hlo10, hmo10, hbo10⟩
 refine FJ.know (WS.oform (.s .z)) ?_
 rintro ⟨Ao11, co11, rfl, hlo11, hmo11, hbo11⟩
 refine FJ.sk (.s (.s .z)) ?_
 refine FJ.call (goes_sch rfl rfl) rfl (by decide) rfl (c_call rfl Try.func134 rfl rfl (args1 (.t (.s .z)))) .n (fun w1 S1 hs tr => c_134 (tr.ctx h0_2)) ?_
 rintro _ _ rfl
 refine FJ.cat (.c .n) ?_
 refine FJ.know (WS.oform .z) ?_
 rintro ⟨Ao13, co13, rfl, hlo13, hmo13, hbo13⟩
 refine FJ.sk (.s (.s (.s .z))) ?_
 refine FJ.dq rfl rfl rfl (by decide) rfl (.s (.s (.s .z))) (q_build (ps := [(0, .agg #[.slice Ao10 k.disk.blocks.length co10, .slice Ao11 k.disk.cache.length co11]), (1, .slice Ao13 k.exts.length co13)]) (cs := [.slice Ao10 k.disk.blocks.length co10, .slice Ao11 k.disk.cache.length co11, .slice Ao13 k.exts.length co13]) rfl bl_43 (by intro act hact; simp only [List.map_toArray, List.map_cons, List.map_nil, (show Val _ _ _ from (.t (.s .z))) act hact, (show Val _ _ _ from (.t .z)) act hact]) rfl) ?_
 refine FJ.es (goes_sch rfl rfl) rfl (es_store (off := 0) (cs := [.slice Ao10 k.disk.blocks.length co10, .slice Ao11 k.disk.cache.length co11, .slice Ao13 k.exts.length co13]) rfl sz_43 (.t (.s4 (.s (.s (.s .z))))) (.t .z) rfl (ones rfl) (.s (.s (.s .z))) (Nat.le_of_ble_eq_true rfl) (.c .z (.c (.s .z) (.c (.s (.s .z)) .n)))) ?_
 refine FJ.sl rfl ?_
 refine FJ.schN ?_
 refine FJ.drawN (by kernel_rfl) ?_
 refine FJ.then_ (FJ.ret ?_)
 refine FJ.doneS (resC (cs := [.slice Ao10 k.disk.blocks.length co10, .slice Ao11 k.disk.cache.length co11, .slice Ao13 k.exts.length co13]) rfl (.s4 (.s (.s (.s .z)))) ag_43 sz_43 (WS.rows0 (cs := [.slice Ao10 k.disk.blocks.length co10, .slice Ao11 k.disk.cache.length co11, .slice Ao13 k.exts.length co13]) .z (fun _ _ h => h))) (.c (.s (.s .z)) (.c (.s (.s .z)) (.c (.s .z) .n))) ?_
 skip
 exact ⟨_, _, _, rfl, rfl⟩

set_option maxHeartbeats 1000000 in
set_option maxRecDepth 20000 in
theorem c_72 {w0 : World} {S0 : Bs} {k : DKern} {cs0 : List Value} (h0 : kT_43.ro w0 (FF w0 S0) k cs0) (key : Int)  :
    Calls Try.prog 72 #[.agg cs0.toArray, .int .i64 key] w0 (TriPost w0 S0 (RA_45 (flushKern k key))) := by
 obtain ⟨u0_0, u0_1, u0_2, rfl, h0_0, h0_1, h0_2⟩ := kT_43_ro h0
 obtain ⟨A0_0, c0_0, rfl, hl0_0, hm0_0, hb0_0, he0_0⟩ := ro_form h0_0
 obtain ⟨A0_1, c0_1, rfl, hl0_1, hm0_1, hb0_1, he0_1⟩ := ro_form h0_1
 obtain ⟨A0_2, c0_2, rfl, hl0_2, hm0_2, hb0_2, he0_2⟩ := ro_form h0_2
 refine FJ.enter (N := 25) Try.func72 rfl rfl (by simp) [(0, .agg #[.slice A0_0 k.disk.blocks.length c0_0, .slice A0_1 k.disk.cache.length c0_1, .slice A0_2 k.exts.length c0_2]), (1, .int .i64 key)] (by simp) (l0 := []) trivial ?_
 refine FJ.seq (FJ.region ?_)
 refine FJ.e (goes_list rfl) rfl (by decide) rfl (e_box (cs := [.slice A0_0 k.disk.blocks.length c0_0, .slice A0_1 k.disk.cache.length c0_1, .slice A0_2 k.exts.length c0_2]) (n := 3) rfl (.t .z) rfl rfl) ?_
 rintro _ _ ⟨g4, rfl, rfl⟩
 refine FJ.e (goes_list rfl) rfl (by decide) rfl (e_box (cs := [.int .i64 key]) (n := 1) rfl (.t (.s (.s .z))) rfl rfl) ?_
 rintro _ _ ⟨g5, rfl, rfl⟩
 refine FJ.e (goes_list rfl) rfl (by decide) rfl (e_alloc rfl z_45 rfl rfl) ?_
 rintro _ _ ⟨g6, rfl, rfl⟩
 refine FJ.nil (FJ.then_ (FJ.seq (FJ.seq (FJ.region ?_))))
 refine FJ.ql rfl (q_loadA (cs := [.slice A0_0 k.disk.blocks.length c0_0, .slice A0_1 k.disk.cache.length c0_1, .slice A0_2 k.exts.length c0_2]) rfl ag_43 sz_43 (.t (.s (.s .z))) (WS.rows0 (.s (.s .z)) (fun i u h => by exact h))) ?_
 refine FJ.call (goes_list rfl) rfl (by decide) rfl (c_call rfl Try.func112 rfl rfl (args1 (.t .z))) .n (fun w1 S1 hs tr => c_112 (kT_43_mk k (tr.ctx h0_0) (tr.ctx h0_1) (tr.ctx h0_2))) ?_
 rintro _ _ ⟨rfl, rfl⟩
 refine FJ.cat .n ?_
 refine FJ.ql rfl (q_assign rfl (.t .z)) (FJ.nil (FJ.then_ (FJ.seq (FJ.region ?_))))
 refine FJ.ql rfl (q_move rfl (.t .z)) (FJ.ql rfl (q_neq rfl (.t .z) .c) (FJ.nil (FJ.then_ ?_)))
 refine FJ.condN (.t .z) (fun b7 => ?_) (fun b7 => ?_)
 refine FJ.seq (FJ.region (FJ.ql rfl (q_move rfl (.t (.s (.s .z)))) ?_))
 refine FJ.ql rfl (q_build (ps := [(0, .int .i64 (kernFault k))]) (cs := [.int .i64 (kernFault k), .slice none 0 0, .slice none 0 0, .slice none 0 0, .slice none 0 0]) rfl bl_45 (by intro act hact; simp only [List.map_toArray, List.map_cons, List.map_nil, (show Val _ _ _ from (.t .z)) act hact]) rfl) ?_
 refine FJ.es (goes_list rfl) rfl (es_store (off := 0) (cs := [.int .i64 (kernFault k), .slice none 0 0, .slice none 0 0, .slice none 0 0, .slice none 0 0]) rfl sz_45 (.t (.s4 (.s (.s (.s .z))))) (.t .z) rfl (ones rfl) .z (Nat.le_of_ble_eq_true rfl) (.c .z (.c (.s .z) (.c (.s (.s .z)) (.c (.s (.s (.s .z))) (.c (.s (.s (.s (.s .z)))) .n)))))) ?_
 refine FJ.nil (FJ.then_ (FJ.ret (FJ.thenR ?_)))
 refine FJ.add (c := ownA kSl_2 [] [.slice none 0 0]) (fun w S => own_nil w S none) ?_
 refine FJ.add (c := ownA kSl_40 [] [.slice none 0 0]) (fun w S => own_nil w S none) ?_
 refine FJ.add (c := ownA kSl_57 [] [.slice none 0 0]) (fun w S => own_nil w S none) ?_
 refine FJ.add (c := ownA kSl_135 [] [.slice none 0 0]) (fun w S => own_nil w S none) ?_
 refine FJ.doneS (resC (cs := [.int .i64 (kernFault k), .slice none 0 0, .slice none 0 0, .slice none 0 0, .slice none 0 0]) rfl (.s4 (.s (.s (.s .z)))) ag_45 sz_45 (WS.rows0 (cs := [.int .i64 (kernFault k), .slice none 0 0, .slice none 0 0, .slice none 0 0, .slice none 0 0]) (.s4 .z) (fun _ _ h => h))) (.c (.s (.s (.s .z))) (.c (.s (.s .z)) (.c (.s .z) (.c .z .n)))) ?_
 rw [flushKern_f (by assumption)]
 exact ⟨_, _, _, _, rfl, rfl⟩
 have hk : kernFault k = 0 := b7; have hd := (kernOk hk).1
 refine FJ.skip (FJ.then_ (FJ.seq (FJ.seq (FJ.region ?_))))
 refine FJ.ql rfl (q_fieldAddr rfl (.t (.s4 (.s (.s (.s .z))))) (fun _ => fa_43_1 _ _)) (FJ.ql rfl (q_load rfl ag_41 (.t .z) (WS.row (.s (.s .z)) rfl)) (FJ.ql rfl (q_makeFunc rfl args0 (args1 (.t (.s4 (.s4 .z))))) ?_))
 refine FJ.call (goes_list rfl) rfl (by decide) rfl (c_call rfl Try.func122 rfl rfl (args2 (.t (.s .z)) (.t .z))) .n (fun w1 S1 hs tr => c_122 (tr.ctx h0_2) Try.func136 rfl rfl (fun w2 S2 h2 x => c_136 (kT_135_mk x) (PtrRo.wide (tr.ptr (.s .z) ⟨rfl, trivial⟩) h2))) ?_
 rintro _ _ ⟨rfl, rfl⟩
 refine FJ.cat .n ?_
 refine FJ.ql rfl (q_not rfl (.t .z)) (FJ.nil (FJ.then_ ?_))
 refine FJ.cond (.t .z) (fun b12 => ?_) (fun b12 => ?_)
 refine FJ.seq (FJ.region ?_)
 refine FJ.ql rfl (q_build (ps := [(0, .int .i64 6)]) (cs := [.int .i64 6, .slice none 0 0, .slice none 0 0, .slice none 0 0, .slice none 0 0]) rfl bl_45 (by intro act hact; simp only [List.map_toArray, List.map_cons, List.map_nil, (show Val _ _ _ from .c) act hact]) rfl) ?_
 refine FJ.es (goes_list rfl) rfl (es_store (off := 0) (cs := [.int .i64 6, .slice none 0 0, .slice none 0 0, .slice none 0 0, .slice none 0 0]) rfl sz_45 (.t (.s4 (.s4 (.s (.s (.s .z)))))) (.t .z) rfl (ones rfl) .z (Nat.le_of_ble_eq_true rfl) (.c .z (.c (.s .z) (.c (.s (.s .z)) (.c (.s (.s (.s .z))) (.c (.s (.s (.s (.s .z)))) .n)))))) ?_
 refine FJ.nil (FJ.then_ (FJ.ret (FJ.thenR ?_)))
 refine FJ.add (c := ownA kSl_2 [] [.slice none 0 0]) (fun w S => own_nil w S none) ?_
 refine FJ.add (c := ownA kSl_40 [] [.slice none 0 0]) (fun w S => own_nil w S none) ?_
 refine FJ.add (c := ownA kSl_57 [] [.slice none 0 0]) (fun w S => own_nil w S none) ?_
 refine FJ.add (c := ownA kSl_135 [] [.slice none 0 0]) (fun w S => own_nil w S none) ?_
 refine FJ.doneS (resC (cs := [.int .i64 6, .slice none 0 0, .slice none 0 0, .slice none 0 0, .slice none 0 0]) rfl (.s4 (.s4 (.s (.s (.s .z))))) ag_45 sz_45 (WS.rows0 (cs := [.int .i64 6, .slice none 0 0, .slice none 0 0, .slice none 0 0, .slice none 0 0]) (.s4 .z) (fun _ _ h => h))) (.c (.s (.s (.s .z))) (.c (.s (.s .z)) (.c (.s .z) (.c .z .n)))) ?_
 rw [flushKern_6 hk (hasKey_not (by assumption))]
 exact ⟨_, _, _, _, rfl, rfl⟩
 refine FJ.skip (FJ.then_ (FJ.seq (FJ.region ?_)))
 refine FJ.ql rfl (q_loadA (cs := [.slice A0_0 k.disk.blocks.length c0_0, .slice A0_1 k.disk.cache.length c0_1, .slice A0_2 k.exts.length c0_2]) rfl ag_43 sz_43 (.t (.s4 (.s4 (.s4 .z)))) (WS.rows0 (.s (.s .z)) (fun i u h => by exact h))) ?_
 refine FJ.call (goes_list rfl) rfl (by decide) rfl (c_call rfl Try.func124 rfl rfl (args1 (.t .z))) .n (fun w1 S1 hs tr => c_124 (kT_43_mk k (tr.ctx h0_0) (tr.ctx h0_1) (tr.ctx h0_2))) ?_
 rintro _ _ ⟨v17, v19, v21, rfl, rfl⟩
 refine FJ.cat (.c (.c (.c .n))) ?_
 refine FJ.know (WS.oform .z) ?_
 rintro ⟨Ao23, co23, rfl, hlo23, hmo23, hbo23⟩
 refine FJ.know (WS.oform (.s .z)) ?_
 rintro ⟨Ao24, co24, rfl, hlo24, hmo24, hbo24⟩
 refine FJ.know (WS.oform (.s (.s .z))) ?_
 rintro ⟨Ao25, co25, rfl, hlo25, hmo25, hbo25⟩
 refine FJ.e (goes_list rfl) rfl (by decide) rfl (e_alloc rfl z_43 rfl rfl) ?_
 rintro _ _ ⟨g26, rfl, rfl⟩
 refine FJ.es (goes_list rfl) rfl (es_store (off := 0) (cs := [.slice Ao23 k.disk.blocks.length co23, .slice Ao24 k.disk.cache.length co24, .slice Ao25 k.exts.length co25]) rfl sz_43 (.t .z) (.t (.s .z)) rfl (ones rfl) .z (Nat.le_of_ble_eq_true rfl) (.c .z (.c (.s .z) (.c (.s (.s .z)) .n)))) ?_
 refine FJ.nil (FJ.then_ (FJ.seq (FJ.region (FJ.ql rfl (q_fieldAddr rfl (.t .z) (fun _ => fa_43_0 _ _)) ?_))))
 refine FJ.call (goes_list rfl) rfl (by decide) rfl (c_call rfl Try.func98 rfl rfl (args1 (.t .z))) (.c .z (.c .z (.c .z .n))) (fun w1 S1 hs tr => c_98 (d := k.disk) hs (by assumption)) ?_
 rintro _ _ ⟨v27, v29, rfl, rfl⟩
 refine FJ.cat (.c (.c (.c .n))) ?_
 refine FJ.ceq (x' := (⟨keepN true [] (k.disk).cache (k.disk).blocks (k.disk).cache.length, []⟩ : DDisk).blocks) (.s .z) rfl ?_
 refine FJ.know (WS.oform .z) ?_
 rintro ⟨Ao31, co31, rfl, hlo31, hmo31, hbo31⟩
 refine FJ.ceq (x' := (⟨keepN true [] (k.disk).cache (k.disk).blocks (k.disk).cache.length, []⟩ : DDisk).cache) (.s (.s .z)) rfl ?_
 refine FJ.know (WS.oform .z) ?_
 rintro ⟨Ao32, co32, rfl, hlo32, hmo32, hbo32⟩
 refine FJ.nil (FJ.then_ (FJ.seq (FJ.region ?_)))
 refine FJ.ql rfl (q_loadA (cs := [.slice Ao31 ((⟨keepN true [] (k.disk).cache (k.disk).blocks (k.disk).cache.length, []⟩ : DDisk).blocks).length co31, .slice Ao32 ((⟨keepN true [] (k.disk).cache (k.disk).blocks (k.disk).cache.length, []⟩ : DDisk).cache).length co32, .slice Ao25 k.exts.length co25]) rfl ag_43 sz_43 (.t (.s (.s .z))) (WS.rows0 (.s (.s .z)) (fun i u h => by exact h))) ?_
 refine FJ.ql rfl (q_build (ps := [(2, .agg #[.slice Ao31 ((⟨keepN true [] (k.disk).cache (k.disk).blocks (k.disk).cache.length, []⟩ : DDisk).blocks).length co31, .slice Ao32 ((⟨keepN true [] (k.disk).cache (k.disk).blocks (k.disk).cache.length, []⟩ : DDisk).cache).length co32, .slice Ao25 k.exts.length co25])]) (cs := [.int .i64 0, .slice none 0 0, .slice Ao31 ((⟨keepN true [] (k.disk).cache (k.disk).blocks (k.disk).cache.length, []⟩ : DDisk).blocks).length co31, .slice Ao32 ((⟨keepN true [] (k.disk).cache (k.disk).blocks (k.disk).cache.length, []⟩ : DDisk).cache).length co32, .slice Ao25 k.exts.length co25]) rfl bl_45 (by intro act hact; simp only [List.map_toArray, List.map_cons, List.map_nil, (show Val _ _ _ from (.t .z)) act hact]) rfl) ?_
 refine FJ.es (goes_list rfl) rfl (es_store (off := 0) (cs := [.int .i64 0, .slice none 0 0, .slice Ao31 ((⟨keepN true [] (k.disk).cache (k.disk).blocks (k.disk).cache.length, []⟩ : DDisk).blocks).length co31, .slice Ao32 ((⟨keepN true [] (k.disk).cache (k.disk).blocks (k.disk).cache.length, []⟩ : DDisk).cache).length co32, .slice Ao25 k.exts.length co25]) rfl sz_45 (.t (.s16 (.s .z))) (.t .z) rfl (ones rfl) (.s4 .z) (Nat.le_of_ble_eq_true rfl) (.c .z (.c (.s .z) (.c (.s (.s .z)) (.c (.s (.s (.s .z))) (.c (.s (.s (.s (.s .z)))) .n)))))) ?_
 refine FJ.nil (FJ.then_ (FJ.ret ?_))
 refine FJ.add (c := ownA kSl_2 [] [.slice none 0 0]) (fun w S => own_nil w S none) ?_
 refine FJ.doneS (resC (cs := [.int .i64 0, .slice none 0 0, .slice Ao31 ((⟨keepN true [] (k.disk).cache (k.disk).blocks (k.disk).cache.length, []⟩ : DDisk).blocks).length co31, .slice Ao32 ((⟨keepN true [] (k.disk).cache (k.disk).blocks (k.disk).cache.length, []⟩ : DDisk).cache).length co32, .slice Ao25 k.exts.length co25]) rfl (.s16 (.s .z)) ag_45 sz_45 (WS.rows0 (cs := [.int .i64 0, .slice none 0 0, .slice Ao31 ((⟨keepN true [] (k.disk).cache (k.disk).blocks (k.disk).cache.length, []⟩ : DDisk).blocks).length co31, .slice Ao32 ((⟨keepN true [] (k.disk).cache (k.disk).blocks (k.disk).cache.length, []⟩ : DDisk).cache).length co32, .slice Ao25 k.exts.length co25]) (.s .z) (fun _ _ h => h))) (.c .z (.c (.s (.s .z)) (.c (.s .z) (.c (.s (.s .z)) .n)))) ?_
 rw [flushKern_0 hk (hasKey_yes (by assumption))]
 exact ⟨_, _, _, _, rfl, rfl⟩
end Go.Proofs.Ytkmcpcahbfdohaa

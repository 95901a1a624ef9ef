/- What is proved: contracts of functions, one a function. No condition. -/
import Derived.Test.YtoaebcjjfojfeaaW3
import Derived.Test.YtoaebcjjfojfeaaW6
namespace Go.Proofs.Ytoaebcjjfojfeaa
open Go Go.RowKit
set_option linter.unusedVariables false
set_option linter.unusedSimpArgs false
set_option maxHeartbeats 1000000 in
set_option maxRecDepth 20000 in
theorem c_74 {w0 : World} {S0 : Bs} {xs : (List DInode)} {v0 : Value} (h0 : kSl_30.ro w0 (FF w0 S0) xs [v0]) {ys : (List DInode)} {v1 : Value} (h1 : kSl_30.ro w0 (FF w0 S0) ys [v1]) {f : FuncId} {fn : Func} (hfn : Try.prog.funcs[f]? = some fn) (hbody : fn.body.isSome = true) (hname : (fn.name == "runtime.NumGoroutine") = false) (hf : ∀ (w1 : World) (S1 : Bs) {x y : DInode} {cs1 cs2 : List Value}, kT_30.ro w1 (FF w1 S1) x cs1 → kT_30.ro w1 (FF w1 S1) y cs2 → Calls Try.prog f #[.agg cs1.toArray, .agg cs2.toArray] w1 (TriPost w1 S1 (fun r l => r = .bool (decide (x = y)) ∧ l = [])))  :
    Calls Try.prog 74 #[v0, v1, .func (.func f) #[] #[]] w0 (TriPost w0 S0 (fun r l => r = .bool (decide (xs = ys)) ∧ l = [])) := by
  obtain ⟨A0, c0, rfl, hl0, hm0, hb0, he0⟩ := ro_form h0
  obtain ⟨A1, c1, rfl, hl1, hm1, hb1, he1⟩ := ro_form h1
  refine FJ.enter (N := 32) Try.func74 rfl rfl (by simp) [(0, .slice A0 xs.length c0), (1, .slice A1 ys.length c1), (2, .func (.func f) #[] #[])] (by simp) (l0 := []) trivial ?_
  refine FJ.seq ?_
  refine FJ.region ?_
  refine FJ.q (goes_list rfl) rfl (by decide) rfl (q_assign rfl .c) ?_
  refine FJ.nil ?_
  refine FJ.then_ ?_
  refine FJ.seq ?_
  refine FJ.seq ?_
  refine FJ.region ?_
  refine FJ.q (goes_list rfl) rfl (by decide) rfl (q_move rfl (.t (.s .z))) ?_
  refine FJ.q (goes_list rfl) rfl (by decide) rfl (q_len rfl u_41 (.t .z)) ?_
  refine FJ.q (goes_list rfl) rfl (by decide) rfl (q_move rfl (.t (.s (.s (.s (.s .z)))))) ?_
  refine FJ.q (goes_list rfl) rfl (by decide) rfl (q_len rfl u_41 (.t .z)) ?_
  refine FJ.q (goes_list rfl) rfl (by decide) rfl (q_neq rfl (.t (.s (.s .z))) (.t .z)) ?_
  refine FJ.nil ?_
  refine FJ.then_ ?_
  refine FJ.condN (.t .z) (fun b3 => ?_) (fun b3 => ?_)
  · -- b3: True
    refine FJ.seq ?_
    refine FJ.region ?_
    refine FJ.er (.s (.s (.s (.s (.s .z))))) ?_
    refine FJ.q (goes_list rfl) rfl (by decide) rfl (q_assign rfl .c) ?_
    refine FJ.nil ?_
    refine FJ.then_ ?_
    refine FJ.ret ?_
    refine FJ.thenR ?_
    refine FJ.doneS (res1 rfl .z) .n ?_
    exact ⟨by rw [decide_eq_false (fun h => by subst h; omega)], rfl⟩
  · -- b3: False
    refine FJ.skip ?_
    refine FJ.then_ ?_
    refine FJ.seq ?_
    refine FJ.seq ?_
    refine FJ.region ?_
    refine FJ.q (goes_list rfl) rfl (by decide) rfl (q_move rfl (.t (.s (.s (.s (.s (.s (.s .z)))))))) ?_
    refine FJ.q (goes_list rfl) rfl (by decide) rfl (q_len rfl u_41 (.t .z)) ?_
    refine FJ.q (goes_list rfl) rfl (by decide) rfl (q_move rfl .c) ?_
    refine FJ.nil ?_
    refine FJ.then_ ?_
    refine FJ.block ?_
    refine FJ.loopi (γ := Nat) (fun k => [(17, .int .i64 (k : Int)), (16, .int .i64 (xs.length : Int)), (15, .slice A0 xs.length c0), (1, .slice A1 ys.length c1), (2, .func (.func f) #[] #[])]) (fun k => []) (fun k => k ≤ xs.length ∧ ∀ j, j < k → xs[j]? = ys[j]?) (fun k => xs.length - k) 0 ⟨Nat.zero_le _, all_eq_zero⟩ (.c .z (.c (.s .z) (.c (.s (.s .z)) (.c (.s (.s (.s (.s (.s (.s (.s (.s (.s (.s .z)))))))))) (.c (.s (.s (.s (.s (.s (.s (.s (.s (.s (.s (.s .z))))))))))) .n))))) (fun _ h => h) ?_
    rintro k ⟨hk, hallk⟩
    refine FJ.seq ?_
    refine FJ.region ?_
    refine FJ.q (goes_list rfl) rfl (by decide) rfl (q_lss rfl (.t .z) (.t (.s .z))) ?_
    refine FJ.nil ?_
    refine FJ.then_ ?_
    refine FJ.seq ?_
    refine FJ.condP (.t .z) (fun b4 => ?_) (fun b4 => ?_)
    · -- b4: True
      refine FJ.skip ?_
      refine FJ.then_ ?_
      refine FJ.seq ?_
      refine FJ.block ?_
      refine FJ.seq ?_
      refine FJ.region ?_
      refine FJ.q (goes_list rfl) rfl (by decide) rfl (q_move rfl (.t (.s .z))) ?_
      obtain ⟨ad5, hAad5, hrad5⟩ := he0 (by omega)
      subst hAad5
      obtain ⟨x6, hx6⟩ := get_ex (xs := xs) (j := k) (by omega)
      obtain ⟨ece7, hre7, hFe7, hce7⟩ := hrad5.elem hx6
      obtain ⟨ue7_3, ue7_4, rfl, he7_3, he7_4⟩ := kT_30_ro hre7
      obtain ⟨Ae7_3, ce7_3, rfl, hle7_3, hme7_3, hbe7_3, hee7_3⟩ := ro_form he7_3
      obtain ⟨Ae7_4, ce7_4, rfl, hle7_4, hme7_4, hbe7_4, hee7_4⟩ := ro_form he7_4
      refine FJ.q (goes_list rfl) rfl (by decide) rfl (q_indexAddr (j := k) rfl u_41 sz_30 (.t (.s (.s (.s (.s .z))))) (.t (.s (.s .z))) rfl (by omega)) ?_
      refine FJ.q (goes_list rfl) rfl (by decide) rfl (q_loadA (cs := [.int .i64 x6.kind, .int .i64 x6.links, .int .i64 x6.size, .slice Ae7_3 x6.blocks.length ce7_3, .slice Ae7_4 x6.ents.length ce7_4]) rfl ag_30 sz_30 (.t .z) (WS.els hFe7 hce7)) ?_
      refine FJ.e (goes_list rfl) rfl (by decide) rfl (e_alloc rfl z_30 rfl rfl) ?_
      rintro _ _ ⟨g10, rfl, rfl⟩
      refine FJ.q (goes_list rfl) rfl (by decide) rfl (q_assign rfl (.t (.s (.s (.s .z))))) ?_
      refine FJ.es (goes_list rfl) rfl (es_store (off := 0) (cs := [.int .i64 x6.kind, .int .i64 x6.links, .int .i64 x6.size, .slice Ae7_3 x6.blocks.length ce7_3, .slice Ae7_4 x6.ents.length ce7_4]) rfl sz_30 (.t (.s .z)) (.t (.s (.s .z))) rfl (ones rfl) .z (Nat.le_of_ble_eq_true rfl) (.c .z (.c (.s .z) (.c (.s (.s .z)) (.c (.s (.s (.s .z))) (.c (.s (.s (.s (.s .z)))) .n)))))) ?_
      refine FJ.nil ?_
      refine FJ.then_ ?_
      refine FJ.seq ?_
      refine FJ.region ?_
      refine FJ.q (goes_list rfl) rfl (by decide) rfl (q_move rfl (.t (.s (.s (.s (.s (.s (.s (.s (.s (.s .z))))))))))) ?_
      refine FJ.q (goes_list rfl) rfl (by decide) rfl (q_move rfl (.t (.s .z))) ?_
      obtain ⟨ad11, hAad11, hrad11⟩ := he1 (by omega)
      subst hAad11
      obtain ⟨x12, hx12⟩ := get_ex (xs := ys) (j := k) (by omega)
      obtain ⟨ece13, hre13, hFe13, hce13⟩ := hrad11.elem hx12
      obtain ⟨ue13_3, ue13_4, rfl, he13_3, he13_4⟩ := kT_30_ro hre13
      obtain ⟨Ae13_3, ce13_3, rfl, hle13_3, hme13_3, hbe13_3, hee13_3⟩ := ro_form he13_3
      obtain ⟨Ae13_4, ce13_4, rfl, hle13_4, hme13_4, hbe13_4, hee13_4⟩ := ro_form he13_4
      refine FJ.q (goes_list rfl) rfl (by decide) rfl (q_indexAddr (j := k) rfl u_41 sz_30 (.t (.s .z)) (.t .z) rfl (by omega)) ?_
      refine FJ.q (goes_list rfl) rfl (by decide) rfl (q_loadA (cs := [.int .i64 x12.kind, .int .i64 x12.links, .int .i64 x12.size, .slice Ae13_3 x12.blocks.length ce13_3, .slice Ae13_4 x12.ents.length ce13_4]) rfl ag_30 sz_30 (.t .z) (WS.els hFe13 hce13)) ?_
      refine FJ.e (goes_list rfl) rfl (by decide) rfl (e_alloc rfl z_30 rfl rfl) ?_
      rintro _ _ ⟨g16, rfl, rfl⟩
      refine FJ.es (goes_list rfl) rfl (es_store (off := 0) (cs := [.int .i64 x12.kind, .int .i64 x12.links, .int .i64 x12.size, .slice Ae13_3 x12.blocks.length ce13_3, .slice Ae13_4 x12.ents.length ce13_4]) rfl sz_30 (.t .z) (.t (.s .z)) rfl (ones rfl) .z (Nat.le_of_ble_eq_true rfl) (.c .z (.c (.s .z) (.c (.s (.s .z)) (.c (.s (.s (.s .z))) (.c (.s (.s (.s (.s .z)))) .n)))))) ?_
      refine FJ.nil ?_
      refine FJ.then_ ?_
      refine FJ.seq ?_
      refine FJ.region ?_
      refine FJ.q (goes_list rfl) rfl (by decide) rfl (q_move rfl (.t (.s (.s (.s (.s (.s (.s (.s (.s (.s (.s (.s (.s (.s (.s (.s .z))))))))))))))))) ?_
      refine FJ.q (goes_list rfl) rfl (by decide) rfl (q_loadA (cs := [.int .i64 x6.kind, .int .i64 x6.links, .int .i64 x6.size, .slice Ae7_3 x6.blocks.length ce7_3, .slice Ae7_4 x6.ents.length ce7_4]) rfl ag_30 sz_30 (.t (.s (.s (.s (.s (.s (.s (.s .z)))))))) (WS.rows0 (.s .z) (fun i u h => by exact h))) ?_
      refine FJ.q (goes_list rfl) rfl (by decide) rfl (q_loadA (cs := [.int .i64 x12.kind, .int .i64 x12.links, .int .i64 x12.size, .slice Ae13_3 x12.blocks.length ce13_3, .slice Ae13_4 x12.ents.length ce13_4]) rfl ag_30 sz_30 (.t (.s (.s .z))) (WS.rows0 .z (fun i u h => by exact h))) ?_
      refine FJ.call (goes_list rfl) rfl (by decide) rfl (c_callv rfl (.t (.s (.s .z))) hfn hbody hname (args2 (.t (.s .z)) (.t .z))) .n (fun w1 S1 hs tr => hf w1 S1 (kT_30_mk x6 (tr.ctx he7_3) (tr.ctx he7_4)) (kT_30_mk x12 (tr.ctx he13_3) (tr.ctx he13_4))) ?_
      rintro _ _ ⟨rfl, rfl⟩
      refine FJ.cat .n ?_
      refine FJ.q (goes_list rfl) rfl (by decide) rfl (q_not rfl (.t .z)) ?_
      refine FJ.nil ?_
      refine FJ.then_ ?_
      refine FJ.condN (.t .z) (fun b17 => ?_) (fun b17 => ?_)
      · -- b17: True
        refine FJ.seq ?_
        refine FJ.region ?_
        refine FJ.q (goes_list rfl) rfl (by decide) rfl (q_assign rfl .c) ?_
        refine FJ.nil ?_
        refine FJ.then_ ?_
        refine FJ.ret ?_
        refine FJ.inBR ?_
        refine FJ.thenR ?_
        refine FJ.thenR ?_
        refine FJ.inBR ?_
        refine FJ.thenR ?_
        refine FJ.doneS (res1 rfl .z) .n ?_
        exact ⟨by rw [decide_eq_false (ne_of_get hx6 hx12 (by assumption))], rfl⟩
      · -- b17: False
        refine FJ.skip ?_
        refine FJ.inBN ?_
        refine FJ.then_ ?_
        refine FJ.region ?_
        refine FJ.q (goes_list rfl) rfl (by decide) rfl (q_add (c := ((k + 1 : Nat) : Int)) rfl (.t (.s (.s (.s (.s (.s (.s (.s (.s (.s (.s (.s (.s (.s (.s (.s (.s .z))))))))))))))))) .c (wr (by omega) (by omega) (by omega))) ?_
        refine FJ.er (.s (.s (.s (.s (.s (.s (.s (.s (.s (.s (.s (.s (.s (.s (.s (.s (.s .z))))))))))))))))) ?_
        refine FJ.q (goes_list rfl) rfl (by decide) rfl (q_move rfl (.t .z)) ?_
        refine FJ.nil ?_
        refine FJ.again (k + 1) ⟨by omega, all_eq_succ hallk hx6 hx12 (by assumption)⟩ (by first | omega | (dsimp only; omega)) (.c .z (.c (.s (.s (.s (.s (.s (.s (.s (.s (.s (.s (.s (.s (.s (.s (.s (.s (.s (.s .z)))))))))))))))))) (.c (.s (.s (.s (.s (.s (.s (.s (.s (.s (.s (.s (.s (.s (.s (.s (.s (.s (.s (.s .z))))))))))))))))))) (.c (.s (.s (.s (.s (.s (.s (.s (.s (.s (.s (.s (.s (.s (.s (.s (.s (.s (.s (.s (.s .z)))))))))))))))))))) (.c (.s (.s (.s (.s (.s (.s (.s (.s (.s (.s (.s (.s (.s (.s (.s (.s (.s (.s (.s (.s (.s .z))))))))))))))))))))) .n))))) (fun _ h => h.sel .n)
    · -- b4: False
      refine FJ.exit ?_
      refine FJ.thenE ?_
      refine FJ.thenE ?_
      refine FJ.inB ?_
      refine FJ.then_ ?_
      refine FJ.seq ?_
      refine FJ.region ?_
      refine FJ.q (goes_list rfl) rfl (by decide) rfl (q_assign rfl .c) ?_
      refine FJ.nil ?_
      refine FJ.then_ ?_
      refine FJ.ret ?_
      refine FJ.doneS (res1 rfl .z) .n ?_
      exact ⟨by rw [decide_eq_true (eq_of_all (by omega) (by omega) hallk)], rfl⟩

set_option maxHeartbeats 1000000 in
set_option maxRecDepth 20000 in
theorem c_76 {w0 : World} {S0 : Bs} {x : (List UInt8)} {v0 : Value} (h0 : kSl_5.ro w0 (FF w0 S0) x [v0]) {y : (List UInt8)} {v1 : Value} (h1 : kSl_5.ro w0 (FF w0 S0) y [v1])  :
    Calls Try.prog 76 #[v0, v1] w0 (TriPost w0 S0 (fun r l => r = .bool (decide (x = y)) ∧ l = [])) := by
  obtain ⟨A0, c0, rfl, hl0, hm0, hb0, he0⟩ := ro_form h0
  obtain ⟨A1, c1, rfl, hl1, hm1, hb1, he1⟩ := ro_form h1
  refine FJ.enter (N := 10) Try.func76 rfl rfl (by simp) [(0, .slice A0 x.length c0), (1, .slice A1 y.length c1)] (by simp) (l0 := []) trivial ?_
  refine FJ.seq ?_
  refine FJ.region ?_
  refine FJ.q (goes_list rfl) rfl (by decide) rfl (q_assign rfl .c) ?_
  refine FJ.nil ?_
  refine FJ.then_ ?_
  refine FJ.seq ?_
  refine FJ.region ?_
  refine FJ.q (goes_list rfl) rfl (by decide) rfl (q_move rfl (.t (.s .z))) ?_
  refine FJ.q (goes_list rfl) rfl (by decide) rfl (q_convBS (xs := x) rfl u_62 u_5 u_9 (.t .z) (WS.roctx h0)) ?_
  refine FJ.q (goes_list rfl) rfl (by decide) rfl (q_move rfl (.t (.s (.s (.s (.s .z)))))) ?_
  refine FJ.q (goes_list rfl) rfl (by decide) rfl (q_convBS (xs := y) rfl u_62 u_5 u_9 (.t .z) (WS.roctx h1)) ?_
  refine FJ.q (goes_list rfl) rfl (by decide) rfl (q_seql rfl (.t (.s (.s .z))) (.t .z)) ?_
  refine FJ.er (.s (.s (.s (.s (.s .z))))) ?_
  refine FJ.q (goes_list rfl) rfl (by decide) rfl (q_assign rfl (.t .z)) ?_
  refine FJ.nil ?_
  refine FJ.then_ ?_
  refine FJ.ret ?_
  refine FJ.doneS (res1 rfl .z) .n ?_
  exact ⟨congrArg Value.bool (decide_eq_decide.2 bstr_inj), rfl⟩

set_option maxHeartbeats 1000000 in
set_option maxRecDepth 20000 in
theorem c_75 {w0 : World} {S0 : Bs} {xs : (List (List UInt8))} {v0 : Value} (h0 : kSl_62.ro w0 (FF w0 S0) xs [v0]) {ys : (List (List UInt8))} {v1 : Value} (h1 : kSl_62.ro w0 (FF w0 S0) ys [v1]) {f : FuncId} {fn : Func} (hfn : Try.prog.funcs[f]? = some fn) (hbody : fn.body.isSome = true) (hname : (fn.name == "runtime.NumGoroutine") = false) (hf : ∀ (w1 : World) (S1 : Bs) {x y : (List UInt8)} {v1 v2 : Value}, kSl_5.ro w1 (FF w1 S1) x [v1] → kSl_5.ro w1 (FF w1 S1) y [v2] → Calls Try.prog f #[v1, v2] w1 (TriPost w1 S1 (fun r l => r = .bool (decide (x = y)) ∧ l = [])))  :
    Calls Try.prog 75 #[v0, v1, .func (.func f) #[] #[]] w0 (TriPost w0 S0 (fun r l => r = .bool (decide (xs = ys)) ∧ l = [])) := by
  obtain ⟨A0, c0, rfl, hl0, hm0, hb0, he0⟩ := ro_form h0
  obtain ⟨A1, c1, rfl, hl1, hm1, hb1, he1⟩ := ro_form h1
  refine FJ.enter (N := 32) Try.func75 rfl rfl (by simp) [(0, .slice A0 xs.length c0), (1, .slice A1 ys.length c1), (2, .func (.func f) #[] #[])] (by simp) (l0 := []) trivial ?_
  refine FJ.seq ?_
  refine FJ.region ?_
  refine FJ.q (goes_list rfl) rfl (by decide) rfl (q_assign rfl .c) ?_
  refine FJ.nil ?_
  refine FJ.then_ ?_
  refine FJ.seq ?_
  refine FJ.seq ?_
  refine FJ.region ?_
  refine FJ.q (goes_list rfl) rfl (by decide) rfl (q_move rfl (.t (.s .z))) ?_
  refine FJ.q (goes_list rfl) rfl (by decide) rfl (q_len rfl u_36 (.t .z)) ?_
  refine FJ.q (goes_list rfl) rfl (by decide) rfl (q_move rfl (.t (.s (.s (.s (.s .z)))))) ?_
  refine FJ.q (goes_list rfl) rfl (by decide) rfl (q_len rfl u_36 (.t .z)) ?_
  refine FJ.q (goes_list rfl) rfl (by decide) rfl (q_neq rfl (.t (.s (.s .z))) (.t .z)) ?_
  refine FJ.nil ?_
  refine FJ.then_ ?_
  refine FJ.condN (.t .z) (fun b3 => ?_) (fun b3 => ?_)
  · -- b3: True
    refine FJ.seq ?_
    refine FJ.region ?_
    refine FJ.er (.s (.s (.s (.s (.s .z))))) ?_
    refine FJ.q (goes_list rfl) rfl (by decide) rfl (q_assign rfl .c) ?_
    refine FJ.nil ?_
    refine FJ.then_ ?_
    refine FJ.ret ?_
    refine FJ.thenR ?_
    refine FJ.doneS (res1 rfl .z) .n ?_
    exact ⟨by rw [decide_eq_false (fun h => by subst h; omega)], rfl⟩
  · -- b3: False
    refine FJ.skip ?_
    refine FJ.then_ ?_
    refine FJ.seq ?_
    refine FJ.seq ?_
    refine FJ.region ?_
    refine FJ.q (goes_list rfl) rfl (by decide) rfl (q_move rfl (.t (.s (.s (.s (.s (.s (.s .z)))))))) ?_
    refine FJ.q (goes_list rfl) rfl (by decide) rfl (q_len rfl u_36 (.t .z)) ?_
    refine FJ.q (goes_list rfl) rfl (by decide) rfl (q_move rfl .c) ?_
    refine FJ.nil ?_
    refine FJ.then_ ?_
    refine FJ.block ?_
    refine FJ.loopi (γ := Nat) (fun k => [(17, .int .i64 (k : Int)), (16, .int .i64 (xs.length : Int)), (15, .slice A0 xs.length c0), (1, .slice A1 ys.length c1), (2, .func (.func f) #[] #[])]) (fun k => []) (fun k => k ≤ xs.length ∧ ∀ j, j < k → xs[j]? = ys[j]?) (fun k => xs.length - k) 0 ⟨Nat.zero_le _, all_eq_zero⟩ (.c .z (.c (.s .z) (.c (.s (.s .z)) (.c (.s (.s (.s (.s (.s (.s (.s (.s (.s (.s .z)))))))))) (.c (.s (.s (.s (.s (.s (.s (.s (.s (.s (.s (.s .z))))))))))) .n))))) (fun _ h => h) ?_
    rintro k ⟨hk, hallk⟩
    refine FJ.seq ?_
    refine FJ.region ?_
    refine FJ.q (goes_list rfl) rfl (by decide) rfl (q_lss rfl (.t .z) (.t (.s .z))) ?_
    refine FJ.nil ?_
    refine FJ.then_ ?_
    refine FJ.seq ?_
    refine FJ.condP (.t .z) (fun b4 => ?_) (fun b4 => ?_)
    · -- b4: True
      refine FJ.skip ?_
      refine FJ.then_ ?_
      refine FJ.seq ?_
      refine FJ.block ?_
      refine FJ.seq ?_
      refine FJ.region ?_
      refine FJ.q (goes_list rfl) rfl (by decide) rfl (q_move rfl (.t (.s .z))) ?_
      obtain ⟨ad5, hAad5, hrad5⟩ := he0 (by omega)
      subst hAad5
      obtain ⟨x6, hx6⟩ := get_ex (xs := xs) (j := k) (by omega)
      obtain ⟨ece7, hre7, hFe7, hce7⟩ := hrad5.elem hx6
      obtain ⟨ue7, rfl⟩ := sl_one hre7
      obtain ⟨Ae7, ce7, rfl, hle7, hme7, hbe7, hee7⟩ := ro_form hre7
      refine FJ.q (goes_list rfl) rfl (by decide) rfl (q_indexAddr (j := k) rfl u_36 sz_62 (.t (.s (.s (.s (.s .z))))) (.t (.s (.s .z))) rfl (by omega)) ?_
      refine FJ.q (goes_list rfl) rfl (by decide) rfl (q_load rfl ag_62 (.t .z) (WS.el0 hFe7 hce7 rfl)) ?_
      refine FJ.q (goes_list rfl) rfl (by decide) rfl (q_assign rfl (.t (.s (.s .z)))) ?_
      refine FJ.q (goes_list rfl) rfl (by decide) rfl (q_assign rfl (.t (.s .z))) ?_
      refine FJ.nil ?_
      refine FJ.then_ ?_
      refine FJ.seq ?_
      refine FJ.region ?_
      refine FJ.q (goes_list rfl) rfl (by decide) rfl (q_move rfl (.t (.s (.s (.s (.s (.s (.s (.s (.s (.s .z))))))))))) ?_
      refine FJ.q (goes_list rfl) rfl (by decide) rfl (q_move rfl (.t (.s (.s .z)))) ?_
      obtain ⟨ad9, hAad9, hrad9⟩ := he1 (by omega)
      subst hAad9
      obtain ⟨x10, hx10⟩ := get_ex (xs := ys) (j := k) (by omega)
      obtain ⟨ece11, hre11, hFe11, hce11⟩ := hrad9.elem hx10
      obtain ⟨ue11, rfl⟩ := sl_one hre11
      obtain ⟨Ae11, ce11, rfl, hle11, hme11, hbe11, hee11⟩ := ro_form hre11
      refine FJ.q (goes_list rfl) rfl (by decide) rfl (q_indexAddr (j := k) rfl u_36 sz_62 (.t (.s .z)) (.t .z) rfl (by omega)) ?_
      refine FJ.q (goes_list rfl) rfl (by decide) rfl (q_load rfl ag_62 (.t .z) (WS.el0 hFe11 hce11 rfl)) ?_
      refine FJ.q (goes_list rfl) rfl (by decide) rfl (q_assign rfl (.t .z)) ?_
      refine FJ.nil ?_
      refine FJ.then_ ?_
      refine FJ.seq ?_
      refine FJ.region ?_
      refine FJ.q (goes_list rfl) rfl (by decide) rfl (q_move rfl (.t (.s (.s (.s (.s (.s (.s (.s (.s (.s (.s (.s (.s (.s (.s (.s .z))))))))))))))))) ?_
      refine FJ.q (goes_list rfl) rfl (by decide) rfl (q_move rfl (.t (.s (.s (.s (.s (.s (.s .z)))))))) ?_
      refine FJ.q (goes_list rfl) rfl (by decide) rfl (q_move rfl (.t (.s (.s .z)))) ?_
      refine FJ.call (goes_list rfl) rfl (by decide) rfl (c_callv rfl (.t (.s (.s .z))) hfn hbody hname (args2 (.t (.s .z)) (.t .z))) .n (fun w1 S1 hs tr => hf w1 S1 (tr.ctx hre7) (tr.ctx hre11)) ?_
      rintro _ _ ⟨rfl, rfl⟩
      refine FJ.cat .n ?_
      refine FJ.q (goes_list rfl) rfl (by decide) rfl (q_not rfl (.t .z)) ?_
      refine FJ.nil ?_
      refine FJ.then_ ?_
      refine FJ.condN (.t .z) (fun b13 => ?_) (fun b13 => ?_)
      · -- b13: True
        refine FJ.seq ?_
        refine FJ.region ?_
        refine FJ.q (goes_list rfl) rfl (by decide) rfl (q_assign rfl .c) ?_
        refine FJ.nil ?_
        refine FJ.then_ ?_
        refine FJ.ret ?_
        refine FJ.inBR ?_
        refine FJ.thenR ?_
        refine FJ.thenR ?_
        refine FJ.inBR ?_
        refine FJ.thenR ?_
        refine FJ.doneS (res1 rfl .z) .n ?_
        exact ⟨by rw [decide_eq_false (ne_of_get hx6 hx10 (by assumption))], rfl⟩
      · -- b13: False
        refine FJ.skip ?_
        refine FJ.inBN ?_
        refine FJ.then_ ?_
        refine FJ.region ?_
        refine FJ.q (goes_list rfl) rfl (by decide) rfl (q_add (c := ((k + 1 : Nat) : Int)) rfl (.t (.s (.s (.s (.s (.s (.s (.s (.s (.s (.s (.s (.s (.s (.s (.s (.s .z))))))))))))))))) .c (wr (by omega) (by omega) (by omega))) ?_
        refine FJ.er (.s (.s (.s (.s (.s (.s (.s (.s (.s (.s (.s (.s (.s (.s (.s (.s (.s .z))))))))))))))))) ?_
        refine FJ.q (goes_list rfl) rfl (by decide) rfl (q_move rfl (.t .z)) ?_
        refine FJ.nil ?_
        refine FJ.again (k + 1) ⟨by omega, all_eq_succ hallk hx6 hx10 (by assumption)⟩ (by first | omega | (dsimp only; omega)) (.c .z (.c (.s (.s (.s (.s (.s (.s (.s (.s (.s (.s (.s (.s (.s (.s (.s (.s (.s (.s .z)))))))))))))))))) (.c (.s (.s (.s (.s (.s (.s (.s (.s (.s (.s (.s (.s (.s (.s (.s (.s (.s (.s (.s .z))))))))))))))))))) (.c (.s (.s (.s (.s (.s (.s (.s (.s (.s (.s (.s (.s (.s (.s (.s (.s (.s (.s (.s (.s .z)))))))))))))))))))) (.c (.s (.s (.s (.s (.s (.s (.s (.s (.s (.s (.s (.s (.s (.s (.s (.s (.s (.s (.s (.s (.s .z))))))))))))))))))))) .n))))) (fun _ h => h)
    · -- b4: False
      refine FJ.exit ?_
      refine FJ.thenE ?_
      refine FJ.thenE ?_
      refine FJ.inB ?_
      refine FJ.then_ ?_
      refine FJ.seq ?_
      refine FJ.region ?_
      refine FJ.q (goes_list rfl) rfl (by decide) rfl (q_assign rfl .c) ?_
      refine FJ.nil ?_
      refine FJ.then_ ?_
      refine FJ.ret ?_
      refine FJ.doneS (res1 rfl .z) .n ?_
      exact ⟨by rw [decide_eq_true (eq_of_all (by omega) (by omega) hallk)], rfl⟩

set_option maxHeartbeats 1000000 in
set_option maxRecDepth 20000 in
theorem c_25 {w0 : World} {S0 : Bs} {x : DFs} {cs0 : List Value} (h0 : kT_43.ro w0 (FF w0 S0) x cs0) {y : DFs} {cs1 : List Value} (h1 : kT_43.ro w0 (FF w0 S0) y cs1)  :
    Calls Try.prog 25 #[.agg cs0.toArray, .agg cs1.toArray] w0 (TriPost w0 S0 (fun r l => r = .bool (decide (x = y)) ∧ l = [])) := by
  obtain ⟨u0_0, u0_1, rfl, h0_0, h0_1⟩ := kT_43_ro h0
  obtain ⟨A0_0, c0_0, rfl, hl0_0, hm0_0, hb0_0, he0_0⟩ := ro_form h0_0
  obtain ⟨A0_1, c0_1, rfl, hl0_1, hm0_1, hb0_1, he0_1⟩ := ro_form h0_1
  obtain ⟨u1_0, u1_1, rfl, h1_0, h1_1⟩ := kT_43_ro h1
  obtain ⟨A1_0, c1_0, rfl, hl1_0, hm1_0, hb1_0, he1_0⟩ := ro_form h1_0
  obtain ⟨A1_1, c1_1, rfl, hl1_1, hm1_1, hb1_1, he1_1⟩ := ro_form h1_1
  refine FJ.enter (N := 17) Try.func25 rfl rfl (by simp) [(0, .agg #[.slice A0_0 x.inodes.length c0_0, .slice A0_1 x.data.length c0_1]), (1, .agg #[.slice A1_0 y.inodes.length c1_0, .slice A1_1 y.data.length c1_1])] (by simp) (l0 := []) trivial ?_
  refine FJ.seq ?_
  refine FJ.region ?_
  refine FJ.e (goes_list rfl) rfl (by decide) rfl (e_box (cs := [.slice A0_0 x.inodes.length c0_0, .slice A0_1 x.data.length c0_1]) (n := 2) rfl (.t .z) rfl rfl) ?_
  rintro _ _ ⟨g5, rfl, rfl⟩
  refine FJ.e (goes_list rfl) rfl (by decide) rfl (e_box (cs := [.slice A1_0 y.inodes.length c1_0, .slice A1_1 y.data.length c1_1]) (n := 2) rfl (.t (.s (.s .z))) rfl rfl) ?_
  rintro _ _ ⟨g6, rfl, rfl⟩
  refine FJ.q (goes_list rfl) rfl (by decide) rfl (q_assign rfl .c) ?_
  refine FJ.nil ?_
  refine FJ.then_ ?_
  refine FJ.seq ?_
  refine FJ.region ?_
  refine FJ.q (goes_list rfl) rfl (by decide) rfl (q_fieldAddr rfl (.t (.s (.s .z))) (fun _ => fa_43_0 _ _)) ?_
  refine FJ.q (goes_list rfl) rfl (by decide) rfl (q_load rfl ag_41 (.t .z) (WS.row (.s .z) rfl)) ?_
  refine FJ.q (goes_list rfl) rfl (by decide) rfl (q_fieldAddr rfl (.t (.s (.s (.s .z)))) (fun _ => fa_43_0 _ _)) ?_
  refine FJ.q (goes_list rfl) rfl (by decide) rfl (q_load rfl ag_41 (.t .z) (WS.row .z rfl)) ?_
  refine FJ.call (goes_list rfl) rfl (by decide) rfl (c_call rfl Try.func74 rfl rfl (args3 (.t (.s (.s .z))) (.t .z) .f)) .n (fun w1 S1 hs tr => c_74 (tr.ctx h0_0) (tr.ctx h1_0) Try.func67 rfl rfl (fun w2 S2 x y _ _ h1 h2 => c_67 h1 h2)) ?_
  rintro _ _ ⟨rfl, rfl⟩
  refine FJ.cat .n ?_
  refine FJ.q (goes_list rfl) rfl (by decide) rfl (q_move rfl (.t .z)) ?_
  refine FJ.caseP .z (fun g7 => ?_) (fun g7 => ?_)
  · -- g7: True
    refine FJ.q (goes_listg rfl rfl .z) rfl (by decide) rfl (q_fieldAddr rfl (.t (.s (.s (.s (.s (.s (.s (.s (.s .z))))))))) (fun _ => fa_43_1 _ _)) ?_
    refine FJ.q (goes_listg rfl rfl (.s .z)) rfl (by decide) rfl (q_load rfl ag_36 (.t .z) (WS.row (.s .z) rfl)) ?_
    refine FJ.q (goes_listg rfl rfl (.s (.s .z))) rfl (by decide) rfl (q_fieldAddr rfl (.t (.s (.s (.s (.s (.s (.s (.s (.s (.s .z)))))))))) (fun _ => fa_43_1 _ _)) ?_
    refine FJ.q (goes_listg rfl rfl (.s (.s (.s .z)))) rfl (by decide) rfl (q_load rfl ag_36 (.t .z) (WS.row .z rfl)) ?_
    refine FJ.call (goes_listg rfl rfl (.s (.s (.s (.s .z))))) rfl (by decide) rfl (c_call rfl Try.func75 rfl rfl (args3 (.t (.s (.s .z))) (.t .z) .f)) .n (fun w1 S1 hs tr => c_75 (tr.ctx h0_1) (tr.ctx h1_1) Try.func76 rfl rfl (fun w2 S2 x y _ _ h1 h2 => c_76 h1 h2)) ?_
    rintro _ _ ⟨rfl, rfl⟩
    refine FJ.cat .n ?_
    refine FJ.q (goes_list rfl) rfl (by decide) rfl (q_pickT rfl (.t (.s (.s (.s (.s (.s .z)))))) (.t .z)) ?_
    refine FJ.er (.s (.s (.s (.s (.s (.s (.s (.s (.s (.s (.s (.s .z)))))))))))) ?_
    refine FJ.q (goes_list rfl) rfl (by decide) rfl (q_assign rfl (.t .z)) ?_
    refine FJ.nil ?_
    refine FJ.then_ ?_
    refine FJ.ret ?_
    refine FJ.doneS (res1 rfl .z) .n ?_
    exact ⟨congrArg Value.bool (by cases x; cases y; simp_all), rfl⟩
  · -- g7: False
    refine FJ.skipl rfl rfl .z rfl rfl (by decide) rfl ?_
    refine FJ.skipl rfl rfl (.s .z) rfl rfl (by decide) rfl ?_
    refine FJ.skipl rfl rfl (.s (.s .z)) rfl rfl (by decide) rfl ?_
    refine FJ.skipl rfl rfl (.s (.s (.s .z))) rfl rfl (by decide) rfl ?_
    refine FJ.skipl rfl rfl (.s (.s (.s (.s .z)))) rfl rfl (by decide) rfl ?_
    refine FJ.q (goes_list rfl) rfl (by decide) rfl (q_pickF rfl (.t (.s (.s (.s (.s (.s .z)))))) .c) ?_
    refine FJ.er (.s (.s (.s (.s (.s (.s (.s (.s (.s (.s (.s (.s .z)))))))))))) ?_
    refine FJ.q (goes_list rfl) rfl (by decide) rfl (q_assign rfl (.t .z)) ?_
    refine FJ.nil ?_
    refine FJ.then_ ?_
    refine FJ.ret ?_
    refine FJ.doneS (res1 rfl .z) .n ?_
    exact ⟨congrArg Value.bool (by cases x; cases y; simp_all), rfl⟩

set_option maxHeartbeats 1000000 in
set_option maxRecDepth 20000 in
theorem c_72 {w0 : World} {S0 : Bs} {x : DFs} {ad0 : Addr} (h0 : PtrRo kT_43 w0 (FF w0 S0) ad0 x) {y : DFs} {ad1 : Addr} (h1 : PtrRo kT_43 w0 (FF w0 S0) ad1 y)  :
    Calls Try.prog 72 #[.pointer (some ad0), .pointer (some ad1)] w0 (TriPost w0 S0 (fun r l => r = .bool (decide (x = y)) ∧ l = [])) := by
  obtain ⟨ec0, hF0, hr0, hc0⟩ := id h0
  obtain ⟨u0_0, u0_1, rfl, h0_0, h0_1⟩ := kT_43_ro hr0
  obtain ⟨A0_0, c0_0, rfl, hl0_0, hm0_0, hb0_0, he0_0⟩ := ro_form h0_0
  obtain ⟨A0_1, c0_1, rfl, hl0_1, hm0_1, hb0_1, he0_1⟩ := ro_form h0_1
  obtain ⟨ec1, hF1, hr1, hc1⟩ := id h1
  obtain ⟨u1_0, u1_1, rfl, h1_0, h1_1⟩ := kT_43_ro hr1
  obtain ⟨A1_0, c1_0, rfl, hl1_0, hm1_0, hb1_0, he1_0⟩ := ro_form h1_0
  obtain ⟨A1_1, c1_1, rfl, hl1_1, hm1_1, hb1_1, he1_1⟩ := ro_form h1_1
  refine FJ.enter (N := 80) Try.func72 rfl rfl (by simp) [(0, .pointer (some ad0)), (1, .pointer (some ad1))] (by simp) (l0 := []) trivial ?_
  refine FJ.seq ?_
  refine FJ.region ?_
  refine FJ.q (goes_list rfl) rfl (by decide) rfl (q_assign rfl .c) ?_
  refine FJ.nil ?_
  refine FJ.then_ ?_
  refine FJ.seq ?_
  refine FJ.seq ?_
  refine FJ.draw [] 24 (by kernel_rfl) ?_
  refine FJ.sch [(0, true), (1, true), (2, true), (3, true), (4, true), (5, true), (6, true), (7, true), (8, true), (9, true), (10, true), (11, true)] 12 #[true, true, true, true, true, true, true, true, true, true, true, true, false, false, false, false, false, false, false, false, false, false, false, false] (by rfl) (by kernel_rfl) ?_
  refine FJ.dq rfl rfl rfl (by decide) rfl .z (q_move rfl (.t (.s .z))) ?_
  refine FJ.dq rfl rfl rfl (by decide) rfl .z (q_nilCheck rfl (.t .z)) ?_
  refine FJ.dq rfl rfl rfl (by decide) rfl .z (q_fieldAddr rfl (.t .z) (fun _ => fa_43_0 _ _)) ?_
  refine FJ.dq rfl rfl rfl (by decide) rfl .z (q_load rfl ag_41 (.t .z) (WS.el hF0 hc0 rfl)) ?_
  refine FJ.dq rfl rfl rfl (by decide) rfl .z (q_len rfl u_41 (.t .z)) ?_
  refine FJ.dq rfl rfl rfl (by decide) rfl .z (q_move rfl (.t (.s (.s (.s (.s (.s (.s (.s .z))))))))) ?_
  refine FJ.dq rfl rfl rfl (by decide) rfl .z (q_nilCheck rfl (.t .z)) ?_
  refine FJ.dq rfl rfl rfl (by decide) rfl .z (q_fieldAddr rfl (.t .z) (fun _ => fa_43_0 _ _)) ?_
  refine FJ.dq rfl rfl rfl (by decide) rfl .z (q_load rfl ag_41 (.t .z) (WS.el hF1 hc1 rfl)) ?_
  refine FJ.dq rfl rfl rfl (by decide) rfl .z (q_len rfl u_41 (.t .z)) ?_
  refine FJ.dq rfl rfl rfl (by decide) rfl .z (q_neq rfl (.t (.s (.s (.s (.s (.s .z)))))) (.t .z)) ?_
  refine FJ.dq rfl rfl rfl (by decide) rfl .z (q_move rfl (.t .z)) ?_
  refine FJ.schN ?_
  refine FJ.caseN .z (fun g5 => ?_) (fun g5 => ?_)
  · -- g5: True
    refine FJ.sch [(12, true), (13, true), (14, true), (15, true), (16, true), (17, true), (18, true), (19, true), (20, true), (21, true), (22, true), (23, true)] 0 #[true, true, true, true, true, true, true, true, true, true, true, true, true, true, true, true, true, true, true, true, true, true, true, true] (by rfl) (by kernel_rfl) ?_
    refine FJ.dskip rfl rfl rfl .z rfl rfl (by decide) rfl .z ?_
    refine FJ.dskip rfl rfl rfl (.s .z) rfl rfl (by decide) rfl .z ?_
    refine FJ.dskip rfl rfl rfl (.s (.s .z)) rfl rfl (by decide) rfl .z ?_
    refine FJ.dskip rfl rfl rfl (.s (.s (.s .z))) rfl rfl (by decide) rfl .z ?_
    refine FJ.dskip rfl rfl rfl (.s (.s (.s (.s .z)))) rfl rfl (by decide) rfl .z ?_
    refine FJ.dskip rfl rfl rfl (.s (.s (.s (.s (.s .z))))) rfl rfl (by decide) rfl .z ?_
    refine FJ.dskip rfl rfl rfl (.s (.s (.s (.s (.s (.s .z)))))) rfl rfl (by decide) rfl .z ?_
    refine FJ.dskip rfl rfl rfl (.s (.s (.s (.s (.s (.s (.s .z))))))) rfl rfl (by decide) rfl .z ?_
    refine FJ.dskip rfl rfl rfl (.s (.s (.s (.s (.s (.s (.s (.s .z)))))))) rfl rfl (by decide) rfl .z ?_
    refine FJ.dskip rfl rfl rfl (.s (.s (.s (.s (.s (.s (.s (.s (.s .z))))))))) rfl rfl (by decide) rfl .z ?_
    refine FJ.dskip rfl rfl rfl (.s (.s (.s (.s (.s (.s (.s (.s (.s (.s .z)))))))))) rfl rfl (by decide) rfl .z ?_
    refine FJ.dq rfl rfl rfl (by decide) rfl .z (q_pickT rfl (.t (.s (.s (.s (.s (.s (.s (.s (.s (.s (.s (.s .z)))))))))))) .c) ?_
    refine FJ.schN ?_
    refine FJ.drawN (by kernel_rfl) ?_
    refine FJ.then_ ?_
    refine FJ.condT (.t .z) ?_
    refine FJ.seq ?_
    refine FJ.region ?_
    refine FJ.er (.s (.s (.s (.s (.s (.s (.s (.s (.s (.s (.s (.s (.s (.s (.s (.s (.s (.s (.s (.s (.s (.s (.s (.s .z)))))))))))))))))))))))) ?_
    refine FJ.q (goes_list rfl) rfl (by decide) rfl (q_assign rfl .c) ?_
    refine FJ.nil ?_
    refine FJ.then_ ?_
    refine FJ.ret ?_
    refine FJ.thenR ?_
    refine FJ.doneS (res1 rfl .z) .n ?_
    exact ⟨by rw [decide_eq_false]; intro e; first | fail | (subst e; omega), rfl⟩
  · -- g5: False
    refine FJ.sch [(12, true), (13, true), (14, true), (15, true), (16, true), (17, true), (18, true), (19, true), (20, true), (21, true), (22, true), (23, true)] 0 #[true, true, true, true, true, true, true, true, true, true, true, true, true, true, true, true, true, true, true, true, true, true, true, true] (by rfl) (by kernel_rfl) ?_
    refine FJ.dqg rfl rfl rfl .z rfl (by decide) rfl .z (q_move rfl (.t (.s (.s (.s (.s (.s (.s (.s (.s (.s (.s (.s (.s (.s .z))))))))))))))) ?_
    refine FJ.dqg rfl rfl rfl (.s .z) rfl (by decide) rfl .z (q_nilCheck rfl (.t .z)) ?_
    refine FJ.dqg rfl rfl rfl (.s (.s .z)) rfl (by decide) rfl .z (q_fieldAddr rfl (.t .z) (fun _ => fa_43_1 _ _)) ?_
    refine FJ.dqg rfl rfl rfl (.s (.s (.s .z))) rfl (by decide) rfl .z (q_load rfl ag_36 (.t .z) (WS.el hF0 hc0 rfl)) ?_
    refine FJ.dqg rfl rfl rfl (.s (.s (.s (.s .z)))) rfl (by decide) rfl .z (q_len rfl u_36 (.t .z)) ?_
    refine FJ.dqg rfl rfl rfl (.s (.s (.s (.s (.s .z))))) rfl (by decide) rfl .z (q_move rfl (.t (.s (.s (.s (.s (.s (.s (.s (.s (.s (.s (.s (.s (.s (.s (.s (.s (.s (.s (.s .z))))))))))))))))))))) ?_
    refine FJ.dqg rfl rfl rfl (.s (.s (.s (.s (.s (.s .z)))))) rfl (by decide) rfl .z (q_nilCheck rfl (.t .z)) ?_
    refine FJ.dqg rfl rfl rfl (.s (.s (.s (.s (.s (.s (.s .z))))))) rfl (by decide) rfl .z (q_fieldAddr rfl (.t .z) (fun _ => fa_43_1 _ _)) ?_
    refine FJ.dqg rfl rfl rfl (.s (.s (.s (.s (.s (.s (.s (.s .z)))))))) rfl (by decide) rfl .z (q_load rfl ag_36 (.t .z) (WS.el hF1 hc1 rfl)) ?_
    refine FJ.dqg rfl rfl rfl (.s (.s (.s (.s (.s (.s (.s (.s (.s .z))))))))) rfl (by decide) rfl .z (q_len rfl u_36 (.t .z)) ?_
    refine FJ.dqg rfl rfl rfl (.s (.s (.s (.s (.s (.s (.s (.s (.s (.s .z)))))))))) rfl (by decide) rfl .z (q_neq rfl (.t (.s (.s (.s (.s (.s .z)))))) (.t .z)) ?_
    refine FJ.dq rfl rfl rfl (by decide) rfl .z (q_pickF rfl (.t (.s (.s (.s (.s (.s (.s (.s (.s (.s (.s (.s .z)))))))))))) (.t .z)) ?_
    refine FJ.schN ?_
    refine FJ.drawN (by kernel_rfl) ?_
    refine FJ.then_ ?_
    refine FJ.condN (.t .z) (fun b6 => ?_) (fun b6 => ?_)
    · -- b6: True
      refine FJ.seq ?_
      refine FJ.region ?_
      refine FJ.er (.s (.s (.s (.s (.s (.s (.s (.s (.s (.s (.s (.s (.s (.s (.s (.s (.s (.s (.s (.s (.s (.s (.s (.s .z)))))))))))))))))))))))) ?_
      refine FJ.q (goes_list rfl) rfl (by decide) rfl (q_assign rfl .c) ?_
      refine FJ.nil ?_
      refine FJ.then_ ?_
      refine FJ.ret ?_
      refine FJ.thenR ?_
      refine FJ.doneS (res1 rfl .z) .n ?_
      exact ⟨by rw [decide_eq_false]; intro e; first | fail | (subst e; omega), rfl⟩
    · -- b6: False
      refine FJ.skip ?_
      refine FJ.then_ ?_
      refine FJ.seq ?_
      refine FJ.seq ?_
      refine FJ.region ?_
      refine FJ.q (goes_list rfl) rfl (by decide) rfl (q_assign rfl .c) ?_
      refine FJ.nil ?_
      refine FJ.then_ ?_
      refine FJ.block ?_
      refine FJ.loopi (γ := Nat) (fun k => [(5, .int .i64 (k : Int)), (0, .pointer (some ad0)), (1, .pointer (some ad1))]) (fun k => []) (fun k => k ≤ x.inodes.length ∧ ∀ j, j < k → x.inodes[j]? = y.inodes[j]?) (fun k => x.inodes.length - k) 0 ⟨Nat.zero_le _, all_eq_zero⟩ (.c .z (.c (.s (.s (.s (.s (.s (.s (.s (.s (.s (.s (.s (.s (.s (.s (.s (.s (.s (.s (.s (.s (.s (.s (.s (.s (.s (.s .z)))))))))))))))))))))))))) (.c (.s (.s (.s (.s (.s (.s (.s (.s (.s (.s (.s (.s (.s (.s (.s (.s (.s (.s (.s (.s (.s (.s (.s (.s (.s (.s (.s .z))))))))))))))))))))))))))) .n))) (fun _ h => h) ?_
      rintro k ⟨hk, hallk⟩
      refine FJ.seq ?_
      refine FJ.seq ?_
      refine FJ.region ?_
      refine FJ.q (goes_list rfl) rfl (by decide) rfl (q_move rfl (.t .z)) ?_
      refine FJ.q (goes_list rfl) rfl (by decide) rfl (q_move rfl (.t (.s (.s .z)))) ?_
      refine FJ.q (goes_list rfl) rfl (by decide) rfl (q_nilCheck rfl (.t .z)) ?_
      refine FJ.q (goes_list rfl) rfl (by decide) rfl (q_fieldAddr rfl (.t .z) (fun _ => fa_43_0 _ _)) ?_
      refine FJ.q (goes_list rfl) rfl (by decide) rfl (q_load rfl ag_41 (.t .z) (WS.el hF0 hc0 rfl)) ?_
      refine FJ.q (goes_list rfl) rfl (by decide) rfl (q_len rfl u_41 (.t .z)) ?_
      refine FJ.q (goes_list rfl) rfl (by decide) rfl (q_lss rfl (.t (.s (.s (.s (.s (.s .z)))))) (.t .z)) ?_
      refine FJ.nil ?_
      refine FJ.then_ ?_
      refine FJ.condP (.t .z) (fun b7 => ?_) (fun b7 => ?_)
      · -- b7: True
        refine FJ.skip ?_
        refine FJ.then_ ?_
        refine FJ.seq ?_
        refine FJ.block ?_
        refine FJ.seq ?_
        refine FJ.draw [] 14 (by kernel_rfl) ?_
        refine FJ.sch [(0, true), (1, true), (2, true), (3, true), (4, true), (5, true), (6, true), (7, true), (8, true), (9, true), (10, true), (11, true), (12, false), (13, true)] 0 #[true, true, true, true, true, true, true, true, true, true, true, true, true, true] (by rfl) (by kernel_rfl) ?_
        refine FJ.dq rfl rfl rfl (by decide) rfl .z (q_move rfl (.t (.s (.s (.s (.s (.s (.s (.s (.s .z)))))))))) ?_
        refine FJ.dq rfl rfl rfl (by decide) rfl .z (q_nilCheck rfl (.t .z)) ?_
        refine FJ.dq rfl rfl rfl (by decide) rfl .z (q_fieldAddr rfl (.t .z) (fun _ => fa_43_0 _ _)) ?_
        refine FJ.dq rfl rfl rfl (by decide) rfl .z (q_load rfl ag_41 (.t .z) (WS.el hF0 hc0 rfl)) ?_
        refine FJ.dq rfl rfl rfl (by decide) rfl .z (q_move rfl (.t (.s (.s (.s (.s (.s (.s (.s (.s (.s (.s (.s .z))))))))))))) ?_
        obtain ⟨ad8, hAad8, hrad8⟩ := he0_0 (by omega)
        subst hAad8
        obtain ⟨x9, hx9⟩ := get_ex (xs := x.inodes) (j := k) (by omega)
        obtain ⟨ece10, hre10, hFe10, hce10⟩ := hrad8.elem hx9
        obtain ⟨ue10_3, ue10_4, rfl, he10_3, he10_4⟩ := kT_30_ro hre10
        obtain ⟨Ae10_3, ce10_3, rfl, hle10_3, hme10_3, hbe10_3, hee10_3⟩ := ro_form he10_3
        obtain ⟨Ae10_4, ce10_4, rfl, hle10_4, hme10_4, hbe10_4, hee10_4⟩ := ro_form he10_4
        refine FJ.dq rfl rfl rfl (by decide) rfl .z (q_indexAddr (j := k) rfl u_41 sz_30 (.t (.s .z)) (.t .z) rfl (by omega)) ?_
        refine FJ.dq rfl rfl rfl (by decide) rfl .z (q_move rfl (.t (.s (.s (.s (.s (.s (.s (.s (.s (.s (.s (.s (.s (.s (.s (.s .z))))))))))))))))) ?_
        refine FJ.dq rfl rfl rfl (by decide) rfl .z (q_nilCheck rfl (.t .z)) ?_
        refine FJ.dq rfl rfl rfl (by decide) rfl .z (q_fieldAddr rfl (.t .z) (fun _ => fa_43_0 _ _)) ?_
        refine FJ.dq rfl rfl rfl (by decide) rfl .z (q_load rfl ag_41 (.t .z) (WS.el hF1 hc1 rfl)) ?_
        refine FJ.dq rfl rfl rfl (by decide) rfl .z (q_move rfl (.t (.s (.s (.s (.s (.s (.s (.s (.s (.s (.s (.s (.s (.s (.s (.s (.s (.s .z))))))))))))))))))) ?_
        obtain ⟨ad13, hAad13, hrad13⟩ := he1_0 (by omega)
        subst hAad13
        obtain ⟨x14, hx14⟩ := get_ex (xs := y.inodes) (j := k) (by omega)
        obtain ⟨ece15, hre15, hFe15, hce15⟩ := hrad13.elem hx14
        obtain ⟨ue15_3, ue15_4, rfl, he15_3, he15_4⟩ := kT_30_ro hre15
        obtain ⟨Ae15_3, ce15_3, rfl, hle15_3, hme15_3, hbe15_3, hee15_3⟩ := ro_form he15_3
        obtain ⟨Ae15_4, ce15_4, rfl, hle15_4, hme15_4, hbe15_4, hee15_4⟩ := ro_form he15_4
        refine FJ.dq rfl rfl rfl (by decide) rfl .z (q_indexAddr (j := k) rfl u_41 sz_30 (.t (.s .z)) (.t .z) rfl (by omega)) ?_
        refine FJ.call (goes_sch rfl rfl) rfl (by decide) rfl (c_call rfl Try.func65 rfl rfl (args2 (.t (.s (.s (.s (.s (.s (.s .z))))))) (.t .z))) .n (fun w1 S1 hs tr => c_65 (tr.el hFe10 hre10 hce10) (tr.el hFe15 hre15 hce15)) ?_
        rintro _ _ ⟨rfl, rfl⟩
        refine FJ.cat .n ?_
        refine FJ.sk .z ?_
        refine FJ.dq rfl rfl rfl (by decide) rfl .z (q_not rfl (.t .z)) ?_
        refine FJ.schN ?_
        refine FJ.drawN (by kernel_rfl) ?_
        refine FJ.then_ ?_
        refine FJ.condN (.t .z) (fun b18 => ?_) (fun b18 => ?_)
        · -- b18: True
          refine FJ.seq ?_
          refine FJ.region ?_
          refine FJ.q (goes_list rfl) rfl (by decide) rfl (q_assign rfl .c) ?_
          refine FJ.nil ?_
          refine FJ.then_ ?_
          refine FJ.ret ?_
          refine FJ.inBR ?_
          refine FJ.thenR ?_
          refine FJ.thenR ?_
          refine FJ.inBR ?_
          refine FJ.thenR ?_
          refine FJ.doneS (res1 rfl .z) .n ?_
          exact ⟨by rw [decide_eq_false]; intro e; first | exact ne_of_get hx9 hx14 (by assumption) (congrArg DFs.inodes e) | fail | (subst e; omega), rfl⟩
        · -- b18: False
          refine FJ.skip ?_
          refine FJ.inBN ?_
          refine FJ.then_ ?_
          refine FJ.region ?_
          refine FJ.q (goes_list rfl) rfl (by decide) rfl (q_move rfl (.t (.s (.s (.s (.s (.s (.s (.s (.s (.s (.s (.s (.s (.s (.s (.s (.s (.s (.s (.s (.s (.s .z))))))))))))))))))))))) ?_
          refine FJ.q (goes_list rfl) rfl (by decide) rfl (q_add (c := ((k + 1 : Nat) : Int)) rfl (.t .z) .c (wr (by omega) (by omega) (by omega))) ?_
          refine FJ.er (.s (.s (.s (.s (.s (.s (.s (.s (.s (.s (.s (.s (.s (.s (.s (.s (.s (.s (.s (.s (.s (.s (.s .z))))))))))))))))))))))) ?_
          refine FJ.q (goes_list rfl) rfl (by decide) rfl (q_assign rfl (.t .z)) ?_
          refine FJ.nil ?_
          refine FJ.again (k + 1) ⟨by omega, all_eq_succ hallk hx9 hx14 (by assumption)⟩ (by first | omega | (dsimp only; omega)) (.c .z (.c (.s (.s (.s (.s (.s (.s (.s (.s (.s (.s (.s (.s (.s (.s (.s (.s (.s (.s (.s (.s (.s (.s (.s (.s .z)))))))))))))))))))))))) (.c (.s (.s (.s (.s (.s (.s (.s (.s (.s (.s (.s (.s (.s (.s (.s (.s (.s (.s (.s (.s (.s (.s (.s (.s (.s .z))))))))))))))))))))))))) .n))) (fun _ h => h)
      · -- b7: False
        refine FJ.exit ?_
        refine FJ.thenE ?_
        refine FJ.thenE ?_
        refine FJ.inB ?_
        refine FJ.then_ ?_
        refine FJ.seq ?_
        refine FJ.seq ?_
        refine FJ.region ?_
        refine FJ.q (goes_list rfl) rfl (by decide) rfl (q_assign rfl .c) ?_
        refine FJ.nil ?_
        refine FJ.then_ ?_
        refine FJ.block ?_
        refine FJ.loopi (γ := Nat) (fun q => [(6, .int .i64 (q : Int)), (0, .pointer (some ad0)), (1, .pointer (some ad1))]) (fun q => []) (fun q => q ≤ x.data.length ∧ ∀ j, j < q → x.data[j]? = y.data[j]?) (fun q => x.data.length - q) 0 ⟨Nat.zero_le _, all_eq_zero⟩ (.c .z (.c (.s (.s (.s (.s (.s (.s (.s (.s (.s .z))))))))) (.c (.s (.s (.s (.s (.s (.s (.s (.s (.s (.s .z)))))))))) .n))) (fun _ h => h) ?_
        rintro q ⟨hq, hallq⟩
        refine FJ.seq ?_
        refine FJ.seq ?_
        refine FJ.region ?_
        refine FJ.q (goes_list rfl) rfl (by decide) rfl (q_move rfl (.t .z)) ?_
        refine FJ.q (goes_list rfl) rfl (by decide) rfl (q_move rfl (.t (.s (.s .z)))) ?_
        refine FJ.q (goes_list rfl) rfl (by decide) rfl (q_nilCheck rfl (.t .z)) ?_
        refine FJ.q (goes_list rfl) rfl (by decide) rfl (q_fieldAddr rfl (.t .z) (fun _ => fa_43_1 _ _)) ?_
        refine FJ.q (goes_list rfl) rfl (by decide) rfl (q_load rfl ag_36 (.t .z) (WS.el hF0 hc0 rfl)) ?_
        refine FJ.q (goes_list rfl) rfl (by decide) rfl (q_len rfl u_36 (.t .z)) ?_
        refine FJ.q (goes_list rfl) rfl (by decide) rfl (q_lss rfl (.t (.s (.s (.s (.s (.s .z)))))) (.t .z)) ?_
        refine FJ.nil ?_
        refine FJ.then_ ?_
        refine FJ.condP (.t .z) (fun b19 => ?_) (fun b19 => ?_)
        · -- b19: True
          refine FJ.skip ?_
          refine FJ.then_ ?_
          refine FJ.seq ?_
          refine FJ.block ?_
          refine FJ.seq ?_
          refine FJ.draw [] 17 (by kernel_rfl) ?_
          refine FJ.sch [(0, true), (1, true), (2, true), (3, true), (4, true), (5, true), (6, true), (7, true), (8, true), (9, true), (10, true), (11, true), (12, true), (13, true), (14, true), (15, true), (16, true)] 0 #[true, true, true, true, true, true, true, true, true, true, true, true, true, true, true, true, true] (by rfl) (by kernel_rfl) ?_
          refine FJ.dq rfl rfl rfl (by decide) rfl .z (q_move rfl (.t (.s (.s (.s (.s (.s (.s (.s (.s .z)))))))))) ?_
          refine FJ.dq rfl rfl rfl (by decide) rfl .z (q_nilCheck rfl (.t .z)) ?_
          refine FJ.dq rfl rfl rfl (by decide) rfl .z (q_fieldAddr rfl (.t .z) (fun _ => fa_43_1 _ _)) ?_
          refine FJ.dq rfl rfl rfl (by decide) rfl .z (q_load rfl ag_36 (.t .z) (WS.el hF0 hc0 rfl)) ?_
          refine FJ.dq rfl rfl rfl (by decide) rfl .z (q_move rfl (.t (.s (.s (.s (.s (.s (.s (.s (.s (.s (.s (.s .z))))))))))))) ?_
          obtain ⟨ad20, hAad20, hrad20⟩ := he0_1 (by omega)
          subst hAad20
          obtain ⟨x21, hx21⟩ := get_ex (xs := x.data) (j := q) (by omega)
          obtain ⟨ece22, hre22, hFe22, hce22⟩ := hrad20.elem hx21
          obtain ⟨ue22, rfl⟩ := sl_one hre22
          obtain ⟨Ae22, ce22, rfl, hle22, hme22, hbe22, hee22⟩ := ro_form hre22
          refine FJ.dq rfl rfl rfl (by decide) rfl .z (q_indexAddr (j := q) rfl u_36 sz_62 (.t (.s .z)) (.t .z) rfl (by omega)) ?_
          refine FJ.dq rfl rfl rfl (by decide) rfl .z (q_load rfl ag_62 (.t .z) (WS.el0 hFe22 hce22 rfl)) ?_
          refine FJ.dq rfl rfl rfl (by decide) rfl .z (q_convBS (xs := x21) rfl u_62 u_5 u_9 (.t .z) (WS.roctx hre22)) ?_
          refine FJ.dq rfl rfl rfl (by decide) rfl .z (q_move rfl (.t (.s (.s (.s (.s (.s (.s (.s (.s (.s (.s (.s (.s (.s (.s (.s (.s (.s .z))))))))))))))))))) ?_
          refine FJ.dq rfl rfl rfl (by decide) rfl .z (q_nilCheck rfl (.t .z)) ?_
          refine FJ.dq rfl rfl rfl (by decide) rfl .z (q_fieldAddr rfl (.t .z) (fun _ => fa_43_1 _ _)) ?_
          refine FJ.dq rfl rfl rfl (by decide) rfl .z (q_load rfl ag_36 (.t .z) (WS.el hF1 hc1 rfl)) ?_
          refine FJ.dq rfl rfl rfl (by decide) rfl .z (q_move rfl (.t (.s (.s (.s (.s (.s (.s (.s (.s (.s (.s (.s (.s (.s (.s (.s (.s (.s (.s (.s .z))))))))))))))))))))) ?_
          obtain ⟨ad24, hAad24, hrad24⟩ := he1_1 (by omega)
          subst hAad24
          obtain ⟨x25, hx25⟩ := get_ex (xs := y.data) (j := q) (by omega)
          obtain ⟨ece26, hre26, hFe26, hce26⟩ := hrad24.elem hx25
          obtain ⟨ue26, rfl⟩ := sl_one hre26
          obtain ⟨Ae26, ce26, rfl, hle26, hme26, hbe26, hee26⟩ := ro_form hre26
          refine FJ.dq rfl rfl rfl (by decide) rfl .z (q_indexAddr (j := q) rfl u_36 sz_62 (.t (.s .z)) (.t .z) rfl (by omega)) ?_
          refine FJ.dq rfl rfl rfl (by decide) rfl .z (q_load rfl ag_62 (.t .z) (WS.el0 hFe26 hce26 rfl)) ?_
          refine FJ.dq rfl rfl rfl (by decide) rfl .z (q_convBS (xs := x25) rfl u_62 u_5 u_9 (.t .z) (WS.roctx hre26)) ?_
          refine FJ.dq rfl rfl rfl (by decide) rfl .z (q_sneq rfl (.t (.s (.s (.s (.s (.s (.s (.s (.s .z))))))))) (.t .z)) ?_
          refine FJ.schN ?_
          refine FJ.drawN (by kernel_rfl) ?_
          refine FJ.then_ ?_
          refine FJ.condN (.t .z) (fun b28 => ?_) (fun b28 => ?_)
          · -- b28: True
            refine FJ.seq ?_
            refine FJ.region ?_
            refine FJ.q (goes_list rfl) rfl (by decide) rfl (q_assign rfl .c) ?_
            refine FJ.nil ?_
            refine FJ.then_ ?_
            refine FJ.ret ?_
            refine FJ.inBR ?_
            refine FJ.thenR ?_
            refine FJ.thenR ?_
            refine FJ.inBR ?_
            refine FJ.thenR ?_
            refine FJ.doneS (res1 rfl .z) .n ?_
            exact ⟨by rw [decide_eq_false]; intro e; first | exact ne_of_get hx21 hx25 (fun e2 => (by assumption : ¬ bstr _ = bstr _) (congrArg bstr e2)) (congrArg DFs.data e) | fail | (subst e; omega), rfl⟩
          · -- b28: False
            refine FJ.skip ?_
            refine FJ.inBN ?_
            refine FJ.then_ ?_
            refine FJ.region ?_
            refine FJ.q (goes_list rfl) rfl (by decide) rfl (q_move rfl (.t (.s (.s (.s (.s (.s (.s (.s (.s (.s (.s (.s (.s (.s (.s (.s (.s (.s (.s (.s (.s (.s (.s (.s (.s .z)))))))))))))))))))))))))) ?_
            refine FJ.q (goes_list rfl) rfl (by decide) rfl (q_add (c := ((q + 1 : Nat) : Int)) rfl (.t .z) .c (wr (by omega) (by omega) (by omega))) ?_
            refine FJ.er (.s (.s (.s (.s (.s (.s (.s (.s (.s (.s (.s (.s (.s (.s (.s (.s (.s (.s (.s (.s (.s (.s (.s (.s (.s (.s .z)))))))))))))))))))))))))) ?_
            refine FJ.q (goes_list rfl) rfl (by decide) rfl (q_assign rfl (.t .z)) ?_
            refine FJ.nil ?_
            refine FJ.again (q + 1) ⟨by omega, all_eq_succ hallq hx21 hx25 (bstr_inj.1 (by assumption))⟩ (by first | omega | (dsimp only; omega)) (.c .z (.c (.s (.s (.s (.s (.s (.s (.s (.s (.s (.s (.s (.s (.s (.s (.s (.s (.s (.s (.s (.s (.s (.s (.s (.s (.s (.s (.s .z))))))))))))))))))))))))))) (.c (.s (.s (.s (.s (.s (.s (.s (.s (.s (.s (.s (.s (.s (.s (.s (.s (.s (.s (.s (.s (.s (.s (.s (.s (.s (.s (.s (.s .z)))))))))))))))))))))))))))) .n))) (fun _ h => h)
        · -- b19: False
          refine FJ.exit ?_
          refine FJ.thenE ?_
          refine FJ.thenE ?_
          refine FJ.inB ?_
          refine FJ.then_ ?_
          refine FJ.seq ?_
          refine FJ.region ?_
          refine FJ.q (goes_list rfl) rfl (by decide) rfl (q_assign rfl .c) ?_
          refine FJ.nil ?_
          refine FJ.then_ ?_
          refine FJ.ret ?_
          refine FJ.doneS (res1 rfl .z) .n ?_
          exact ⟨by rw [decide_eq_true]; have he := eq_of_all (by omega) (by omega) hallk; have he2 := eq_of_all (by omega) (by omega) hallq; cases x; cases y; simp_all, rfl⟩

set_option maxHeartbeats 1000000 in
set_option maxRecDepth 20000 in
theorem c_23 {w0 : World} {S0 : Bs} {x : DFs} {cs0 : List Value} (h0 : kT_43.ro w0 (FF w0 S0) x cs0) {y : DFs} {cs1 : List Value} (h1 : kT_43.ro w0 (FF w0 S0) y cs1)  :
    Calls Try.prog 23 #[.agg cs0.toArray, .agg cs1.toArray] w0 (TriPost w0 S0 (fun r l => r = .bool (decide (x = y)) ∧ l = [])) := by
  obtain ⟨u0_0, u0_1, rfl, h0_0, h0_1⟩ := kT_43_ro h0
  obtain ⟨A0_0, c0_0, rfl, hl0_0, hm0_0, hb0_0, he0_0⟩ := ro_form h0_0
  obtain ⟨A0_1, c0_1, rfl, hl0_1, hm0_1, hb0_1, he0_1⟩ := ro_form h0_1
  obtain ⟨u1_0, u1_1, rfl, h1_0, h1_1⟩ := kT_43_ro h1
  obtain ⟨A1_0, c1_0, rfl, hl1_0, hm1_0, hb1_0, he1_0⟩ := ro_form h1_0
  obtain ⟨A1_1, c1_1, rfl, hl1_1, hm1_1, hb1_1, he1_1⟩ := ro_form h1_1
  refine FJ.enter (N := 6) Try.func23 rfl rfl (by simp) [(0, .agg #[.slice A0_0 x.inodes.length c0_0, .slice A0_1 x.data.length c0_1]), (1, .agg #[.slice A1_0 y.inodes.length c1_0, .slice A1_1 y.data.length c1_1])] (by simp) (l0 := []) trivial ?_
  refine FJ.seq ?_
  refine FJ.region ?_
  refine FJ.e (goes_list rfl) rfl (by decide) rfl (e_box (cs := [.slice A0_0 x.inodes.length c0_0, .slice A0_1 x.data.length c0_1]) (n := 2) rfl (.t .z) rfl rfl) ?_
  rintro _ _ ⟨g5, rfl, rfl⟩
  refine FJ.e (goes_list rfl) rfl (by decide) rfl (e_box (cs := [.slice A1_0 y.inodes.length c1_0, .slice A1_1 y.data.length c1_1]) (n := 2) rfl (.t (.s (.s .z))) rfl rfl) ?_
  rintro _ _ ⟨g6, rfl, rfl⟩
  refine FJ.q (goes_list rfl) rfl (by decide) rfl (q_assign rfl .c) ?_
  refine FJ.nil ?_
  refine FJ.then_ ?_
  refine FJ.seq ?_
  refine FJ.region ?_
  refine FJ.call (goes_list rfl) rfl (by decide) rfl (c_call rfl Try.func72 rfl rfl (args2 (.t (.s (.s .z))) (.t (.s .z)))) .n (fun w1 S1 hs tr => c_72 (tr.ptr (.s .z) (kT_43_mk x (tr.ctx h0_0) (tr.ctx h0_1))) (tr.ptr .z (kT_43_mk y (tr.ctx h1_0) (tr.ctx h1_1)))) ?_
  rintro _ _ ⟨rfl, rfl⟩
  refine FJ.cat .n ?_
  refine FJ.er (.s .z) ?_
  refine FJ.q (goes_list rfl) rfl (by decide) rfl (q_assign rfl (.t .z)) ?_
  refine FJ.nil ?_
  refine FJ.then_ ?_
  refine FJ.ret ?_
  refine FJ.doneS (res1 rfl .z) .n ?_
  exact ⟨rfl, rfl⟩

end Go.Proofs.Ytoaebcjjfojfeaa

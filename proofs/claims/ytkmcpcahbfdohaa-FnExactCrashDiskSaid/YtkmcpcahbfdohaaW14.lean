/- What is proved: contracts of functions, one a function. No condition. -/
import Derived.Test.YtkmcpcahbfdohaaW13
import Derived.Test.YtkmcpcahbfdohaaW6
import Derived.Test.YtkmcpcahbfdohaaMCount
namespace Go.Proofs.Ytkmcpcahbfdohaa
open Go Go.RowKit
set_option linter.unusedVariables false
set_option linter.unusedSimpArgs false
set_option maxHeartbeats 1000000 in
set_option maxRecDepth 20000 in
theorem c_61 {w0 : World} {S0 : Bs} {x : (List Bool)} {v0 : Value} (h0 : kSl_4.ro w0 (FF w0 S0) x [v0])  :
    Calls Try.prog 61 #[v0] w0 (TriPost w0 S0 (fun r l => l = [ownA kSl_4 x [r]])) := by
  obtain ⟨A0, c0, rfl, hl0, hm0, hb0, he0⟩ := ro_form h0
  refine FJ.enter (N := 22) Try.func61 rfl rfl (by simp) [(0, .slice A0 x.length c0)] (by simp) (l0 := []) trivial ?_
  refine FJ.seq ?_
  refine FJ.region ?_
  refine FJ.q (goes_list rfl) rfl (by decide) rfl (q_assign rfl .c) ?_
  refine FJ.nil ?_
  refine FJ.then_ ?_
  refine FJ.seq ?_
  refine FJ.region ?_
  refine FJ.q (goes_list rfl) rfl (by decide) rfl (q_move rfl (.t (.s .z))) ?_
  refine FJ.q (goes_list rfl) rfl (by decide) rfl (q_len rfl u_51 (.t .z)) ?_
  refine FJ.e (goes_list rfl) rfl (by decide) rfl (e_makeSlice (n := x.length) (x0 := false) rfl u_51 inf_4 rfl (fun _ _ => ⟨rfl, trivial⟩) (.t .z) (.t .z) (by omega) (by omega)) ?_
  rintro _ _ rfl
  refine FJ.know (WS.oform .z) ?_
  rintro ⟨Ao3, co3, rfl, hlo3, hmo3, hbo3⟩
  refine FJ.q (goes_list rfl) rfl (by decide) rfl (q_assign rfl (.t .z)) ?_
  refine FJ.nil ?_
  refine FJ.then_ ?_
  refine FJ.seq ?_
  refine FJ.seq ?_
  refine FJ.region ?_
  refine FJ.q (goes_list rfl) rfl (by decide) rfl (q_assign rfl .c) ?_
  refine FJ.nil ?_
  refine FJ.then_ ?_
  refine FJ.block ?_
  refine FJ.ceq .z (fillC_zero x false) ?_
  refine FJ.loopi (γ := Nat) (fun k => [(4, .int .i64 (k : Int)), (3, .slice Ao3 (List.replicate x.length false).length co3), (2, .slice none 0 0), (0, .slice A0 x.length c0)]) (fun k => [ownA kSl_4 (fillC x false k) [.slice Ao3 (List.replicate x.length false).length co3]]) (fun k => k ≤ x.length) (fun k => x.length - k) 0 (Nat.zero_le _) (.c .z (.c (.s .z) (.c (.s (.s (.s (.s (.s .z))))) (.c (.s (.s (.s (.s (.s (.s .z)))))) .n)))) (fun _ h => h.sel (.c .z .n)) ?_
  rintro k hk
  refine FJ.seq ?_
  refine FJ.seq ?_
  refine FJ.region ?_
  refine FJ.q (goes_list rfl) rfl (by decide) rfl (q_move rfl (.t .z)) ?_
  refine FJ.q (goes_list rfl) rfl (by decide) rfl (q_move rfl (.t (.s (.s (.s (.s .z)))))) ?_
  refine FJ.q (goes_list rfl) rfl (by decide) rfl (q_len rfl u_51 (.t .z)) ?_
  refine FJ.q (goes_list rfl) rfl (by decide) rfl (q_lss rfl (.t (.s (.s .z))) (.t .z)) ?_
  refine FJ.nil ?_
  refine FJ.then_ ?_
  refine FJ.condP (.t .z) (fun b4 => ?_) (fun b4 => ?_)
  · -- b4: True
    refine FJ.skip ?_
    refine FJ.then_ ?_
    refine FJ.seq ?_
    refine FJ.block ?_
    refine FJ.region ?_
    refine FJ.q (goes_list rfl) rfl (by decide) rfl (q_move rfl (.t (.s (.s (.s (.s (.s .z))))))) ?_
    refine FJ.q (goes_list rfl) rfl (by decide) rfl (q_move rfl (.t (.s (.s (.s (.s (.s .z))))))) ?_
    refine FJ.q (goes_list rfl) rfl (by decide) rfl (q_move rfl (.t (.s (.s (.s (.s (.s (.s (.s (.s (.s .z))))))))))) ?_
    refine FJ.q (goes_list rfl) rfl (by decide) rfl (q_move rfl (.t (.s (.s (.s (.s (.s (.s (.s .z))))))))) ?_
    obtain ⟨ad5, hAad5, hrad5⟩ := he0 (by omega)
    subst hAad5
    obtain ⟨x6, hx6⟩ := get_ex (xs := x) (j := k) (by first | omega | (rw [fillC_len (by omega)]; omega) | (rw [List.length_replicate]; omega))
    obtain ⟨ece7, hre7, hFe7, hce7⟩ := hrad5.elem hx6
    obtain ⟨rfl, se7⟩ := hre7
    refine FJ.q (goes_list rfl) rfl (by decide) rfl (q_indexAddr (j := k) rfl u_51 sz_4 (.t (.s .z)) (.t .z) rfl (by first | omega | (rw [fillC_len (by omega)]; omega) | (rw [List.length_replicate]; omega))) ?_
    refine FJ.q (goes_list rfl) rfl (by decide) rfl (q_load rfl ag_4 (.t .z) (WS.el0 hFe7 hce7 rfl)) ?_
    refine FJ.know (WS.oad .z (by rw [fillC_len (by omega)]; omega)) ?_
    rintro ⟨ad8, rfl⟩
    refine FJ.q (goes_list rfl) rfl (by decide) rfl (q_indexAddr (j := k) rfl u_51 sz_4 (.t (.s (.s (.s (.s (.s .z)))))) (.t (.s (.s (.s (.s .z))))) rfl (by first | omega | (rw [fillC_len (by omega)]; omega) | (rw [List.length_replicate]; omega))) ?_
    refine FJ.add (c := ownA kbool x6 [.bool x6]) (fun _ _ => ⟨rfl, trivial⟩) ?_
    refine FJ.es (goes_list rfl) rfl (es_set (j := k) rfl sz_4 (.t .z) (.t (.s .z)) rfl (.c (.s .z) (.c .z .n)) (by first | omega | (rw [fillC_len (by omega)]; omega) | (rw [List.length_replicate]; omega))) ?_
    refine FJ.ceq .z (fillC_set hx6) ?_
    refine FJ.nil ?_
    refine FJ.inBN ?_
    refine FJ.then_ ?_
    refine FJ.region ?_
    refine FJ.q (goes_list rfl) rfl (by decide) rfl (q_move rfl (.t (.s (.s (.s (.s (.s (.s (.s (.s (.s (.s (.s .z))))))))))))) ?_
    refine FJ.q (goes_list rfl) rfl (by decide) rfl (q_add (c := ((k + 1 : Nat) : Int)) rfl (.t .z) .c (wr (by omega) (by omega) (by omega))) ?_
    refine FJ.er (.s (.s (.s (.s (.s (.s (.s (.s (.s (.s (.s (.s (.s .z))))))))))))) ?_
    refine FJ.q (goes_list rfl) rfl (by decide) rfl (q_assign rfl (.t .z)) ?_
    refine FJ.nil ?_
    refine FJ.again (k + 1) (by omega) (by first | omega | (dsimp only; omega)) (.c .z (.c (.s (.s (.s (.s (.s (.s (.s (.s (.s (.s (.s (.s (.s (.s .z)))))))))))))) (.c (.s (.s (.s (.s (.s (.s (.s (.s (.s (.s (.s (.s (.s (.s (.s .z))))))))))))))) (.c (.s (.s (.s (.s (.s (.s (.s (.s (.s (.s (.s (.s (.s (.s (.s (.s .z)))))))))))))))) .n)))) (fun _ h => h.sel (.c .z .n))
  · -- b4: False
    refine FJ.exit ?_
    refine FJ.thenE ?_
    refine FJ.thenE ?_
    refine FJ.inB ?_
    refine FJ.then_ ?_
    refine FJ.seq ?_
    refine FJ.region ?_
    refine FJ.q (goes_list rfl) rfl (by decide) rfl (q_move rfl (.t (.s (.s (.s (.s (.s .z))))))) ?_
    refine FJ.er (.s (.s (.s (.s (.s (.s (.s .z))))))) ?_
    refine FJ.q (goes_list rfl) rfl (by decide) rfl (q_assign rfl (.t .z)) ?_
    refine FJ.nil ?_
    refine FJ.then_ ?_
    refine FJ.ret ?_
    refine FJ.ceq .z (fillC_all (by omega)) ?_
    refine FJ.doneS (res1 rfl .z) (.c .z .n) ?_
    rfl

set_option maxHeartbeats 1000000 in
set_option maxRecDepth 20000 in
theorem c_62 {w0 : World} {S0 : Bs} {x : (List Bool)} {v0 : Value} (h0 : kSl_4.ro w0 (FF w0 S0) x [v0]) {y : (List Bool)} {v1 : Value} (h1 : kSl_4.ro w0 (FF w0 S0) y [v1])  :
    Calls Try.prog 62 #[v0, v1] w0 (TriPost w0 S0 (fun r l => r = .bool (decide (x = y)) ∧ l = [])) := by
  obtain ⟨A0, c0, rfl, hl0, hm0, hb0, he0⟩ := ro_form h0
  obtain ⟨A1, c1, rfl, hl1, hm1, hb1, he1⟩ := ro_form h1
  refine FJ.enter (N := 26) Try.func62 rfl rfl (by simp) [(0, .slice A0 x.length c0), (1, .slice A1 y.length c1)] (by simp) (l0 := []) trivial ?_
  refine FJ.seq ?_
  refine FJ.region ?_
  refine FJ.q (goes_list rfl) rfl (by decide) rfl (q_assign rfl .c) ?_
  refine FJ.nil ?_
  refine FJ.then_ ?_
  refine FJ.seq ?_
  refine FJ.seq ?_
  refine FJ.region ?_
  refine FJ.q (goes_list rfl) rfl (by decide) rfl (q_move rfl (.t (.s .z))) ?_
  refine FJ.q (goes_list rfl) rfl (by decide) rfl (q_len rfl u_51 (.t .z)) ?_
  refine FJ.q (goes_list rfl) rfl (by decide) rfl (q_move rfl (.t (.s (.s (.s (.s .z)))))) ?_
  refine FJ.q (goes_list rfl) rfl (by decide) rfl (q_len rfl u_51 (.t .z)) ?_
  refine FJ.q (goes_list rfl) rfl (by decide) rfl (q_neq rfl (.t (.s (.s .z))) (.t .z)) ?_
  refine FJ.nil ?_
  refine FJ.then_ ?_
  refine FJ.condN (.t .z) (fun b3 => ?_) (fun b3 => ?_)
  · -- b3: True
    refine FJ.seq ?_
    refine FJ.region ?_
    refine FJ.er (.s (.s (.s (.s (.s .z))))) ?_
    refine FJ.q (goes_list rfl) rfl (by decide) rfl (q_assign rfl .c) ?_
    refine FJ.nil ?_
    refine FJ.then_ ?_
    refine FJ.ret ?_
    refine FJ.thenR ?_
    refine FJ.doneS (res1 rfl .z) .n ?_
    exact ⟨by rw [decide_eq_false (fun h => by subst h; omega)], rfl⟩
  · -- b3: False
    refine FJ.skip ?_
    refine FJ.then_ ?_
    refine FJ.seq ?_
    refine FJ.seq ?_
    refine FJ.region ?_
    refine FJ.q (goes_list rfl) rfl (by decide) rfl (q_assign rfl .c) ?_
    refine FJ.nil ?_
    refine FJ.then_ ?_
    refine FJ.block ?_
    refine FJ.loopi (γ := Nat) (fun k => [(5, .int .i64 (k : Int)), (0, .slice A0 x.length c0), (1, .slice A1 y.length c1)]) (fun k => []) (fun k => k ≤ x.length ∧ ∀ j, j < k → x[j]? = y[j]?) (fun k => x.length - k) 0 ⟨Nat.zero_le _, all_eq_zero⟩ (.c .z (.c (.s (.s (.s (.s (.s (.s (.s .z))))))) (.c (.s (.s (.s (.s (.s (.s (.s (.s .z)))))))) .n))) (fun _ h => h) ?_
    rintro k ⟨hk, hallk⟩
    refine FJ.seq ?_
    refine FJ.seq ?_
    refine FJ.region ?_
    refine FJ.q (goes_list rfl) rfl (by decide) rfl (q_move rfl (.t .z)) ?_
    refine FJ.q (goes_list rfl) rfl (by decide) rfl (q_move rfl (.t (.s (.s .z)))) ?_
    refine FJ.q (goes_list rfl) rfl (by decide) rfl (q_len rfl u_51 (.t .z)) ?_
    refine FJ.q (goes_list rfl) rfl (by decide) rfl (q_lss rfl (.t (.s (.s .z))) (.t .z)) ?_
    refine FJ.nil ?_
    refine FJ.then_ ?_
    refine FJ.condP (.t .z) (fun b4 => ?_) (fun b4 => ?_)
    · -- b4: True
      refine FJ.skip ?_
      refine FJ.then_ ?_
      refine FJ.seq ?_
      refine FJ.block ?_
      refine FJ.seq ?_
      refine FJ.draw [] 9 (by kernel_rfl) ?_
      refine FJ.sch [(0, true), (1, true), (2, true), (3, true), (4, true), (5, true), (6, true), (7, true), (8, true)] 0 #[true, true, true, true, true, true, true, true, true] (by rfl) (by kernel_rfl) ?_
      refine FJ.dq rfl rfl rfl (by decide) rfl .z (q_move rfl (.t (.s (.s (.s (.s (.s .z))))))) ?_
      refine FJ.dq rfl rfl rfl (by decide) rfl .z (q_move rfl (.t (.s (.s (.s (.s (.s .z))))))) ?_
      obtain ⟨ad5, hAad5, hrad5⟩ := he0 (by omega)
      subst hAad5
      obtain ⟨x6, hx6⟩ := get_ex (xs := x) (j := k) (by omega)
      obtain ⟨ece7, hre7, hFe7, hce7⟩ := hrad5.elem hx6
      obtain ⟨rfl, se7⟩ := hre7
      refine FJ.dq rfl rfl rfl (by decide) rfl .z (q_indexAddr (j := k) rfl u_51 sz_4 (.t (.s .z)) (.t .z) rfl (by omega)) ?_
      refine FJ.dq rfl rfl rfl (by decide) rfl .z (q_load rfl ag_4 (.t .z) (WS.el0 hFe7 hce7 rfl)) ?_
      refine FJ.dq rfl rfl rfl (by decide) rfl .z (q_move rfl (.t (.s (.s (.s (.s (.s (.s (.s (.s (.s (.s .z)))))))))))) ?_
      refine FJ.dq rfl rfl rfl (by decide) rfl .z (q_move rfl (.t (.s (.s (.s (.s (.s (.s (.s (.s (.s .z))))))))))) ?_
      obtain ⟨ad8, hAad8, hrad8⟩ := he1 (by omega)
      subst hAad8
      obtain ⟨x9, hx9⟩ := get_ex (xs := y) (j := k) (by omega)
      obtain ⟨ece10, hre10, hFe10, hce10⟩ := hrad8.elem hx9
      obtain ⟨rfl, se10⟩ := hre10
      refine FJ.dq rfl rfl rfl (by decide) rfl .z (q_indexAddr (j := k) rfl u_51 sz_4 (.t (.s .z)) (.t .z) rfl (by omega)) ?_
      refine FJ.dq rfl rfl rfl (by decide) rfl .z (q_load rfl ag_4 (.t .z) (WS.el0 hFe10 hce10 rfl)) ?_
      refine FJ.dq rfl rfl rfl (by decide) rfl .z (q_bneq rfl u_4 (.t (.s (.s (.s (.s .z))))) (.t .z)) ?_
      refine FJ.schN ?_
      refine FJ.drawN (by kernel_rfl) ?_
      refine FJ.then_ ?_
      refine FJ.cond (.t .z) (fun b11 => ?_) (fun b11 => ?_)
      · -- b11: True
        refine FJ.seq ?_
        refine FJ.region ?_
        refine FJ.q (goes_list rfl) rfl (by decide) rfl (q_assign rfl .c) ?_
        refine FJ.nil ?_
        refine FJ.then_ ?_
        refine FJ.ret ?_
        refine FJ.inBR ?_
        refine FJ.thenR ?_
        refine FJ.thenR ?_
        refine FJ.inBR ?_
        refine FJ.thenR ?_
        refine FJ.doneS (res1 rfl .z) .n ?_
        exact ⟨by rw [decide_eq_false (ne_of_get hx6 hx9 (by first | assumption | (simp_all; done)))], rfl⟩
      · -- b11: False
        refine FJ.skip ?_
        refine FJ.inBN ?_
        refine FJ.then_ ?_
        refine FJ.region ?_
        refine FJ.q (goes_list rfl) rfl (by decide) rfl (q_move rfl (.t (.s (.s (.s (.s (.s (.s (.s (.s (.s (.s (.s (.s (.s .z))))))))))))))) ?_
        refine FJ.q (goes_list rfl) rfl (by decide) rfl (q_add (c := ((k + 1 : Nat) : Int)) rfl (.t .z) .c (wr (by omega) (by omega) (by omega))) ?_
        refine FJ.er (.s (.s (.s (.s (.s (.s (.s (.s (.s (.s (.s (.s (.s (.s (.s .z))))))))))))))) ?_
        refine FJ.q (goes_list rfl) rfl (by decide) rfl (q_assign rfl (.t .z)) ?_
        refine FJ.nil ?_
        refine FJ.again (k + 1) ⟨by omega, all_eq_succ hallk hx6 hx9 (by first | assumption | (simp_all; done))⟩ (by first | omega | (dsimp only; omega)) (.c .z (.c (.s (.s (.s (.s (.s (.s (.s (.s (.s (.s (.s (.s (.s (.s (.s (.s .z)))))))))))))))) (.c (.s (.s (.s (.s (.s (.s (.s (.s (.s (.s (.s (.s (.s (.s (.s (.s (.s .z))))))))))))))))) .n))) (fun _ h => h)
    · -- b4: False
      refine FJ.exit ?_
      refine FJ.thenE ?_
      refine FJ.thenE ?_
      refine FJ.inB ?_
      refine FJ.then_ ?_
      refine FJ.seq ?_
      refine FJ.region ?_
      refine FJ.q (goes_list rfl) rfl (by decide) rfl (q_assign rfl .c) ?_
      refine FJ.nil ?_
      refine FJ.then_ ?_
      refine FJ.ret ?_
      refine FJ.doneS (res1 rfl .z) .n ?_
      exact ⟨by rw [decide_eq_true (eq_of_all (by omega) (by omega) hallk)], rfl⟩

set_option maxHeartbeats 1000000 in
set_option maxRecDepth 20000 in
theorem c_9 {w0 : World} {S0 : Bs} {x : DDisk} {cs0 : List Value} (h0 : kT_34.ro w0 (FF w0 S0) x cs0)  :
    Calls Try.prog 9 #[.agg cs0.toArray] w0 (TriPost w0 S0 (fun r l => r = .bool true ∧ l = [])) := by
  obtain ⟨u0_0, u0_1, rfl, h0_0, h0_1⟩ := kT_34_ro h0
  obtain ⟨A0_0, c0_0, rfl, hl0_0, hm0_0, hb0_0, he0_0⟩ := ro_form h0_0
  obtain ⟨A0_1, c0_1, rfl, hl0_1, hm0_1, hb0_1, he0_1⟩ := ro_form h0_1
  have hb := flushDisk_cnt x
  have hw := disk_cnt_wt x
  refine FJ.enter (N := 69) Try.func9 rfl rfl (by simp) [(0, .agg #[.slice A0_0 x.blocks.length c0_0, .slice A0_1 x.cache.length c0_1])] (by simp) (l0 := []) trivial ?_
  refine FJ.seq ?_
  refine FJ.region ?_
  refine FJ.e (goes_list rfl) rfl (by decide) rfl (e_box (cs := [.slice A0_0 x.blocks.length c0_0, .slice A0_1 x.cache.length c0_1]) (n := 2) rfl (.t .z) rfl rfl) ?_
  rintro _ _ ⟨g3, rfl, rfl⟩
  refine FJ.q (goes_list rfl) rfl (by decide) rfl (q_assign rfl .c) ?_
  refine FJ.nil ?_
  refine FJ.then_ ?_
  refine FJ.seq ?_
  refine FJ.region ?_
  refine FJ.q (goes_list rfl) rfl (by decide) rfl (q_assign rfl .c) ?_
  refine FJ.nil ?_
  refine FJ.then_ ?_
  refine FJ.seq ?_
  refine FJ.region ?_
  refine FJ.q (goes_list rfl) rfl (by decide) rfl (q_loadA (cs := [.slice A0_0 x.blocks.length c0_0, .slice A0_1 x.cache.length c0_1]) rfl ag_34 sz_34 (.t (.s (.s .z))) (WS.rows0 .z (fun i u h => by exact h))) ?_
  refine FJ.q (goes_list rfl) rfl (by decide) rfl (q_move rfl (.t (.s .z))) ?_
  refine FJ.call (goes_list rfl) rfl (by decide) rfl (c_call rfl Try.func25 rfl rfl (args2 (.t (.s .z)) (.t .z))) .n (fun w1 S1 hs tr => c_25 (kT_34_mk x (tr.ctx h0_0) (tr.ctx h0_1)) _ (by omega) (by omega)) ?_
  rintro _ _ ⟨c4, rfl, hc4, wc4, rfl⟩
  refine FJ.cat .n ?_
  refine FJ.er (.s (.s (.s .z))) ?_
  refine FJ.q (goes_list rfl) rfl (by decide) rfl (q_assign rfl (.t .z)) ?_
  refine FJ.nil ?_
  refine FJ.then_ ?_
  refine FJ.seq ?_
  refine FJ.seq ?_
  refine FJ.region ?_
  refine FJ.q (goes_list rfl) rfl (by decide) rfl (q_move rfl (.t .z)) ?_
  refine FJ.q (goes_list rfl) rfl (by decide) rfl (q_lss rfl (.t .z) .c) ?_
  refine FJ.nil ?_
  refine FJ.then_ ?_
  refine FJ.condP (.t .z) (fun b5 => ?_) (fun b5 => ?_)
  · -- b5: True
    refine FJ.seq ?_
    refine FJ.region ?_
    refine FJ.er (.s (.s (.s (.s (.s (.s .z)))))) ?_
    refine FJ.q (goes_list rfl) rfl (by decide) rfl (q_assign rfl .c) ?_
    refine FJ.nil ?_
    refine FJ.then_ ?_
    refine FJ.ret ?_
    refine FJ.thenR ?_
    refine FJ.doneS (res1 rfl .z) .n ?_
    exact ⟨rfl, rfl⟩
  · -- b5: False
    refine FJ.skip ?_
    refine FJ.then_ ?_
    refine FJ.seq ?_
    refine FJ.region ?_
    refine FJ.q (goes_list rfl) rfl (by decide) rfl (q_loadA (cs := [.slice A0_0 x.blocks.length c0_0, .slice A0_1 x.cache.length c0_1]) rfl ag_34 sz_34 (.t (.s (.s (.s (.s (.s (.s (.s .z)))))))) (WS.rows0 .z (fun i u h => by exact h))) ?_
    refine FJ.call (goes_list rfl) rfl (by decide) rfl (c_call rfl Try.func27 rfl rfl (args1 (.t .z))) .n (fun w1 S1 hs tr => c_27 (kT_34_mk x (tr.ctx h0_0) (tr.ctx h0_1))) ?_
    rintro _ _ ⟨v6, v8, rfl, rfl⟩
    refine FJ.cat (.c (.c .n)) ?_
    refine FJ.know (WS.oform .z) ?_
    rintro ⟨Ao10, co10, rfl, hlo10, hmo10, hbo10⟩
    refine FJ.know (WS.oform (.s .z)) ?_
    rintro ⟨Ao11, co11, rfl, hlo11, hmo11, hbo11⟩
    refine FJ.call (goes_list rfl) rfl (by decide) rfl (c_call rfl Try.func52 rfl rfl (args1 (.t .z))) .n (fun w1 S1 hs tr => c_52 (kT_25_mk x (tr.own .z) (tr.own (.s .z)))) ?_
    rintro _ _ ⟨v12, v14, rfl, rfl⟩
    refine FJ.cat (.c (.c .n)) ?_
    refine FJ.know (WS.oform .z) ?_
    rintro ⟨Ao16, co16, rfl, hlo16, hmo16, hbo16⟩
    refine FJ.know (WS.oform (.s .z)) ?_
    rintro ⟨Ao17, co17, rfl, hlo17, hmo17, hbo17⟩
    refine FJ.e (goes_list rfl) rfl (by decide) rfl (e_alloc rfl z_27 rfl rfl) ?_
    rintro _ _ ⟨g18, rfl, rfl⟩
    refine FJ.es (goes_list rfl) rfl (es_store (off := 0) (cs := [.int .i64 ((flushDisk x).code), .slice Ao16 ((flushDisk x).disk.blocks).length co16, .slice Ao17 ((flushDisk x).disk.cache).length co17]) rfl sz_27 (.t .z) (.t (.s .z)) rfl (ones rfl) .z (Nat.le_of_ble_eq_true rfl) (.c .z (.c (.s .z) (.c (.s (.s .z)) .n)))) ?_
    refine FJ.nil ?_
    refine FJ.then_ ?_
    refine FJ.seq ?_
    refine FJ.region ?_
    refine FJ.q (goes_list rfl) rfl (by decide) rfl (q_loadA (cs := [.slice A0_0 x.blocks.length c0_0, .slice A0_1 x.cache.length c0_1]) rfl ag_34 sz_34 (.t (.s (.s (.s (.s (.s (.s (.s (.s (.s (.s (.s .z)))))))))))) (WS.rows0 (.s (.s (.s (.s (.s .z))))) (fun i u h => by exact h))) ?_
    refine FJ.call (goes_list rfl) rfl (by decide) rfl (c_call rfl Try.func27 rfl rfl (args1 (.t .z))) .n (fun w1 S1 hs tr => c_27 (kT_34_mk x (tr.ctx h0_0) (tr.ctx h0_1))) ?_
    rintro _ _ ⟨v19, v21, rfl, rfl⟩
    refine FJ.cat (.c (.c .n)) ?_
    refine FJ.know (WS.oform .z) ?_
    rintro ⟨Ao23, co23, rfl, hlo23, hmo23, hbo23⟩
    refine FJ.know (WS.oform (.s .z)) ?_
    rintro ⟨Ao24, co24, rfl, hlo24, hmo24, hbo24⟩
    refine FJ.e (goes_list rfl) rfl (by decide) rfl (e_alloc rfl z_25 rfl rfl) ?_
    rintro _ _ ⟨g25, rfl, rfl⟩
    refine FJ.es (goes_list rfl) rfl (es_store (off := 0) (cs := [.slice Ao23 x.blocks.length co23, .slice Ao24 x.cache.length co24]) rfl sz_25 (.t .z) (.t (.s .z)) rfl (ones rfl) .z (Nat.le_of_ble_eq_true rfl) (.c .z (.c (.s .z) .n))) ?_
    refine FJ.nil ?_
    refine FJ.then_ ?_
    refine FJ.seq ?_
    refine FJ.region ?_
    refine FJ.q (goes_list rfl) rfl (by decide) rfl (q_loadA (cs := [.slice Ao23 x.blocks.length co23, .slice Ao24 x.cache.length co24]) rfl ag_25 sz_25 (.t .z) (WS.rows0 .z (fun i u h => by exact h))) ?_
    refine FJ.call (goes_list rfl) rfl (by decide) rfl (c_call rfl Try.func38 rfl rfl (args1 (.t .z))) .n (fun w1 S1 hs tr => c_38 (kT_25_mk x (tr.own (.s .z)) (tr.own (.s (.s .z))))) ?_
    rintro _ _ ⟨v26, v28, rfl, rfl⟩
    refine FJ.cat (.c (.c .n)) ?_
    refine FJ.know (WS.oform .z) ?_
    rintro ⟨Ao30, co30, rfl, hlo30, hmo30, hbo30⟩
    refine FJ.know (WS.oform (.s .z)) ?_
    rintro ⟨Ao31, co31, rfl, hlo31, hmo31, hbo31⟩
    refine FJ.e (goes_list rfl) rfl (by decide) rfl (e_alloc rfl z_27 rfl rfl) ?_
    rintro _ _ ⟨g32, rfl, rfl⟩
    refine FJ.es (goes_list rfl) rfl (es_store (off := 0) (cs := [.int .i64 ((flushDisk x).code), .slice Ao30 ((flushDisk x).disk.blocks).length co30, .slice Ao31 ((flushDisk x).disk.cache).length co31]) rfl sz_27 (.t .z) (.t (.s .z)) rfl (ones rfl) .z (Nat.le_of_ble_eq_true rfl) (.c .z (.c (.s .z) (.c (.s (.s .z)) .n)))) ?_
    refine FJ.nil ?_
    refine FJ.then_ ?_
    refine FJ.seq ?_
    refine FJ.seq ?_
    refine FJ.region ?_
    refine FJ.q (goes_list rfl) rfl (by decide) rfl (q_loadA (cs := [.int .i64 ((flushDisk x).code), .slice Ao30 ((flushDisk x).disk.blocks).length co30, .slice Ao31 ((flushDisk x).disk.cache).length co31]) rfl ag_27 sz_27 (.t .z) (WS.rows0 .z (fun i u h => by exact h))) ?_
    refine FJ.q (goes_list rfl) rfl (by decide) rfl (q_loadA (cs := [.int .i64 ((flushDisk x).code), .slice Ao16 ((flushDisk x).disk.blocks).length co16, .slice Ao17 ((flushDisk x).disk.cache).length co17]) rfl ag_27 sz_27 (.t (.s (.s (.s (.s (.s (.s (.s .z)))))))) (WS.rows0 (.s (.s (.s (.s (.s (.s .z)))))) (fun i u h => by exact h))) ?_
    refine FJ.call (goes_list rfl) rfl (by decide) rfl (c_call rfl Try.func22 rfl rfl (args2 (.t (.s .z)) (.t .z))) .n (fun w1 S1 hs tr => c_22 (kT_27_mk (flushDisk x) (tr.own (.s .z)) (tr.own (.s (.s .z)))) (kT_27_mk (flushDisk x) (tr.own (.s (.s (.s (.s (.s (.s (.s .z)))))))) (tr.own (.s (.s (.s (.s (.s (.s (.s (.s .z))))))))))) ?_
    rintro _ _ ⟨rfl, rfl⟩
    refine FJ.cat .n ?_
    refine FJ.q (goes_list rfl) rfl (by decide) rfl (q_not rfl (.t .z)) ?_
    refine FJ.nil ?_
    refine FJ.then_ ?_
    refine FJ.condN (.t .z) (fun b33 => ?_) (fun b33 => ?_)
    · -- b33: True
      refine FJ.seq ?_
      refine FJ.region ?_
      refine FJ.er (.s (.s (.s (.s (.s (.s (.s (.s (.s (.s (.s (.s (.s (.s (.s (.s (.s (.s (.s (.s .z)))))))))))))))))))) ?_
      refine FJ.q (goes_list rfl) rfl (by decide) rfl (q_assign rfl .c) ?_
      refine FJ.nil ?_
      refine FJ.then_ ?_
      refine FJ.ret ?_
      refine FJ.thenR ?_
      refine FJ.doneS (res1 rfl .z) .n ?_
      exfalso; first | exact absurd rfl (by assumption) | omega | (simp_all; done)
    · -- b33: False
      refine FJ.skip ?_
      refine FJ.then_ ?_
      refine FJ.seq ?_
      refine FJ.seq ?_
      refine FJ.sel (.c (.s .z) (.c (.s .z) (.c (.s (.s .z)) (.c (.s (.s .z)) (.c (.s (.s (.s .z))) (.c (.s (.s (.s .z))) (.c (.s (.s (.s .z))) (.c (.s (.s (.s .z))) (.c .z (.c .z (.c .z (.c .z .n)))))))))))) ?_
      refine FJ.draw [rowA g32 27 3 1 [.int .i64 ((flushDisk x).code), .slice Ao30 ((flushDisk x).disk.blocks).length co30, .slice Ao31 ((flushDisk x).disk.cache).length co31], rowA g25 25 2 1 [.slice Ao23 x.blocks.length co23, .slice Ao24 x.cache.length co24], rowA g18 27 3 1 [.int .i64 ((flushDisk x).code), .slice Ao16 ((flushDisk x).disk.blocks).length co16, .slice Ao17 ((flushDisk x).disk.cache).length co17], rowA g3 34 2 1 [.slice A0_0 x.blocks.length c0_0, .slice A0_1 x.cache.length c0_1]] 5 (by kernel_rfl) ?_
      refine FJ.sch [(0, true), (1, true), (2, false), (3, false), (4, true)] 0 #[true, true, true, true, true] (by rfl) (by kernel_rfl) ?_
      refine FJ.dq rfl rfl rfl (by decide) rfl (.s (.s (.s (.s (.s (.s (.s (.s .z)))))))) (q_loadA (cs := [.slice Ao23 x.blocks.length co23, .slice Ao24 x.cache.length co24]) rfl ag_25 sz_25 (.t (.s (.s (.s (.s (.s (.s (.s .z)))))))) (WS.rows0 (.s .z) (fun i u h => by exact h))) ?_
      refine FJ.dq rfl rfl rfl (by decide) rfl (.s (.s (.s (.s (.s (.s (.s (.s .z)))))))) (q_loadA (cs := [.slice A0_0 x.blocks.length c0_0, .slice A0_1 x.cache.length c0_1]) rfl ag_34 sz_34 (.t (.s (.s (.s (.s (.s (.s (.s (.s (.s (.s (.s (.s (.s (.s (.s (.s (.s (.s (.s (.s (.s (.s .z))))))))))))))))))))))) (WS.rows0 (.s (.s (.s .z))) (fun i u h => by exact h))) ?_
      refine FJ.call (goes_sch rfl rfl) rfl (by decide) rfl (c_call rfl Try.func27 rfl rfl (args1 (.t .z))) .n (fun w1 S1 hs tr => c_27 (kT_34_mk x (tr.ctx h0_0) (tr.ctx h0_1))) ?_
      rintro _ _ ⟨v34, v36, rfl, rfl⟩
      refine FJ.cat (.c (.c .n)) ?_
      refine FJ.know (WS.oform .z) ?_
      rintro ⟨Ao38, co38, rfl, hlo38, hmo38, hbo38⟩
      refine FJ.know (WS.oform (.s .z)) ?_
      rintro ⟨Ao39, co39, rfl, hlo39, hmo39, hbo39⟩
      refine FJ.sk (.s (.s (.s (.s (.s (.s (.s (.s (.s (.s .z)))))))))) ?_
      refine FJ.call (goes_sch rfl rfl) rfl (by decide) rfl (c_call rfl Try.func29 rfl rfl (args2 (.t (.s (.s .z))) (.t .z))) .n (fun w1 S1 hs tr => c_29 (kT_25_mk x (tr.own (.s (.s (.s (.s .z))))) (tr.own (.s (.s (.s (.s (.s .z))))))) (kT_25_mk x (tr.own .z) (tr.own (.s .z)))) ?_
      rintro _ _ ⟨rfl, rfl⟩
      refine FJ.cat .n ?_
      refine FJ.sk (.s (.s (.s (.s (.s (.s (.s (.s (.s (.s .z)))))))))) ?_
      refine FJ.dq rfl rfl rfl (by decide) rfl (.s (.s (.s (.s (.s (.s (.s (.s (.s (.s .z)))))))))) (q_not rfl (.t .z)) ?_
      refine FJ.schN ?_
      refine FJ.drawN (by kernel_rfl) ?_
      refine FJ.then_ ?_
      refine FJ.condN (.t .z) (fun b40 => ?_) (fun b40 => ?_)
      · -- b40: True
        refine FJ.seq ?_
        refine FJ.region ?_
        refine FJ.er (.s (.s (.s (.s (.s (.s (.s (.s (.s (.s (.s (.s (.s (.s (.s (.s (.s (.s (.s (.s (.s (.s (.s (.s (.s .z))))))))))))))))))))))))) ?_
        refine FJ.q (goes_list rfl) rfl (by decide) rfl (q_assign rfl .c) ?_
        refine FJ.nil ?_
        refine FJ.then_ ?_
        refine FJ.ret ?_
        refine FJ.thenR ?_
        refine FJ.doneS (res1 rfl .z) .n ?_
        exfalso; first | exact absurd rfl (by assumption) | omega | (simp_all; done)
      · -- b40: False
        refine FJ.skip ?_
        refine FJ.then_ ?_
        refine FJ.seq ?_
        refine FJ.region ?_
        refine FJ.q (goes_list rfl) rfl (by decide) rfl (q_assign rfl .c) ?_
        refine FJ.nil ?_
        refine FJ.then_ ?_
        refine FJ.seq ?_
        refine FJ.region ?_
        refine FJ.q (goes_list rfl) rfl (by decide) rfl (q_loadA (cs := [.slice Ao23 x.blocks.length co23, .slice Ao24 x.cache.length co24]) rfl ag_25 sz_25 (.t (.s (.s (.s (.s (.s (.s (.s (.s (.s (.s (.s (.s (.s .z)))))))))))))) (WS.rows0 (.s (.s (.s (.s (.s (.s (.s (.s (.s (.s (.s .z))))))))))) (fun i u h => by exact h))) ?_
        refine FJ.q (goes_list rfl) rfl (by decide) rfl (q_move rfl (.t (.s .z))) ?_
        refine FJ.call (goes_list rfl) rfl (by decide) rfl (c_call rfl Try.func44 rfl rfl (args2 (.t (.s .z)) (.t .z))) (.c (.s (.s (.s (.s .z)))) (.c (.s (.s (.s (.s .z)))) .n)) (fun w1 S1 hs tr => c_44 _ hs (by omega) (by first | omega | (omega))) ?_
        rintro _ _ ⟨rfl, rfl⟩
        refine FJ.cat (.c (.c .n)) ?_
        refine FJ.er (.s (.s (.s .z))) ?_
        refine FJ.q (goes_list rfl) rfl (by decide) rfl (q_assign rfl (.t .z)) ?_
        refine FJ.nil ?_
        refine FJ.then_ ?_
        refine FJ.seq ?_
        refine FJ.seq ?_
        refine FJ.region ?_
        refine FJ.q (goes_list rfl) rfl (by decide) rfl (q_move rfl (.t .z)) ?_
        refine FJ.q (goes_list rfl) rfl (by decide) rfl (q_lss rfl (.t .z) .c) ?_
        refine FJ.q (goes_list rfl) rfl (by decide) rfl (q_move rfl (.t .z)) ?_
        refine FJ.caseP .z (fun g41 => ?_) (fun g41 => ?_)
        · -- g41: True
          refine FJ.skipl rfl rfl .z rfl rfl (by decide) rfl ?_
          refine FJ.skipl rfl rfl (.s .z) rfl rfl (by decide) rfl ?_
          refine FJ.skipl rfl rfl (.s (.s .z)) rfl rfl (by decide) rfl ?_
          refine FJ.skipl rfl rfl (.s (.s (.s .z))) rfl rfl (by decide) rfl ?_
          refine FJ.q (goes_list rfl) rfl (by decide) rfl (q_pickT rfl (.t (.s (.s (.s (.s .z))))) .c) ?_
          refine FJ.nil ?_
          refine FJ.then_ ?_
          refine FJ.condT (.t .z) ?_
          refine FJ.seq ?_
          refine FJ.region ?_
          refine FJ.er (.s (.s (.s (.s (.s (.s (.s (.s (.s (.s (.s (.s (.s (.s (.s (.s (.s (.s (.s (.s (.s (.s (.s (.s (.s (.s (.s (.s (.s (.s (.s (.s (.s (.s (.s (.s (.s .z))))))))))))))))))))))))))))))))))))) ?_
          refine FJ.q (goes_list rfl) rfl (by decide) rfl (q_assign rfl .c) ?_
          refine FJ.nil ?_
          refine FJ.then_ ?_
          refine FJ.ret ?_
          refine FJ.thenR ?_
          refine FJ.doneS (res1 rfl .z) .n ?_
          exfalso; first | exact absurd rfl (by assumption) | omega | (simp_all; done)
        · -- g41: False
          refine FJ.q (goes_listg rfl rfl .z) rfl (by decide) rfl (q_loadA (cs := [.int .i64 ((flushDisk x).code), .slice Ao30 ((flushDisk x).disk.blocks).length co30, .slice Ao31 ((flushDisk x).disk.cache).length co31]) rfl ag_27 sz_27 (.t (.s (.s (.s (.s (.s (.s (.s (.s (.s (.s (.s (.s (.s (.s (.s (.s .z))))))))))))))))) (WS.rows0 (.s (.s (.s (.s (.s (.s (.s (.s (.s (.s .z)))))))))) (fun i u h => by exact h))) ?_
          refine FJ.q (goes_listg rfl rfl (.s .z)) rfl (by decide) rfl (q_loadA (cs := [.int .i64 ((flushDisk x).code), .slice Ao16 ((flushDisk x).disk.blocks).length co16, .slice Ao17 ((flushDisk x).disk.cache).length co17]) rfl ag_27 sz_27 (.t (.s (.s (.s (.s (.s (.s (.s (.s (.s (.s (.s (.s (.s (.s (.s (.s (.s (.s (.s (.s (.s (.s (.s .z)))))))))))))))))))))))) (WS.rows0 (.s (.s (.s (.s (.s (.s (.s (.s (.s (.s (.s (.s .z)))))))))))) (fun i u h => by exact h))) ?_
          refine FJ.call (goes_listg rfl rfl (.s (.s .z))) rfl (by decide) rfl (c_call rfl Try.func22 rfl rfl (args2 (.t (.s .z)) (.t .z))) .n (fun w1 S1 hs tr => c_22 (kT_27_mk (flushDisk x) (tr.own (.s (.s (.s (.s .z))))) (tr.own (.s (.s (.s (.s (.s .z))))))) (kT_27_mk (flushDisk x) (tr.own (.s (.s (.s (.s (.s (.s .z))))))) (tr.own (.s (.s (.s (.s (.s (.s (.s .z)))))))))) ?_
          rintro _ _ ⟨rfl, rfl⟩
          refine FJ.cat .n ?_
          refine FJ.q (goes_listg rfl rfl (.s (.s (.s .z)))) rfl (by decide) rfl (q_not rfl (.t .z)) ?_
          refine FJ.q (goes_list rfl) rfl (by decide) rfl (q_pickF rfl (.t (.s (.s (.s (.s .z))))) (.t .z)) ?_
          refine FJ.nil ?_
          refine FJ.then_ ?_
          refine FJ.condN (.t .z) (fun b42 => ?_) (fun b42 => ?_)
          · -- b42: True
            refine FJ.seq ?_
            refine FJ.region ?_
            refine FJ.er (.s (.s (.s (.s (.s (.s (.s (.s (.s (.s (.s (.s (.s (.s (.s (.s (.s (.s (.s (.s (.s (.s (.s (.s (.s (.s (.s (.s (.s (.s (.s (.s (.s (.s (.s (.s (.s .z))))))))))))))))))))))))))))))))))))) ?_
            refine FJ.q (goes_list rfl) rfl (by decide) rfl (q_assign rfl .c) ?_
            refine FJ.nil ?_
            refine FJ.then_ ?_
            refine FJ.ret ?_
            refine FJ.thenR ?_
            refine FJ.doneS (res1 rfl .z) .n ?_
            exfalso; first | exact absurd rfl (by assumption) | omega | (simp_all; done)
          · -- b42: False
            refine FJ.skip ?_
            refine FJ.then_ ?_
            refine FJ.seq ?_
            refine FJ.region ?_
            refine FJ.q (goes_list rfl) rfl (by decide) rfl (q_assign rfl .c) ?_
            refine FJ.nil ?_
            refine FJ.then_ ?_
            refine FJ.seq ?_
            refine FJ.region ?_
            refine FJ.q (goes_list rfl) rfl (by decide) rfl (q_loadA (cs := [.int .i64 ((flushDisk x).code), .slice Ao30 ((flushDisk x).disk.blocks).length co30, .slice Ao31 ((flushDisk x).disk.cache).length co31]) rfl ag_27 sz_27 (.t (.s (.s (.s (.s (.s (.s (.s (.s (.s (.s (.s (.s (.s (.s (.s (.s (.s (.s (.s (.s (.s (.s .z))))))))))))))))))))))) (WS.rows0 (.s (.s (.s (.s (.s (.s (.s (.s (.s (.s .z)))))))))) (fun i u h => by exact h))) ?_
            refine FJ.q (goes_list rfl) rfl (by decide) rfl (q_move rfl (.t (.s .z))) ?_
            refine FJ.call (goes_list rfl) rfl (by decide) rfl (c_call rfl Try.func23 rfl rfl (args2 (.t (.s .z)) (.t .z))) (.c (.s (.s (.s (.s .z)))) (.c (.s (.s (.s (.s .z)))) .n)) (fun w1 S1 hs tr => c_23 _ hs (by omega) (by first | omega | (omega))) ?_
            rintro _ _ ⟨rfl, rfl⟩
            refine FJ.cat (.c (.c .n)) ?_
            refine FJ.er (.s (.s (.s .z))) ?_
            refine FJ.q (goes_list rfl) rfl (by decide) rfl (q_assign rfl (.t .z)) ?_
            refine FJ.nil ?_
            refine FJ.then_ ?_
            refine FJ.seq ?_
            refine FJ.region ?_
            refine FJ.q (goes_list rfl) rfl (by decide) rfl (q_assign rfl .c) ?_
            refine FJ.nil ?_
            refine FJ.then_ ?_
            refine FJ.seq ?_
            refine FJ.region ?_
            refine FJ.q (goes_list rfl) rfl (by decide) rfl (q_loadA (cs := [.int .i64 ((flushDisk x).code), .slice Ao30 ((flushDisk x).disk.blocks).length co30, .slice Ao31 ((flushDisk x).disk.cache).length co31]) rfl ag_27 sz_27 (.t (.s (.s (.s (.s (.s (.s (.s (.s (.s (.s (.s (.s (.s (.s (.s (.s (.s (.s (.s (.s (.s (.s (.s (.s (.s (.s .z))))))))))))))))))))))))))) (WS.rows0 (.s (.s (.s (.s (.s (.s (.s (.s (.s (.s .z)))))))))) (fun i u h => by exact h))) ?_
            refine FJ.q (goes_list rfl) rfl (by decide) rfl (q_move rfl (.t (.s .z))) ?_
            refine FJ.call (goes_list rfl) rfl (by decide) rfl (c_call rfl Try.func24 rfl rfl (args2 (.t (.s .z)) (.t .z))) .n (fun w1 S1 hs tr => c_24 (kT_27_mk (⟨(flushDisk x).code, (⟨(vmark_RDisk 1 (flushDisk x)).disk.blocks, (vmark_RDisk 1 (flushDisk x)).disk.cache⟩ : DDisk)⟩ : RDisk) (tr.own .z) (tr.own (.s .z))) _ (flushDisk x) rfl (by omega) (by first | omega | (omega))) ?_
            rintro _ _ ⟨rfl, rfl⟩
            refine FJ.cat .n ?_
            refine FJ.er (.s (.s (.s .z))) ?_
            refine FJ.q (goes_list rfl) rfl (by decide) rfl (q_assign rfl (.t .z)) ?_
            refine FJ.nil ?_
            refine FJ.then_ ?_
            refine FJ.seq ?_
            refine FJ.seq ?_
            refine FJ.region ?_
            refine FJ.q (goes_list rfl) rfl (by decide) rfl (q_move rfl (.t .z)) ?_
            refine FJ.q (goes_list rfl) rfl (by decide) rfl (q_lss rfl (.t .z) .c) ?_
            refine FJ.nil ?_
            refine FJ.then_ ?_
            refine FJ.condP (.t .z) (fun b43 => ?_) (fun b43 => ?_)
            · -- b43: True
              refine FJ.seq ?_
              refine FJ.region ?_
              refine FJ.er (.s (.s (.s (.s (.s (.s (.s (.s (.s (.s (.s (.s (.s (.s (.s (.s (.s (.s (.s (.s (.s (.s (.s (.s (.s (.s (.s (.s (.s (.s (.s (.s (.s (.s (.s (.s (.s (.s (.s (.s (.s (.s (.s (.s (.s (.s (.s .z))))))))))))))))))))))))))))))))))))))))))))))) ?_
              refine FJ.q (goes_list rfl) rfl (by decide) rfl (q_assign rfl .c) ?_
              refine FJ.nil ?_
              refine FJ.then_ ?_
              refine FJ.ret ?_
              refine FJ.thenR ?_
              refine FJ.doneS (res1 rfl .z) .n ?_
              exfalso; first | exact absurd rfl (by assumption) | omega | (simp_all; done)
            · -- b43: False
              refine FJ.skip ?_
              refine FJ.then_ ?_
              refine FJ.seq ?_
              refine FJ.seq ?_
              refine FJ.region ?_
              refine FJ.q (goes_list rfl) rfl (by decide) rfl (q_move rfl (.t (.s (.s .z)))) ?_
              refine FJ.q (goes_list rfl) rfl (by decide) rfl (q_move rfl (.t (.s (.s (.s (.s (.s (.s (.s .z))))))))) ?_
              refine FJ.q (goes_list rfl) rfl (by decide) rfl (q_neq rfl (.t (.s .z)) (.t .z)) ?_
              refine FJ.nil ?_
              refine FJ.then_ ?_
              refine FJ.condN (.t .z) (fun b44 => ?_) (fun b44 => ?_)
              · -- b44: True
                refine FJ.seq ?_
                refine FJ.region ?_
                refine FJ.er (.s (.s (.s (.s (.s (.s (.s (.s (.s (.s (.s (.s (.s (.s (.s (.s (.s (.s (.s (.s (.s (.s (.s (.s (.s (.s (.s (.s (.s (.s (.s (.s (.s (.s (.s (.s (.s (.s (.s (.s (.s (.s (.s (.s (.s (.s (.s (.s (.s (.s .z)))))))))))))))))))))))))))))))))))))))))))))))))) ?_
                refine FJ.q (goes_list rfl) rfl (by decide) rfl (q_assign rfl .c) ?_
                refine FJ.nil ?_
                refine FJ.then_ ?_
                refine FJ.ret ?_
                refine FJ.thenR ?_
                refine FJ.doneS (res1 rfl .z) .n ?_
                exfalso; first | exact absurd rfl (by assumption) | omega | (simp_all; done)
              · -- b44: False
                refine FJ.skip ?_
                refine FJ.then_ ?_
                refine FJ.seq ?_
                refine FJ.region ?_
                refine FJ.q (goes_list rfl) rfl (by decide) rfl (q_loadA (cs := [.slice A0_0 x.blocks.length c0_0, .slice A0_1 x.cache.length c0_1]) rfl ag_34 sz_34 (.t (.s (.s (.s (.s (.s (.s (.s (.s (.s (.s (.s (.s (.s (.s (.s (.s (.s (.s (.s (.s (.s (.s (.s (.s (.s (.s (.s (.s (.s (.s (.s (.s (.s (.s (.s (.s (.s (.s (.s (.s (.s (.s (.s (.s (.s (.s (.s (.s (.s (.s (.s .z)))))))))))))))))))))))))))))))))))))))))))))))))))) (WS.rows0 (.s (.s (.s (.s (.s (.s (.s (.s (.s (.s (.s (.s (.s .z))))))))))))) (fun i u h => by exact h))) ?_
                refine FJ.call (goes_list rfl) rfl (by decide) rfl (c_call rfl Try.func27 rfl rfl (args1 (.t .z))) .n (fun w1 S1 hs tr => c_27 (kT_34_mk x (tr.ctx h0_0) (tr.ctx h0_1))) ?_
                rintro _ _ ⟨v45, v47, rfl, rfl⟩
                refine FJ.cat (.c (.c .n)) ?_
                refine FJ.know (WS.oform .z) ?_
                rintro ⟨Ao49, co49, rfl, hlo49, hmo49, hbo49⟩
                refine FJ.know (WS.oform (.s .z)) ?_
                rintro ⟨Ao50, co50, rfl, hlo50, hmo50, hbo50⟩
                refine FJ.call (goes_list rfl) rfl (by decide) rfl (c_call rfl Try.func38 rfl rfl (args1 (.t .z))) .n (fun w1 S1 hs tr => c_38 (kT_25_mk x (tr.own .z) (tr.own (.s .z)))) ?_
                rintro _ _ ⟨v51, v53, rfl, rfl⟩
                refine FJ.cat (.c (.c .n)) ?_
                refine FJ.know (WS.oform .z) ?_
                rintro ⟨Ao55, co55, rfl, hlo55, hmo55, hbo55⟩
                refine FJ.know (WS.oform (.s .z)) ?_
                rintro ⟨Ao56, co56, rfl, hlo56, hmo56, hbo56⟩
                refine FJ.e (goes_list rfl) rfl (by decide) rfl (e_alloc rfl z_27 rfl rfl) ?_
                rintro _ _ ⟨g57, rfl, rfl⟩
                refine FJ.es (goes_list rfl) rfl (es_store (off := 0) (cs := [.int .i64 ((flushDisk x).code), .slice Ao55 ((flushDisk x).disk.blocks).length co55, .slice Ao56 ((flushDisk x).disk.cache).length co56]) rfl sz_27 (.t .z) (.t (.s .z)) rfl (ones rfl) .z (Nat.le_of_ble_eq_true rfl) (.c .z (.c (.s .z) (.c (.s (.s .z)) .n)))) ?_
                refine FJ.nil ?_
                refine FJ.then_ ?_
                refine FJ.seq ?_
                refine FJ.seq ?_
                refine FJ.region ?_
                refine FJ.q (goes_list rfl) rfl (by decide) rfl (q_loadA (cs := [.int .i64 ((flushDisk x).code), .slice Ao55 ((flushDisk x).disk.blocks).length co55, .slice Ao56 ((flushDisk x).disk.cache).length co56]) rfl ag_27 sz_27 (.t .z) (WS.rows0 .z (fun i u h => by exact h))) ?_
                refine FJ.q (goes_list rfl) rfl (by decide) rfl (q_loadA (cs := [.int .i64 ((flushDisk x).code), .slice Ao16 ((flushDisk x).disk.blocks).length co16, .slice Ao17 ((flushDisk x).disk.cache).length co17]) rfl ag_27 sz_27 (.t (.s (.s (.s (.s (.s (.s (.s (.s (.s (.s (.s (.s (.s (.s (.s (.s (.s (.s (.s (.s (.s (.s (.s (.s (.s (.s (.s (.s (.s (.s (.s (.s (.s (.s (.s (.s (.s (.s (.s (.s (.s (.s (.s (.s (.s .z)))))))))))))))))))))))))))))))))))))))))))))) (WS.rows0 (.s (.s (.s (.s (.s (.s (.s (.s (.s (.s (.s (.s (.s (.s (.s (.s (.s .z))))))))))))))))) (fun i u h => by exact h))) ?_
                refine FJ.call (goes_list rfl) rfl (by decide) rfl (c_call rfl Try.func22 rfl rfl (args2 (.t (.s .z)) (.t .z))) .n (fun w1 S1 hs tr => c_22 (kT_27_mk (flushDisk x) (tr.own (.s .z)) (tr.own (.s (.s .z)))) (kT_27_mk (flushDisk x) (tr.own (.s (.s (.s (.s (.s (.s (.s (.s (.s (.s (.s .z)))))))))))) (tr.own (.s (.s (.s (.s (.s (.s (.s (.s (.s (.s (.s (.s .z))))))))))))))) ?_
                rintro _ _ ⟨rfl, rfl⟩
                refine FJ.cat .n ?_
                refine FJ.q (goes_list rfl) rfl (by decide) rfl (q_not rfl (.t .z)) ?_
                refine FJ.nil ?_
                refine FJ.then_ ?_
                refine FJ.condN (.t .z) (fun b58 => ?_) (fun b58 => ?_)
                · -- b58: True
                  refine FJ.seq ?_
                  refine FJ.region ?_
                  refine FJ.er (.s (.s (.s (.s (.s (.s (.s (.s (.s (.s (.s (.s (.s (.s (.s (.s (.s (.s (.s (.s (.s (.s (.s (.s (.s (.s (.s (.s (.s (.s (.s (.s (.s (.s (.s (.s (.s (.s (.s (.s (.s (.s (.s (.s (.s (.s (.s (.s (.s (.s (.s (.s (.s (.s (.s (.s (.s (.s .z)))))))))))))))))))))))))))))))))))))))))))))))))))))))))) ?_
                  refine FJ.q (goes_list rfl) rfl (by decide) rfl (q_assign rfl .c) ?_
                  refine FJ.nil ?_
                  refine FJ.then_ ?_
                  refine FJ.ret ?_
                  refine FJ.thenR ?_
                  refine FJ.doneS (res1 rfl .z) .n ?_
                  exfalso; first | exact absurd rfl (by assumption) | omega | (simp_all; done)
                · -- b58: False
                  refine FJ.skip ?_
                  refine FJ.then_ ?_
                  refine FJ.seq ?_
                  refine FJ.region ?_
                  refine FJ.er (.s (.s (.s (.s (.s (.s (.s (.s (.s (.s (.s (.s (.s .z))))))))))))) ?_
                  refine FJ.q (goes_list rfl) rfl (by decide) rfl (q_assign rfl .c) ?_
                  refine FJ.nil ?_
                  refine FJ.then_ ?_
                  refine FJ.seq ?_
                  refine FJ.region ?_
                  refine FJ.q (goes_list rfl) rfl (by decide) rfl (q_loadA (cs := [.int .i64 ((flushDisk x).code), .slice Ao30 ((flushDisk x).disk.blocks).length co30, .slice Ao31 ((flushDisk x).disk.cache).length co31]) rfl ag_27 sz_27 (.t (.s (.s (.s (.s (.s (.s (.s (.s (.s (.s (.s (.s (.s (.s (.s (.s (.s (.s (.s (.s (.s (.s (.s (.s (.s (.s (.s (.s (.s (.s (.s (.s (.s (.s (.s (.s (.s (.s (.s (.s (.s (.s .z))))))))))))))))))))))))))))))))))))))))))) (WS.rows0 (.s (.s (.s (.s (.s (.s (.s (.s (.s (.s (.s (.s (.s (.s (.s .z))))))))))))))) (fun i u h => by exact h))) ?_
                  refine FJ.q (goes_list rfl) rfl (by decide) rfl (q_move rfl (.t (.s .z))) ?_
                  refine FJ.call (goes_list rfl) rfl (by decide) rfl (c_call rfl Try.func24 rfl rfl (args2 (.t (.s .z)) (.t .z))) .n (fun w1 S1 hs tr => c_24 (kT_27_mk (⟨(flushDisk x).code, (⟨(vmark_RDisk 1 (flushDisk x)).disk.blocks, (vmark_RDisk 1 (flushDisk x)).disk.cache⟩ : DDisk)⟩ : RDisk) (tr.own (.s (.s (.s (.s (.s .z)))))) (tr.own (.s (.s (.s (.s (.s (.s .z)))))))) _ (flushDisk x) rfl (by omega) (by first | omega | (omega))) ?_
                  rintro _ _ ⟨rfl, rfl⟩
                  refine FJ.cat .n ?_
                  refine FJ.er (.s (.s (.s .z))) ?_
                  refine FJ.q (goes_list rfl) rfl (by decide) rfl (q_assign rfl (.t .z)) ?_
                  refine FJ.nil ?_
                  refine FJ.then_ ?_
                  refine FJ.seq ?_
                  refine FJ.seq ?_
                  refine FJ.region ?_
                  refine FJ.q (goes_list rfl) rfl (by decide) rfl (q_move rfl (.t .z)) ?_
                  refine FJ.q (goes_list rfl) rfl (by decide) rfl (q_lss rfl (.t .z) .c) ?_
                  refine FJ.nil ?_
                  refine FJ.then_ ?_
                  refine FJ.condP (.t .z) (fun b59 => ?_) (fun b59 => ?_)
                  · -- b59: True
                    refine FJ.seq ?_
                    refine FJ.region ?_
                    refine FJ.er (.s (.s (.s (.s (.s (.s (.s (.s (.s (.s (.s (.s (.s (.s (.s (.s (.s (.s (.s (.s (.s (.s (.s (.s (.s (.s (.s (.s (.s (.s (.s (.s (.s (.s (.s (.s (.s (.s (.s (.s (.s (.s (.s (.s (.s (.s (.s (.s (.s (.s (.s (.s (.s (.s (.s (.s (.s (.s (.s (.s (.s (.s (.s .z))))))))))))))))))))))))))))))))))))))))))))))))))))))))))))))) ?_
                    refine FJ.q (goes_list rfl) rfl (by decide) rfl (q_assign rfl .c) ?_
                    refine FJ.nil ?_
                    refine FJ.then_ ?_
                    refine FJ.ret ?_
                    refine FJ.thenR ?_
                    refine FJ.doneS (res1 rfl .z) .n ?_
                    exfalso; first | exact absurd rfl (by assumption) | omega | (simp_all; done)
                  · -- b59: False
                    refine FJ.skip ?_
                    refine FJ.then_ ?_
                    refine FJ.seq ?_
                    refine FJ.seq ?_
                    refine FJ.region ?_
                    refine FJ.q (goes_list rfl) rfl (by decide) rfl (q_move rfl (.t (.s (.s .z)))) ?_
                    refine FJ.q (goes_list rfl) rfl (by decide) rfl (q_move rfl (.t (.s (.s (.s (.s (.s (.s (.s (.s (.s (.s (.s (.s (.s (.s (.s (.s (.s (.s (.s (.s (.s (.s (.s .z))))))))))))))))))))))))) ?_
                    refine FJ.q (goes_list rfl) rfl (by decide) rfl (q_neq rfl (.t (.s .z)) (.t .z)) ?_
                    refine FJ.nil ?_
                    refine FJ.then_ ?_
                    refine FJ.condN (.t .z) (fun b60 => ?_) (fun b60 => ?_)
                    · -- b60: True
                      refine FJ.seq ?_
                      refine FJ.region ?_
                      refine FJ.er (.s (.s (.s (.s (.s (.s (.s (.s (.s (.s (.s (.s (.s (.s (.s (.s (.s (.s (.s (.s (.s (.s (.s (.s (.s (.s (.s (.s (.s (.s (.s (.s (.s (.s (.s (.s (.s (.s (.s (.s (.s (.s (.s (.s (.s (.s (.s (.s (.s (.s (.s (.s (.s (.s (.s (.s (.s (.s (.s (.s (.s (.s (.s (.s (.s (.s .z)))))))))))))))))))))))))))))))))))))))))))))))))))))))))))))))))) ?_
                      refine FJ.q (goes_list rfl) rfl (by decide) rfl (q_assign rfl .c) ?_
                      refine FJ.nil ?_
                      refine FJ.then_ ?_
                      refine FJ.ret ?_
                      refine FJ.thenR ?_
                      refine FJ.doneS (res1 rfl .z) .n ?_
                      exfalso; first | exact absurd rfl (by assumption) | omega | (simp_all; done)
                    · -- b60: False
                      refine FJ.skip ?_
                      refine FJ.then_ ?_
                      refine FJ.seq ?_
                      refine FJ.region ?_
                      refine FJ.er (.s (.s (.s (.s (.s (.s (.s (.s (.s (.s (.s (.s (.s (.s (.s (.s (.s (.s (.s (.s (.s (.s (.s (.s (.s (.s (.s (.s (.s (.s (.s (.s (.s (.s (.s (.s (.s (.s (.s (.s (.s (.s (.s (.s (.s (.s (.s (.s (.s (.s (.s (.s (.s (.s (.s (.s (.s (.s (.s (.s (.s (.s (.s (.s (.s (.s .z)))))))))))))))))))))))))))))))))))))))))))))))))))))))))))))))))) ?_
                      refine FJ.q (goes_list rfl) rfl (by decide) rfl (q_assign rfl .c) ?_
                      refine FJ.nil ?_
                      refine FJ.then_ ?_
                      refine FJ.ret ?_
                      refine FJ.doneS (res1 rfl .z) .n ?_
                      exact ⟨rfl, rfl⟩

set_option maxHeartbeats 1000000 in
set_option maxRecDepth 20000 in
theorem c_12 {w0 : World} {S0 : Bs} {x : DDisk} {cs0 : List Value} (h0 : kT_34.ro w0 (FF w0 S0) x cs0) {ks : (List Bool)} {v1 : Value} (h1 : kSl_4.ro w0 (FF w0 S0) ks [v1])  :
    Calls Try.prog 12 #[.agg cs0.toArray, v1] w0 (TriPost w0 S0 (fun r l => r = .bool true ∧ l = [])) := by
  obtain ⟨u0_0, u0_1, rfl, h0_0, h0_1⟩ := kT_34_ro h0
  obtain ⟨A0_0, c0_0, rfl, hl0_0, hm0_0, hb0_0, he0_0⟩ := ro_form h0_0
  obtain ⟨A0_1, c0_1, rfl, hl0_1, hm0_1, hb0_1, he0_1⟩ := ro_form h0_1
  obtain ⟨A1, c1, rfl, hl1, hm1, hb1, he1⟩ := ro_form h1
  have hb := crashDisk_cnt x ks
  have hw := disk_cnt_wt x
  refine FJ.enter (N := 90) Try.func12 rfl rfl (by simp) [(0, .agg #[.slice A0_0 x.blocks.length c0_0, .slice A0_1 x.cache.length c0_1]), (1, .slice A1 ks.length c1)] (by simp) (l0 := []) trivial ?_
  refine FJ.seq ?_
  refine FJ.region ?_
  refine FJ.e (goes_list rfl) rfl (by decide) rfl (e_box (cs := [.slice A0_0 x.blocks.length c0_0, .slice A0_1 x.cache.length c0_1]) (n := 2) rfl (.t .z) rfl rfl) ?_
  rintro _ _ ⟨g4, rfl, rfl⟩
  refine FJ.q (goes_list rfl) rfl (by decide) rfl (q_assign rfl .c) ?_
  refine FJ.nil ?_
  refine FJ.then_ ?_
  refine FJ.seq ?_
  refine FJ.seq ?_
  refine FJ.region ?_
  refine FJ.q (goes_list rfl) rfl (by decide) rfl (q_move rfl (.t (.s (.s (.s .z))))) ?_
  refine FJ.q (goes_list rfl) rfl (by decide) rfl (q_len rfl u_51 (.t .z)) ?_
  refine FJ.q (goes_list rfl) rfl (by decide) rfl (q_gtr rfl (.t .z) .c) ?_
  refine FJ.nil ?_
  refine FJ.then_ ?_
  refine FJ.condP (.t .z) (fun b5 => ?_) (fun b5 => ?_)
  · -- b5: True
    refine FJ.seq ?_
    refine FJ.region ?_
    refine FJ.er (.s (.s (.s .z))) ?_
    refine FJ.q (goes_list rfl) rfl (by decide) rfl (q_assign rfl .c) ?_
    refine FJ.nil ?_
    refine FJ.then_ ?_
    refine FJ.ret ?_
    refine FJ.thenR ?_
    refine FJ.doneS (res1 rfl .z) .n ?_
    exact ⟨rfl, rfl⟩
  · -- b5: False
    refine FJ.skip ?_
    refine FJ.then_ ?_
    refine FJ.seq ?_
    refine FJ.region ?_
    refine FJ.q (goes_list rfl) rfl (by decide) rfl (q_assign rfl .c) ?_
    refine FJ.nil ?_
    refine FJ.then_ ?_
    refine FJ.seq ?_
    refine FJ.region ?_
    refine FJ.q (goes_list rfl) rfl (by decide) rfl (q_loadA (cs := [.slice A0_0 x.blocks.length c0_0, .slice A0_1 x.cache.length c0_1]) rfl ag_34 sz_34 (.t (.s (.s (.s (.s (.s .z)))))) (WS.rows0 .z (fun i u h => by exact h))) ?_
    refine FJ.q (goes_list rfl) rfl (by decide) rfl (q_move rfl (.t (.s .z))) ?_
    refine FJ.call (goes_list rfl) rfl (by decide) rfl (c_call rfl Try.func25 rfl rfl (args2 (.t (.s .z)) (.t .z))) .n (fun w1 S1 hs tr => c_25 (kT_34_mk x (tr.ctx h0_0) (tr.ctx h0_1)) _ (by omega) (by omega)) ?_
    rintro _ _ ⟨c6, rfl, hc6, wc6, rfl⟩
    refine FJ.cat .n ?_
    refine FJ.er (.s (.s (.s .z))) ?_
    refine FJ.q (goes_list rfl) rfl (by decide) rfl (q_assign rfl (.t .z)) ?_
    refine FJ.nil ?_
    refine FJ.then_ ?_
    refine FJ.seq ?_
    refine FJ.seq ?_
    refine FJ.region ?_
    refine FJ.q (goes_list rfl) rfl (by decide) rfl (q_move rfl (.t .z)) ?_
    refine FJ.q (goes_list rfl) rfl (by decide) rfl (q_lss rfl (.t .z) .c) ?_
    refine FJ.nil ?_
    refine FJ.then_ ?_
    refine FJ.condP (.t .z) (fun b7 => ?_) (fun b7 => ?_)
    · -- b7: True
      refine FJ.seq ?_
      refine FJ.region ?_
      refine FJ.er (.s (.s (.s (.s (.s (.s (.s (.s (.s .z))))))))) ?_
      refine FJ.q (goes_list rfl) rfl (by decide) rfl (q_assign rfl .c) ?_
      refine FJ.nil ?_
      refine FJ.then_ ?_
      refine FJ.ret ?_
      refine FJ.thenR ?_
      refine FJ.doneS (res1 rfl .z) .n ?_
      exact ⟨rfl, rfl⟩
    · -- b7: False
      refine FJ.skip ?_
      refine FJ.then_ ?_
      refine FJ.seq ?_
      refine FJ.region ?_
      refine FJ.q (goes_list rfl) rfl (by decide) rfl (q_loadA (cs := [.slice A0_0 x.blocks.length c0_0, .slice A0_1 x.cache.length c0_1]) rfl ag_34 sz_34 (.t (.s (.s (.s (.s (.s (.s (.s (.s (.s (.s .z))))))))))) (WS.rows0 .z (fun i u h => by exact h))) ?_
      refine FJ.call (goes_list rfl) rfl (by decide) rfl (c_call rfl Try.func27 rfl rfl (args1 (.t .z))) .n (fun w1 S1 hs tr => c_27 (kT_34_mk x (tr.ctx h0_0) (tr.ctx h0_1))) ?_
      rintro _ _ ⟨v8, v10, rfl, rfl⟩
      refine FJ.cat (.c (.c .n)) ?_
      refine FJ.know (WS.oform .z) ?_
      rintro ⟨Ao12, co12, rfl, hlo12, hmo12, hbo12⟩
      refine FJ.know (WS.oform (.s .z)) ?_
      rintro ⟨Ao13, co13, rfl, hlo13, hmo13, hbo13⟩
      refine FJ.q (goes_list rfl) rfl (by decide) rfl (q_move rfl (.t (.s (.s (.s (.s (.s (.s (.s (.s (.s (.s (.s (.s (.s (.s .z)))))))))))))))) ?_
      refine FJ.call (goes_list rfl) rfl (by decide) rfl (c_call rfl Try.func61 rfl rfl (args1 (.t .z))) .n (fun w1 S1 hs tr => c_61 (tr.ctx h1)) ?_
      rintro _ _ rfl
      refine FJ.cat (.c .n) ?_
      refine FJ.know (WS.oform .z) ?_
      rintro ⟨Ao15, co15, rfl, hlo15, hmo15, hbo15⟩
      refine FJ.call (goes_list rfl) rfl (by decide) rfl (c_call rfl Try.func60 rfl rfl (args2 (.t (.s (.s .z))) (.t .z))) .n (fun w1 S1 hs tr => c_60 (kT_25_mk x (tr.own (.s .z)) (tr.own (.s (.s .z)))) (tr.own .z)) ?_
      rintro _ _ ⟨v16, v18, rfl, rfl⟩
      refine FJ.cat (.c (.c .n)) ?_
      refine FJ.know (WS.oform .z) ?_
      rintro ⟨Ao20, co20, rfl, hlo20, hmo20, hbo20⟩
      refine FJ.know (WS.oform (.s .z)) ?_
      rintro ⟨Ao21, co21, rfl, hlo21, hmo21, hbo21⟩
      refine FJ.e (goes_list rfl) rfl (by decide) rfl (e_alloc rfl z_27 rfl rfl) ?_
      rintro _ _ ⟨g22, rfl, rfl⟩
      refine FJ.es (goes_list rfl) rfl (es_store (off := 0) (cs := [.int .i64 ((crashDisk x ks).code), .slice Ao20 ((crashDisk x ks).disk.blocks).length co20, .slice Ao21 ((crashDisk x ks).disk.cache).length co21]) rfl sz_27 (.t .z) (.t (.s .z)) rfl (ones rfl) .z (Nat.le_of_ble_eq_true rfl) (.c .z (.c (.s .z) (.c (.s (.s .z)) .n)))) ?_
      refine FJ.nil ?_
      refine FJ.then_ ?_
      refine FJ.seq ?_
      refine FJ.region ?_
      refine FJ.q (goes_list rfl) rfl (by decide) rfl (q_loadA (cs := [.slice A0_0 x.blocks.length c0_0, .slice A0_1 x.cache.length c0_1]) rfl ag_34 sz_34 (.t (.s (.s (.s (.s (.s (.s (.s (.s (.s (.s (.s (.s (.s (.s (.s (.s .z))))))))))))))))) (WS.rows0 (.s (.s (.s (.s (.s (.s .z)))))) (fun i u h => by exact h))) ?_
      refine FJ.call (goes_list rfl) rfl (by decide) rfl (c_call rfl Try.func27 rfl rfl (args1 (.t .z))) .n (fun w1 S1 hs tr => c_27 (kT_34_mk x (tr.ctx h0_0) (tr.ctx h0_1))) ?_
      rintro _ _ ⟨v23, v25, rfl, rfl⟩
      refine FJ.cat (.c (.c .n)) ?_
      refine FJ.know (WS.oform .z) ?_
      rintro ⟨Ao27, co27, rfl, hlo27, hmo27, hbo27⟩
      refine FJ.know (WS.oform (.s .z)) ?_
      rintro ⟨Ao28, co28, rfl, hlo28, hmo28, hbo28⟩
      refine FJ.e (goes_list rfl) rfl (by decide) rfl (e_alloc rfl z_25 rfl rfl) ?_
      rintro _ _ ⟨g29, rfl, rfl⟩
      refine FJ.es (goes_list rfl) rfl (es_store (off := 0) (cs := [.slice Ao27 x.blocks.length co27, .slice Ao28 x.cache.length co28]) rfl sz_25 (.t .z) (.t (.s .z)) rfl (ones rfl) .z (Nat.le_of_ble_eq_true rfl) (.c .z (.c (.s .z) .n))) ?_
      refine FJ.nil ?_
      refine FJ.then_ ?_
      refine FJ.seq ?_
      refine FJ.region ?_
      refine FJ.q (goes_list rfl) rfl (by decide) rfl (q_move rfl (.t (.s (.s (.s (.s (.s (.s (.s (.s (.s (.s (.s (.s (.s (.s (.s (.s (.s (.s (.s (.s (.s .z))))))))))))))))))))))) ?_
      refine FJ.call (goes_list rfl) rfl (by decide) rfl (c_call rfl Try.func61 rfl rfl (args1 (.t .z))) .n (fun w1 S1 hs tr => c_61 (tr.ctx h1)) ?_
      rintro _ _ rfl
      refine FJ.cat (.c .n) ?_
      refine FJ.know (WS.oform .z) ?_
      rintro ⟨Ao31, co31, rfl, hlo31, hmo31, hbo31⟩
      refine FJ.q (goes_list rfl) rfl (by decide) rfl (q_assign rfl (.t .z)) ?_
      refine FJ.nil ?_
      refine FJ.then_ ?_
      refine FJ.seq ?_
      refine FJ.region ?_
      refine FJ.q (goes_list rfl) rfl (by decide) rfl (q_loadA (cs := [.slice Ao27 x.blocks.length co27, .slice Ao28 x.cache.length co28]) rfl ag_25 sz_25 (.t (.s (.s (.s .z)))) (WS.rows0 (.s .z) (fun i u h => by exact h))) ?_
      refine FJ.q (goes_list rfl) rfl (by decide) rfl (q_move rfl (.t (.s .z))) ?_
      refine FJ.call (goes_list rfl) rfl (by decide) rfl (c_call rfl Try.func37 rfl rfl (args2 (.t (.s .z)) (.t .z))) .n (fun w1 S1 hs tr => c_37 (kT_25_mk x (tr.own (.s (.s .z))) (tr.own (.s (.s (.s .z))))) (tr.own .z)) ?_
      rintro _ _ ⟨v32, v34, rfl, rfl⟩
      refine FJ.cat (.c (.c .n)) ?_
      refine FJ.know (WS.oform .z) ?_
      rintro ⟨Ao36, co36, rfl, hlo36, hmo36, hbo36⟩
      refine FJ.know (WS.oform (.s .z)) ?_
      rintro ⟨Ao37, co37, rfl, hlo37, hmo37, hbo37⟩
      refine FJ.e (goes_list rfl) rfl (by decide) rfl (e_alloc rfl z_27 rfl rfl) ?_
      rintro _ _ ⟨g38, rfl, rfl⟩
      refine FJ.es (goes_list rfl) rfl (es_store (off := 0) (cs := [.int .i64 ((crashDisk x ks).code), .slice Ao36 ((crashDisk x ks).disk.blocks).length co36, .slice Ao37 ((crashDisk x ks).disk.cache).length co37]) rfl sz_27 (.t .z) (.t (.s .z)) rfl (ones rfl) .z (Nat.le_of_ble_eq_true rfl) (.c .z (.c (.s .z) (.c (.s (.s .z)) .n)))) ?_
      refine FJ.nil ?_
      refine FJ.then_ ?_
      refine FJ.seq ?_
      refine FJ.seq ?_
      refine FJ.region ?_
      refine FJ.q (goes_list rfl) rfl (by decide) rfl (q_loadA (cs := [.int .i64 ((crashDisk x ks).code), .slice Ao36 ((crashDisk x ks).disk.blocks).length co36, .slice Ao37 ((crashDisk x ks).disk.cache).length co37]) rfl ag_27 sz_27 (.t .z) (WS.rows0 .z (fun i u h => by exact h))) ?_
      refine FJ.q (goes_list rfl) rfl (by decide) rfl (q_loadA (cs := [.int .i64 ((crashDisk x ks).code), .slice Ao20 ((crashDisk x ks).disk.blocks).length co20, .slice Ao21 ((crashDisk x ks).disk.cache).length co21]) rfl ag_27 sz_27 (.t (.s (.s (.s (.s (.s (.s (.s (.s (.s (.s (.s .z)))))))))))) (WS.rows0 (.s (.s (.s (.s (.s (.s (.s .z))))))) (fun i u h => by exact h))) ?_
      refine FJ.call (goes_list rfl) rfl (by decide) rfl (c_call rfl Try.func22 rfl rfl (args2 (.t (.s .z)) (.t .z))) .n (fun w1 S1 hs tr => c_22 (kT_27_mk (crashDisk x ks) (tr.own (.s .z)) (tr.own (.s (.s .z)))) (kT_27_mk (crashDisk x ks) (tr.own (.s (.s (.s (.s (.s (.s (.s (.s .z))))))))) (tr.own (.s (.s (.s (.s (.s (.s (.s (.s (.s .z)))))))))))) ?_
      rintro _ _ ⟨rfl, rfl⟩
      refine FJ.cat .n ?_
      refine FJ.q (goes_list rfl) rfl (by decide) rfl (q_not rfl (.t .z)) ?_
      refine FJ.nil ?_
      refine FJ.then_ ?_
      refine FJ.condN (.t .z) (fun b39 => ?_) (fun b39 => ?_)
      · -- b39: True
        refine FJ.seq ?_
        refine FJ.region ?_
        refine FJ.er (.s (.s (.s (.s (.s (.s (.s (.s (.s (.s (.s (.s (.s (.s (.s (.s (.s (.s (.s (.s (.s (.s (.s (.s (.s (.s (.s (.s (.s .z))))))))))))))))))))))))))))) ?_
        refine FJ.q (goes_list rfl) rfl (by decide) rfl (q_assign rfl .c) ?_
        refine FJ.nil ?_
        refine FJ.then_ ?_
        refine FJ.ret ?_
        refine FJ.thenR ?_
        refine FJ.doneS (res1 rfl .z) .n ?_
        exfalso; first | exact absurd rfl (by assumption) | omega | (simp_all; done)
      · -- b39: False
        refine FJ.skip ?_
        refine FJ.then_ ?_
        refine FJ.seq ?_
        refine FJ.seq ?_
        refine FJ.sel (.c (.s .z) (.c (.s .z) (.c (.s .z) (.c (.s (.s .z)) (.c (.s (.s .z)) (.c (.s (.s (.s .z))) (.c (.s (.s (.s .z))) (.c (.s (.s (.s .z))) (.c (.s (.s (.s .z))) (.c (.s (.s (.s .z))) (.c .z (.c .z (.c .z (.c .z .n)))))))))))))) ?_
        refine FJ.draw [rowA g38 27 3 1 [.int .i64 ((crashDisk x ks).code), .slice Ao36 ((crashDisk x ks).disk.blocks).length co36, .slice Ao37 ((crashDisk x ks).disk.cache).length co37], rowA g29 25 2 1 [.slice Ao27 x.blocks.length co27, .slice Ao28 x.cache.length co28], rowA g22 27 3 1 [.int .i64 ((crashDisk x ks).code), .slice Ao20 ((crashDisk x ks).disk.blocks).length co20, .slice Ao21 ((crashDisk x ks).disk.cache).length co21], rowA g4 34 2 1 [.slice A0_0 x.blocks.length c0_0, .slice A0_1 x.cache.length c0_1]] 5 (by kernel_rfl) ?_
        refine FJ.sch [(0, true), (1, true), (2, false), (3, false), (4, true)] 0 #[true, true, true, true, true] (by rfl) (by kernel_rfl) ?_
        refine FJ.dq rfl rfl rfl (by decide) rfl (.s (.s (.s (.s (.s (.s (.s (.s (.s (.s .z)))))))))) (q_loadA (cs := [.slice Ao27 x.blocks.length co27, .slice Ao28 x.cache.length co28]) rfl ag_25 sz_25 (.t (.s (.s (.s (.s (.s (.s (.s (.s (.s (.s (.s .z)))))))))))) (WS.rows0 (.s .z) (fun i u h => by exact h))) ?_
        refine FJ.dq rfl rfl rfl (by decide) rfl (.s (.s (.s (.s (.s (.s (.s (.s (.s (.s .z)))))))))) (q_loadA (cs := [.slice A0_0 x.blocks.length c0_0, .slice A0_1 x.cache.length c0_1]) rfl ag_34 sz_34 (.t (.s (.s (.s (.s (.s (.s (.s (.s (.s (.s (.s (.s (.s (.s (.s (.s (.s (.s (.s (.s (.s (.s (.s (.s (.s (.s (.s (.s (.s (.s (.s .z)))))))))))))))))))))))))))))))) (WS.rows0 (.s (.s (.s .z))) (fun i u h => by exact h))) ?_
        refine FJ.call (goes_sch rfl rfl) rfl (by decide) rfl (c_call rfl Try.func27 rfl rfl (args1 (.t .z))) .n (fun w1 S1 hs tr => c_27 (kT_34_mk x (tr.ctx h0_0) (tr.ctx h0_1))) ?_
        rintro _ _ ⟨v40, v42, rfl, rfl⟩
        refine FJ.cat (.c (.c .n)) ?_
        refine FJ.know (WS.oform .z) ?_
        rintro ⟨Ao44, co44, rfl, hlo44, hmo44, hbo44⟩
        refine FJ.know (WS.oform (.s .z)) ?_
        rintro ⟨Ao45, co45, rfl, hlo45, hmo45, hbo45⟩
        refine FJ.sk (.s (.s (.s (.s (.s (.s (.s (.s (.s (.s (.s (.s .z)))))))))))) ?_
        refine FJ.call (goes_sch rfl rfl) rfl (by decide) rfl (c_call rfl Try.func29 rfl rfl (args2 (.t (.s (.s .z))) (.t .z))) .n (fun w1 S1 hs tr => c_29 (kT_25_mk x (tr.own (.s (.s (.s (.s (.s .z)))))) (tr.own (.s (.s (.s (.s (.s (.s .z)))))))) (kT_25_mk x (tr.own .z) (tr.own (.s .z)))) ?_
        rintro _ _ ⟨rfl, rfl⟩
        refine FJ.cat .n ?_
        refine FJ.sk (.s (.s (.s (.s (.s (.s (.s (.s (.s (.s (.s (.s .z)))))))))))) ?_
        refine FJ.dq rfl rfl rfl (by decide) rfl (.s (.s (.s (.s (.s (.s (.s (.s (.s (.s (.s (.s .z)))))))))))) (q_not rfl (.t .z)) ?_
        refine FJ.schN ?_
        refine FJ.drawN (by kernel_rfl) ?_
        refine FJ.then_ ?_
        refine FJ.condN (.t .z) (fun b46 => ?_) (fun b46 => ?_)
        · -- b46: True
          refine FJ.seq ?_
          refine FJ.region ?_
          refine FJ.er (.s (.s (.s (.s (.s (.s (.s (.s (.s (.s (.s (.s (.s (.s (.s (.s (.s (.s (.s (.s (.s (.s (.s (.s (.s (.s (.s (.s (.s (.s (.s (.s (.s (.s .z)))))))))))))))))))))))))))))))))) ?_
          refine FJ.q (goes_list rfl) rfl (by decide) rfl (q_assign rfl .c) ?_
          refine FJ.nil ?_
          refine FJ.then_ ?_
          refine FJ.ret ?_
          refine FJ.thenR ?_
          refine FJ.doneS (res1 rfl .z) .n ?_
          exfalso; first | exact absurd rfl (by assumption) | omega | (simp_all; done)
        · -- b46: False
          refine FJ.skip ?_
          refine FJ.then_ ?_
          refine FJ.seq ?_
          refine FJ.seq ?_
          refine FJ.region ?_
          refine FJ.q (goes_list rfl) rfl (by decide) rfl (q_move rfl (.t (.s (.s (.s (.s (.s (.s (.s (.s (.s (.s (.s (.s (.s .z))))))))))))))) ?_
          refine FJ.q (goes_list rfl) rfl (by decide) rfl (q_move rfl (.t (.s (.s (.s (.s (.s (.s (.s (.s (.s (.s (.s (.s (.s (.s (.s (.s (.s (.s (.s (.s (.s (.s (.s (.s (.s (.s (.s (.s (.s (.s (.s (.s (.s (.s (.s (.s (.s (.s .z)))))))))))))))))))))))))))))))))))))))) ?_
          refine FJ.call (goes_list rfl) rfl (by decide) rfl (c_call rfl Try.func61 rfl rfl (args1 (.t .z))) .n (fun w1 S1 hs tr => c_61 (tr.ctx h1)) ?_
          rintro _ _ rfl
          refine FJ.cat (.c .n) ?_
          refine FJ.know (WS.oform .z) ?_
          rintro ⟨Ao48, co48, rfl, hlo48, hmo48, hbo48⟩
          refine FJ.call (goes_list rfl) rfl (by decide) rfl (c_call rfl Try.func62 rfl rfl (args2 (.t (.s (.s .z))) (.t .z))) .n (fun w1 S1 hs tr => c_62 (tr.own (.s (.s (.s (.s (.s .z)))))) (tr.own .z)) ?_
          rintro _ _ ⟨rfl, rfl⟩
          refine FJ.cat .n ?_
          refine FJ.q (goes_list rfl) rfl (by decide) rfl (q_not rfl (.t .z)) ?_
          refine FJ.nil ?_
          refine FJ.then_ ?_
          refine FJ.condN (.t .z) (fun b49 => ?_) (fun b49 => ?_)
          · -- b49: True
            refine FJ.seq ?_
            refine FJ.region ?_
            refine FJ.er (.s (.s (.s (.s (.s (.s (.s (.s (.s (.s (.s (.s (.s (.s (.s (.s (.s (.s (.s (.s (.s (.s (.s (.s (.s (.s (.s (.s (.s (.s (.s (.s (.s (.s (.s (.s (.s (.s (.s .z))))))))))))))))))))))))))))))))))))))) ?_
            refine FJ.q (goes_list rfl) rfl (by decide) rfl (q_assign rfl .c) ?_
            refine FJ.nil ?_
            refine FJ.then_ ?_
            refine FJ.ret ?_
            refine FJ.thenR ?_
            refine FJ.doneS (res1 rfl .z) .n ?_
            exfalso; first | exact absurd rfl (by assumption) | omega | (simp_all; done)
          · -- b49: False
            refine FJ.skip ?_
            refine FJ.then_ ?_
            refine FJ.seq ?_
            refine FJ.region ?_
            refine FJ.q (goes_list rfl) rfl (by decide) rfl (q_assign rfl .c) ?_
            refine FJ.nil ?_
            refine FJ.then_ ?_
            refine FJ.seq ?_
            refine FJ.region ?_
            refine FJ.q (goes_list rfl) rfl (by decide) rfl (q_loadA (cs := [.slice Ao27 x.blocks.length co27, .slice Ao28 x.cache.length co28]) rfl ag_25 sz_25 (.t (.s (.s (.s (.s (.s (.s (.s (.s (.s (.s (.s (.s (.s (.s (.s (.s (.s (.s (.s (.s (.s (.s .z))))))))))))))))))))))) (WS.rows0 (.s (.s (.s (.s (.s (.s (.s (.s (.s (.s (.s (.s (.s (.s .z)))))))))))))) (fun i u h => by exact h))) ?_
            refine FJ.q (goes_list rfl) rfl (by decide) rfl (q_move rfl (.t (.s .z))) ?_
            refine FJ.call (goes_list rfl) rfl (by decide) rfl (c_call rfl Try.func44 rfl rfl (args2 (.t (.s .z)) (.t .z))) (.c (.s (.s (.s (.s (.s (.s .z)))))) (.c (.s (.s (.s (.s (.s (.s .z)))))) .n)) (fun w1 S1 hs tr => c_44 _ hs (by omega) (by first | omega | (omega))) ?_
            rintro _ _ ⟨rfl, rfl⟩
            refine FJ.cat (.c (.c .n)) ?_
            refine FJ.er (.s (.s (.s .z))) ?_
            refine FJ.q (goes_list rfl) rfl (by decide) rfl (q_assign rfl (.t .z)) ?_
            refine FJ.nil ?_
            refine FJ.then_ ?_
            refine FJ.seq ?_
            refine FJ.region ?_
            refine FJ.q (goes_list rfl) rfl (by decide) rfl (q_move rfl (.t (.s (.s (.s (.s (.s (.s (.s (.s (.s (.s (.s (.s (.s (.s (.s (.s (.s (.s (.s (.s (.s (.s .z)))))))))))))))))))))))) ?_
            refine FJ.q (goes_list rfl) rfl (by decide) rfl (q_move rfl (.t (.s .z))) ?_
            refine FJ.call (goes_list rfl) rfl (by decide) rfl (c_call rfl Try.func63 rfl rfl (args2 (.t (.s .z)) (.t .z))) (.c (.s (.s (.s (.s (.s (.s (.s .z))))))) .n) (fun w1 S1 hs tr => c_63 _ hs (by omega) (by first | omega | (omega))) ?_
            rintro _ _ ⟨rfl, rfl⟩
            refine FJ.cat (.c .n) ?_
            refine FJ.er (.s (.s (.s .z))) ?_
            refine FJ.q (goes_list rfl) rfl (by decide) rfl (q_assign rfl (.t .z)) ?_
            refine FJ.nil ?_
            refine FJ.then_ ?_
            refine FJ.seq ?_
            refine FJ.seq ?_
            refine FJ.region ?_
            refine FJ.q (goes_list rfl) rfl (by decide) rfl (q_move rfl (.t .z)) ?_
            refine FJ.q (goes_list rfl) rfl (by decide) rfl (q_lss rfl (.t .z) .c) ?_
            refine FJ.q (goes_list rfl) rfl (by decide) rfl (q_move rfl (.t .z)) ?_
            refine FJ.caseP .z (fun g50 => ?_) (fun g50 => ?_)
            · -- g50: True
              refine FJ.skipl rfl rfl .z rfl rfl (by decide) rfl ?_
              refine FJ.skipl rfl rfl (.s .z) rfl rfl (by decide) rfl ?_
              refine FJ.skipl rfl rfl (.s (.s .z)) rfl rfl (by decide) rfl ?_
              refine FJ.skipl rfl rfl (.s (.s (.s .z))) rfl rfl (by decide) rfl ?_
              refine FJ.q (goes_list rfl) rfl (by decide) rfl (q_pickT rfl (.t (.s (.s (.s (.s .z))))) .c) ?_
              refine FJ.nil ?_
              refine FJ.then_ ?_
              refine FJ.condT (.t .z) ?_
              refine FJ.seq ?_
              refine FJ.region ?_
              refine FJ.er (.s (.s (.s (.s (.s (.s (.s (.s (.s (.s (.s (.s (.s (.s (.s (.s (.s (.s (.s (.s (.s (.s (.s (.s (.s (.s (.s (.s (.s (.s (.s (.s (.s (.s (.s (.s (.s (.s (.s (.s (.s (.s (.s (.s (.s (.s (.s (.s (.s (.s (.s (.s (.s (.s .z)))))))))))))))))))))))))))))))))))))))))))))))))))))) ?_
              refine FJ.q (goes_list rfl) rfl (by decide) rfl (q_assign rfl .c) ?_
              refine FJ.nil ?_
              refine FJ.then_ ?_
              refine FJ.ret ?_
              refine FJ.thenR ?_
              refine FJ.doneS (res1 rfl .z) .n ?_
              exfalso; first | exact absurd rfl (by assumption) | omega | (simp_all; done)
            · -- g50: False
              refine FJ.q (goes_listg rfl rfl .z) rfl (by decide) rfl (q_loadA (cs := [.int .i64 ((crashDisk x ks).code), .slice Ao36 ((crashDisk x ks).disk.blocks).length co36, .slice Ao37 ((crashDisk x ks).disk.cache).length co37]) rfl ag_27 sz_27 (.t (.s (.s (.s (.s (.s (.s (.s (.s (.s (.s (.s (.s (.s (.s (.s (.s (.s (.s (.s (.s (.s (.s (.s (.s .z))))))))))))))))))))))))) (WS.rows0 (.s (.s (.s (.s (.s (.s (.s (.s (.s (.s (.s (.s (.s .z))))))))))))) (fun i u h => by exact h))) ?_
              refine FJ.q (goes_listg rfl rfl (.s .z)) rfl (by decide) rfl (q_loadA (cs := [.int .i64 ((crashDisk x ks).code), .slice Ao20 ((crashDisk x ks).disk.blocks).length co20, .slice Ao21 ((crashDisk x ks).disk.cache).length co21]) rfl ag_27 sz_27 (.t (.s (.s (.s (.s (.s (.s (.s (.s (.s (.s (.s (.s (.s (.s (.s (.s (.s (.s (.s (.s (.s (.s (.s (.s (.s (.s (.s (.s (.s (.s (.s (.s (.s (.s (.s .z)))))))))))))))))))))))))))))))))))) (WS.rows0 (.s (.s (.s (.s (.s (.s (.s (.s (.s (.s (.s (.s (.s (.s (.s .z))))))))))))))) (fun i u h => by exact h))) ?_
              refine FJ.call (goes_listg rfl rfl (.s (.s .z))) rfl (by decide) rfl (c_call rfl Try.func22 rfl rfl (args2 (.t (.s .z)) (.t .z))) .n (fun w1 S1 hs tr => c_22 (kT_27_mk (crashDisk x ks) (tr.own (.s (.s (.s (.s (.s (.s .z))))))) (tr.own (.s (.s (.s (.s (.s (.s (.s .z))))))))) (kT_27_mk (crashDisk x ks) (tr.own (.s (.s (.s (.s (.s (.s (.s (.s .z))))))))) (tr.own (.s (.s (.s (.s (.s (.s (.s (.s (.s .z)))))))))))) ?_
              rintro _ _ ⟨rfl, rfl⟩
              refine FJ.cat .n ?_
              refine FJ.q (goes_listg rfl rfl (.s (.s (.s .z)))) rfl (by decide) rfl (q_not rfl (.t .z)) ?_
              refine FJ.q (goes_list rfl) rfl (by decide) rfl (q_pickF rfl (.t (.s (.s (.s (.s .z))))) (.t .z)) ?_
              refine FJ.nil ?_
              refine FJ.then_ ?_
              refine FJ.condN (.t .z) (fun b51 => ?_) (fun b51 => ?_)
              · -- b51: True
                refine FJ.seq ?_
                refine FJ.region ?_
                refine FJ.er (.s (.s (.s (.s (.s (.s (.s (.s (.s (.s (.s (.s (.s (.s (.s (.s (.s (.s (.s (.s (.s (.s (.s (.s (.s (.s (.s (.s (.s (.s (.s (.s (.s (.s (.s (.s (.s (.s (.s (.s (.s (.s (.s (.s (.s (.s (.s (.s (.s (.s (.s (.s (.s (.s .z)))))))))))))))))))))))))))))))))))))))))))))))))))))) ?_
                refine FJ.q (goes_list rfl) rfl (by decide) rfl (q_assign rfl .c) ?_
                refine FJ.nil ?_
                refine FJ.then_ ?_
                refine FJ.ret ?_
                refine FJ.thenR ?_
                refine FJ.doneS (res1 rfl .z) .n ?_
                exfalso; first | exact absurd rfl (by assumption) | omega | (simp_all; done)
              · -- b51: False
                refine FJ.skip ?_
                refine FJ.then_ ?_
                refine FJ.seq ?_
                refine FJ.region ?_
                refine FJ.q (goes_list rfl) rfl (by decide) rfl (q_assign rfl .c) ?_
                refine FJ.nil ?_
                refine FJ.then_ ?_
                refine FJ.seq ?_
                refine FJ.region ?_
                refine FJ.q (goes_list rfl) rfl (by decide) rfl (q_loadA (cs := [.int .i64 ((crashDisk x ks).code), .slice Ao36 ((crashDisk x ks).disk.blocks).length co36, .slice Ao37 ((crashDisk x ks).disk.cache).length co37]) rfl ag_27 sz_27 (.t (.s (.s (.s (.s (.s (.s (.s (.s (.s (.s (.s (.s (.s (.s (.s (.s (.s (.s (.s (.s (.s (.s (.s (.s (.s (.s (.s (.s (.s (.s .z))))))))))))))))))))))))))))))) (WS.rows0 (.s (.s (.s (.s (.s (.s (.s (.s (.s (.s (.s (.s (.s .z))))))))))))) (fun i u h => by exact h))) ?_
                refine FJ.q (goes_list rfl) rfl (by decide) rfl (q_move rfl (.t (.s .z))) ?_
                refine FJ.call (goes_list rfl) rfl (by decide) rfl (c_call rfl Try.func23 rfl rfl (args2 (.t (.s .z)) (.t .z))) (.c (.s (.s (.s (.s (.s (.s .z)))))) (.c (.s (.s (.s (.s (.s (.s .z)))))) .n)) (fun w1 S1 hs tr => c_23 _ hs (by omega) (by first | omega | (omega))) ?_
                rintro _ _ ⟨rfl, rfl⟩
                refine FJ.cat (.c (.c .n)) ?_
                refine FJ.er (.s (.s (.s .z))) ?_
                refine FJ.q (goes_list rfl) rfl (by decide) rfl (q_assign rfl (.t .z)) ?_
                refine FJ.nil ?_
                refine FJ.then_ ?_
                refine FJ.seq ?_
                refine FJ.region ?_
                refine FJ.q (goes_list rfl) rfl (by decide) rfl (q_assign rfl .c) ?_
                refine FJ.nil ?_
                refine FJ.then_ ?_
                refine FJ.seq ?_
                refine FJ.region ?_
                refine FJ.q (goes_list rfl) rfl (by decide) rfl (q_loadA (cs := [.int .i64 ((crashDisk x ks).code), .slice Ao36 ((crashDisk x ks).disk.blocks).length co36, .slice Ao37 ((crashDisk x ks).disk.cache).length co37]) rfl ag_27 sz_27 (.t (.s (.s (.s (.s (.s (.s (.s (.s (.s (.s (.s (.s (.s (.s (.s (.s (.s (.s (.s (.s (.s (.s (.s (.s (.s (.s (.s (.s (.s (.s (.s (.s (.s (.s .z))))))))))))))))))))))))))))))))))) (WS.rows0 (.s (.s (.s (.s (.s (.s (.s (.s (.s (.s (.s (.s (.s .z))))))))))))) (fun i u h => by exact h))) ?_
                refine FJ.q (goes_list rfl) rfl (by decide) rfl (q_move rfl (.t (.s .z))) ?_
                refine FJ.call (goes_list rfl) rfl (by decide) rfl (c_call rfl Try.func24 rfl rfl (args2 (.t (.s .z)) (.t .z))) .n (fun w1 S1 hs tr => c_24 (kT_27_mk (⟨(crashDisk x ks).code, (⟨(vmark_RDisk 1 (crashDisk x ks)).disk.blocks, (vmark_RDisk 1 (crashDisk x ks)).disk.cache⟩ : DDisk)⟩ : RDisk) (tr.own .z) (tr.own (.s .z))) _ (crashDisk x ks) rfl (by omega) (by first | omega | (omega))) ?_
                rintro _ _ ⟨rfl, rfl⟩
                refine FJ.cat .n ?_
                refine FJ.er (.s (.s (.s .z))) ?_
                refine FJ.q (goes_list rfl) rfl (by decide) rfl (q_assign rfl (.t .z)) ?_
                refine FJ.nil ?_
                refine FJ.then_ ?_
                refine FJ.seq ?_
                refine FJ.seq ?_
                refine FJ.region ?_
                refine FJ.q (goes_list rfl) rfl (by decide) rfl (q_move rfl (.t .z)) ?_
                refine FJ.q (goes_list rfl) rfl (by decide) rfl (q_lss rfl (.t .z) .c) ?_
                refine FJ.nil ?_
                refine FJ.then_ ?_
                refine FJ.condP (.t .z) (fun b52 => ?_) (fun b52 => ?_)
                · -- b52: True
                  refine FJ.seq ?_
                  refine FJ.region ?_
                  refine FJ.er (.s (.s (.s (.s (.s (.s (.s (.s (.s (.s (.s (.s (.s (.s (.s (.s (.s (.s (.s (.s (.s (.s (.s (.s (.s (.s (.s (.s (.s (.s (.s (.s (.s (.s (.s (.s (.s (.s (.s (.s (.s (.s (.s (.s (.s (.s (.s (.s (.s (.s (.s (.s (.s (.s (.s (.s (.s (.s (.s (.s (.s (.s (.s (.s .z)))))))))))))))))))))))))))))))))))))))))))))))))))))))))))))))) ?_
                  refine FJ.q (goes_list rfl) rfl (by decide) rfl (q_assign rfl .c) ?_
                  refine FJ.nil ?_
                  refine FJ.then_ ?_
                  refine FJ.ret ?_
                  refine FJ.thenR ?_
                  refine FJ.doneS (res1 rfl .z) .n ?_
                  exfalso; first | exact absurd rfl (by assumption) | omega | (simp_all; done)
                · -- b52: False
                  refine FJ.skip ?_
                  refine FJ.then_ ?_
                  refine FJ.seq ?_
                  refine FJ.seq ?_
                  refine FJ.region ?_
                  refine FJ.q (goes_list rfl) rfl (by decide) rfl (q_move rfl (.t (.s (.s .z)))) ?_
                  refine FJ.q (goes_list rfl) rfl (by decide) rfl (q_move rfl (.t (.s (.s (.s (.s (.s (.s (.s .z))))))))) ?_
                  refine FJ.q (goes_list rfl) rfl (by decide) rfl (q_neq rfl (.t (.s .z)) (.t .z)) ?_
                  refine FJ.nil ?_
                  refine FJ.then_ ?_
                  refine FJ.condN (.t .z) (fun b53 => ?_) (fun b53 => ?_)
                  · -- b53: True
                    refine FJ.seq ?_
                    refine FJ.region ?_
                    refine FJ.er (.s (.s (.s (.s (.s (.s (.s (.s (.s (.s (.s (.s (.s (.s (.s (.s (.s (.s (.s (.s (.s (.s (.s (.s (.s (.s (.s (.s (.s (.s (.s (.s (.s (.s (.s (.s (.s (.s (.s (.s (.s (.s (.s (.s (.s (.s (.s (.s (.s (.s (.s (.s (.s (.s (.s (.s (.s (.s (.s (.s (.s (.s (.s (.s (.s (.s (.s .z))))))))))))))))))))))))))))))))))))))))))))))))))))))))))))))))))) ?_
                    refine FJ.q (goes_list rfl) rfl (by decide) rfl (q_assign rfl .c) ?_
                    refine FJ.nil ?_
                    refine FJ.then_ ?_
                    refine FJ.ret ?_
                    refine FJ.thenR ?_
                    refine FJ.doneS (res1 rfl .z) .n ?_
                    exfalso; first | exact absurd rfl (by assumption) | omega | (simp_all; done)
                  · -- b53: False
                    refine FJ.skip ?_
                    refine FJ.then_ ?_
                    refine FJ.seq ?_
                    refine FJ.region ?_
                    refine FJ.q (goes_list rfl) rfl (by decide) rfl (q_loadA (cs := [.slice A0_0 x.blocks.length c0_0, .slice A0_1 x.cache.length c0_1]) rfl ag_34 sz_34 (.t (.s (.s (.s (.s (.s (.s (.s (.s (.s (.s (.s (.s (.s (.s (.s (.s (.s (.s (.s (.s (.s (.s (.s (.s (.s (.s (.s (.s (.s (.s (.s (.s (.s (.s (.s (.s (.s (.s (.s (.s (.s (.s (.s (.s (.s (.s (.s (.s (.s (.s (.s (.s (.s (.s (.s (.s (.s (.s (.s (.s (.s (.s (.s (.s (.s (.s (.s (.s .z))))))))))))))))))))))))))))))))))))))))))))))))))))))))))))))))))))) (WS.rows0 (.s (.s (.s (.s (.s (.s (.s (.s (.s (.s (.s (.s (.s (.s (.s (.s .z)))))))))))))))) (fun i u h => by exact h))) ?_
                    refine FJ.call (goes_list rfl) rfl (by decide) rfl (c_call rfl Try.func27 rfl rfl (args1 (.t .z))) .n (fun w1 S1 hs tr => c_27 (kT_34_mk x (tr.ctx h0_0) (tr.ctx h0_1))) ?_
                    rintro _ _ ⟨v54, v56, rfl, rfl⟩
                    refine FJ.cat (.c (.c .n)) ?_
                    refine FJ.know (WS.oform .z) ?_
                    rintro ⟨Ao58, co58, rfl, hlo58, hmo58, hbo58⟩
                    refine FJ.know (WS.oform (.s .z)) ?_
                    rintro ⟨Ao59, co59, rfl, hlo59, hmo59, hbo59⟩
                    refine FJ.q (goes_list rfl) rfl (by decide) rfl (q_move rfl (.t (.s (.s (.s (.s (.s (.s (.s (.s (.s (.s (.s (.s (.s (.s (.s (.s (.s (.s (.s (.s (.s (.s (.s (.s (.s (.s (.s (.s (.s (.s (.s (.s (.s (.s (.s (.s (.s (.s (.s (.s (.s (.s (.s (.s (.s (.s (.s (.s (.s (.s (.s (.s (.s (.s (.s (.s (.s (.s (.s (.s (.s (.s (.s (.s (.s (.s (.s (.s (.s (.s (.s (.s .z)))))))))))))))))))))))))))))))))))))))))))))))))))))))))))))))))))))))))) ?_
                    refine FJ.call (goes_list rfl) rfl (by decide) rfl (c_call rfl Try.func61 rfl rfl (args1 (.t .z))) .n (fun w1 S1 hs tr => c_61 (tr.ctx h1)) ?_
                    rintro _ _ rfl
                    refine FJ.cat (.c .n) ?_
                    refine FJ.know (WS.oform .z) ?_
                    rintro ⟨Ao61, co61, rfl, hlo61, hmo61, hbo61⟩
                    refine FJ.call (goes_list rfl) rfl (by decide) rfl (c_call rfl Try.func37 rfl rfl (args2 (.t (.s (.s .z))) (.t .z))) .n (fun w1 S1 hs tr => c_37 (kT_25_mk x (tr.own (.s .z)) (tr.own (.s (.s .z)))) (tr.own .z)) ?_
                    rintro _ _ ⟨v62, v64, rfl, rfl⟩
                    refine FJ.cat (.c (.c .n)) ?_
                    refine FJ.know (WS.oform .z) ?_
                    rintro ⟨Ao66, co66, rfl, hlo66, hmo66, hbo66⟩
                    refine FJ.know (WS.oform (.s .z)) ?_
                    rintro ⟨Ao67, co67, rfl, hlo67, hmo67, hbo67⟩
                    refine FJ.e (goes_list rfl) rfl (by decide) rfl (e_alloc rfl z_27 rfl rfl) ?_
                    rintro _ _ ⟨g68, rfl, rfl⟩
                    refine FJ.es (goes_list rfl) rfl (es_store (off := 0) (cs := [.int .i64 ((crashDisk x ks).code), .slice Ao66 ((crashDisk x ks).disk.blocks).length co66, .slice Ao67 ((crashDisk x ks).disk.cache).length co67]) rfl sz_27 (.t .z) (.t (.s .z)) rfl (ones rfl) .z (Nat.le_of_ble_eq_true rfl) (.c .z (.c (.s .z) (.c (.s (.s .z)) .n)))) ?_
                    refine FJ.nil ?_
                    refine FJ.then_ ?_
                    refine FJ.seq ?_
                    refine FJ.seq ?_
                    refine FJ.region ?_
                    refine FJ.q (goes_list rfl) rfl (by decide) rfl (q_loadA (cs := [.int .i64 ((crashDisk x ks).code), .slice Ao66 ((crashDisk x ks).disk.blocks).length co66, .slice Ao67 ((crashDisk x ks).disk.cache).length co67]) rfl ag_27 sz_27 (.t .z) (WS.rows0 .z (fun i u h => by exact h))) ?_
                    refine FJ.q (goes_list rfl) rfl (by decide) rfl (q_loadA (cs := [.int .i64 ((crashDisk x ks).code), .slice Ao20 ((crashDisk x ks).disk.blocks).length co20, .slice Ao21 ((crashDisk x ks).disk.cache).length co21]) rfl ag_27 sz_27 (.t (.s (.s (.s (.s (.s (.s (.s (.s (.s (.s (.s (.s (.s (.s (.s (.s (.s (.s (.s (.s (.s (.s (.s (.s (.s (.s (.s (.s (.s (.s (.s (.s (.s (.s (.s (.s (.s (.s (.s (.s (.s (.s (.s (.s (.s (.s (.s (.s (.s (.s (.s (.s (.s (.s (.s (.s (.s (.s (.s .z)))))))))))))))))))))))))))))))))))))))))))))))))))))))))))) (WS.rows0 (.s (.s (.s (.s (.s (.s (.s (.s (.s (.s (.s (.s (.s (.s (.s (.s (.s (.s (.s (.s (.s .z))))))))))))))))))))) (fun i u h => by exact h))) ?_
                    refine FJ.call (goes_list rfl) rfl (by decide) rfl (c_call rfl Try.func22 rfl rfl (args2 (.t (.s .z)) (.t .z))) .n (fun w1 S1 hs tr => c_22 (kT_27_mk (crashDisk x ks) (tr.own (.s .z)) (tr.own (.s (.s .z)))) (kT_27_mk (crashDisk x ks) (tr.own (.s (.s (.s (.s (.s (.s (.s (.s (.s (.s (.s (.s (.s (.s .z))))))))))))))) (tr.own (.s (.s (.s (.s (.s (.s (.s (.s (.s (.s (.s (.s (.s (.s (.s .z)))))))))))))))))) ?_
                    rintro _ _ ⟨rfl, rfl⟩
                    refine FJ.cat .n ?_
                    refine FJ.q (goes_list rfl) rfl (by decide) rfl (q_not rfl (.t .z)) ?_
                    refine FJ.nil ?_
                    refine FJ.then_ ?_
                    refine FJ.condN (.t .z) (fun b69 => ?_) (fun b69 => ?_)
                    · -- b69: True
                      refine FJ.seq ?_
                      refine FJ.region ?_
                      refine FJ.er (.s (.s (.s (.s (.s (.s (.s (.s (.s (.s (.s (.s (.s (.s (.s (.s (.s (.s (.s (.s (.s (.s (.s (.s (.s (.s (.s (.s (.s (.s (.s (.s (.s (.s (.s (.s (.s (.s (.s (.s (.s (.s (.s (.s (.s (.s (.s (.s (.s (.s (.s (.s (.s (.s (.s (.s (.s (.s (.s (.s (.s (.s (.s (.s (.s (.s (.s (.s (.s (.s (.s (.s (.s (.s (.s (.s (.s .z))))))))))))))))))))))))))))))))))))))))))))))))))))))))))))))))))))))))))))) ?_
                      refine FJ.q (goes_list rfl) rfl (by decide) rfl (q_assign rfl .c) ?_
                      refine FJ.nil ?_
                      refine FJ.then_ ?_
                      refine FJ.ret ?_
                      refine FJ.thenR ?_
                      refine FJ.doneS (res1 rfl .z) .n ?_
                      exfalso; first | exact absurd rfl (by assumption) | omega | (simp_all; done)
                    · -- b69: False
                      refine FJ.skip ?_
                      refine FJ.then_ ?_
                      refine FJ.seq ?_
                      refine FJ.region ?_
                      refine FJ.er (.s (.s (.s (.s (.s (.s (.s (.s (.s (.s (.s (.s (.s (.s (.s .z))))))))))))))) ?_
                      refine FJ.q (goes_list rfl) rfl (by decide) rfl (q_assign rfl .c) ?_
                      refine FJ.nil ?_
                      refine FJ.then_ ?_
                      refine FJ.seq ?_
                      refine FJ.region ?_
                      refine FJ.q (goes_list rfl) rfl (by decide) rfl (q_loadA (cs := [.int .i64 ((crashDisk x ks).code), .slice Ao36 ((crashDisk x ks).disk.blocks).length co36, .slice Ao37 ((crashDisk x ks).disk.cache).length co37]) rfl ag_27 sz_27 (.t (.s (.s (.s (.s (.s (.s (.s (.s (.s (.s (.s (.s (.s (.s (.s (.s (.s (.s (.s (.s (.s (.s (.s (.s (.s (.s (.s (.s (.s (.s (.s (.s (.s (.s (.s (.s (.s (.s (.s (.s (.s (.s (.s (.s (.s (.s (.s (.s (.s (.s (.s (.s .z))))))))))))))))))))))))))))))))))))))))))))))))))))) (WS.rows0 (.s (.s (.s (.s (.s (.s (.s (.s (.s (.s (.s (.s (.s (.s (.s (.s (.s (.s (.s .z))))))))))))))))))) (fun i u h => by exact h))) ?_
                      refine FJ.q (goes_list rfl) rfl (by decide) rfl (q_move rfl (.t (.s .z))) ?_
                      refine FJ.call (goes_list rfl) rfl (by decide) rfl (c_call rfl Try.func24 rfl rfl (args2 (.t (.s .z)) (.t .z))) .n (fun w1 S1 hs tr => c_24 (kT_27_mk (⟨(crashDisk x ks).code, (⟨(vmark_RDisk 1 (crashDisk x ks)).disk.blocks, (vmark_RDisk 1 (crashDisk x ks)).disk.cache⟩ : DDisk)⟩ : RDisk) (tr.own (.s (.s (.s (.s (.s (.s .z))))))) (tr.own (.s (.s (.s (.s (.s (.s (.s .z))))))))) _ (crashDisk x ks) rfl (by omega) (by first | omega | (omega))) ?_
                      rintro _ _ ⟨rfl, rfl⟩
                      refine FJ.cat .n ?_
                      refine FJ.er (.s (.s (.s .z))) ?_
                      refine FJ.q (goes_list rfl) rfl (by decide) rfl (q_assign rfl (.t .z)) ?_
                      refine FJ.nil ?_
                      refine FJ.then_ ?_
                      refine FJ.seq ?_
                      refine FJ.seq ?_
                      refine FJ.region ?_
                      refine FJ.q (goes_list rfl) rfl (by decide) rfl (q_move rfl (.t .z)) ?_
                      refine FJ.q (goes_list rfl) rfl (by decide) rfl (q_lss rfl (.t .z) .c) ?_
                      refine FJ.nil ?_
                      refine FJ.then_ ?_
                      refine FJ.condP (.t .z) (fun b70 => ?_) (fun b70 => ?_)
                      · -- b70: True
                        refine FJ.seq ?_
                        refine FJ.region ?_
                        refine FJ.er (.s (.s (.s (.s (.s (.s (.s (.s (.s (.s (.s (.s (.s (.s (.s (.s (.s (.s (.s (.s (.s (.s (.s (.s (.s (.s (.s (.s (.s (.s (.s (.s (.s (.s (.s (.s (.s (.s (.s (.s (.s (.s (.s (.s (.s (.s (.s (.s (.s (.s (.s (.s (.s (.s (.s (.s (.s (.s (.s (.s (.s (.s (.s (.s (.s (.s (.s (.s (.s (.s (.s (.s (.s (.s (.s (.s (.s (.s (.s (.s (.s (.s .z)))))))))))))))))))))))))))))))))))))))))))))))))))))))))))))))))))))))))))))))))) ?_
                        refine FJ.q (goes_list rfl) rfl (by decide) rfl (q_assign rfl .c) ?_
                        refine FJ.nil ?_
                        refine FJ.then_ ?_
                        refine FJ.ret ?_
                        refine FJ.thenR ?_
                        refine FJ.doneS (res1 rfl .z) .n ?_
                        exfalso; first | exact absurd rfl (by assumption) | omega | (simp_all; done)
                      · -- b70: False
                        refine FJ.skip ?_
                        refine FJ.then_ ?_
                        refine FJ.seq ?_
                        refine FJ.seq ?_
                        refine FJ.region ?_
                        refine FJ.q (goes_list rfl) rfl (by decide) rfl (q_move rfl (.t (.s (.s .z)))) ?_
                        refine FJ.q (goes_list rfl) rfl (by decide) rfl (q_move rfl (.t (.s (.s (.s (.s (.s (.s (.s (.s (.s (.s (.s (.s (.s (.s (.s (.s (.s (.s (.s (.s (.s (.s (.s (.s (.s .z))))))))))))))))))))))))))) ?_
                        refine FJ.q (goes_list rfl) rfl (by decide) rfl (q_neq rfl (.t (.s .z)) (.t .z)) ?_
                        refine FJ.nil ?_
                        refine FJ.then_ ?_
                        refine FJ.condN (.t .z) (fun b71 => ?_) (fun b71 => ?_)
                        · -- b71: True
                          refine FJ.seq ?_
                          refine FJ.region ?_
                          refine FJ.er (.s (.s (.s (.s (.s (.s (.s (.s (.s (.s (.s (.s (.s (.s (.s (.s (.s (.s (.s (.s (.s (.s (.s (.s (.s (.s (.s (.s (.s (.s (.s (.s (.s (.s (.s (.s (.s (.s (.s (.s (.s (.s (.s (.s (.s (.s (.s (.s (.s (.s (.s (.s (.s (.s (.s (.s (.s (.s (.s (.s (.s (.s (.s (.s (.s (.s (.s (.s (.s (.s (.s (.s (.s (.s (.s (.s (.s (.s (.s (.s (.s (.s (.s (.s (.s .z))))))))))))))))))))))))))))))))))))))))))))))))))))))))))))))))))))))))))))))))))))) ?_
                          refine FJ.q (goes_list rfl) rfl (by decide) rfl (q_assign rfl .c) ?_
                          refine FJ.nil ?_
                          refine FJ.then_ ?_
                          refine FJ.ret ?_
                          refine FJ.thenR ?_
                          refine FJ.doneS (res1 rfl .z) .n ?_
                          exfalso; first | exact absurd rfl (by assumption) | omega | (simp_all; done)
                        · -- b71: False
                          refine FJ.skip ?_
                          refine FJ.then_ ?_
                          refine FJ.seq ?_
                          refine FJ.region ?_
                          refine FJ.er (.s (.s (.s (.s (.s (.s (.s (.s (.s (.s (.s (.s (.s (.s (.s (.s (.s (.s (.s (.s (.s (.s (.s (.s (.s (.s (.s (.s (.s (.s (.s (.s (.s (.s (.s (.s (.s (.s (.s (.s (.s (.s (.s (.s (.s (.s (.s (.s (.s (.s (.s (.s (.s (.s (.s (.s (.s (.s (.s (.s (.s (.s (.s (.s (.s (.s (.s (.s (.s (.s (.s (.s (.s (.s (.s (.s (.s (.s (.s (.s (.s (.s (.s (.s (.s .z))))))))))))))))))))))))))))))))))))))))))))))))))))))))))))))))))))))))))))))))))))) ?_
                          refine FJ.q (goes_list rfl) rfl (by decide) rfl (q_assign rfl .c) ?_
                          refine FJ.nil ?_
                          refine FJ.then_ ?_
                          refine FJ.ret ?_
                          refine FJ.doneS (res1 rfl .z) .n ?_
                          exact ⟨rfl, rfl⟩

end Go.Proofs.Ytkmcpcahbfdohaa

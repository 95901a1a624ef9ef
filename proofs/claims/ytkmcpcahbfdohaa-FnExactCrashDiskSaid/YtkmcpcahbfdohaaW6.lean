/- What is proved: contracts of functions, one a function. No condition. -/
import Derived.Test.YtkmcpcahbfdohaaW5
import Derived.Test.YtkmcpcahbfdohaaMCount
namespace Go.Proofs.Ytkmcpcahbfdohaa
open Go Go.RowKit
set_option linter.unusedVariables false
set_option linter.unusedSimpArgs false
set_option maxHeartbeats 1000000 in
set_option maxRecDepth 20000 in
theorem c_22 {w0 : World} {S0 : Bs} {x : RDisk} {cs0 : List Value} (h0 : kT_27.ro w0 (FF w0 S0) x cs0) {y : RDisk} {cs1 : List Value} (h1 : kT_27.ro w0 (FF w0 S0) y cs1)  :
    Calls Try.prog 22 #[.agg cs0.toArray, .agg cs1.toArray] w0 (TriPost w0 S0 (fun r l => r = .bool (decide (x = y)) ∧ l = [])) := by
  obtain ⟨u0_1, u0_2, rfl, h0_1, h0_2⟩ := kT_27_ro h0
  obtain ⟨A0_1, c0_1, rfl, hl0_1, hm0_1, hb0_1, he0_1⟩ := ro_form h0_1
  obtain ⟨A0_2, c0_2, rfl, hl0_2, hm0_2, hb0_2, he0_2⟩ := ro_form h0_2
  obtain ⟨u1_1, u1_2, rfl, h1_1, h1_2⟩ := kT_27_ro h1
  obtain ⟨A1_1, c1_1, rfl, hl1_1, hm1_1, hb1_1, he1_1⟩ := ro_form h1_1
  obtain ⟨A1_2, c1_2, rfl, hl1_2, hm1_2, hb1_2, he1_2⟩ := ro_form h1_2
  refine FJ.enter (N := 16) Try.func22 rfl rfl (by simp) [(0, .agg #[.int .i64 x.code, .slice A0_1 x.disk.blocks.length c0_1, .slice A0_2 x.disk.cache.length c0_2]), (1, .agg #[.int .i64 y.code, .slice A1_1 y.disk.blocks.length c1_1, .slice A1_2 y.disk.cache.length c1_2])] (by simp) (l0 := []) trivial ?_
  refine FJ.seq ?_
  refine FJ.region ?_
  refine FJ.e (goes_list rfl) rfl (by decide) rfl (e_box (cs := [.int .i64 x.code, .slice A0_1 x.disk.blocks.length c0_1, .slice A0_2 x.disk.cache.length c0_2]) (n := 3) rfl (.t .z) rfl rfl) ?_
  rintro _ _ ⟨g5, rfl, rfl⟩
  refine FJ.e (goes_list rfl) rfl (by decide) rfl (e_box (cs := [.int .i64 y.code, .slice A1_1 y.disk.blocks.length c1_1, .slice A1_2 y.disk.cache.length c1_2]) (n := 3) rfl (.t (.s (.s .z))) rfl rfl) ?_
  rintro _ _ ⟨g6, rfl, rfl⟩
  refine FJ.q (goes_list rfl) rfl (by decide) rfl (q_assign rfl .c) ?_
  refine FJ.nil ?_
  refine FJ.then_ ?_
  refine FJ.seq ?_
  refine FJ.seq ?_
  refine FJ.region ?_
  refine FJ.q (goes_list rfl) rfl (by decide) rfl (q_fieldAddr rfl (.t (.s (.s .z))) (fun _ => fa_27_0 _ _)) ?_
  refine FJ.q (goes_list rfl) rfl (by decide) rfl (q_load rfl ag_2 (.t .z) (WS.row (.s .z) rfl)) ?_
  refine FJ.q (goes_list rfl) rfl (by decide) rfl (q_fieldAddr rfl (.t (.s (.s (.s .z)))) (fun _ => fa_27_0 _ _)) ?_
  refine FJ.q (goes_list rfl) rfl (by decide) rfl (q_load rfl ag_2 (.t .z) (WS.row .z rfl)) ?_
  refine FJ.q (goes_list rfl) rfl (by decide) rfl (q_neq rfl (.t (.s (.s .z))) (.t .z)) ?_
  refine FJ.nil ?_
  refine FJ.then_ ?_
  refine FJ.condN (.t .z) (fun b7 => ?_) (fun b7 => ?_)
  · -- b7: True
    refine FJ.seq ?_
    refine FJ.region ?_
    refine FJ.er (.s (.s (.s (.s (.s .z))))) ?_
    refine FJ.q (goes_list rfl) rfl (by decide) rfl (q_assign rfl .c) ?_
    refine FJ.nil ?_
    refine FJ.then_ ?_
    refine FJ.ret ?_
    refine FJ.thenR ?_
    refine FJ.doneS (res1 rfl .z) .n ?_
    exact ⟨by rw [decide_eq_false]; rintro rfl; simp_all, rfl⟩
  · -- b7: False
    refine FJ.skip ?_
    refine FJ.then_ ?_
    refine FJ.seq ?_
    refine FJ.seq ?_
    refine FJ.region ?_
    refine FJ.q (goes_list rfl) rfl (by decide) rfl (q_fieldAddr rfl (.t (.s (.s (.s (.s (.s (.s (.s .z)))))))) (fun _ => fa_27_1 _ _)) ?_
    refine FJ.q (goes_list rfl) rfl (by decide) rfl (q_loadA (cs := [.slice A0_1 x.disk.blocks.length c0_1, .slice A0_2 x.disk.cache.length c0_2]) rfl ag_25 sz_25 (.t .z) (WS.rows (.s .z) (sub_at rfl))) ?_
    refine FJ.q (goes_list rfl) rfl (by decide) rfl (q_fieldAddr rfl (.t (.s (.s (.s (.s (.s (.s (.s (.s .z))))))))) (fun _ => fa_27_1 _ _)) ?_
    refine FJ.q (goes_list rfl) rfl (by decide) rfl (q_loadA (cs := [.slice A1_1 y.disk.blocks.length c1_1, .slice A1_2 y.disk.cache.length c1_2]) rfl ag_25 sz_25 (.t .z) (WS.rows .z (sub_at rfl))) ?_
    refine FJ.call (goes_list rfl) rfl (by decide) rfl (c_call rfl Try.func29 rfl rfl (args2 (.t (.s (.s .z))) (.t .z))) .n (fun w1 S1 hs tr => c_29 (kT_25_mk x.disk (tr.ctx h0_1) (tr.ctx h0_2)) (kT_25_mk y.disk (tr.ctx h1_1) (tr.ctx h1_2))) ?_
    rintro _ _ ⟨rfl, rfl⟩
    refine FJ.cat .n ?_
    refine FJ.q (goes_list rfl) rfl (by decide) rfl (q_not rfl (.t .z)) ?_
    refine FJ.nil ?_
    refine FJ.then_ ?_
    refine FJ.condN (.t .z) (fun b8 => ?_) (fun b8 => ?_)
    · -- b8: True
      refine FJ.seq ?_
      refine FJ.region ?_
      refine FJ.er (.s (.s (.s (.s (.s (.s (.s (.s (.s (.s (.s .z))))))))))) ?_
      refine FJ.q (goes_list rfl) rfl (by decide) rfl (q_assign rfl .c) ?_
      refine FJ.nil ?_
      refine FJ.then_ ?_
      refine FJ.ret ?_
      refine FJ.thenR ?_
      refine FJ.doneS (res1 rfl .z) .n ?_
      exact ⟨by rw [decide_eq_false]; rintro rfl; simp_all, rfl⟩
    · -- b8: False
      refine FJ.skip ?_
      refine FJ.then_ ?_
      refine FJ.seq ?_
      refine FJ.region ?_
      refine FJ.er (.s (.s (.s (.s (.s (.s (.s (.s (.s (.s (.s .z))))))))))) ?_
      refine FJ.q (goes_list rfl) rfl (by decide) rfl (q_assign rfl .c) ?_
      refine FJ.nil ?_
      refine FJ.then_ ?_
      refine FJ.ret ?_
      refine FJ.doneS (res1 rfl .z) .n ?_
      exact ⟨by rw [decide_eq_true]; cases x; cases y; simp_all, rfl⟩

set_option maxHeartbeats 1000000 in
set_option maxRecDepth 20000 in
theorem c_3 {w0 : World} {S0 : Bs} (x : Int)  :
    Calls Try.prog 3 #[.int .i64 x] w0 (TriPost w0 S0 (fun r l => r = .bool true ∧ l = [])) := by
  have hb := newDisk_cnt x
  refine FJ.enter (N := 41) Try.func3 rfl rfl (by simp) [(0, .int .i64 x)] (by simp) (l0 := []) trivial ?_
  refine FJ.seq ?_
  refine FJ.region ?_
  refine FJ.q (goes_list rfl) rfl (by decide) rfl (q_assign rfl .c) ?_
  refine FJ.nil ?_
  refine FJ.then_ ?_
  refine FJ.seq ?_
  refine FJ.region ?_
  refine FJ.q (goes_list rfl) rfl (by decide) rfl (q_move rfl (.t (.s .z))) ?_
  refine FJ.call (goes_list rfl) rfl (by decide) rfl (c_call rfl Try.func20 rfl rfl (args1 (.t .z))) .n (fun w1 S1 hs tr => c_20 _) ?_
  rintro _ _ ⟨v1, v3, rfl, rfl⟩
  refine FJ.cat (.c (.c .n)) ?_
  refine FJ.know (WS.oform .z) ?_
  rintro ⟨Ao5, co5, rfl, hlo5, hmo5, hbo5⟩
  refine FJ.know (WS.oform (.s .z)) ?_
  rintro ⟨Ao6, co6, rfl, hlo6, hmo6, hbo6⟩
  refine FJ.e (goes_list rfl) rfl (by decide) rfl (e_alloc rfl z_27 rfl rfl) ?_
  rintro _ _ ⟨g7, rfl, rfl⟩
  refine FJ.es (goes_list rfl) rfl (es_store (off := 0) (cs := [.int .i64 ((newDisk x).code), .slice Ao5 ((newDisk x).disk.blocks).length co5, .slice Ao6 ((newDisk x).disk.cache).length co6]) rfl sz_27 (.t .z) (.t (.s .z)) rfl (ones rfl) .z (Nat.le_of_ble_eq_true rfl) (.c .z (.c (.s .z) (.c (.s (.s .z)) .n)))) ?_
  refine FJ.nil ?_
  refine FJ.then_ ?_
  refine FJ.seq ?_
  refine FJ.region ?_
  refine FJ.q (goes_list rfl) rfl (by decide) rfl (q_move rfl (.t (.s (.s (.s (.s .z)))))) ?_
  refine FJ.call (goes_list rfl) rfl (by decide) rfl (c_call rfl Try.func21 rfl rfl (args1 (.t .z))) .n (fun w1 S1 hs tr => c_21 _) ?_
  rintro _ _ ⟨v8, v10, rfl, rfl⟩
  refine FJ.cat (.c (.c .n)) ?_
  refine FJ.know (WS.oform .z) ?_
  rintro ⟨Ao12, co12, rfl, hlo12, hmo12, hbo12⟩
  refine FJ.know (WS.oform (.s .z)) ?_
  rintro ⟨Ao13, co13, rfl, hlo13, hmo13, hbo13⟩
  refine FJ.e (goes_list rfl) rfl (by decide) rfl (e_alloc rfl z_27 rfl rfl) ?_
  rintro _ _ ⟨g14, rfl, rfl⟩
  refine FJ.es (goes_list rfl) rfl (es_store (off := 0) (cs := [.int .i64 ((newDisk x).code), .slice Ao12 ((newDisk x).disk.blocks).length co12, .slice Ao13 ((newDisk x).disk.cache).length co13]) rfl sz_27 (.t .z) (.t (.s .z)) rfl (ones rfl) .z (Nat.le_of_ble_eq_true rfl) (.c .z (.c (.s .z) (.c (.s (.s .z)) .n)))) ?_
  refine FJ.nil ?_
  refine FJ.then_ ?_
  refine FJ.seq ?_
  refine FJ.seq ?_
  refine FJ.region ?_
  refine FJ.q (goes_list rfl) rfl (by decide) rfl (q_loadA (cs := [.int .i64 ((newDisk x).code), .slice Ao12 ((newDisk x).disk.blocks).length co12, .slice Ao13 ((newDisk x).disk.cache).length co13]) rfl ag_27 sz_27 (.t .z) (WS.rows0 .z (fun i u h => by exact h))) ?_
  refine FJ.q (goes_list rfl) rfl (by decide) rfl (q_loadA (cs := [.int .i64 ((newDisk x).code), .slice Ao5 ((newDisk x).disk.blocks).length co5, .slice Ao6 ((newDisk x).disk.cache).length co6]) rfl ag_27 sz_27 (.t (.s (.s (.s (.s .z))))) (WS.rows0 (.s (.s (.s .z))) (fun i u h => by exact h))) ?_
  refine FJ.call (goes_list rfl) rfl (by decide) rfl (c_call rfl Try.func22 rfl rfl (args2 (.t (.s .z)) (.t .z))) .n (fun w1 S1 hs tr => c_22 (kT_27_mk (newDisk x) (tr.own (.s .z)) (tr.own (.s (.s .z)))) (kT_27_mk (newDisk x) (tr.own (.s (.s (.s (.s .z))))) (tr.own (.s (.s (.s (.s (.s .z)))))))) ?_
  rintro _ _ ⟨rfl, rfl⟩
  refine FJ.cat .n ?_
  refine FJ.q (goes_list rfl) rfl (by decide) rfl (q_not rfl (.t .z)) ?_
  refine FJ.nil ?_
  refine FJ.then_ ?_
  refine FJ.condN (.t .z) (fun b15 => ?_) (fun b15 => ?_)
  · -- b15: True
    refine FJ.seq ?_
    refine FJ.region ?_
    refine FJ.er (.s (.s (.s (.s (.s (.s (.s (.s (.s (.s .z)))))))))) ?_
    refine FJ.q (goes_list rfl) rfl (by decide) rfl (q_assign rfl .c) ?_
    refine FJ.nil ?_
    refine FJ.then_ ?_
    refine FJ.ret ?_
    refine FJ.thenR ?_
    refine FJ.doneS (res1 rfl .z) .n ?_
    exfalso; first | exact absurd rfl (by assumption) | omega | (simp_all; done)
  · -- b15: False
    refine FJ.skip ?_
    refine FJ.then_ ?_
    refine FJ.seq ?_
    refine FJ.region ?_
    refine FJ.q (goes_list rfl) rfl (by decide) rfl (q_assign rfl .c) ?_
    refine FJ.nil ?_
    refine FJ.then_ ?_
    refine FJ.seq ?_
    refine FJ.region ?_
    refine FJ.q (goes_list rfl) rfl (by decide) rfl (q_loadA (cs := [.int .i64 ((newDisk x).code), .slice Ao12 ((newDisk x).disk.blocks).length co12, .slice Ao13 ((newDisk x).disk.cache).length co13]) rfl ag_27 sz_27 (.t (.s (.s (.s (.s (.s .z)))))) (WS.rows0 .z (fun i u h => by exact h))) ?_
    refine FJ.q (goes_list rfl) rfl (by decide) rfl (q_move rfl (.t (.s .z))) ?_
    refine FJ.call (goes_list rfl) rfl (by decide) rfl (c_call rfl Try.func23 rfl rfl (args2 (.t (.s .z)) (.t .z))) (.c (.s .z) (.c (.s .z) .n)) (fun w1 S1 hs tr => c_23 _ hs (by omega) (by first | omega | (omega))) ?_
    rintro _ _ ⟨rfl, rfl⟩
    refine FJ.cat (.c (.c .n)) ?_
    refine FJ.er (.s (.s (.s .z))) ?_
    refine FJ.q (goes_list rfl) rfl (by decide) rfl (q_assign rfl (.t .z)) ?_
    refine FJ.nil ?_
    refine FJ.then_ ?_
    refine FJ.seq ?_
    refine FJ.region ?_
    refine FJ.q (goes_list rfl) rfl (by decide) rfl (q_assign rfl .c) ?_
    refine FJ.nil ?_
    refine FJ.then_ ?_
    refine FJ.seq ?_
    refine FJ.region ?_
    refine FJ.q (goes_list rfl) rfl (by decide) rfl (q_loadA (cs := [.int .i64 ((newDisk x).code), .slice Ao12 ((newDisk x).disk.blocks).length co12, .slice Ao13 ((newDisk x).disk.cache).length co13]) rfl ag_27 sz_27 (.t (.s (.s (.s (.s (.s (.s (.s (.s (.s .z)))))))))) (WS.rows0 (.s (.s .z)) (fun i u h => by exact h))) ?_
    refine FJ.q (goes_list rfl) rfl (by decide) rfl (q_move rfl (.t (.s .z))) ?_
    refine FJ.call (goes_list rfl) rfl (by decide) rfl (c_call rfl Try.func24 rfl rfl (args2 (.t (.s .z)) (.t .z))) .n (fun w1 S1 hs tr => c_24 (kT_27_mk (⟨(newDisk x).code, (⟨(vmark_RDisk 1 (newDisk x)).disk.blocks, (vmark_RDisk 1 (newDisk x)).disk.cache⟩ : DDisk)⟩ : RDisk) (tr.own .z) (tr.own (.s .z))) _ (newDisk x) rfl (by omega) (by first | omega | (omega))) ?_
    rintro _ _ ⟨rfl, rfl⟩
    refine FJ.cat .n ?_
    refine FJ.er (.s (.s (.s .z))) ?_
    refine FJ.q (goes_list rfl) rfl (by decide) rfl (q_assign rfl (.t .z)) ?_
    refine FJ.nil ?_
    refine FJ.then_ ?_
    refine FJ.seq ?_
    refine FJ.seq ?_
    refine FJ.region ?_
    refine FJ.q (goes_list rfl) rfl (by decide) rfl (q_move rfl (.t .z)) ?_
    refine FJ.q (goes_list rfl) rfl (by decide) rfl (q_lss rfl (.t .z) .c) ?_
    refine FJ.nil ?_
    refine FJ.then_ ?_
    refine FJ.condP (.t .z) (fun b16 => ?_) (fun b16 => ?_)
    · -- b16: True
      refine FJ.seq ?_
      refine FJ.region ?_
      refine FJ.er (.s (.s (.s (.s (.s (.s (.s (.s (.s (.s (.s (.s (.s (.s (.s (.s (.s (.s (.s (.s .z)))))))))))))))))))) ?_
      refine FJ.q (goes_list rfl) rfl (by decide) rfl (q_assign rfl .c) ?_
      refine FJ.nil ?_
      refine FJ.then_ ?_
      refine FJ.ret ?_
      refine FJ.thenR ?_
      refine FJ.doneS (res1 rfl .z) .n ?_
      exfalso; first | exact absurd rfl (by assumption) | omega | (simp_all; done)
    · -- b16: False
      refine FJ.skip ?_
      refine FJ.then_ ?_
      refine FJ.seq ?_
      refine FJ.seq ?_
      refine FJ.region ?_
      refine FJ.q (goes_list rfl) rfl (by decide) rfl (q_move rfl (.t (.s (.s .z)))) ?_
      refine FJ.q (goes_list rfl) rfl (by decide) rfl (q_move rfl (.t (.s (.s (.s (.s (.s (.s (.s .z))))))))) ?_
      refine FJ.q (goes_list rfl) rfl (by decide) rfl (q_neq rfl (.t (.s .z)) (.t .z)) ?_
      refine FJ.nil ?_
      refine FJ.then_ ?_
      refine FJ.condN (.t .z) (fun b17 => ?_) (fun b17 => ?_)
      · -- b17: True
        refine FJ.seq ?_
        refine FJ.region ?_
        refine FJ.er (.s (.s (.s (.s (.s (.s (.s (.s (.s (.s (.s (.s (.s (.s (.s (.s (.s (.s (.s (.s (.s (.s (.s .z))))))))))))))))))))))) ?_
        refine FJ.q (goes_list rfl) rfl (by decide) rfl (q_assign rfl .c) ?_
        refine FJ.nil ?_
        refine FJ.then_ ?_
        refine FJ.ret ?_
        refine FJ.thenR ?_
        refine FJ.doneS (res1 rfl .z) .n ?_
        exfalso; first | exact absurd rfl (by assumption) | omega | (simp_all; done)
      · -- b17: False
        refine FJ.skip ?_
        refine FJ.then_ ?_
        refine FJ.seq ?_
        refine FJ.region ?_
        refine FJ.q (goes_list rfl) rfl (by decide) rfl (q_move rfl (.t (.s (.s (.s (.s (.s (.s (.s (.s (.s (.s (.s (.s (.s (.s (.s (.s (.s (.s (.s (.s (.s (.s (.s (.s .z)))))))))))))))))))))))))) ?_
        refine FJ.call (goes_list rfl) rfl (by decide) rfl (c_call rfl Try.func21 rfl rfl (args1 (.t .z))) .n (fun w1 S1 hs tr => c_21 _) ?_
        rintro _ _ ⟨v18, v20, rfl, rfl⟩
        refine FJ.cat (.c (.c .n)) ?_
        refine FJ.know (WS.oform .z) ?_
        rintro ⟨Ao22, co22, rfl, hlo22, hmo22, hbo22⟩
        refine FJ.know (WS.oform (.s .z)) ?_
        rintro ⟨Ao23, co23, rfl, hlo23, hmo23, hbo23⟩
        refine FJ.e (goes_list rfl) rfl (by decide) rfl (e_alloc rfl z_27 rfl rfl) ?_
        rintro _ _ ⟨g24, rfl, rfl⟩
        refine FJ.es (goes_list rfl) rfl (es_store (off := 0) (cs := [.int .i64 ((newDisk x).code), .slice Ao22 ((newDisk x).disk.blocks).length co22, .slice Ao23 ((newDisk x).disk.cache).length co23]) rfl sz_27 (.t .z) (.t (.s .z)) rfl (ones rfl) .z (Nat.le_of_ble_eq_true rfl) (.c .z (.c (.s .z) (.c (.s (.s .z)) .n)))) ?_
        refine FJ.nil ?_
        refine FJ.then_ ?_
        refine FJ.seq ?_
        refine FJ.seq ?_
        refine FJ.region ?_
        refine FJ.q (goes_list rfl) rfl (by decide) rfl (q_loadA (cs := [.int .i64 ((newDisk x).code), .slice Ao22 ((newDisk x).disk.blocks).length co22, .slice Ao23 ((newDisk x).disk.cache).length co23]) rfl ag_27 sz_27 (.t .z) (WS.rows0 .z (fun i u h => by exact h))) ?_
        refine FJ.q (goes_list rfl) rfl (by decide) rfl (q_loadA (cs := [.int .i64 ((newDisk x).code), .slice Ao5 ((newDisk x).disk.blocks).length co5, .slice Ao6 ((newDisk x).disk.cache).length co6]) rfl ag_27 sz_27 (.t (.s (.s (.s (.s (.s (.s (.s (.s (.s (.s (.s (.s (.s (.s (.s (.s (.s (.s (.s (.s (.s (.s (.s (.s .z))))))))))))))))))))))))) (WS.rows0 (.s (.s (.s (.s (.s (.s .z)))))) (fun i u h => by exact h))) ?_
        refine FJ.call (goes_list rfl) rfl (by decide) rfl (c_call rfl Try.func22 rfl rfl (args2 (.t (.s .z)) (.t .z))) .n (fun w1 S1 hs tr => c_22 (kT_27_mk (newDisk x) (tr.own (.s .z)) (tr.own (.s (.s .z)))) (kT_27_mk (newDisk x) (tr.own (.s (.s (.s (.s (.s (.s (.s .z)))))))) (tr.own (.s (.s (.s (.s (.s (.s (.s (.s .z))))))))))) ?_
        rintro _ _ ⟨rfl, rfl⟩
        refine FJ.cat .n ?_
        refine FJ.q (goes_list rfl) rfl (by decide) rfl (q_not rfl (.t .z)) ?_
        refine FJ.nil ?_
        refine FJ.then_ ?_
        refine FJ.condN (.t .z) (fun b25 => ?_) (fun b25 => ?_)
        · -- b25: True
          refine FJ.seq ?_
          refine FJ.region ?_
          refine FJ.er (.s (.s (.s (.s (.s (.s (.s (.s (.s (.s (.s (.s (.s (.s (.s (.s (.s (.s (.s (.s (.s (.s (.s (.s (.s (.s (.s (.s (.s (.s .z)))))))))))))))))))))))))))))) ?_
          refine FJ.q (goes_list rfl) rfl (by decide) rfl (q_assign rfl .c) ?_
          refine FJ.nil ?_
          refine FJ.then_ ?_
          refine FJ.ret ?_
          refine FJ.thenR ?_
          refine FJ.doneS (res1 rfl .z) .n ?_
          exfalso; first | exact absurd rfl (by assumption) | omega | (simp_all; done)
        · -- b25: False
          refine FJ.skip ?_
          refine FJ.then_ ?_
          refine FJ.seq ?_
          refine FJ.region ?_
          refine FJ.er (.s (.s (.s (.s (.s (.s (.s (.s (.s (.s (.s (.s .z)))))))))))) ?_
          refine FJ.q (goes_list rfl) rfl (by decide) rfl (q_assign rfl .c) ?_
          refine FJ.nil ?_
          refine FJ.then_ ?_
          refine FJ.seq ?_
          refine FJ.region ?_
          refine FJ.q (goes_list rfl) rfl (by decide) rfl (q_loadA (cs := [.int .i64 ((newDisk x).code), .slice Ao12 ((newDisk x).disk.blocks).length co12, .slice Ao13 ((newDisk x).disk.cache).length co13]) rfl ag_27 sz_27 (.t (.s (.s (.s (.s (.s (.s (.s (.s (.s (.s (.s (.s (.s (.s (.s (.s (.s (.s (.s (.s (.s (.s (.s (.s .z))))))))))))))))))))))))) (WS.rows0 (.s (.s (.s (.s (.s .z))))) (fun i u h => by exact h))) ?_
          refine FJ.q (goes_list rfl) rfl (by decide) rfl (q_move rfl (.t (.s .z))) ?_
          refine FJ.call (goes_list rfl) rfl (by decide) rfl (c_call rfl Try.func24 rfl rfl (args2 (.t (.s .z)) (.t .z))) .n (fun w1 S1 hs tr => c_24 (kT_27_mk (⟨(newDisk x).code, (⟨(vmark_RDisk 1 (newDisk x)).disk.blocks, (vmark_RDisk 1 (newDisk x)).disk.cache⟩ : DDisk)⟩ : RDisk) (tr.own (.s (.s (.s .z)))) (tr.own (.s (.s (.s (.s .z)))))) _ (newDisk x) rfl (by omega) (by first | omega | (omega))) ?_
          rintro _ _ ⟨rfl, rfl⟩
          refine FJ.cat .n ?_
          refine FJ.er (.s (.s (.s .z))) ?_
          refine FJ.q (goes_list rfl) rfl (by decide) rfl (q_assign rfl (.t .z)) ?_
          refine FJ.nil ?_
          refine FJ.then_ ?_
          refine FJ.seq ?_
          refine FJ.seq ?_
          refine FJ.region ?_
          refine FJ.q (goes_list rfl) rfl (by decide) rfl (q_move rfl (.t .z)) ?_
          refine FJ.q (goes_list rfl) rfl (by decide) rfl (q_lss rfl (.t .z) .c) ?_
          refine FJ.nil ?_
          refine FJ.then_ ?_
          refine FJ.condP (.t .z) (fun b26 => ?_) (fun b26 => ?_)
          · -- b26: True
            refine FJ.seq ?_
            refine FJ.region ?_
            refine FJ.er (.s (.s (.s (.s (.s (.s (.s (.s (.s (.s (.s (.s (.s (.s (.s (.s (.s (.s (.s (.s (.s (.s (.s (.s (.s (.s (.s (.s (.s (.s (.s (.s (.s (.s (.s .z))))))))))))))))))))))))))))))))))) ?_
            refine FJ.q (goes_list rfl) rfl (by decide) rfl (q_assign rfl .c) ?_
            refine FJ.nil ?_
            refine FJ.then_ ?_
            refine FJ.ret ?_
            refine FJ.thenR ?_
            refine FJ.doneS (res1 rfl .z) .n ?_
            exfalso; first | exact absurd rfl (by assumption) | omega | (simp_all; done)
          · -- b26: False
            refine FJ.skip ?_
            refine FJ.then_ ?_
            refine FJ.seq ?_
            refine FJ.seq ?_
            refine FJ.region ?_
            refine FJ.q (goes_list rfl) rfl (by decide) rfl (q_move rfl (.t (.s (.s .z)))) ?_
            refine FJ.q (goes_list rfl) rfl (by decide) rfl (q_move rfl (.t (.s (.s (.s (.s (.s (.s (.s (.s (.s (.s (.s (.s (.s (.s (.s (.s (.s (.s (.s (.s (.s (.s .z)))))))))))))))))))))))) ?_
            refine FJ.q (goes_list rfl) rfl (by decide) rfl (q_neq rfl (.t (.s .z)) (.t .z)) ?_
            refine FJ.nil ?_
            refine FJ.then_ ?_
            refine FJ.condN (.t .z) (fun b27 => ?_) (fun b27 => ?_)
            · -- b27: True
              refine FJ.seq ?_
              refine FJ.region ?_
              refine FJ.er (.s (.s (.s (.s (.s (.s (.s (.s (.s (.s (.s (.s (.s (.s (.s (.s (.s (.s (.s (.s (.s (.s (.s (.s (.s (.s (.s (.s (.s (.s (.s (.s (.s (.s (.s (.s (.s (.s .z)))))))))))))))))))))))))))))))))))))) ?_
              refine FJ.q (goes_list rfl) rfl (by decide) rfl (q_assign rfl .c) ?_
              refine FJ.nil ?_
              refine FJ.then_ ?_
              refine FJ.ret ?_
              refine FJ.thenR ?_
              refine FJ.doneS (res1 rfl .z) .n ?_
              exfalso; first | exact absurd rfl (by assumption) | omega | (simp_all; done)
            · -- b27: False
              refine FJ.skip ?_
              refine FJ.then_ ?_
              refine FJ.seq ?_
              refine FJ.region ?_
              refine FJ.er (.s (.s (.s (.s (.s (.s (.s (.s (.s (.s (.s (.s (.s (.s (.s (.s (.s (.s (.s (.s (.s (.s (.s (.s (.s (.s (.s (.s (.s (.s (.s (.s (.s (.s (.s (.s (.s (.s .z)))))))))))))))))))))))))))))))))))))) ?_
              refine FJ.q (goes_list rfl) rfl (by decide) rfl (q_assign rfl .c) ?_
              refine FJ.nil ?_
              refine FJ.then_ ?_
              refine FJ.ret ?_
              refine FJ.doneS (res1 rfl .z) .n ?_
              exact ⟨rfl, rfl⟩

end Go.Proofs.Ytkmcpcahbfdohaa

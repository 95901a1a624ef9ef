/- What is proved: contracts of functions, one a function. No condition. -/
import Derived.Test.YtkmcpcahbfdohaaW11
import Derived.Test.YtkmcpcahbfdohaaW6
import Derived.Test.YtkmcpcahbfdohaaMCount
namespace Go.Proofs.Ytkmcpcahbfdohaa
open Go Go.RowKit
set_option linter.unusedVariables false
set_option linter.unusedSimpArgs false
set_option maxHeartbeats 1000000 in
set_option maxRecDepth 20000 in
theorem c_11 {w0 : World} {S0 : Bs} {x : DDisk} {cs0 : List Value} (h0 : kT_34.ro w0 (FF w0 S0) x cs0) (a : Int) {ws : (List Int)} {v2 : Value} (h2 : kSl_2.ro w0 (FF w0 S0) ws [v2])  :
    Calls Try.prog 11 #[.agg cs0.toArray, .int .i64 a, v2] w0 (TriPost w0 S0 (fun r l => r = .bool true ∧ l = [])) := by
  obtain ⟨u0_0, u0_1, rfl, h0_0, h0_1⟩ := kT_34_ro h0
  obtain ⟨A0_0, c0_0, rfl, hl0_0, hm0_0, hb0_0, he0_0⟩ := ro_form h0_0
  obtain ⟨A0_1, c0_1, rfl, hl0_1, hm0_1, hb0_1, he0_1⟩ := ro_form h0_1
  obtain ⟨A2, c2, rfl, hl2, hm2, hb2, he2⟩ := ro_form h2
  have hb := putBlock_cnt x a ws
  have hw := disk_cnt_wt x
  refine FJ.enter (N := 95) Try.func11 rfl rfl (by simp) [(0, .agg #[.slice A0_0 x.blocks.length c0_0, .slice A0_1 x.cache.length c0_1]), (1, .int .i64 a), (2, .slice A2 ws.length c2)] (by simp) (l0 := []) trivial ?_
  refine FJ.seq ?_
  refine FJ.region ?_
  refine FJ.e (goes_list rfl) rfl (by decide) rfl (e_box (cs := [.slice A0_0 x.blocks.length c0_0, .slice A0_1 x.cache.length c0_1]) (n := 2) rfl (.t .z) rfl rfl) ?_
  rintro _ _ ⟨g4, rfl, rfl⟩
  refine FJ.q (goes_list rfl) rfl (by decide) rfl (q_assign rfl .c) ?_
  refine FJ.nil ?_
  refine FJ.then_ ?_
  refine FJ.seq ?_
  refine FJ.seq ?_
  refine FJ.region ?_
  refine FJ.q (goes_list rfl) rfl (by decide) rfl (q_move rfl (.t (.s (.s (.s (.s .z)))))) ?_
  refine FJ.q (goes_list rfl) rfl (by decide) rfl (q_len rfl u_40 (.t .z)) ?_
  refine FJ.q (goes_list rfl) rfl (by decide) rfl (q_gtr rfl (.t .z) .c) ?_
  refine FJ.nil ?_
  refine FJ.then_ ?_
  refine FJ.condP (.t .z) (fun b5 => ?_) (fun b5 => ?_)
  · -- b5: True
    refine FJ.seq ?_
    refine FJ.region ?_
    refine FJ.er (.s (.s (.s .z))) ?_
    refine FJ.q (goes_list rfl) rfl (by decide) rfl (q_assign rfl .c) ?_
    refine FJ.nil ?_
    refine FJ.then_ ?_
    refine FJ.ret ?_
    refine FJ.thenR ?_
    refine FJ.doneS (res1 rfl .z) .n ?_
    exact ⟨rfl, rfl⟩
  · -- b5: False
    refine FJ.skip ?_
    refine FJ.then_ ?_
    refine FJ.seq ?_
    refine FJ.region ?_
    refine FJ.q (goes_list rfl) rfl (by decide) rfl (q_assign rfl .c) ?_
    refine FJ.nil ?_
    refine FJ.then_ ?_
    refine FJ.seq ?_
    refine FJ.region ?_
    refine FJ.q (goes_list rfl) rfl (by decide) rfl (q_loadA (cs := [.slice A0_0 x.blocks.length c0_0, .slice A0_1 x.cache.length c0_1]) rfl ag_34 sz_34 (.t (.s (.s (.s (.s (.s .z)))))) (WS.rows0 .z (fun i u h => by exact h))) ?_
    refine FJ.q (goes_list rfl) rfl (by decide) rfl (q_move rfl (.t (.s .z))) ?_
    refine FJ.call (goes_list rfl) rfl (by decide) rfl (c_call rfl Try.func25 rfl rfl (args2 (.t (.s .z)) (.t .z))) .n (fun w1 S1 hs tr => c_25 (kT_34_mk x (tr.ctx h0_0) (tr.ctx h0_1)) _ (by omega) (by omega)) ?_
    rintro _ _ ⟨c6, rfl, hc6, wc6, rfl⟩
    refine FJ.cat .n ?_
    refine FJ.er (.s (.s (.s .z))) ?_
    refine FJ.q (goes_list rfl) rfl (by decide) rfl (q_assign rfl (.t .z)) ?_
    refine FJ.nil ?_
    refine FJ.then_ ?_
    refine FJ.seq ?_
    refine FJ.seq ?_
    refine FJ.region ?_
    refine FJ.q (goes_list rfl) rfl (by decide) rfl (q_move rfl (.t .z)) ?_
    refine FJ.q (goes_list rfl) rfl (by decide) rfl (q_lss rfl (.t .z) .c) ?_
    refine FJ.nil ?_
    refine FJ.then_ ?_
    refine FJ.condP (.t .z) (fun b7 => ?_) (fun b7 => ?_)
    · -- b7: True
      refine FJ.seq ?_
      refine FJ.region ?_
      refine FJ.er (.s (.s (.s (.s (.s (.s (.s (.s (.s .z))))))))) ?_
      refine FJ.q (goes_list rfl) rfl (by decide) rfl (q_assign rfl .c) ?_
      refine FJ.nil ?_
      refine FJ.then_ ?_
      refine FJ.ret ?_
      refine FJ.thenR ?_
      refine FJ.doneS (res1 rfl .z) .n ?_
      exact ⟨rfl, rfl⟩
    · -- b7: False
      refine FJ.skip ?_
      refine FJ.then_ ?_
      refine FJ.seq ?_
      refine FJ.region ?_
      refine FJ.q (goes_list rfl) rfl (by decide) rfl (q_loadA (cs := [.slice A0_0 x.blocks.length c0_0, .slice A0_1 x.cache.length c0_1]) rfl ag_34 sz_34 (.t (.s (.s (.s (.s (.s (.s (.s (.s (.s (.s .z))))))))))) (WS.rows0 .z (fun i u h => by exact h))) ?_
      refine FJ.call (goes_list rfl) rfl (by decide) rfl (c_call rfl Try.func27 rfl rfl (args1 (.t .z))) .n (fun w1 S1 hs tr => c_27 (kT_34_mk x (tr.ctx h0_0) (tr.ctx h0_1))) ?_
      rintro _ _ ⟨v8, v10, rfl, rfl⟩
      refine FJ.cat (.c (.c .n)) ?_
      refine FJ.know (WS.oform .z) ?_
      rintro ⟨Ao12, co12, rfl, hlo12, hmo12, hbo12⟩
      refine FJ.know (WS.oform (.s .z)) ?_
      rintro ⟨Ao13, co13, rfl, hlo13, hmo13, hbo13⟩
      refine FJ.q (goes_list rfl) rfl (by decide) rfl (q_move rfl (.t (.s (.s (.s (.s (.s (.s (.s (.s (.s (.s (.s (.s (.s (.s .z)))))))))))))))) ?_
      refine FJ.q (goes_list rfl) rfl (by decide) rfl (q_move rfl (.t (.s (.s (.s (.s (.s (.s (.s (.s (.s (.s (.s (.s (.s (.s (.s (.s .z)))))))))))))))))) ?_
      refine FJ.call (goes_list rfl) rfl (by decide) rfl (c_call rfl Try.func57 rfl rfl (args1 (.t .z))) .n (fun w1 S1 hs tr => c_57 (tr.ctx h2)) ?_
      rintro _ _ rfl
      refine FJ.cat (.c .n) ?_
      refine FJ.know (WS.oform .z) ?_
      rintro ⟨Ao15, co15, rfl, hlo15, hmo15, hbo15⟩
      refine FJ.call (goes_list rfl) rfl (by decide) rfl (c_call rfl Try.func56 rfl rfl (args3 (.t (.s (.s (.s .z)))) (.t (.s (.s .z))) (.t .z))) .n (fun w1 S1 hs tr => c_56 (kT_25_mk x (tr.own (.s .z)) (tr.own (.s (.s .z)))) _ (tr.own .z)) ?_
      rintro _ _ ⟨v16, v18, rfl, rfl⟩
      refine FJ.cat (.c (.c .n)) ?_
      refine FJ.know (WS.oform .z) ?_
      rintro ⟨Ao20, co20, rfl, hlo20, hmo20, hbo20⟩
      refine FJ.know (WS.oform (.s .z)) ?_
      rintro ⟨Ao21, co21, rfl, hlo21, hmo21, hbo21⟩
      refine FJ.e (goes_list rfl) rfl (by decide) rfl (e_alloc rfl z_27 rfl rfl) ?_
      rintro _ _ ⟨g22, rfl, rfl⟩
      refine FJ.es (goes_list rfl) rfl (es_store (off := 0) (cs := [.int .i64 ((putBlock x a ws).code), .slice Ao20 ((putBlock x a ws).disk.blocks).length co20, .slice Ao21 ((putBlock x a ws).disk.cache).length co21]) rfl sz_27 (.t .z) (.t (.s .z)) rfl (ones rfl) .z (Nat.le_of_ble_eq_true rfl) (.c .z (.c (.s .z) (.c (.s (.s .z)) .n)))) ?_
      refine FJ.nil ?_
      refine FJ.then_ ?_
      refine FJ.seq ?_
      refine FJ.region ?_
      refine FJ.q (goes_list rfl) rfl (by decide) rfl (q_loadA (cs := [.slice A0_0 x.blocks.length c0_0, .slice A0_1 x.cache.length c0_1]) rfl ag_34 sz_34 (.t (.s (.s (.s (.s (.s (.s (.s (.s (.s (.s (.s (.s (.s (.s (.s (.s (.s .z)))))))))))))))))) (WS.rows0 (.s (.s (.s (.s (.s (.s .z)))))) (fun i u h => by exact h))) ?_
      refine FJ.call (goes_list rfl) rfl (by decide) rfl (c_call rfl Try.func27 rfl rfl (args1 (.t .z))) .n (fun w1 S1 hs tr => c_27 (kT_34_mk x (tr.ctx h0_0) (tr.ctx h0_1))) ?_
      rintro _ _ ⟨v23, v25, rfl, rfl⟩
      refine FJ.cat (.c (.c .n)) ?_
      refine FJ.know (WS.oform .z) ?_
      rintro ⟨Ao27, co27, rfl, hlo27, hmo27, hbo27⟩
      refine FJ.know (WS.oform (.s .z)) ?_
      rintro ⟨Ao28, co28, rfl, hlo28, hmo28, hbo28⟩
      refine FJ.e (goes_list rfl) rfl (by decide) rfl (e_alloc rfl z_25 rfl rfl) ?_
      rintro _ _ ⟨g29, rfl, rfl⟩
      refine FJ.es (goes_list rfl) rfl (es_store (off := 0) (cs := [.slice Ao27 x.blocks.length co27, .slice Ao28 x.cache.length co28]) rfl sz_25 (.t .z) (.t (.s .z)) rfl (ones rfl) .z (Nat.le_of_ble_eq_true rfl) (.c .z (.c (.s .z) .n))) ?_
      refine FJ.nil ?_
      refine FJ.then_ ?_
      refine FJ.seq ?_
      refine FJ.region ?_
      refine FJ.q (goes_list rfl) rfl (by decide) rfl (q_move rfl (.t (.s (.s (.s (.s (.s (.s (.s (.s (.s (.s (.s (.s (.s (.s (.s (.s (.s (.s (.s (.s (.s (.s (.s .z))))))))))))))))))))))))) ?_
      refine FJ.call (goes_list rfl) rfl (by decide) rfl (c_call rfl Try.func57 rfl rfl (args1 (.t .z))) .n (fun w1 S1 hs tr => c_57 (tr.ctx h2)) ?_
      rintro _ _ rfl
      refine FJ.cat (.c .n) ?_
      refine FJ.know (WS.oform .z) ?_
      rintro ⟨Ao31, co31, rfl, hlo31, hmo31, hbo31⟩
      refine FJ.q (goes_list rfl) rfl (by decide) rfl (q_assign rfl (.t .z)) ?_
      refine FJ.nil ?_
      refine FJ.then_ ?_
      refine FJ.seq ?_
      refine FJ.region ?_
      refine FJ.q (goes_list rfl) rfl (by decide) rfl (q_loadA (cs := [.slice Ao27 x.blocks.length co27, .slice Ao28 x.cache.length co28]) rfl ag_25 sz_25 (.t (.s (.s (.s .z)))) (WS.rows0 (.s .z) (fun i u h => by exact h))) ?_
      refine FJ.q (goes_list rfl) rfl (by decide) rfl (q_move rfl (.t (.s (.s (.s (.s (.s (.s (.s (.s (.s (.s (.s (.s (.s (.s (.s (.s (.s (.s (.s (.s (.s (.s (.s (.s (.s (.s .z)))))))))))))))))))))))))))) ?_
      refine FJ.q (goes_list rfl) rfl (by decide) rfl (q_move rfl (.t (.s (.s .z)))) ?_
      refine FJ.call (goes_list rfl) rfl (by decide) rfl (c_call rfl Try.func41 rfl rfl (args3 (.t (.s (.s .z))) (.t (.s .z)) (.t .z))) .n (fun w1 S1 hs tr => c_41 (kT_25_mk x (tr.own (.s (.s .z))) (tr.own (.s (.s (.s .z))))) _ (tr.own .z)) ?_
      rintro _ _ ⟨v32, v34, rfl, rfl⟩
      refine FJ.cat (.c (.c .n)) ?_
      refine FJ.know (WS.oform .z) ?_
      rintro ⟨Ao36, co36, rfl, hlo36, hmo36, hbo36⟩
      refine FJ.know (WS.oform (.s .z)) ?_
      rintro ⟨Ao37, co37, rfl, hlo37, hmo37, hbo37⟩
      refine FJ.e (goes_list rfl) rfl (by decide) rfl (e_alloc rfl z_27 rfl rfl) ?_
      rintro _ _ ⟨g38, rfl, rfl⟩
      refine FJ.es (goes_list rfl) rfl (es_store (off := 0) (cs := [.int .i64 ((putBlock x a ws).code), .slice Ao36 ((putBlock x a ws).disk.blocks).length co36, .slice Ao37 ((putBlock x a ws).disk.cache).length co37]) rfl sz_27 (.t .z) (.t (.s .z)) rfl (ones rfl) .z (Nat.le_of_ble_eq_true rfl) (.c .z (.c (.s .z) (.c (.s (.s .z)) .n)))) ?_
      refine FJ.nil ?_
      refine FJ.then_ ?_
      refine FJ.seq ?_
      refine FJ.seq ?_
      refine FJ.region ?_
      refine FJ.q (goes_list rfl) rfl (by decide) rfl (q_loadA (cs := [.int .i64 ((putBlock x a ws).code), .slice Ao36 ((putBlock x a ws).disk.blocks).length co36, .slice Ao37 ((putBlock x a ws).disk.cache).length co37]) rfl ag_27 sz_27 (.t .z) (WS.rows0 .z (fun i u h => by exact h))) ?_
      refine FJ.q (goes_list rfl) rfl (by decide) rfl (q_loadA (cs := [.int .i64 ((putBlock x a ws).code), .slice Ao20 ((putBlock x a ws).disk.blocks).length co20, .slice Ao21 ((putBlock x a ws).disk.cache).length co21]) rfl ag_27 sz_27 (.t (.s (.s (.s (.s (.s (.s (.s (.s (.s (.s (.s (.s .z))))))))))))) (WS.rows0 (.s (.s (.s (.s (.s (.s (.s .z))))))) (fun i u h => by exact h))) ?_
      refine FJ.call (goes_list rfl) rfl (by decide) rfl (c_call rfl Try.func22 rfl rfl (args2 (.t (.s .z)) (.t .z))) .n (fun w1 S1 hs tr => c_22 (kT_27_mk (putBlock x a ws) (tr.own (.s .z)) (tr.own (.s (.s .z)))) (kT_27_mk (putBlock x a ws) (tr.own (.s (.s (.s (.s (.s (.s (.s (.s .z))))))))) (tr.own (.s (.s (.s (.s (.s (.s (.s (.s (.s .z)))))))))))) ?_
      rintro _ _ ⟨rfl, rfl⟩
      refine FJ.cat .n ?_
      refine FJ.q (goes_list rfl) rfl (by decide) rfl (q_not rfl (.t .z)) ?_
      refine FJ.nil ?_
      refine FJ.then_ ?_
      refine FJ.condN (.t .z) (fun b39 => ?_) (fun b39 => ?_)
      · -- b39: True
        refine FJ.seq ?_
        refine FJ.region ?_
        refine FJ.er (.s (.s (.s (.s (.s (.s (.s (.s (.s (.s (.s (.s (.s (.s (.s (.s (.s (.s (.s (.s (.s (.s (.s (.s (.s (.s (.s (.s (.s (.s (.s .z))))))))))))))))))))))))))))))) ?_
        refine FJ.q (goes_list rfl) rfl (by decide) rfl (q_assign rfl .c) ?_
        refine FJ.nil ?_
        refine FJ.then_ ?_
        refine FJ.ret ?_
        refine FJ.thenR ?_
        refine FJ.doneS (res1 rfl .z) .n ?_
        exfalso; first | exact absurd rfl (by assumption) | omega | (simp_all; done)
      · -- b39: False
        refine FJ.skip ?_
        refine FJ.then_ ?_
        refine FJ.seq ?_
        refine FJ.seq ?_
        refine FJ.sel (.c (.s .z) (.c (.s .z) (.c (.s .z) (.c (.s (.s .z)) (.c (.s (.s .z)) (.c (.s (.s (.s .z))) (.c (.s (.s (.s .z))) (.c (.s (.s (.s .z))) (.c (.s (.s (.s .z))) (.c (.s (.s (.s .z))) (.c .z (.c .z (.c .z (.c .z .n)))))))))))))) ?_
        refine FJ.draw [rowA g38 27 3 1 [.int .i64 ((putBlock x a ws).code), .slice Ao36 ((putBlock x a ws).disk.blocks).length co36, .slice Ao37 ((putBlock x a ws).disk.cache).length co37], rowA g29 25 2 1 [.slice Ao27 x.blocks.length co27, .slice Ao28 x.cache.length co28], rowA g22 27 3 1 [.int .i64 ((putBlock x a ws).code), .slice Ao20 ((putBlock x a ws).disk.blocks).length co20, .slice Ao21 ((putBlock x a ws).disk.cache).length co21], rowA g4 34 2 1 [.slice A0_0 x.blocks.length c0_0, .slice A0_1 x.cache.length c0_1]] 5 (by kernel_rfl) ?_
        refine FJ.sch [(0, true), (1, true), (2, false), (3, false), (4, true)] 0 #[true, true, true, true, true] (by rfl) (by kernel_rfl) ?_
        refine FJ.dq rfl rfl rfl (by decide) rfl (.s (.s (.s (.s (.s (.s (.s (.s (.s (.s .z)))))))))) (q_loadA (cs := [.slice Ao27 x.blocks.length co27, .slice Ao28 x.cache.length co28]) rfl ag_25 sz_25 (.t (.s (.s (.s (.s (.s (.s (.s (.s (.s (.s (.s (.s .z))))))))))))) (WS.rows0 (.s .z) (fun i u h => by exact h))) ?_
        refine FJ.dq rfl rfl rfl (by decide) rfl (.s (.s (.s (.s (.s (.s (.s (.s (.s (.s .z)))))))))) (q_loadA (cs := [.slice A0_0 x.blocks.length c0_0, .slice A0_1 x.cache.length c0_1]) rfl ag_34 sz_34 (.t (.s (.s (.s (.s (.s (.s (.s (.s (.s (.s (.s (.s (.s (.s (.s (.s (.s (.s (.s (.s (.s (.s (.s (.s (.s (.s (.s (.s (.s (.s (.s (.s (.s .z)))))))))))))))))))))))))))))))))) (WS.rows0 (.s (.s (.s .z))) (fun i u h => by exact h))) ?_
        refine FJ.call (goes_sch rfl rfl) rfl (by decide) rfl (c_call rfl Try.func27 rfl rfl (args1 (.t .z))) .n (fun w1 S1 hs tr => c_27 (kT_34_mk x (tr.ctx h0_0) (tr.ctx h0_1))) ?_
        rintro _ _ ⟨v40, v42, rfl, rfl⟩
        refine FJ.cat (.c (.c .n)) ?_
        refine FJ.know (WS.oform .z) ?_
        rintro ⟨Ao44, co44, rfl, hlo44, hmo44, hbo44⟩
        refine FJ.know (WS.oform (.s .z)) ?_
        rintro ⟨Ao45, co45, rfl, hlo45, hmo45, hbo45⟩
        refine FJ.sk (.s (.s (.s (.s (.s (.s (.s (.s (.s (.s (.s (.s .z)))))))))))) ?_
        refine FJ.call (goes_sch rfl rfl) rfl (by decide) rfl (c_call rfl Try.func29 rfl rfl (args2 (.t (.s (.s .z))) (.t .z))) .n (fun w1 S1 hs tr => c_29 (kT_25_mk x (tr.own (.s (.s (.s (.s (.s .z)))))) (tr.own (.s (.s (.s (.s (.s (.s .z)))))))) (kT_25_mk x (tr.own .z) (tr.own (.s .z)))) ?_
        rintro _ _ ⟨rfl, rfl⟩
        refine FJ.cat .n ?_
        refine FJ.sk (.s (.s (.s (.s (.s (.s (.s (.s (.s (.s (.s (.s .z)))))))))))) ?_
        refine FJ.dq rfl rfl rfl (by decide) rfl (.s (.s (.s (.s (.s (.s (.s (.s (.s (.s (.s (.s .z)))))))))))) (q_not rfl (.t .z)) ?_
        refine FJ.schN ?_
        refine FJ.drawN (by kernel_rfl) ?_
        refine FJ.then_ ?_
        refine FJ.condN (.t .z) (fun b46 => ?_) (fun b46 => ?_)
        · -- b46: True
          refine FJ.seq ?_
          refine FJ.region ?_
          refine FJ.er (.s (.s (.s (.s (.s (.s (.s (.s (.s (.s (.s (.s (.s (.s (.s (.s (.s (.s (.s (.s (.s (.s (.s (.s (.s (.s (.s (.s (.s (.s (.s (.s (.s (.s (.s (.s .z)))))))))))))))))))))))))))))))))))) ?_
          refine FJ.q (goes_list rfl) rfl (by decide) rfl (q_assign rfl .c) ?_
          refine FJ.nil ?_
          refine FJ.then_ ?_
          refine FJ.ret ?_
          refine FJ.thenR ?_
          refine FJ.doneS (res1 rfl .z) .n ?_
          exfalso; first | exact absurd rfl (by assumption) | omega | (simp_all; done)
        · -- b46: False
          refine FJ.skip ?_
          refine FJ.then_ ?_
          refine FJ.seq ?_
          refine FJ.seq ?_
          refine FJ.region ?_
          refine FJ.q (goes_list rfl) rfl (by decide) rfl (q_move rfl (.t (.s (.s (.s (.s (.s (.s (.s (.s (.s (.s (.s (.s (.s (.s .z)))))))))))))))) ?_
          refine FJ.q (goes_list rfl) rfl (by decide) rfl (q_move rfl (.t (.s (.s (.s (.s (.s (.s (.s (.s (.s (.s (.s (.s (.s (.s (.s (.s (.s (.s (.s (.s (.s (.s (.s (.s (.s (.s (.s (.s (.s (.s (.s (.s (.s (.s (.s (.s (.s (.s (.s (.s (.s .z))))))))))))))))))))))))))))))))))))))))))) ?_
          refine FJ.call (goes_list rfl) rfl (by decide) rfl (c_call rfl Try.func57 rfl rfl (args1 (.t .z))) .n (fun w1 S1 hs tr => c_57 (tr.ctx h2)) ?_
          rintro _ _ rfl
          refine FJ.cat (.c .n) ?_
          refine FJ.know (WS.oform .z) ?_
          rintro ⟨Ao48, co48, rfl, hlo48, hmo48, hbo48⟩
          refine FJ.call (goes_list rfl) rfl (by decide) rfl (c_call rfl Try.func58 rfl rfl (args2 (.t (.s (.s .z))) (.t .z))) .n (fun w1 S1 hs tr => c_58 (tr.own (.s (.s (.s (.s (.s .z)))))) (tr.own .z)) ?_
          rintro _ _ ⟨rfl, rfl⟩
          refine FJ.cat .n ?_
          refine FJ.q (goes_list rfl) rfl (by decide) rfl (q_not rfl (.t .z)) ?_
          refine FJ.nil ?_
          refine FJ.then_ ?_
          refine FJ.condN (.t .z) (fun b49 => ?_) (fun b49 => ?_)
          · -- b49: True
            refine FJ.seq ?_
            refine FJ.region ?_
            refine FJ.er (.s (.s (.s (.s (.s (.s (.s (.s (.s (.s (.s (.s (.s (.s (.s (.s (.s (.s (.s (.s (.s (.s (.s (.s (.s (.s (.s (.s (.s (.s (.s (.s (.s (.s (.s (.s (.s (.s (.s (.s (.s .z))))))))))))))))))))))))))))))))))))))))) ?_
            refine FJ.q (goes_list rfl) rfl (by decide) rfl (q_assign rfl .c) ?_
            refine FJ.nil ?_
            refine FJ.then_ ?_
            refine FJ.ret ?_
            refine FJ.thenR ?_
            refine FJ.doneS (res1 rfl .z) .n ?_
            exfalso; first | exact absurd rfl (by assumption) | omega | (simp_all; done)
          · -- b49: False
            refine FJ.skip ?_
            refine FJ.then_ ?_
            refine FJ.seq ?_
            refine FJ.region ?_
            refine FJ.q (goes_list rfl) rfl (by decide) rfl (q_assign rfl .c) ?_
            refine FJ.nil ?_
            refine FJ.then_ ?_
            refine FJ.seq ?_
            refine FJ.region ?_
            refine FJ.q (goes_list rfl) rfl (by decide) rfl (q_loadA (cs := [.slice Ao27 x.blocks.length co27, .slice Ao28 x.cache.length co28]) rfl ag_25 sz_25 (.t (.s (.s (.s (.s (.s (.s (.s (.s (.s (.s (.s (.s (.s (.s (.s (.s (.s (.s (.s (.s (.s (.s (.s .z)))))))))))))))))))))))) (WS.rows0 (.s (.s (.s (.s (.s (.s (.s (.s (.s (.s (.s (.s (.s (.s .z)))))))))))))) (fun i u h => by exact h))) ?_
            refine FJ.q (goes_list rfl) rfl (by decide) rfl (q_move rfl (.t (.s .z))) ?_
            refine FJ.call (goes_list rfl) rfl (by decide) rfl (c_call rfl Try.func44 rfl rfl (args2 (.t (.s .z)) (.t .z))) (.c (.s (.s (.s (.s (.s (.s .z)))))) (.c (.s (.s (.s (.s (.s (.s .z)))))) .n)) (fun w1 S1 hs tr => c_44 _ hs (by omega) (by first | omega | (omega))) ?_
            rintro _ _ ⟨rfl, rfl⟩
            refine FJ.cat (.c (.c .n)) ?_
            refine FJ.er (.s (.s (.s .z))) ?_
            refine FJ.q (goes_list rfl) rfl (by decide) rfl (q_assign rfl (.t .z)) ?_
            refine FJ.nil ?_
            refine FJ.then_ ?_
            refine FJ.seq ?_
            refine FJ.region ?_
            refine FJ.q (goes_list rfl) rfl (by decide) rfl (q_move rfl (.t (.s (.s (.s (.s (.s (.s (.s (.s (.s (.s (.s (.s (.s (.s (.s (.s (.s (.s (.s (.s (.s (.s (.s .z))))))))))))))))))))))))) ?_
            refine FJ.q (goes_list rfl) rfl (by decide) rfl (q_move rfl (.t (.s .z))) ?_
            refine FJ.call (goes_list rfl) rfl (by decide) rfl (c_call rfl Try.func59 rfl rfl (args2 (.t (.s .z)) (.t .z))) (.c (.s (.s (.s (.s (.s (.s (.s .z))))))) .n) (fun w1 S1 hs tr => c_59 _ hs (by omega) (by first | omega | (omega))) ?_
            rintro _ _ ⟨rfl, rfl⟩
            refine FJ.cat (.c .n) ?_
            refine FJ.er (.s (.s (.s .z))) ?_
            refine FJ.q (goes_list rfl) rfl (by decide) rfl (q_assign rfl (.t .z)) ?_
            refine FJ.nil ?_
            refine FJ.then_ ?_
            refine FJ.seq ?_
            refine FJ.seq ?_
            refine FJ.region ?_
            refine FJ.q (goes_list rfl) rfl (by decide) rfl (q_move rfl (.t .z)) ?_
            refine FJ.q (goes_list rfl) rfl (by decide) rfl (q_lss rfl (.t .z) .c) ?_
            refine FJ.q (goes_list rfl) rfl (by decide) rfl (q_move rfl (.t .z)) ?_
            refine FJ.caseP .z (fun g50 => ?_) (fun g50 => ?_)
            · -- g50: True
              refine FJ.skipl rfl rfl .z rfl rfl (by decide) rfl ?_
              refine FJ.skipl rfl rfl (.s .z) rfl rfl (by decide) rfl ?_
              refine FJ.skipl rfl rfl (.s (.s .z)) rfl rfl (by decide) rfl ?_
              refine FJ.skipl rfl rfl (.s (.s (.s .z))) rfl rfl (by decide) rfl ?_
              refine FJ.q (goes_list rfl) rfl (by decide) rfl (q_pickT rfl (.t (.s (.s (.s (.s .z))))) .c) ?_
              refine FJ.nil ?_
              refine FJ.then_ ?_
              refine FJ.condT (.t .z) ?_
              refine FJ.seq ?_
              refine FJ.region ?_
              refine FJ.er (.s (.s (.s (.s (.s (.s (.s (.s (.s (.s (.s (.s (.s (.s (.s (.s (.s (.s (.s (.s (.s (.s (.s (.s (.s (.s (.s (.s (.s (.s (.s (.s (.s (.s (.s (.s (.s (.s (.s (.s (.s (.s (.s (.s (.s (.s (.s (.s (.s (.s (.s (.s (.s (.s (.s (.s .z)))))))))))))))))))))))))))))))))))))))))))))))))))))))) ?_
              refine FJ.q (goes_list rfl) rfl (by decide) rfl (q_assign rfl .c) ?_
              refine FJ.nil ?_
              refine FJ.then_ ?_
              refine FJ.ret ?_
              refine FJ.thenR ?_
              refine FJ.doneS (res1 rfl .z) .n ?_
              exfalso; first | exact absurd rfl (by assumption) | omega | (simp_all; done)
            · -- g50: False
              refine FJ.q (goes_listg rfl rfl .z) rfl (by decide) rfl (q_loadA (cs := [.int .i64 ((putBlock x a ws).code), .slice Ao36 ((putBlock x a ws).disk.blocks).length co36, .slice Ao37 ((putBlock x a ws).disk.cache).length co37]) rfl ag_27 sz_27 (.t (.s (.s (.s (.s (.s (.s (.s (.s (.s (.s (.s (.s (.s (.s (.s (.s (.s (.s (.s (.s (.s (.s (.s (.s .z))))))))))))))))))))))))) (WS.rows0 (.s (.s (.s (.s (.s (.s (.s (.s (.s (.s (.s (.s (.s .z))))))))))))) (fun i u h => by exact h))) ?_
              refine FJ.q (goes_listg rfl rfl (.s .z)) rfl (by decide) rfl (q_loadA (cs := [.int .i64 ((putBlock x a ws).code), .slice Ao20 ((putBlock x a ws).disk.blocks).length co20, .slice Ao21 ((putBlock x a ws).disk.cache).length co21]) rfl ag_27 sz_27 (.t (.s (.s (.s (.s (.s (.s (.s (.s (.s (.s (.s (.s (.s (.s (.s (.s (.s (.s (.s (.s (.s (.s (.s (.s (.s (.s (.s (.s (.s (.s (.s (.s (.s (.s (.s (.s .z))))))))))))))))))))))))))))))))))))) (WS.rows0 (.s (.s (.s (.s (.s (.s (.s (.s (.s (.s (.s (.s (.s (.s (.s .z))))))))))))))) (fun i u h => by exact h))) ?_
              refine FJ.call (goes_listg rfl rfl (.s (.s .z))) rfl (by decide) rfl (c_call rfl Try.func22 rfl rfl (args2 (.t (.s .z)) (.t .z))) .n (fun w1 S1 hs tr => c_22 (kT_27_mk (putBlock x a ws) (tr.own (.s (.s (.s (.s (.s (.s .z))))))) (tr.own (.s (.s (.s (.s (.s (.s (.s .z))))))))) (kT_27_mk (putBlock x a ws) (tr.own (.s (.s (.s (.s (.s (.s (.s (.s .z))))))))) (tr.own (.s (.s (.s (.s (.s (.s (.s (.s (.s .z)))))))))))) ?_
              rintro _ _ ⟨rfl, rfl⟩
              refine FJ.cat .n ?_
              refine FJ.q (goes_listg rfl rfl (.s (.s (.s .z)))) rfl (by decide) rfl (q_not rfl (.t .z)) ?_
              refine FJ.q (goes_list rfl) rfl (by decide) rfl (q_pickF rfl (.t (.s (.s (.s (.s .z))))) (.t .z)) ?_
              refine FJ.nil ?_
              refine FJ.then_ ?_
              refine FJ.condN (.t .z) (fun b51 => ?_) (fun b51 => ?_)
              · -- b51: True
                refine FJ.seq ?_
                refine FJ.region ?_
                refine FJ.er (.s (.s (.s (.s (.s (.s (.s (.s (.s (.s (.s (.s (.s (.s (.s (.s (.s (.s (.s (.s (.s (.s (.s (.s (.s (.s (.s (.s (.s (.s (.s (.s (.s (.s (.s (.s (.s (.s (.s (.s (.s (.s (.s (.s (.s (.s (.s (.s (.s (.s (.s (.s (.s (.s (.s (.s .z)))))))))))))))))))))))))))))))))))))))))))))))))))))))) ?_
                refine FJ.q (goes_list rfl) rfl (by decide) rfl (q_assign rfl .c) ?_
                refine FJ.nil ?_
                refine FJ.then_ ?_
                refine FJ.ret ?_
                refine FJ.thenR ?_
                refine FJ.doneS (res1 rfl .z) .n ?_
                exfalso; first | exact absurd rfl (by assumption) | omega | (simp_all; done)
              · -- b51: False
                refine FJ.skip ?_
                refine FJ.then_ ?_
                refine FJ.seq ?_
                refine FJ.region ?_
                refine FJ.q (goes_list rfl) rfl (by decide) rfl (q_assign rfl .c) ?_
                refine FJ.nil ?_
                refine FJ.then_ ?_
                refine FJ.seq ?_
                refine FJ.region ?_
                refine FJ.q (goes_list rfl) rfl (by decide) rfl (q_loadA (cs := [.int .i64 ((putBlock x a ws).code), .slice Ao36 ((putBlock x a ws).disk.blocks).length co36, .slice Ao37 ((putBlock x a ws).disk.cache).length co37]) rfl ag_27 sz_27 (.t (.s (.s (.s (.s (.s (.s (.s (.s (.s (.s (.s (.s (.s (.s (.s (.s (.s (.s (.s (.s (.s (.s (.s (.s (.s (.s (.s (.s (.s (.s .z))))))))))))))))))))))))))))))) (WS.rows0 (.s (.s (.s (.s (.s (.s (.s (.s (.s (.s (.s (.s (.s .z))))))))))))) (fun i u h => by exact h))) ?_
                refine FJ.q (goes_list rfl) rfl (by decide) rfl (q_move rfl (.t (.s .z))) ?_
                refine FJ.call (goes_list rfl) rfl (by decide) rfl (c_call rfl Try.func23 rfl rfl (args2 (.t (.s .z)) (.t .z))) (.c (.s (.s (.s (.s (.s (.s .z)))))) (.c (.s (.s (.s (.s (.s (.s .z)))))) .n)) (fun w1 S1 hs tr => c_23 _ hs (by omega) (by first | omega | (omega))) ?_
                rintro _ _ ⟨rfl, rfl⟩
                refine FJ.cat (.c (.c .n)) ?_
                refine FJ.er (.s (.s (.s .z))) ?_
                refine FJ.q (goes_list rfl) rfl (by decide) rfl (q_assign rfl (.t .z)) ?_
                refine FJ.nil ?_
                refine FJ.then_ ?_
                refine FJ.seq ?_
                refine FJ.region ?_
                refine FJ.q (goes_list rfl) rfl (by decide) rfl (q_assign rfl .c) ?_
                refine FJ.nil ?_
                refine FJ.then_ ?_
                refine FJ.seq ?_
                refine FJ.region ?_
                refine FJ.q (goes_list rfl) rfl (by decide) rfl (q_loadA (cs := [.int .i64 ((putBlock x a ws).code), .slice Ao36 ((putBlock x a ws).disk.blocks).length co36, .slice Ao37 ((putBlock x a ws).disk.cache).length co37]) rfl ag_27 sz_27 (.t (.s (.s (.s (.s (.s (.s (.s (.s (.s (.s (.s (.s (.s (.s (.s (.s (.s (.s (.s (.s (.s (.s (.s (.s (.s (.s (.s (.s (.s (.s (.s (.s (.s (.s .z))))))))))))))))))))))))))))))))))) (WS.rows0 (.s (.s (.s (.s (.s (.s (.s (.s (.s (.s (.s (.s (.s .z))))))))))))) (fun i u h => by exact h))) ?_
                refine FJ.q (goes_list rfl) rfl (by decide) rfl (q_move rfl (.t (.s .z))) ?_
                refine FJ.call (goes_list rfl) rfl (by decide) rfl (c_call rfl Try.func24 rfl rfl (args2 (.t (.s .z)) (.t .z))) .n (fun w1 S1 hs tr => c_24 (kT_27_mk (⟨(putBlock x a ws).code, (⟨(vmark_RDisk 1 (putBlock x a ws)).disk.blocks, (vmark_RDisk 1 (putBlock x a ws)).disk.cache⟩ : DDisk)⟩ : RDisk) (tr.own .z) (tr.own (.s .z))) _ (putBlock x a ws) rfl (by omega) (by first | omega | (omega))) ?_
                rintro _ _ ⟨rfl, rfl⟩
                refine FJ.cat .n ?_
                refine FJ.er (.s (.s (.s .z))) ?_
                refine FJ.q (goes_list rfl) rfl (by decide) rfl (q_assign rfl (.t .z)) ?_
                refine FJ.nil ?_
                refine FJ.then_ ?_
                refine FJ.seq ?_
                refine FJ.seq ?_
                refine FJ.region ?_
                refine FJ.q (goes_list rfl) rfl (by decide) rfl (q_move rfl (.t .z)) ?_
                refine FJ.q (goes_list rfl) rfl (by decide) rfl (q_lss rfl (.t .z) .c) ?_
                refine FJ.nil ?_
                refine FJ.then_ ?_
                refine FJ.condP (.t .z) (fun b52 => ?_) (fun b52 => ?_)
                · -- b52: True
                  refine FJ.seq ?_
                  refine FJ.region ?_
                  refine FJ.er (.s (.s (.s (.s (.s (.s (.s (.s (.s (.s (.s (.s (.s (.s (.s (.s (.s (.s (.s (.s (.s (.s (.s (.s (.s (.s (.s (.s (.s (.s (.s (.s (.s (.s (.s (.s (.s (.s (.s (.s (.s (.s (.s (.s (.s (.s (.s (.s (.s (.s (.s (.s (.s (.s (.s (.s (.s (.s (.s (.s (.s (.s (.s (.s (.s (.s .z)))))))))))))))))))))))))))))))))))))))))))))))))))))))))))))))))) ?_
                  refine FJ.q (goes_list rfl) rfl (by decide) rfl (q_assign rfl .c) ?_
                  refine FJ.nil ?_
                  refine FJ.then_ ?_
                  refine FJ.ret ?_
                  refine FJ.thenR ?_
                  refine FJ.doneS (res1 rfl .z) .n ?_
                  exfalso; first | exact absurd rfl (by assumption) | omega | (simp_all; done)
                · -- b52: False
                  refine FJ.skip ?_
                  refine FJ.then_ ?_
                  refine FJ.seq ?_
                  refine FJ.seq ?_
                  refine FJ.region ?_
                  refine FJ.q (goes_list rfl) rfl (by decide) rfl (q_move rfl (.t (.s (.s .z)))) ?_
                  refine FJ.q (goes_list rfl) rfl (by decide) rfl (q_move rfl (.t (.s (.s (.s (.s (.s (.s (.s .z))))))))) ?_
                  refine FJ.q (goes_list rfl) rfl (by decide) rfl (q_neq rfl (.t (.s .z)) (.t .z)) ?_
                  refine FJ.nil ?_
                  refine FJ.then_ ?_
                  refine FJ.condN (.t .z) (fun b53 => ?_) (fun b53 => ?_)
                  · -- b53: True
                    refine FJ.seq ?_
                    refine FJ.region ?_
                    refine FJ.er (.s (.s (.s (.s (.s (.s (.s (.s (.s (.s (.s (.s (.s (.s (.s (.s (.s (.s (.s (.s (.s (.s (.s (.s (.s (.s (.s (.s (.s (.s (.s (.s (.s (.s (.s (.s (.s (.s (.s (.s (.s (.s (.s (.s (.s (.s (.s (.s (.s (.s (.s (.s (.s (.s (.s (.s (.s (.s (.s (.s (.s (.s (.s (.s (.s (.s (.s (.s (.s .z))))))))))))))))))))))))))))))))))))))))))))))))))))))))))))))))))))) ?_
                    refine FJ.q (goes_list rfl) rfl (by decide) rfl (q_assign rfl .c) ?_
                    refine FJ.nil ?_
                    refine FJ.then_ ?_
                    refine FJ.ret ?_
                    refine FJ.thenR ?_
                    refine FJ.doneS (res1 rfl .z) .n ?_
                    exfalso; first | exact absurd rfl (by assumption) | omega | (simp_all; done)
                  · -- b53: False
                    refine FJ.skip ?_
                    refine FJ.then_ ?_
                    refine FJ.seq ?_
                    refine FJ.region ?_
                    refine FJ.q (goes_list rfl) rfl (by decide) rfl (q_loadA (cs := [.slice A0_0 x.blocks.length c0_0, .slice A0_1 x.cache.length c0_1]) rfl ag_34 sz_34 (.t (.s (.s (.s (.s (.s (.s (.s (.s (.s (.s (.s (.s (.s (.s (.s (.s (.s (.s (.s (.s (.s (.s (.s (.s (.s (.s (.s (.s (.s (.s (.s (.s (.s (.s (.s (.s (.s (.s (.s (.s (.s (.s (.s (.s (.s (.s (.s (.s (.s (.s (.s (.s (.s (.s (.s (.s (.s (.s (.s (.s (.s (.s (.s (.s (.s (.s (.s (.s (.s (.s .z))))))))))))))))))))))))))))))))))))))))))))))))))))))))))))))))))))))) (WS.rows0 (.s (.s (.s (.s (.s (.s (.s (.s (.s (.s (.s (.s (.s (.s (.s (.s .z)))))))))))))))) (fun i u h => by exact h))) ?_
                    refine FJ.call (goes_list rfl) rfl (by decide) rfl (c_call rfl Try.func27 rfl rfl (args1 (.t .z))) .n (fun w1 S1 hs tr => c_27 (kT_34_mk x (tr.ctx h0_0) (tr.ctx h0_1))) ?_
                    rintro _ _ ⟨v54, v56, rfl, rfl⟩
                    refine FJ.cat (.c (.c .n)) ?_
                    refine FJ.know (WS.oform .z) ?_
                    rintro ⟨Ao58, co58, rfl, hlo58, hmo58, hbo58⟩
                    refine FJ.know (WS.oform (.s .z)) ?_
                    rintro ⟨Ao59, co59, rfl, hlo59, hmo59, hbo59⟩
                    refine FJ.q (goes_list rfl) rfl (by decide) rfl (q_move rfl (.t (.s (.s (.s (.s (.s (.s (.s (.s (.s (.s (.s (.s (.s (.s (.s (.s (.s (.s (.s (.s (.s (.s (.s (.s (.s (.s (.s (.s (.s (.s (.s (.s (.s (.s (.s (.s (.s (.s (.s (.s (.s (.s (.s (.s (.s (.s (.s (.s (.s (.s (.s (.s (.s (.s (.s (.s (.s (.s (.s (.s (.s (.s (.s (.s (.s (.s (.s (.s (.s (.s (.s (.s (.s (.s .z)))))))))))))))))))))))))))))))))))))))))))))))))))))))))))))))))))))))))))) ?_
                    refine FJ.q (goes_list rfl) rfl (by decide) rfl (q_move rfl (.t (.s (.s (.s (.s (.s (.s (.s (.s (.s (.s (.s (.s (.s (.s (.s (.s (.s (.s (.s (.s (.s (.s (.s (.s (.s (.s (.s (.s (.s (.s (.s (.s (.s (.s (.s (.s (.s (.s (.s (.s (.s (.s (.s (.s (.s (.s (.s (.s (.s (.s (.s (.s (.s (.s (.s (.s (.s (.s (.s (.s (.s (.s (.s (.s (.s (.s (.s (.s (.s (.s (.s (.s (.s (.s (.s (.s .z)))))))))))))))))))))))))))))))))))))))))))))))))))))))))))))))))))))))))))))) ?_
                    refine FJ.call (goes_list rfl) rfl (by decide) rfl (c_call rfl Try.func57 rfl rfl (args1 (.t .z))) .n (fun w1 S1 hs tr => c_57 (tr.ctx h2)) ?_
                    rintro _ _ rfl
                    refine FJ.cat (.c .n) ?_
                    refine FJ.know (WS.oform .z) ?_
                    rintro ⟨Ao61, co61, rfl, hlo61, hmo61, hbo61⟩
                    refine FJ.call (goes_list rfl) rfl (by decide) rfl (c_call rfl Try.func41 rfl rfl (args3 (.t (.s (.s (.s .z)))) (.t (.s (.s .z))) (.t .z))) .n (fun w1 S1 hs tr => c_41 (kT_25_mk x (tr.own (.s .z)) (tr.own (.s (.s .z)))) _ (tr.own .z)) ?_
                    rintro _ _ ⟨v62, v64, rfl, rfl⟩
                    refine FJ.cat (.c (.c .n)) ?_
                    refine FJ.know (WS.oform .z) ?_
                    rintro ⟨Ao66, co66, rfl, hlo66, hmo66, hbo66⟩
                    refine FJ.know (WS.oform (.s .z)) ?_
                    rintro ⟨Ao67, co67, rfl, hlo67, hmo67, hbo67⟩
                    refine FJ.e (goes_list rfl) rfl (by decide) rfl (e_alloc rfl z_27 rfl rfl) ?_
                    rintro _ _ ⟨g68, rfl, rfl⟩
                    refine FJ.es (goes_list rfl) rfl (es_store (off := 0) (cs := [.int .i64 ((putBlock x a ws).code), .slice Ao66 ((putBlock x a ws).disk.blocks).length co66, .slice Ao67 ((putBlock x a ws).disk.cache).length co67]) rfl sz_27 (.t .z) (.t (.s .z)) rfl (ones rfl) .z (Nat.le_of_ble_eq_true rfl) (.c .z (.c (.s .z) (.c (.s (.s .z)) .n)))) ?_
                    refine FJ.nil ?_
                    refine FJ.then_ ?_
                    refine FJ.seq ?_
                    refine FJ.seq ?_
                    refine FJ.region ?_
                    refine FJ.q (goes_list rfl) rfl (by decide) rfl (q_loadA (cs := [.int .i64 ((putBlock x a ws).code), .slice Ao66 ((putBlock x a ws).disk.blocks).length co66, .slice Ao67 ((putBlock x a ws).disk.cache).length co67]) rfl ag_27 sz_27 (.t .z) (WS.rows0 .z (fun i u h => by exact h))) ?_
                    refine FJ.q (goes_list rfl) rfl (by decide) rfl (q_loadA (cs := [.int .i64 ((putBlock x a ws).code), .slice Ao20 ((putBlock x a ws).disk.blocks).length co20, .slice Ao21 ((putBlock x a ws).disk.cache).length co21]) rfl ag_27 sz_27 (.t (.s (.s (.s (.s (.s (.s (.s (.s (.s (.s (.s (.s (.s (.s (.s (.s (.s (.s (.s (.s (.s (.s (.s (.s (.s (.s (.s (.s (.s (.s (.s (.s (.s (.s (.s (.s (.s (.s (.s (.s (.s (.s (.s (.s (.s (.s (.s (.s (.s (.s (.s (.s (.s (.s (.s (.s (.s (.s (.s (.s (.s .z)))))))))))))))))))))))))))))))))))))))))))))))))))))))))))))) (WS.rows0 (.s (.s (.s (.s (.s (.s (.s (.s (.s (.s (.s (.s (.s (.s (.s (.s (.s (.s (.s (.s (.s .z))))))))))))))))))))) (fun i u h => by exact h))) ?_
                    refine FJ.call (goes_list rfl) rfl (by decide) rfl (c_call rfl Try.func22 rfl rfl (args2 (.t (.s .z)) (.t .z))) .n (fun w1 S1 hs tr => c_22 (kT_27_mk (putBlock x a ws) (tr.own (.s .z)) (tr.own (.s (.s .z)))) (kT_27_mk (putBlock x a ws) (tr.own (.s (.s (.s (.s (.s (.s (.s (.s (.s (.s (.s (.s (.s (.s .z))))))))))))))) (tr.own (.s (.s (.s (.s (.s (.s (.s (.s (.s (.s (.s (.s (.s (.s (.s .z)))))))))))))))))) ?_
                    rintro _ _ ⟨rfl, rfl⟩
                    refine FJ.cat .n ?_
                    refine FJ.q (goes_list rfl) rfl (by decide) rfl (q_not rfl (.t .z)) ?_
                    refine FJ.nil ?_
                    refine FJ.then_ ?_
                    refine FJ.condN (.t .z) (fun b69 => ?_) (fun b69 => ?_)
                    · -- b69: True
                      refine FJ.seq ?_
                      refine FJ.region ?_
                      refine FJ.er (.s (.s (.s (.s (.s (.s (.s (.s (.s (.s (.s (.s (.s (.s (.s (.s (.s (.s (.s (.s (.s (.s (.s (.s (.s (.s (.s (.s (.s (.s (.s (.s (.s (.s (.s (.s (.s (.s (.s (.s (.s (.s (.s (.s (.s (.s (.s (.s (.s (.s (.s (.s (.s (.s (.s (.s (.s (.s (.s (.s (.s (.s (.s (.s (.s (.s (.s (.s (.s (.s (.s (.s (.s (.s (.s (.s (.s (.s (.s (.s .z)))))))))))))))))))))))))))))))))))))))))))))))))))))))))))))))))))))))))))))))) ?_
                      refine FJ.q (goes_list rfl) rfl (by decide) rfl (q_assign rfl .c) ?_
                      refine FJ.nil ?_
                      refine FJ.then_ ?_
                      refine FJ.ret ?_
                      refine FJ.thenR ?_
                      refine FJ.doneS (res1 rfl .z) .n ?_
                      exfalso; first | exact absurd rfl (by assumption) | omega | (simp_all; done)
                    · -- b69: False
                      refine FJ.skip ?_
                      refine FJ.then_ ?_
                      refine FJ.seq ?_
                      refine FJ.region ?_
                      refine FJ.er (.s (.s (.s (.s (.s (.s (.s (.s (.s (.s (.s (.s (.s (.s (.s (.s .z)))))))))))))))) ?_
                      refine FJ.q (goes_list rfl) rfl (by decide) rfl (q_assign rfl .c) ?_
                      refine FJ.nil ?_
                      refine FJ.then_ ?_
                      refine FJ.seq ?_
                      refine FJ.region ?_
                      refine FJ.q (goes_list rfl) rfl (by decide) rfl (q_loadA (cs := [.int .i64 ((putBlock x a ws).code), .slice Ao36 ((putBlock x a ws).disk.blocks).length co36, .slice Ao37 ((putBlock x a ws).disk.cache).length co37]) rfl ag_27 sz_27 (.t (.s (.s (.s (.s (.s (.s (.s (.s (.s (.s (.s (.s (.s (.s (.s (.s (.s (.s (.s (.s (.s (.s (.s (.s (.s (.s (.s (.s (.s (.s (.s (.s (.s (.s (.s (.s (.s (.s (.s (.s (.s (.s (.s (.s (.s (.s (.s (.s (.s (.s (.s (.s (.s .z)))))))))))))))))))))))))))))))))))))))))))))))))))))) (WS.rows0 (.s (.s (.s (.s (.s (.s (.s (.s (.s (.s (.s (.s (.s (.s (.s (.s (.s (.s (.s .z))))))))))))))))))) (fun i u h => by exact h))) ?_
                      refine FJ.q (goes_list rfl) rfl (by decide) rfl (q_move rfl (.t (.s .z))) ?_
                      refine FJ.call (goes_list rfl) rfl (by decide) rfl (c_call rfl Try.func24 rfl rfl (args2 (.t (.s .z)) (.t .z))) .n (fun w1 S1 hs tr => c_24 (kT_27_mk (⟨(putBlock x a ws).code, (⟨(vmark_RDisk 1 (putBlock x a ws)).disk.blocks, (vmark_RDisk 1 (putBlock x a ws)).disk.cache⟩ : DDisk)⟩ : RDisk) (tr.own (.s (.s (.s (.s (.s (.s .z))))))) (tr.own (.s (.s (.s (.s (.s (.s (.s .z))))))))) _ (putBlock x a ws) rfl (by omega) (by first | omega | (omega))) ?_
                      rintro _ _ ⟨rfl, rfl⟩
                      refine FJ.cat .n ?_
                      refine FJ.er (.s (.s (.s .z))) ?_
                      refine FJ.q (goes_list rfl) rfl (by decide) rfl (q_assign rfl (.t .z)) ?_
                      refine FJ.nil ?_
                      refine FJ.then_ ?_
                      refine FJ.seq ?_
                      refine FJ.seq ?_
                      refine FJ.region ?_
                      refine FJ.q (goes_list rfl) rfl (by decide) rfl (q_move rfl (.t .z)) ?_
                      refine FJ.q (goes_list rfl) rfl (by decide) rfl (q_lss rfl (.t .z) .c) ?_
                      refine FJ.nil ?_
                      refine FJ.then_ ?_
                      refine FJ.condP (.t .z) (fun b70 => ?_) (fun b70 => ?_)
                      · -- b70: True
                        refine FJ.seq ?_
                        refine FJ.region ?_
                        refine FJ.er (.s (.s (.s (.s (.s (.s (.s (.s (.s (.s (.s (.s (.s (.s (.s (.s (.s (.s (.s (.s (.s (.s (.s (.s (.s (.s (.s (.s (.s (.s (.s (.s (.s (.s (.s (.s (.s (.s (.s (.s (.s (.s (.s (.s (.s (.s (.s (.s (.s (.s (.s (.s (.s (.s (.s (.s (.s (.s (.s (.s (.s (.s (.s (.s (.s (.s (.s (.s (.s (.s (.s (.s (.s (.s (.s (.s (.s (.s (.s (.s (.s (.s (.s (.s (.s .z))))))))))))))))))))))))))))))))))))))))))))))))))))))))))))))))))))))))))))))))))))) ?_
                        refine FJ.q (goes_list rfl) rfl (by decide) rfl (q_assign rfl .c) ?_
                        refine FJ.nil ?_
                        refine FJ.then_ ?_
                        refine FJ.ret ?_
                        refine FJ.thenR ?_
                        refine FJ.doneS (res1 rfl .z) .n ?_
                        exfalso; first | exact absurd rfl (by assumption) | omega | (simp_all; done)
                      · -- b70: False
                        refine FJ.skip ?_
                        refine FJ.then_ ?_
                        refine FJ.seq ?_
                        refine FJ.seq ?_
                        refine FJ.region ?_
                        refine FJ.q (goes_list rfl) rfl (by decide) rfl (q_move rfl (.t (.s (.s .z)))) ?_
                        refine FJ.q (goes_list rfl) rfl (by decide) rfl (q_move rfl (.t (.s (.s (.s (.s (.s (.s (.s (.s (.s (.s (.s (.s (.s (.s (.s (.s (.s (.s (.s (.s (.s (.s (.s (.s (.s (.s .z)))))))))))))))))))))))))))) ?_
                        refine FJ.q (goes_list rfl) rfl (by decide) rfl (q_neq rfl (.t (.s .z)) (.t .z)) ?_
                        refine FJ.nil ?_
                        refine FJ.then_ ?_
                        refine FJ.condN (.t .z) (fun b71 => ?_) (fun b71 => ?_)
                        · -- b71: True
                          refine FJ.seq ?_
                          refine FJ.region ?_
                          refine FJ.er (.s (.s (.s (.s (.s (.s (.s (.s (.s (.s (.s (.s (.s (.s (.s (.s (.s (.s (.s (.s (.s (.s (.s (.s (.s (.s (.s (.s (.s (.s (.s (.s (.s (.s (.s (.s (.s (.s (.s (.s (.s (.s (.s (.s (.s (.s (.s (.s (.s (.s (.s (.s (.s (.s (.s (.s (.s (.s (.s (.s (.s (.s (.s (.s (.s (.s (.s (.s (.s (.s (.s (.s (.s (.s (.s (.s (.s (.s (.s (.s (.s (.s (.s (.s (.s (.s (.s (.s .z)))))))))))))))))))))))))))))))))))))))))))))))))))))))))))))))))))))))))))))))))))))))) ?_
                          refine FJ.q (goes_list rfl) rfl (by decide) rfl (q_assign rfl .c) ?_
                          refine FJ.nil ?_
                          refine FJ.then_ ?_
                          refine FJ.ret ?_
                          refine FJ.thenR ?_
                          refine FJ.doneS (res1 rfl .z) .n ?_
                          exfalso; first | exact absurd rfl (by assumption) | omega | (simp_all; done)
                        · -- b71: False
                          refine FJ.skip ?_
                          refine FJ.then_ ?_
                          refine FJ.seq ?_
                          refine FJ.region ?_
                          refine FJ.er (.s (.s (.s (.s (.s (.s (.s (.s (.s (.s (.s (.s (.s (.s (.s (.s (.s (.s (.s (.s (.s (.s (.s (.s (.s (.s (.s (.s (.s (.s (.s (.s (.s (.s (.s (.s (.s (.s (.s (.s (.s (.s (.s (.s (.s (.s (.s (.s (.s (.s (.s (.s (.s (.s (.s (.s (.s (.s (.s (.s (.s (.s (.s (.s (.s (.s (.s (.s (.s (.s (.s (.s (.s (.s (.s (.s (.s (.s (.s (.s (.s (.s (.s (.s (.s (.s (.s (.s .z)))))))))))))))))))))))))))))))))))))))))))))))))))))))))))))))))))))))))))))))))))))))) ?_
                          refine FJ.q (goes_list rfl) rfl (by decide) rfl (q_assign rfl .c) ?_
                          refine FJ.nil ?_
                          refine FJ.then_ ?_
                          refine FJ.ret ?_
                          refine FJ.doneS (res1 rfl .z) .n ?_
                          exact ⟨rfl, rfl⟩

end Go.Proofs.Ytkmcpcahbfdohaa

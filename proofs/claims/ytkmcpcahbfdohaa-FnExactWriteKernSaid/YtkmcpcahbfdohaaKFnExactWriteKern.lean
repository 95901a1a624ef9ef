/- What is proved: contracts of functions, one a function. No condition. -/
import Derived.Test.YtkmcpcahbfdohaaW17
import Derived.Test.YtkmcpcahbfdohaaMCount
namespace Go.Proofs.Ytkmcpcahbfdohaa
open Go Go.RowKit
set_option linter.unusedVariables false
set_option linter.unusedSimpArgs false
set_option maxHeartbeats 1000000 in
set_option maxRecDepth 20000 in
theorem c_18 {w0 : World} {S0 : Bs} {x : DKern} {cs0 : List Value} (h0 : kT_69.ro w0 (FF w0 S0) x cs0) (a : Int) (b : Int) {ws : (List Int)} {v3 : Value} (h3 : kSl_2.ro w0 (FF w0 S0) ws [v3])  :
    Calls Try.prog 18 #[.agg cs0.toArray, .int .i64 a, .int .i64 b, v3] w0 (TriPost w0 S0 (fun r l => r = .bool true ∧ l = [])) := by
  obtain ⟨u0_0, u0_1, u0_2, rfl, h0_0, h0_1, h0_2⟩ := kT_69_ro h0
  obtain ⟨A0_0, c0_0, rfl, hl0_0, hm0_0, hb0_0, he0_0⟩ := ro_form h0_0
  obtain ⟨A0_1, c0_1, rfl, hl0_1, hm0_1, hb0_1, he0_1⟩ := ro_form h0_1
  obtain ⟨A0_2, c0_2, rfl, hl0_2, hm0_2, hb0_2, he0_2⟩ := ro_form h0_2
  obtain ⟨A3, c3, rfl, hl3, hm3, hb3, he3⟩ := ro_form h3
  have hb := writeKern_cnt x a b ws
  have hw := kern_cnt_wt x
  refine FJ.enter (N := 100) Try.func18 rfl rfl (by simp) [(0, .agg #[.slice A0_0 x.disk.blocks.length c0_0, .slice A0_1 x.disk.cache.length c0_1, .slice A0_2 x.exts.length c0_2]), (1, .int .i64 a), (2, .int .i64 b), (3, .slice A3 ws.length c3)] (by simp) (l0 := []) trivial ?_
  refine FJ.seq ?_
  refine FJ.region ?_
  refine FJ.e (goes_list rfl) rfl (by decide) rfl (e_box (cs := [.slice A0_0 x.disk.blocks.length c0_0, .slice A0_1 x.disk.cache.length c0_1, .slice A0_2 x.exts.length c0_2]) (n := 3) rfl (.t .z) rfl rfl) ?_
  rintro _ _ ⟨g5, rfl, rfl⟩
  refine FJ.q (goes_list rfl) rfl (by decide) rfl (q_assign rfl .c) ?_
  refine FJ.nil ?_
  refine FJ.then_ ?_
  refine FJ.seq ?_
  refine FJ.seq ?_
  refine FJ.region ?_
  refine FJ.q (goes_list rfl) rfl (by decide) rfl (q_move rfl (.t (.s (.s (.s (.s (.s .z))))))) ?_
  refine FJ.q (goes_list rfl) rfl (by decide) rfl (q_len rfl u_40 (.t .z)) ?_
  refine FJ.q (goes_list rfl) rfl (by decide) rfl (q_gtr rfl (.t .z) .c) ?_
  refine FJ.nil ?_
  refine FJ.then_ ?_
  refine FJ.condP (.t .z) (fun b6 => ?_) (fun b6 => ?_)
  · -- b6: True
    refine FJ.seq ?_
    refine FJ.region ?_
    refine FJ.er (.s (.s (.s .z))) ?_
    refine FJ.q (goes_list rfl) rfl (by decide) rfl (q_assign rfl .c) ?_
    refine FJ.nil ?_
    refine FJ.then_ ?_
    refine FJ.ret ?_
    refine FJ.thenR ?_
    refine FJ.doneS (res1 rfl .z) .n ?_
    exact ⟨rfl, rfl⟩
  · -- b6: False
    refine FJ.skip ?_
    refine FJ.then_ ?_
    refine FJ.seq ?_
    refine FJ.region ?_
    refine FJ.q (goes_list rfl) rfl (by decide) rfl (q_assign rfl .c) ?_
    refine FJ.nil ?_
    refine FJ.then_ ?_
    refine FJ.seq ?_
    refine FJ.region ?_
    refine FJ.q (goes_list rfl) rfl (by decide) rfl (q_loadA (cs := [.slice A0_0 x.disk.blocks.length c0_0, .slice A0_1 x.disk.cache.length c0_1, .slice A0_2 x.exts.length c0_2]) rfl ag_69 sz_69 (.t (.s (.s (.s (.s (.s .z)))))) (WS.rows0 .z (fun i u h => by exact h))) ?_
    refine FJ.q (goes_list rfl) rfl (by decide) rfl (q_move rfl (.t (.s .z))) ?_
    refine FJ.call (goes_list rfl) rfl (by decide) rfl (c_call rfl Try.func47 rfl rfl (args2 (.t (.s .z)) (.t .z))) .n (fun w1 S1 hs tr => c_47 (kT_69_mk x (tr.ctx h0_0) (tr.ctx h0_1) (tr.ctx h0_2)) _ (by omega) (by omega)) ?_
    rintro _ _ ⟨c7, rfl, hc7, wc7, rfl⟩
    refine FJ.cat .n ?_
    refine FJ.er (.s (.s (.s .z))) ?_
    refine FJ.q (goes_list rfl) rfl (by decide) rfl (q_assign rfl (.t .z)) ?_
    refine FJ.nil ?_
    refine FJ.then_ ?_
    refine FJ.seq ?_
    refine FJ.seq ?_
    refine FJ.region ?_
    refine FJ.q (goes_list rfl) rfl (by decide) rfl (q_move rfl (.t .z)) ?_
    refine FJ.q (goes_list rfl) rfl (by decide) rfl (q_lss rfl (.t .z) .c) ?_
    refine FJ.nil ?_
    refine FJ.then_ ?_
    refine FJ.condP (.t .z) (fun b8 => ?_) (fun b8 => ?_)
    · -- b8: True
      refine FJ.seq ?_
      refine FJ.region ?_
      refine FJ.er (.s (.s (.s (.s (.s (.s (.s (.s (.s .z))))))))) ?_
      refine FJ.q (goes_list rfl) rfl (by decide) rfl (q_assign rfl .c) ?_
      refine FJ.nil ?_
      refine FJ.then_ ?_
      refine FJ.ret ?_
      refine FJ.thenR ?_
      refine FJ.doneS (res1 rfl .z) .n ?_
      exact ⟨rfl, rfl⟩
    · -- b8: False
      refine FJ.skip ?_
      refine FJ.then_ ?_
      refine FJ.seq ?_
      refine FJ.region ?_
      refine FJ.q (goes_list rfl) rfl (by decide) rfl (q_loadA (cs := [.slice A0_0 x.disk.blocks.length c0_0, .slice A0_1 x.disk.cache.length c0_1, .slice A0_2 x.exts.length c0_2]) rfl ag_69 sz_69 (.t (.s (.s (.s (.s (.s (.s (.s (.s (.s (.s .z))))))))))) (WS.rows0 .z (fun i u h => by exact h))) ?_
      refine FJ.call (goes_list rfl) rfl (by decide) rfl (c_call rfl Try.func49 rfl rfl (args1 (.t .z))) .n (fun w1 S1 hs tr => c_49 (kT_69_mk x (tr.ctx h0_0) (tr.ctx h0_1) (tr.ctx h0_2))) ?_
      rintro _ _ ⟨v9, v11, v13, rfl, rfl⟩
      refine FJ.cat (.c (.c (.c .n))) ?_
      refine FJ.know (WS.oform .z) ?_
      rintro ⟨Ao15, co15, rfl, hlo15, hmo15, hbo15⟩
      refine FJ.know (WS.oform (.s .z)) ?_
      rintro ⟨Ao16, co16, rfl, hlo16, hmo16, hbo16⟩
      refine FJ.know (WS.oform (.s (.s .z))) ?_
      rintro ⟨Ao17, co17, rfl, hlo17, hmo17, hbo17⟩
      refine FJ.q (goes_list rfl) rfl (by decide) rfl (q_move rfl (.t (.s (.s (.s (.s (.s (.s (.s (.s (.s (.s (.s (.s (.s (.s .z)))))))))))))))) ?_
      refine FJ.q (goes_list rfl) rfl (by decide) rfl (q_move rfl (.t (.s (.s (.s (.s (.s (.s (.s (.s (.s (.s (.s (.s (.s (.s (.s (.s .z)))))))))))))))))) ?_
      refine FJ.q (goes_list rfl) rfl (by decide) rfl (q_move rfl (.t (.s (.s (.s (.s (.s (.s (.s (.s (.s (.s (.s (.s (.s (.s (.s (.s (.s (.s .z)))))))))))))))))))) ?_
      refine FJ.call (goes_list rfl) rfl (by decide) rfl (c_call rfl Try.func57 rfl rfl (args1 (.t .z))) .n (fun w1 S1 hs tr => c_57 (tr.ctx h3)) ?_
      rintro _ _ rfl
      refine FJ.cat (.c .n) ?_
      refine FJ.know (WS.oform .z) ?_
      rintro ⟨Ao19, co19, rfl, hlo19, hmo19, hbo19⟩
      refine FJ.call (goes_list rfl) rfl (by decide) rfl (c_call rfl Try.func71 rfl rfl (args4 (.t (.s (.s (.s (.s .z))))) (.t (.s (.s (.s .z)))) (.t (.s (.s .z))) (.t .z))) .n (fun w1 S1 hs tr => c_71 (kT_43_mk x (tr.own (.s .z)) (tr.own (.s (.s .z))) (tr.own (.s (.s (.s .z))))) _ _ (tr.own .z)) ?_
      rintro _ _ ⟨v20, v22, v24, v26, rfl, rfl⟩
      refine FJ.cat (.c (.c (.c (.c .n)))) ?_
      refine FJ.know (WS.oform .z) ?_
      rintro ⟨Ao28, co28, rfl, hlo28, hmo28, hbo28⟩
      refine FJ.know (WS.oform (.s .z)) ?_
      rintro ⟨Ao29, co29, rfl, hlo29, hmo29, hbo29⟩
      refine FJ.know (WS.oform (.s (.s .z))) ?_
      rintro ⟨Ao30, co30, rfl, hlo30, hmo30, hbo30⟩
      refine FJ.know (WS.oform (.s (.s (.s .z)))) ?_
      rintro ⟨Ao31, co31, rfl, hlo31, hmo31, hbo31⟩
      refine FJ.e (goes_list rfl) rfl (by decide) rfl (e_alloc rfl z_45 rfl rfl) ?_
      rintro _ _ ⟨g32, rfl, rfl⟩
      refine FJ.es (goes_list rfl) rfl (es_store (off := 0) (cs := [.int .i64 ((writeKern x a b ws).code), .slice Ao28 ((writeKern x a b ws).words).length co28, .slice Ao29 ((writeKern x a b ws).kern.disk.blocks).length co29, .slice Ao30 ((writeKern x a b ws).kern.disk.cache).length co30, .slice Ao31 ((writeKern x a b ws).kern.exts).length co31]) rfl sz_45 (.t .z) (.t (.s .z)) rfl (ones rfl) .z (Nat.le_of_ble_eq_true rfl) (.c .z (.c (.s .z) (.c (.s (.s .z)) (.c (.s (.s (.s .z))) (.c (.s (.s (.s (.s .z)))) .n)))))) ?_
      refine FJ.nil ?_
      refine FJ.then_ ?_
      refine FJ.seq ?_
      refine FJ.region ?_
      refine FJ.q (goes_list rfl) rfl (by decide) rfl (q_loadA (cs := [.slice A0_0 x.disk.blocks.length c0_0, .slice A0_1 x.disk.cache.length c0_1, .slice A0_2 x.exts.length c0_2]) rfl ag_69 sz_69 (.t (.s (.s (.s (.s (.s (.s (.s (.s (.s (.s (.s (.s (.s (.s (.s (.s (.s (.s .z))))))))))))))))))) (WS.rows0 (.s (.s (.s (.s (.s (.s (.s (.s (.s .z))))))))) (fun i u h => by exact h))) ?_
      refine FJ.call (goes_list rfl) rfl (by decide) rfl (c_call rfl Try.func49 rfl rfl (args1 (.t .z))) .n (fun w1 S1 hs tr => c_49 (kT_69_mk x (tr.ctx h0_0) (tr.ctx h0_1) (tr.ctx h0_2))) ?_
      rintro _ _ ⟨v33, v35, v37, rfl, rfl⟩
      refine FJ.cat (.c (.c (.c .n))) ?_
      refine FJ.know (WS.oform .z) ?_
      rintro ⟨Ao39, co39, rfl, hlo39, hmo39, hbo39⟩
      refine FJ.know (WS.oform (.s .z)) ?_
      rintro ⟨Ao40, co40, rfl, hlo40, hmo40, hbo40⟩
      refine FJ.know (WS.oform (.s (.s .z))) ?_
      rintro ⟨Ao41, co41, rfl, hlo41, hmo41, hbo41⟩
      refine FJ.e (goes_list rfl) rfl (by decide) rfl (e_alloc rfl z_43 rfl rfl) ?_
      rintro _ _ ⟨g42, rfl, rfl⟩
      refine FJ.es (goes_list rfl) rfl (es_store (off := 0) (cs := [.slice Ao39 x.disk.blocks.length co39, .slice Ao40 x.disk.cache.length co40, .slice Ao41 x.exts.length co41]) rfl sz_43 (.t .z) (.t (.s .z)) rfl (ones rfl) .z (Nat.le_of_ble_eq_true rfl) (.c .z (.c (.s .z) (.c (.s (.s .z)) .n)))) ?_
      refine FJ.nil ?_
      refine FJ.then_ ?_
      refine FJ.seq ?_
      refine FJ.region ?_
      refine FJ.q (goes_list rfl) rfl (by decide) rfl (q_move rfl (.t (.s (.s (.s (.s (.s (.s (.s (.s (.s (.s (.s (.s (.s (.s (.s (.s (.s (.s (.s (.s (.s (.s (.s (.s (.s .z))))))))))))))))))))))))))) ?_
      refine FJ.call (goes_list rfl) rfl (by decide) rfl (c_call rfl Try.func57 rfl rfl (args1 (.t .z))) .n (fun w1 S1 hs tr => c_57 (tr.ctx h3)) ?_
      rintro _ _ rfl
      refine FJ.cat (.c .n) ?_
      refine FJ.know (WS.oform .z) ?_
      rintro ⟨Ao44, co44, rfl, hlo44, hmo44, hbo44⟩
      refine FJ.q (goes_list rfl) rfl (by decide) rfl (q_assign rfl (.t .z)) ?_
      refine FJ.nil ?_
      refine FJ.then_ ?_
      refine FJ.seq ?_
      refine FJ.region ?_
      refine FJ.q (goes_list rfl) rfl (by decide) rfl (q_loadA (cs := [.slice Ao39 x.disk.blocks.length co39, .slice Ao40 x.disk.cache.length co40, .slice Ao41 x.exts.length co41]) rfl ag_43 sz_43 (.t (.s (.s (.s .z)))) (WS.rows0 (.s .z) (fun i u h => by exact h))) ?_
      refine FJ.q (goes_list rfl) rfl (by decide) rfl (q_move rfl (.t (.s (.s (.s (.s (.s (.s (.s (.s (.s (.s (.s (.s (.s (.s (.s (.s (.s (.s (.s (.s (.s (.s (.s (.s (.s (.s (.s .z))))))))))))))))))))))))))))) ?_
      refine FJ.q (goes_list rfl) rfl (by decide) rfl (q_move rfl (.t (.s (.s (.s (.s (.s (.s (.s (.s (.s (.s (.s (.s (.s (.s (.s (.s (.s (.s (.s (.s (.s (.s (.s (.s (.s (.s (.s (.s (.s .z))))))))))))))))))))))))))))))) ?_
      refine FJ.q (goes_list rfl) rfl (by decide) rfl (q_move rfl (.t (.s (.s (.s .z))))) ?_
      refine FJ.call (goes_list rfl) rfl (by decide) rfl (c_call rfl Try.func69 rfl rfl (args4 (.t (.s (.s (.s .z)))) (.t (.s (.s .z))) (.t (.s .z)) (.t .z))) .n (fun w1 S1 hs tr => c_69 (kT_43_mk x (tr.own (.s (.s .z))) (tr.own (.s (.s (.s .z)))) (tr.own (.s (.s (.s (.s .z)))))) _ _ (tr.own .z)) ?_
      rintro _ _ ⟨v45, v47, v49, v51, rfl, rfl⟩
      refine FJ.cat (.c (.c (.c (.c .n)))) ?_
      refine FJ.know (WS.oform .z) ?_
      rintro ⟨Ao53, co53, rfl, hlo53, hmo53, hbo53⟩
      refine FJ.know (WS.oform (.s .z)) ?_
      rintro ⟨Ao54, co54, rfl, hlo54, hmo54, hbo54⟩
      refine FJ.know (WS.oform (.s (.s .z))) ?_
      rintro ⟨Ao55, co55, rfl, hlo55, hmo55, hbo55⟩
      refine FJ.know (WS.oform (.s (.s (.s .z)))) ?_
      rintro ⟨Ao56, co56, rfl, hlo56, hmo56, hbo56⟩
      refine FJ.e (goes_list rfl) rfl (by decide) rfl (e_alloc rfl z_45 rfl rfl) ?_
      rintro _ _ ⟨g57, rfl, rfl⟩
      refine FJ.es (goes_list rfl) rfl (es_store (off := 0) (cs := [.int .i64 ((writeKern x a b ws).code), .slice Ao53 ((writeKern x a b ws).words).length co53, .slice Ao54 ((writeKern x a b ws).kern.disk.blocks).length co54, .slice Ao55 ((writeKern x a b ws).kern.disk.cache).length co55, .slice Ao56 ((writeKern x a b ws).kern.exts).length co56]) rfl sz_45 (.t .z) (.t (.s .z)) rfl (ones rfl) .z (Nat.le_of_ble_eq_true rfl) (.c .z (.c (.s .z) (.c (.s (.s .z)) (.c (.s (.s (.s .z))) (.c (.s (.s (.s (.s .z)))) .n)))))) ?_
      refine FJ.nil ?_
      refine FJ.then_ ?_
      refine FJ.seq ?_
      refine FJ.seq ?_
      refine FJ.region ?_
      refine FJ.q (goes_list rfl) rfl (by decide) rfl (q_loadA (cs := [.int .i64 ((writeKern x a b ws).code), .slice Ao53 ((writeKern x a b ws).words).length co53, .slice Ao54 ((writeKern x a b ws).kern.disk.blocks).length co54, .slice Ao55 ((writeKern x a b ws).kern.disk.cache).length co55, .slice Ao56 ((writeKern x a b ws).kern.exts).length co56]) rfl ag_45 sz_45 (.t .z) (WS.rows0 .z (fun i u h => by exact h))) ?_
      refine FJ.q (goes_list rfl) rfl (by decide) rfl (q_loadA (cs := [.int .i64 ((writeKern x a b ws).code), .slice Ao28 ((writeKern x a b ws).words).length co28, .slice Ao29 ((writeKern x a b ws).kern.disk.blocks).length co29, .slice Ao30 ((writeKern x a b ws).kern.disk.cache).length co30, .slice Ao31 ((writeKern x a b ws).kern.exts).length co31]) rfl ag_45 sz_45 (.t (.s (.s (.s (.s (.s (.s (.s (.s (.s (.s (.s (.s (.s .z)))))))))))))) (WS.rows0 (.s (.s (.s (.s (.s (.s (.s (.s (.s (.s .z)))))))))) (fun i u h => by exact h))) ?_
      refine FJ.call (goes_list rfl) rfl (by decide) rfl (c_call rfl Try.func32 rfl rfl (args2 (.t (.s .z)) (.t .z))) .n (fun w1 S1 hs tr => c_32 (kT_45_mk (writeKern x a b ws) (tr.own (.s .z)) (tr.own (.s (.s .z))) (tr.own (.s (.s (.s .z)))) (tr.own (.s (.s (.s (.s .z)))))) (kT_45_mk (writeKern x a b ws) (tr.own (.s (.s (.s (.s (.s (.s (.s (.s (.s (.s (.s .z)))))))))))) (tr.own (.s (.s (.s (.s (.s (.s (.s (.s (.s (.s (.s (.s .z))))))))))))) (tr.own (.s (.s (.s (.s (.s (.s (.s (.s (.s (.s (.s (.s (.s .z)))))))))))))) (tr.own (.s (.s (.s (.s (.s (.s (.s (.s (.s (.s (.s (.s (.s (.s .z))))))))))))))))) ?_
      rintro _ _ ⟨rfl, rfl⟩
      refine FJ.cat .n ?_
      refine FJ.q (goes_list rfl) rfl (by decide) rfl (q_not rfl (.t .z)) ?_
      refine FJ.nil ?_
      refine FJ.then_ ?_
      refine FJ.condN (.t .z) (fun b58 => ?_) (fun b58 => ?_)
      · -- b58: True
        refine FJ.seq ?_
        refine FJ.region ?_
        refine FJ.er (.s (.s (.s (.s (.s (.s (.s (.s (.s (.s (.s (.s (.s (.s (.s (.s (.s (.s (.s (.s (.s (.s (.s (.s (.s (.s (.s (.s (.s (.s (.s (.s (.s .z))))))))))))))))))))))))))))))))) ?_
        refine FJ.q (goes_list rfl) rfl (by decide) rfl (q_assign rfl .c) ?_
        refine FJ.nil ?_
        refine FJ.then_ ?_
        refine FJ.ret ?_
        refine FJ.thenR ?_
        refine FJ.doneS (res1 rfl .z) .n ?_
        exfalso; first | exact absurd rfl (by assumption) | omega | (simp_all; done)
      · -- b58: False
        refine FJ.skip ?_
        refine FJ.then_ ?_
        refine FJ.seq ?_
        refine FJ.seq ?_
        refine FJ.sel (.c (.s .z) (.c (.s .z) (.c (.s .z) (.c (.s .z) (.c (.s .z) (.c (.s (.s .z)) (.c (.s (.s .z)) (.c (.s (.s .z)) (.c (.s (.s (.s .z))) (.c (.s (.s (.s .z))) (.c (.s (.s (.s .z))) (.c (.s (.s (.s .z))) (.c (.s (.s (.s .z))) (.c (.s (.s (.s .z))) (.c (.s (.s (.s .z))) (.c (.s (.s (.s .z))) (.c .z (.c .z (.c .z (.c .z .n)))))))))))))))))))) ?_
        refine FJ.draw [rowA g57 45 5 1 [.int .i64 ((writeKern x a b ws).code), .slice Ao53 ((writeKern x a b ws).words).length co53, .slice Ao54 ((writeKern x a b ws).kern.disk.blocks).length co54, .slice Ao55 ((writeKern x a b ws).kern.disk.cache).length co55, .slice Ao56 ((writeKern x a b ws).kern.exts).length co56], rowA g42 43 3 1 [.slice Ao39 x.disk.blocks.length co39, .slice Ao40 x.disk.cache.length co40, .slice Ao41 x.exts.length co41], rowA g32 45 5 1 [.int .i64 ((writeKern x a b ws).code), .slice Ao28 ((writeKern x a b ws).words).length co28, .slice Ao29 ((writeKern x a b ws).kern.disk.blocks).length co29, .slice Ao30 ((writeKern x a b ws).kern.disk.cache).length co30, .slice Ao31 ((writeKern x a b ws).kern.exts).length co31], rowA g5 69 3 1 [.slice A0_0 x.disk.blocks.length c0_0, .slice A0_1 x.disk.cache.length c0_1, .slice A0_2 x.exts.length c0_2]] 5 (by kernel_rfl) ?_
        refine FJ.sch [(0, true), (1, true), (2, false), (3, false), (4, true)] 0 #[true, true, true, true, true] (by rfl) (by kernel_rfl) ?_
        refine FJ.dq rfl rfl rfl (by decide) rfl (.s (.s (.s (.s (.s (.s (.s (.s (.s (.s (.s (.s (.s (.s (.s (.s .z)))))))))))))))) (q_loadA (cs := [.slice Ao39 x.disk.blocks.length co39, .slice Ao40 x.disk.cache.length co40, .slice Ao41 x.exts.length co41]) rfl ag_43 sz_43 (.t (.s (.s (.s (.s (.s (.s (.s (.s (.s (.s (.s (.s (.s .z)))))))))))))) (WS.rows0 (.s .z) (fun i u h => by exact h))) ?_
        refine FJ.dq rfl rfl rfl (by decide) rfl (.s (.s (.s (.s (.s (.s (.s (.s (.s (.s (.s (.s (.s (.s (.s (.s .z)))))))))))))))) (q_loadA (cs := [.slice A0_0 x.disk.blocks.length c0_0, .slice A0_1 x.disk.cache.length c0_1, .slice A0_2 x.exts.length c0_2]) rfl ag_69 sz_69 (.t (.s (.s (.s (.s (.s (.s (.s (.s (.s (.s (.s (.s (.s (.s (.s (.s (.s (.s (.s (.s (.s (.s (.s (.s (.s (.s (.s (.s (.s (.s (.s (.s (.s (.s (.s .z)))))))))))))))))))))))))))))))))))) (WS.rows0 (.s (.s (.s .z))) (fun i u h => by exact h))) ?_
        refine FJ.call (goes_sch rfl rfl) rfl (by decide) rfl (c_call rfl Try.func49 rfl rfl (args1 (.t .z))) .n (fun w1 S1 hs tr => c_49 (kT_69_mk x (tr.ctx h0_0) (tr.ctx h0_1) (tr.ctx h0_2))) ?_
        rintro _ _ ⟨v59, v61, v63, rfl, rfl⟩
        refine FJ.cat (.c (.c (.c .n))) ?_
        refine FJ.know (WS.oform .z) ?_
        rintro ⟨Ao65, co65, rfl, hlo65, hmo65, hbo65⟩
        refine FJ.know (WS.oform (.s .z)) ?_
        rintro ⟨Ao66, co66, rfl, hlo66, hmo66, hbo66⟩
        refine FJ.know (WS.oform (.s (.s .z))) ?_
        rintro ⟨Ao67, co67, rfl, hlo67, hmo67, hbo67⟩
        refine FJ.sk (.s (.s (.s (.s (.s (.s (.s (.s (.s (.s (.s (.s (.s (.s (.s (.s (.s (.s (.s .z))))))))))))))))))) ?_
        refine FJ.call (goes_sch rfl rfl) rfl (by decide) rfl (c_call rfl Try.func51 rfl rfl (args2 (.t (.s (.s .z))) (.t .z))) .n (fun w1 S1 hs tr => c_51 (kT_43_mk x (tr.own (.s (.s (.s (.s (.s (.s (.s (.s .z))))))))) (tr.own (.s (.s (.s (.s (.s (.s (.s (.s (.s .z)))))))))) (tr.own (.s (.s (.s (.s (.s (.s (.s (.s (.s (.s .z)))))))))))) (kT_43_mk x (tr.own .z) (tr.own (.s .z)) (tr.own (.s (.s .z))))) ?_
        rintro _ _ ⟨rfl, rfl⟩
        refine FJ.cat .n ?_
        refine FJ.sk (.s (.s (.s (.s (.s (.s (.s (.s (.s (.s (.s (.s (.s (.s (.s (.s (.s (.s (.s .z))))))))))))))))))) ?_
        refine FJ.dq rfl rfl rfl (by decide) rfl (.s (.s (.s (.s (.s (.s (.s (.s (.s (.s (.s (.s (.s (.s (.s (.s (.s (.s (.s .z))))))))))))))))))) (q_not rfl (.t .z)) ?_
        refine FJ.schN ?_
        refine FJ.drawN (by kernel_rfl) ?_
        refine FJ.then_ ?_
        refine FJ.condN (.t .z) (fun b68 => ?_) (fun b68 => ?_)
        · -- b68: True
          refine FJ.seq ?_
          refine FJ.region ?_
          refine FJ.er (.s (.s (.s (.s (.s (.s (.s (.s (.s (.s (.s (.s (.s (.s (.s (.s (.s (.s (.s (.s (.s (.s (.s (.s (.s (.s (.s (.s (.s (.s (.s (.s (.s (.s (.s (.s (.s (.s .z)))))))))))))))))))))))))))))))))))))) ?_
          refine FJ.q (goes_list rfl) rfl (by decide) rfl (q_assign rfl .c) ?_
          refine FJ.nil ?_
          refine FJ.then_ ?_
          refine FJ.ret ?_
          refine FJ.thenR ?_
          refine FJ.doneS (res1 rfl .z) .n ?_
          exfalso; first | exact absurd rfl (by assumption) | omega | (simp_all; done)
        · -- b68: False
          refine FJ.skip ?_
          refine FJ.then_ ?_
          refine FJ.seq ?_
          refine FJ.seq ?_
          refine FJ.region ?_
          refine FJ.q (goes_list rfl) rfl (by decide) rfl (q_move rfl (.t (.s (.s (.s (.s (.s (.s (.s (.s (.s (.s (.s (.s (.s (.s (.s .z))))))))))))))))) ?_
          refine FJ.q (goes_list rfl) rfl (by decide) rfl (q_move rfl (.t (.s (.s (.s (.s (.s (.s (.s (.s (.s (.s (.s (.s (.s (.s (.s (.s (.s (.s (.s (.s (.s (.s (.s (.s (.s (.s (.s (.s (.s (.s (.s (.s (.s (.s (.s (.s (.s (.s (.s (.s (.s (.s (.s (.s .z)))))))))))))))))))))))))))))))))))))))))))))) ?_
          refine FJ.call (goes_list rfl) rfl (by decide) rfl (c_call rfl Try.func57 rfl rfl (args1 (.t .z))) .n (fun w1 S1 hs tr => c_57 (tr.ctx h3)) ?_
          rintro _ _ rfl
          refine FJ.cat (.c .n) ?_
          refine FJ.know (WS.oform .z) ?_
          rintro ⟨Ao70, co70, rfl, hlo70, hmo70, hbo70⟩
          refine FJ.call (goes_list rfl) rfl (by decide) rfl (c_call rfl Try.func58 rfl rfl (args2 (.t (.s (.s .z))) (.t .z))) .n (fun w1 S1 hs tr => c_58 (tr.own (.s (.s (.s (.s (.s (.s (.s (.s .z))))))))) (tr.own .z)) ?_
          rintro _ _ ⟨rfl, rfl⟩
          refine FJ.cat .n ?_
          refine FJ.q (goes_list rfl) rfl (by decide) rfl (q_not rfl (.t .z)) ?_
          refine FJ.nil ?_
          refine FJ.then_ ?_
          refine FJ.condN (.t .z) (fun b71 => ?_) (fun b71 => ?_)
          · -- b71: True
            refine FJ.seq ?_
            refine FJ.region ?_
            refine FJ.er (.s (.s (.s (.s (.s (.s (.s (.s (.s (.s (.s (.s (.s (.s (.s (.s (.s (.s (.s (.s (.s (.s (.s (.s (.s (.s (.s (.s (.s (.s (.s (.s (.s (.s (.s (.s (.s (.s (.s (.s (.s (.s (.s .z))))))))))))))))))))))))))))))))))))))))))) ?_
            refine FJ.q (goes_list rfl) rfl (by decide) rfl (q_assign rfl .c) ?_
            refine FJ.nil ?_
            refine FJ.then_ ?_
            refine FJ.ret ?_
            refine FJ.thenR ?_
            refine FJ.doneS (res1 rfl .z) .n ?_
            exfalso; first | exact absurd rfl (by assumption) | omega | (simp_all; done)
          · -- b71: False
            refine FJ.skip ?_
            refine FJ.then_ ?_
            refine FJ.seq ?_
            refine FJ.region ?_
            refine FJ.q (goes_list rfl) rfl (by decide) rfl (q_assign rfl .c) ?_
            refine FJ.nil ?_
            refine FJ.then_ ?_
            refine FJ.seq ?_
            refine FJ.region ?_
            refine FJ.q (goes_list rfl) rfl (by decide) rfl (q_loadA (cs := [.slice Ao39 x.disk.blocks.length co39, .slice Ao40 x.disk.cache.length co40, .slice Ao41 x.exts.length co41]) rfl ag_43 sz_43 (.t (.s (.s (.s (.s (.s (.s (.s (.s (.s (.s (.s (.s (.s (.s (.s (.s (.s (.s (.s (.s (.s (.s (.s (.s .z))))))))))))))))))))))))) (WS.rows0 (.s (.s (.s (.s (.s (.s (.s (.s (.s (.s (.s (.s (.s (.s (.s (.s (.s (.s (.s (.s (.s .z))))))))))))))))))))) (fun i u h => by exact h))) ?_
            refine FJ.q (goes_list rfl) rfl (by decide) rfl (q_move rfl (.t (.s .z))) ?_
            refine FJ.call (goes_list rfl) rfl (by decide) rfl (c_call rfl Try.func74 rfl rfl (args2 (.t (.s .z)) (.t .z))) (.c (.s (.s (.s (.s (.s (.s (.s (.s (.s .z))))))))) (.c (.s (.s (.s (.s (.s (.s (.s (.s (.s .z))))))))) (.c (.s (.s (.s (.s (.s (.s (.s (.s (.s .z))))))))) .n))) (fun w1 S1 hs tr => c_74 _ hs (by omega) (by first | omega | (omega))) ?_
            rintro _ _ ⟨rfl, rfl⟩
            refine FJ.cat (.c (.c (.c .n))) ?_
            refine FJ.er (.s (.s (.s .z))) ?_
            refine FJ.q (goes_list rfl) rfl (by decide) rfl (q_assign rfl (.t .z)) ?_
            refine FJ.nil ?_
            refine FJ.then_ ?_
            refine FJ.seq ?_
            refine FJ.region ?_
            refine FJ.q (goes_list rfl) rfl (by decide) rfl (q_move rfl (.t (.s (.s (.s (.s (.s (.s (.s (.s (.s (.s (.s (.s (.s (.s (.s (.s (.s (.s (.s (.s (.s (.s (.s (.s .z)))))))))))))))))))))))))) ?_
            refine FJ.q (goes_list rfl) rfl (by decide) rfl (q_move rfl (.t (.s .z))) ?_
            refine FJ.call (goes_list rfl) rfl (by decide) rfl (c_call rfl Try.func59 rfl rfl (args2 (.t (.s .z)) (.t .z))) (.c (.s (.s (.s (.s (.s (.s (.s (.s (.s (.s (.s .z))))))))))) .n) (fun w1 S1 hs tr => c_59 _ hs (by omega) (by first | omega | (omega))) ?_
            rintro _ _ ⟨rfl, rfl⟩
            refine FJ.cat (.c .n) ?_
            refine FJ.er (.s (.s (.s .z))) ?_
            refine FJ.q (goes_list rfl) rfl (by decide) rfl (q_assign rfl (.t .z)) ?_
            refine FJ.nil ?_
            refine FJ.then_ ?_
            refine FJ.seq ?_
            refine FJ.seq ?_
            refine FJ.region ?_
            refine FJ.q (goes_list rfl) rfl (by decide) rfl (q_move rfl (.t .z)) ?_
            refine FJ.q (goes_list rfl) rfl (by decide) rfl (q_lss rfl (.t .z) .c) ?_
            refine FJ.q (goes_list rfl) rfl (by decide) rfl (q_move rfl (.t .z)) ?_
            refine FJ.caseP .z (fun g72 => ?_) (fun g72 => ?_)
            · -- g72: True
              refine FJ.skipl rfl rfl .z rfl rfl (by decide) rfl ?_
              refine FJ.skipl rfl rfl (.s .z) rfl rfl (by decide) rfl ?_
              refine FJ.skipl rfl rfl (.s (.s .z)) rfl rfl (by decide) rfl ?_
              refine FJ.skipl rfl rfl (.s (.s (.s .z))) rfl rfl (by decide) rfl ?_
              refine FJ.q (goes_list rfl) rfl (by decide) rfl (q_pickT rfl (.t (.s (.s (.s (.s .z))))) .c) ?_
              refine FJ.nil ?_
              refine FJ.then_ ?_
              refine FJ.condT (.t .z) ?_
              refine FJ.seq ?_
              refine FJ.region ?_
              refine FJ.er (.s (.s (.s (.s (.s (.s (.s (.s (.s (.s (.s (.s (.s (.s (.s (.s (.s (.s (.s (.s (.s (.s (.s (.s (.s (.s (.s (.s (.s (.s (.s (.s (.s (.s (.s (.s (.s (.s (.s (.s (.s (.s (.s (.s (.s (.s (.s (.s (.s (.s (.s (.s (.s (.s (.s (.s (.s (.s .z)))))))))))))))))))))))))))))))))))))))))))))))))))))))))) ?_
              refine FJ.q (goes_list rfl) rfl (by decide) rfl (q_assign rfl .c) ?_
              refine FJ.nil ?_
              refine FJ.then_ ?_
              refine FJ.ret ?_
              refine FJ.thenR ?_
              refine FJ.doneS (res1 rfl .z) .n ?_
              exfalso; first | exact absurd rfl (by assumption) | omega | (simp_all; done)
            · -- g72: False
              refine FJ.q (goes_listg rfl rfl .z) rfl (by decide) rfl (q_loadA (cs := [.int .i64 ((writeKern x a b ws).code), .slice Ao53 ((writeKern x a b ws).words).length co53, .slice Ao54 ((writeKern x a b ws).kern.disk.blocks).length co54, .slice Ao55 ((writeKern x a b ws).kern.disk.cache).length co55, .slice Ao56 ((writeKern x a b ws).kern.exts).length co56]) rfl ag_45 sz_45 (.t (.s (.s (.s (.s (.s (.s (.s (.s (.s (.s (.s (.s (.s (.s (.s (.s (.s (.s (.s (.s (.s (.s (.s (.s .z))))))))))))))))))))))))) (WS.rows0 (.s (.s (.s (.s (.s (.s (.s (.s (.s (.s (.s (.s (.s (.s (.s (.s (.s (.s (.s (.s .z)))))))))))))))))))) (fun i u h => by exact h))) ?_
              refine FJ.q (goes_listg rfl rfl (.s .z)) rfl (by decide) rfl (q_loadA (cs := [.int .i64 ((writeKern x a b ws).code), .slice Ao28 ((writeKern x a b ws).words).length co28, .slice Ao29 ((writeKern x a b ws).kern.disk.blocks).length co29, .slice Ao30 ((writeKern x a b ws).kern.disk.cache).length co30, .slice Ao31 ((writeKern x a b ws).kern.exts).length co31]) rfl ag_45 sz_45 (.t (.s (.s (.s (.s (.s (.s (.s (.s (.s (.s (.s (.s (.s (.s (.s (.s (.s (.s (.s (.s (.s (.s (.s (.s (.s (.s (.s (.s (.s (.s (.s (.s (.s (.s (.s (.s (.s .z)))))))))))))))))))))))))))))))))))))) (WS.rows0 (.s (.s (.s (.s (.s (.s (.s (.s (.s (.s (.s (.s (.s (.s (.s (.s (.s (.s (.s (.s (.s (.s .z)))))))))))))))))))))) (fun i u h => by exact h))) ?_
              refine FJ.call (goes_listg rfl rfl (.s (.s .z))) rfl (by decide) rfl (c_call rfl Try.func32 rfl rfl (args2 (.t (.s .z)) (.t .z))) .n (fun w1 S1 hs tr => c_32 (kT_45_mk (writeKern x a b ws) (tr.own (.s (.s (.s (.s (.s (.s (.s (.s .z))))))))) (tr.own (.s (.s (.s (.s (.s (.s (.s (.s (.s .z)))))))))) (tr.own (.s (.s (.s (.s (.s (.s (.s (.s (.s (.s .z))))))))))) (tr.own (.s (.s (.s (.s (.s (.s (.s (.s (.s (.s (.s .z))))))))))))) (kT_45_mk (writeKern x a b ws) (tr.own (.s (.s (.s (.s (.s (.s (.s (.s (.s (.s (.s (.s .z))))))))))))) (tr.own (.s (.s (.s (.s (.s (.s (.s (.s (.s (.s (.s (.s (.s .z)))))))))))))) (tr.own (.s (.s (.s (.s (.s (.s (.s (.s (.s (.s (.s (.s (.s (.s .z))))))))))))))) (tr.own (.s (.s (.s (.s (.s (.s (.s (.s (.s (.s (.s (.s (.s (.s (.s .z)))))))))))))))))) ?_
              rintro _ _ ⟨rfl, rfl⟩
              refine FJ.cat .n ?_
              refine FJ.q (goes_listg rfl rfl (.s (.s (.s .z)))) rfl (by decide) rfl (q_not rfl (.t .z)) ?_
              refine FJ.q (goes_list rfl) rfl (by decide) rfl (q_pickF rfl (.t (.s (.s (.s (.s .z))))) (.t .z)) ?_
              refine FJ.nil ?_
              refine FJ.then_ ?_
              refine FJ.condN (.t .z) (fun b73 => ?_) (fun b73 => ?_)
              · -- b73: True
                refine FJ.seq ?_
                refine FJ.region ?_
                refine FJ.er (.s (.s (.s (.s (.s (.s (.s (.s (.s (.s (.s (.s (.s (.s (.s (.s (.s (.s (.s (.s (.s (.s (.s (.s (.s (.s (.s (.s (.s (.s (.s (.s (.s (.s (.s (.s (.s (.s (.s (.s (.s (.s (.s (.s (.s (.s (.s (.s (.s (.s (.s (.s (.s (.s (.s (.s (.s (.s .z)))))))))))))))))))))))))))))))))))))))))))))))))))))))))) ?_
                refine FJ.q (goes_list rfl) rfl (by decide) rfl (q_assign rfl .c) ?_
                refine FJ.nil ?_
                refine FJ.then_ ?_
                refine FJ.ret ?_
                refine FJ.thenR ?_
                refine FJ.doneS (res1 rfl .z) .n ?_
                exfalso; first | exact absurd rfl (by assumption) | omega | (simp_all; done)
              · -- b73: False
                refine FJ.skip ?_
                refine FJ.then_ ?_
                refine FJ.seq ?_
                refine FJ.region ?_
                refine FJ.q (goes_list rfl) rfl (by decide) rfl (q_assign rfl .c) ?_
                refine FJ.nil ?_
                refine FJ.then_ ?_
                refine FJ.seq ?_
                refine FJ.region ?_
                refine FJ.q (goes_list rfl) rfl (by decide) rfl (q_loadA (cs := [.int .i64 ((writeKern x a b ws).code), .slice Ao53 ((writeKern x a b ws).words).length co53, .slice Ao54 ((writeKern x a b ws).kern.disk.blocks).length co54, .slice Ao55 ((writeKern x a b ws).kern.disk.cache).length co55, .slice Ao56 ((writeKern x a b ws).kern.exts).length co56]) rfl ag_45 sz_45 (.t (.s (.s (.s (.s (.s (.s (.s (.s (.s (.s (.s (.s (.s (.s (.s (.s (.s (.s (.s (.s (.s (.s (.s (.s (.s (.s (.s (.s (.s (.s .z))))))))))))))))))))))))))))))) (WS.rows0 (.s (.s (.s (.s (.s (.s (.s (.s (.s (.s (.s (.s (.s (.s (.s (.s (.s (.s (.s (.s .z)))))))))))))))))))) (fun i u h => by exact h))) ?_
                refine FJ.q (goes_list rfl) rfl (by decide) rfl (q_move rfl (.t (.s .z))) ?_
                refine FJ.call (goes_list rfl) rfl (by decide) rfl (c_call rfl Try.func33 rfl rfl (args2 (.t (.s .z)) (.t .z))) (.c (.s (.s (.s (.s (.s (.s (.s (.s .z)))))))) (.c (.s (.s (.s (.s (.s (.s (.s (.s .z)))))))) (.c (.s (.s (.s (.s (.s (.s (.s (.s .z)))))))) (.c (.s (.s (.s (.s (.s (.s (.s (.s .z)))))))) .n)))) (fun w1 S1 hs tr => c_33 _ hs (by omega) (by first | omega | (omega))) ?_
                rintro _ _ ⟨rfl, rfl⟩
                refine FJ.cat (.c (.c (.c (.c .n)))) ?_
                refine FJ.er (.s (.s (.s .z))) ?_
                refine FJ.q (goes_list rfl) rfl (by decide) rfl (q_assign rfl (.t .z)) ?_
                refine FJ.nil ?_
                refine FJ.then_ ?_
                refine FJ.seq ?_
                refine FJ.region ?_
                refine FJ.q (goes_list rfl) rfl (by decide) rfl (q_assign rfl .c) ?_
                refine FJ.nil ?_
                refine FJ.then_ ?_
                refine FJ.seq ?_
                refine FJ.region ?_
                refine FJ.q (goes_list rfl) rfl (by decide) rfl (q_loadA (cs := [.int .i64 ((writeKern x a b ws).code), .slice Ao53 ((writeKern x a b ws).words).length co53, .slice Ao54 ((writeKern x a b ws).kern.disk.blocks).length co54, .slice Ao55 ((writeKern x a b ws).kern.disk.cache).length co55, .slice Ao56 ((writeKern x a b ws).kern.exts).length co56]) rfl ag_45 sz_45 (.t (.s (.s (.s (.s (.s (.s (.s (.s (.s (.s (.s (.s (.s (.s (.s (.s (.s (.s (.s (.s (.s (.s (.s (.s (.s (.s (.s (.s (.s (.s (.s (.s (.s (.s .z))))))))))))))))))))))))))))))))))) (WS.rows0 (.s (.s (.s (.s (.s (.s (.s (.s (.s (.s (.s (.s (.s (.s (.s (.s (.s (.s (.s (.s .z)))))))))))))))))))) (fun i u h => by exact h))) ?_
                refine FJ.q (goes_list rfl) rfl (by decide) rfl (q_move rfl (.t (.s .z))) ?_
                refine FJ.call (goes_list rfl) rfl (by decide) rfl (c_call rfl Try.func34 rfl rfl (args2 (.t (.s .z)) (.t .z))) .n (fun w1 S1 hs tr => c_34 (kT_45_mk (⟨(writeKern x a b ws).code, (vmark_RKern 1 (writeKern x a b ws)).words, (⟨(⟨(vmark_RKern 1 (writeKern x a b ws)).kern.disk.blocks, (vmark_RKern 1 (writeKern x a b ws)).kern.disk.cache⟩ : DDisk), (vmark_RKern 1 (writeKern x a b ws)).kern.exts⟩ : DKern)⟩ : RKern) (tr.own .z) (tr.own (.s .z)) (tr.own (.s (.s .z))) (tr.own (.s (.s (.s .z))))) _ (writeKern x a b ws) rfl (by omega) (by first | omega | (omega))) ?_
                rintro _ _ ⟨rfl, rfl⟩
                refine FJ.cat .n ?_
                refine FJ.er (.s (.s (.s .z))) ?_
                refine FJ.q (goes_list rfl) rfl (by decide) rfl (q_assign rfl (.t .z)) ?_
                refine FJ.nil ?_
                refine FJ.then_ ?_
                refine FJ.seq ?_
                refine FJ.seq ?_
                refine FJ.region ?_
                refine FJ.q (goes_list rfl) rfl (by decide) rfl (q_move rfl (.t .z)) ?_
                refine FJ.q (goes_list rfl) rfl (by decide) rfl (q_lss rfl (.t .z) .c) ?_
                refine FJ.nil ?_
                refine FJ.then_ ?_
                refine FJ.condP (.t .z) (fun b74 => ?_) (fun b74 => ?_)
                · -- b74: True
                  refine FJ.seq ?_
                  refine FJ.region ?_
                  refine FJ.er (.s (.s (.s (.s (.s (.s (.s (.s (.s (.s (.s (.s (.s (.s (.s (.s (.s (.s (.s (.s (.s (.s (.s (.s (.s (.s (.s (.s (.s (.s (.s (.s (.s (.s (.s (.s (.s (.s (.s (.s (.s (.s (.s (.s (.s (.s (.s (.s (.s (.s (.s (.s (.s (.s (.s (.s (.s (.s (.s (.s (.s (.s (.s (.s (.s (.s (.s (.s .z)))))))))))))))))))))))))))))))))))))))))))))))))))))))))))))))))))) ?_
                  refine FJ.q (goes_list rfl) rfl (by decide) rfl (q_assign rfl .c) ?_
                  refine FJ.nil ?_
                  refine FJ.then_ ?_
                  refine FJ.ret ?_
                  refine FJ.thenR ?_
                  refine FJ.doneS (res1 rfl .z) .n ?_
                  exfalso; first | exact absurd rfl (by assumption) | omega | (simp_all; done)
                · -- b74: False
                  refine FJ.skip ?_
                  refine FJ.then_ ?_
                  refine FJ.seq ?_
                  refine FJ.seq ?_
                  refine FJ.region ?_
                  refine FJ.q (goes_list rfl) rfl (by decide) rfl (q_move rfl (.t (.s (.s .z)))) ?_
                  refine FJ.q (goes_list rfl) rfl (by decide) rfl (q_move rfl (.t (.s (.s (.s (.s (.s (.s (.s .z))))))))) ?_
                  refine FJ.q (goes_list rfl) rfl (by decide) rfl (q_neq rfl (.t (.s .z)) (.t .z)) ?_
                  refine FJ.nil ?_
                  refine FJ.then_ ?_
                  refine FJ.condN (.t .z) (fun b75 => ?_) (fun b75 => ?_)
                  · -- b75: True
                    refine FJ.seq ?_
                    refine FJ.region ?_
                    refine FJ.er (.s (.s (.s (.s (.s (.s (.s (.s (.s (.s (.s (.s (.s (.s (.s (.s (.s (.s (.s (.s (.s (.s (.s (.s (.s (.s (.s (.s (.s (.s (.s (.s (.s (.s (.s (.s (.s (.s (.s (.s (.s (.s (.s (.s (.s (.s (.s (.s (.s (.s (.s (.s (.s (.s (.s (.s (.s (.s (.s (.s (.s (.s (.s (.s (.s (.s (.s (.s (.s (.s (.s .z))))))))))))))))))))))))))))))))))))))))))))))))))))))))))))))))))))))) ?_
                    refine FJ.q (goes_list rfl) rfl (by decide) rfl (q_assign rfl .c) ?_
                    refine FJ.nil ?_
                    refine FJ.then_ ?_
                    refine FJ.ret ?_
                    refine FJ.thenR ?_
                    refine FJ.doneS (res1 rfl .z) .n ?_
                    exfalso; first | exact absurd rfl (by assumption) | omega | (simp_all; done)
                  · -- b75: False
                    refine FJ.skip ?_
                    refine FJ.then_ ?_
                    refine FJ.seq ?_
                    refine FJ.region ?_
                    refine FJ.q (goes_list rfl) rfl (by decide) rfl (q_loadA (cs := [.slice A0_0 x.disk.blocks.length c0_0, .slice A0_1 x.disk.cache.length c0_1, .slice A0_2 x.exts.length c0_2]) rfl ag_69 sz_69 (.t (.s (.s (.s (.s (.s (.s (.s (.s (.s (.s (.s (.s (.s (.s (.s (.s (.s (.s (.s (.s (.s (.s (.s (.s (.s (.s (.s (.s (.s (.s (.s (.s (.s (.s (.s (.s (.s (.s (.s (.s (.s (.s (.s (.s (.s (.s (.s (.s (.s (.s (.s (.s (.s (.s (.s (.s (.s (.s (.s (.s (.s (.s (.s (.s (.s (.s (.s (.s (.s (.s (.s (.s .z))))))))))))))))))))))))))))))))))))))))))))))))))))))))))))))))))))))))) (WS.rows0 (.s (.s (.s (.s (.s (.s (.s (.s (.s (.s (.s (.s (.s (.s (.s (.s (.s (.s (.s (.s (.s (.s (.s .z))))))))))))))))))))))) (fun i u h => by exact h))) ?_
                    refine FJ.call (goes_list rfl) rfl (by decide) rfl (c_call rfl Try.func49 rfl rfl (args1 (.t .z))) .n (fun w1 S1 hs tr => c_49 (kT_69_mk x (tr.ctx h0_0) (tr.ctx h0_1) (tr.ctx h0_2))) ?_
                    rintro _ _ ⟨v76, v78, v80, rfl, rfl⟩
                    refine FJ.cat (.c (.c (.c .n))) ?_
                    refine FJ.know (WS.oform .z) ?_
                    rintro ⟨Ao82, co82, rfl, hlo82, hmo82, hbo82⟩
                    refine FJ.know (WS.oform (.s .z)) ?_
                    rintro ⟨Ao83, co83, rfl, hlo83, hmo83, hbo83⟩
                    refine FJ.know (WS.oform (.s (.s .z))) ?_
                    rintro ⟨Ao84, co84, rfl, hlo84, hmo84, hbo84⟩
                    refine FJ.q (goes_list rfl) rfl (by decide) rfl (q_move rfl (.t (.s (.s (.s (.s (.s (.s (.s (.s (.s (.s (.s (.s (.s (.s (.s (.s (.s (.s (.s (.s (.s (.s (.s (.s (.s (.s (.s (.s (.s (.s (.s (.s (.s (.s (.s (.s (.s (.s (.s (.s (.s (.s (.s (.s (.s (.s (.s (.s (.s (.s (.s (.s (.s (.s (.s (.s (.s (.s (.s (.s (.s (.s (.s (.s (.s (.s (.s (.s (.s (.s (.s (.s (.s (.s (.s (.s .z)))))))))))))))))))))))))))))))))))))))))))))))))))))))))))))))))))))))))))))) ?_
                    refine FJ.q (goes_list rfl) rfl (by decide) rfl (q_move rfl (.t (.s (.s (.s (.s (.s (.s (.s (.s (.s (.s (.s (.s (.s (.s (.s (.s (.s (.s (.s (.s (.s (.s (.s (.s (.s (.s (.s (.s (.s (.s (.s (.s (.s (.s (.s (.s (.s (.s (.s (.s (.s (.s (.s (.s (.s (.s (.s (.s (.s (.s (.s (.s (.s (.s (.s (.s (.s (.s (.s (.s (.s (.s (.s (.s (.s (.s (.s (.s (.s (.s (.s (.s (.s (.s (.s (.s (.s (.s .z)))))))))))))))))))))))))))))))))))))))))))))))))))))))))))))))))))))))))))))))) ?_
                    refine FJ.q (goes_list rfl) rfl (by decide) rfl (q_move rfl (.t (.s (.s (.s (.s (.s (.s (.s (.s (.s (.s (.s (.s (.s (.s (.s (.s (.s (.s (.s (.s (.s (.s (.s (.s (.s (.s (.s (.s (.s (.s (.s (.s (.s (.s (.s (.s (.s (.s (.s (.s (.s (.s (.s (.s (.s (.s (.s (.s (.s (.s (.s (.s (.s (.s (.s (.s (.s (.s (.s (.s (.s (.s (.s (.s (.s (.s (.s (.s (.s (.s (.s (.s (.s (.s (.s (.s (.s (.s (.s (.s .z)))))))))))))))))))))))))))))))))))))))))))))))))))))))))))))))))))))))))))))))))) ?_
                    refine FJ.call (goes_list rfl) rfl (by decide) rfl (c_call rfl Try.func57 rfl rfl (args1 (.t .z))) .n (fun w1 S1 hs tr => c_57 (tr.ctx h3)) ?_
                    rintro _ _ rfl
                    refine FJ.cat (.c .n) ?_
                    refine FJ.know (WS.oform .z) ?_
                    rintro ⟨Ao86, co86, rfl, hlo86, hmo86, hbo86⟩
                    refine FJ.call (goes_list rfl) rfl (by decide) rfl (c_call rfl Try.func69 rfl rfl (args4 (.t (.s (.s (.s (.s .z))))) (.t (.s (.s (.s .z)))) (.t (.s (.s .z))) (.t .z))) .n (fun w1 S1 hs tr => c_69 (kT_43_mk x (tr.own (.s .z)) (tr.own (.s (.s .z))) (tr.own (.s (.s (.s .z))))) _ _ (tr.own .z)) ?_
                    rintro _ _ ⟨v87, v89, v91, v93, rfl, rfl⟩
                    refine FJ.cat (.c (.c (.c (.c .n)))) ?_
                    refine FJ.know (WS.oform .z) ?_
                    rintro ⟨Ao95, co95, rfl, hlo95, hmo95, hbo95⟩
                    refine FJ.know (WS.oform (.s .z)) ?_
                    rintro ⟨Ao96, co96, rfl, hlo96, hmo96, hbo96⟩
                    refine FJ.know (WS.oform (.s (.s .z))) ?_
                    rintro ⟨Ao97, co97, rfl, hlo97, hmo97, hbo97⟩
                    refine FJ.know (WS.oform (.s (.s (.s .z)))) ?_
                    rintro ⟨Ao98, co98, rfl, hlo98, hmo98, hbo98⟩
                    refine FJ.e (goes_list rfl) rfl (by decide) rfl (e_alloc rfl z_45 rfl rfl) ?_
                    rintro _ _ ⟨g99, rfl, rfl⟩
                    refine FJ.es (goes_list rfl) rfl (es_store (off := 0) (cs := [.int .i64 ((writeKern x a b ws).code), .slice Ao95 ((writeKern x a b ws).words).length co95, .slice Ao96 ((writeKern x a b ws).kern.disk.blocks).length co96, .slice Ao97 ((writeKern x a b ws).kern.disk.cache).length co97, .slice Ao98 ((writeKern x a b ws).kern.exts).length co98]) rfl sz_45 (.t .z) (.t (.s .z)) rfl (ones rfl) .z (Nat.le_of_ble_eq_true rfl) (.c .z (.c (.s .z) (.c (.s (.s .z)) (.c (.s (.s (.s .z))) (.c (.s (.s (.s (.s .z)))) .n)))))) ?_
                    refine FJ.nil ?_
                    refine FJ.then_ ?_
                    refine FJ.seq ?_
                    refine FJ.seq ?_
                    refine FJ.region ?_
                    refine FJ.q (goes_list rfl) rfl (by decide) rfl (q_loadA (cs := [.int .i64 ((writeKern x a b ws).code), .slice Ao95 ((writeKern x a b ws).words).length co95, .slice Ao96 ((writeKern x a b ws).kern.disk.blocks).length co96, .slice Ao97 ((writeKern x a b ws).kern.disk.cache).length co97, .slice Ao98 ((writeKern x a b ws).kern.exts).length co98]) rfl ag_45 sz_45 (.t .z) (WS.rows0 .z (fun i u h => by exact h))) ?_
                    refine FJ.q (goes_list rfl) rfl (by decide) rfl (q_loadA (cs := [.int .i64 ((writeKern x a b ws).code), .slice Ao28 ((writeKern x a b ws).words).length co28, .slice Ao29 ((writeKern x a b ws).kern.disk.blocks).length co29, .slice Ao30 ((writeKern x a b ws).kern.disk.cache).length co30, .slice Ao31 ((writeKern x a b ws).kern.exts).length co31]) rfl ag_45 sz_45 (.t (.s (.s (.s (.s (.s (.s (.s (.s (.s (.s (.s (.s (.s (.s (.s (.s (.s (.s (.s (.s (.s (.s (.s (.s (.s (.s (.s (.s (.s (.s (.s (.s (.s (.s (.s (.s (.s (.s (.s (.s (.s (.s (.s (.s (.s (.s (.s (.s (.s (.s (.s (.s (.s (.s (.s (.s (.s (.s (.s (.s (.s (.s (.s .z)))))))))))))))))))))))))))))))))))))))))))))))))))))))))))))))) (WS.rows0 (.s (.s (.s (.s (.s (.s (.s (.s (.s (.s (.s (.s (.s (.s (.s (.s (.s (.s (.s (.s (.s (.s (.s (.s (.s (.s (.s (.s (.s (.s (.s .z))))))))))))))))))))))))))))))) (fun i u h => by exact h))) ?_
                    refine FJ.call (goes_list rfl) rfl (by decide) rfl (c_call rfl Try.func32 rfl rfl (args2 (.t (.s .z)) (.t .z))) .n (fun w1 S1 hs tr => c_32 (kT_45_mk (writeKern x a b ws) (tr.own (.s .z)) (tr.own (.s (.s .z))) (tr.own (.s (.s (.s .z)))) (tr.own (.s (.s (.s (.s .z)))))) (kT_45_mk (writeKern x a b ws) (tr.own (.s (.s (.s (.s (.s (.s (.s (.s (.s (.s (.s (.s (.s (.s (.s (.s (.s (.s (.s (.s (.s .z)))))))))))))))))))))) (tr.own (.s (.s (.s (.s (.s (.s (.s (.s (.s (.s (.s (.s (.s (.s (.s (.s (.s (.s (.s (.s (.s (.s .z))))))))))))))))))))))) (tr.own (.s (.s (.s (.s (.s (.s (.s (.s (.s (.s (.s (.s (.s (.s (.s (.s (.s (.s (.s (.s (.s (.s (.s .z)))))))))))))))))))))))) (tr.own (.s (.s (.s (.s (.s (.s (.s (.s (.s (.s (.s (.s (.s (.s (.s (.s (.s (.s (.s (.s (.s (.s (.s (.s .z))))))))))))))))))))))))))) ?_
                    rintro _ _ ⟨rfl, rfl⟩
                    refine FJ.cat .n ?_
                    refine FJ.q (goes_list rfl) rfl (by decide) rfl (q_not rfl (.t .z)) ?_
                    refine FJ.nil ?_
                    refine FJ.then_ ?_
                    refine FJ.condN (.t .z) (fun b100 => ?_) (fun b100 => ?_)
                    · -- b100: True
                      refine FJ.seq ?_
                      refine FJ.region ?_
                      refine FJ.er (.s (.s (.s (.s (.s (.s (.s (.s (.s (.s (.s (.s (.s (.s (.s (.s (.s (.s (.s (.s (.s (.s (.s (.s (.s (.s (.s (.s (.s (.s (.s (.s (.s (.s (.s (.s (.s (.s (.s (.s (.s (.s (.s (.s (.s (.s (.s (.s (.s (.s (.s (.s (.s (.s (.s (.s (.s (.s (.s (.s (.s (.s (.s (.s (.s (.s (.s (.s (.s (.s (.s (.s (.s (.s (.s (.s (.s (.s (.s (.s (.s (.s (.s .z))))))))))))))))))))))))))))))))))))))))))))))))))))))))))))))))))))))))))))))))))) ?_
                      refine FJ.q (goes_list rfl) rfl (by decide) rfl (q_assign rfl .c) ?_
                      refine FJ.nil ?_
                      refine FJ.then_ ?_
                      refine FJ.ret ?_
                      refine FJ.thenR ?_
                      refine FJ.doneS (res1 rfl .z) .n ?_
                      exfalso; first | exact absurd rfl (by assumption) | omega | (simp_all; done)
                    · -- b100: False
                      refine FJ.skip ?_
                      refine FJ.then_ ?_
                      refine FJ.seq ?_
                      refine FJ.region ?_
                      refine FJ.er (.s (.s (.s (.s (.s (.s (.s (.s (.s (.s (.s (.s (.s (.s (.s (.s (.s .z))))))))))))))))) ?_
                      refine FJ.q (goes_list rfl) rfl (by decide) rfl (q_assign rfl .c) ?_
                      refine FJ.nil ?_
                      refine FJ.then_ ?_
                      refine FJ.seq ?_
                      refine FJ.region ?_
                      refine FJ.q (goes_list rfl) rfl (by decide) rfl (q_loadA (cs := [.int .i64 ((writeKern x a b ws).code), .slice Ao53 ((writeKern x a b ws).words).length co53, .slice Ao54 ((writeKern x a b ws).kern.disk.blocks).length co54, .slice Ao55 ((writeKern x a b ws).kern.disk.cache).length co55, .slice Ao56 ((writeKern x a b ws).kern.exts).length co56]) rfl ag_45 sz_45 (.t (.s (.s (.s (.s (.s (.s (.s (.s (.s (.s (.s (.s (.s (.s (.s (.s (.s (.s (.s (.s (.s (.s (.s (.s (.s (.s (.s (.s (.s (.s (.s (.s (.s (.s (.s (.s (.s (.s (.s (.s (.s (.s (.s (.s (.s (.s (.s (.s (.s (.s (.s (.s (.s (.s .z))))))))))))))))))))))))))))))))))))))))))))))))))))))) (WS.rows0 (.s (.s (.s (.s (.s (.s (.s (.s (.s (.s (.s (.s (.s (.s (.s (.s (.s (.s (.s (.s (.s (.s (.s (.s (.s (.s (.s (.s (.s .z))))))))))))))))))))))))))))) (fun i u h => by exact h))) ?_
                      refine FJ.q (goes_list rfl) rfl (by decide) rfl (q_move rfl (.t (.s .z))) ?_
                      refine FJ.call (goes_list rfl) rfl (by decide) rfl (c_call rfl Try.func34 rfl rfl (args2 (.t (.s .z)) (.t .z))) .n (fun w1 S1 hs tr => c_34 (kT_45_mk (⟨(writeKern x a b ws).code, (vmark_RKern 1 (writeKern x a b ws)).words, (⟨(⟨(vmark_RKern 1 (writeKern x a b ws)).kern.disk.blocks, (vmark_RKern 1 (writeKern x a b ws)).kern.disk.cache⟩ : DDisk), (vmark_RKern 1 (writeKern x a b ws)).kern.exts⟩ : DKern)⟩ : RKern) (tr.own (.s (.s (.s (.s (.s (.s (.s (.s (.s .z)))))))))) (tr.own (.s (.s (.s (.s (.s (.s (.s (.s (.s (.s .z))))))))))) (tr.own (.s (.s (.s (.s (.s (.s (.s (.s (.s (.s (.s .z)))))))))))) (tr.own (.s (.s (.s (.s (.s (.s (.s (.s (.s (.s (.s (.s .z)))))))))))))) _ (writeKern x a b ws) rfl (by omega) (by first | omega | (omega))) ?_
                      rintro _ _ ⟨rfl, rfl⟩
                      refine FJ.cat .n ?_
                      refine FJ.er (.s (.s (.s .z))) ?_
                      refine FJ.q (goes_list rfl) rfl (by decide) rfl (q_assign rfl (.t .z)) ?_
                      refine FJ.nil ?_
                      refine FJ.then_ ?_
                      refine FJ.seq ?_
                      refine FJ.seq ?_
                      refine FJ.region ?_
                      refine FJ.q (goes_list rfl) rfl (by decide) rfl (q_move rfl (.t .z)) ?_
                      refine FJ.q (goes_list rfl) rfl (by decide) rfl (q_lss rfl (.t .z) .c) ?_
                      refine FJ.nil ?_
                      refine FJ.then_ ?_
                      refine FJ.condP (.t .z) (fun b101 => ?_) (fun b101 => ?_)
                      · -- b101: True
                        refine FJ.seq ?_
                        refine FJ.region ?_
                        refine FJ.er (.s (.s (.s (.s (.s (.s (.s (.s (.s (.s (.s (.s (.s (.s (.s (.s (.s (.s (.s (.s (.s (.s (.s (.s (.s (.s (.s (.s (.s (.s (.s (.s (.s (.s (.s (.s (.s (.s (.s (.s (.s (.s (.s (.s (.s (.s (.s (.s (.s (.s (.s (.s (.s (.s (.s (.s (.s (.s (.s (.s (.s (.s (.s (.s (.s (.s (.s (.s (.s (.s (.s (.s (.s (.s (.s (.s (.s (.s (.s (.s (.s (.s (.s (.s (.s (.s (.s (.s .z)))))))))))))))))))))))))))))))))))))))))))))))))))))))))))))))))))))))))))))))))))))))) ?_
                        refine FJ.q (goes_list rfl) rfl (by decide) rfl (q_assign rfl .c) ?_
                        refine FJ.nil ?_
                        refine FJ.then_ ?_
                        refine FJ.ret ?_
                        refine FJ.thenR ?_
                        refine FJ.doneS (res1 rfl .z) .n ?_
                        exfalso; first | exact absurd rfl (by assumption) | omega | (simp_all; done)
                      · -- b101: False
                        refine FJ.skip ?_
                        refine FJ.then_ ?_
                        refine FJ.seq ?_
                        refine FJ.seq ?_
                        refine FJ.region ?_
                        refine FJ.q (goes_list rfl) rfl (by decide) rfl (q_move rfl (.t (.s (.s .z)))) ?_
                        refine FJ.q (goes_list rfl) rfl (by decide) rfl (q_move rfl (.t (.s (.s (.s (.s (.s (.s (.s (.s (.s (.s (.s (.s (.s (.s (.s (.s (.s (.s (.s (.s (.s (.s (.s (.s (.s (.s (.s .z))))))))))))))))))))))))))))) ?_
                        refine FJ.q (goes_list rfl) rfl (by decide) rfl (q_neq rfl (.t (.s .z)) (.t .z)) ?_
                        refine FJ.nil ?_
                        refine FJ.then_ ?_
                        refine FJ.condN (.t .z) (fun b102 => ?_) (fun b102 => ?_)
                        · -- b102: True
                          refine FJ.seq ?_
                          refine FJ.region ?_
                          refine FJ.er (.s (.s (.s (.s (.s (.s (.s (.s (.s (.s (.s (.s (.s (.s (.s (.s (.s (.s (.s (.s (.s (.s (.s (.s (.s (.s (.s (.s (.s (.s (.s (.s (.s (.s (.s (.s (.s (.s (.s (.s (.s (.s (.s (.s (.s (.s (.s (.s (.s (.s (.s (.s (.s (.s (.s (.s (.s (.s (.s (.s (.s (.s (.s (.s (.s (.s (.s (.s (.s (.s (.s (.s (.s (.s (.s (.s (.s (.s (.s (.s (.s (.s (.s (.s (.s (.s (.s (.s (.s (.s (.s .z))))))))))))))))))))))))))))))))))))))))))))))))))))))))))))))))))))))))))))))))))))))))))) ?_
                          refine FJ.q (goes_list rfl) rfl (by decide) rfl (q_assign rfl .c) ?_
                          refine FJ.nil ?_
                          refine FJ.then_ ?_
                          refine FJ.ret ?_
                          refine FJ.thenR ?_
                          refine FJ.doneS (res1 rfl .z) .n ?_
                          exfalso; first | exact absurd rfl (by assumption) | omega | (simp_all; done)
                        · -- b102: False
                          refine FJ.skip ?_
                          refine FJ.then_ ?_
                          refine FJ.seq ?_
                          refine FJ.region ?_
                          refine FJ.er (.s (.s (.s (.s (.s (.s (.s (.s (.s (.s (.s (.s (.s (.s (.s (.s (.s (.s (.s (.s (.s (.s (.s (.s (.s (.s (.s (.s (.s (.s (.s (.s (.s (.s (.s (.s (.s (.s (.s (.s (.s (.s (.s (.s (.s (.s (.s (.s (.s (.s (.s (.s (.s (.s (.s (.s (.s (.s (.s (.s (.s (.s (.s (.s (.s (.s (.s (.s (.s (.s (.s (.s (.s (.s (.s (.s (.s (.s (.s (.s (.s (.s (.s (.s (.s (.s (.s (.s (.s (.s (.s .z))))))))))))))))))))))))))))))))))))))))))))))))))))))))))))))))))))))))))))))))))))))))))) ?_
                          refine FJ.q (goes_list rfl) rfl (by decide) rfl (q_assign rfl .c) ?_
                          refine FJ.nil ?_
                          refine FJ.then_ ?_
                          refine FJ.ret ?_
                          refine FJ.doneS (res1 rfl .z) .n ?_
                          exact ⟨rfl, rfl⟩

end Go.Proofs.Ytkmcpcahbfdohaa

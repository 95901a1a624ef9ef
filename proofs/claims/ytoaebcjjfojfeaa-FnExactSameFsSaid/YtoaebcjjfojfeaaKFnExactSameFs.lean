/- What is proved: contracts of functions, one a function. No condition. -/
import Derived.Test.YtoaebcjjfojfeaaW8
import Derived.Test.YtoaebcjjfojfeaaW5
namespace Go.Proofs.Ytoaebcjjfojfeaa
open Go Go.RowKit
set_option linter.unusedVariables false
set_option linter.unusedSimpArgs false
set_option maxHeartbeats 1000000 in
set_option maxRecDepth 20000 in
theorem c_5 {w0 : World} {S0 : Bs} {x : DFs} {cs0 : List Value} (h0 : kT_38.ro w0 (FF w0 S0) x cs0) {y : DFs} {cs1 : List Value} (h1 : kT_38.ro w0 (FF w0 S0) y cs1)  :
    Calls Try.prog 5 #[.agg cs0.toArray, .agg cs1.toArray] w0 (TriPost w0 S0 (fun r l => r = .bool true ∧ l = [])) := by
  obtain ⟨u0_0, u0_1, rfl, h0_0, h0_1⟩ := kT_38_ro h0
  obtain ⟨A0_0, c0_0, rfl, hl0_0, hm0_0, hb0_0, he0_0⟩ := ro_form h0_0
  obtain ⟨A0_1, c0_1, rfl, hl0_1, hm0_1, hb0_1, he0_1⟩ := ro_form h0_1
  obtain ⟨u1_0, u1_1, rfl, h1_0, h1_1⟩ := kT_38_ro h1
  obtain ⟨A1_0, c1_0, rfl, hl1_0, hm1_0, hb1_0, he1_0⟩ := ro_form h1_0
  obtain ⟨A1_1, c1_1, rfl, hl1_1, hm1_1, hb1_1, he1_1⟩ := ro_form h1_1
  refine FJ.enter (N := 45) Try.func5 rfl rfl (by simp) [(0, .agg #[.slice A0_0 x.inodes.length c0_0, .slice A0_1 x.data.length c0_1]), (1, .agg #[.slice A1_0 y.inodes.length c1_0, .slice A1_1 y.data.length c1_1])] (by simp) (l0 := []) trivial ?_
  refine FJ.seq ?_
  refine FJ.region ?_
  refine FJ.e (goes_list rfl) rfl (by decide) rfl (e_box (cs := [.slice A0_0 x.inodes.length c0_0, .slice A0_1 x.data.length c0_1]) (n := 2) rfl (.t .z) rfl rfl) ?_
  rintro _ _ ⟨g5, rfl, rfl⟩
  refine FJ.e (goes_list rfl) rfl (by decide) rfl (e_box (cs := [.slice A1_0 y.inodes.length c1_0, .slice A1_1 y.data.length c1_1]) (n := 2) rfl (.t (.s (.s .z))) rfl rfl) ?_
  rintro _ _ ⟨g6, rfl, rfl⟩
  refine FJ.q (goes_list rfl) rfl (by decide) rfl (q_assign rfl .c) ?_
  refine FJ.nil ?_
  refine FJ.then_ ?_
  refine FJ.seq ?_
  refine FJ.region ?_
  refine FJ.q (goes_list rfl) rfl (by decide) rfl (q_assign rfl .c) ?_
  refine FJ.nil ?_
  refine FJ.then_ ?_
  refine FJ.seq ?_
  refine FJ.region ?_
  refine FJ.q (goes_list rfl) rfl (by decide) rfl (q_loadA (cs := [.slice A0_0 x.inodes.length c0_0, .slice A0_1 x.data.length c0_1]) rfl ag_38 sz_38 (.t (.s (.s (.s .z)))) (WS.rows0 (.s .z) (fun i u h => by exact h))) ?_
  refine FJ.q (goes_list rfl) rfl (by decide) rfl (q_move rfl (.t (.s .z))) ?_
  refine FJ.call (goes_list rfl) rfl (by decide) rfl (c_call rfl Try.func22 rfl rfl (args2 (.t (.s .z)) (.t .z))) .n (fun w1 S1 hs tr => c_22 (kT_38_mk x (tr.ctx h0_0) (tr.ctx h0_1)) _ (by omega) (by omega)) ?_
  rintro _ _ ⟨c7, rfl, hc7, wc7, rfl⟩
  refine FJ.cat .n ?_
  refine FJ.er (.s (.s (.s .z))) ?_
  refine FJ.q (goes_list rfl) rfl (by decide) rfl (q_assign rfl (.t .z)) ?_
  refine FJ.nil ?_
  refine FJ.then_ ?_
  refine FJ.seq ?_
  refine FJ.seq ?_
  refine FJ.region ?_
  refine FJ.q (goes_list rfl) rfl (by decide) rfl (q_move rfl (.t .z)) ?_
  refine FJ.q (goes_list rfl) rfl (by decide) rfl (q_lss rfl (.t .z) .c) ?_
  refine FJ.nil ?_
  refine FJ.then_ ?_
  refine FJ.condP (.t .z) (fun b8 => ?_) (fun b8 => ?_)
  · -- b8: True
    refine FJ.seq ?_
    refine FJ.region ?_
    refine FJ.er (.s (.s (.s (.s (.s (.s .z)))))) ?_
    refine FJ.q (goes_list rfl) rfl (by decide) rfl (q_assign rfl .c) ?_
    refine FJ.nil ?_
    refine FJ.then_ ?_
    refine FJ.ret ?_
    refine FJ.thenR ?_
    refine FJ.doneS (res1 rfl .z) .n ?_
    exact ⟨rfl, rfl⟩
  · -- b8: False
    refine FJ.skip ?_
    refine FJ.then_ ?_
    refine FJ.seq ?_
    refine FJ.region ?_
    refine FJ.q (goes_list rfl) rfl (by decide) rfl (q_loadA (cs := [.slice A1_0 y.inodes.length c1_0, .slice A1_1 y.data.length c1_1]) rfl ag_38 sz_38 (.t (.s (.s (.s (.s (.s (.s (.s .z)))))))) (WS.rows0 .z (fun i u h => by exact h))) ?_
    refine FJ.q (goes_list rfl) rfl (by decide) rfl (q_move rfl (.t (.s (.s (.s .z))))) ?_
    refine FJ.call (goes_list rfl) rfl (by decide) rfl (c_call rfl Try.func22 rfl rfl (args2 (.t (.s .z)) (.t .z))) .n (fun w1 S1 hs tr => c_22 (kT_38_mk y (tr.ctx h1_0) (tr.ctx h1_1)) _ (by omega) (by omega)) ?_
    rintro _ _ ⟨c9, rfl, hc9, wc9, rfl⟩
    refine FJ.cat .n ?_
    refine FJ.er (.s (.s (.s (.s (.s .z))))) ?_
    refine FJ.q (goes_list rfl) rfl (by decide) rfl (q_assign rfl (.t .z)) ?_
    refine FJ.nil ?_
    refine FJ.then_ ?_
    refine FJ.seq ?_
    refine FJ.seq ?_
    refine FJ.region ?_
    refine FJ.q (goes_list rfl) rfl (by decide) rfl (q_move rfl (.t .z)) ?_
    refine FJ.q (goes_list rfl) rfl (by decide) rfl (q_lss rfl (.t .z) .c) ?_
    refine FJ.nil ?_
    refine FJ.then_ ?_
    refine FJ.condP (.t .z) (fun b10 => ?_) (fun b10 => ?_)
    · -- b10: True
      refine FJ.seq ?_
      refine FJ.region ?_
      refine FJ.er (.s (.s (.s (.s (.s (.s (.s (.s (.s (.s (.s .z))))))))))) ?_
      refine FJ.q (goes_list rfl) rfl (by decide) rfl (q_assign rfl .c) ?_
      refine FJ.nil ?_
      refine FJ.then_ ?_
      refine FJ.ret ?_
      refine FJ.thenR ?_
      refine FJ.doneS (res1 rfl .z) .n ?_
      exact ⟨rfl, rfl⟩
    · -- b10: False
      refine FJ.skip ?_
      refine FJ.then_ ?_
      refine FJ.seq ?_
      refine FJ.draw [rowA g6 38 2 1 [.slice A1_0 y.inodes.length c1_0, .slice A1_1 y.data.length c1_1], rowA g5 38 2 1 [.slice A0_0 x.inodes.length c0_0, .slice A0_1 x.data.length c0_1]] 5 (by kernel_rfl) ?_
      refine FJ.sch [(0, true), (2, true), (1, false), (3, false), (4, false), (5, false)] 0 #[true, true, true, true, true, true] (by rfl) (by kernel_rfl) ?_
      refine FJ.dq rfl rfl rfl (by decide) rfl .z (q_loadA (cs := [.slice A0_0 x.inodes.length c0_0, .slice A0_1 x.data.length c0_1]) rfl ag_38 sz_38 (.t (.s (.s (.s (.s (.s (.s (.s (.s (.s (.s (.s (.s (.s .z)))))))))))))) (WS.rows0 (.s .z) (fun i u h => by exact h))) ?_
      refine FJ.dq rfl rfl rfl (by decide) rfl .z (q_loadA (cs := [.slice A1_0 y.inodes.length c1_0, .slice A1_1 y.data.length c1_1]) rfl ag_38 sz_38 (.t (.s (.s (.s (.s (.s (.s (.s (.s (.s (.s (.s (.s (.s .z)))))))))))))) (WS.rows0 .z (fun i u h => by exact h))) ?_
      refine FJ.call (goes_sch rfl rfl) rfl (by decide) rfl (c_call rfl Try.func24 rfl rfl (args1 (.t (.s .z)))) .n (fun w1 S1 hs tr => c_24 (kT_38_mk x (tr.ctx h0_0) (tr.ctx h0_1))) ?_
      rintro _ _ ⟨v11, v13, rfl, rfl⟩
      refine FJ.cat (.c (.c .n)) ?_
      refine FJ.know (WS.oform .z) ?_
      rintro ⟨Ao15, co15, rfl, hlo15, hmo15, hbo15⟩
      refine FJ.know (WS.oform (.s .z)) ?_
      rintro ⟨Ao16, co16, rfl, hlo16, hmo16, hbo16⟩
      refine FJ.sk (.s (.s .z)) ?_
      refine FJ.call (goes_sch rfl rfl) rfl (by decide) rfl (c_call rfl Try.func24 rfl rfl (args1 (.t (.s .z)))) .n (fun w1 S1 hs tr => c_24 (kT_38_mk y (tr.ctx h1_0) (tr.ctx h1_1))) ?_
      rintro _ _ ⟨v17, v19, rfl, rfl⟩
      refine FJ.cat (.c (.c .n)) ?_
      refine FJ.know (WS.oform .z) ?_
      rintro ⟨Ao21, co21, rfl, hlo21, hmo21, hbo21⟩
      refine FJ.know (WS.oform (.s .z)) ?_
      rintro ⟨Ao22, co22, rfl, hlo22, hmo22, hbo22⟩
      refine FJ.sk (.s (.s (.s (.s .z)))) ?_
      refine FJ.call (goes_sch rfl rfl) rfl (by decide) rfl (c_call rfl Try.func23 rfl rfl (args2 (.t (.s .z)) (.t .z))) .n (fun w1 S1 hs tr => c_23 (kT_43_mk x (tr.own (.s (.s .z))) (tr.own (.s (.s (.s .z))))) (kT_43_mk y (tr.own .z) (tr.own (.s .z)))) ?_
      rintro _ _ ⟨rfl, rfl⟩
      refine FJ.cat .n ?_
      refine FJ.sk (.s (.s (.s (.s .z)))) ?_
      refine FJ.q (goes_sch rfl rfl) rfl (by decide) rfl (q_assign rfl (.t .z)) ?_
      refine FJ.sl rfl ?_
      refine FJ.schN ?_
      refine FJ.drawN (by kernel_rfl) ?_
      refine FJ.then_ ?_
      refine FJ.seq ?_
      refine FJ.region ?_
      refine FJ.q (goes_list rfl) rfl (by decide) rfl (q_loadA (cs := [.slice A0_0 x.inodes.length c0_0, .slice A0_1 x.data.length c0_1]) rfl ag_38 sz_38 (.t (.s (.s (.s (.s (.s (.s (.s (.s (.s (.s (.s (.s (.s (.s (.s (.s (.s (.s (.s .z)))))))))))))))))))) (WS.rows0 (.s (.s (.s (.s (.s .z))))) (fun i u h => by exact h))) ?_
      refine FJ.call (goes_list rfl) rfl (by decide) rfl (c_call rfl Try.func24 rfl rfl (args1 (.t .z))) .n (fun w1 S1 hs tr => c_24 (kT_38_mk x (tr.ctx h0_0) (tr.ctx h0_1))) ?_
      rintro _ _ ⟨v23, v25, rfl, rfl⟩
      refine FJ.cat (.c (.c .n)) ?_
      refine FJ.know (WS.oform .z) ?_
      rintro ⟨Ao27, co27, rfl, hlo27, hmo27, hbo27⟩
      refine FJ.know (WS.oform (.s .z)) ?_
      rintro ⟨Ao28, co28, rfl, hlo28, hmo28, hbo28⟩
      refine FJ.e (goes_list rfl) rfl (by decide) rfl (e_alloc rfl z_43 rfl rfl) ?_
      rintro _ _ ⟨g29, rfl, rfl⟩
      refine FJ.es (goes_list rfl) rfl (es_store (off := 0) (cs := [.slice Ao27 x.inodes.length co27, .slice Ao28 x.data.length co28]) rfl sz_43 (.t .z) (.t (.s .z)) rfl (ones rfl) .z (Nat.le_of_ble_eq_true rfl) (.c .z (.c (.s .z) .n))) ?_
      refine FJ.nil ?_
      refine FJ.then_ ?_
      refine FJ.seq ?_
      refine FJ.region ?_
      refine FJ.q (goes_list rfl) rfl (by decide) rfl (q_loadA (cs := [.slice A1_0 y.inodes.length c1_0, .slice A1_1 y.data.length c1_1]) rfl ag_38 sz_38 (.t (.s (.s (.s (.s (.s (.s (.s (.s (.s (.s (.s (.s (.s (.s (.s (.s (.s (.s (.s (.s (.s .z)))))))))))))))))))))) (WS.rows0 (.s (.s (.s (.s (.s (.s (.s .z))))))) (fun i u h => by exact h))) ?_
      refine FJ.call (goes_list rfl) rfl (by decide) rfl (c_call rfl Try.func24 rfl rfl (args1 (.t .z))) .n (fun w1 S1 hs tr => c_24 (kT_38_mk y (tr.ctx h1_0) (tr.ctx h1_1))) ?_
      rintro _ _ ⟨v30, v32, rfl, rfl⟩
      refine FJ.cat (.c (.c .n)) ?_
      refine FJ.know (WS.oform .z) ?_
      rintro ⟨Ao34, co34, rfl, hlo34, hmo34, hbo34⟩
      refine FJ.know (WS.oform (.s .z)) ?_
      rintro ⟨Ao35, co35, rfl, hlo35, hmo35, hbo35⟩
      refine FJ.e (goes_list rfl) rfl (by decide) rfl (e_alloc rfl z_43 rfl rfl) ?_
      rintro _ _ ⟨g36, rfl, rfl⟩
      refine FJ.es (goes_list rfl) rfl (es_store (off := 0) (cs := [.slice Ao34 y.inodes.length co34, .slice Ao35 y.data.length co35]) rfl sz_43 (.t .z) (.t (.s .z)) rfl (ones rfl) .z (Nat.le_of_ble_eq_true rfl) (.c .z (.c (.s .z) .n))) ?_
      refine FJ.nil ?_
      refine FJ.then_ ?_
      refine FJ.seq ?_
      refine FJ.region ?_
      refine FJ.q (goes_list rfl) rfl (by decide) rfl (q_loadA (cs := [.slice Ao27 x.inodes.length co27, .slice Ao28 x.data.length co28]) rfl ag_43 sz_43 (.t (.s (.s (.s .z)))) (WS.rows0 (.s (.s (.s .z))) (fun i u h => by exact h))) ?_
      refine FJ.q (goes_list rfl) rfl (by decide) rfl (q_loadA (cs := [.slice Ao34 y.inodes.length co34, .slice Ao35 y.data.length co35]) rfl ag_43 sz_43 (.t (.s .z)) (WS.rows0 .z (fun i u h => by exact h))) ?_
      refine FJ.call (goes_list rfl) rfl (by decide) rfl (c_call rfl Try.func25 rfl rfl (args2 (.t (.s .z)) (.t .z))) .n (fun w1 S1 hs tr => c_25 (kT_43_mk x (tr.own (.s (.s (.s (.s .z))))) (tr.own (.s (.s (.s (.s (.s .z))))))) (kT_43_mk y (tr.own (.s .z)) (tr.own (.s (.s .z))))) ?_
      rintro _ _ ⟨rfl, rfl⟩
      refine FJ.cat .n ?_
      refine FJ.q (goes_list rfl) rfl (by decide) rfl (q_assign rfl (.t .z)) ?_
      refine FJ.nil ?_
      refine FJ.then_ ?_
      refine FJ.seq ?_
      refine FJ.seq ?_
      refine FJ.region ?_
      refine FJ.q (goes_list rfl) rfl (by decide) rfl (q_move rfl (.t .z)) ?_
      refine FJ.q (goes_list rfl) rfl (by decide) rfl (q_move rfl (.t (.s (.s (.s (.s (.s (.s (.s (.s (.s (.s (.s .z))))))))))))) ?_
      refine FJ.q (goes_list rfl) rfl (by decide) rfl (q_bneq rfl u_4 (.t (.s .z)) (.t .z)) ?_
      refine FJ.nil ?_
      refine FJ.then_ ?_
      refine FJ.cond (.t .z) (fun b37 => ?_) (fun b37 => ?_)
      · -- b37: True
        refine FJ.seq ?_
        refine FJ.region ?_
        refine FJ.er (.s (.s (.s (.s (.s (.s (.s (.s (.s (.s (.s (.s (.s (.s (.s (.s (.s (.s (.s (.s (.s (.s (.s (.s (.s (.s (.s (.s (.s (.s .z)))))))))))))))))))))))))))))) ?_
        refine FJ.q (goes_list rfl) rfl (by decide) rfl (q_assign rfl .c) ?_
        refine FJ.nil ?_
        refine FJ.then_ ?_
        refine FJ.ret ?_
        refine FJ.thenR ?_
        refine FJ.doneS (res1 rfl .z) .n ?_
        exfalso; first | exact absurd rfl (by assumption) | omega | (simp_all; done)
      · -- b37: False
        refine FJ.skip ?_
        refine FJ.then_ ?_
        refine FJ.seq ?_
        refine FJ.seq ?_
        refine FJ.sel (.c (.s .z) (.c (.s .z) (.c (.s (.s .z)) (.c (.s (.s .z)) (.c (.s (.s .z)) (.c (.s (.s .z)) (.c (.s (.s .z)) (.c (.s (.s .z)) (.c .z (.c .z (.c .z (.c .z .n)))))))))))) ?_
        refine FJ.draw [rowA g36 43 2 1 [.slice Ao34 y.inodes.length co34, .slice Ao35 y.data.length co35], rowA g29 43 2 1 [.slice Ao27 x.inodes.length co27, .slice Ao28 x.data.length co28], rowA g6 38 2 1 [.slice A1_0 y.inodes.length c1_0, .slice A1_1 y.data.length c1_1], rowA g5 38 2 1 [.slice A0_0 x.inodes.length c0_0, .slice A0_1 x.data.length c0_1]] 5 (by kernel_rfl) ?_
        refine FJ.sch [(0, true), (1, true), (2, false), (3, false), (4, true)] 0 #[true, true, true, true, true] (by rfl) (by kernel_rfl) ?_
        refine FJ.dq rfl rfl rfl (by decide) rfl (.s (.s (.s (.s (.s (.s (.s (.s .z)))))))) (q_loadA (cs := [.slice Ao27 x.inodes.length co27, .slice Ao28 x.data.length co28]) rfl ag_43 sz_43 (.t (.s (.s (.s (.s (.s (.s (.s (.s (.s (.s .z))))))))))) (WS.rows0 (.s .z) (fun i u h => by exact h))) ?_
        refine FJ.dq rfl rfl rfl (by decide) rfl (.s (.s (.s (.s (.s (.s (.s (.s .z)))))))) (q_loadA (cs := [.slice A0_0 x.inodes.length c0_0, .slice A0_1 x.data.length c0_1]) rfl ag_38 sz_38 (.t (.s (.s (.s (.s (.s (.s (.s (.s (.s (.s (.s (.s (.s (.s (.s (.s (.s (.s (.s (.s (.s (.s (.s (.s (.s (.s (.s (.s (.s (.s (.s (.s (.s .z)))))))))))))))))))))))))))))))))) (WS.rows0 (.s (.s (.s .z))) (fun i u h => by exact h))) ?_
        refine FJ.call (goes_sch rfl rfl) rfl (by decide) rfl (c_call rfl Try.func24 rfl rfl (args1 (.t .z))) .n (fun w1 S1 hs tr => c_24 (kT_38_mk x (tr.ctx h0_0) (tr.ctx h0_1))) ?_
        rintro _ _ ⟨v38, v40, rfl, rfl⟩
        refine FJ.cat (.c (.c .n)) ?_
        refine FJ.know (WS.oform .z) ?_
        rintro ⟨Ao42, co42, rfl, hlo42, hmo42, hbo42⟩
        refine FJ.know (WS.oform (.s .z)) ?_
        rintro ⟨Ao43, co43, rfl, hlo43, hmo43, hbo43⟩
        refine FJ.sk (.s (.s (.s (.s (.s (.s (.s (.s (.s (.s .z)))))))))) ?_
        refine FJ.call (goes_sch rfl rfl) rfl (by decide) rfl (c_call rfl Try.func26 rfl rfl (args2 (.t (.s (.s .z))) (.t .z))) .n (fun w1 S1 hs tr => c_26 (kT_43_mk x (tr.own (.s (.s (.s (.s .z))))) (tr.own (.s (.s (.s (.s (.s .z))))))) (kT_43_mk x (tr.own .z) (tr.own (.s .z)))) ?_
        rintro _ _ ⟨rfl, rfl⟩
        refine FJ.cat .n ?_
        refine FJ.sk (.s (.s (.s (.s (.s (.s (.s (.s (.s (.s .z)))))))))) ?_
        refine FJ.dq rfl rfl rfl (by decide) rfl (.s (.s (.s (.s (.s (.s (.s (.s (.s (.s .z)))))))))) (q_not rfl (.t .z)) ?_
        refine FJ.schN ?_
        refine FJ.drawN (by kernel_rfl) ?_
        refine FJ.then_ ?_
        refine FJ.condN (.t .z) (fun b44 => ?_) (fun b44 => ?_)
        · -- b44: True
          refine FJ.seq ?_
          refine FJ.region ?_
          refine FJ.er (.s (.s (.s (.s (.s (.s (.s (.s (.s (.s (.s (.s (.s (.s (.s (.s (.s (.s (.s (.s (.s (.s (.s (.s (.s (.s (.s (.s (.s (.s (.s (.s (.s (.s (.s .z))))))))))))))))))))))))))))))))))) ?_
          refine FJ.q (goes_list rfl) rfl (by decide) rfl (q_assign rfl .c) ?_
          refine FJ.nil ?_
          refine FJ.then_ ?_
          refine FJ.ret ?_
          refine FJ.thenR ?_
          refine FJ.doneS (res1 rfl .z) .n ?_
          exfalso; first | exact absurd rfl (by assumption) | omega | (simp_all; done)
        · -- b44: False
          refine FJ.skip ?_
          refine FJ.then_ ?_
          refine FJ.seq ?_
          refine FJ.seq ?_
          refine FJ.draw [rowA g36 43 2 1 [.slice Ao34 y.inodes.length co34, .slice Ao35 y.data.length co35], rowA g29 43 2 1 [.slice Ao27 x.inodes.length co27, .slice Ao28 x.data.length co28], rowA g6 38 2 1 [.slice A1_0 y.inodes.length c1_0, .slice A1_1 y.data.length c1_1], rowA g5 38 2 1 [.slice A0_0 x.inodes.length c0_0, .slice A0_1 x.data.length c0_1]] 5 (by kernel_rfl) ?_
          refine FJ.sch [(0, true), (1, true), (2, false), (3, false), (4, true)] 0 #[true, true, true, true, true] (by rfl) (by kernel_rfl) ?_
          refine FJ.dq rfl rfl rfl (by decide) rfl (.s (.s (.s (.s (.s (.s (.s (.s (.s (.s .z)))))))))) (q_loadA (cs := [.slice Ao34 y.inodes.length co34, .slice Ao35 y.data.length co35]) rfl ag_43 sz_43 (.t (.s (.s (.s (.s (.s (.s (.s (.s (.s (.s (.s (.s .z))))))))))))) (WS.rows0 .z (fun i u h => by exact h))) ?_
          refine FJ.dq rfl rfl rfl (by decide) rfl (.s (.s (.s (.s (.s (.s (.s (.s (.s (.s .z)))))))))) (q_loadA (cs := [.slice A1_0 y.inodes.length c1_0, .slice A1_1 y.data.length c1_1]) rfl ag_38 sz_38 (.t (.s (.s (.s (.s (.s (.s (.s (.s (.s (.s (.s (.s (.s (.s (.s (.s (.s (.s (.s (.s (.s (.s (.s (.s (.s (.s (.s (.s (.s (.s (.s (.s (.s (.s (.s (.s (.s .z)))))))))))))))))))))))))))))))))))))) (WS.rows0 (.s (.s .z)) (fun i u h => by exact h))) ?_
          refine FJ.call (goes_sch rfl rfl) rfl (by decide) rfl (c_call rfl Try.func24 rfl rfl (args1 (.t .z))) .n (fun w1 S1 hs tr => c_24 (kT_38_mk y (tr.ctx h1_0) (tr.ctx h1_1))) ?_
          rintro _ _ ⟨v45, v47, rfl, rfl⟩
          refine FJ.cat (.c (.c .n)) ?_
          refine FJ.know (WS.oform .z) ?_
          rintro ⟨Ao49, co49, rfl, hlo49, hmo49, hbo49⟩
          refine FJ.know (WS.oform (.s .z)) ?_
          rintro ⟨Ao50, co50, rfl, hlo50, hmo50, hbo50⟩
          refine FJ.sk (.s (.s (.s (.s (.s (.s (.s (.s (.s (.s (.s (.s .z)))))))))))) ?_
          refine FJ.call (goes_sch rfl rfl) rfl (by decide) rfl (c_call rfl Try.func26 rfl rfl (args2 (.t (.s (.s .z))) (.t .z))) .n (fun w1 S1 hs tr => c_26 (kT_43_mk y (tr.own (.s (.s (.s (.s .z))))) (tr.own (.s (.s (.s (.s (.s .z))))))) (kT_43_mk y (tr.own .z) (tr.own (.s .z)))) ?_
          rintro _ _ ⟨rfl, rfl⟩
          refine FJ.cat .n ?_
          refine FJ.sk (.s (.s (.s (.s (.s (.s (.s (.s (.s (.s (.s (.s .z)))))))))))) ?_
          refine FJ.dq rfl rfl rfl (by decide) rfl (.s (.s (.s (.s (.s (.s (.s (.s (.s (.s (.s (.s .z)))))))))))) (q_not rfl (.t .z)) ?_
          refine FJ.schN ?_
          refine FJ.drawN (by kernel_rfl) ?_
          refine FJ.then_ ?_
          refine FJ.condN (.t .z) (fun b51 => ?_) (fun b51 => ?_)
          · -- b51: True
            refine FJ.seq ?_
            refine FJ.region ?_
            refine FJ.er (.s (.s (.s (.s (.s (.s (.s (.s (.s (.s (.s (.s (.s (.s (.s (.s (.s (.s (.s (.s (.s (.s (.s (.s (.s (.s (.s (.s (.s (.s (.s (.s (.s (.s (.s (.s (.s (.s (.s (.s .z)))))))))))))))))))))))))))))))))))))))) ?_
            refine FJ.q (goes_list rfl) rfl (by decide) rfl (q_assign rfl .c) ?_
            refine FJ.nil ?_
            refine FJ.then_ ?_
            refine FJ.ret ?_
            refine FJ.thenR ?_
            refine FJ.doneS (res1 rfl .z) .n ?_
            exfalso; first | exact absurd rfl (by assumption) | omega | (simp_all; done)
          · -- b51: False
            refine FJ.skip ?_
            refine FJ.then_ ?_
            refine FJ.seq ?_
            refine FJ.region ?_
            refine FJ.er (.s (.s (.s (.s (.s (.s (.s (.s (.s (.s (.s (.s (.s (.s (.s (.s (.s (.s (.s (.s (.s (.s (.s (.s (.s (.s (.s (.s (.s (.s (.s (.s (.s (.s (.s (.s (.s (.s (.s (.s .z)))))))))))))))))))))))))))))))))))))))) ?_
            refine FJ.q (goes_list rfl) rfl (by decide) rfl (q_assign rfl .c) ?_
            refine FJ.nil ?_
            refine FJ.then_ ?_
            refine FJ.ret ?_
            refine FJ.doneS (res1 rfl .z) .n ?_
            exact ⟨rfl, rfl⟩

end Go.Proofs.Ytoaebcjjfojfeaa

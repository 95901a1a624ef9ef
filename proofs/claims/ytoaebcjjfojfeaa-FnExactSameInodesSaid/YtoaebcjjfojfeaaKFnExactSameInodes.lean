/- What is proved: contracts of functions, one a function. No condition. -/
import Derived.Test.YtoaebcjjfojfeaaW6
import Derived.Test.YtoaebcjjfojfeaaW4
namespace Go.Proofs.Ytoaebcjjfojfeaa
open Go Go.RowKit
set_option linter.unusedVariables false
set_option linter.unusedSimpArgs false
set_option maxHeartbeats 1000000 in
set_option maxRecDepth 20000 in
theorem c_3 {w0 : World} {S0 : Bs} {x : DInode} {cs0 : List Value} (h0 : kT_25.ro w0 (FF w0 S0) x cs0) {y : DInode} {cs1 : List Value} (h1 : kT_25.ro w0 (FF w0 S0) y cs1)  :
    Calls Try.prog 3 #[.agg cs0.toArray, .agg cs1.toArray] w0 (TriPost w0 S0 (fun r l => r = .bool true ∧ l = [])) := by
  obtain ⟨u0_3, u0_4, rfl, h0_3, h0_4⟩ := kT_25_ro h0
  obtain ⟨A0_3, c0_3, rfl, hl0_3, hm0_3, hb0_3, he0_3⟩ := ro_form h0_3
  obtain ⟨A0_4, c0_4, rfl, hl0_4, hm0_4, hb0_4, he0_4⟩ := ro_form h0_4
  obtain ⟨u1_3, u1_4, rfl, h1_3, h1_4⟩ := kT_25_ro h1
  obtain ⟨A1_3, c1_3, rfl, hl1_3, hm1_3, hb1_3, he1_3⟩ := ro_form h1_3
  obtain ⟨A1_4, c1_4, rfl, hl1_4, hm1_4, hb1_4, he1_4⟩ := ro_form h1_4
  refine FJ.enter (N := 45) Try.func3 rfl rfl (by simp) [(0, .agg #[.int .i64 x.kind, .int .i64 x.links, .int .i64 x.size, .slice A0_3 x.blocks.length c0_3, .slice A0_4 x.ents.length c0_4]), (1, .agg #[.int .i64 y.kind, .int .i64 y.links, .int .i64 y.size, .slice A1_3 y.blocks.length c1_3, .slice A1_4 y.ents.length c1_4])] (by simp) (l0 := []) trivial ?_
  refine FJ.seq ?_
  refine FJ.region ?_
  refine FJ.e (goes_list rfl) rfl (by decide) rfl (e_box (cs := [.int .i64 x.kind, .int .i64 x.links, .int .i64 x.size, .slice A0_3 x.blocks.length c0_3, .slice A0_4 x.ents.length c0_4]) (n := 5) rfl (.t .z) rfl rfl) ?_
  rintro _ _ ⟨g5, rfl, rfl⟩
  refine FJ.e (goes_list rfl) rfl (by decide) rfl (e_box (cs := [.int .i64 y.kind, .int .i64 y.links, .int .i64 y.size, .slice A1_3 y.blocks.length c1_3, .slice A1_4 y.ents.length c1_4]) (n := 5) rfl (.t (.s (.s .z))) rfl rfl) ?_
  rintro _ _ ⟨g6, rfl, rfl⟩
  refine FJ.q (goes_list rfl) rfl (by decide) rfl (q_assign rfl .c) ?_
  refine FJ.nil ?_
  refine FJ.then_ ?_
  refine FJ.seq ?_
  refine FJ.region ?_
  refine FJ.q (goes_list rfl) rfl (by decide) rfl (q_assign rfl .c) ?_
  refine FJ.nil ?_
  refine FJ.then_ ?_
  refine FJ.seq ?_
  refine FJ.region ?_
  refine FJ.q (goes_list rfl) rfl (by decide) rfl (q_loadA (cs := [.int .i64 x.kind, .int .i64 x.links, .int .i64 x.size, .slice A0_3 x.blocks.length c0_3, .slice A0_4 x.ents.length c0_4]) rfl ag_25 sz_25 (.t (.s (.s (.s .z)))) (WS.rows0 (.s .z) (fun i u h => by exact h))) ?_
  refine FJ.q (goes_list rfl) rfl (by decide) rfl (q_move rfl (.t (.s .z))) ?_
  refine FJ.call (goes_list rfl) rfl (by decide) rfl (c_call rfl Try.func15 rfl rfl (args2 (.t (.s .z)) (.t .z))) .n (fun w1 S1 hs tr => c_15 (kT_25_mk x (tr.ctx h0_3) (tr.ctx h0_4)) _ (by omega) (by omega)) ?_
  rintro _ _ ⟨c7, rfl, hc7, wc7, rfl⟩
  refine FJ.cat .n ?_
  refine FJ.er (.s (.s (.s .z))) ?_
  refine FJ.q (goes_list rfl) rfl (by decide) rfl (q_assign rfl (.t .z)) ?_
  refine FJ.nil ?_
  refine FJ.then_ ?_
  refine FJ.seq ?_
  refine FJ.seq ?_
  refine FJ.region ?_
  refine FJ.q (goes_list rfl) rfl (by decide) rfl (q_move rfl (.t .z)) ?_
  refine FJ.q (goes_list rfl) rfl (by decide) rfl (q_lss rfl (.t .z) .c) ?_
  refine FJ.nil ?_
  refine FJ.then_ ?_
  refine FJ.condP (.t .z) (fun b8 => ?_) (fun b8 => ?_)
  · -- b8: True
    refine FJ.seq ?_
    refine FJ.region ?_
    refine FJ.er (.s (.s (.s (.s (.s (.s .z)))))) ?_
    refine FJ.q (goes_list rfl) rfl (by decide) rfl (q_assign rfl .c) ?_
    refine FJ.nil ?_
    refine FJ.then_ ?_
    refine FJ.ret ?_
    refine FJ.thenR ?_
    refine FJ.doneS (res1 rfl .z) .n ?_
    exact ⟨rfl, rfl⟩
  · -- b8: False
    refine FJ.skip ?_
    refine FJ.then_ ?_
    refine FJ.seq ?_
    refine FJ.region ?_
    refine FJ.q (goes_list rfl) rfl (by decide) rfl (q_loadA (cs := [.int .i64 y.kind, .int .i64 y.links, .int .i64 y.size, .slice A1_3 y.blocks.length c1_3, .slice A1_4 y.ents.length c1_4]) rfl ag_25 sz_25 (.t (.s (.s (.s (.s (.s (.s (.s .z)))))))) (WS.rows0 .z (fun i u h => by exact h))) ?_
    refine FJ.q (goes_list rfl) rfl (by decide) rfl (q_move rfl (.t (.s (.s (.s .z))))) ?_
    refine FJ.call (goes_list rfl) rfl (by decide) rfl (c_call rfl Try.func15 rfl rfl (args2 (.t (.s .z)) (.t .z))) .n (fun w1 S1 hs tr => c_15 (kT_25_mk y (tr.ctx h1_3) (tr.ctx h1_4)) _ (by omega) (by omega)) ?_
    rintro _ _ ⟨c9, rfl, hc9, wc9, rfl⟩
    refine FJ.cat .n ?_
    refine FJ.er (.s (.s (.s (.s (.s .z))))) ?_
    refine FJ.q (goes_list rfl) rfl (by decide) rfl (q_assign rfl (.t .z)) ?_
    refine FJ.nil ?_
    refine FJ.then_ ?_
    refine FJ.seq ?_
    refine FJ.seq ?_
    refine FJ.region ?_
    refine FJ.q (goes_list rfl) rfl (by decide) rfl (q_move rfl (.t .z)) ?_
    refine FJ.q (goes_list rfl) rfl (by decide) rfl (q_lss rfl (.t .z) .c) ?_
    refine FJ.nil ?_
    refine FJ.then_ ?_
    refine FJ.condP (.t .z) (fun b10 => ?_) (fun b10 => ?_)
    · -- b10: True
      refine FJ.seq ?_
      refine FJ.region ?_
      refine FJ.er (.s (.s (.s (.s (.s (.s (.s (.s (.s (.s (.s .z))))))))))) ?_
      refine FJ.q (goes_list rfl) rfl (by decide) rfl (q_assign rfl .c) ?_
      refine FJ.nil ?_
      refine FJ.then_ ?_
      refine FJ.ret ?_
      refine FJ.thenR ?_
      refine FJ.doneS (res1 rfl .z) .n ?_
      exact ⟨rfl, rfl⟩
    · -- b10: False
      refine FJ.skip ?_
      refine FJ.then_ ?_
      refine FJ.seq ?_
      refine FJ.draw [rowA g6 25 5 1 [.int .i64 y.kind, .int .i64 y.links, .int .i64 y.size, .slice A1_3 y.blocks.length c1_3, .slice A1_4 y.ents.length c1_4], rowA g5 25 5 1 [.int .i64 x.kind, .int .i64 x.links, .int .i64 x.size, .slice A0_3 x.blocks.length c0_3, .slice A0_4 x.ents.length c0_4]] 5 (by kernel_rfl) ?_
      refine FJ.sch [(0, true), (2, true), (1, false), (3, false), (4, false), (5, false)] 0 #[true, true, true, true, true, true] (by rfl) (by kernel_rfl) ?_
      refine FJ.dq rfl rfl rfl (by decide) rfl .z (q_loadA (cs := [.int .i64 x.kind, .int .i64 x.links, .int .i64 x.size, .slice A0_3 x.blocks.length c0_3, .slice A0_4 x.ents.length c0_4]) rfl ag_25 sz_25 (.t (.s (.s (.s (.s (.s (.s (.s (.s (.s (.s (.s (.s (.s .z)))))))))))))) (WS.rows0 (.s .z) (fun i u h => by exact h))) ?_
      refine FJ.dq rfl rfl rfl (by decide) rfl .z (q_loadA (cs := [.int .i64 y.kind, .int .i64 y.links, .int .i64 y.size, .slice A1_3 y.blocks.length c1_3, .slice A1_4 y.ents.length c1_4]) rfl ag_25 sz_25 (.t (.s (.s (.s (.s (.s (.s (.s (.s (.s (.s (.s (.s (.s .z)))))))))))))) (WS.rows0 .z (fun i u h => by exact h))) ?_
      refine FJ.call (goes_sch rfl rfl) rfl (by decide) rfl (c_call rfl Try.func17 rfl rfl (args1 (.t (.s .z)))) .n (fun w1 S1 hs tr => c_17 (kT_25_mk x (tr.ctx h0_3) (tr.ctx h0_4))) ?_
      rintro _ _ ⟨v11, v13, rfl, rfl⟩
      refine FJ.cat (.c (.c .n)) ?_
      refine FJ.know (WS.oform .z) ?_
      rintro ⟨Ao15, co15, rfl, hlo15, hmo15, hbo15⟩
      refine FJ.know (WS.oform (.s .z)) ?_
      rintro ⟨Ao16, co16, rfl, hlo16, hmo16, hbo16⟩
      refine FJ.sk (.s (.s .z)) ?_
      refine FJ.call (goes_sch rfl rfl) rfl (by decide) rfl (c_call rfl Try.func17 rfl rfl (args1 (.t (.s .z)))) .n (fun w1 S1 hs tr => c_17 (kT_25_mk y (tr.ctx h1_3) (tr.ctx h1_4))) ?_
      rintro _ _ ⟨v17, v19, rfl, rfl⟩
      refine FJ.cat (.c (.c .n)) ?_
      refine FJ.know (WS.oform .z) ?_
      rintro ⟨Ao21, co21, rfl, hlo21, hmo21, hbo21⟩
      refine FJ.know (WS.oform (.s .z)) ?_
      rintro ⟨Ao22, co22, rfl, hlo22, hmo22, hbo22⟩
      refine FJ.sk (.s (.s (.s (.s .z)))) ?_
      refine FJ.call (goes_sch rfl rfl) rfl (by decide) rfl (c_call rfl Try.func16 rfl rfl (args2 (.t (.s .z)) (.t .z))) .n (fun w1 S1 hs tr => c_16 (kT_30_mk x (tr.own (.s (.s .z))) (tr.own (.s (.s (.s .z))))) (kT_30_mk y (tr.own .z) (tr.own (.s .z)))) ?_
      rintro _ _ ⟨rfl, rfl⟩
      refine FJ.cat .n ?_
      refine FJ.sk (.s (.s (.s (.s .z)))) ?_
      refine FJ.q (goes_sch rfl rfl) rfl (by decide) rfl (q_assign rfl (.t .z)) ?_
      refine FJ.sl rfl ?_
      refine FJ.schN ?_
      refine FJ.drawN (by kernel_rfl) ?_
      refine FJ.then_ ?_
      refine FJ.seq ?_
      refine FJ.region ?_
      refine FJ.q (goes_list rfl) rfl (by decide) rfl (q_loadA (cs := [.int .i64 x.kind, .int .i64 x.links, .int .i64 x.size, .slice A0_3 x.blocks.length c0_3, .slice A0_4 x.ents.length c0_4]) rfl ag_25 sz_25 (.t (.s (.s (.s (.s (.s (.s (.s (.s (.s (.s (.s (.s (.s (.s (.s (.s (.s (.s (.s .z)))))))))))))))))))) (WS.rows0 (.s (.s (.s (.s (.s .z))))) (fun i u h => by exact h))) ?_
      refine FJ.call (goes_list rfl) rfl (by decide) rfl (c_call rfl Try.func17 rfl rfl (args1 (.t .z))) .n (fun w1 S1 hs tr => c_17 (kT_25_mk x (tr.ctx h0_3) (tr.ctx h0_4))) ?_
      rintro _ _ ⟨v23, v25, rfl, rfl⟩
      refine FJ.cat (.c (.c .n)) ?_
      refine FJ.know (WS.oform .z) ?_
      rintro ⟨Ao27, co27, rfl, hlo27, hmo27, hbo27⟩
      refine FJ.know (WS.oform (.s .z)) ?_
      rintro ⟨Ao28, co28, rfl, hlo28, hmo28, hbo28⟩
      refine FJ.e (goes_list rfl) rfl (by decide) rfl (e_alloc rfl z_30 rfl rfl) ?_
      rintro _ _ ⟨g29, rfl, rfl⟩
      refine FJ.es (goes_list rfl) rfl (es_store (off := 0) (cs := [.int .i64 x.kind, .int .i64 x.links, .int .i64 x.size, .slice Ao27 x.blocks.length co27, .slice Ao28 x.ents.length co28]) rfl sz_30 (.t .z) (.t (.s .z)) rfl (ones rfl) .z (Nat.le_of_ble_eq_true rfl) (.c .z (.c (.s .z) (.c (.s (.s .z)) (.c (.s (.s (.s .z))) (.c (.s (.s (.s (.s .z)))) .n)))))) ?_
      refine FJ.nil ?_
      refine FJ.then_ ?_
      refine FJ.seq ?_
      refine FJ.region ?_
      refine FJ.q (goes_list rfl) rfl (by decide) rfl (q_loadA (cs := [.int .i64 y.kind, .int .i64 y.links, .int .i64 y.size, .slice A1_3 y.blocks.length c1_3, .slice A1_4 y.ents.length c1_4]) rfl ag_25 sz_25 (.t (.s (.s (.s (.s (.s (.s (.s (.s (.s (.s (.s (.s (.s (.s (.s (.s (.s (.s (.s (.s (.s .z)))))))))))))))))))))) (WS.rows0 (.s (.s (.s (.s (.s (.s (.s .z))))))) (fun i u h => by exact h))) ?_
      refine FJ.call (goes_list rfl) rfl (by decide) rfl (c_call rfl Try.func17 rfl rfl (args1 (.t .z))) .n (fun w1 S1 hs tr => c_17 (kT_25_mk y (tr.ctx h1_3) (tr.ctx h1_4))) ?_
      rintro _ _ ⟨v30, v32, rfl, rfl⟩
      refine FJ.cat (.c (.c .n)) ?_
      refine FJ.know (WS.oform .z) ?_
      rintro ⟨Ao34, co34, rfl, hlo34, hmo34, hbo34⟩
      refine FJ.know (WS.oform (.s .z)) ?_
      rintro ⟨Ao35, co35, rfl, hlo35, hmo35, hbo35⟩
      refine FJ.e (goes_list rfl) rfl (by decide) rfl (e_alloc rfl z_30 rfl rfl) ?_
      rintro _ _ ⟨g36, rfl, rfl⟩
      refine FJ.es (goes_list rfl) rfl (es_store (off := 0) (cs := [.int .i64 y.kind, .int .i64 y.links, .int .i64 y.size, .slice Ao34 y.blocks.length co34, .slice Ao35 y.ents.length co35]) rfl sz_30 (.t .z) (.t (.s .z)) rfl (ones rfl) .z (Nat.le_of_ble_eq_true rfl) (.c .z (.c (.s .z) (.c (.s (.s .z)) (.c (.s (.s (.s .z))) (.c (.s (.s (.s (.s .z)))) .n)))))) ?_
      refine FJ.nil ?_
      refine FJ.then_ ?_
      refine FJ.seq ?_
      refine FJ.region ?_
      refine FJ.q (goes_list rfl) rfl (by decide) rfl (q_loadA (cs := [.int .i64 x.kind, .int .i64 x.links, .int .i64 x.size, .slice Ao27 x.blocks.length co27, .slice Ao28 x.ents.length co28]) rfl ag_30 sz_30 (.t (.s (.s (.s .z)))) (WS.rows0 (.s (.s (.s .z))) (fun i u h => by exact h))) ?_
      refine FJ.q (goes_list rfl) rfl (by decide) rfl (q_loadA (cs := [.int .i64 y.kind, .int .i64 y.links, .int .i64 y.size, .slice Ao34 y.blocks.length co34, .slice Ao35 y.ents.length co35]) rfl ag_30 sz_30 (.t (.s .z)) (WS.rows0 .z (fun i u h => by exact h))) ?_
      refine FJ.call (goes_list rfl) rfl (by decide) rfl (c_call rfl Try.func18 rfl rfl (args2 (.t (.s .z)) (.t .z))) .n (fun w1 S1 hs tr => c_18 (kT_30_mk x (tr.own (.s (.s (.s (.s .z))))) (tr.own (.s (.s (.s (.s (.s .z))))))) (kT_30_mk y (tr.own (.s .z)) (tr.own (.s (.s .z))))) ?_
      rintro _ _ ⟨rfl, rfl⟩
      refine FJ.cat .n ?_
      refine FJ.q (goes_list rfl) rfl (by decide) rfl (q_assign rfl (.t .z)) ?_
      refine FJ.nil ?_
      refine FJ.then_ ?_
      refine FJ.seq ?_
      refine FJ.seq ?_
      refine FJ.region ?_
      refine FJ.q (goes_list rfl) rfl (by decide) rfl (q_move rfl (.t .z)) ?_
      refine FJ.q (goes_list rfl) rfl (by decide) rfl (q_move rfl (.t (.s (.s (.s (.s (.s (.s (.s (.s (.s (.s (.s .z))))))))))))) ?_
      refine FJ.q (goes_list rfl) rfl (by decide) rfl (q_bneq rfl u_4 (.t (.s .z)) (.t .z)) ?_
      refine FJ.nil ?_
      refine FJ.then_ ?_
      refine FJ.cond (.t .z) (fun b37 => ?_) (fun b37 => ?_)
      · -- b37: True
        refine FJ.seq ?_
        refine FJ.region ?_
        refine FJ.er (.s (.s (.s (.s (.s (.s (.s (.s (.s (.s (.s (.s (.s (.s (.s (.s (.s (.s (.s (.s (.s (.s (.s (.s (.s (.s (.s (.s (.s (.s .z)))))))))))))))))))))))))))))) ?_
        refine FJ.q (goes_list rfl) rfl (by decide) rfl (q_assign rfl .c) ?_
        refine FJ.nil ?_
        refine FJ.then_ ?_
        refine FJ.ret ?_
        refine FJ.thenR ?_
        refine FJ.doneS (res1 rfl .z) .n ?_
        exfalso; first | exact absurd rfl (by assumption) | omega | (simp_all; done)
      · -- b37: False
        refine FJ.skip ?_
        refine FJ.then_ ?_
        refine FJ.seq ?_
        refine FJ.seq ?_
        refine FJ.sel (.c (.s .z) (.c (.s .z) (.c (.s (.s .z)) (.c (.s (.s .z)) (.c (.s (.s .z)) (.c (.s (.s .z)) (.c (.s (.s .z)) (.c (.s (.s .z)) (.c .z (.c .z (.c .z (.c .z .n)))))))))))) ?_
        refine FJ.draw [rowA g36 30 5 1 [.int .i64 y.kind, .int .i64 y.links, .int .i64 y.size, .slice Ao34 y.blocks.length co34, .slice Ao35 y.ents.length co35], rowA g29 30 5 1 [.int .i64 x.kind, .int .i64 x.links, .int .i64 x.size, .slice Ao27 x.blocks.length co27, .slice Ao28 x.ents.length co28], rowA g6 25 5 1 [.int .i64 y.kind, .int .i64 y.links, .int .i64 y.size, .slice A1_3 y.blocks.length c1_3, .slice A1_4 y.ents.length c1_4], rowA g5 25 5 1 [.int .i64 x.kind, .int .i64 x.links, .int .i64 x.size, .slice A0_3 x.blocks.length c0_3, .slice A0_4 x.ents.length c0_4]] 5 (by kernel_rfl) ?_
        refine FJ.sch [(0, true), (1, true), (2, false), (3, false), (4, true)] 0 #[true, true, true, true, true] (by rfl) (by kernel_rfl) ?_
        refine FJ.dq rfl rfl rfl (by decide) rfl (.s (.s (.s (.s (.s (.s (.s (.s .z)))))))) (q_loadA (cs := [.int .i64 x.kind, .int .i64 x.links, .int .i64 x.size, .slice Ao27 x.blocks.length co27, .slice Ao28 x.ents.length co28]) rfl ag_30 sz_30 (.t (.s (.s (.s (.s (.s (.s (.s (.s (.s (.s .z))))))))))) (WS.rows0 (.s .z) (fun i u h => by exact h))) ?_
        refine FJ.dq rfl rfl rfl (by decide) rfl (.s (.s (.s (.s (.s (.s (.s (.s .z)))))))) (q_loadA (cs := [.int .i64 x.kind, .int .i64 x.links, .int .i64 x.size, .slice A0_3 x.blocks.length c0_3, .slice A0_4 x.ents.length c0_4]) rfl ag_25 sz_25 (.t (.s (.s (.s (.s (.s (.s (.s (.s (.s (.s (.s (.s (.s (.s (.s (.s (.s (.s (.s (.s (.s (.s (.s (.s (.s (.s (.s (.s (.s (.s (.s (.s (.s .z)))))))))))))))))))))))))))))))))) (WS.rows0 (.s (.s (.s .z))) (fun i u h => by exact h))) ?_
        refine FJ.call (goes_sch rfl rfl) rfl (by decide) rfl (c_call rfl Try.func17 rfl rfl (args1 (.t .z))) .n (fun w1 S1 hs tr => c_17 (kT_25_mk x (tr.ctx h0_3) (tr.ctx h0_4))) ?_
        rintro _ _ ⟨v38, v40, rfl, rfl⟩
        refine FJ.cat (.c (.c .n)) ?_
        refine FJ.know (WS.oform .z) ?_
        rintro ⟨Ao42, co42, rfl, hlo42, hmo42, hbo42⟩
        refine FJ.know (WS.oform (.s .z)) ?_
        rintro ⟨Ao43, co43, rfl, hlo43, hmo43, hbo43⟩
        refine FJ.sk (.s (.s (.s (.s (.s (.s (.s (.s (.s (.s .z)))))))))) ?_
        refine FJ.call (goes_sch rfl rfl) rfl (by decide) rfl (c_call rfl Try.func19 rfl rfl (args2 (.t (.s (.s .z))) (.t .z))) .n (fun w1 S1 hs tr => c_19 (kT_30_mk x (tr.own (.s (.s (.s (.s .z))))) (tr.own (.s (.s (.s (.s (.s .z))))))) (kT_30_mk x (tr.own .z) (tr.own (.s .z)))) ?_
        rintro _ _ ⟨rfl, rfl⟩
        refine FJ.cat .n ?_
        refine FJ.sk (.s (.s (.s (.s (.s (.s (.s (.s (.s (.s .z)))))))))) ?_
        refine FJ.dq rfl rfl rfl (by decide) rfl (.s (.s (.s (.s (.s (.s (.s (.s (.s (.s .z)))))))))) (q_not rfl (.t .z)) ?_
        refine FJ.schN ?_
        refine FJ.drawN (by kernel_rfl) ?_
        refine FJ.then_ ?_
        refine FJ.condN (.t .z) (fun b44 => ?_) (fun b44 => ?_)
        · -- b44: True
          refine FJ.seq ?_
          refine FJ.region ?_
          refine FJ.er (.s (.s (.s (.s (.s (.s (.s (.s (.s (.s (.s (.s (.s (.s (.s (.s (.s (.s (.s (.s (.s (.s (.s (.s (.s (.s (.s (.s (.s (.s (.s (.s (.s (.s (.s .z))))))))))))))))))))))))))))))))))) ?_
          refine FJ.q (goes_list rfl) rfl (by decide) rfl (q_assign rfl .c) ?_
          refine FJ.nil ?_
          refine FJ.then_ ?_
          refine FJ.ret ?_
          refine FJ.thenR ?_
          refine FJ.doneS (res1 rfl .z) .n ?_
          exfalso; first | exact absurd rfl (by assumption) | omega | (simp_all; done)
        · -- b44: False
          refine FJ.skip ?_
          refine FJ.then_ ?_
          refine FJ.seq ?_
          refine FJ.seq ?_
          refine FJ.draw [rowA g36 30 5 1 [.int .i64 y.kind, .int .i64 y.links, .int .i64 y.size, .slice Ao34 y.blocks.length co34, .slice Ao35 y.ents.length co35], rowA g29 30 5 1 [.int .i64 x.kind, .int .i64 x.links, .int .i64 x.size, .slice Ao27 x.blocks.length co27, .slice Ao28 x.ents.length co28], rowA g6 25 5 1 [.int .i64 y.kind, .int .i64 y.links, .int .i64 y.size, .slice A1_3 y.blocks.length c1_3, .slice A1_4 y.ents.length c1_4], rowA g5 25 5 1 [.int .i64 x.kind, .int .i64 x.links, .int .i64 x.size, .slice A0_3 x.blocks.length c0_3, .slice A0_4 x.ents.length c0_4]] 5 (by kernel_rfl) ?_
          refine FJ.sch [(0, true), (1, true), (2, false), (3, false), (4, true)] 0 #[true, true, true, true, true] (by rfl) (by kernel_rfl) ?_
          refine FJ.dq rfl rfl rfl (by decide) rfl (.s (.s (.s (.s (.s (.s (.s (.s (.s (.s .z)))))))))) (q_loadA (cs := [.int .i64 y.kind, .int .i64 y.links, .int .i64 y.size, .slice Ao34 y.blocks.length co34, .slice Ao35 y.ents.length co35]) rfl ag_30 sz_30 (.t (.s (.s (.s (.s (.s (.s (.s (.s (.s (.s (.s (.s .z))))))))))))) (WS.rows0 .z (fun i u h => by exact h))) ?_
          refine FJ.dq rfl rfl rfl (by decide) rfl (.s (.s (.s (.s (.s (.s (.s (.s (.s (.s .z)))))))))) (q_loadA (cs := [.int .i64 y.kind, .int .i64 y.links, .int .i64 y.size, .slice A1_3 y.blocks.length c1_3, .slice A1_4 y.ents.length c1_4]) rfl ag_25 sz_25 (.t (.s (.s (.s (.s (.s (.s (.s (.s (.s (.s (.s (.s (.s (.s (.s (.s (.s (.s (.s (.s (.s (.s (.s (.s (.s (.s (.s (.s (.s (.s (.s (.s (.s (.s (.s (.s (.s .z)))))))))))))))))))))))))))))))))))))) (WS.rows0 (.s (.s .z)) (fun i u h => by exact h))) ?_
          refine FJ.call (goes_sch rfl rfl) rfl (by decide) rfl (c_call rfl Try.func17 rfl rfl (args1 (.t .z))) .n (fun w1 S1 hs tr => c_17 (kT_25_mk y (tr.ctx h1_3) (tr.ctx h1_4))) ?_
          rintro _ _ ⟨v45, v47, rfl, rfl⟩
          refine FJ.cat (.c (.c .n)) ?_
          refine FJ.know (WS.oform .z) ?_
          rintro ⟨Ao49, co49, rfl, hlo49, hmo49, hbo49⟩
          refine FJ.know (WS.oform (.s .z)) ?_
          rintro ⟨Ao50, co50, rfl, hlo50, hmo50, hbo50⟩
          refine FJ.sk (.s (.s (.s (.s (.s (.s (.s (.s (.s (.s (.s (.s .z)))))))))))) ?_
          refine FJ.call (goes_sch rfl rfl) rfl (by decide) rfl (c_call rfl Try.func19 rfl rfl (args2 (.t (.s (.s .z))) (.t .z))) .n (fun w1 S1 hs tr => c_19 (kT_30_mk y (tr.own (.s (.s (.s (.s .z))))) (tr.own (.s (.s (.s (.s (.s .z))))))) (kT_30_mk y (tr.own .z) (tr.own (.s .z)))) ?_
          rintro _ _ ⟨rfl, rfl⟩
          refine FJ.cat .n ?_
          refine FJ.sk (.s (.s (.s (.s (.s (.s (.s (.s (.s (.s (.s (.s .z)))))))))))) ?_
          refine FJ.dq rfl rfl rfl (by decide) rfl (.s (.s (.s (.s (.s (.s (.s (.s (.s (.s (.s (.s .z)))))))))))) (q_not rfl (.t .z)) ?_
          refine FJ.schN ?_
          refine FJ.drawN (by kernel_rfl) ?_
          refine FJ.then_ ?_
          refine FJ.condN (.t .z) (fun b51 => ?_) (fun b51 => ?_)
          · -- b51: True
            refine FJ.seq ?_
            refine FJ.region ?_
            refine FJ.er (.s (.s (.s (.s (.s (.s (.s (.s (.s (.s (.s (.s (.s (.s (.s (.s (.s (.s (.s (.s (.s (.s (.s (.s (.s (.s (.s (.s (.s (.s (.s (.s (.s (.s (.s (.s (.s (.s (.s (.s .z)))))))))))))))))))))))))))))))))))))))) ?_
            refine FJ.q (goes_list rfl) rfl (by decide) rfl (q_assign rfl .c) ?_
            refine FJ.nil ?_
            refine FJ.then_ ?_
            refine FJ.ret ?_
            refine FJ.thenR ?_
            refine FJ.doneS (res1 rfl .z) .n ?_
            exfalso; first | exact absurd rfl (by assumption) | omega | (simp_all; done)
          · -- b51: False
            refine FJ.skip ?_
            refine FJ.then_ ?_
            refine FJ.seq ?_
            refine FJ.region ?_
            refine FJ.er (.s (.s (.s (.s (.s (.s (.s (.s (.s (.s (.s (.s (.s (.s (.s (.s (.s (.s (.s (.s (.s (.s (.s (.s (.s (.s (.s (.s (.s (.s (.s (.s (.s (.s (.s (.s (.s (.s (.s (.s .z)))))))))))))))))))))))))))))))))))))))) ?_
            refine FJ.q (goes_list rfl) rfl (by decide) rfl (q_assign rfl .c) ?_
            refine FJ.nil ?_
            refine FJ.then_ ?_
            refine FJ.ret ?_
            refine FJ.doneS (res1 rfl .z) .n ?_
            exact ⟨rfl, rfl⟩

end Go.Proofs.Ytoaebcjjfojfeaa

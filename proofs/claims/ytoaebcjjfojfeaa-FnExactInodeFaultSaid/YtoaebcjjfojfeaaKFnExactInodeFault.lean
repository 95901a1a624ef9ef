/- What is proved: contracts of functions, one a function. No condition. -/
import Derived.Test.YtoaebcjjfojfeaaW3
import Derived.Test.YtoaebcjjfojfeaaW4
namespace Go.Proofs.Ytoaebcjjfojfeaa
open Go Go.RowKit
set_option linter.unusedVariables false
set_option linter.unusedSimpArgs false
set_option maxHeartbeats 1000000 in
set_option maxRecDepth 20000 in
theorem c_4 {w0 : World} {S0 : Bs} {x : DInode} {cs0 : List Value} (h0 : kT_25.ro w0 (FF w0 S0) x cs0)  :
    Calls Try.prog 4 #[.agg cs0.toArray] w0 (TriPost w0 S0 (fun r l => r = .bool true ∧ l = [])) := by
  obtain ⟨u0_3, u0_4, rfl, h0_3, h0_4⟩ := kT_25_ro h0
  obtain ⟨A0_3, c0_3, rfl, hl0_3, hm0_3, hb0_3, he0_3⟩ := ro_form h0_3
  obtain ⟨A0_4, c0_4, rfl, hl0_4, hm0_4, hb0_4, he0_4⟩ := ro_form h0_4
  refine FJ.enter (N := 27) Try.func4 rfl rfl (by simp) [(0, .agg #[.int .i64 x.kind, .int .i64 x.links, .int .i64 x.size, .slice A0_3 x.blocks.length c0_3, .slice A0_4 x.ents.length c0_4])] (by simp) (l0 := []) trivial ?_
  refine FJ.seq ?_
  refine FJ.region ?_
  refine FJ.e (goes_list rfl) rfl (by decide) rfl (e_box (cs := [.int .i64 x.kind, .int .i64 x.links, .int .i64 x.size, .slice A0_3 x.blocks.length c0_3, .slice A0_4 x.ents.length c0_4]) (n := 5) rfl (.t .z) rfl rfl) ?_
  rintro _ _ ⟨g3, rfl, rfl⟩
  refine FJ.q (goes_list rfl) rfl (by decide) rfl (q_assign rfl .c) ?_
  refine FJ.nil ?_
  refine FJ.then_ ?_
  refine FJ.seq ?_
  refine FJ.region ?_
  refine FJ.q (goes_list rfl) rfl (by decide) rfl (q_assign rfl .c) ?_
  refine FJ.nil ?_
  refine FJ.then_ ?_
  refine FJ.seq ?_
  refine FJ.region ?_
  refine FJ.q (goes_list rfl) rfl (by decide) rfl (q_loadA (cs := [.int .i64 x.kind, .int .i64 x.links, .int .i64 x.size, .slice A0_3 x.blocks.length c0_3, .slice A0_4 x.ents.length c0_4]) rfl ag_25 sz_25 (.t (.s (.s .z))) (WS.rows0 .z (fun i u h => by exact h))) ?_
  refine FJ.q (goes_list rfl) rfl (by decide) rfl (q_move rfl (.t (.s .z))) ?_
  refine FJ.call (goes_list rfl) rfl (by decide) rfl (c_call rfl Try.func15 rfl rfl (args2 (.t (.s .z)) (.t .z))) .n (fun w1 S1 hs tr => c_15 (kT_25_mk x (tr.ctx h0_3) (tr.ctx h0_4)) _ (by omega) (by omega)) ?_
  rintro _ _ ⟨c4, rfl, hc4, wc4, rfl⟩
  refine FJ.cat .n ?_
  refine FJ.er (.s (.s (.s .z))) ?_
  refine FJ.q (goes_list rfl) rfl (by decide) rfl (q_assign rfl (.t .z)) ?_
  refine FJ.nil ?_
  refine FJ.then_ ?_
  refine FJ.seq ?_
  refine FJ.seq ?_
  refine FJ.region ?_
  refine FJ.q (goes_list rfl) rfl (by decide) rfl (q_move rfl (.t .z)) ?_
  refine FJ.q (goes_list rfl) rfl (by decide) rfl (q_lss rfl (.t .z) .c) ?_
  refine FJ.nil ?_
  refine FJ.then_ ?_
  refine FJ.condP (.t .z) (fun b5 => ?_) (fun b5 => ?_)
  · -- b5: True
    refine FJ.seq ?_
    refine FJ.region ?_
    refine FJ.er (.s (.s (.s (.s (.s (.s .z)))))) ?_
    refine FJ.q (goes_list rfl) rfl (by decide) rfl (q_assign rfl .c) ?_
    refine FJ.nil ?_
    refine FJ.then_ ?_
    refine FJ.ret ?_
    refine FJ.thenR ?_
    refine FJ.doneS (res1 rfl .z) .n ?_
    exact ⟨rfl, rfl⟩
  · -- b5: False
    refine FJ.skip ?_
    refine FJ.then_ ?_
    refine FJ.seq ?_
    refine FJ.region ?_
    refine FJ.q (goes_list rfl) rfl (by decide) rfl (q_loadA (cs := [.int .i64 x.kind, .int .i64 x.links, .int .i64 x.size, .slice A0_3 x.blocks.length c0_3, .slice A0_4 x.ents.length c0_4]) rfl ag_25 sz_25 (.t (.s (.s (.s (.s (.s (.s (.s .z)))))))) (WS.rows0 .z (fun i u h => by exact h))) ?_
    refine FJ.call (goes_list rfl) rfl (by decide) rfl (c_call rfl Try.func17 rfl rfl (args1 (.t .z))) .n (fun w1 S1 hs tr => c_17 (kT_25_mk x (tr.ctx h0_3) (tr.ctx h0_4))) ?_
    rintro _ _ ⟨v6, v8, rfl, rfl⟩
    refine FJ.cat (.c (.c .n)) ?_
    refine FJ.know (WS.oform .z) ?_
    rintro ⟨Ao10, co10, rfl, hlo10, hmo10, hbo10⟩
    refine FJ.know (WS.oform (.s .z)) ?_
    rintro ⟨Ao11, co11, rfl, hlo11, hmo11, hbo11⟩
    refine FJ.call (goes_list rfl) rfl (by decide) rfl (c_call rfl Try.func20 rfl rfl (args1 (.t .z))) .n (fun w1 S1 hs tr => c_20 (kT_30_mk x (tr.own .z) (tr.own (.s .z)))) ?_
    rintro _ _ ⟨rfl, rfl⟩
    refine FJ.cat .n ?_
    refine FJ.q (goes_list rfl) rfl (by decide) rfl (q_assign rfl (.t .z)) ?_
    refine FJ.nil ?_
    refine FJ.then_ ?_
    refine FJ.seq ?_
    refine FJ.region ?_
    refine FJ.q (goes_list rfl) rfl (by decide) rfl (q_loadA (cs := [.int .i64 x.kind, .int .i64 x.links, .int .i64 x.size, .slice A0_3 x.blocks.length c0_3, .slice A0_4 x.ents.length c0_4]) rfl ag_25 sz_25 (.t (.s (.s (.s (.s (.s (.s (.s (.s (.s (.s (.s .z)))))))))))) (WS.rows0 (.s (.s .z)) (fun i u h => by exact h))) ?_
    refine FJ.call (goes_list rfl) rfl (by decide) rfl (c_call rfl Try.func17 rfl rfl (args1 (.t .z))) .n (fun w1 S1 hs tr => c_17 (kT_25_mk x (tr.ctx h0_3) (tr.ctx h0_4))) ?_
    rintro _ _ ⟨v12, v14, rfl, rfl⟩
    refine FJ.cat (.c (.c .n)) ?_
    refine FJ.know (WS.oform .z) ?_
    rintro ⟨Ao16, co16, rfl, hlo16, hmo16, hbo16⟩
    refine FJ.know (WS.oform (.s .z)) ?_
    rintro ⟨Ao17, co17, rfl, hlo17, hmo17, hbo17⟩
    refine FJ.e (goes_list rfl) rfl (by decide) rfl (e_alloc rfl z_30 rfl rfl) ?_
    rintro _ _ ⟨g18, rfl, rfl⟩
    refine FJ.es (goes_list rfl) rfl (es_store (off := 0) (cs := [.int .i64 x.kind, .int .i64 x.links, .int .i64 x.size, .slice Ao16 x.blocks.length co16, .slice Ao17 x.ents.length co17]) rfl sz_30 (.t .z) (.t (.s .z)) rfl (ones rfl) .z (Nat.le_of_ble_eq_true rfl) (.c .z (.c (.s .z) (.c (.s (.s .z)) (.c (.s (.s (.s .z))) (.c (.s (.s (.s (.s .z)))) .n)))))) ?_
    refine FJ.nil ?_
    refine FJ.then_ ?_
    refine FJ.seq ?_
    refine FJ.region ?_
    refine FJ.q (goes_list rfl) rfl (by decide) rfl (q_loadA (cs := [.int .i64 x.kind, .int .i64 x.links, .int .i64 x.size, .slice Ao16 x.blocks.length co16, .slice Ao17 x.ents.length co17]) rfl ag_30 sz_30 (.t .z) (WS.rows0 .z (fun i u h => by exact h))) ?_
    refine FJ.call (goes_list rfl) rfl (by decide) rfl (c_call rfl Try.func21 rfl rfl (args1 (.t .z))) .n (fun w1 S1 hs tr => c_21 (kT_30_mk x (tr.own (.s .z)) (tr.own (.s (.s .z))))) ?_
    rintro _ _ ⟨rfl, rfl⟩
    refine FJ.cat .n ?_
    refine FJ.q (goes_list rfl) rfl (by decide) rfl (q_assign rfl (.t .z)) ?_
    refine FJ.nil ?_
    refine FJ.then_ ?_
    refine FJ.seq ?_
    refine FJ.seq ?_
    refine FJ.region ?_
    refine FJ.q (goes_list rfl) rfl (by decide) rfl (q_move rfl (.t .z)) ?_
    refine FJ.q (goes_list rfl) rfl (by decide) rfl (q_move rfl (.t (.s (.s (.s (.s (.s (.s (.s .z))))))))) ?_
    refine FJ.q (goes_list rfl) rfl (by decide) rfl (q_neq rfl (.t (.s .z)) (.t .z)) ?_
    refine FJ.nil ?_
    refine FJ.then_ ?_
    refine FJ.condN (.t .z) (fun b19 => ?_) (fun b19 => ?_)
    · -- b19: True
      refine FJ.seq ?_
      refine FJ.region ?_
      refine FJ.er (.s (.s (.s (.s (.s (.s (.s (.s (.s (.s (.s (.s (.s (.s (.s (.s (.s (.s (.s .z))))))))))))))))))) ?_
      refine FJ.q (goes_list rfl) rfl (by decide) rfl (q_assign rfl .c) ?_
      refine FJ.nil ?_
      refine FJ.then_ ?_
      refine FJ.ret ?_
      refine FJ.thenR ?_
      refine FJ.doneS (res1 rfl .z) .n ?_
      exfalso; first | exact absurd rfl (by assumption) | omega | (simp_all; done)
    · -- b19: False
      refine FJ.skip ?_
      refine FJ.then_ ?_
      refine FJ.seq ?_
      refine FJ.seq ?_
      refine FJ.sel (.c (.s .z) (.c (.s .z) (.c (.s .z) (.c (.s .z) (.c .z (.c .z .n)))))) ?_
      refine FJ.draw [rowA g18 30 5 1 [.int .i64 x.kind, .int .i64 x.links, .int .i64 x.size, .slice Ao16 x.blocks.length co16, .slice Ao17 x.ents.length co17], rowA g3 25 5 1 [.int .i64 x.kind, .int .i64 x.links, .int .i64 x.size, .slice A0_3 x.blocks.length c0_3, .slice A0_4 x.ents.length c0_4]] 5 (by kernel_rfl) ?_
      refine FJ.sch [(0, true), (1, true), (2, false), (3, false), (4, true)] 0 #[true, true, true, true, true] (by rfl) (by kernel_rfl) ?_
      refine FJ.dq rfl rfl rfl (by decide) rfl (.s (.s (.s (.s .z)))) (q_loadA (cs := [.int .i64 x.kind, .int .i64 x.links, .int .i64 x.size, .slice Ao16 x.blocks.length co16, .slice Ao17 x.ents.length co17]) rfl ag_30 sz_30 (.t (.s (.s (.s (.s (.s (.s .z))))))) (WS.rows0 .z (fun i u h => by exact h))) ?_
      refine FJ.dq rfl rfl rfl (by decide) rfl (.s (.s (.s (.s .z)))) (q_loadA (cs := [.int .i64 x.kind, .int .i64 x.links, .int .i64 x.size, .slice A0_3 x.blocks.length c0_3, .slice A0_4 x.ents.length c0_4]) rfl ag_25 sz_25 (.t (.s (.s (.s (.s (.s (.s (.s (.s (.s (.s (.s (.s (.s (.s (.s (.s (.s (.s (.s (.s (.s .z)))))))))))))))))))))) (WS.rows0 (.s .z) (fun i u h => by exact h))) ?_
      refine FJ.call (goes_sch rfl rfl) rfl (by decide) rfl (c_call rfl Try.func17 rfl rfl (args1 (.t .z))) .n (fun w1 S1 hs tr => c_17 (kT_25_mk x (tr.ctx h0_3) (tr.ctx h0_4))) ?_
      rintro _ _ ⟨v20, v22, rfl, rfl⟩
      refine FJ.cat (.c (.c .n)) ?_
      refine FJ.know (WS.oform .z) ?_
      rintro ⟨Ao24, co24, rfl, hlo24, hmo24, hbo24⟩
      refine FJ.know (WS.oform (.s .z)) ?_
      rintro ⟨Ao25, co25, rfl, hlo25, hmo25, hbo25⟩
      refine FJ.sk (.s (.s (.s (.s (.s (.s .z)))))) ?_
      refine FJ.call (goes_sch rfl rfl) rfl (by decide) rfl (c_call rfl Try.func19 rfl rfl (args2 (.t (.s (.s .z))) (.t .z))) .n (fun w1 S1 hs tr => c_19 (kT_30_mk x (tr.own (.s (.s .z))) (tr.own (.s (.s (.s .z))))) (kT_30_mk x (tr.own .z) (tr.own (.s .z)))) ?_
      rintro _ _ ⟨rfl, rfl⟩
      refine FJ.cat .n ?_
      refine FJ.sk (.s (.s (.s (.s (.s (.s .z)))))) ?_
      refine FJ.dq rfl rfl rfl (by decide) rfl (.s (.s (.s (.s (.s (.s .z)))))) (q_not rfl (.t .z)) ?_
      refine FJ.schN ?_
      refine FJ.drawN (by kernel_rfl) ?_
      refine FJ.then_ ?_
      refine FJ.condN (.t .z) (fun b26 => ?_) (fun b26 => ?_)
      · -- b26: True
        refine FJ.seq ?_
        refine FJ.region ?_
        refine FJ.er (.s (.s (.s (.s (.s (.s (.s (.s (.s (.s (.s (.s (.s (.s (.s (.s (.s (.s (.s (.s (.s (.s (.s (.s .z)))))))))))))))))))))))) ?_
        refine FJ.q (goes_list rfl) rfl (by decide) rfl (q_assign rfl .c) ?_
        refine FJ.nil ?_
        refine FJ.then_ ?_
        refine FJ.ret ?_
        refine FJ.thenR ?_
        refine FJ.doneS (res1 rfl .z) .n ?_
        exfalso; first | exact absurd rfl (by assumption) | omega | (simp_all; done)
      · -- b26: False
        refine FJ.skip ?_
        refine FJ.then_ ?_
        refine FJ.seq ?_
        refine FJ.region ?_
        refine FJ.er (.s (.s (.s (.s (.s (.s (.s (.s (.s (.s (.s (.s (.s (.s (.s (.s (.s (.s (.s (.s (.s (.s (.s (.s .z)))))))))))))))))))))))) ?_
        refine FJ.q (goes_list rfl) rfl (by decide) rfl (q_assign rfl .c) ?_
        refine FJ.nil ?_
        refine FJ.then_ ?_
        refine FJ.ret ?_
        refine FJ.doneS (res1 rfl .z) .n ?_
        exact ⟨rfl, rfl⟩

end Go.Proofs.Ytoaebcjjfojfeaa

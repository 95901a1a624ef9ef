/- What is proved: contracts of functions, one a function. No condition. -/
import Derived.Test.YtoaebcjjfojfeaaW12
import Derived.Test.YtoaebcjjfojfeaaW7
import Derived.Test.YtoaebcjjfojfeaaMCount2
namespace Go.Proofs.Ytoaebcjjfojfeaa
open Go Go.RowKit
set_option linter.unusedVariables false
set_option linter.unusedSimpArgs false
set_option maxHeartbeats 1000000 in
set_option maxRecDepth 20000 in
theorem c_11 {w0 : World} {S0 : Bs} {x : (List DInode)} {v0 : Value} (h0 : kSl_25.ro w0 (FF w0 S0) x [v0])  :
    Calls Try.prog 11 #[v0] w0 (TriPost w0 S0 (fun r l => r = .bool true ∧ l = [])) := by
  obtain ⟨A0, c0, rfl, hl0, hm0, hb0, he0⟩ := ro_form h0
  have hb := usedR_cnt x
  have hw := inodes_cnt_wt x
  refine FJ.enter (N := 69) Try.func11 rfl rfl (by simp) [(0, .slice A0 x.length c0)] (by simp) (l0 := []) trivial ?_
  refine FJ.seq ?_
  refine FJ.region ?_
  refine FJ.q (goes_list rfl) rfl (by decide) rfl (q_assign rfl .c) ?_
  refine FJ.nil ?_
  refine FJ.then_ ?_
  refine FJ.seq ?_
  refine FJ.region ?_
  refine FJ.q (goes_list rfl) rfl (by decide) rfl (q_assign rfl .c) ?_
  refine FJ.nil ?_
  refine FJ.then_ ?_
  refine FJ.seq ?_
  refine FJ.region ?_
  refine FJ.q (goes_list rfl) rfl (by decide) rfl (q_move rfl (.t (.s (.s .z)))) ?_
  refine FJ.q (goes_list rfl) rfl (by decide) rfl (q_move rfl (.t (.s .z))) ?_
  refine FJ.call (goes_list rfl) rfl (by decide) rfl (c_call rfl Try.func27 rfl rfl (args2 (.t (.s .z)) (.t .z))) .n (fun w1 S1 hs tr => c_27 (tr.ctx h0) _ (by omega) (by omega)) ?_
  rintro _ _ ⟨c2, rfl, hc2, wc2, rfl⟩
  refine FJ.cat .n ?_
  refine FJ.er (.s (.s (.s .z))) ?_
  refine FJ.q (goes_list rfl) rfl (by decide) rfl (q_assign rfl (.t .z)) ?_
  refine FJ.nil ?_
  refine FJ.then_ ?_
  refine FJ.seq ?_
  refine FJ.seq ?_
  refine FJ.region ?_
  refine FJ.q (goes_list rfl) rfl (by decide) rfl (q_move rfl (.t .z)) ?_
  refine FJ.q (goes_list rfl) rfl (by decide) rfl (q_lss rfl (.t .z) .c) ?_
  refine FJ.nil ?_
  refine FJ.then_ ?_
  refine FJ.condP (.t .z) (fun b3 => ?_) (fun b3 => ?_)
  · -- b3: True
    refine FJ.seq ?_
    refine FJ.region ?_
    refine FJ.er (.s (.s (.s (.s (.s (.s .z)))))) ?_
    refine FJ.q (goes_list rfl) rfl (by decide) rfl (q_assign rfl .c) ?_
    refine FJ.nil ?_
    refine FJ.then_ ?_
    refine FJ.ret ?_
    refine FJ.thenR ?_
    refine FJ.doneS (res1 rfl .z) .n ?_
    exact ⟨rfl, rfl⟩
  · -- b3: False
    refine FJ.skip ?_
    refine FJ.then_ ?_
    refine FJ.seq ?_
    refine FJ.region ?_
    refine FJ.q (goes_list rfl) rfl (by decide) rfl (q_move rfl (.t (.s (.s (.s (.s (.s (.s (.s .z))))))))) ?_
    refine FJ.call (goes_list rfl) rfl (by decide) rfl (c_call rfl Try.func29 rfl rfl (args1 (.t .z))) .n (fun w1 S1 hs tr => c_29 (tr.ctx h0)) ?_
    rintro _ _ rfl
    refine FJ.cat (.c .n) ?_
    refine FJ.know (WS.oform .z) ?_
    rintro ⟨Ao5, co5, rfl, hlo5, hmo5, hbo5⟩
    refine FJ.call (goes_list rfl) rfl (by decide) rfl (c_call rfl Try.func54 rfl rfl (args1 (.t .z))) .n (fun w1 S1 hs tr => c_54 (tr.own .z)) ?_
    rintro _ _ ⟨v6, rfl, rfl⟩
    refine FJ.cat (.c .n) ?_
    refine FJ.know (WS.oform .z) ?_
    rintro ⟨Ao8, co8, rfl, hlo8, hmo8, hbo8⟩
    refine FJ.e (goes_list rfl) rfl (by decide) rfl (e_alloc rfl z_57 rfl rfl) ?_
    rintro _ _ ⟨g9, rfl, rfl⟩
    refine FJ.es (goes_list rfl) rfl (es_store (off := 0) (cs := [.int .i64 ((usedR x).code), .slice Ao8 ((usedR x).list).length co8]) rfl sz_57 (.t .z) (.t (.s .z)) rfl (ones rfl) .z (Nat.le_of_ble_eq_true rfl) (.c .z (.c (.s .z) .n))) ?_
    refine FJ.nil ?_
    refine FJ.then_ ?_
    refine FJ.seq ?_
    refine FJ.region ?_
    refine FJ.q (goes_list rfl) rfl (by decide) rfl (q_move rfl (.t (.s (.s (.s (.s (.s (.s (.s (.s (.s (.s (.s .z))))))))))))) ?_
    refine FJ.call (goes_list rfl) rfl (by decide) rfl (c_call rfl Try.func29 rfl rfl (args1 (.t .z))) .n (fun w1 S1 hs tr => c_29 (tr.ctx h0)) ?_
    rintro _ _ rfl
    refine FJ.cat (.c .n) ?_
    refine FJ.know (WS.oform .z) ?_
    rintro ⟨Ao11, co11, rfl, hlo11, hmo11, hbo11⟩
    refine FJ.q (goes_list rfl) rfl (by decide) rfl (q_assign rfl (.t .z)) ?_
    refine FJ.nil ?_
    refine FJ.then_ ?_
    refine FJ.seq ?_
    refine FJ.region ?_
    refine FJ.q (goes_list rfl) rfl (by decide) rfl (q_move rfl (.t .z)) ?_
    refine FJ.call (goes_list rfl) rfl (by decide) rfl (c_call rfl Try.func55 rfl rfl (args1 (.t .z))) .n (fun w1 S1 hs tr => c_55 (tr.own .z)) ?_
    rintro _ _ ⟨v12, rfl, rfl⟩
    refine FJ.cat (.c .n) ?_
    refine FJ.know (WS.oform .z) ?_
    rintro ⟨Ao14, co14, rfl, hlo14, hmo14, hbo14⟩
    refine FJ.e (goes_list rfl) rfl (by decide) rfl (e_alloc rfl z_57 rfl rfl) ?_
    rintro _ _ ⟨g15, rfl, rfl⟩
    refine FJ.es (goes_list rfl) rfl (es_store (off := 0) (cs := [.int .i64 ((usedR x).code), .slice Ao14 ((usedR x).list).length co14]) rfl sz_57 (.t .z) (.t (.s .z)) rfl (ones rfl) .z (Nat.le_of_ble_eq_true rfl) (.c .z (.c (.s .z) .n))) ?_
    refine FJ.nil ?_
    refine FJ.then_ ?_
    refine FJ.seq ?_
    refine FJ.seq ?_
    refine FJ.region ?_
    refine FJ.q (goes_list rfl) rfl (by decide) rfl (q_loadA (cs := [.int .i64 ((usedR x).code), .slice Ao14 ((usedR x).list).length co14]) rfl ag_57 sz_57 (.t .z) (WS.rows0 .z (fun i u h => by exact h))) ?_
    refine FJ.q (goes_list rfl) rfl (by decide) rfl (q_loadA (cs := [.int .i64 ((usedR x).code), .slice Ao8 ((usedR x).list).length co8]) rfl ag_57 sz_57 (.t (.s (.s (.s (.s (.s (.s (.s .z)))))))) (WS.rows0 (.s (.s (.s .z))) (fun i u h => by exact h))) ?_
    refine FJ.call (goes_list rfl) rfl (by decide) rfl (c_call rfl Try.func37 rfl rfl (args2 (.t (.s .z)) (.t .z))) .n (fun w1 S1 hs tr => c_37 (kT_57_mk (usedR x) (tr.own (.s .z))) (kT_57_mk (usedR x) (tr.own (.s (.s (.s (.s .z))))))) ?_
    rintro _ _ ⟨rfl, rfl⟩
    refine FJ.cat .n ?_
    refine FJ.q (goes_list rfl) rfl (by decide) rfl (q_not rfl (.t .z)) ?_
    refine FJ.nil ?_
    refine FJ.then_ ?_
    refine FJ.condN (.t .z) (fun b16 => ?_) (fun b16 => ?_)
    · -- b16: True
      refine FJ.seq ?_
      refine FJ.region ?_
      refine FJ.er (.s (.s (.s (.s (.s (.s (.s (.s (.s (.s (.s (.s (.s (.s (.s (.s (.s (.s (.s (.s .z)))))))))))))))))))) ?_
      refine FJ.q (goes_list rfl) rfl (by decide) rfl (q_assign rfl .c) ?_
      refine FJ.nil ?_
      refine FJ.then_ ?_
      refine FJ.ret ?_
      refine FJ.thenR ?_
      refine FJ.doneS (res1 rfl .z) .n ?_
      exfalso; first | exact absurd rfl (by assumption) | omega | (simp_all; done)
    · -- b16: False
      refine FJ.skip ?_
      refine FJ.then_ ?_
      refine FJ.seq ?_
      refine FJ.seq ?_
      refine FJ.region ?_
      refine FJ.q (goes_list rfl) rfl (by decide) rfl (q_move rfl (.t (.s (.s (.s (.s (.s (.s (.s .z))))))))) ?_
      refine FJ.q (goes_list rfl) rfl (by decide) rfl (q_move rfl (.t (.s (.s (.s (.s (.s (.s (.s (.s (.s (.s (.s (.s (.s (.s (.s (.s (.s (.s (.s (.s (.s (.s .z)))))))))))))))))))))))) ?_
      refine FJ.call (goes_list rfl) rfl (by decide) rfl (c_call rfl Try.func29 rfl rfl (args1 (.t .z))) .n (fun w1 S1 hs tr => c_29 (tr.ctx h0)) ?_
      rintro _ _ rfl
      refine FJ.cat (.c .n) ?_
      refine FJ.know (WS.oform .z) ?_
      rintro ⟨Ao18, co18, rfl, hlo18, hmo18, hbo18⟩
      refine FJ.call (goes_list rfl) rfl (by decide) rfl (c_call rfl Try.func32 rfl rfl (args2 (.t (.s (.s .z))) (.t .z))) .n (fun w1 S1 hs tr => c_32 (tr.own (.s (.s (.s .z)))) (tr.own .z)) ?_
      rintro _ _ ⟨rfl, rfl⟩
      refine FJ.cat .n ?_
      refine FJ.q (goes_list rfl) rfl (by decide) rfl (q_not rfl (.t .z)) ?_
      refine FJ.nil ?_
      refine FJ.then_ ?_
      refine FJ.condN (.t .z) (fun b19 => ?_) (fun b19 => ?_)
      · -- b19: True
        refine FJ.seq ?_
        refine FJ.region ?_
        refine FJ.er (.s (.s (.s (.s (.s (.s (.s (.s (.s (.s (.s (.s (.s (.s (.s (.s (.s (.s (.s (.s (.s (.s (.s (.s (.s .z))))))))))))))))))))))))) ?_
        refine FJ.q (goes_list rfl) rfl (by decide) rfl (q_assign rfl .c) ?_
        refine FJ.nil ?_
        refine FJ.then_ ?_
        refine FJ.ret ?_
        refine FJ.thenR ?_
        refine FJ.doneS (res1 rfl .z) .n ?_
        exfalso; first | exact absurd rfl (by assumption) | omega | (simp_all; done)
      · -- b19: False
        refine FJ.skip ?_
        refine FJ.then_ ?_
        refine FJ.seq ?_
        refine FJ.region ?_
        refine FJ.q (goes_list rfl) rfl (by decide) rfl (q_assign rfl .c) ?_
        refine FJ.nil ?_
        refine FJ.then_ ?_
        refine FJ.seq ?_
        refine FJ.region ?_
        refine FJ.q (goes_list rfl) rfl (by decide) rfl (q_move rfl (.t (.s (.s (.s (.s (.s (.s (.s (.s (.s (.s (.s (.s (.s .z))))))))))))))) ?_
        refine FJ.q (goes_list rfl) rfl (by decide) rfl (q_move rfl (.t (.s .z))) ?_
        refine FJ.call (goes_list rfl) rfl (by decide) rfl (c_call rfl Try.func56 rfl rfl (args2 (.t (.s .z)) (.t .z))) (.c (.s (.s (.s .z))) .n) (fun w1 S1 hs tr => c_56 _ hs (by omega) (by first | omega | (omega))) ?_
        rintro _ _ ⟨rfl, rfl⟩
        refine FJ.cat (.c .n) ?_
        refine FJ.er (.s (.s (.s .z))) ?_
        refine FJ.q (goes_list rfl) rfl (by decide) rfl (q_assign rfl (.t .z)) ?_
        refine FJ.nil ?_
        refine FJ.then_ ?_
        refine FJ.seq ?_
        refine FJ.seq ?_
        refine FJ.region ?_
        refine FJ.q (goes_list rfl) rfl (by decide) rfl (q_move rfl (.t .z)) ?_
        refine FJ.q (goes_list rfl) rfl (by decide) rfl (q_lss rfl (.t .z) .c) ?_
        refine FJ.q (goes_list rfl) rfl (by decide) rfl (q_move rfl (.t .z)) ?_
        refine FJ.caseP .z (fun g20 => ?_) (fun g20 => ?_)
        · -- g20: True
          refine FJ.skipl rfl rfl .z rfl rfl (by decide) rfl ?_
          refine FJ.skipl rfl rfl (.s .z) rfl rfl (by decide) rfl ?_
          refine FJ.skipl rfl rfl (.s (.s .z)) rfl rfl (by decide) rfl ?_
          refine FJ.skipl rfl rfl (.s (.s (.s .z))) rfl rfl (by decide) rfl ?_
          refine FJ.q (goes_list rfl) rfl (by decide) rfl (q_pickT rfl (.t (.s (.s (.s (.s .z))))) .c) ?_
          refine FJ.nil ?_
          refine FJ.then_ ?_
          refine FJ.condT (.t .z) ?_
          refine FJ.seq ?_
          refine FJ.region ?_
          refine FJ.er (.s (.s (.s (.s (.s (.s (.s (.s (.s (.s (.s (.s (.s (.s (.s (.s (.s (.s (.s (.s (.s (.s (.s (.s (.s (.s (.s (.s (.s (.s (.s (.s (.s (.s (.s (.s (.s .z))))))))))))))))))))))))))))))))))))) ?_
          refine FJ.q (goes_list rfl) rfl (by decide) rfl (q_assign rfl .c) ?_
          refine FJ.nil ?_
          refine FJ.then_ ?_
          refine FJ.ret ?_
          refine FJ.thenR ?_
          refine FJ.doneS (res1 rfl .z) .n ?_
          exfalso; first | exact absurd rfl (by assumption) | omega | (simp_all; done)
        · -- g20: False
          refine FJ.q (goes_listg rfl rfl .z) rfl (by decide) rfl (q_loadA (cs := [.int .i64 ((usedR x).code), .slice Ao14 ((usedR x).list).length co14]) rfl ag_57 sz_57 (.t (.s (.s (.s (.s (.s (.s (.s (.s (.s (.s (.s (.s (.s (.s (.s (.s .z))))))))))))))))) (WS.rows0 (.s (.s .z)) (fun i u h => by exact h))) ?_
          refine FJ.q (goes_listg rfl rfl (.s .z)) rfl (by decide) rfl (q_loadA (cs := [.int .i64 ((usedR x).code), .slice Ao8 ((usedR x).list).length co8]) rfl ag_57 sz_57 (.t (.s (.s (.s (.s (.s (.s (.s (.s (.s (.s (.s (.s (.s (.s (.s (.s (.s (.s (.s (.s (.s (.s (.s .z)))))))))))))))))))))))) (WS.rows0 (.s (.s (.s (.s .z)))) (fun i u h => by exact h))) ?_
          refine FJ.call (goes_listg rfl rfl (.s (.s .z))) rfl (by decide) rfl (c_call rfl Try.func37 rfl rfl (args2 (.t (.s .z)) (.t .z))) .n (fun w1 S1 hs tr => c_37 (kT_57_mk (usedR x) (tr.own (.s (.s (.s .z))))) (kT_57_mk (usedR x) (tr.own (.s (.s (.s (.s (.s .z)))))))) ?_
          rintro _ _ ⟨rfl, rfl⟩
          refine FJ.cat .n ?_
          refine FJ.q (goes_listg rfl rfl (.s (.s (.s .z)))) rfl (by decide) rfl (q_not rfl (.t .z)) ?_
          refine FJ.q (goes_list rfl) rfl (by decide) rfl (q_pickF rfl (.t (.s (.s (.s (.s .z))))) (.t .z)) ?_
          refine FJ.nil ?_
          refine FJ.then_ ?_
          refine FJ.condN (.t .z) (fun b21 => ?_) (fun b21 => ?_)
          · -- b21: True
            refine FJ.seq ?_
            refine FJ.region ?_
            refine FJ.er (.s (.s (.s (.s (.s (.s (.s (.s (.s (.s (.s (.s (.s (.s (.s (.s (.s (.s (.s (.s (.s (.s (.s (.s (.s (.s (.s (.s (.s (.s (.s (.s (.s (.s (.s (.s (.s .z))))))))))))))))))))))))))))))))))))) ?_
            refine FJ.q (goes_list rfl) rfl (by decide) rfl (q_assign rfl .c) ?_
            refine FJ.nil ?_
            refine FJ.then_ ?_
            refine FJ.ret ?_
            refine FJ.thenR ?_
            refine FJ.doneS (res1 rfl .z) .n ?_
            exfalso; first | exact absurd rfl (by assumption) | omega | (simp_all; done)
          · -- b21: False
            refine FJ.skip ?_
            refine FJ.then_ ?_
            refine FJ.seq ?_
            refine FJ.region ?_
            refine FJ.q (goes_list rfl) rfl (by decide) rfl (q_assign rfl .c) ?_
            refine FJ.nil ?_
            refine FJ.then_ ?_
            refine FJ.seq ?_
            refine FJ.region ?_
            refine FJ.q (goes_list rfl) rfl (by decide) rfl (q_loadA (cs := [.int .i64 ((usedR x).code), .slice Ao14 ((usedR x).list).length co14]) rfl ag_57 sz_57 (.t (.s (.s (.s (.s (.s (.s (.s (.s (.s (.s (.s (.s (.s (.s (.s (.s (.s (.s (.s (.s (.s (.s .z))))))))))))))))))))))) (WS.rows0 (.s (.s .z)) (fun i u h => by exact h))) ?_
            refine FJ.q (goes_list rfl) rfl (by decide) rfl (q_move rfl (.t (.s .z))) ?_
            refine FJ.call (goes_list rfl) rfl (by decide) rfl (c_call rfl Try.func39 rfl rfl (args2 (.t (.s .z)) (.t .z))) (.c (.s (.s (.s .z))) .n) (fun w1 S1 hs tr => c_39 _ hs (by omega) (by first | omega | (omega))) ?_
            rintro _ _ ⟨rfl, rfl⟩
            refine FJ.cat (.c .n) ?_
            refine FJ.er (.s (.s (.s .z))) ?_
            refine FJ.q (goes_list rfl) rfl (by decide) rfl (q_assign rfl (.t .z)) ?_
            refine FJ.nil ?_
            refine FJ.then_ ?_
            refine FJ.seq ?_
            refine FJ.region ?_
            refine FJ.q (goes_list rfl) rfl (by decide) rfl (q_assign rfl .c) ?_
            refine FJ.nil ?_
            refine FJ.then_ ?_
            refine FJ.seq ?_
            refine FJ.region ?_
            refine FJ.q (goes_list rfl) rfl (by decide) rfl (q_loadA (cs := [.int .i64 ((usedR x).code), .slice Ao14 ((usedR x).list).length co14]) rfl ag_57 sz_57 (.t (.s (.s (.s (.s (.s (.s (.s (.s (.s (.s (.s (.s (.s (.s (.s (.s (.s (.s (.s (.s (.s (.s (.s (.s (.s (.s .z))))))))))))))))))))))))))) (WS.rows0 (.s (.s (.s .z))) (fun i u h => by exact h))) ?_
            refine FJ.q (goes_list rfl) rfl (by decide) rfl (q_move rfl (.t (.s .z))) ?_
            refine FJ.call (goes_list rfl) rfl (by decide) rfl (c_call rfl Try.func40 rfl rfl (args2 (.t (.s .z)) (.t .z))) .n (fun w1 S1 hs tr => c_40 (kT_57_mk (⟨(usedR x).code, (vmark_RInts 1 (usedR x)).list⟩ : RInts) (tr.own .z)) _ (usedR x) rfl (by omega) (by first | omega | (omega))) ?_
            rintro _ _ ⟨rfl, rfl⟩
            refine FJ.cat .n ?_
            refine FJ.er (.s (.s (.s .z))) ?_
            refine FJ.q (goes_list rfl) rfl (by decide) rfl (q_assign rfl (.t .z)) ?_
            refine FJ.nil ?_
            refine FJ.then_ ?_
            refine FJ.seq ?_
            refine FJ.seq ?_
            refine FJ.region ?_
            refine FJ.q (goes_list rfl) rfl (by decide) rfl (q_move rfl (.t .z)) ?_
            refine FJ.q (goes_list rfl) rfl (by decide) rfl (q_lss rfl (.t .z) .c) ?_
            refine FJ.nil ?_
            refine FJ.then_ ?_
            refine FJ.condP (.t .z) (fun b22 => ?_) (fun b22 => ?_)
            · -- b22: True
              refine FJ.seq ?_
              refine FJ.region ?_
              refine FJ.er (.s (.s (.s (.s (.s (.s (.s (.s (.s (.s (.s (.s (.s (.s (.s (.s (.s (.s (.s (.s (.s (.s (.s (.s (.s (.s (.s (.s (.s (.s (.s (.s (.s (.s (.s (.s (.s (.s (.s (.s (.s (.s (.s (.s (.s (.s (.s .z))))))))))))))))))))))))))))))))))))))))))))))) ?_
              refine FJ.q (goes_list rfl) rfl (by decide) rfl (q_assign rfl .c) ?_
              refine FJ.nil ?_
              refine FJ.then_ ?_
              refine FJ.ret ?_
              refine FJ.thenR ?_
              refine FJ.doneS (res1 rfl .z) .n ?_
              exfalso; first | exact absurd rfl (by assumption) | omega | (simp_all; done)
            · -- b22: False
              refine FJ.skip ?_
              refine FJ.then_ ?_
              refine FJ.seq ?_
              refine FJ.seq ?_
              refine FJ.region ?_
              refine FJ.q (goes_list rfl) rfl (by decide) rfl (q_move rfl (.t (.s (.s .z)))) ?_
              refine FJ.q (goes_list rfl) rfl (by decide) rfl (q_move rfl (.t (.s (.s (.s (.s (.s (.s (.s .z))))))))) ?_
              refine FJ.q (goes_list rfl) rfl (by decide) rfl (q_neq rfl (.t (.s .z)) (.t .z)) ?_
              refine FJ.nil ?_
              refine FJ.then_ ?_
              refine FJ.condN (.t .z) (fun b23 => ?_) (fun b23 => ?_)
              · -- b23: True
                refine FJ.seq ?_
                refine FJ.region ?_
                refine FJ.er (.s (.s (.s (.s (.s (.s (.s (.s (.s (.s (.s (.s (.s (.s (.s (.s (.s (.s (.s (.s (.s (.s (.s (.s (.s (.s (.s (.s (.s (.s (.s (.s (.s (.s (.s (.s (.s (.s (.s (.s (.s (.s (.s (.s (.s (.s (.s (.s (.s (.s .z)))))))))))))))))))))))))))))))))))))))))))))))))) ?_
                refine FJ.q (goes_list rfl) rfl (by decide) rfl (q_assign rfl .c) ?_
                refine FJ.nil ?_
                refine FJ.then_ ?_
                refine FJ.ret ?_
                refine FJ.thenR ?_
                refine FJ.doneS (res1 rfl .z) .n ?_
                exfalso; first | exact absurd rfl (by assumption) | omega | (simp_all; done)
              · -- b23: False
                refine FJ.skip ?_
                refine FJ.then_ ?_
                refine FJ.seq ?_
                refine FJ.region ?_
                refine FJ.q (goes_list rfl) rfl (by decide) rfl (q_move rfl (.t (.s (.s (.s (.s (.s (.s (.s (.s (.s (.s (.s (.s (.s (.s (.s (.s (.s (.s (.s (.s (.s (.s (.s (.s (.s (.s (.s (.s (.s (.s (.s (.s (.s (.s (.s (.s (.s (.s (.s (.s (.s (.s (.s (.s (.s (.s (.s (.s (.s (.s (.s .z))))))))))))))))))))))))))))))))))))))))))))))))))))) ?_
                refine FJ.call (goes_list rfl) rfl (by decide) rfl (c_call rfl Try.func29 rfl rfl (args1 (.t .z))) .n (fun w1 S1 hs tr => c_29 (tr.ctx h0)) ?_
                rintro _ _ rfl
                refine FJ.cat (.c .n) ?_
                refine FJ.know (WS.oform .z) ?_
                rintro ⟨Ao25, co25, rfl, hlo25, hmo25, hbo25⟩
                refine FJ.call (goes_list rfl) rfl (by decide) rfl (c_call rfl Try.func55 rfl rfl (args1 (.t .z))) .n (fun w1 S1 hs tr => c_55 (tr.own .z)) ?_
                rintro _ _ ⟨v26, rfl, rfl⟩
                refine FJ.cat (.c .n) ?_
                refine FJ.know (WS.oform .z) ?_
                rintro ⟨Ao28, co28, rfl, hlo28, hmo28, hbo28⟩
                refine FJ.e (goes_list rfl) rfl (by decide) rfl (e_alloc rfl z_57 rfl rfl) ?_
                rintro _ _ ⟨g29, rfl, rfl⟩
                refine FJ.es (goes_list rfl) rfl (es_store (off := 0) (cs := [.int .i64 ((usedR x).code), .slice Ao28 ((usedR x).list).length co28]) rfl sz_57 (.t .z) (.t (.s .z)) rfl (ones rfl) .z (Nat.le_of_ble_eq_true rfl) (.c .z (.c (.s .z) .n))) ?_
                refine FJ.nil ?_
                refine FJ.then_ ?_
                refine FJ.seq ?_
                refine FJ.seq ?_
                refine FJ.region ?_
                refine FJ.q (goes_list rfl) rfl (by decide) rfl (q_loadA (cs := [.int .i64 ((usedR x).code), .slice Ao28 ((usedR x).list).length co28]) rfl ag_57 sz_57 (.t .z) (WS.rows0 .z (fun i u h => by exact h))) ?_
                refine FJ.q (goes_list rfl) rfl (by decide) rfl (q_loadA (cs := [.int .i64 ((usedR x).code), .slice Ao8 ((usedR x).list).length co8]) rfl ag_57 sz_57 (.t (.s (.s (.s (.s (.s (.s (.s (.s (.s (.s (.s (.s (.s (.s (.s (.s (.s (.s (.s (.s (.s (.s (.s (.s (.s (.s (.s (.s (.s (.s (.s (.s (.s (.s (.s (.s (.s (.s (.s (.s (.s (.s (.s (.s (.s .z)))))))))))))))))))))))))))))))))))))))))))))) (WS.rows0 (.s (.s (.s (.s (.s (.s (.s .z))))))) (fun i u h => by exact h))) ?_
                refine FJ.call (goes_list rfl) rfl (by decide) rfl (c_call rfl Try.func37 rfl rfl (args2 (.t (.s .z)) (.t .z))) .n (fun w1 S1 hs tr => c_37 (kT_57_mk (usedR x) (tr.own (.s .z))) (kT_57_mk (usedR x) (tr.own (.s (.s (.s (.s (.s (.s (.s (.s .z))))))))))) ?_
                rintro _ _ ⟨rfl, rfl⟩
                refine FJ.cat .n ?_
                refine FJ.q (goes_list rfl) rfl (by decide) rfl (q_not rfl (.t .z)) ?_
                refine FJ.nil ?_
                refine FJ.then_ ?_
                refine FJ.condN (.t .z) (fun b30 => ?_) (fun b30 => ?_)
                · -- b30: True
                  refine FJ.seq ?_
                  refine FJ.region ?_
                  refine FJ.er (.s (.s (.s (.s (.s (.s (.s (.s (.s (.s (.s (.s (.s (.s (.s (.s (.s (.s (.s (.s (.s (.s (.s (.s (.s (.s (.s (.s (.s (.s (.s (.s (.s (.s (.s (.s (.s (.s (.s (.s (.s (.s (.s (.s (.s (.s (.s (.s (.s (.s (.s (.s (.s (.s (.s (.s (.s (.s .z)))))))))))))))))))))))))))))))))))))))))))))))))))))))))) ?_
                  refine FJ.q (goes_list rfl) rfl (by decide) rfl (q_assign rfl .c) ?_
                  refine FJ.nil ?_
                  refine FJ.then_ ?_
                  refine FJ.ret ?_
                  refine FJ.thenR ?_
                  refine FJ.doneS (res1 rfl .z) .n ?_
                  exfalso; first | exact absurd rfl (by assumption) | omega | (simp_all; done)
                · -- b30: False
                  refine FJ.skip ?_
                  refine FJ.then_ ?_
                  refine FJ.seq ?_
                  refine FJ.region ?_
                  refine FJ.er (.s (.s (.s (.s (.s (.s (.s (.s (.s (.s (.s (.s (.s .z))))))))))))) ?_
                  refine FJ.q (goes_list rfl) rfl (by decide) rfl (q_assign rfl .c) ?_
                  refine FJ.nil ?_
                  refine FJ.then_ ?_
                  refine FJ.seq ?_
                  refine FJ.region ?_
                  refine FJ.q (goes_list rfl) rfl (by decide) rfl (q_loadA (cs := [.int .i64 ((usedR x).code), .slice Ao14 ((usedR x).list).length co14]) rfl ag_57 sz_57 (.t (.s (.s (.s (.s (.s (.s (.s (.s (.s (.s (.s (.s (.s (.s (.s (.s (.s (.s (.s (.s (.s (.s (.s (.s (.s (.s (.s (.s (.s (.s (.s (.s (.s (.s (.s (.s (.s (.s (.s (.s (.s (.s .z))))))))))))))))))))))))))))))))))))))))))) (WS.rows0 (.s (.s (.s (.s (.s (.s .z)))))) (fun i u h => by exact h))) ?_
                  refine FJ.q (goes_list rfl) rfl (by decide) rfl (q_move rfl (.t (.s .z))) ?_
                  refine FJ.call (goes_list rfl) rfl (by decide) rfl (c_call rfl Try.func40 rfl rfl (args2 (.t (.s .z)) (.t .z))) .n (fun w1 S1 hs tr => c_40 (kT_57_mk (⟨(usedR x).code, (vmark_RInts 1 (usedR x)).list⟩ : RInts) (tr.own (.s (.s (.s .z))))) _ (usedR x) rfl (by omega) (by first | omega | (omega))) ?_
                  rintro _ _ ⟨rfl, rfl⟩
                  refine FJ.cat .n ?_
                  refine FJ.er (.s (.s (.s .z))) ?_
                  refine FJ.q (goes_list rfl) rfl (by decide) rfl (q_assign rfl (.t .z)) ?_
                  refine FJ.nil ?_
                  refine FJ.then_ ?_
                  refine FJ.seq ?_
                  refine FJ.seq ?_
                  refine FJ.region ?_
                  refine FJ.q (goes_list rfl) rfl (by decide) rfl (q_move rfl (.t .z)) ?_
                  refine FJ.q (goes_list rfl) rfl (by decide) rfl (q_lss rfl (.t .z) .c) ?_
                  refine FJ.nil ?_
                  refine FJ.then_ ?_
                  refine FJ.condP (.t .z) (fun b31 => ?_) (fun b31 => ?_)
                  · -- b31: True
                    refine FJ.seq ?_
                    refine FJ.region ?_
                    refine FJ.er (.s (.s (.s (.s (.s (.s (.s (.s (.s (.s (.s (.s (.s (.s (.s (.s (.s (.s (.s (.s (.s (.s (.s (.s (.s (.s (.s (.s (.s (.s (.s (.s (.s (.s (.s (.s (.s (.s (.s (.s (.s (.s (.s (.s (.s (.s (.s (.s (.s (.s (.s (.s (.s (.s (.s (.s (.s (.s (.s (.s (.s (.s (.s .z))))))))))))))))))))))))))))))))))))))))))))))))))))))))))))))) ?_
                    refine FJ.q (goes_list rfl) rfl (by decide) rfl (q_assign rfl .c) ?_
                    refine FJ.nil ?_
                    refine FJ.then_ ?_
                    refine FJ.ret ?_
                    refine FJ.thenR ?_
                    refine FJ.doneS (res1 rfl .z) .n ?_
                    exfalso; first | exact absurd rfl (by assumption) | omega | (simp_all; done)
                  · -- b31: False
                    refine FJ.skip ?_
                    refine FJ.then_ ?_
                    refine FJ.seq ?_
                    refine FJ.seq ?_
                    refine FJ.region ?_
                    refine FJ.q (goes_list rfl) rfl (by decide) rfl (q_move rfl (.t (.s (.s .z)))) ?_
                    refine FJ.q (goes_list rfl) rfl (by decide) rfl (q_move rfl (.t (.s (.s (.s (.s (.s (.s (.s (.s (.s (.s (.s (.s (.s (.s (.s (.s (.s (.s (.s (.s (.s (.s (.s .z))))))))))))))))))))))))) ?_
                    refine FJ.q (goes_list rfl) rfl (by decide) rfl (q_neq rfl (.t (.s .z)) (.t .z)) ?_
                    refine FJ.nil ?_
                    refine FJ.then_ ?_
                    refine FJ.condN (.t .z) (fun b32 => ?_) (fun b32 => ?_)
                    · -- b32: True
                      refine FJ.seq ?_
                      refine FJ.region ?_
                      refine FJ.er (.s (.s (.s (.s (.s (.s (.s (.s (.s (.s (.s (.s (.s (.s (.s (.s (.s (.s (.s (.s (.s (.s (.s (.s (.s (.s (.s (.s (.s (.s (.s (.s (.s (.s (.s (.s (.s (.s (.s (.s (.s (.s (.s (.s (.s (.s (.s (.s (.s (.s (.s (.s (.s (.s (.s (.s (.s (.s (.s (.s (.s (.s (.s (.s (.s (.s .z)))))))))))))))))))))))))))))))))))))))))))))))))))))))))))))))))) ?_
                      refine FJ.q (goes_list rfl) rfl (by decide) rfl (q_assign rfl .c) ?_
                      refine FJ.nil ?_
                      refine FJ.then_ ?_
                      refine FJ.ret ?_
                      refine FJ.thenR ?_
                      refine FJ.doneS (res1 rfl .z) .n ?_
                      exfalso; first | exact absurd rfl (by assumption) | omega | (simp_all; done)
                    · -- b32: False
                      refine FJ.skip ?_
                      refine FJ.then_ ?_
                      refine FJ.seq ?_
                      refine FJ.region ?_
                      refine FJ.er (.s (.s (.s (.s (.s (.s (.s (.s (.s (.s (.s (.s (.s (.s (.s (.s (.s (.s (.s (.s (.s (.s (.s (.s (.s (.s (.s (.s (.s (.s (.s (.s (.s (.s (.s (.s (.s (.s (.s (.s (.s (.s (.s (.s (.s (.s (.s (.s (.s (.s (.s (.s (.s (.s (.s (.s (.s (.s (.s (.s (.s (.s (.s (.s (.s (.s .z)))))))))))))))))))))))))))))))))))))))))))))))))))))))))))))))))) ?_
                      refine FJ.q (goes_list rfl) rfl (by decide) rfl (q_assign rfl .c) ?_
                      refine FJ.nil ?_
                      refine FJ.then_ ?_
                      refine FJ.ret ?_
                      refine FJ.doneS (res1 rfl .z) .n ?_
                      exact ⟨rfl, rfl⟩

end Go.Proofs.Ytoaebcjjfojfeaa

/- What is proved: contracts of functions, one a function. No condition. -/
import Derived.Test.YtoaebcjjfojfeaaW12
import Derived.Test.YtoaebcjjfojfeaaW7
import Derived.Test.YtoaebcjjfojfeaaMCount2
namespace Go.Proofs.Ytoaebcjjfojfeaa
open Go Go.RowKit
set_option linter.unusedVariables false
set_option linter.unusedSimpArgs false
set_option maxHeartbeats 1000000 in
set_option maxRecDepth 20000 in
theorem c_14 {w0 : World} {S0 : Bs} {x : (List DInode)} {v0 : Value} (h0 : kSl_25.ro w0 (FF w0 S0) x [v0]) {b : (List Int)} {v1 : Value} (h1 : kSl_2.ro w0 (FF w0 S0) b [v1]) (n : Int)  :
    Calls Try.prog 14 #[v0, v1, .int .i64 n] w0 (TriPost w0 S0 (fun r l => r = .bool true ∧ l = [])) := by
  obtain ⟨A0, c0, rfl, hl0, hm0, hb0, he0⟩ := ro_form h0
  obtain ⟨A1, c1, rfl, hl1, hm1, hb1, he1⟩ := ro_form h1
  have hb := pickR_cnt x b n
  have hw := inodes_cnt_wt x
  refine FJ.enter (N := 95) Try.func14 rfl rfl (by simp) [(0, .slice A0 x.length c0), (1, .slice A1 b.length c1), (2, .int .i64 n)] (by simp) (l0 := []) trivial ?_
  refine FJ.seq ?_
  refine FJ.region ?_
  refine FJ.q (goes_list rfl) rfl (by decide) rfl (q_assign rfl .c) ?_
  refine FJ.nil ?_
  refine FJ.then_ ?_
  refine FJ.seq ?_
  refine FJ.seq ?_
  refine FJ.region ?_
  refine FJ.q (goes_list rfl) rfl (by decide) rfl (q_move rfl (.t (.s (.s .z)))) ?_
  refine FJ.q (goes_list rfl) rfl (by decide) rfl (q_len rfl u_22 (.t .z)) ?_
  refine FJ.q (goes_list rfl) rfl (by decide) rfl (q_gtr rfl (.t .z) .c) ?_
  refine FJ.nil ?_
  refine FJ.then_ ?_
  refine FJ.condP (.t .z) (fun b3 => ?_) (fun b3 => ?_)
  · -- b3: True
    refine FJ.seq ?_
    refine FJ.region ?_
    refine FJ.er (.s (.s (.s .z))) ?_
    refine FJ.q (goes_list rfl) rfl (by decide) rfl (q_assign rfl .c) ?_
    refine FJ.nil ?_
    refine FJ.then_ ?_
    refine FJ.ret ?_
    refine FJ.thenR ?_
    refine FJ.doneS (res1 rfl .z) .n ?_
    exact ⟨rfl, rfl⟩
  · -- b3: False
    refine FJ.skip ?_
    refine FJ.then_ ?_
    refine FJ.seq ?_
    refine FJ.region ?_
    refine FJ.q (goes_list rfl) rfl (by decide) rfl (q_assign rfl .c) ?_
    refine FJ.nil ?_
    refine FJ.then_ ?_
    refine FJ.seq ?_
    refine FJ.region ?_
    refine FJ.q (goes_list rfl) rfl (by decide) rfl (q_move rfl (.t (.s (.s (.s (.s (.s .z))))))) ?_
    refine FJ.q (goes_list rfl) rfl (by decide) rfl (q_move rfl (.t (.s .z))) ?_
    refine FJ.call (goes_list rfl) rfl (by decide) rfl (c_call rfl Try.func27 rfl rfl (args2 (.t (.s .z)) (.t .z))) .n (fun w1 S1 hs tr => c_27 (tr.ctx h0) _ (by omega) (by omega)) ?_
    rintro _ _ ⟨c4, rfl, hc4, wc4, rfl⟩
    refine FJ.cat .n ?_
    refine FJ.er (.s (.s (.s .z))) ?_
    refine FJ.q (goes_list rfl) rfl (by decide) rfl (q_assign rfl (.t .z)) ?_
    refine FJ.nil ?_
    refine FJ.then_ ?_
    refine FJ.seq ?_
    refine FJ.seq ?_
    refine FJ.region ?_
    refine FJ.q (goes_list rfl) rfl (by decide) rfl (q_move rfl (.t .z)) ?_
    refine FJ.q (goes_list rfl) rfl (by decide) rfl (q_lss rfl (.t .z) .c) ?_
    refine FJ.nil ?_
    refine FJ.then_ ?_
    refine FJ.condP (.t .z) (fun b5 => ?_) (fun b5 => ?_)
    · -- b5: True
      refine FJ.seq ?_
      refine FJ.region ?_
      refine FJ.er (.s (.s (.s (.s (.s (.s (.s (.s (.s .z))))))))) ?_
      refine FJ.q (goes_list rfl) rfl (by decide) rfl (q_assign rfl .c) ?_
      refine FJ.nil ?_
      refine FJ.then_ ?_
      refine FJ.ret ?_
      refine FJ.thenR ?_
      refine FJ.doneS (res1 rfl .z) .n ?_
      exact ⟨rfl, rfl⟩
    · -- b5: False
      refine FJ.skip ?_
      refine FJ.then_ ?_
      refine FJ.seq ?_
      refine FJ.region ?_
      refine FJ.q (goes_list rfl) rfl (by decide) rfl (q_move rfl (.t (.s (.s (.s (.s (.s (.s (.s (.s (.s (.s .z)))))))))))) ?_
      refine FJ.call (goes_list rfl) rfl (by decide) rfl (c_call rfl Try.func29 rfl rfl (args1 (.t .z))) .n (fun w1 S1 hs tr => c_29 (tr.ctx h0)) ?_
      rintro _ _ rfl
      refine FJ.cat (.c .n) ?_
      refine FJ.know (WS.oform .z) ?_
      rintro ⟨Ao7, co7, rfl, hlo7, hmo7, hbo7⟩
      refine FJ.q (goes_list rfl) rfl (by decide) rfl (q_move rfl (.t (.s (.s (.s (.s (.s (.s (.s (.s (.s (.s (.s (.s (.s .z))))))))))))))) ?_
      refine FJ.call (goes_list rfl) rfl (by decide) rfl (c_call rfl Try.func48 rfl rfl (args1 (.t .z))) .n (fun w1 S1 hs tr => c_48 (tr.ctx h1)) ?_
      rintro _ _ rfl
      refine FJ.cat (.c .n) ?_
      refine FJ.know (WS.oform .z) ?_
      rintro ⟨Ao9, co9, rfl, hlo9, hmo9, hbo9⟩
      refine FJ.q (goes_list rfl) rfl (by decide) rfl (q_move rfl (.t (.s (.s (.s (.s (.s (.s (.s (.s (.s (.s (.s (.s (.s (.s (.s (.s .z)))))))))))))))))) ?_
      refine FJ.call (goes_list rfl) rfl (by decide) rfl (c_call rfl Try.func61 rfl rfl (args3 (.t (.s (.s (.s .z)))) (.t (.s .z)) (.t .z))) .n (fun w1 S1 hs tr => c_61 (tr.own (.s .z)) (tr.own .z) _) ?_
      rintro _ _ ⟨v10, rfl, rfl⟩
      refine FJ.cat (.c .n) ?_
      refine FJ.know (WS.oform .z) ?_
      rintro ⟨Ao12, co12, rfl, hlo12, hmo12, hbo12⟩
      refine FJ.e (goes_list rfl) rfl (by decide) rfl (e_alloc rfl z_57 rfl rfl) ?_
      rintro _ _ ⟨g13, rfl, rfl⟩
      refine FJ.es (goes_list rfl) rfl (es_store (off := 0) (cs := [.int .i64 ((pickR x b n).code), .slice Ao12 ((pickR x b n).list).length co12]) rfl sz_57 (.t .z) (.t (.s .z)) rfl (ones rfl) .z (Nat.le_of_ble_eq_true rfl) (.c .z (.c (.s .z) .n))) ?_
      refine FJ.nil ?_
      refine FJ.then_ ?_
      refine FJ.seq ?_
      refine FJ.region ?_
      refine FJ.q (goes_list rfl) rfl (by decide) rfl (q_move rfl (.t (.s (.s (.s (.s (.s (.s (.s (.s (.s (.s (.s (.s (.s (.s (.s (.s (.s .z))))))))))))))))))) ?_
      refine FJ.call (goes_list rfl) rfl (by decide) rfl (c_call rfl Try.func29 rfl rfl (args1 (.t .z))) .n (fun w1 S1 hs tr => c_29 (tr.ctx h0)) ?_
      rintro _ _ rfl
      refine FJ.cat (.c .n) ?_
      refine FJ.know (WS.oform .z) ?_
      rintro ⟨Ao15, co15, rfl, hlo15, hmo15, hbo15⟩
      refine FJ.q (goes_list rfl) rfl (by decide) rfl (q_assign rfl (.t .z)) ?_
      refine FJ.nil ?_
      refine FJ.then_ ?_
      refine FJ.seq ?_
      refine FJ.region ?_
      refine FJ.q (goes_list rfl) rfl (by decide) rfl (q_move rfl (.t (.s (.s (.s (.s (.s (.s (.s (.s (.s (.s (.s (.s (.s (.s (.s (.s (.s (.s (.s (.s (.s .z))))))))))))))))))))))) ?_
      refine FJ.call (goes_list rfl) rfl (by decide) rfl (c_call rfl Try.func48 rfl rfl (args1 (.t .z))) .n (fun w1 S1 hs tr => c_48 (tr.ctx h1)) ?_
      rintro _ _ rfl
      refine FJ.cat (.c .n) ?_
      refine FJ.know (WS.oform .z) ?_
      rintro ⟨Ao17, co17, rfl, hlo17, hmo17, hbo17⟩
      refine FJ.q (goes_list rfl) rfl (by decide) rfl (q_assign rfl (.t .z)) ?_
      refine FJ.nil ?_
      refine FJ.then_ ?_
      refine FJ.seq ?_
      refine FJ.region ?_
      refine FJ.q (goes_list rfl) rfl (by decide) rfl (q_move rfl (.t (.s (.s (.s .z))))) ?_
      refine FJ.q (goes_list rfl) rfl (by decide) rfl (q_move rfl (.t (.s .z))) ?_
      refine FJ.q (goes_list rfl) rfl (by decide) rfl (q_move rfl (.t (.s (.s (.s (.s (.s (.s (.s (.s (.s (.s (.s (.s (.s (.s (.s (.s (.s (.s (.s (.s (.s (.s (.s (.s (.s (.s (.s .z))))))))))))))))))))))))))))) ?_
      refine FJ.call (goes_list rfl) rfl (by decide) rfl (c_call rfl Try.func60 rfl rfl (args3 (.t (.s (.s .z))) (.t (.s .z)) (.t .z))) .n (fun w1 S1 hs tr => c_60 (tr.own (.s .z)) (tr.own .z) _) ?_
      rintro _ _ ⟨v18, rfl, rfl⟩
      refine FJ.cat (.c .n) ?_
      refine FJ.know (WS.oform .z) ?_
      rintro ⟨Ao20, co20, rfl, hlo20, hmo20, hbo20⟩
      refine FJ.e (goes_list rfl) rfl (by decide) rfl (e_alloc rfl z_57 rfl rfl) ?_
      rintro _ _ ⟨g21, rfl, rfl⟩
      refine FJ.es (goes_list rfl) rfl (es_store (off := 0) (cs := [.int .i64 ((pickR x b n).code), .slice Ao20 ((pickR x b n).list).length co20]) rfl sz_57 (.t .z) (.t (.s .z)) rfl (ones rfl) .z (Nat.le_of_ble_eq_true rfl) (.c .z (.c (.s .z) .n))) ?_
      refine FJ.nil ?_
      refine FJ.then_ ?_
      refine FJ.seq ?_
      refine FJ.seq ?_
      refine FJ.region ?_
      refine FJ.q (goes_list rfl) rfl (by decide) rfl (q_loadA (cs := [.int .i64 ((pickR x b n).code), .slice Ao20 ((pickR x b n).list).length co20]) rfl ag_57 sz_57 (.t .z) (WS.rows0 .z (fun i u h => by exact h))) ?_
      refine FJ.q (goes_list rfl) rfl (by decide) rfl (q_loadA (cs := [.int .i64 ((pickR x b n).code), .slice Ao12 ((pickR x b n).list).length co12]) rfl ag_57 sz_57 (.t (.s (.s (.s (.s (.s (.s (.s (.s (.s (.s (.s (.s .z))))))))))))) (WS.rows0 (.s (.s (.s (.s .z)))) (fun i u h => by exact h))) ?_
      refine FJ.call (goes_list rfl) rfl (by decide) rfl (c_call rfl Try.func37 rfl rfl (args2 (.t (.s .z)) (.t .z))) .n (fun w1 S1 hs tr => c_37 (kT_57_mk (pickR x b n) (tr.own (.s .z))) (kT_57_mk (pickR x b n) (tr.own (.s (.s (.s (.s (.s .z)))))))) ?_
      rintro _ _ ⟨rfl, rfl⟩
      refine FJ.cat .n ?_
      refine FJ.q (goes_list rfl) rfl (by decide) rfl (q_not rfl (.t .z)) ?_
      refine FJ.nil ?_
      refine FJ.then_ ?_
      refine FJ.condN (.t .z) (fun b22 => ?_) (fun b22 => ?_)
      · -- b22: True
        refine FJ.seq ?_
        refine FJ.region ?_
        refine FJ.er (.s (.s (.s (.s (.s (.s (.s (.s (.s (.s (.s (.s (.s (.s (.s (.s (.s (.s (.s (.s (.s (.s (.s (.s (.s (.s (.s (.s (.s (.s (.s .z))))))))))))))))))))))))))))))) ?_
        refine FJ.q (goes_list rfl) rfl (by decide) rfl (q_assign rfl .c) ?_
        refine FJ.nil ?_
        refine FJ.then_ ?_
        refine FJ.ret ?_
        refine FJ.thenR ?_
        refine FJ.doneS (res1 rfl .z) .n ?_
        exfalso; first | exact absurd rfl (by assumption) | omega | (simp_all; done)
      · -- b22: False
        refine FJ.skip ?_
        refine FJ.then_ ?_
        refine FJ.seq ?_
        refine FJ.seq ?_
        refine FJ.region ?_
        refine FJ.q (goes_list rfl) rfl (by decide) rfl (q_move rfl (.t (.s (.s (.s (.s (.s (.s (.s (.s (.s (.s (.s (.s .z)))))))))))))) ?_
        refine FJ.q (goes_list rfl) rfl (by decide) rfl (q_move rfl (.t (.s (.s (.s (.s (.s (.s (.s (.s (.s (.s (.s (.s (.s (.s (.s (.s (.s (.s (.s (.s (.s (.s (.s (.s (.s (.s (.s (.s (.s (.s (.s (.s (.s .z))))))))))))))))))))))))))))))))))) ?_
        refine FJ.call (goes_list rfl) rfl (by decide) rfl (c_call rfl Try.func29 rfl rfl (args1 (.t .z))) .n (fun w1 S1 hs tr => c_29 (tr.ctx h0)) ?_
        rintro _ _ rfl
        refine FJ.cat (.c .n) ?_
        refine FJ.know (WS.oform .z) ?_
        rintro ⟨Ao24, co24, rfl, hlo24, hmo24, hbo24⟩
        refine FJ.call (goes_list rfl) rfl (by decide) rfl (c_call rfl Try.func32 rfl rfl (args2 (.t (.s (.s .z))) (.t .z))) .n (fun w1 S1 hs tr => c_32 (tr.own (.s (.s (.s (.s .z))))) (tr.own .z)) ?_
        rintro _ _ ⟨rfl, rfl⟩
        refine FJ.cat .n ?_
        refine FJ.q (goes_list rfl) rfl (by decide) rfl (q_not rfl (.t .z)) ?_
        refine FJ.nil ?_
        refine FJ.then_ ?_
        refine FJ.condN (.t .z) (fun b25 => ?_) (fun b25 => ?_)
        · -- b25: True
          refine FJ.seq ?_
          refine FJ.region ?_
          refine FJ.er (.s (.s (.s (.s (.s (.s (.s (.s (.s (.s (.s (.s (.s (.s (.s (.s (.s (.s (.s (.s (.s (.s (.s (.s (.s (.s (.s (.s (.s (.s (.s (.s (.s (.s (.s (.s .z)))))))))))))))))))))))))))))))))))) ?_
          refine FJ.q (goes_list rfl) rfl (by decide) rfl (q_assign rfl .c) ?_
          refine FJ.nil ?_
          refine FJ.then_ ?_
          refine FJ.ret ?_
          refine FJ.thenR ?_
          refine FJ.doneS (res1 rfl .z) .n ?_
          exfalso; first | exact absurd rfl (by assumption) | omega | (simp_all; done)
        · -- b25: False
          refine FJ.skip ?_
          refine FJ.then_ ?_
          refine FJ.seq ?_
          refine FJ.seq ?_
          refine FJ.region ?_
          refine FJ.q (goes_list rfl) rfl (by decide) rfl (q_move rfl (.t (.s (.s (.s (.s (.s (.s (.s (.s (.s (.s (.s (.s (.s (.s .z)))))))))))))))) ?_
          refine FJ.q (goes_list rfl) rfl (by decide) rfl (q_move rfl (.t (.s (.s (.s (.s (.s (.s (.s (.s (.s (.s (.s (.s (.s (.s (.s (.s (.s (.s (.s (.s (.s (.s (.s (.s (.s (.s (.s (.s (.s (.s (.s (.s (.s (.s (.s (.s (.s (.s (.s .z))))))))))))))))))))))))))))))))))))))))) ?_
          refine FJ.call (goes_list rfl) rfl (by decide) rfl (c_call rfl Try.func48 rfl rfl (args1 (.t .z))) .n (fun w1 S1 hs tr => c_48 (tr.ctx h1)) ?_
          rintro _ _ rfl
          refine FJ.cat (.c .n) ?_
          refine FJ.know (WS.oform .z) ?_
          rintro ⟨Ao27, co27, rfl, hlo27, hmo27, hbo27⟩
          refine FJ.call (goes_list rfl) rfl (by decide) rfl (c_call rfl Try.func50 rfl rfl (args2 (.t (.s (.s .z))) (.t .z))) .n (fun w1 S1 hs tr => c_50 (tr.own (.s (.s (.s (.s .z))))) (tr.own .z)) ?_
          rintro _ _ ⟨rfl, rfl⟩
          refine FJ.cat .n ?_
          refine FJ.q (goes_list rfl) rfl (by decide) rfl (q_not rfl (.t .z)) ?_
          refine FJ.nil ?_
          refine FJ.then_ ?_
          refine FJ.condN (.t .z) (fun b28 => ?_) (fun b28 => ?_)
          · -- b28: True
            refine FJ.seq ?_
            refine FJ.region ?_
            refine FJ.er (.s (.s (.s (.s (.s (.s (.s (.s (.s (.s (.s (.s (.s (.s (.s (.s (.s (.s (.s (.s (.s (.s (.s (.s (.s (.s (.s (.s (.s (.s (.s (.s (.s (.s (.s (.s (.s (.s (.s (.s (.s .z))))))))))))))))))))))))))))))))))))))))) ?_
            refine FJ.q (goes_list rfl) rfl (by decide) rfl (q_assign rfl .c) ?_
            refine FJ.nil ?_
            refine FJ.then_ ?_
            refine FJ.ret ?_
            refine FJ.thenR ?_
            refine FJ.doneS (res1 rfl .z) .n ?_
            exfalso; first | exact absurd rfl (by assumption) | omega | (simp_all; done)
          · -- b28: False
            refine FJ.skip ?_
            refine FJ.then_ ?_
            refine FJ.seq ?_
            refine FJ.region ?_
            refine FJ.q (goes_list rfl) rfl (by decide) rfl (q_assign rfl .c) ?_
            refine FJ.nil ?_
            refine FJ.then_ ?_
            refine FJ.seq ?_
            refine FJ.region ?_
            refine FJ.q (goes_list rfl) rfl (by decide) rfl (q_move rfl (.t (.s (.s (.s (.s (.s (.s (.s (.s (.s (.s (.s (.s (.s (.s (.s (.s (.s (.s (.s (.s (.s (.s (.s .z))))))))))))))))))))))))) ?_
            refine FJ.q (goes_list rfl) rfl (by decide) rfl (q_move rfl (.t (.s .z))) ?_
            refine FJ.call (goes_list rfl) rfl (by decide) rfl (c_call rfl Try.func56 rfl rfl (args2 (.t (.s .z)) (.t .z))) (.c (.s (.s (.s (.s (.s .z))))) .n) (fun w1 S1 hs tr => c_56 _ hs (by omega) (by first | omega | (omega))) ?_
            rintro _ _ ⟨rfl, rfl⟩
            refine FJ.cat (.c .n) ?_
            refine FJ.er (.s (.s (.s .z))) ?_
            refine FJ.q (goes_list rfl) rfl (by decide) rfl (q_assign rfl (.t .z)) ?_
            refine FJ.nil ?_
            refine FJ.then_ ?_
            refine FJ.seq ?_
            refine FJ.region ?_
            refine FJ.q (goes_list rfl) rfl (by decide) rfl (q_move rfl (.t (.s (.s (.s (.s (.s (.s (.s (.s (.s (.s (.s (.s (.s (.s (.s (.s (.s (.s (.s (.s (.s (.s (.s .z))))))))))))))))))))))))) ?_
            refine FJ.q (goes_list rfl) rfl (by decide) rfl (q_move rfl (.t (.s .z))) ?_
            refine FJ.call (goes_list rfl) rfl (by decide) rfl (c_call rfl Try.func51 rfl rfl (args2 (.t (.s .z)) (.t .z))) (.c (.s (.s (.s (.s (.s .z))))) .n) (fun w1 S1 hs tr => c_51 _ hs (by omega) (by first | omega | (omega))) ?_
            rintro _ _ ⟨rfl, rfl⟩
            refine FJ.cat (.c .n) ?_
            refine FJ.er (.s (.s (.s .z))) ?_
            refine FJ.q (goes_list rfl) rfl (by decide) rfl (q_assign rfl (.t .z)) ?_
            refine FJ.nil ?_
            refine FJ.then_ ?_
            refine FJ.seq ?_
            refine FJ.seq ?_
            refine FJ.region ?_
            refine FJ.q (goes_list rfl) rfl (by decide) rfl (q_move rfl (.t .z)) ?_
            refine FJ.q (goes_list rfl) rfl (by decide) rfl (q_lss rfl (.t .z) .c) ?_
            refine FJ.q (goes_list rfl) rfl (by decide) rfl (q_move rfl (.t .z)) ?_
            refine FJ.caseP .z (fun g29 => ?_) (fun g29 => ?_)
            · -- g29: True
              refine FJ.skipl rfl rfl .z rfl rfl (by decide) rfl ?_
              refine FJ.skipl rfl rfl (.s .z) rfl rfl (by decide) rfl ?_
              refine FJ.skipl rfl rfl (.s (.s .z)) rfl rfl (by decide) rfl ?_
              refine FJ.skipl rfl rfl (.s (.s (.s .z))) rfl rfl (by decide) rfl ?_
              refine FJ.q (goes_list rfl) rfl (by decide) rfl (q_pickT rfl (.t (.s (.s (.s (.s .z))))) .c) ?_
              refine FJ.nil ?_
              refine FJ.then_ ?_
              refine FJ.condT (.t .z) ?_
              refine FJ.seq ?_
              refine FJ.region ?_
              refine FJ.er (.s (.s (.s (.s (.s (.s (.s (.s (.s (.s (.s (.s (.s (.s (.s (.s (.s (.s (.s (.s (.s (.s (.s (.s (.s (.s (.s (.s (.s (.s (.s (.s (.s (.s (.s (.s (.s (.s (.s (.s (.s (.s (.s (.s (.s (.s (.s (.s (.s (.s (.s (.s (.s (.s (.s (.s .z)))))))))))))))))))))))))))))))))))))))))))))))))))))))) ?_
              refine FJ.q (goes_list rfl) rfl (by decide) rfl (q_assign rfl .c) ?_
              refine FJ.nil ?_
              refine FJ.then_ ?_
              refine FJ.ret ?_
              refine FJ.thenR ?_
              refine FJ.doneS (res1 rfl .z) .n ?_
              exfalso; first | exact absurd rfl (by assumption) | omega | (simp_all; done)
            · -- g29: False
              refine FJ.q (goes_listg rfl rfl .z) rfl (by decide) rfl (q_loadA (cs := [.int .i64 ((pickR x b n).code), .slice Ao20 ((pickR x b n).list).length co20]) rfl ag_57 sz_57 (.t (.s (.s (.s (.s (.s (.s (.s (.s (.s (.s (.s (.s (.s (.s (.s (.s (.s (.s (.s (.s (.s (.s (.s (.s .z))))))))))))))))))))))))) (WS.rows0 (.s (.s (.s (.s .z)))) (fun i u h => by exact h))) ?_
              refine FJ.q (goes_listg rfl rfl (.s .z)) rfl (by decide) rfl (q_loadA (cs := [.int .i64 ((pickR x b n).code), .slice Ao12 ((pickR x b n).list).length co12]) rfl ag_57 sz_57 (.t (.s (.s (.s (.s (.s (.s (.s (.s (.s (.s (.s (.s (.s (.s (.s (.s (.s (.s (.s (.s (.s (.s (.s (.s (.s (.s (.s (.s (.s (.s (.s (.s (.s (.s (.s (.s .z))))))))))))))))))))))))))))))))))))) (WS.rows0 (.s (.s (.s (.s (.s (.s .z)))))) (fun i u h => by exact h))) ?_
              refine FJ.call (goes_listg rfl rfl (.s (.s .z))) rfl (by decide) rfl (c_call rfl Try.func37 rfl rfl (args2 (.t (.s .z)) (.t .z))) .n (fun w1 S1 hs tr => c_37 (kT_57_mk (pickR x b n) (tr.own (.s (.s (.s (.s (.s .z))))))) (kT_57_mk (pickR x b n) (tr.own (.s (.s (.s (.s (.s (.s (.s .z)))))))))) ?_
              rintro _ _ ⟨rfl, rfl⟩
              refine FJ.cat .n ?_
              refine FJ.q (goes_listg rfl rfl (.s (.s (.s .z)))) rfl (by decide) rfl (q_not rfl (.t .z)) ?_
              refine FJ.q (goes_list rfl) rfl (by decide) rfl (q_pickF rfl (.t (.s (.s (.s (.s .z))))) (.t .z)) ?_
              refine FJ.nil ?_
              refine FJ.then_ ?_
              refine FJ.condN (.t .z) (fun b30 => ?_) (fun b30 => ?_)
              · -- b30: True
                refine FJ.seq ?_
                refine FJ.region ?_
                refine FJ.er (.s (.s (.s (.s (.s (.s (.s (.s (.s (.s (.s (.s (.s (.s (.s (.s (.s (.s (.s (.s (.s (.s (.s (.s (.s (.s (.s (.s (.s (.s (.s (.s (.s (.s (.s (.s (.s (.s (.s (.s (.s (.s (.s (.s (.s (.s (.s (.s (.s (.s (.s (.s (.s (.s (.s (.s .z)))))))))))))))))))))))))))))))))))))))))))))))))))))))) ?_
                refine FJ.q (goes_list rfl) rfl (by decide) rfl (q_assign rfl .c) ?_
                refine FJ.nil ?_
                refine FJ.then_ ?_
                refine FJ.ret ?_
                refine FJ.thenR ?_
                refine FJ.doneS (res1 rfl .z) .n ?_
                exfalso; first | exact absurd rfl (by assumption) | omega | (simp_all; done)
              · -- b30: False
                refine FJ.skip ?_
                refine FJ.then_ ?_
                refine FJ.seq ?_
                refine FJ.region ?_
                refine FJ.q (goes_list rfl) rfl (by decide) rfl (q_assign rfl .c) ?_
                refine FJ.nil ?_
                refine FJ.then_ ?_
                refine FJ.seq ?_
                refine FJ.region ?_
                refine FJ.q (goes_list rfl) rfl (by decide) rfl (q_loadA (cs := [.int .i64 ((pickR x b n).code), .slice Ao20 ((pickR x b n).list).length co20]) rfl ag_57 sz_57 (.t (.s (.s (.s (.s (.s (.s (.s (.s (.s (.s (.s (.s (.s (.s (.s (.s (.s (.s (.s (.s (.s (.s (.s (.s (.s (.s (.s (.s (.s (.s .z))))))))))))))))))))))))))))))) (WS.rows0 (.s (.s (.s (.s .z)))) (fun i u h => by exact h))) ?_
                refine FJ.q (goes_list rfl) rfl (by decide) rfl (q_move rfl (.t (.s .z))) ?_
                refine FJ.call (goes_list rfl) rfl (by decide) rfl (c_call rfl Try.func39 rfl rfl (args2 (.t (.s .z)) (.t .z))) (.c (.s (.s (.s (.s (.s .z))))) .n) (fun w1 S1 hs tr => c_39 _ hs (by omega) (by first | omega | (omega))) ?_
                rintro _ _ ⟨rfl, rfl⟩
                refine FJ.cat (.c .n) ?_
                refine FJ.er (.s (.s (.s .z))) ?_
                refine FJ.q (goes_list rfl) rfl (by decide) rfl (q_assign rfl (.t .z)) ?_
                refine FJ.nil ?_
                refine FJ.then_ ?_
                refine FJ.seq ?_
                refine FJ.region ?_
                refine FJ.q (goes_list rfl) rfl (by decide) rfl (q_assign rfl .c) ?_
                refine FJ.nil ?_
                refine FJ.then_ ?_
                refine FJ.seq ?_
                refine FJ.region ?_
                refine FJ.q (goes_list rfl) rfl (by decide) rfl (q_loadA (cs := [.int .i64 ((pickR x b n).code), .slice Ao20 ((pickR x b n).list).length co20]) rfl ag_57 sz_57 (.t (.s (.s (.s (.s (.s (.s (.s (.s (.s (.s (.s (.s (.s (.s (.s (.s (.s (.s (.s (.s (.s (.s (.s (.s (.s (.s (.s (.s (.s (.s (.s (.s (.s (.s .z))))))))))))))))))))))))))))))))))) (WS.rows0 (.s (.s (.s (.s (.s .z))))) (fun i u h => by exact h))) ?_
                refine FJ.q (goes_list rfl) rfl (by decide) rfl (q_move rfl (.t (.s .z))) ?_
                refine FJ.call (goes_list rfl) rfl (by decide) rfl (c_call rfl Try.func40 rfl rfl (args2 (.t (.s .z)) (.t .z))) .n (fun w1 S1 hs tr => c_40 (kT_57_mk (⟨(pickR x b n).code, (vmark_RInts 1 (pickR x b n)).list⟩ : RInts) (tr.own .z)) _ (pickR x b n) rfl (by omega) (by first | omega | (omega))) ?_
                rintro _ _ ⟨rfl, rfl⟩
                refine FJ.cat .n ?_
                refine FJ.er (.s (.s (.s .z))) ?_
                refine FJ.q (goes_list rfl) rfl (by decide) rfl (q_assign rfl (.t .z)) ?_
                refine FJ.nil ?_
                refine FJ.then_ ?_
                refine FJ.seq ?_
                refine FJ.seq ?_
                refine FJ.region ?_
                refine FJ.q (goes_list rfl) rfl (by decide) rfl (q_move rfl (.t .z)) ?_
                refine FJ.q (goes_list rfl) rfl (by decide) rfl (q_lss rfl (.t .z) .c) ?_
                refine FJ.nil ?_
                refine FJ.then_ ?_
                refine FJ.condP (.t .z) (fun b31 => ?_) (fun b31 => ?_)
                · -- b31: True
                  refine FJ.seq ?_
                  refine FJ.region ?_
                  refine FJ.er (.s (.s (.s (.s (.s (.s (.s (.s (.s (.s (.s (.s (.s (.s (.s (.s (.s (.s (.s (.s (.s (.s (.s (.s (.s (.s (.s (.s (.s (.s (.s (.s (.s (.s (.s (.s (.s (.s (.s (.s (.s (.s (.s (.s (.s (.s (.s (.s (.s (.s (.s (.s (.s (.s (.s (.s (.s (.s (.s (.s (.s (.s (.s (.s (.s (.s .z)))))))))))))))))))))))))))))))))))))))))))))))))))))))))))))))))) ?_
                  refine FJ.q (goes_list rfl) rfl (by decide) rfl (q_assign rfl .c) ?_
                  refine FJ.nil ?_
                  refine FJ.then_ ?_
                  refine FJ.ret ?_
                  refine FJ.thenR ?_
                  refine FJ.doneS (res1 rfl .z) .n ?_
                  exfalso; first | exact absurd rfl (by assumption) | omega | (simp_all; done)
                · -- b31: False
                  refine FJ.skip ?_
                  refine FJ.then_ ?_
                  refine FJ.seq ?_
                  refine FJ.seq ?_
                  refine FJ.region ?_
                  refine FJ.q (goes_list rfl) rfl (by decide) rfl (q_move rfl (.t (.s (.s .z)))) ?_
                  refine FJ.q (goes_list rfl) rfl (by decide) rfl (q_move rfl (.t (.s (.s (.s (.s (.s (.s (.s .z))))))))) ?_
                  refine FJ.q (goes_list rfl) rfl (by decide) rfl (q_neq rfl (.t (.s .z)) (.t .z)) ?_
                  refine FJ.nil ?_
                  refine FJ.then_ ?_
                  refine FJ.condN (.t .z) (fun b32 => ?_) (fun b32 => ?_)
                  · -- b32: True
                    refine FJ.seq ?_
                    refine FJ.region ?_
                    refine FJ.er (.s (.s (.s (.s (.s (.s (.s (.s (.s (.s (.s (.s (.s (.s (.s (.s (.s (.s (.s (.s (.s (.s (.s (.s (.s (.s (.s (.s (.s (.s (.s (.s (.s (.s (.s (.s (.s (.s (.s (.s (.s (.s (.s (.s (.s (.s (.s (.s (.s (.s (.s (.s (.s (.s (.s (.s (.s (.s (.s (.s (.s (.s (.s (.s (.s (.s (.s (.s (.s .z))))))))))))))))))))))))))))))))))))))))))))))))))))))))))))))))))))) ?_
                    refine FJ.q (goes_list rfl) rfl (by decide) rfl (q_assign rfl .c) ?_
                    refine FJ.nil ?_
                    refine FJ.then_ ?_
                    refine FJ.ret ?_
                    refine FJ.thenR ?_
                    refine FJ.doneS (res1 rfl .z) .n ?_
                    exfalso; first | exact absurd rfl (by assumption) | omega | (simp_all; done)
                  · -- b32: False
                    refine FJ.skip ?_
                    refine FJ.then_ ?_
                    refine FJ.seq ?_
                    refine FJ.region ?_
                    refine FJ.q (goes_list rfl) rfl (by decide) rfl (q_move rfl (.t (.s (.s (.s (.s (.s (.s (.s (.s (.s (.s (.s (.s (.s (.s (.s (.s (.s (.s (.s (.s (.s (.s (.s (.s (.s (.s (.s (.s (.s (.s (.s (.s (.s (.s (.s (.s (.s (.s (.s (.s (.s (.s (.s (.s (.s (.s (.s (.s (.s (.s (.s (.s (.s (.s (.s (.s (.s (.s (.s (.s (.s (.s (.s (.s (.s (.s (.s (.s (.s (.s .z)))))))))))))))))))))))))))))))))))))))))))))))))))))))))))))))))))))))) ?_
                    refine FJ.call (goes_list rfl) rfl (by decide) rfl (c_call rfl Try.func29 rfl rfl (args1 (.t .z))) .n (fun w1 S1 hs tr => c_29 (tr.ctx h0)) ?_
                    rintro _ _ rfl
                    refine FJ.cat (.c .n) ?_
                    refine FJ.know (WS.oform .z) ?_
                    rintro ⟨Ao34, co34, rfl, hlo34, hmo34, hbo34⟩
                    refine FJ.q (goes_list rfl) rfl (by decide) rfl (q_move rfl (.t (.s (.s (.s (.s (.s (.s (.s (.s (.s (.s (.s (.s (.s (.s (.s (.s (.s (.s (.s (.s (.s (.s (.s (.s (.s (.s (.s (.s (.s (.s (.s (.s (.s (.s (.s (.s (.s (.s (.s (.s (.s (.s (.s (.s (.s (.s (.s (.s (.s (.s (.s (.s (.s (.s (.s (.s (.s (.s (.s (.s (.s (.s (.s (.s (.s (.s (.s (.s (.s (.s (.s (.s (.s .z))))))))))))))))))))))))))))))))))))))))))))))))))))))))))))))))))))))))))) ?_
                    refine FJ.call (goes_list rfl) rfl (by decide) rfl (c_call rfl Try.func48 rfl rfl (args1 (.t .z))) .n (fun w1 S1 hs tr => c_48 (tr.ctx h1)) ?_
                    rintro _ _ rfl
                    refine FJ.cat (.c .n) ?_
                    refine FJ.know (WS.oform .z) ?_
                    rintro ⟨Ao36, co36, rfl, hlo36, hmo36, hbo36⟩
                    refine FJ.q (goes_list rfl) rfl (by decide) rfl (q_move rfl (.t (.s (.s (.s (.s (.s (.s (.s (.s (.s (.s (.s (.s (.s (.s (.s (.s (.s (.s (.s (.s (.s (.s (.s (.s (.s (.s (.s (.s (.s (.s (.s (.s (.s (.s (.s (.s (.s (.s (.s (.s (.s (.s (.s (.s (.s (.s (.s (.s (.s (.s (.s (.s (.s (.s (.s (.s (.s (.s (.s (.s (.s (.s (.s (.s (.s (.s (.s (.s (.s (.s (.s (.s (.s (.s (.s (.s .z)))))))))))))))))))))))))))))))))))))))))))))))))))))))))))))))))))))))))))))) ?_
                    refine FJ.call (goes_list rfl) rfl (by decide) rfl (c_call rfl Try.func60 rfl rfl (args3 (.t (.s (.s (.s .z)))) (.t (.s .z)) (.t .z))) .n (fun w1 S1 hs tr => c_60 (tr.own (.s .z)) (tr.own .z) _) ?_
                    rintro _ _ ⟨v37, rfl, rfl⟩
                    refine FJ.cat (.c .n) ?_
                    refine FJ.know (WS.oform .z) ?_
                    rintro ⟨Ao39, co39, rfl, hlo39, hmo39, hbo39⟩
                    refine FJ.e (goes_list rfl) rfl (by decide) rfl (e_alloc rfl z_57 rfl rfl) ?_
                    rintro _ _ ⟨g40, rfl, rfl⟩
                    refine FJ.es (goes_list rfl) rfl (es_store (off := 0) (cs := [.int .i64 ((pickR x b n).code), .slice Ao39 ((pickR x b n).list).length co39]) rfl sz_57 (.t .z) (.t (.s .z)) rfl (ones rfl) .z (Nat.le_of_ble_eq_true rfl) (.c .z (.c (.s .z) .n))) ?_
                    refine FJ.nil ?_
                    refine FJ.then_ ?_
                    refine FJ.seq ?_
                    refine FJ.seq ?_
                    refine FJ.region ?_
                    refine FJ.q (goes_list rfl) rfl (by decide) rfl (q_loadA (cs := [.int .i64 ((pickR x b n).code), .slice Ao39 ((pickR x b n).list).length co39]) rfl ag_57 sz_57 (.t .z) (WS.rows0 .z (fun i u h => by exact h))) ?_
                    refine FJ.q (goes_list rfl) rfl (by decide) rfl (q_loadA (cs := [.int .i64 ((pickR x b n).code), .slice Ao12 ((pickR x b n).list).length co12]) rfl ag_57 sz_57 (.t (.s (.s (.s (.s (.s (.s (.s (.s (.s (.s (.s (.s (.s (.s (.s (.s (.s (.s (.s (.s (.s (.s (.s (.s (.s (.s (.s (.s (.s (.s (.s (.s (.s (.s (.s (.s (.s (.s (.s (.s (.s (.s (.s (.s (.s (.s (.s (.s (.s (.s (.s (.s (.s (.s (.s (.s (.s (.s (.s (.s (.s .z)))))))))))))))))))))))))))))))))))))))))))))))))))))))))))))) (WS.rows0 (.s (.s (.s (.s (.s (.s (.s (.s (.s (.s .z)))))))))) (fun i u h => by exact h))) ?_
                    refine FJ.call (goes_list rfl) rfl (by decide) rfl (c_call rfl Try.func37 rfl rfl (args2 (.t (.s .z)) (.t .z))) .n (fun w1 S1 hs tr => c_37 (kT_57_mk (pickR x b n) (tr.own (.s .z))) (kT_57_mk (pickR x b n) (tr.own (.s (.s (.s (.s (.s (.s (.s (.s (.s (.s (.s .z)))))))))))))) ?_
                    rintro _ _ ⟨rfl, rfl⟩
                    refine FJ.cat .n ?_
                    refine FJ.q (goes_list rfl) rfl (by decide) rfl (q_not rfl (.t .z)) ?_
                    refine FJ.nil ?_
                    refine FJ.then_ ?_
                    refine FJ.condN (.t .z) (fun b41 => ?_) (fun b41 => ?_)
                    · -- b41: True
                      refine FJ.seq ?_
                      refine FJ.region ?_
                      refine FJ.er (.s (.s (.s (.s (.s (.s (.s (.s (.s (.s (.s (.s (.s (.s (.s (.s (.s (.s (.s (.s (.s (.s (.s (.s (.s (.s (.s (.s (.s (.s (.s (.s (.s (.s (.s (.s (.s (.s (.s (.s (.s (.s (.s (.s (.s (.s (.s (.s (.s (.s (.s (.s (.s (.s (.s (.s (.s (.s (.s (.s (.s (.s (.s (.s (.s (.s (.s (.s (.s (.s (.s (.s (.s (.s (.s (.s (.s (.s (.s (.s .z)))))))))))))))))))))))))))))))))))))))))))))))))))))))))))))))))))))))))))))))) ?_
                      refine FJ.q (goes_list rfl) rfl (by decide) rfl (q_assign rfl .c) ?_
                      refine FJ.nil ?_
                      refine FJ.then_ ?_
                      refine FJ.ret ?_
                      refine FJ.thenR ?_
                      refine FJ.doneS (res1 rfl .z) .n ?_
                      exfalso; first | exact absurd rfl (by assumption) | omega | (simp_all; done)
                    · -- b41: False
                      refine FJ.skip ?_
                      refine FJ.then_ ?_
                      refine FJ.seq ?_
                      refine FJ.region ?_
                      refine FJ.er (.s (.s (.s (.s (.s (.s (.s (.s (.s (.s (.s (.s (.s (.s (.s (.s .z)))))))))))))))) ?_
                      refine FJ.q (goes_list rfl) rfl (by decide) rfl (q_assign rfl .c) ?_
                      refine FJ.nil ?_
                      refine FJ.then_ ?_
                      refine FJ.seq ?_
                      refine FJ.region ?_
                      refine FJ.q (goes_list rfl) rfl (by decide) rfl (q_loadA (cs := [.int .i64 ((pickR x b n).code), .slice Ao20 ((pickR x b n).list).length co20]) rfl ag_57 sz_57 (.t (.s (.s (.s (.s (.s (.s (.s (.s (.s (.s (.s (.s (.s (.s (.s (.s (.s (.s (.s (.s (.s (.s (.s (.s (.s (.s (.s (.s (.s (.s (.s (.s (.s (.s (.s (.s (.s (.s (.s (.s (.s (.s (.s (.s (.s (.s (.s (.s (.s (.s (.s (.s (.s .z)))))))))))))))))))))))))))))))))))))))))))))))))))))) (WS.rows0 (.s (.s (.s (.s (.s (.s (.s (.s (.s .z))))))))) (fun i u h => by exact h))) ?_
                      refine FJ.q (goes_list rfl) rfl (by decide) rfl (q_move rfl (.t (.s .z))) ?_
                      refine FJ.call (goes_list rfl) rfl (by decide) rfl (c_call rfl Try.func40 rfl rfl (args2 (.t (.s .z)) (.t .z))) .n (fun w1 S1 hs tr => c_40 (kT_57_mk (⟨(pickR x b n).code, (vmark_RInts 1 (pickR x b n)).list⟩ : RInts) (tr.own (.s (.s (.s (.s .z)))))) _ (pickR x b n) rfl (by omega) (by first | omega | (omega))) ?_
                      rintro _ _ ⟨rfl, rfl⟩
                      refine FJ.cat .n ?_
                      refine FJ.er (.s (.s (.s .z))) ?_
                      refine FJ.q (goes_list rfl) rfl (by decide) rfl (q_assign rfl (.t .z)) ?_
                      refine FJ.nil ?_
                      refine FJ.then_ ?_
                      refine FJ.seq ?_
                      refine FJ.seq ?_
                      refine FJ.region ?_
                      refine FJ.q (goes_list rfl) rfl (by decide) rfl (q_move rfl (.t .z)) ?_
                      refine FJ.q (goes_list rfl) rfl (by decide) rfl (q_lss rfl (.t .z) .c) ?_
                      refine FJ.nil ?_
                      refine FJ.then_ ?_
                      refine FJ.condP (.t .z) (fun b42 => ?_) (fun b42 => ?_)
                      · -- b42: True
                        refine FJ.seq ?_
                        refine FJ.region ?_
                        refine FJ.er (.s (.s (.s (.s (.s (.s (.s (.s (.s (.s (.s (.s (.s (.s (.s (.s (.s (.s (.s (.s (.s (.s (.s (.s (.s (.s (.s (.s (.s (.s (.s (.s (.s (.s (.s (.s (.s (.s (.s (.s (.s (.s (.s (.s (.s (.s (.s (.s (.s (.s (.s (.s (.s (.s (.s (.s (.s (.s (.s (.s (.s (.s (.s (.s (.s (.s (.s (.s (.s (.s (.s (.s (.s (.s (.s (.s (.s (.s (.s (.s (.s (.s (.s (.s (.s .z))))))))))))))))))))))))))))))))))))))))))))))))))))))))))))))))))))))))))))))))))))) ?_
                        refine FJ.q (goes_list rfl) rfl (by decide) rfl (q_assign rfl .c) ?_
                        refine FJ.nil ?_
                        refine FJ.then_ ?_
                        refine FJ.ret ?_
                        refine FJ.thenR ?_
                        refine FJ.doneS (res1 rfl .z) .n ?_
                        exfalso; first | exact absurd rfl (by assumption) | omega | (simp_all; done)
                      · -- b42: False
                        refine FJ.skip ?_
                        refine FJ.then_ ?_
                        refine FJ.seq ?_
                        refine FJ.seq ?_
                        refine FJ.region ?_
                        refine FJ.q (goes_list rfl) rfl (by decide) rfl (q_move rfl (.t (.s (.s .z)))) ?_
                        refine FJ.q (goes_list rfl) rfl (by decide) rfl (q_move rfl (.t (.s (.s (.s (.s (.s (.s (.s (.s (.s (.s (.s (.s (.s (.s (.s (.s (.s (.s (.s (.s (.s (.s (.s (.s (.s (.s .z)))))))))))))))))))))))))))) ?_
                        refine FJ.q (goes_list rfl) rfl (by decide) rfl (q_neq rfl (.t (.s .z)) (.t .z)) ?_
                        refine FJ.nil ?_
                        refine FJ.then_ ?_
                        refine FJ.condN (.t .z) (fun b43 => ?_) (fun b43 => ?_)
                        · -- b43: True
                          refine FJ.seq ?_
                          refine FJ.region ?_
                          refine FJ.er (.s (.s (.s (.s (.s (.s (.s (.s (.s (.s (.s (.s (.s (.s (.s (.s (.s (.s (.s (.s (.s (.s (.s (.s (.s (.s (.s (.s (.s (.s (.s (.s (.s (.s (.s (.s (.s (.s (.s (.s (.s (.s (.s (.s (.s (.s (.s (.s (.s (.s (.s (.s (.s (.s (.s (.s (.s (.s (.s (.s (.s (.s (.s (.s (.s (.s (.s (.s (.s (.s (.s (.s (.s (.s (.s (.s (.s (.s (.s (.s (.s (.s (.s (.s (.s (.s (.s (.s .z)))))))))))))))))))))))))))))))))))))))))))))))))))))))))))))))))))))))))))))))))))))))) ?_
                          refine FJ.q (goes_list rfl) rfl (by decide) rfl (q_assign rfl .c) ?_
                          refine FJ.nil ?_
                          refine FJ.then_ ?_
                          refine FJ.ret ?_
                          refine FJ.thenR ?_
                          refine FJ.doneS (res1 rfl .z) .n ?_
                          exfalso; first | exact absurd rfl (by assumption) | omega | (simp_all; done)
                        · -- b43: False
                          refine FJ.skip ?_
                          refine FJ.then_ ?_
                          refine FJ.seq ?_
                          refine FJ.region ?_
                          refine FJ.er (.s (.s (.s (.s (.s (.s (.s (.s (.s (.s (.s (.s (.s (.s (.s (.s (.s (.s (.s (.s (.s (.s (.s (.s (.s (.s (.s (.s (.s (.s (.s (.s (.s (.s (.s (.s (.s (.s (.s (.s (.s (.s (.s (.s (.s (.s (.s (.s (.s (.s (.s (.s (.s (.s (.s (.s (.s (.s (.s (.s (.s (.s (.s (.s (.s (.s (.s (.s (.s (.s (.s (.s (.s (.s (.s (.s (.s (.s (.s (.s (.s (.s (.s (.s (.s (.s (.s (.s .z)))))))))))))))))))))))))))))))))))))))))))))))))))))))))))))))))))))))))))))))))))))))) ?_
                          refine FJ.q (goes_list rfl) rfl (by decide) rfl (q_assign rfl .c) ?_
                          refine FJ.nil ?_
                          refine FJ.then_ ?_
                          refine FJ.ret ?_
                          refine FJ.doneS (res1 rfl .z) .n ?_
                          exact ⟨rfl, rfl⟩

end Go.Proofs.Ytoaebcjjfojfeaa

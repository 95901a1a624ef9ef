/- What is proved: contracts of functions, one a function. No condition. -/
import Derived.Test.YtoaebcjjfojfeaaW9
import Derived.Test.YtoaebcjjfojfeaaW4
namespace Go.Proofs.Ytoaebcjjfojfeaa
open Go Go.RowKit
set_option linter.unusedVariables false
set_option linter.unusedSimpArgs false
set_option maxHeartbeats 1000000 in
set_option maxRecDepth 20000 in
theorem c_7 {w0 : World} {S0 : Bs} {x : (List DInode)} {v0 : Value} (h0 : kSl_25.ro w0 (FF w0 S0) x [v0]) (a : Int)  :
    Calls Try.prog 7 #[v0, .int .i64 a] w0 (TriPost w0 S0 (fun r l => r = .bool true ∧ l = [])) := by
  obtain ⟨A0, c0, rfl, hl0, hm0, hb0, he0⟩ := ro_form h0
  refine FJ.enter (N := 32) Try.func7 rfl rfl (by simp) [(0, .slice A0 x.length c0), (1, .int .i64 a)] (by simp) (l0 := []) trivial ?_
  refine FJ.seq ?_
  refine FJ.region ?_
  refine FJ.q (goes_list rfl) rfl (by decide) rfl (q_assign rfl .c) ?_
  refine FJ.nil ?_
  refine FJ.then_ ?_
  refine FJ.seq ?_
  refine FJ.region ?_
  refine FJ.q (goes_list rfl) rfl (by decide) rfl (q_assign rfl .c) ?_
  refine FJ.nil ?_
  refine FJ.then_ ?_
  refine FJ.seq ?_
  refine FJ.region ?_
  refine FJ.q (goes_list rfl) rfl (by decide) rfl (q_move rfl (.t (.s (.s .z)))) ?_
  refine FJ.q (goes_list rfl) rfl (by decide) rfl (q_move rfl (.t (.s .z))) ?_
  refine FJ.call (goes_list rfl) rfl (by decide) rfl (c_call rfl Try.func27 rfl rfl (args2 (.t (.s .z)) (.t .z))) .n (fun w1 S1 hs tr => c_27 (tr.ctx h0) _ (by omega) (by omega)) ?_
  rintro _ _ ⟨c2, rfl, hc2, wc2, rfl⟩
  refine FJ.cat .n ?_
  refine FJ.er (.s (.s (.s .z))) ?_
  refine FJ.q (goes_list rfl) rfl (by decide) rfl (q_assign rfl (.t .z)) ?_
  refine FJ.nil ?_
  refine FJ.then_ ?_
  refine FJ.seq ?_
  refine FJ.seq ?_
  refine FJ.region ?_
  refine FJ.q (goes_list rfl) rfl (by decide) rfl (q_move rfl (.t .z)) ?_
  refine FJ.q (goes_list rfl) rfl (by decide) rfl (q_lss rfl (.t .z) .c) ?_
  refine FJ.nil ?_
  refine FJ.then_ ?_
  refine FJ.condP (.t .z) (fun b3 => ?_) (fun b3 => ?_)
  · -- b3: True
    refine FJ.seq ?_
    refine FJ.region ?_
    refine FJ.er (.s (.s (.s (.s (.s (.s .z)))))) ?_
    refine FJ.q (goes_list rfl) rfl (by decide) rfl (q_assign rfl .c) ?_
    refine FJ.nil ?_
    refine FJ.then_ ?_
    refine FJ.ret ?_
    refine FJ.thenR ?_
    refine FJ.doneS (res1 rfl .z) .n ?_
    exact ⟨rfl, rfl⟩
  · -- b3: False
    refine FJ.skip ?_
    refine FJ.then_ ?_
    refine FJ.seq ?_
    refine FJ.region ?_
    refine FJ.q (goes_list rfl) rfl (by decide) rfl (q_move rfl (.t (.s (.s (.s (.s (.s (.s (.s .z))))))))) ?_
    refine FJ.call (goes_list rfl) rfl (by decide) rfl (c_call rfl Try.func29 rfl rfl (args1 (.t .z))) .n (fun w1 S1 hs tr => c_29 (tr.ctx h0)) ?_
    rintro _ _ rfl
    refine FJ.cat (.c .n) ?_
    refine FJ.know (WS.oform .z) ?_
    rintro ⟨Ao5, co5, rfl, hlo5, hmo5, hbo5⟩
    refine FJ.q (goes_list rfl) rfl (by decide) rfl (q_move rfl (.t (.s (.s (.s (.s (.s (.s (.s (.s (.s (.s .z)))))))))))) ?_
    refine FJ.call (goes_list rfl) rfl (by decide) rfl (c_call rfl Try.func33 rfl rfl (args2 (.t (.s .z)) (.t .z))) .n (fun w1 S1 hs tr => c_33 (tr.own .z) _) ?_
    rintro _ _ ⟨rfl, rfl⟩
    refine FJ.cat .n ?_
    refine FJ.e (goes_list rfl) rfl (by decide) rfl (e_alloc rfl z_48 rfl rfl) ?_
    rintro _ _ ⟨g6, rfl, rfl⟩
    refine FJ.es (goes_list rfl) rfl (es_store (off := 0) (cs := [.int .i64 ((linksR x a).code), .int .i64 ((linksR x a).val)]) rfl sz_48 (.t .z) (.t (.s .z)) rfl (ones rfl) .z (Nat.le_of_ble_eq_true rfl) (.c .z (.c (.s .z) .n))) ?_
    refine FJ.nil ?_
    refine FJ.then_ ?_
    refine FJ.seq ?_
    refine FJ.region ?_
    refine FJ.q (goes_list rfl) rfl (by decide) rfl (q_move rfl (.t (.s (.s (.s (.s (.s (.s (.s (.s (.s (.s (.s (.s .z)))))))))))))) ?_
    refine FJ.call (goes_list rfl) rfl (by decide) rfl (c_call rfl Try.func29 rfl rfl (args1 (.t .z))) .n (fun w1 S1 hs tr => c_29 (tr.ctx h0)) ?_
    rintro _ _ rfl
    refine FJ.cat (.c .n) ?_
    refine FJ.know (WS.oform .z) ?_
    rintro ⟨Ao8, co8, rfl, hlo8, hmo8, hbo8⟩
    refine FJ.q (goes_list rfl) rfl (by decide) rfl (q_assign rfl (.t .z)) ?_
    refine FJ.nil ?_
    refine FJ.then_ ?_
    refine FJ.seq ?_
    refine FJ.region ?_
    refine FJ.q (goes_list rfl) rfl (by decide) rfl (q_move rfl (.t .z)) ?_
    refine FJ.q (goes_list rfl) rfl (by decide) rfl (q_move rfl (.t (.s (.s (.s (.s (.s (.s (.s (.s (.s (.s (.s (.s (.s (.s (.s (.s (.s .z))))))))))))))))))) ?_
    refine FJ.call (goes_list rfl) rfl (by decide) rfl (c_call rfl Try.func34 rfl rfl (args2 (.t (.s .z)) (.t .z))) .n (fun w1 S1 hs tr => c_34 (tr.own .z) _) ?_
    rintro _ _ ⟨rfl, rfl⟩
    refine FJ.cat .n ?_
    refine FJ.e (goes_list rfl) rfl (by decide) rfl (e_alloc rfl z_48 rfl rfl) ?_
    rintro _ _ ⟨g9, rfl, rfl⟩
    refine FJ.es (goes_list rfl) rfl (es_store (off := 0) (cs := [.int .i64 ((linksR x a).code), .int .i64 ((linksR x a).val)]) rfl sz_48 (.t .z) (.t (.s .z)) rfl (ones rfl) .z (Nat.le_of_ble_eq_true rfl) (.c .z (.c (.s .z) .n))) ?_
    refine FJ.nil ?_
    refine FJ.then_ ?_
    refine FJ.seq ?_
    refine FJ.seq ?_
    refine FJ.region ?_
    refine FJ.q (goes_list rfl) rfl (by decide) rfl (q_loadA (cs := [.int .i64 ((linksR x a).code), .int .i64 ((linksR x a).val)]) rfl ag_48 sz_48 (.t .z) (WS.rows0 .z (fun i u h => by exact h))) ?_
    refine FJ.q (goes_list rfl) rfl (by decide) rfl (q_loadA (cs := [.int .i64 ((linksR x a).code), .int .i64 ((linksR x a).val)]) rfl ag_48 sz_48 (.t (.s (.s (.s (.s (.s (.s (.s (.s .z))))))))) (WS.rows0 (.s (.s .z)) (fun i u h => by exact h))) ?_
    refine FJ.call (goes_list rfl) rfl (by decide) rfl (c_call rfl Try.func31 rfl rfl (args2 (.t (.s .z)) (.t .z))) .n (fun w1 S1 hs tr => c_31 (kT_48_mk (linksR x a)) (kT_48_mk (linksR x a))) ?_
    rintro _ _ ⟨rfl, rfl⟩
    refine FJ.cat .n ?_
    refine FJ.q (goes_list rfl) rfl (by decide) rfl (q_not rfl (.t .z)) ?_
    refine FJ.nil ?_
    refine FJ.then_ ?_
    refine FJ.condN (.t .z) (fun b10 => ?_) (fun b10 => ?_)
    · -- b10: True
      refine FJ.seq ?_
      refine FJ.region ?_
      refine FJ.er (.s (.s (.s (.s (.s (.s (.s (.s (.s (.s (.s (.s (.s (.s (.s (.s (.s (.s (.s (.s (.s (.s .z)))))))))))))))))))))) ?_
      refine FJ.q (goes_list rfl) rfl (by decide) rfl (q_assign rfl .c) ?_
      refine FJ.nil ?_
      refine FJ.then_ ?_
      refine FJ.ret ?_
      refine FJ.thenR ?_
      refine FJ.doneS (res1 rfl .z) .n ?_
      exfalso; first | exact absurd rfl (by assumption) | omega | (simp_all; done)
    · -- b10: False
      refine FJ.skip ?_
      refine FJ.then_ ?_
      refine FJ.seq ?_
      refine FJ.seq ?_
      refine FJ.region ?_
      refine FJ.q (goes_list rfl) rfl (by decide) rfl (q_move rfl (.t (.s (.s (.s (.s (.s (.s (.s (.s .z)))))))))) ?_
      refine FJ.q (goes_list rfl) rfl (by decide) rfl (q_move rfl (.t (.s (.s (.s (.s (.s (.s (.s (.s (.s (.s (.s (.s (.s (.s (.s (.s (.s (.s (.s (.s (.s (.s (.s (.s .z)))))))))))))))))))))))))) ?_
      refine FJ.call (goes_list rfl) rfl (by decide) rfl (c_call rfl Try.func29 rfl rfl (args1 (.t .z))) .n (fun w1 S1 hs tr => c_29 (tr.ctx h0)) ?_
      rintro _ _ rfl
      refine FJ.cat (.c .n) ?_
      refine FJ.know (WS.oform .z) ?_
      rintro ⟨Ao12, co12, rfl, hlo12, hmo12, hbo12⟩
      refine FJ.call (goes_list rfl) rfl (by decide) rfl (c_call rfl Try.func32 rfl rfl (args2 (.t (.s (.s .z))) (.t .z))) .n (fun w1 S1 hs tr => c_32 (tr.own (.s (.s .z))) (tr.own .z)) ?_
      rintro _ _ ⟨rfl, rfl⟩
      refine FJ.cat .n ?_
      refine FJ.q (goes_list rfl) rfl (by decide) rfl (q_not rfl (.t .z)) ?_
      refine FJ.nil ?_
      refine FJ.then_ ?_
      refine FJ.condN (.t .z) (fun b13 => ?_) (fun b13 => ?_)
      · -- b13: True
        refine FJ.seq ?_
        refine FJ.region ?_
        refine FJ.er (.s (.s (.s (.s (.s (.s (.s (.s (.s (.s (.s (.s (.s (.s (.s (.s (.s (.s (.s (.s (.s (.s (.s (.s (.s (.s (.s .z))))))))))))))))))))))))))) ?_
        refine FJ.q (goes_list rfl) rfl (by decide) rfl (q_assign rfl .c) ?_
        refine FJ.nil ?_
        refine FJ.then_ ?_
        refine FJ.ret ?_
        refine FJ.thenR ?_
        refine FJ.doneS (res1 rfl .z) .n ?_
        exfalso; first | exact absurd rfl (by assumption) | omega | (simp_all; done)
      · -- b13: False
        refine FJ.skip ?_
        refine FJ.then_ ?_
        refine FJ.seq ?_
        refine FJ.region ?_
        refine FJ.er (.s (.s (.s (.s (.s (.s (.s (.s (.s (.s (.s (.s (.s (.s (.s (.s (.s (.s (.s (.s (.s (.s (.s (.s (.s (.s (.s .z))))))))))))))))))))))))))) ?_
        refine FJ.q (goes_list rfl) rfl (by decide) rfl (q_assign rfl .c) ?_
        refine FJ.nil ?_
        refine FJ.then_ ?_
        refine FJ.ret ?_
        refine FJ.doneS (res1 rfl .z) .n ?_
        exact ⟨rfl, rfl⟩

end Go.Proofs.Ytoaebcjjfojfeaa

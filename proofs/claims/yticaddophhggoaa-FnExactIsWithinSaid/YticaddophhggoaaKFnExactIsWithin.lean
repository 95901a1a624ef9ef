/- What is proved: contracts of functions, one a function. No condition. -/
import Derived.Test.YticaddophhggoaaW50
import Derived.Test.YticaddophhggoaaW5
namespace Go.Proofs.Yticaddophhggoaa
open Go Go.RowKit
set_option linter.unusedVariables false
set_option linter.unusedSimpArgs false
set_option maxHeartbeats 1000000 in
set_option maxRecDepth 20000 in
theorem c_3 {w0 : World} {S0 : Bs} {x : DFs} {cs0 : List Value} (h0 : kT_25.ro w0 (FF w0 S0) x cs0) (a : Int) (b : Int)  :
    Calls Try.prog 3 #[.agg cs0.toArray, .int .i64 a, .int .i64 b] w0 (TriPost w0 S0 (fun r l => r = .bool true ∧ l = [])) := by
 obtain ⟨u0_0, u0_1, rfl, h0_0, h0_1⟩ := kT_25_ro h0
 obtain ⟨A0_0, c0_0, rfl, hl0_0, hm0_0, hb0_0, he0_0⟩ := ro_form h0_0
 obtain ⟨A0_1, c0_1, rfl, hl0_1, hm0_1, hb0_1, he0_1⟩ := ro_form h0_1
 refine FJ.enter (N := 35) Try.func3 rfl rfl (by simp) [(0, .agg #[.slice A0_0 x.inodes.length c0_0, .slice A0_1 x.data.length c0_1]), (1, .int .i64 a), (2, .int .i64 b)] (by simp) (l0 := []) trivial ?_
 refine FJ.seq (FJ.region ?_)
 refine FJ.e (goes_list rfl) rfl (by decide) rfl (e_box (cs := [.slice A0_0 x.inodes.length c0_0, .slice A0_1 x.data.length c0_1]) (n := 2) rfl (.t .z) rfl rfl) ?_
 rintro _ _ ⟨g3, rfl, rfl⟩
 refine FJ.ql rfl (q_assign rfl .c) (FJ.nil (FJ.then_ (FJ.seq (FJ.region ?_))))
 refine FJ.ql rfl (q_assign rfl .c) (FJ.nil (FJ.then_ (FJ.seq (FJ.region ?_))))
 refine FJ.ql rfl (q_loadA (cs := [.slice A0_0 x.inodes.length c0_0, .slice A0_1 x.data.length c0_1]) rfl ag_25 sz_25 (.t (.s (.s .z))) (WS.rows0 .z (fun i u h => by exact h))) ?_
 refine FJ.ql rfl (q_move rfl (.t (.s .z))) ?_
 refine FJ.call (goes_list rfl) rfl (by decide) rfl (c_call rfl Try.func4 rfl rfl (args2 (.t (.s .z)) (.t .z))) .n (fun w1 S1 hs tr => c_4 (kT_25_mk x (tr.ctx h0_0) (tr.ctx h0_1)) _ (by omega) (by omega)) ?_
 rintro _ _ ⟨c4, rfl, hc4, wc4, rfl⟩
 refine FJ.cat .n ?_
 refine FJ.er (.s (.s (.s .z))) (FJ.ql rfl (q_assign rfl (.t .z)) (FJ.nil (FJ.then_ (FJ.seq ?_))))
 refine FJ.seq (FJ.region (FJ.ql rfl (q_move rfl (.t .z)) (FJ.ql rfl (q_lss rfl (.t .z) .c) (FJ.nil ?_))))
 refine FJ.then_ ?_
 refine FJ.condP (.t .z) (fun b5 => ?_) (fun b5 => ?_)
 refine FJ.seq (FJ.region (FJ.er (.s4 (.s (.s .z))) (FJ.ql rfl (q_assign rfl .c) (FJ.nil ?_))))
 refine FJ.then_ (FJ.ret (FJ.thenR ?_))
 refine FJ.doneS (res1 rfl .z) .n ?_
 exact ⟨rfl, rfl⟩
 refine FJ.skip (FJ.then_ (FJ.seq (FJ.region ?_)))
 refine FJ.ql rfl (q_loadA (cs := [.slice A0_0 x.inodes.length c0_0, .slice A0_1 x.data.length c0_1]) rfl ag_25 sz_25 (.t (.s4 (.s (.s (.s .z))))) (WS.rows0 .z (fun i u h => by exact h))) ?_
 refine FJ.call (goes_list rfl) rfl (by decide) rfl (c_call rfl Try.func6 rfl rfl (args1 (.t .z))) .n (fun w1 S1 hs tr => c_6 (kT_25_mk x (tr.ctx h0_0) (tr.ctx h0_1))) ?_
 rintro _ _ ⟨v6, v8, rfl, rfl⟩
 refine FJ.cat (.c (.c .n)) ?_
 refine FJ.know (WS.oform .z) ?_
 rintro ⟨Ao10, co10, rfl, hlo10, hmo10, hbo10⟩
 refine FJ.know (WS.oform (.s .z)) ?_
 rintro ⟨Ao11, co11, rfl, hlo11, hmo11, hbo11⟩
 refine FJ.ql rfl (q_move rfl (.t (.s4 (.s4 (.s (.s (.s .z))))))) (FJ.ql rfl (q_move rfl (.t (.s4 (.s4 (.s4 (.s .z)))))) ?_)
 refine FJ.call (goes_list rfl) rfl (by decide) rfl (c_call rfl Try.func5 rfl rfl (args3 (.t (.s (.s .z))) (.t (.s .z)) (.t .z))) .n (fun w1 S1 hs tr => c_5 (kT_30_mk x (tr.own .z) (tr.own (.s .z))) _ _) ?_
 rintro _ _ ⟨rfl, rfl⟩
 refine FJ.cat .n ?_
 refine FJ.ql rfl (q_assign rfl (.t .z)) (FJ.nil (FJ.then_ (FJ.seq (FJ.region ?_))))
 refine FJ.ql rfl (q_loadA (cs := [.slice A0_0 x.inodes.length c0_0, .slice A0_1 x.data.length c0_1]) rfl ag_25 sz_25 (.t (.s4 (.s4 (.s4 (.s .z))))) (WS.rows0 (.s (.s .z)) (fun i u h => by exact h))) ?_
 refine FJ.call (goes_list rfl) rfl (by decide) rfl (c_call rfl Try.func6 rfl rfl (args1 (.t .z))) .n (fun w1 S1 hs tr => c_6 (kT_25_mk x (tr.ctx h0_0) (tr.ctx h0_1))) ?_
 rintro _ _ ⟨v12, v14, rfl, rfl⟩
 refine FJ.cat (.c (.c .n)) ?_
 refine FJ.know (WS.oform .z) ?_
 rintro ⟨Ao16, co16, rfl, hlo16, hmo16, hbo16⟩
 refine FJ.know (WS.oform (.s .z)) ?_
 rintro ⟨Ao17, co17, rfl, hlo17, hmo17, hbo17⟩
 refine FJ.e (goes_list rfl) rfl (by decide) rfl (e_alloc rfl z_30 rfl rfl) ?_
 rintro _ _ ⟨g18, rfl, rfl⟩
 refine FJ.es (goes_list rfl) rfl (es_store (off := 0) (cs := [.slice Ao16 x.inodes.length co16, .slice Ao17 x.data.length co17]) rfl sz_30 (.t .z) (.t (.s .z)) rfl (ones rfl) .z (Nat.le_of_ble_eq_true rfl) (.c .z (.c (.s .z) .n))) ?_
 refine FJ.nil (FJ.then_ (FJ.seq (FJ.region ?_)))
 refine FJ.ql rfl (q_loadA (cs := [.slice Ao16 x.inodes.length co16, .slice Ao17 x.data.length co17]) rfl ag_30 sz_30 (.t .z) (WS.rows0 .z (fun i u h => by exact h))) ?_
 refine FJ.ql rfl (q_move rfl (.t (.s16 (.s (.s (.s .z)))))) (FJ.ql rfl (q_move rfl (.t (.s16 (.s4 (.s .z))))) ?_)
 refine FJ.call (goes_list rfl) rfl (by decide) rfl (c_call rfl Try.func7 rfl rfl (args3 (.t (.s (.s .z))) (.t (.s .z)) (.t .z))) .n (fun w1 S1 hs tr => c_7 (kT_30_mk x (tr.own (.s .z)) (tr.own (.s (.s .z)))) _ _) ?_
 rintro _ _ ⟨rfl, rfl⟩
 refine FJ.cat .n ?_
 refine FJ.ql rfl (q_assign rfl (.t .z)) (FJ.nil (FJ.then_ (FJ.seq (FJ.seq ?_))))
 refine FJ.region (FJ.ql rfl (q_move rfl (.t .z)) (FJ.ql rfl (q_move rfl (.t (.s4 (.s4 (.s .z))))) (FJ.ql rfl (q_bneq rfl u_4 (.t (.s .z)) (.t .z)) (FJ.nil ?_))))
 refine FJ.then_ ?_
 refine FJ.cond (.t .z) (fun b19 => ?_) (fun b19 => ?_)
 refine FJ.seq (FJ.region (FJ.er (.s16 (.s4 (.s (.s (.s .z))))) (FJ.ql rfl (q_assign rfl .c) (FJ.nil ?_))))
 refine FJ.then_ (FJ.ret (FJ.thenR ?_))
 refine FJ.doneS (res1 rfl .z) .n ?_
 exfalso; first | exact absurd rfl (by assumption) | omega | focus (simp_all; done)
 refine FJ.skip (FJ.then_ (FJ.seq (FJ.seq ?_)))
 refine FJ.sel (.c (.s .z) (.c (.s .z) (.c (.s .z) (.c (.s .z) (.c .z (.c .z .n)))))) ?_
 refine FJ.draw [rowA g18 30 2 1 [.slice Ao16 x.inodes.length co16, .slice Ao17 x.data.length co17], rowA g3 25 2 1 [.slice A0_0 x.inodes.length c0_0, .slice A0_1 x.data.length c0_1]] 5 (by kernel_rfl) ?_
 refine FJ.sch [(0, true), (1, true), (2, false), (3, false), (4, true)] 0 #[true, true, true, true, true] (by rfl) (by kernel_rfl) ?_
 refine FJ.dq rfl rfl rfl (by decide) rfl (.s4 .z) (q_loadA (cs := [.slice Ao16 x.inodes.length co16, .slice Ao17 x.data.length co17]) rfl ag_30 sz_30 (.t (.s4 (.s4 .z))) (WS.rows0 .z (fun i u h => by exact h))) ?_
 refine FJ.dq rfl rfl rfl (by decide) rfl (.s4 .z) (q_loadA (cs := [.slice A0_0 x.inodes.length c0_0, .slice A0_1 x.data.length c0_1]) rfl ag_25 sz_25 (.t (.s16 (.s4 (.s4 (.s .z))))) (WS.rows0 (.s .z) (fun i u h => by exact h))) ?_
 refine FJ.call (goes_sch rfl rfl) rfl (by decide) rfl (c_call rfl Try.func6 rfl rfl (args1 (.t .z))) .n (fun w1 S1 hs tr => c_6 (kT_25_mk x (tr.ctx h0_0) (tr.ctx h0_1))) ?_
 rintro _ _ ⟨v20, v22, rfl, rfl⟩
 refine FJ.cat (.c (.c .n)) ?_
 refine FJ.know (WS.oform .z) ?_
 rintro ⟨Ao24, co24, rfl, hlo24, hmo24, hbo24⟩
 refine FJ.know (WS.oform (.s .z)) ?_
 rintro ⟨Ao25, co25, rfl, hlo25, hmo25, hbo25⟩
 refine FJ.sk (.s4 (.s (.s .z))) ?_
 refine FJ.call (goes_sch rfl rfl) rfl (by decide) rfl (c_call rfl Try.func8 rfl rfl (args2 (.t (.s (.s .z))) (.t .z))) .n (fun w1 S1 hs tr => c_8 (kT_30_mk x (tr.own (.s (.s .z))) (tr.own (.s (.s (.s .z))))) (kT_30_mk x (tr.own .z) (tr.own (.s .z)))) ?_
 rintro _ _ ⟨rfl, rfl⟩
 refine FJ.cat .n ?_
 refine FJ.sk (.s4 (.s (.s .z))) ?_
 refine FJ.dq rfl rfl rfl (by decide) rfl (.s4 (.s (.s .z))) (q_not rfl (.t .z)) (FJ.schN ?_)
 refine FJ.drawN (by kernel_rfl) ?_
 refine FJ.then_ ?_
 refine FJ.condN (.t .z) (fun b26 => ?_) (fun b26 => ?_)
 refine FJ.seq (FJ.region (FJ.er (.s16 (.s4 (.s4 (.s4 .z)))) (FJ.ql rfl (q_assign rfl .c) (FJ.nil ?_))))
 refine FJ.then_ (FJ.ret (FJ.thenR ?_))
 refine FJ.doneS (res1 rfl .z) .n ?_
 exfalso; first | exact absurd rfl (by assumption) | omega | focus (simp_all; done)
 refine FJ.skip (FJ.then_ (FJ.seq (FJ.region (FJ.er (.s16 (.s4 (.s4 (.s4 .z)))) ?_))))
 refine FJ.ql rfl (q_assign rfl .c) (FJ.nil (FJ.then_ (FJ.ret ?_)))
 refine FJ.doneS (res1 rfl .z) .n ?_
 exact ⟨rfl, rfl⟩

end Go.Proofs.Yticaddophhggoaa

/- What is proved: contracts of functions, one a function. No condition. -/
import Derived.Test.YtbcdcakcmdcafaaGreatW31
import Derived.Test.YtbcdcakcmdcafaaGreatW7
import Derived.Test.YtbcdcakcmdcafaaGreatBase2
namespace Go.Proofs.YtbcdcakcmdcafaaGreat
open Go Go.RowKit
set_option linter.unusedVariables false
set_option linter.unusedSimpArgs false
set_option maxHeartbeats 1000000 in
set_option maxRecDepth 20000 in
theorem c_5 {w0 : World} {S0 : Bs} {x : DFs} {cs0 : List Value} (h0 : kT_37.ro w0 (FF w0 S0) x cs0) (a : Int) (b : Int) (n : Int)  :
    Calls Tryz.prog 5 #[.agg cs0.toArray, .int .i64 a, .int .i64 b, .int .i64 n] w0 (TriPost w0 S0 (fun r l => r = .bool true ∧ l = [])) := by
 obtain ⟨u0_0, u0_1, rfl, h0_0, h0_1⟩ := kT_37_ro h0
 obtain ⟨A0_0, c0_0, rfl, hl0_0, hm0_0, hb0_0, he0_0⟩ := ro_form h0_0
 obtain ⟨A0_1, c0_1, rfl, hl0_1, hm0_1, hb0_1, he0_1⟩ := ro_form h0_1
 have hb := readR_cnt x a b n
 have hw := fs_cnt_wt x
 refine FJ.enter (N := 84) Tryz.func5 rfl rfl (by simp) [(0, .agg #[.slice A0_0 x.inodes.length c0_0, .slice A0_1 x.data.length c0_1]), (1, .int .i64 a), (2, .int .i64 b), (3, .int .i64 n)] (by simp) (l0 := []) trivial ?_
 refine FJ.seq ?_
 refine FJ.region ?_
 refine FJ.e (goes_list rfl) rfl (by decide) rfl (e_box (cs := [.slice A0_0 x.inodes.length c0_0, .slice A0_1 x.data.length c0_1]) (n := 2) rfl (.t .z) rfl rfl) ?_
 rintro _ _ ⟨g3, rfl, rfl⟩
 refine FJ.ql rfl (q_assign rfl .c) ?_
 refine FJ.nil ?_
 refine FJ.then_ ?_
 refine FJ.seq ?_
 refine FJ.region ?_
 refine FJ.ql rfl (q_assign rfl .c) ?_
 refine FJ.nil ?_
 refine FJ.then_ ?_
 refine FJ.seq ?_
 refine FJ.region ?_
 refine FJ.ql rfl (q_loadA (cs := [.slice A0_0 x.inodes.length c0_0, .slice A0_1 x.data.length c0_1]) rfl ag_37 sz_37 (.t (.s (.s .z))) (WS.rows0 .z (fun i u h => by exact h))) ?_
 refine FJ.ql rfl (q_move rfl (.t (.s .z))) ?_
 refine FJ.call (goes_list rfl) rfl (by decide) rfl (c_call rfl Tryz.func19 rfl rfl (args2 (.t (.s .z)) (.t .z))) .n (fun w1 S1 hs tr => c_19 (kT_37_mk x (tr.ctx h0_0) (tr.ctx h0_1)) _ (by omega) (by omega)) ?_
 rintro _ _ ⟨c4, rfl, hc4, wc4, rfl⟩
 refine FJ.cat .n ?_
 refine FJ.er (.s (.s (.s .z))) ?_
 refine FJ.ql rfl (q_assign rfl (.t .z)) ?_
 refine FJ.nil ?_
 refine FJ.then_ ?_
 refine FJ.seq ?_
 refine FJ.seq ?_
 refine FJ.region ?_
 refine FJ.ql rfl (q_move rfl (.t .z)) ?_
 refine FJ.ql rfl (q_lss rfl (.t .z) .c) ?_
 refine FJ.nil ?_
 refine FJ.then_ ?_
 refine FJ.condP (.t .z) (fun b5 => ?_) (fun b5 => ?_)
 refine FJ.seq ?_
 refine FJ.region ?_
 refine FJ.er (.s4 (.s (.s .z))) ?_
 refine FJ.ql rfl (q_assign rfl .c) ?_
 refine FJ.nil ?_
 refine FJ.then_ ?_
 refine FJ.ret ?_
 refine FJ.thenR ?_
 refine FJ.doneS (res1 rfl .z) .n ?_
 exact ⟨rfl, rfl⟩
 refine FJ.skip ?_
 refine FJ.then_ ?_
 refine FJ.seq ?_
 refine FJ.region ?_
 refine FJ.ql rfl (q_loadA (cs := [.slice A0_0 x.inodes.length c0_0, .slice A0_1 x.data.length c0_1]) rfl ag_37 sz_37 (.t (.s4 (.s (.s (.s .z))))) (WS.rows0 .z (fun i u h => by exact h))) ?_
 refine FJ.call (goes_list rfl) rfl (by decide) rfl (c_call rfl Tryz.func21 rfl rfl (args1 (.t .z))) .n (fun w1 S1 hs tr => c_21 (kT_37_mk x (tr.ctx h0_0) (tr.ctx h0_1))) ?_
 rintro _ _ ⟨v6, v8, rfl, rfl⟩
 refine FJ.cat (.c (.c .n)) ?_
 refine FJ.know (WS.oform .z) ?_
 rintro ⟨Ao10, co10, rfl, hlo10, hmo10, hbo10⟩
 refine FJ.know (WS.oform (.s .z)) ?_
 rintro ⟨Ao11, co11, rfl, hlo11, hmo11, hbo11⟩
 refine FJ.ql rfl (q_move rfl (.t (.s4 (.s4 (.s (.s (.s .z))))))) ?_
 refine FJ.ql rfl (q_move rfl (.t (.s4 (.s4 (.s4 (.s .z)))))) ?_
 refine FJ.ql rfl (q_move rfl (.t (.s4 (.s4 (.s4 (.s (.s (.s .z)))))))) ?_
 refine FJ.call (goes_list rfl) rfl (by decide) rfl (c_call rfl Tryz.func28 rfl rfl (args4 (.t (.s (.s (.s .z)))) (.t (.s (.s .z))) (.t (.s .z)) (.t .z))) .n (fun w1 S1 hs tr => c_28 (kT_26_mk x (tr.own .z) (tr.own (.s .z))) _ _ _) ?_
 rintro _ _ ⟨v12, rfl, rfl⟩
 refine FJ.cat (.c .n) ?_
 refine FJ.know (WS.oform .z) ?_
 rintro ⟨Ao14, co14, rfl, hlo14, hmo14, hbo14⟩
 refine FJ.e (goes_list rfl) rfl (by decide) rfl (e_alloc rfl z_41 rfl rfl) ?_
 rintro _ _ ⟨g15, rfl, rfl⟩
 refine FJ.es (goes_list rfl) rfl (es_store (off := 0) (cs := [.int .i64 ((readR x a b n).code), .slice Ao14 ((readR x a b n).bytes).length co14]) rfl sz_41 (.t .z) (.t (.s .z)) rfl (ones rfl) .z (Nat.le_of_ble_eq_true rfl) (.c .z (.c (.s .z) .n))) ?_
 refine FJ.nil ?_
 refine FJ.then_ ?_
 refine FJ.seq ?_
 refine FJ.region ?_
 refine FJ.ql rfl (q_loadA (cs := [.slice A0_0 x.inodes.length c0_0, .slice A0_1 x.data.length c0_1]) rfl ag_37 sz_37 (.t (.s4 (.s4 (.s4 (.s (.s .z)))))) (WS.rows0 (.s4 .z) (fun i u h => by exact h))) ?_
 refine FJ.call (goes_list rfl) rfl (by decide) rfl (c_call rfl Tryz.func21 rfl rfl (args1 (.t .z))) .n (fun w1 S1 hs tr => c_21 (kT_37_mk x (tr.ctx h0_0) (tr.ctx h0_1))) ?_
 rintro _ _ ⟨v16, v18, rfl, rfl⟩
 refine FJ.cat (.c (.c .n)) ?_
 refine FJ.know (WS.oform .z) ?_
 rintro ⟨Ao20, co20, rfl, hlo20, hmo20, hbo20⟩
 refine FJ.know (WS.oform (.s .z)) ?_
 rintro ⟨Ao21, co21, rfl, hlo21, hmo21, hbo21⟩
 refine FJ.e (goes_list rfl) rfl (by decide) rfl (e_alloc rfl z_26 rfl rfl) ?_
 rintro _ _ ⟨g22, rfl, rfl⟩
 refine FJ.es (goes_list rfl) rfl (es_store (off := 0) (cs := [.slice Ao20 x.inodes.length co20, .slice Ao21 x.data.length co21]) rfl sz_26 (.t .z) (.t (.s .z)) rfl (ones rfl) .z (Nat.le_of_ble_eq_true rfl) (.c .z (.c (.s .z) .n))) ?_
 refine FJ.nil ?_
 refine FJ.then_ ?_
 refine FJ.seq ?_
 refine FJ.region ?_
 refine FJ.ql rfl (q_loadA (cs := [.slice Ao20 x.inodes.length co20, .slice Ao21 x.data.length co21]) rfl ag_26 sz_26 (.t .z) (WS.rows0 .z (fun i u h => by exact h))) ?_
 refine FJ.ql rfl (q_move rfl (.t (.s16 (.s4 .z)))) ?_
 refine FJ.ql rfl (q_move rfl (.t (.s16 (.s4 (.s (.s .z)))))) ?_
 refine FJ.ql rfl (q_move rfl (.t (.s16 (.s4 (.s4 .z))))) ?_
 refine FJ.call (goes_list rfl) rfl (by decide) rfl (c_call rfl Tryz.func29 rfl rfl (args4 (.t (.s (.s (.s .z)))) (.t (.s (.s .z))) (.t (.s .z)) (.t .z))) .n (fun w1 S1 hs tr => c_29 (kT_26_mk x (tr.own (.s .z)) (tr.own (.s (.s .z)))) _ _ _) ?_
 rintro _ _ ⟨v23, rfl, rfl⟩
 refine FJ.cat (.c .n) ?_
 refine FJ.know (WS.oform .z) ?_
 rintro ⟨Ao25, co25, rfl, hlo25, hmo25, hbo25⟩
 refine FJ.e (goes_list rfl) rfl (by decide) rfl (e_alloc rfl z_41 rfl rfl) ?_
 rintro _ _ ⟨g26, rfl, rfl⟩
 refine FJ.es (goes_list rfl) rfl (es_store (off := 0) (cs := [.int .i64 ((readR x a b n).code), .slice Ao25 ((readR x a b n).bytes).length co25]) rfl sz_41 (.t .z) (.t (.s .z)) rfl (ones rfl) .z (Nat.le_of_ble_eq_true rfl) (.c .z (.c (.s .z) .n))) ?_
 refine FJ.nil ?_
 refine FJ.then_ ?_
 refine FJ.seq ?_
 refine FJ.seq ?_
 refine FJ.region ?_
 refine FJ.ql rfl (q_loadA (cs := [.int .i64 ((readR x a b n).code), .slice Ao25 ((readR x a b n).bytes).length co25]) rfl ag_41 sz_41 (.t .z) (WS.rows0 .z (fun i u h => by exact h))) ?_
 refine FJ.ql rfl (q_loadA (cs := [.int .i64 ((readR x a b n).code), .slice Ao14 ((readR x a b n).bytes).length co14]) rfl ag_41 sz_41 (.t (.s4 (.s4 (.s (.s .z))))) (WS.rows0 (.s4 (.s .z)) (fun i u h => by exact h))) ?_
 refine FJ.call (goes_list rfl) rfl (by decide) rfl (c_call rfl Tryz.func23 rfl rfl (args2 (.t (.s .z)) (.t .z))) .n (fun w1 S1 hs tr => c_23 (kT_41_mk (readR x a b n) (tr.own (.s .z))) (kT_41_mk (readR x a b n) (tr.own (.s4 (.s (.s .z)))))) ?_
 rintro _ _ ⟨rfl, rfl⟩
 refine FJ.cat .n ?_
 refine FJ.ql rfl (q_not rfl (.t .z)) ?_
 refine FJ.nil ?_
 refine FJ.then_ ?_
 refine FJ.condN (.t .z) (fun b27 => ?_) (fun b27 => ?_)
 refine FJ.seq ?_
 refine FJ.region ?_
 refine FJ.er (.s16 (.s4 (.s4 (.s (.s .z))))) ?_
 refine FJ.ql rfl (q_assign rfl .c) ?_
 refine FJ.nil ?_
 refine FJ.then_ ?_
 refine FJ.ret ?_
 refine FJ.thenR ?_
 refine FJ.doneS (res1 rfl .z) .n ?_
 exfalso; first | exact absurd rfl (by assumption) | omega | (simp_all; done)
 refine FJ.skip ?_
 refine FJ.then_ ?_
 refine FJ.seq ?_
 refine FJ.seq ?_
 refine FJ.sel (.c (.s .z) (.c (.s (.s .z)) (.c (.s (.s .z)) (.c (.s (.s (.s .z))) (.c (.s (.s (.s .z))) (.c (.s (.s (.s .z))) (.c .z (.c .z (.c .z (.c .z .n)))))))))) ?_
 refine FJ.draw [rowA g26 41 2 1 [.int .i64 ((readR x a b n).code), .slice Ao25 ((readR x a b n).bytes).length co25], rowA g22 26 2 1 [.slice Ao20 x.inodes.length co20, .slice Ao21 x.data.length co21], rowA g15 41 2 1 [.int .i64 ((readR x a b n).code), .slice Ao14 ((readR x a b n).bytes).length co14], rowA g3 37 2 1 [.slice A0_0 x.inodes.length c0_0, .slice A0_1 x.data.length c0_1]] 5 (by kernel_rfl) ?_
 refine FJ.sch [(0, true), (1, true), (2, false), (3, false), (4, true)] 0 #[true, true, true, true, true] (by rfl) (by kernel_rfl) ?_
 refine FJ.dq rfl rfl rfl (by decide) rfl (.s4 (.s (.s .z))) (q_loadA (cs := [.slice Ao20 x.inodes.length co20, .slice Ao21 x.data.length co21]) rfl ag_26 sz_26 (.t (.s4 (.s4 (.s (.s .z))))) (WS.rows0 (.s .z) (fun i u h => by exact h))) ?_
 refine FJ.dq rfl rfl rfl (by decide) rfl (.s4 (.s (.s .z))) (q_loadA (cs := [.slice A0_0 x.inodes.length c0_0, .slice A0_1 x.data.length c0_1]) rfl ag_37 sz_37 (.t (.s16 (.s4 (.s4 (.s4 .z))))) (WS.rows0 (.s (.s (.s .z))) (fun i u h => by exact h))) ?_
 refine FJ.call (goes_sch rfl rfl) rfl (by decide) rfl (c_call rfl Tryz.func21 rfl rfl (args1 (.t .z))) .n (fun w1 S1 hs tr => c_21 (kT_37_mk x (tr.ctx h0_0) (tr.ctx h0_1))) ?_
 rintro _ _ ⟨v28, v30, rfl, rfl⟩
 refine FJ.cat (.c (.c .n)) ?_
 refine FJ.know (WS.oform .z) ?_
 rintro ⟨Ao32, co32, rfl, hlo32, hmo32, hbo32⟩
 refine FJ.know (WS.oform (.s .z)) ?_
 rintro ⟨Ao33, co33, rfl, hlo33, hmo33, hbo33⟩
 refine FJ.sk (.s4 (.s4 .z)) ?_
 refine FJ.call (goes_sch rfl rfl) rfl (by decide) rfl (c_call rfl Tryz.func24 rfl rfl (args2 (.t (.s (.s .z))) (.t .z))) .n (fun w1 S1 hs tr => c_24 (kT_26_mk x (tr.own (.s (.s (.s .z)))) (tr.own (.s4 .z))) (kT_26_mk x (tr.own .z) (tr.own (.s .z)))) ?_
 rintro _ _ ⟨rfl, rfl⟩
 refine FJ.cat .n ?_
 refine FJ.sk (.s4 (.s4 .z)) ?_
 refine FJ.dq rfl rfl rfl (by decide) rfl (.s4 (.s4 .z)) (q_not rfl (.t .z)) ?_
 refine FJ.schN ?_
 refine FJ.drawN (by kernel_rfl) ?_
 refine FJ.then_ ?_
 refine FJ.condN (.t .z) (fun b34 => ?_) (fun b34 => ?_)
 refine FJ.seq ?_
 refine FJ.region ?_
 refine FJ.er (.s16 (.s4 (.s4 (.s4 (.s (.s (.s .z))))))) ?_
 refine FJ.ql rfl (q_assign rfl .c) ?_
 refine FJ.nil ?_
 refine FJ.then_ ?_
 refine FJ.ret ?_
 refine FJ.thenR ?_
 refine FJ.doneS (res1 rfl .z) .n ?_
 exfalso; first | exact absurd rfl (by assumption) | omega | (simp_all; done)
 refine FJ.skip ?_
 refine FJ.then_ ?_
 refine FJ.seq ?_
 refine FJ.region ?_
 refine FJ.ql rfl (q_assign rfl .c) ?_
 refine FJ.nil ?_
 refine FJ.then_ ?_
 refine FJ.seq ?_
 refine FJ.region ?_
 refine FJ.ql rfl (q_loadA (cs := [.slice Ao20 x.inodes.length co20, .slice Ao21 x.data.length co21]) rfl ag_26 sz_26 (.t (.s16 .z)) (WS.rows0 (.s4 (.s4 (.s .z))) (fun i u h => by exact h))) ?_
 refine FJ.ql rfl (q_move rfl (.t (.s .z))) ?_
 refine FJ.call (goes_list rfl) rfl (by decide) rfl (c_call rfl Tryz.func25 rfl rfl (args2 (.t (.s .z)) (.t .z))) (.c (.s (.s (.s .z))) (.c (.s (.s (.s .z))) .n)) (fun w1 S1 hs tr => c_25 _ hs (by omega) (by first | omega | (omega))) ?_
 rintro _ _ ⟨rfl, rfl⟩
 refine FJ.cat (.c (.c .n)) ?_
 refine FJ.er (.s (.s (.s .z))) ?_
 refine FJ.ql rfl (q_assign rfl (.t .z)) ?_
 refine FJ.nil ?_
 refine FJ.then_ ?_
 refine FJ.seq ?_
 refine FJ.seq ?_
 refine FJ.region ?_
 refine FJ.ql rfl (q_move rfl (.t .z)) ?_
 refine FJ.ql rfl (q_lss rfl (.t .z) .c) ?_
 refine FJ.ql rfl (q_move rfl (.t .z)) ?_
 refine FJ.caseP .z (fun g35 => ?_) (fun g35 => ?_)
 refine FJ.skipl rfl rfl .z rfl rfl (by decide) rfl ?_
 refine FJ.skipl rfl rfl (.s .z) rfl rfl (by decide) rfl ?_
 refine FJ.skipl rfl rfl (.s (.s .z)) rfl rfl (by decide) rfl ?_
 refine FJ.skipl rfl rfl (.s (.s (.s .z))) rfl rfl (by decide) rfl ?_
 refine FJ.ql rfl (q_pickT rfl (.t (.s4 .z)) .c) ?_
 refine FJ.nil ?_
 refine FJ.then_ ?_
 refine FJ.condT (.t .z) ?_
 refine FJ.seq ?_
 refine FJ.region ?_
 refine FJ.er (.s16 (.s16 (.s4 (.s4 (.s (.s (.s .z))))))) ?_
 refine FJ.ql rfl (q_assign rfl .c) ?_
 refine FJ.nil ?_
 refine FJ.then_ ?_
 refine FJ.ret ?_
 refine FJ.thenR ?_
 refine FJ.doneS (res1 rfl .z) .n ?_
 exfalso; first | exact absurd rfl (by assumption) | omega | (simp_all; done)
 refine FJ.q (goes_listg rfl rfl .z) rfl (by decide) rfl (q_loadA (cs := [.int .i64 ((readR x a b n).code), .slice Ao25 ((readR x a b n).bytes).length co25]) rfl ag_41 sz_41 (.t (.s16 .z)) (WS.rows0 (.s4 (.s4 .z)) (fun i u h => by exact h))) ?_
 refine FJ.q (goes_listg rfl rfl (.s .z)) rfl (by decide) rfl (q_loadA (cs := [.int .i64 ((readR x a b n).code), .slice Ao14 ((readR x a b n).bytes).length co14]) rfl ag_41 sz_41 (.t (.s16 (.s4 (.s4 (.s (.s .z)))))) (WS.rows0 (.s4 (.s4 (.s (.s .z)))) (fun i u h => by exact h))) ?_
 refine FJ.call (goes_listg rfl rfl (.s (.s .z))) rfl (by decide) rfl (c_call rfl Tryz.func23 rfl rfl (args2 (.t (.s .z)) (.t .z))) .n (fun w1 S1 hs tr => c_23 (kT_41_mk (readR x a b n) (tr.own (.s4 .z))) (kT_41_mk (readR x a b n) (tr.own (.s4 (.s .z))))) ?_
 rintro _ _ ⟨rfl, rfl⟩
 refine FJ.cat .n ?_
 refine FJ.q (goes_listg rfl rfl (.s (.s (.s .z)))) rfl (by decide) rfl (q_not rfl (.t .z)) ?_
 refine FJ.ql rfl (q_pickF rfl (.t (.s4 .z)) (.t .z)) ?_
 refine FJ.nil ?_
 refine FJ.then_ ?_
 refine FJ.condN (.t .z) (fun b36 => ?_) (fun b36 => ?_)
 exfalso; first | omega | contradiction
 refine FJ.skip ?_
 refine FJ.then_ ?_
 refine FJ.seq ?_
 refine FJ.region ?_
 refine FJ.ql rfl (q_assign rfl .c) ?_
 refine FJ.nil ?_
 refine FJ.then_ ?_
 refine FJ.seq ?_
 refine FJ.region ?_
 refine FJ.ql rfl (q_loadA (cs := [.int .i64 ((readR x a b n).code), .slice Ao25 ((readR x a b n).bytes).length co25]) rfl ag_41 sz_41 (.t (.s16 (.s4 (.s (.s .z))))) (WS.rows0 (.s4 (.s4 .z)) (fun i u h => by exact h))) ?_
 refine FJ.ql rfl (q_move rfl (.t (.s .z))) ?_
 refine FJ.call (goes_list rfl) rfl (by decide) rfl (c_call rfl Tryz.func26 rfl rfl (args2 (.t (.s .z)) (.t .z))) (.c (.s4 .z) .n) (fun w1 S1 hs tr => c_26 _ hs (by omega) (by first | omega | (omega))) ?_
 rintro _ _ ⟨rfl, rfl⟩
 refine FJ.cat (.c .n) ?_
 refine FJ.er (.s (.s (.s .z))) ?_
 refine FJ.ql rfl (q_assign rfl (.t .z)) ?_
 refine FJ.nil ?_
 refine FJ.then_ ?_
 refine FJ.seq ?_
 refine FJ.region ?_
 refine FJ.ql rfl (q_assign rfl .c) ?_
 refine FJ.nil ?_
 refine FJ.then_ ?_
 refine FJ.seq ?_
 refine FJ.region ?_
 refine FJ.ql rfl (q_loadA (cs := [.int .i64 ((readR x a b n).code), .slice Ao25 ((readR x a b n).bytes).length co25]) rfl ag_41 sz_41 (.t (.s16 (.s4 (.s4 (.s (.s .z)))))) (WS.rows0 (.s4 (.s4 .z)) (fun i u h => by exact h))) ?_
 refine FJ.ql rfl (q_move rfl (.t (.s .z))) ?_
 refine FJ.call (goes_list rfl) rfl (by decide) rfl (c_call rfl Tryz.func27 rfl rfl (args2 (.t (.s .z)) (.t .z))) .n (fun w1 S1 hs tr => c_27 (kT_41_mk (⟨(readR x a b n).code, (vmark_RBytes 1 (readR x a b n)).bytes⟩ : RBytes) (tr.own .z)) _ (readR x a b n) rfl (by omega) (by first | omega | (omega))) ?_
 rintro _ _ ⟨rfl, rfl⟩
 refine FJ.cat .n ?_
 refine FJ.er (.s (.s (.s .z))) ?_
 refine FJ.ql rfl (q_assign rfl (.t .z)) ?_
 refine FJ.nil ?_
 refine FJ.then_ ?_
 refine FJ.seq ?_
 refine FJ.seq ?_
 refine FJ.region ?_
 refine FJ.ql rfl (q_move rfl (.t .z)) ?_
 refine FJ.ql rfl (q_lss rfl (.t .z) .c) ?_
 refine FJ.nil ?_
 refine FJ.then_ ?_
 refine FJ.condP (.t .z) (fun b37 => ?_) (fun b37 => ?_)
 refine FJ.seq ?_
 refine FJ.region ?_
 refine FJ.er (.s16 (.s16 (.s16 (.s4 (.s .z))))) ?_
 refine FJ.ql rfl (q_assign rfl .c) ?_
 refine FJ.nil ?_
 refine FJ.then_ ?_
 refine FJ.ret ?_
 refine FJ.thenR ?_
 refine FJ.doneS (res1 rfl .z) .n ?_
 exfalso; first | exact absurd rfl (by assumption) | omega | (simp_all; done)
 refine FJ.skip ?_
 refine FJ.then_ ?_
 refine FJ.seq ?_
 refine FJ.seq ?_
 refine FJ.region ?_
 refine FJ.ql rfl (q_move rfl (.t (.s (.s .z)))) ?_
 refine FJ.ql rfl (q_move rfl (.t (.s4 (.s (.s (.s .z)))))) ?_
 refine FJ.ql rfl (q_neq rfl (.t (.s .z)) (.t .z)) ?_
 refine FJ.nil ?_
 refine FJ.then_ ?_
 refine FJ.condN (.t .z) (fun b38 => ?_) (fun b38 => ?_)
 refine FJ.seq ?_
 refine FJ.region ?_
 refine FJ.er (.s16 (.s16 (.s16 (.s4 (.s4 .z))))) ?_
 refine FJ.ql rfl (q_assign rfl .c) ?_
 refine FJ.nil ?_
 refine FJ.then_ ?_
 refine FJ.ret ?_
 refine FJ.thenR ?_
 refine FJ.doneS (res1 rfl .z) .n ?_
 exfalso; first | exact absurd rfl (by assumption) | omega | (simp_all; done)
 refine FJ.skip ?_
 refine FJ.then_ ?_
 refine FJ.seq ?_
 refine FJ.region ?_
 refine FJ.ql rfl (q_loadA (cs := [.slice A0_0 x.inodes.length c0_0, .slice A0_1 x.data.length c0_1]) rfl ag_37 sz_37 (.t (.s16 (.s16 (.s16 (.s4 (.s4 (.s .z))))))) (WS.rows0 (.s4 (.s4 (.s (.s (.s .z))))) (fun i u h => by exact h))) ?_
 refine FJ.call (goes_list rfl) rfl (by decide) rfl (c_call rfl Tryz.func21 rfl rfl (args1 (.t .z))) .n (fun w1 S1 hs tr => c_21 (kT_37_mk x (tr.ctx h0_0) (tr.ctx h0_1))) ?_
 rintro _ _ ⟨v39, v41, rfl, rfl⟩
 refine FJ.cat (.c (.c .n)) ?_
 refine FJ.know (WS.oform .z) ?_
 rintro ⟨Ao43, co43, rfl, hlo43, hmo43, hbo43⟩
 refine FJ.know (WS.oform (.s .z)) ?_
 rintro ⟨Ao44, co44, rfl, hlo44, hmo44, hbo44⟩
 refine FJ.ql rfl (q_move rfl (.t (.s16 (.s16 (.s16 (.s4 (.s4 (.s4 (.s .z))))))))) ?_
 refine FJ.ql rfl (q_move rfl (.t (.s16 (.s16 (.s16 (.s4 (.s4 (.s4 (.s (.s (.s .z))))))))))) ?_
 refine FJ.ql rfl (q_move rfl (.t (.s16 (.s16 (.s16 (.s16 (.s .z))))))) ?_
 refine FJ.call (goes_list rfl) rfl (by decide) rfl (c_call rfl Tryz.func29 rfl rfl (args4 (.t (.s (.s (.s .z)))) (.t (.s (.s .z))) (.t (.s .z)) (.t .z))) .n (fun w1 S1 hs tr => c_29 (kT_26_mk x (tr.own .z) (tr.own (.s .z))) _ _ _) ?_
 rintro _ _ ⟨v45, rfl, rfl⟩
 refine FJ.cat (.c .n) ?_
 refine FJ.know (WS.oform .z) ?_
 rintro ⟨Ao47, co47, rfl, hlo47, hmo47, hbo47⟩
 refine FJ.e (goes_list rfl) rfl (by decide) rfl (e_alloc rfl z_41 rfl rfl) ?_
 rintro _ _ ⟨g48, rfl, rfl⟩
 refine FJ.es (goes_list rfl) rfl (es_store (off := 0) (cs := [.int .i64 ((readR x a b n).code), .slice Ao47 ((readR x a b n).bytes).length co47]) rfl sz_41 (.t .z) (.t (.s .z)) rfl (ones rfl) .z (Nat.le_of_ble_eq_true rfl) (.c .z (.c (.s .z) .n))) ?_
 refine FJ.nil ?_
 refine FJ.then_ ?_
 refine FJ.seq ?_
 refine FJ.seq ?_
 refine FJ.region ?_
 refine FJ.ql rfl (q_loadA (cs := [.int .i64 ((readR x a b n).code), .slice Ao47 ((readR x a b n).bytes).length co47]) rfl ag_41 sz_41 (.t .z) (WS.rows0 .z (fun i u h => by exact h))) ?_
 refine FJ.ql rfl (q_loadA (cs := [.int .i64 ((readR x a b n).code), .slice Ao14 ((readR x a b n).bytes).length co14]) rfl ag_41 sz_41 (.t (.s16 (.s16 (.s16 (.s (.s (.s .z))))))) (WS.rows0 (.s4 (.s4 (.s4 (.s (.s .z))))) (fun i u h => by exact h))) ?_
 refine FJ.call (goes_list rfl) rfl (by decide) rfl (c_call rfl Tryz.func23 rfl rfl (args2 (.t (.s .z)) (.t .z))) .n (fun w1 S1 hs tr => c_23 (kT_41_mk (readR x a b n) (tr.own (.s .z))) (kT_41_mk (readR x a b n) (tr.own (.s4 (.s4 (.s .z)))))) ?_
 rintro _ _ ⟨rfl, rfl⟩
 refine FJ.cat .n ?_
 refine FJ.ql rfl (q_not rfl (.t .z)) ?_
 refine FJ.nil ?_
 refine FJ.then_ ?_
 refine FJ.condN (.t .z) (fun b49 => ?_) (fun b49 => ?_)
 exfalso; first | omega | contradiction
 refine FJ.skip ?_
 refine FJ.then_ ?_
 refine FJ.seq ?_
 refine FJ.region ?_
 refine FJ.er (.s16 .z) ?_
 refine FJ.ql rfl (q_assign rfl .c) ?_
 refine FJ.nil ?_
 refine FJ.then_ ?_
 refine FJ.seq ?_
 refine FJ.region ?_
 refine FJ.ql rfl (q_loadA (cs := [.int .i64 ((readR x a b n).code), .slice Ao25 ((readR x a b n).bytes).length co25]) rfl ag_41 sz_41 (.t (.s16 (.s16 (.s4 (.s4 (.s4 (.s .z))))))) (WS.rows0 (.s4 (.s4 (.s4 .z))) (fun i u h => by exact h))) ?_
 refine FJ.ql rfl (q_move rfl (.t (.s .z))) ?_
 refine FJ.call (goes_list rfl) rfl (by decide) rfl (c_call rfl Tryz.func27 rfl rfl (args2 (.t (.s .z)) (.t .z))) .n (fun w1 S1 hs tr => c_27 (kT_41_mk (⟨(readR x a b n).code, (vmark_RBytes 1 (readR x a b n)).bytes⟩ : RBytes) (tr.own (.s4 .z))) _ (readR x a b n) rfl (by omega) (by first | omega | (omega))) ?_
 rintro _ _ ⟨rfl, rfl⟩
 refine FJ.cat .n ?_
 refine FJ.er (.s (.s (.s .z))) ?_
 refine FJ.ql rfl (q_assign rfl (.t .z)) ?_
 refine FJ.nil ?_
 refine FJ.then_ ?_
 refine FJ.seq ?_
 refine FJ.seq ?_
 refine FJ.region ?_
 refine FJ.ql rfl (q_move rfl (.t .z)) ?_
 refine FJ.ql rfl (q_lss rfl (.t .z) .c) ?_
 refine FJ.nil ?_
 refine FJ.then_ ?_
 refine FJ.condP (.t .z) (fun b50 => ?_) (fun b50 => ?_)
 exfalso; first | omega | contradiction
 refine FJ.skip ?_
 refine FJ.then_ ?_
 refine FJ.seq ?_
 refine FJ.seq ?_
 refine FJ.region ?_
 refine FJ.ql rfl (q_move rfl (.t (.s (.s .z)))) ?_
 refine FJ.ql rfl (q_move rfl (.t (.s16 (.s4 (.s4 (.s (.s .z))))))) ?_
 refine FJ.ql rfl (q_neq rfl (.t (.s .z)) (.t .z)) ?_
 refine FJ.nil ?_
 refine FJ.then_ ?_
 refine FJ.condN (.t .z) (fun b51 => ?_) (fun b51 => ?_)
 exfalso; first | omega | contradiction
 refine FJ.skip ?_
 refine FJ.then_ ?_
 refine FJ.seq ?_
 refine FJ.region ?_
 refine FJ.er (.s16 (.s16 (.s16 (.s16 (.s4 (.s4 (.s (.s (.s .z))))))))) ?_
 refine FJ.ql rfl (q_assign rfl .c) ?_
 refine FJ.nil ?_
 refine FJ.then_ ?_
 refine FJ.ret ?_
 refine FJ.doneS (res1 rfl .z) .n ?_
 exact ⟨rfl, rfl⟩

end Go.Proofs.YtbcdcakcmdcafaaGreat

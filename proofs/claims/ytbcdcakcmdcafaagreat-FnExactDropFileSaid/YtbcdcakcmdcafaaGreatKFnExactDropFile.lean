/- What is proved: contracts of functions, one a function. No condition. -/
import Derived.Test.YtbcdcakcmdcafaaGreatW32
import Derived.Test.YtbcdcakcmdcafaaGreatW7
import Derived.Test.YtbcdcakcmdcafaaGreatBase2
namespace Go.Proofs.YtbcdcakcmdcafaaGreat
open Go Go.RowKit
set_option linter.unusedVariables false
set_option linter.unusedSimpArgs false
set_option maxHeartbeats 1000000 in
set_option maxRecDepth 20000 in
theorem c_7 {w0 : World} {S0 : Bs} {x : DFs} {cs0 : List Value} (h0 : kT_37.ro w0 (FF w0 S0) x cs0) (a : Int)  :
    Calls Tryz.prog 7 #[.agg cs0.toArray, .int .i64 a] w0 (TriPost w0 S0 (fun r l => r = .bool true ∧ l = [])) := by
 obtain ⟨u0_0, u0_1, rfl, h0_0, h0_1⟩ := kT_37_ro h0
 obtain ⟨A0_0, c0_0, rfl, hl0_0, hm0_0, hb0_0, he0_0⟩ := ro_form h0_0
 obtain ⟨A0_1, c0_1, rfl, hl0_1, hm0_1, hb0_1, he0_1⟩ := ro_form h0_1
 have hb := dropR_cnt x a
 have hw := fs_cnt_wt x
 refine FJ.enter (N := 74) Tryz.func7 rfl rfl (by simp) [(0, .agg #[.slice A0_0 x.inodes.length c0_0, .slice A0_1 x.data.length c0_1]), (1, .int .i64 a)] (by simp) (l0 := []) trivial ?_
 refine FJ.seq ?_
 refine FJ.region ?_
 refine FJ.e (goes_list rfl) rfl (by decide) rfl (e_box (cs := [.slice A0_0 x.inodes.length c0_0, .slice A0_1 x.data.length c0_1]) (n := 2) rfl (.t .z) rfl rfl) ?_
 rintro _ _ ⟨g3, rfl, rfl⟩
 refine FJ.ql rfl (q_assign rfl .c) ?_
 refine FJ.nil ?_
 refine FJ.then_ ?_
 refine FJ.seq ?_
 refine FJ.region ?_
 refine FJ.ql rfl (q_assign rfl .c) ?_
 refine FJ.nil ?_
 refine FJ.then_ ?_
 refine FJ.seq ?_
 refine FJ.region ?_
 refine FJ.ql rfl (q_loadA (cs := [.slice A0_0 x.inodes.length c0_0, .slice A0_1 x.data.length c0_1]) rfl ag_37 sz_37 (.t (.s (.s .z))) (WS.rows0 .z (fun i u h => by exact h))) ?_
 refine FJ.ql rfl (q_move rfl (.t (.s .z))) ?_
 refine FJ.call (goes_list rfl) rfl (by decide) rfl (c_call rfl Tryz.func19 rfl rfl (args2 (.t (.s .z)) (.t .z))) .n (fun w1 S1 hs tr => c_19 (kT_37_mk x (tr.ctx h0_0) (tr.ctx h0_1)) _ (by omega) (by omega)) ?_
 rintro _ _ ⟨c4, rfl, hc4, wc4, rfl⟩
 refine FJ.cat .n ?_
 refine FJ.er (.s (.s (.s .z))) ?_
 refine FJ.ql rfl (q_assign rfl (.t .z)) ?_
 refine FJ.nil ?_
 refine FJ.then_ ?_
 refine FJ.seq ?_
 refine FJ.seq ?_
 refine FJ.region ?_
 refine FJ.ql rfl (q_move rfl (.t .z)) ?_
 refine FJ.ql rfl (q_lss rfl (.t .z) .c) ?_
 refine FJ.nil ?_
 refine FJ.then_ ?_
 refine FJ.condP (.t .z) (fun b5 => ?_) (fun b5 => ?_)
 refine FJ.seq ?_
 refine FJ.region ?_
 refine FJ.er (.s4 (.s (.s .z))) ?_
 refine FJ.ql rfl (q_assign rfl .c) ?_
 refine FJ.nil ?_
 refine FJ.then_ ?_
 refine FJ.ret ?_
 refine FJ.thenR ?_
 refine FJ.doneS (res1 rfl .z) .n ?_
 exact ⟨rfl, rfl⟩
 refine FJ.skip ?_
 refine FJ.then_ ?_
 refine FJ.seq ?_
 refine FJ.region ?_
 refine FJ.ql rfl (q_loadA (cs := [.slice A0_0 x.inodes.length c0_0, .slice A0_1 x.data.length c0_1]) rfl ag_37 sz_37 (.t (.s4 (.s (.s (.s .z))))) (WS.rows0 .z (fun i u h => by exact h))) ?_
 refine FJ.call (goes_list rfl) rfl (by decide) rfl (c_call rfl Tryz.func21 rfl rfl (args1 (.t .z))) .n (fun w1 S1 hs tr => c_21 (kT_37_mk x (tr.ctx h0_0) (tr.ctx h0_1))) ?_
 rintro _ _ ⟨v6, v8, rfl, rfl⟩
 refine FJ.cat (.c (.c .n)) ?_
 refine FJ.know (WS.oform .z) ?_
 rintro ⟨Ao10, co10, rfl, hlo10, hmo10, hbo10⟩
 refine FJ.know (WS.oform (.s .z)) ?_
 rintro ⟨Ao11, co11, rfl, hlo11, hmo11, hbo11⟩
 refine FJ.ql rfl (q_move rfl (.t (.s4 (.s4 (.s (.s (.s .z))))))) ?_
 refine FJ.call (goes_list rfl) rfl (by decide) rfl (c_call rfl Tryz.func32 rfl rfl (args2 (.t (.s .z)) (.t .z))) .n (fun w1 S1 hs tr => c_32 (kT_26_mk x (tr.own .z) (tr.own (.s .z))) _) ?_
 rintro _ _ ⟨v12, v14, rfl, rfl⟩
 refine FJ.cat (.c (.c .n)) ?_
 refine FJ.know (WS.oform .z) ?_
 rintro ⟨Ao16, co16, rfl, hlo16, hmo16, hbo16⟩
 refine FJ.know (WS.oform (.s .z)) ?_
 rintro ⟨Ao17, co17, rfl, hlo17, hmo17, hbo17⟩
 refine FJ.e (goes_list rfl) rfl (by decide) rfl (e_alloc rfl z_28 rfl rfl) ?_
 rintro _ _ ⟨g18, rfl, rfl⟩
 refine FJ.es (goes_list rfl) rfl (es_store (off := 0) (cs := [.int .i64 ((dropR x a).code), .slice Ao16 ((dropR x a).fs.inodes).length co16, .slice Ao17 ((dropR x a).fs.data).length co17]) rfl sz_28 (.t .z) (.t (.s .z)) rfl (ones rfl) .z (Nat.le_of_ble_eq_true rfl) (.c .z (.c (.s .z) (.c (.s (.s .z)) .n)))) ?_
 refine FJ.nil ?_
 refine FJ.then_ ?_
 refine FJ.seq ?_
 refine FJ.region ?_
 refine FJ.ql rfl (q_loadA (cs := [.slice A0_0 x.inodes.length c0_0, .slice A0_1 x.data.length c0_1]) rfl ag_37 sz_37 (.t (.s4 (.s4 (.s4 .z)))) (WS.rows0 (.s4 (.s .z)) (fun i u h => by exact h))) ?_
 refine FJ.call (goes_list rfl) rfl (by decide) rfl (c_call rfl Tryz.func21 rfl rfl (args1 (.t .z))) .n (fun w1 S1 hs tr => c_21 (kT_37_mk x (tr.ctx h0_0) (tr.ctx h0_1))) ?_
 rintro _ _ ⟨v19, v21, rfl, rfl⟩
 refine FJ.cat (.c (.c .n)) ?_
 refine FJ.know (WS.oform .z) ?_
 rintro ⟨Ao23, co23, rfl, hlo23, hmo23, hbo23⟩
 refine FJ.know (WS.oform (.s .z)) ?_
 rintro ⟨Ao24, co24, rfl, hlo24, hmo24, hbo24⟩
 refine FJ.e (goes_list rfl) rfl (by decide) rfl (e_alloc rfl z_26 rfl rfl) ?_
 rintro _ _ ⟨g25, rfl, rfl⟩
 refine FJ.es (goes_list rfl) rfl (es_store (off := 0) (cs := [.slice Ao23 x.inodes.length co23, .slice Ao24 x.data.length co24]) rfl sz_26 (.t .z) (.t (.s .z)) rfl (ones rfl) .z (Nat.le_of_ble_eq_true rfl) (.c .z (.c (.s .z) .n))) ?_
 refine FJ.nil ?_
 refine FJ.then_ ?_
 refine FJ.seq ?_
 refine FJ.region ?_
 refine FJ.ql rfl (q_loadA (cs := [.slice Ao23 x.inodes.length co23, .slice Ao24 x.data.length co24]) rfl ag_26 sz_26 (.t .z) (WS.rows0 .z (fun i u h => by exact h))) ?_
 refine FJ.ql rfl (q_move rfl (.t (.s16 (.s (.s .z))))) ?_
 refine FJ.call (goes_list rfl) rfl (by decide) rfl (c_call rfl Tryz.func33 rfl rfl (args2 (.t (.s .z)) (.t .z))) .n (fun w1 S1 hs tr => c_33 (kT_26_mk x (tr.own (.s .z)) (tr.own (.s (.s .z)))) _) ?_
 rintro _ _ ⟨v26, v28, rfl, rfl⟩
 refine FJ.cat (.c (.c .n)) ?_
 refine FJ.know (WS.oform .z) ?_
 rintro ⟨Ao30, co30, rfl, hlo30, hmo30, hbo30⟩
 refine FJ.know (WS.oform (.s .z)) ?_
 rintro ⟨Ao31, co31, rfl, hlo31, hmo31, hbo31⟩
 refine FJ.e (goes_list rfl) rfl (by decide) rfl (e_alloc rfl z_28 rfl rfl) ?_
 rintro _ _ ⟨g32, rfl, rfl⟩
 refine FJ.es (goes_list rfl) rfl (es_store (off := 0) (cs := [.int .i64 ((dropR x a).code), .slice Ao30 ((dropR x a).fs.inodes).length co30, .slice Ao31 ((dropR x a).fs.data).length co31]) rfl sz_28 (.t .z) (.t (.s .z)) rfl (ones rfl) .z (Nat.le_of_ble_eq_true rfl) (.c .z (.c (.s .z) (.c (.s (.s .z)) .n)))) ?_
 refine FJ.nil ?_
 refine FJ.then_ ?_
 refine FJ.seq ?_
 refine FJ.seq ?_
 refine FJ.region ?_
 refine FJ.ql rfl (q_loadA (cs := [.int .i64 ((dropR x a).code), .slice Ao30 ((dropR x a).fs.inodes).length co30, .slice Ao31 ((dropR x a).fs.data).length co31]) rfl ag_28 sz_28 (.t .z) (WS.rows0 .z (fun i u h => by exact h))) ?_
 refine FJ.ql rfl (q_loadA (cs := [.int .i64 ((dropR x a).code), .slice Ao16 ((dropR x a).fs.inodes).length co16, .slice Ao17 ((dropR x a).fs.data).length co17]) rfl ag_28 sz_28 (.t (.s4 (.s4 .z))) (WS.rows0 (.s4 (.s (.s .z))) (fun i u h => by exact h))) ?_
 refine FJ.call (goes_list rfl) rfl (by decide) rfl (c_call rfl Tryz.func14 rfl rfl (args2 (.t (.s .z)) (.t .z))) .n (fun w1 S1 hs tr => c_14 (kT_28_mk (dropR x a) (tr.own (.s .z)) (tr.own (.s (.s .z)))) (kT_28_mk (dropR x a) (tr.own (.s4 (.s (.s (.s .z))))) (tr.own (.s4 (.s4 .z))))) ?_
 rintro _ _ ⟨rfl, rfl⟩
 refine FJ.cat .n ?_
 refine FJ.ql rfl (q_not rfl (.t .z)) ?_
 refine FJ.nil ?_
 refine FJ.then_ ?_
 refine FJ.condN (.t .z) (fun b33 => ?_) (fun b33 => ?_)
 refine FJ.seq ?_
 refine FJ.region ?_
 refine FJ.er (.s16 (.s4 (.s (.s .z)))) ?_
 refine FJ.ql rfl (q_assign rfl .c) ?_
 refine FJ.nil ?_
 refine FJ.then_ ?_
 refine FJ.ret ?_
 refine FJ.thenR ?_
 refine FJ.doneS (res1 rfl .z) .n ?_
 exfalso; first | exact absurd rfl (by assumption) | omega | (simp_all; done)
 refine FJ.skip ?_
 refine FJ.then_ ?_
 refine FJ.seq ?_
 refine FJ.seq ?_
 refine FJ.sel (.c (.s .z) (.c (.s .z) (.c (.s (.s .z)) (.c (.s (.s .z)) (.c (.s (.s (.s .z))) (.c (.s (.s (.s .z))) (.c (.s (.s (.s .z))) (.c (.s (.s (.s .z))) (.c .z (.c .z (.c .z (.c .z .n)))))))))))) ?_
 refine FJ.draw [rowA g32 28 3 1 [.int .i64 ((dropR x a).code), .slice Ao30 ((dropR x a).fs.inodes).length co30, .slice Ao31 ((dropR x a).fs.data).length co31], rowA g25 26 2 1 [.slice Ao23 x.inodes.length co23, .slice Ao24 x.data.length co24], rowA g18 28 3 1 [.int .i64 ((dropR x a).code), .slice Ao16 ((dropR x a).fs.inodes).length co16, .slice Ao17 ((dropR x a).fs.data).length co17], rowA g3 37 2 1 [.slice A0_0 x.inodes.length c0_0, .slice A0_1 x.data.length c0_1]] 5 (by kernel_rfl) ?_
 refine FJ.sch [(0, true), (1, true), (2, false), (3, false), (4, true)] 0 #[true, true, true, true, true] (by rfl) (by kernel_rfl) ?_
 refine FJ.dq rfl rfl rfl (by decide) rfl (.s4 (.s4 .z)) (q_loadA (cs := [.slice Ao23 x.inodes.length co23, .slice Ao24 x.data.length co24]) rfl ag_26 sz_26 (.t (.s4 (.s4 .z))) (WS.rows0 (.s .z) (fun i u h => by exact h))) ?_
 refine FJ.dq rfl rfl rfl (by decide) rfl (.s4 (.s4 .z)) (q_loadA (cs := [.slice A0_0 x.inodes.length c0_0, .slice A0_1 x.data.length c0_1]) rfl ag_37 sz_37 (.t (.s16 (.s4 (.s4 .z)))) (WS.rows0 (.s (.s (.s .z))) (fun i u h => by exact h))) ?_
 refine FJ.call (goes_sch rfl rfl) rfl (by decide) rfl (c_call rfl Tryz.func21 rfl rfl (args1 (.t .z))) .n (fun w1 S1 hs tr => c_21 (kT_37_mk x (tr.ctx h0_0) (tr.ctx h0_1))) ?_
 rintro _ _ ⟨v34, v36, rfl, rfl⟩
 refine FJ.cat (.c (.c .n)) ?_
 refine FJ.know (WS.oform .z) ?_
 rintro ⟨Ao38, co38, rfl, hlo38, hmo38, hbo38⟩
 refine FJ.know (WS.oform (.s .z)) ?_
 rintro ⟨Ao39, co39, rfl, hlo39, hmo39, hbo39⟩
 refine FJ.sk (.s4 (.s4 (.s (.s .z)))) ?_
 refine FJ.call (goes_sch rfl rfl) rfl (by decide) rfl (c_call rfl Tryz.func24 rfl rfl (args2 (.t (.s (.s .z))) (.t .z))) .n (fun w1 S1 hs tr => c_24 (kT_26_mk x (tr.own (.s4 .z)) (tr.own (.s4 (.s .z)))) (kT_26_mk x (tr.own .z) (tr.own (.s .z)))) ?_
 rintro _ _ ⟨rfl, rfl⟩
 refine FJ.cat .n ?_
 refine FJ.sk (.s4 (.s4 (.s (.s .z)))) ?_
 refine FJ.dq rfl rfl rfl (by decide) rfl (.s4 (.s4 (.s (.s .z)))) (q_not rfl (.t .z)) ?_
 refine FJ.schN ?_
 refine FJ.drawN (by kernel_rfl) ?_
 refine FJ.then_ ?_
 refine FJ.condN (.t .z) (fun b40 => ?_) (fun b40 => ?_)
 refine FJ.seq ?_
 refine FJ.region ?_
 refine FJ.er (.s16 (.s4 (.s4 (.s (.s (.s .z)))))) ?_
 refine FJ.ql rfl (q_assign rfl .c) ?_
 refine FJ.nil ?_
 refine FJ.then_ ?_
 refine FJ.ret ?_
 refine FJ.thenR ?_
 refine FJ.doneS (res1 rfl .z) .n ?_
 exfalso; first | exact absurd rfl (by assumption) | omega | (simp_all; done)
 refine FJ.skip ?_
 refine FJ.then_ ?_
 refine FJ.seq ?_
 refine FJ.region ?_
 refine FJ.ql rfl (q_assign rfl .c) ?_
 refine FJ.nil ?_
 refine FJ.then_ ?_
 refine FJ.seq ?_
 refine FJ.region ?_
 refine FJ.ql rfl (q_loadA (cs := [.slice Ao23 x.inodes.length co23, .slice Ao24 x.data.length co24]) rfl ag_26 sz_26 (.t (.s4 (.s4 (.s4 (.s (.s .z)))))) (WS.rows0 (.s4 (.s4 (.s (.s (.s .z))))) (fun i u h => by exact h))) ?_
 refine FJ.ql rfl (q_move rfl (.t (.s .z))) ?_
 refine FJ.call (goes_list rfl) rfl (by decide) rfl (c_call rfl Tryz.func25 rfl rfl (args2 (.t (.s .z)) (.t .z))) (.c (.s4 .z) (.c (.s4 .z) .n)) (fun w1 S1 hs tr => c_25 _ hs (by omega) (by first | omega | (omega))) ?_
 rintro _ _ ⟨rfl, rfl⟩
 refine FJ.cat (.c (.c .n)) ?_
 refine FJ.er (.s (.s (.s .z))) ?_
 refine FJ.ql rfl (q_assign rfl (.t .z)) ?_
 refine FJ.nil ?_
 refine FJ.then_ ?_
 refine FJ.seq ?_
 refine FJ.seq ?_
 refine FJ.region ?_
 refine FJ.ql rfl (q_move rfl (.t .z)) ?_
 refine FJ.ql rfl (q_lss rfl (.t .z) .c) ?_
 refine FJ.ql rfl (q_move rfl (.t .z)) ?_
 refine FJ.caseP .z (fun g41 => ?_) (fun g41 => ?_)
 refine FJ.skipl rfl rfl .z rfl rfl (by decide) rfl ?_
 refine FJ.skipl rfl rfl (.s .z) rfl rfl (by decide) rfl ?_
 refine FJ.skipl rfl rfl (.s (.s .z)) rfl rfl (by decide) rfl ?_
 refine FJ.skipl rfl rfl (.s (.s (.s .z))) rfl rfl (by decide) rfl ?_
 refine FJ.ql rfl (q_pickT rfl (.t (.s4 .z)) .c) ?_
 refine FJ.nil ?_
 refine FJ.then_ ?_
 refine FJ.condT (.t .z) ?_
 refine FJ.seq ?_
 refine FJ.region ?_
 refine FJ.er (.s16 (.s16 (.s4 (.s (.s (.s .z)))))) ?_
 refine FJ.ql rfl (q_assign rfl .c) ?_
 refine FJ.nil ?_
 refine FJ.then_ ?_
 refine FJ.ret ?_
 refine FJ.thenR ?_
 refine FJ.doneS (res1 rfl .z) .n ?_
 exfalso; first | exact absurd rfl (by assumption) | omega | (simp_all; done)
 refine FJ.q (goes_listg rfl rfl .z) rfl (by decide) rfl (q_loadA (cs := [.int .i64 ((dropR x a).code), .slice Ao30 ((dropR x a).fs.inodes).length co30, .slice Ao31 ((dropR x a).fs.data).length co31]) rfl ag_28 sz_28 (.t (.s16 .z)) (WS.rows0 (.s4 (.s4 (.s (.s .z)))) (fun i u h => by exact h))) ?_
 refine FJ.q (goes_listg rfl rfl (.s .z)) rfl (by decide) rfl (q_loadA (cs := [.int .i64 ((dropR x a).code), .slice Ao16 ((dropR x a).fs.inodes).length co16, .slice Ao17 ((dropR x a).fs.data).length co17]) rfl ag_28 sz_28 (.t (.s16 (.s4 (.s4 .z)))) (WS.rows0 (.s4 (.s4 (.s4 .z))) (fun i u h => by exact h))) ?_
 refine FJ.call (goes_listg rfl rfl (.s (.s .z))) rfl (by decide) rfl (c_call rfl Tryz.func14 rfl rfl (args2 (.t (.s .z)) (.t .z))) .n (fun w1 S1 hs tr => c_14 (kT_28_mk (dropR x a) (tr.own (.s4 .z)) (tr.own (.s4 (.s .z)))) (kT_28_mk (dropR x a) (tr.own (.s4 (.s (.s .z)))) (tr.own (.s4 (.s (.s (.s .z))))))) ?_
 rintro _ _ ⟨rfl, rfl⟩
 refine FJ.cat .n ?_
 refine FJ.q (goes_listg rfl rfl (.s (.s (.s .z)))) rfl (by decide) rfl (q_not rfl (.t .z)) ?_
 refine FJ.ql rfl (q_pickF rfl (.t (.s4 .z)) (.t .z)) ?_
 refine FJ.nil ?_
 refine FJ.then_ ?_
 refine FJ.condN (.t .z) (fun b42 => ?_) (fun b42 => ?_)
 exfalso; first | omega | contradiction
 refine FJ.skip ?_
 refine FJ.then_ ?_
 refine FJ.seq ?_
 refine FJ.region ?_
 refine FJ.ql rfl (q_assign rfl .c) ?_
 refine FJ.nil ?_
 refine FJ.then_ ?_
 refine FJ.seq ?_
 refine FJ.region ?_
 refine FJ.ql rfl (q_loadA (cs := [.int .i64 ((dropR x a).code), .slice Ao30 ((dropR x a).fs.inodes).length co30, .slice Ao31 ((dropR x a).fs.data).length co31]) rfl ag_28 sz_28 (.t (.s16 (.s4 (.s (.s .z))))) (WS.rows0 (.s4 (.s4 (.s (.s .z)))) (fun i u h => by exact h))) ?_
 refine FJ.ql rfl (q_move rfl (.t (.s .z))) ?_
 refine FJ.call (goes_list rfl) rfl (by decide) rfl (c_call rfl Tryz.func17 rfl rfl (args2 (.t (.s .z)) (.t .z))) (.c (.s4 .z) (.c (.s4 .z) .n)) (fun w1 S1 hs tr => c_17 _ hs (by omega) (by first | omega | (omega))) ?_
 rintro _ _ ⟨rfl, rfl⟩
 refine FJ.cat (.c (.c .n)) ?_
 refine FJ.er (.s (.s (.s .z))) ?_
 refine FJ.ql rfl (q_assign rfl (.t .z)) ?_
 refine FJ.nil ?_
 refine FJ.then_ ?_
 refine FJ.seq ?_
 refine FJ.region ?_
 refine FJ.ql rfl (q_assign rfl .c) ?_
 refine FJ.nil ?_
 refine FJ.then_ ?_
 refine FJ.seq ?_
 refine FJ.region ?_
 refine FJ.ql rfl (q_loadA (cs := [.int .i64 ((dropR x a).code), .slice Ao30 ((dropR x a).fs.inodes).length co30, .slice Ao31 ((dropR x a).fs.data).length co31]) rfl ag_28 sz_28 (.t (.s16 (.s4 (.s4 (.s (.s .z)))))) (WS.rows0 (.s4 (.s4 (.s (.s .z)))) (fun i u h => by exact h))) ?_
 refine FJ.ql rfl (q_move rfl (.t (.s .z))) ?_
 refine FJ.call (goes_list rfl) rfl (by decide) rfl (c_call rfl Tryz.func18 rfl rfl (args2 (.t (.s .z)) (.t .z))) .n (fun w1 S1 hs tr => c_18 (kT_28_mk (⟨(dropR x a).code, (⟨(vmark_RFs 1 (dropR x a)).fs.inodes, (vmark_RFs 1 (dropR x a)).fs.data⟩ : DFs)⟩ : RFs) (tr.own .z) (tr.own (.s .z))) _ (dropR x a) rfl (by omega) (by first | omega | (omega))) ?_
 rintro _ _ ⟨rfl, rfl⟩
 refine FJ.cat .n ?_
 refine FJ.er (.s (.s (.s .z))) ?_
 refine FJ.ql rfl (q_assign rfl (.t .z)) ?_
 refine FJ.nil ?_
 refine FJ.then_ ?_
 refine FJ.seq ?_
 refine FJ.seq ?_
 refine FJ.region ?_
 refine FJ.ql rfl (q_move rfl (.t .z)) ?_
 refine FJ.ql rfl (q_lss rfl (.t .z) .c) ?_
 refine FJ.nil ?_
 refine FJ.then_ ?_
 refine FJ.condP (.t .z) (fun b43 => ?_) (fun b43 => ?_)
 refine FJ.seq ?_
 refine FJ.region ?_
 refine FJ.er (.s16 (.s16 (.s16 (.s .z)))) ?_
 refine FJ.ql rfl (q_assign rfl .c) ?_
 refine FJ.nil ?_
 refine FJ.then_ ?_
 refine FJ.ret ?_
 refine FJ.thenR ?_
 refine FJ.doneS (res1 rfl .z) .n ?_
 exfalso; first | exact absurd rfl (by assumption) | omega | (simp_all; done)
 refine FJ.skip ?_
 refine FJ.then_ ?_
 refine FJ.seq ?_
 refine FJ.seq ?_
 refine FJ.region ?_
 refine FJ.ql rfl (q_move rfl (.t (.s (.s .z)))) ?_
 refine FJ.ql rfl (q_move rfl (.t (.s4 (.s (.s (.s .z)))))) ?_
 refine FJ.ql rfl (q_neq rfl (.t (.s .z)) (.t .z)) ?_
 refine FJ.nil ?_
 refine FJ.then_ ?_
 refine FJ.condN (.t .z) (fun b44 => ?_) (fun b44 => ?_)
 refine FJ.seq ?_
 refine FJ.region ?_
 refine FJ.er (.s16 (.s16 (.s16 (.s4 .z)))) ?_
 refine FJ.ql rfl (q_assign rfl .c) ?_
 refine FJ.nil ?_
 refine FJ.then_ ?_
 refine FJ.ret ?_
 refine FJ.thenR ?_
 refine FJ.doneS (res1 rfl .z) .n ?_
 exfalso; first | exact absurd rfl (by assumption) | omega | (simp_all; done)
 refine FJ.skip ?_
 refine FJ.then_ ?_
 refine FJ.seq ?_
 refine FJ.region ?_
 refine FJ.ql rfl (q_loadA (cs := [.slice A0_0 x.inodes.length c0_0, .slice A0_1 x.data.length c0_1]) rfl ag_37 sz_37 (.t (.s16 (.s16 (.s16 (.s4 (.s .z)))))) (WS.rows0 (.s4 (.s4 (.s4 (.s .z)))) (fun i u h => by exact h))) ?_
 refine FJ.call (goes_list rfl) rfl (by decide) rfl (c_call rfl Tryz.func21 rfl rfl (args1 (.t .z))) .n (fun w1 S1 hs tr => c_21 (kT_37_mk x (tr.ctx h0_0) (tr.ctx h0_1))) ?_
 rintro _ _ ⟨v45, v47, rfl, rfl⟩
 refine FJ.cat (.c (.c .n)) ?_
 refine FJ.know (WS.oform .z) ?_
 rintro ⟨Ao49, co49, rfl, hlo49, hmo49, hbo49⟩
 refine FJ.know (WS.oform (.s .z)) ?_
 rintro ⟨Ao50, co50, rfl, hlo50, hmo50, hbo50⟩
 refine FJ.ql rfl (q_move rfl (.t (.s16 (.s16 (.s16 (.s4 (.s4 (.s .z)))))))) ?_
 refine FJ.call (goes_list rfl) rfl (by decide) rfl (c_call rfl Tryz.func33 rfl rfl (args2 (.t (.s .z)) (.t .z))) .n (fun w1 S1 hs tr => c_33 (kT_26_mk x (tr.own .z) (tr.own (.s .z))) _) ?_
 rintro _ _ ⟨v51, v53, rfl, rfl⟩
 refine FJ.cat (.c (.c .n)) ?_
 refine FJ.know (WS.oform .z) ?_
 rintro ⟨Ao55, co55, rfl, hlo55, hmo55, hbo55⟩
 refine FJ.know (WS.oform (.s .z)) ?_
 rintro ⟨Ao56, co56, rfl, hlo56, hmo56, hbo56⟩
 refine FJ.e (goes_list rfl) rfl (by decide) rfl (e_alloc rfl z_28 rfl rfl) ?_
 rintro _ _ ⟨g57, rfl, rfl⟩
 refine FJ.es (goes_list rfl) rfl (es_store (off := 0) (cs := [.int .i64 ((dropR x a).code), .slice Ao55 ((dropR x a).fs.inodes).length co55, .slice Ao56 ((dropR x a).fs.data).length co56]) rfl sz_28 (.t .z) (.t (.s .z)) rfl (ones rfl) .z (Nat.le_of_ble_eq_true rfl) (.c .z (.c (.s .z) (.c (.s (.s .z)) .n)))) ?_
 refine FJ.nil ?_
 refine FJ.then_ ?_
 refine FJ.seq ?_
 refine FJ.seq ?_
 refine FJ.region ?_
 refine FJ.ql rfl (q_loadA (cs := [.int .i64 ((dropR x a).code), .slice Ao55 ((dropR x a).fs.inodes).length co55, .slice Ao56 ((dropR x a).fs.data).length co56]) rfl ag_28 sz_28 (.t .z) (WS.rows0 .z (fun i u h => by exact h))) ?_
 refine FJ.ql rfl (q_loadA (cs := [.int .i64 ((dropR x a).code), .slice Ao16 ((dropR x a).fs.inodes).length co16, .slice Ao17 ((dropR x a).fs.data).length co17]) rfl ag_28 sz_28 (.t (.s16 (.s16 (.s4 (.s4 (.s4 (.s (.s (.s .z))))))))) (WS.rows0 (.s16 (.s .z)) (fun i u h => by exact h))) ?_
 refine FJ.call (goes_list rfl) rfl (by decide) rfl (c_call rfl Tryz.func14 rfl rfl (args2 (.t (.s .z)) (.t .z))) .n (fun w1 S1 hs tr => c_14 (kT_28_mk (dropR x a) (tr.own (.s .z)) (tr.own (.s (.s .z)))) (kT_28_mk (dropR x a) (tr.own (.s4 (.s4 (.s (.s (.s .z)))))) (tr.own (.s4 (.s4 (.s4 .z)))))) ?_
 rintro _ _ ⟨rfl, rfl⟩
 refine FJ.cat .n ?_
 refine FJ.ql rfl (q_not rfl (.t .z)) ?_
 refine FJ.nil ?_
 refine FJ.then_ ?_
 refine FJ.condN (.t .z) (fun b58 => ?_) (fun b58 => ?_)
 exfalso; first | omega | contradiction
 refine FJ.skip ?_
 refine FJ.then_ ?_
 refine FJ.seq ?_
 refine FJ.region ?_
 refine FJ.er (.s4 (.s4 (.s4 (.s (.s .z))))) ?_
 refine FJ.ql rfl (q_assign rfl .c) ?_
 refine FJ.nil ?_
 refine FJ.then_ ?_
 refine FJ.seq ?_
 refine FJ.region ?_
 refine FJ.ql rfl (q_loadA (cs := [.int .i64 ((dropR x a).code), .slice Ao30 ((dropR x a).fs.inodes).length co30, .slice Ao31 ((dropR x a).fs.data).length co31]) rfl ag_28 sz_28 (.t (.s16 (.s16 (.s4 (.s4 (.s (.s (.s .z)))))))) (WS.rows0 (.s4 (.s4 (.s4 (.s (.s (.s .z)))))) (fun i u h => by exact h))) ?_
 refine FJ.ql rfl (q_move rfl (.t (.s .z))) ?_
 refine FJ.call (goes_list rfl) rfl (by decide) rfl (c_call rfl Tryz.func18 rfl rfl (args2 (.t (.s .z)) (.t .z))) .n (fun w1 S1 hs tr => c_18 (kT_28_mk (⟨(dropR x a).code, (⟨(vmark_RFs 1 (dropR x a)).fs.inodes, (vmark_RFs 1 (dropR x a)).fs.data⟩ : DFs)⟩ : RFs) (tr.own (.s4 (.s .z))) (tr.own (.s4 (.s (.s .z))))) _ (dropR x a) rfl (by omega) (by first | omega | (omega))) ?_
 rintro _ _ ⟨rfl, rfl⟩
 refine FJ.cat .n ?_
 refine FJ.er (.s (.s (.s .z))) ?_
 refine FJ.ql rfl (q_assign rfl (.t .z)) ?_
 refine FJ.nil ?_
 refine FJ.then_ ?_
 refine FJ.seq ?_
 refine FJ.seq ?_
 refine FJ.region ?_
 refine FJ.ql rfl (q_move rfl (.t .z)) ?_
 refine FJ.ql rfl (q_lss rfl (.t .z) .c) ?_
 refine FJ.nil ?_
 refine FJ.then_ ?_
 refine FJ.condP (.t .z) (fun b59 => ?_) (fun b59 => ?_)
 exfalso; first | omega | contradiction
 refine FJ.skip ?_
 refine FJ.then_ ?_
 refine FJ.seq ?_
 refine FJ.seq ?_
 refine FJ.region ?_
 refine FJ.ql rfl (q_move rfl (.t (.s (.s .z)))) ?_
 refine FJ.ql rfl (q_move rfl (.t (.s16 (.s4 (.s4 .z))))) ?_
 refine FJ.ql rfl (q_neq rfl (.t (.s .z)) (.t .z)) ?_
 refine FJ.nil ?_
 refine FJ.then_ ?_
 refine FJ.condN (.t .z) (fun b60 => ?_) (fun b60 => ?_)
 exfalso; first | omega | contradiction
 refine FJ.skip ?_
 refine FJ.then_ ?_
 refine FJ.seq ?_
 refine FJ.region ?_
 refine FJ.er (.s16 (.s16 (.s16 (.s16 (.s4 (.s .z)))))) ?_
 refine FJ.ql rfl (q_assign rfl .c) ?_
 refine FJ.nil ?_
 refine FJ.then_ ?_
 refine FJ.ret ?_
 refine FJ.doneS (res1 rfl .z) .n ?_
 exact ⟨rfl, rfl⟩

end Go.Proofs.YtbcdcakcmdcafaaGreat

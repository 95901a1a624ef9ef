/- What is proved: contracts of functions, one a function. No condition. -/
import Derived.Test.YticaddophhggoaaGreatW41
import Derived.Test.YticaddophhggoaaGreatW7
import Derived.Test.YticaddophhggoaaGreatBase2
namespace Go.Proofs.YticaddophhggoaaGreat
open Go Go.RowKit
set_option linter.unusedVariables false
set_option linter.unusedSimpArgs false
set_option maxHeartbeats 1000000 in
set_option maxRecDepth 20000 in
theorem c_5 {w0 : World} {S0 : Bs} {x : DFs} {cs0 : List Value} (h0 : kT_25.ro w0 (FF w0 S0) x cs0) (a : Int) (n : Int) {b : (List Int)} {v3 : Value} (h3 : kSl_2.ro w0 (FF w0 S0) b [v3])  :
    Calls Tryz.prog 5 #[.agg cs0.toArray, .int .i64 a, .int .i64 n, v3] w0 (TriPost w0 S0 (fun r l => r = .bool true ∧ l = [])) := by
 obtain ⟨u0_0, u0_1, rfl, h0_0, h0_1⟩ := kT_25_ro h0
 obtain ⟨A0_0, c0_0, rfl, hl0_0, hm0_0, hb0_0, he0_0⟩ := ro_form h0_0
 obtain ⟨A0_1, c0_1, rfl, hl0_1, hm0_1, hb0_1, he0_1⟩ := ro_form h0_1
 obtain ⟨A3, c3, rfl, hl3, hm3, hb3, he3⟩ := ro_form h3
 have hb := cutR_cnt x a n b
 have hw := fs_cnt_wt x
 refine FJ.enter (N := 100) Tryz.func5 rfl rfl (by simp) [(0, .agg #[.slice A0_0 x.inodes.length c0_0, .slice A0_1 x.data.length c0_1]), (1, .int .i64 a), (2, .int .i64 n), (3, .slice A3 b.length c3)] (by simp) (l0 := []) trivial ?_
 refine FJ.seq (FJ.region ?_)
 refine FJ.e (goes_list rfl) rfl (by decide) rfl (e_box (cs := [.slice A0_0 x.inodes.length c0_0, .slice A0_1 x.data.length c0_1]) (n := 2) rfl (.t .z) rfl rfl) ?_
 rintro _ _ ⟨g4, rfl, rfl⟩
 refine FJ.ql rfl (q_assign rfl .c) (FJ.nil (FJ.then_ (FJ.seq (FJ.seq ?_))))
 refine FJ.region (FJ.ql rfl (q_move rfl (.t (.s4 (.s .z)))) (FJ.ql rfl (q_len rfl u_27 (.t .z)) (FJ.ql rfl (q_gtr rfl (.t .z) .c) (FJ.nil ?_))))
 refine FJ.then_ ?_
 refine FJ.condP (.t .z) (fun b5 => ?_) (fun b5 => ?_)
 refine FJ.seq (FJ.region (FJ.er (.s (.s (.s .z))) (FJ.ql rfl (q_assign rfl .c) (FJ.nil ?_))))
 refine FJ.then_ (FJ.ret (FJ.thenR ?_))
 refine FJ.doneS (res1 rfl .z) .n ?_
 exact ⟨rfl, rfl⟩
 refine FJ.skip (FJ.then_ (FJ.seq (FJ.region (FJ.ql rfl (q_assign rfl .c) ?_))))
 refine FJ.nil (FJ.then_ (FJ.seq (FJ.region ?_)))
 refine FJ.ql rfl (q_loadA (cs := [.slice A0_0 x.inodes.length c0_0, .slice A0_1 x.data.length c0_1]) rfl ag_25 sz_25 (.t (.s4 (.s .z))) (WS.rows0 .z (fun i u h => by exact h))) ?_
 refine FJ.ql rfl (q_move rfl (.t (.s .z))) ?_
 refine FJ.call (goes_list rfl) rfl (by decide) rfl (c_call rfl Tryz.func11 rfl rfl (args2 (.t (.s .z)) (.t .z))) .n (fun w1 S1 hs tr => c_11 (kT_25_mk x (tr.ctx h0_0) (tr.ctx h0_1)) _ (by omega) (by omega)) ?_
 rintro _ _ ⟨c6, rfl, hc6, wc6, rfl⟩
 refine FJ.cat .n ?_
 refine FJ.er (.s (.s (.s .z))) (FJ.ql rfl (q_assign rfl (.t .z)) (FJ.nil (FJ.then_ (FJ.seq ?_))))
 refine FJ.seq (FJ.region (FJ.ql rfl (q_move rfl (.t .z)) (FJ.ql rfl (q_lss rfl (.t .z) .c) (FJ.nil ?_))))
 refine FJ.then_ ?_
 refine FJ.condP (.t .z) (fun b7 => ?_) (fun b7 => ?_)
 refine FJ.seq (FJ.region (FJ.er (.s4 (.s4 (.s .z))) (FJ.ql rfl (q_assign rfl .c) (FJ.nil ?_))))
 refine FJ.then_ (FJ.ret (FJ.thenR ?_))
 refine FJ.doneS (res1 rfl .z) .n ?_
 exact ⟨rfl, rfl⟩
 refine FJ.skip (FJ.then_ (FJ.seq (FJ.region ?_)))
 refine FJ.ql rfl (q_loadA (cs := [.slice A0_0 x.inodes.length c0_0, .slice A0_1 x.data.length c0_1]) rfl ag_25 sz_25 (.t (.s4 (.s4 (.s (.s .z))))) (WS.rows0 .z (fun i u h => by exact h))) ?_
 refine FJ.call (goes_list rfl) rfl (by decide) rfl (c_call rfl Tryz.func13 rfl rfl (args1 (.t .z))) .n (fun w1 S1 hs tr => c_13 (kT_25_mk x (tr.ctx h0_0) (tr.ctx h0_1))) ?_
 rintro _ _ ⟨v8, v10, rfl, rfl⟩
 refine FJ.cat (.c (.c .n)) ?_
 refine FJ.know (WS.oform .z) ?_
 rintro ⟨Ao12, co12, rfl, hlo12, hmo12, hbo12⟩
 refine FJ.know (WS.oform (.s .z)) ?_
 rintro ⟨Ao13, co13, rfl, hlo13, hmo13, hbo13⟩
 refine FJ.ql rfl (q_move rfl (.t (.s4 (.s4 (.s4 (.s (.s .z))))))) (FJ.ql rfl (q_move rfl (.t (.s16 .z))) (FJ.ql rfl (q_move rfl (.t (.s16 (.s (.s .z))))) ?_))
 refine FJ.call (goes_list rfl) rfl (by decide) rfl (c_call rfl Tryz.func15 rfl rfl (args1 (.t .z))) .n (fun w1 S1 hs tr => c_15 (tr.ctx h3)) ?_
 rintro _ _ rfl
 refine FJ.cat (.c .n) ?_
 refine FJ.know (WS.oform .z) ?_
 rintro ⟨Ao15, co15, rfl, hlo15, hmo15, hbo15⟩
 refine FJ.call (goes_list rfl) rfl (by decide) rfl (c_call rfl Tryz.func28 rfl rfl (args4 (.t (.s4 .z)) (.t (.s (.s (.s .z)))) (.t (.s (.s .z))) (.t .z))) .n (fun w1 S1 hs tr => c_28 (kT_31_mk x (tr.own (.s .z)) (tr.own (.s (.s .z)))) _ _ (tr.own .z)) ?_
 rintro _ _ ⟨v16, v18, rfl, rfl⟩
 refine FJ.cat (.c (.c .n)) ?_
 refine FJ.know (WS.oform .z) ?_
 rintro ⟨Ao20, co20, rfl, hlo20, hmo20, hbo20⟩
 refine FJ.know (WS.oform (.s .z)) ?_
 rintro ⟨Ao21, co21, rfl, hlo21, hmo21, hbo21⟩
 refine FJ.e (goes_list rfl) rfl (by decide) rfl (e_alloc rfl z_33 rfl rfl) ?_
 rintro _ _ ⟨g22, rfl, rfl⟩
 refine FJ.es (goes_list rfl) rfl (es_store (off := 0) (cs := [.int .i64 ((cutR x a n b).code), .slice Ao20 ((cutR x a n b).fs.inodes).length co20, .slice Ao21 ((cutR x a n b).fs.data).length co21]) rfl sz_33 (.t .z) (.t (.s .z)) rfl (ones rfl) .z (Nat.le_of_ble_eq_true rfl) (.c .z (.c (.s .z) (.c (.s (.s .z)) .n)))) ?_
 refine FJ.nil (FJ.then_ (FJ.seq (FJ.region ?_)))
 refine FJ.ql rfl (q_loadA (cs := [.slice A0_0 x.inodes.length c0_0, .slice A0_1 x.data.length c0_1]) rfl ag_25 sz_25 (.t (.s16 (.s (.s .z)))) (WS.rows0 (.s4 (.s (.s .z))) (fun i u h => by exact h))) ?_
 refine FJ.call (goes_list rfl) rfl (by decide) rfl (c_call rfl Tryz.func13 rfl rfl (args1 (.t .z))) .n (fun w1 S1 hs tr => c_13 (kT_25_mk x (tr.ctx h0_0) (tr.ctx h0_1))) ?_
 rintro _ _ ⟨v23, v25, rfl, rfl⟩
 refine FJ.cat (.c (.c .n)) ?_
 refine FJ.know (WS.oform .z) ?_
 rintro ⟨Ao27, co27, rfl, hlo27, hmo27, hbo27⟩
 refine FJ.know (WS.oform (.s .z)) ?_
 rintro ⟨Ao28, co28, rfl, hlo28, hmo28, hbo28⟩
 refine FJ.e (goes_list rfl) rfl (by decide) rfl (e_alloc rfl z_31 rfl rfl) ?_
 rintro _ _ ⟨g29, rfl, rfl⟩
 refine FJ.es (goes_list rfl) rfl (es_store (off := 0) (cs := [.slice Ao27 x.inodes.length co27, .slice Ao28 x.data.length co28]) rfl sz_31 (.t .z) (.t (.s .z)) rfl (ones rfl) .z (Nat.le_of_ble_eq_true rfl) (.c .z (.c (.s .z) .n))) ?_
 refine FJ.nil (FJ.then_ (FJ.seq (FJ.region (FJ.ql rfl (q_move rfl (.t (.s16 (.s4 (.s4 (.s .z)))))) ?_))))
 refine FJ.call (goes_list rfl) rfl (by decide) rfl (c_call rfl Tryz.func15 rfl rfl (args1 (.t .z))) .n (fun w1 S1 hs tr => c_15 (tr.ctx h3)) ?_
 rintro _ _ rfl
 refine FJ.cat (.c .n) ?_
 refine FJ.know (WS.oform .z) ?_
 rintro ⟨Ao31, co31, rfl, hlo31, hmo31, hbo31⟩
 refine FJ.ql rfl (q_assign rfl (.t .z)) (FJ.nil (FJ.then_ (FJ.seq (FJ.region ?_))))
 refine FJ.ql rfl (q_loadA (cs := [.slice Ao27 x.inodes.length co27, .slice Ao28 x.data.length co28]) rfl ag_31 sz_31 (.t (.s (.s (.s .z)))) (WS.rows0 (.s .z) (fun i u h => by exact h))) ?_
 refine FJ.ql rfl (q_move rfl (.t (.s16 (.s4 (.s4 (.s (.s (.s .z)))))))) (FJ.ql rfl (q_move rfl (.t (.s16 (.s4 (.s4 (.s4 (.s .z))))))) (FJ.ql rfl (q_move rfl (.t (.s (.s (.s .z))))) ?_))
 refine FJ.call (goes_list rfl) rfl (by decide) rfl (c_call rfl Tryz.func29 rfl rfl (args4 (.t (.s (.s (.s .z)))) (.t (.s (.s .z))) (.t (.s .z)) (.t .z))) .n (fun w1 S1 hs tr => c_29 (kT_31_mk x (tr.own (.s (.s .z))) (tr.own (.s (.s (.s .z))))) _ _ (tr.own .z)) ?_
 rintro _ _ ⟨v32, v34, rfl, rfl⟩
 refine FJ.cat (.c (.c .n)) ?_
 refine FJ.know (WS.oform .z) ?_
 rintro ⟨Ao36, co36, rfl, hlo36, hmo36, hbo36⟩
 refine FJ.know (WS.oform (.s .z)) ?_
 rintro ⟨Ao37, co37, rfl, hlo37, hmo37, hbo37⟩
 refine FJ.e (goes_list rfl) rfl (by decide) rfl (e_alloc rfl z_33 rfl rfl) ?_
 rintro _ _ ⟨g38, rfl, rfl⟩
 refine FJ.es (goes_list rfl) rfl (es_store (off := 0) (cs := [.int .i64 ((cutR x a n b).code), .slice Ao36 ((cutR x a n b).fs.inodes).length co36, .slice Ao37 ((cutR x a n b).fs.data).length co37]) rfl sz_33 (.t .z) (.t (.s .z)) rfl (ones rfl) .z (Nat.le_of_ble_eq_true rfl) (.c .z (.c (.s .z) (.c (.s (.s .z)) .n)))) ?_
 refine FJ.nil (FJ.then_ (FJ.seq (FJ.seq (FJ.region ?_))))
 refine FJ.ql rfl (q_loadA (cs := [.int .i64 ((cutR x a n b).code), .slice Ao36 ((cutR x a n b).fs.inodes).length co36, .slice Ao37 ((cutR x a n b).fs.data).length co37]) rfl ag_33 sz_33 (.t .z) (WS.rows0 .z (fun i u h => by exact h))) ?_
 refine FJ.ql rfl (q_loadA (cs := [.int .i64 ((cutR x a n b).code), .slice Ao20 ((cutR x a n b).fs.inodes).length co20, .slice Ao21 ((cutR x a n b).fs.data).length co21]) rfl ag_33 sz_33 (.t (.s4 (.s4 (.s4 (.s .z))))) (WS.rows0 (.s4 (.s (.s (.s .z)))) (fun i u h => by exact h))) ?_
 refine FJ.call (goes_list rfl) rfl (by decide) rfl (c_call rfl Tryz.func17 rfl rfl (args2 (.t (.s .z)) (.t .z))) .n (fun w1 S1 hs tr => c_17 (kT_33_mk (cutR x a n b) (tr.own (.s .z)) (tr.own (.s (.s .z)))) (kT_33_mk (cutR x a n b) (tr.own (.s4 (.s4 .z))) (tr.own (.s4 (.s4 (.s .z)))))) ?_
 rintro _ _ ⟨rfl, rfl⟩
 refine FJ.cat .n ?_
 refine FJ.ql rfl (q_not rfl (.t .z)) (FJ.nil (FJ.then_ ?_))
 refine FJ.condN (.t .z) (fun b39 => ?_) (fun b39 => ?_)
 refine FJ.seq (FJ.region (FJ.er (.s16 (.s16 (.s .z))) (FJ.ql rfl (q_assign rfl .c) (FJ.nil ?_))))
 refine FJ.then_ (FJ.ret (FJ.thenR ?_))
 refine FJ.doneS (res1 rfl .z) .n ?_
 exfalso; first | exact absurd rfl (by assumption) | omega | (simp_all; done)
 refine FJ.skip (FJ.then_ (FJ.seq (FJ.seq ?_)))
 refine FJ.sel (.c (.s .z) (.c (.s .z) (.c (.s .z) (.c (.s (.s .z)) (.c (.s (.s .z)) (.c (.s (.s (.s .z))) (.c (.s (.s (.s .z))) (.c (.s (.s (.s .z))) (.c (.s (.s (.s .z))) (.c (.s (.s (.s .z))) (.c .z (.c .z (.c .z (.c .z .n)))))))))))))) ?_
 refine FJ.draw [rowA g38 33 3 1 [.int .i64 ((cutR x a n b).code), .slice Ao36 ((cutR x a n b).fs.inodes).length co36, .slice Ao37 ((cutR x a n b).fs.data).length co37], rowA g29 31 2 1 [.slice Ao27 x.inodes.length co27, .slice Ao28 x.data.length co28], rowA g22 33 3 1 [.int .i64 ((cutR x a n b).code), .slice Ao20 ((cutR x a n b).fs.inodes).length co20, .slice Ao21 ((cutR x a n b).fs.data).length co21], rowA g4 25 2 1 [.slice A0_0 x.inodes.length c0_0, .slice A0_1 x.data.length c0_1]] 5 (by kernel_rfl) ?_
 refine FJ.sch [(0, true), (1, true), (2, false), (3, false), (4, true)] 0 #[true, true, true, true, true] (by rfl) (by kernel_rfl) ?_
 refine FJ.dq rfl rfl rfl (by decide) rfl (.s4 (.s4 (.s (.s .z)))) (q_loadA (cs := [.slice Ao27 x.inodes.length co27, .slice Ao28 x.data.length co28]) rfl ag_31 sz_31 (.t (.s4 (.s4 (.s4 (.s .z))))) (WS.rows0 (.s .z) (fun i u h => by exact h))) ?_
 refine FJ.dq rfl rfl rfl (by decide) rfl (.s4 (.s4 (.s (.s .z)))) (q_loadA (cs := [.slice A0_0 x.inodes.length c0_0, .slice A0_1 x.data.length c0_1]) rfl ag_25 sz_25 (.t (.s16 (.s16 (.s (.s (.s .z)))))) (WS.rows0 (.s (.s (.s .z))) (fun i u h => by exact h))) ?_
 refine FJ.call (goes_sch rfl rfl) rfl (by decide) rfl (c_call rfl Tryz.func13 rfl rfl (args1 (.t .z))) .n (fun w1 S1 hs tr => c_13 (kT_25_mk x (tr.ctx h0_0) (tr.ctx h0_1))) ?_
 rintro _ _ ⟨v40, v42, rfl, rfl⟩
 refine FJ.cat (.c (.c .n)) ?_
 refine FJ.know (WS.oform .z) ?_
 rintro ⟨Ao44, co44, rfl, hlo44, hmo44, hbo44⟩
 refine FJ.know (WS.oform (.s .z)) ?_
 rintro ⟨Ao45, co45, rfl, hlo45, hmo45, hbo45⟩
 refine FJ.sk (.s4 (.s4 (.s4 .z))) ?_
 refine FJ.call (goes_sch rfl rfl) rfl (by decide) rfl (c_call rfl Tryz.func18 rfl rfl (args2 (.t (.s (.s .z))) (.t .z))) .n (fun w1 S1 hs tr => c_18 (kT_31_mk x (tr.own (.s4 (.s .z))) (tr.own (.s4 (.s (.s .z))))) (kT_31_mk x (tr.own .z) (tr.own (.s .z)))) ?_
 rintro _ _ ⟨rfl, rfl⟩
 refine FJ.cat .n ?_
 refine FJ.sk (.s4 (.s4 (.s4 .z))) ?_
 refine FJ.dq rfl rfl rfl (by decide) rfl (.s4 (.s4 (.s4 .z))) (q_not rfl (.t .z)) (FJ.schN ?_)
 refine FJ.drawN (by kernel_rfl) ?_
 refine FJ.then_ ?_
 refine FJ.condN (.t .z) (fun b46 => ?_) (fun b46 => ?_)
 refine FJ.seq (FJ.region (FJ.er (.s16 (.s16 (.s4 (.s (.s .z))))) (FJ.ql rfl (q_assign rfl .c) (FJ.nil ?_))))
 refine FJ.then_ (FJ.ret (FJ.thenR ?_))
 refine FJ.doneS (res1 rfl .z) .n ?_
 exfalso; first | exact absurd rfl (by assumption) | omega | (simp_all; done)
 refine FJ.skip (FJ.then_ (FJ.seq (FJ.seq (FJ.region ?_))))
 refine FJ.ql rfl (q_move rfl (.t (.s4 (.s4 (.s4 (.s (.s (.s .z)))))))) (FJ.ql rfl (q_move rfl (.t (.s16 (.s16 (.s4 (.s4 (.s4 .z))))))) ?_)
 refine FJ.call (goes_list rfl) rfl (by decide) rfl (c_call rfl Tryz.func15 rfl rfl (args1 (.t .z))) .n (fun w1 S1 hs tr => c_15 (tr.ctx h3)) ?_
 rintro _ _ rfl
 refine FJ.cat (.c .n) ?_
 refine FJ.know (WS.oform .z) ?_
 rintro ⟨Ao48, co48, rfl, hlo48, hmo48, hbo48⟩
 refine FJ.call (goes_list rfl) rfl (by decide) rfl (c_call rfl Tryz.func20 rfl rfl (args2 (.t (.s (.s .z))) (.t .z))) .n (fun w1 S1 hs tr => c_20 (tr.own (.s4 (.s .z))) (tr.own .z)) ?_
 rintro _ _ ⟨rfl, rfl⟩
 refine FJ.cat .n ?_
 refine FJ.ql rfl (q_not rfl (.t .z)) (FJ.nil (FJ.then_ ?_))
 refine FJ.condN (.t .z) (fun b49 => ?_) (fun b49 => ?_)
 refine FJ.seq (FJ.region (FJ.er (.s16 (.s16 (.s4 (.s4 (.s (.s (.s .z))))))) (FJ.ql rfl (q_assign rfl .c) (FJ.nil ?_))))
 refine FJ.then_ (FJ.ret (FJ.thenR ?_))
 refine FJ.doneS (res1 rfl .z) .n ?_
 exfalso; first | exact absurd rfl (by assumption) | omega | (simp_all; done)
 refine FJ.skip (FJ.then_ (FJ.seq (FJ.region (FJ.ql rfl (q_assign rfl .c) ?_))))
 refine FJ.nil (FJ.then_ (FJ.seq (FJ.region ?_)))
 refine FJ.ql rfl (q_loadA (cs := [.slice Ao27 x.inodes.length co27, .slice Ao28 x.data.length co28]) rfl ag_31 sz_31 (.t (.s16 (.s4 (.s4 .z)))) (WS.rows0 (.s4 (.s4 (.s4 (.s (.s .z))))) (fun i u h => by exact h))) ?_
 refine FJ.ql rfl (q_move rfl (.t (.s .z))) ?_
 refine FJ.call (goes_list rfl) rfl (by decide) rfl (c_call rfl Tryz.func21 rfl rfl (args2 (.t (.s .z)) (.t .z))) (.c (.s4 (.s (.s .z))) (.c (.s4 (.s (.s .z))) .n)) (fun w1 S1 hs tr => c_21 _ hs (by omega) (by first | omega | (omega))) ?_
 rintro _ _ ⟨rfl, rfl⟩
 refine FJ.cat (.c (.c .n)) ?_
 refine FJ.er (.s (.s (.s .z))) (FJ.ql rfl (q_assign rfl (.t .z)) (FJ.nil (FJ.then_ (FJ.seq ?_))))
 refine FJ.region (FJ.ql rfl (q_move rfl (.t (.s16 (.s4 (.s4 .z))))) (FJ.ql rfl (q_move rfl (.t (.s .z))) ?_))
 refine FJ.call (goes_list rfl) rfl (by decide) rfl (c_call rfl Tryz.func23 rfl rfl (args2 (.t (.s .z)) (.t .z))) (.c (.s4 (.s (.s (.s .z)))) .n) (fun w1 S1 hs tr => c_23 _ hs (by omega) (by first | omega | (omega))) ?_
 rintro _ _ ⟨rfl, rfl⟩
 refine FJ.cat (.c .n) ?_
 refine FJ.er (.s (.s (.s .z))) (FJ.ql rfl (q_assign rfl (.t .z)) (FJ.nil (FJ.then_ (FJ.seq ?_))))
 refine FJ.seq (FJ.region (FJ.ql rfl (q_move rfl (.t .z)) (FJ.ql rfl (q_lss rfl (.t .z) .c) (FJ.ql rfl (q_move rfl (.t .z)) ?_))))
 refine FJ.caseP .z (fun g50 => ?_) (fun g50 => ?_)
 refine FJ.skipl rfl rfl .z rfl rfl (by decide) rfl ?_
 refine FJ.skipl rfl rfl (.s .z) rfl rfl (by decide) rfl ?_
 refine FJ.skipl rfl rfl (.s (.s .z)) rfl rfl (by decide) rfl ?_
 refine FJ.skipl rfl rfl (.s (.s (.s .z))) rfl rfl (by decide) rfl ?_
 refine FJ.ql rfl (q_pickT rfl (.t (.s4 .z)) .c) (FJ.nil (FJ.then_ ?_))
 refine FJ.condT (.t .z) ?_
 refine FJ.seq (FJ.region (FJ.er (.s16 (.s16 (.s16 (.s4 (.s4 (.s (.s .z))))))) (FJ.ql rfl (q_assign rfl .c) (FJ.nil ?_))))
 refine FJ.then_ (FJ.ret (FJ.thenR ?_))
 refine FJ.doneS (res1 rfl .z) .n ?_
 exfalso; first | exact absurd rfl (by assumption) | omega | (simp_all; done)
 refine FJ.q (goes_listg rfl rfl .z) rfl (by decide) rfl (q_loadA (cs := [.int .i64 ((cutR x a n b).code), .slice Ao36 ((cutR x a n b).fs.inodes).length co36, .slice Ao37 ((cutR x a n b).fs.data).length co37]) rfl ag_33 sz_33 (.t (.s16 (.s4 (.s4 .z)))) (WS.rows0 (.s4 (.s4 (.s4 (.s .z)))) (fun i u h => by exact h))) ?_
 refine FJ.q (goes_listg rfl rfl (.s .z)) rfl (by decide) rfl (q_loadA (cs := [.int .i64 ((cutR x a n b).code), .slice Ao20 ((cutR x a n b).fs.inodes).length co20, .slice Ao21 ((cutR x a n b).fs.data).length co21]) rfl ag_33 sz_33 (.t (.s16 (.s16 (.s4 (.s .z))))) (WS.rows0 (.s4 (.s4 (.s4 (.s (.s (.s .z)))))) (fun i u h => by exact h))) ?_
 refine FJ.call (goes_listg rfl rfl (.s (.s .z))) rfl (by decide) rfl (c_call rfl Tryz.func17 rfl rfl (args2 (.t (.s .z)) (.t .z))) .n (fun w1 S1 hs tr => c_17 (kT_33_mk (cutR x a n b) (tr.own (.s4 (.s (.s .z)))) (tr.own (.s4 (.s (.s (.s .z)))))) (kT_33_mk (cutR x a n b) (tr.own (.s4 (.s4 .z))) (tr.own (.s4 (.s4 (.s .z)))))) ?_
 rintro _ _ ⟨rfl, rfl⟩
 refine FJ.cat .n ?_
 refine FJ.q (goes_listg rfl rfl (.s (.s (.s .z)))) rfl (by decide) rfl (q_not rfl (.t .z)) ?_
 refine FJ.ql rfl (q_pickF rfl (.t (.s4 .z)) (.t .z)) (FJ.nil (FJ.then_ ?_))
 refine FJ.condN (.t .z) (fun b51 => ?_) (fun b51 => ?_)
 exfalso; first | omega | contradiction
 refine FJ.skip (FJ.then_ (FJ.seq (FJ.region (FJ.ql rfl (q_assign rfl .c) ?_))))
 refine FJ.nil (FJ.then_ (FJ.seq (FJ.region ?_)))
 refine FJ.ql rfl (q_loadA (cs := [.int .i64 ((cutR x a n b).code), .slice Ao36 ((cutR x a n b).fs.inodes).length co36, .slice Ao37 ((cutR x a n b).fs.data).length co37]) rfl ag_33 sz_33 (.t (.s16 (.s4 (.s4 (.s4 (.s (.s .z))))))) (WS.rows0 (.s4 (.s4 (.s4 (.s .z)))) (fun i u h => by exact h))) ?_
 refine FJ.ql rfl (q_move rfl (.t (.s .z))) ?_
 refine FJ.call (goes_list rfl) rfl (by decide) rfl (c_call rfl Tryz.func24 rfl rfl (args2 (.t (.s .z)) (.t .z))) (.c (.s4 (.s (.s .z))) (.c (.s4 (.s (.s .z))) .n)) (fun w1 S1 hs tr => c_24 _ hs (by omega) (by first | omega | (omega))) ?_
 rintro _ _ ⟨rfl, rfl⟩
 refine FJ.cat (.c (.c .n)) ?_
 refine FJ.er (.s (.s (.s .z))) (FJ.ql rfl (q_assign rfl (.t .z)) (FJ.nil (FJ.then_ (FJ.seq ?_))))
 refine FJ.region (FJ.ql rfl (q_assign rfl .c) (FJ.nil (FJ.then_ (FJ.seq ?_))))
 refine FJ.region ?_
 refine FJ.ql rfl (q_loadA (cs := [.int .i64 ((cutR x a n b).code), .slice Ao36 ((cutR x a n b).fs.inodes).length co36, .slice Ao37 ((cutR x a n b).fs.data).length co37]) rfl ag_33 sz_33 (.t (.s16 (.s16 (.s (.s .z))))) (WS.rows0 (.s4 (.s4 (.s4 (.s .z)))) (fun i u h => by exact h))) ?_
 refine FJ.ql rfl (q_move rfl (.t (.s .z))) ?_
 refine FJ.call (goes_list rfl) rfl (by decide) rfl (c_call rfl Tryz.func25 rfl rfl (args2 (.t (.s .z)) (.t .z))) .n (fun w1 S1 hs tr => c_25 (kT_33_mk (⟨(cutR x a n b).code, (⟨(vmark_RFs 1 (cutR x a n b)).fs.inodes, (vmark_RFs 1 (cutR x a n b)).fs.data⟩ : DFs)⟩ : RFs) (tr.own .z) (tr.own (.s .z))) _ (cutR x a n b) rfl (by omega) (by first | omega | (omega))) ?_
 rintro _ _ ⟨rfl, rfl⟩
 refine FJ.cat .n ?_
 refine FJ.er (.s (.s (.s .z))) (FJ.ql rfl (q_assign rfl (.t .z)) (FJ.nil (FJ.then_ (FJ.seq ?_))))
 refine FJ.seq (FJ.region (FJ.ql rfl (q_move rfl (.t .z)) (FJ.ql rfl (q_lss rfl (.t .z) .c) (FJ.nil ?_))))
 refine FJ.then_ ?_
 refine FJ.condP (.t .z) (fun b52 => ?_) (fun b52 => ?_)
 refine FJ.seq (FJ.region (FJ.er (.s16 (.s16 (.s16 (.s16 (.s4 .z))))) (FJ.ql rfl (q_assign rfl .c) (FJ.nil ?_))))
 refine FJ.then_ (FJ.ret (FJ.thenR ?_))
 refine FJ.doneS (res1 rfl .z) .n ?_
 exfalso; first | exact absurd rfl (by assumption) | omega | (simp_all; done)
 refine FJ.skip (FJ.then_ (FJ.seq (FJ.seq (FJ.region ?_))))
 refine FJ.ql rfl (q_move rfl (.t (.s (.s .z)))) (FJ.ql rfl (q_move rfl (.t (.s4 (.s (.s (.s .z)))))) (FJ.ql rfl (q_neq rfl (.t (.s .z)) (.t .z)) (FJ.nil (FJ.then_ ?_))))
 refine FJ.condN (.t .z) (fun b53 => ?_) (fun b53 => ?_)
 refine FJ.seq (FJ.region (FJ.er (.s16 (.s16 (.s16 (.s16 (.s4 (.s (.s (.s .z)))))))) (FJ.ql rfl (q_assign rfl .c) (FJ.nil ?_))))
 refine FJ.then_ (FJ.ret (FJ.thenR ?_))
 refine FJ.doneS (res1 rfl .z) .n ?_
 exfalso; first | exact absurd rfl (by assumption) | omega | (simp_all; done)
 refine FJ.skip (FJ.then_ (FJ.seq (FJ.region ?_)))
 refine FJ.ql rfl (q_loadA (cs := [.slice A0_0 x.inodes.length c0_0, .slice A0_1 x.data.length c0_1]) rfl ag_25 sz_25 (.t (.s16 (.s16 (.s16 (.s16 (.s4 (.s4 .z))))))) (WS.rows0 (.s16 .z) (fun i u h => by exact h))) ?_
 refine FJ.call (goes_list rfl) rfl (by decide) rfl (c_call rfl Tryz.func13 rfl rfl (args1 (.t .z))) .n (fun w1 S1 hs tr => c_13 (kT_25_mk x (tr.ctx h0_0) (tr.ctx h0_1))) ?_
 rintro _ _ ⟨v54, v56, rfl, rfl⟩
 refine FJ.cat (.c (.c .n)) ?_
 refine FJ.know (WS.oform .z) ?_
 rintro ⟨Ao58, co58, rfl, hlo58, hmo58, hbo58⟩
 refine FJ.know (WS.oform (.s .z)) ?_
 rintro ⟨Ao59, co59, rfl, hlo59, hmo59, hbo59⟩
 refine FJ.ql rfl (q_move rfl (.t (.s16 (.s16 (.s16 (.s16 (.s4 (.s4 (.s4 .z))))))))) (FJ.ql rfl (q_move rfl (.t (.s16 (.s16 (.s16 (.s16 (.s4 (.s4 (.s4 (.s (.s .z))))))))))) (FJ.ql rfl (q_move rfl (.t (.s16 (.s16 (.s16 (.s16 (.s16 .z))))))) ?_))
 refine FJ.call (goes_list rfl) rfl (by decide) rfl (c_call rfl Tryz.func15 rfl rfl (args1 (.t .z))) .n (fun w1 S1 hs tr => c_15 (tr.ctx h3)) ?_
 rintro _ _ rfl
 refine FJ.cat (.c .n) ?_
 refine FJ.know (WS.oform .z) ?_
 rintro ⟨Ao61, co61, rfl, hlo61, hmo61, hbo61⟩
 refine FJ.call (goes_list rfl) rfl (by decide) rfl (c_call rfl Tryz.func29 rfl rfl (args4 (.t (.s4 .z)) (.t (.s (.s (.s .z)))) (.t (.s (.s .z))) (.t .z))) .n (fun w1 S1 hs tr => c_29 (kT_31_mk x (tr.own (.s .z)) (tr.own (.s (.s .z)))) _ _ (tr.own .z)) ?_
 rintro _ _ ⟨v62, v64, rfl, rfl⟩
 refine FJ.cat (.c (.c .n)) ?_
 refine FJ.know (WS.oform .z) ?_
 rintro ⟨Ao66, co66, rfl, hlo66, hmo66, hbo66⟩
 refine FJ.know (WS.oform (.s .z)) ?_
 rintro ⟨Ao67, co67, rfl, hlo67, hmo67, hbo67⟩
 refine FJ.e (goes_list rfl) rfl (by decide) rfl (e_alloc rfl z_33 rfl rfl) ?_
 rintro _ _ ⟨g68, rfl, rfl⟩
 refine FJ.es (goes_list rfl) rfl (es_store (off := 0) (cs := [.int .i64 ((cutR x a n b).code), .slice Ao66 ((cutR x a n b).fs.inodes).length co66, .slice Ao67 ((cutR x a n b).fs.data).length co67]) rfl sz_33 (.t .z) (.t (.s .z)) rfl (ones rfl) .z (Nat.le_of_ble_eq_true rfl) (.c .z (.c (.s .z) (.c (.s (.s .z)) .n)))) ?_
 refine FJ.nil (FJ.then_ (FJ.seq (FJ.seq (FJ.region ?_))))
 refine FJ.ql rfl (q_loadA (cs := [.int .i64 ((cutR x a n b).code), .slice Ao66 ((cutR x a n b).fs.inodes).length co66, .slice Ao67 ((cutR x a n b).fs.data).length co67]) rfl ag_33 sz_33 (.t .z) (WS.rows0 .z (fun i u h => by exact h))) ?_
 refine FJ.ql rfl (q_loadA (cs := [.int .i64 ((cutR x a n b).code), .slice Ao20 ((cutR x a n b).fs.inodes).length co20, .slice Ao21 ((cutR x a n b).fs.data).length co21]) rfl ag_33 sz_33 (.t (.s16 (.s16 (.s16 (.s4 (.s4 (.s4 (.s (.s (.s .z)))))))))) (WS.rows0 (.s16 (.s4 (.s .z))) (fun i u h => by exact h))) ?_
 refine FJ.call (goes_list rfl) rfl (by decide) rfl (c_call rfl Tryz.func17 rfl rfl (args2 (.t (.s .z)) (.t .z))) .n (fun w1 S1 hs tr => c_17 (kT_33_mk (cutR x a n b) (tr.own (.s .z)) (tr.own (.s (.s .z)))) (kT_33_mk (cutR x a n b) (tr.own (.s4 (.s4 (.s4 (.s (.s .z)))))) (tr.own (.s4 (.s4 (.s4 (.s (.s (.s .z))))))))) ?_
 rintro _ _ ⟨rfl, rfl⟩
 refine FJ.cat .n ?_
 refine FJ.ql rfl (q_not rfl (.t .z)) (FJ.nil (FJ.then_ ?_))
 refine FJ.condN (.t .z) (fun b69 => ?_) (fun b69 => ?_)
 exfalso; first | omega | contradiction
 refine FJ.skip (FJ.then_ (FJ.seq (FJ.region (FJ.er (.s16 (.s .z)) ?_))))
 refine FJ.ql rfl (q_assign rfl .c) (FJ.nil (FJ.then_ (FJ.seq (FJ.region ?_))))
 refine FJ.ql rfl (q_loadA (cs := [.int .i64 ((cutR x a n b).code), .slice Ao36 ((cutR x a n b).fs.inodes).length co36, .slice Ao37 ((cutR x a n b).fs.data).length co37]) rfl ag_33 sz_33 (.t (.s16 (.s16 (.s16 (.s4 (.s (.s .z))))))) (WS.rows0 (.s16 (.s (.s (.s .z)))) (fun i u h => by exact h))) ?_
 refine FJ.ql rfl (q_move rfl (.t (.s .z))) ?_
 refine FJ.call (goes_list rfl) rfl (by decide) rfl (c_call rfl Tryz.func25 rfl rfl (args2 (.t (.s .z)) (.t .z))) .n (fun w1 S1 hs tr => c_25 (kT_33_mk (⟨(cutR x a n b).code, (⟨(vmark_RFs 1 (cutR x a n b)).fs.inodes, (vmark_RFs 1 (cutR x a n b)).fs.data⟩ : DFs)⟩ : RFs) (tr.own (.s4 (.s (.s .z)))) (tr.own (.s4 (.s (.s (.s .z)))))) _ (cutR x a n b) rfl (by omega) (by first | omega | (omega))) ?_
 rintro _ _ ⟨rfl, rfl⟩
 refine FJ.cat .n ?_
 refine FJ.er (.s (.s (.s .z))) (FJ.ql rfl (q_assign rfl (.t .z)) (FJ.nil (FJ.then_ (FJ.seq ?_))))
 refine FJ.seq (FJ.region (FJ.ql rfl (q_move rfl (.t .z)) (FJ.ql rfl (q_lss rfl (.t .z) .c) (FJ.nil ?_))))
 refine FJ.then_ ?_
 refine FJ.condP (.t .z) (fun b70 => ?_) (fun b70 => ?_)
 exfalso; first | omega | contradiction
 refine FJ.skip (FJ.then_ (FJ.seq (FJ.seq (FJ.region ?_))))
 refine FJ.ql rfl (q_move rfl (.t (.s (.s .z)))) (FJ.ql rfl (q_move rfl (.t (.s16 (.s4 (.s4 (.s (.s (.s .z)))))))) (FJ.ql rfl (q_neq rfl (.t (.s .z)) (.t .z)) (FJ.nil (FJ.then_ ?_))))
 refine FJ.condN (.t .z) (fun b71 => ?_) (fun b71 => ?_)
 exfalso; first | omega | contradiction
 refine FJ.skip (FJ.then_ (FJ.seq (FJ.region (FJ.er (.s16 (.s16 (.s16 (.s16 (.s16 (.s4 (.s4 (.s (.s (.s .z)))))))))) ?_))))
 refine FJ.ql rfl (q_assign rfl .c) (FJ.nil (FJ.then_ (FJ.ret ?_)))
 refine FJ.doneS (res1 rfl .z) .n ?_
 exact ⟨rfl, rfl⟩

end Go.Proofs.YticaddophhggoaaGreat

/- What is proved: contracts of functions, one a function. No condition. -/
import Derived.Test.YticaddophhggoaaGreatW42
import Derived.Test.YticaddophhggoaaGreatW7
import Derived.Test.YticaddophhggoaaGreatBase2
namespace Go.Proofs.YticaddophhggoaaGreat
open Go Go.RowKit
set_option linter.unusedVariables false
set_option linter.unusedSimpArgs false
set_option maxHeartbeats 1000000 in
set_option maxRecDepth 20000 in
theorem c_4 {w0 : World} {S0 : Bs} {x : DFs} {cs0 : List Value} (h0 : kT_25.ro w0 (FF w0 S0) x cs0) (a : Int) (n : Int) {L : (List UInt8)} {v3 : Value} (h3 : kSl_5.ro w0 (FF w0 S0) L [v3]) {b : (List Int)} {v4 : Value} (h4 : kSl_2.ro w0 (FF w0 S0) b [v4])  :
    Calls Tryz.prog 4 #[.agg cs0.toArray, .int .i64 a, .int .i64 n, v3, v4] w0 (TriPost w0 S0 (fun r l => r = .bool true ∧ l = [])) := by
 obtain ⟨u0_0, u0_1, rfl, h0_0, h0_1⟩ := kT_25_ro h0
 obtain ⟨A0_0, c0_0, rfl, hl0_0, hm0_0, hb0_0, he0_0⟩ := ro_form h0_0
 obtain ⟨A0_1, c0_1, rfl, hl0_1, hm0_1, hb0_1, he0_1⟩ := ro_form h0_1
 obtain ⟨A3, c3, rfl, hl3, hm3, hb3, he3⟩ := ro_form h3
 obtain ⟨A4, c4, rfl, hl4, hm4, hb4, he4⟩ := ro_form h4
 have hb := writeR_cnt x a n L b
 have hw := fs_cnt_wt x
 refine FJ.enter (N := 121) Tryz.func4 rfl rfl (by simp) [(0, .agg #[.slice A0_0 x.inodes.length c0_0, .slice A0_1 x.data.length c0_1]), (1, .int .i64 a), (2, .int .i64 n), (3, .slice A3 L.length c3), (4, .slice A4 b.length c4)] (by simp) (l0 := []) trivial ?_
 refine FJ.seq (FJ.region ?_)
 refine FJ.e (goes_list rfl) rfl (by decide) rfl (e_box (cs := [.slice A0_0 x.inodes.length c0_0, .slice A0_1 x.data.length c0_1]) (n := 2) rfl (.t .z) rfl rfl) ?_
 rintro _ _ ⟨g5, rfl, rfl⟩
 refine FJ.ql rfl (q_assign rfl .c) (FJ.nil (FJ.then_ (FJ.seq (FJ.seq ?_))))
 refine FJ.region (FJ.ql rfl (q_move rfl (.t (.s4 (.s .z)))) (FJ.ql rfl (q_len rfl u_26 (.t .z)) (FJ.ql rfl (q_gtr rfl (.t .z) .c) (FJ.nil ?_))))
 refine FJ.then_ ?_
 refine FJ.condP (.t .z) (fun b6 => ?_) (fun b6 => ?_)
 refine FJ.seq (FJ.region (FJ.er (.s (.s (.s .z))) (FJ.ql rfl (q_assign rfl .c) (FJ.nil ?_))))
 refine FJ.then_ (FJ.ret (FJ.thenR ?_))
 refine FJ.doneS (res1 rfl .z) .n ?_
 exact ⟨rfl, rfl⟩
 refine FJ.skip (FJ.then_ (FJ.seq (FJ.seq (FJ.region ?_))))
 refine FJ.ql rfl (q_move rfl (.t (.s4 (.s4 (.s .z))))) (FJ.ql rfl (q_len rfl u_27 (.t .z)) (FJ.ql rfl (q_gtr rfl (.t .z) .c) (FJ.nil (FJ.then_ ?_))))
 refine FJ.condP (.t .z) (fun b7 => ?_) (fun b7 => ?_)
 refine FJ.seq (FJ.region (FJ.er (.s4 (.s (.s .z))) (FJ.ql rfl (q_assign rfl .c) (FJ.nil ?_))))
 refine FJ.then_ (FJ.ret (FJ.thenR ?_))
 refine FJ.doneS (res1 rfl .z) .n ?_
 exact ⟨rfl, rfl⟩
 refine FJ.skip (FJ.then_ (FJ.seq (FJ.region (FJ.ql rfl (q_assign rfl .c) ?_))))
 refine FJ.nil (FJ.then_ (FJ.seq (FJ.region ?_)))
 refine FJ.ql rfl (q_loadA (cs := [.slice A0_0 x.inodes.length c0_0, .slice A0_1 x.data.length c0_1]) rfl ag_25 sz_25 (.t (.s4 (.s4 .z))) (WS.rows0 .z (fun i u h => by exact h))) ?_
 refine FJ.ql rfl (q_move rfl (.t (.s .z))) ?_
 refine FJ.call (goes_list rfl) rfl (by decide) rfl (c_call rfl Tryz.func11 rfl rfl (args2 (.t (.s .z)) (.t .z))) .n (fun w1 S1 hs tr => c_11 (kT_25_mk x (tr.ctx h0_0) (tr.ctx h0_1)) _ (by omega) (by omega)) ?_
 rintro _ _ ⟨c8, rfl, hc8, wc8, rfl⟩
 refine FJ.cat .n ?_
 refine FJ.er (.s (.s (.s .z))) (FJ.ql rfl (q_assign rfl (.t .z)) (FJ.nil (FJ.then_ (FJ.seq ?_))))
 refine FJ.seq (FJ.region (FJ.ql rfl (q_move rfl (.t .z)) (FJ.ql rfl (q_lss rfl (.t .z) .c) (FJ.nil ?_))))
 refine FJ.then_ ?_
 refine FJ.condP (.t .z) (fun b9 => ?_) (fun b9 => ?_)
 refine FJ.seq (FJ.region (FJ.er (.s4 (.s4 (.s4 .z))) (FJ.ql rfl (q_assign rfl .c) (FJ.nil ?_))))
 refine FJ.then_ (FJ.ret (FJ.thenR ?_))
 refine FJ.doneS (res1 rfl .z) .n ?_
 exact ⟨rfl, rfl⟩
 refine FJ.skip (FJ.then_ (FJ.seq (FJ.region ?_)))
 refine FJ.ql rfl (q_loadA (cs := [.slice A0_0 x.inodes.length c0_0, .slice A0_1 x.data.length c0_1]) rfl ag_25 sz_25 (.t (.s4 (.s4 (.s4 (.s .z))))) (WS.rows0 .z (fun i u h => by exact h))) ?_
 refine FJ.call (goes_list rfl) rfl (by decide) rfl (c_call rfl Tryz.func13 rfl rfl (args1 (.t .z))) .n (fun w1 S1 hs tr => c_13 (kT_25_mk x (tr.ctx h0_0) (tr.ctx h0_1))) ?_
 rintro _ _ ⟨v10, v12, rfl, rfl⟩
 refine FJ.cat (.c (.c .n)) ?_
 refine FJ.know (WS.oform .z) ?_
 rintro ⟨Ao14, co14, rfl, hlo14, hmo14, hbo14⟩
 refine FJ.know (WS.oform (.s .z)) ?_
 rintro ⟨Ao15, co15, rfl, hlo15, hmo15, hbo15⟩
 refine FJ.ql rfl (q_move rfl (.t (.s16 (.s .z)))) (FJ.ql rfl (q_move rfl (.t (.s16 (.s (.s (.s .z)))))) (FJ.ql rfl (q_move rfl (.t (.s16 (.s4 (.s .z))))) ?_))
 refine FJ.call (goes_list rfl) rfl (by decide) rfl (c_call rfl Tryz.func14 rfl rfl (args1 (.t .z))) .n (fun w1 S1 hs tr => c_14 (tr.ctx h3)) ?_
 rintro _ _ rfl
 refine FJ.cat (.c .n) ?_
 refine FJ.know (WS.oform .z) ?_
 rintro ⟨Ao17, co17, rfl, hlo17, hmo17, hbo17⟩
 refine FJ.ql rfl (q_move rfl (.t (.s16 (.s4 (.s4 .z))))) ?_
 refine FJ.call (goes_list rfl) rfl (by decide) rfl (c_call rfl Tryz.func15 rfl rfl (args1 (.t .z))) .n (fun w1 S1 hs tr => c_15 (tr.ctx h4)) ?_
 rintro _ _ rfl
 refine FJ.cat (.c .n) ?_
 refine FJ.know (WS.oform .z) ?_
 rintro ⟨Ao19, co19, rfl, hlo19, hmo19, hbo19⟩
 refine FJ.call (goes_list rfl) rfl (by decide) rfl (c_call rfl Tryz.func26 rfl rfl (args5 (.t (.s4 (.s (.s .z)))) (.t (.s4 (.s .z))) (.t (.s4 .z)) (.t (.s (.s .z))) (.t .z))) .n (fun w1 S1 hs tr => c_26 (kT_31_mk x (tr.own (.s (.s .z))) (tr.own (.s (.s (.s .z))))) _ _ (tr.own (.s .z)) (tr.own .z)) ?_
 rintro _ _ ⟨v20, v22, rfl, rfl⟩
 refine FJ.cat (.c (.c .n)) ?_
 refine FJ.know (WS.oform .z) ?_
 rintro ⟨Ao24, co24, rfl, hlo24, hmo24, hbo24⟩
 refine FJ.know (WS.oform (.s .z)) ?_
 rintro ⟨Ao25, co25, rfl, hlo25, hmo25, hbo25⟩
 refine FJ.e (goes_list rfl) rfl (by decide) rfl (e_alloc rfl z_33 rfl rfl) ?_
 rintro _ _ ⟨g26, rfl, rfl⟩
 refine FJ.es (goes_list rfl) rfl (es_store (off := 0) (cs := [.int .i64 ((writeR x a n L b).code), .slice Ao24 ((writeR x a n L b).fs.inodes).length co24, .slice Ao25 ((writeR x a n L b).fs.data).length co25]) rfl sz_33 (.t .z) (.t (.s .z)) rfl (ones rfl) .z (Nat.le_of_ble_eq_true rfl) (.c .z (.c (.s .z) (.c (.s (.s .z)) .n)))) ?_
 refine FJ.nil (FJ.then_ (FJ.seq (FJ.region ?_)))
 refine FJ.ql rfl (q_loadA (cs := [.slice A0_0 x.inodes.length c0_0, .slice A0_1 x.data.length c0_1]) rfl ag_25 sz_25 (.t (.s16 (.s4 (.s (.s (.s .z)))))) (WS.rows0 (.s4 (.s (.s (.s .z)))) (fun i u h => by exact h))) ?_
 refine FJ.call (goes_list rfl) rfl (by decide) rfl (c_call rfl Tryz.func13 rfl rfl (args1 (.t .z))) .n (fun w1 S1 hs tr => c_13 (kT_25_mk x (tr.ctx h0_0) (tr.ctx h0_1))) ?_
 rintro _ _ ⟨v27, v29, rfl, rfl⟩
 refine FJ.cat (.c (.c .n)) ?_
 refine FJ.know (WS.oform .z) ?_
 rintro ⟨Ao31, co31, rfl, hlo31, hmo31, hbo31⟩
 refine FJ.know (WS.oform (.s .z)) ?_
 rintro ⟨Ao32, co32, rfl, hlo32, hmo32, hbo32⟩
 refine FJ.e (goes_list rfl) rfl (by decide) rfl (e_alloc rfl z_31 rfl rfl) ?_
 rintro _ _ ⟨g33, rfl, rfl⟩
 refine FJ.es (goes_list rfl) rfl (es_store (off := 0) (cs := [.slice Ao31 x.inodes.length co31, .slice Ao32 x.data.length co32]) rfl sz_31 (.t .z) (.t (.s .z)) rfl (ones rfl) .z (Nat.le_of_ble_eq_true rfl) (.c .z (.c (.s .z) .n))) ?_
 refine FJ.nil (FJ.then_ (FJ.seq (FJ.region (FJ.ql rfl (q_move rfl (.t (.s16 (.s4 (.s4 (.s4 (.s (.s .z)))))))) ?_))))
 refine FJ.call (goes_list rfl) rfl (by decide) rfl (c_call rfl Tryz.func14 rfl rfl (args1 (.t .z))) .n (fun w1 S1 hs tr => c_14 (tr.ctx h3)) ?_
 rintro _ _ rfl
 refine FJ.cat (.c .n) ?_
 refine FJ.know (WS.oform .z) ?_
 rintro ⟨Ao35, co35, rfl, hlo35, hmo35, hbo35⟩
 refine FJ.ql rfl (q_assign rfl (.t .z)) (FJ.nil (FJ.then_ (FJ.seq (FJ.region ?_))))
 refine FJ.ql rfl (q_move rfl (.t (.s16 (.s16 (.s (.s .z)))))) ?_
 refine FJ.call (goes_list rfl) rfl (by decide) rfl (c_call rfl Tryz.func15 rfl rfl (args1 (.t .z))) .n (fun w1 S1 hs tr => c_15 (tr.ctx h4)) ?_
 rintro _ _ rfl
 refine FJ.cat (.c .n) ?_
 refine FJ.know (WS.oform .z) ?_
 rintro ⟨Ao37, co37, rfl, hlo37, hmo37, hbo37⟩
 refine FJ.ql rfl (q_assign rfl (.t .z)) (FJ.nil (FJ.then_ (FJ.seq (FJ.region ?_))))
 refine FJ.ql rfl (q_loadA (cs := [.slice Ao31 x.inodes.length co31, .slice Ao32 x.data.length co32]) rfl ag_31 sz_31 (.t (.s4 (.s (.s .z)))) (WS.rows0 (.s (.s .z)) (fun i u h => by exact h))) ?_
 refine FJ.ql rfl (q_move rfl (.t (.s16 (.s16 (.s (.s (.s .z))))))) (FJ.ql rfl (q_move rfl (.t (.s16 (.s16 (.s4 (.s .z)))))) (FJ.ql rfl (q_move rfl (.t (.s4 (.s (.s .z))))) (FJ.ql rfl (q_move rfl (.t (.s4 .z))) ?_)))
 refine FJ.call (goes_list rfl) rfl (by decide) rfl (c_call rfl Tryz.func27 rfl rfl (args5 (.t (.s4 .z)) (.t (.s (.s (.s .z)))) (.t (.s (.s .z))) (.t (.s .z)) (.t .z))) .n (fun w1 S1 hs tr => c_27 (kT_31_mk x (tr.own (.s (.s (.s .z)))) (tr.own (.s4 .z))) _ _ (tr.own (.s .z)) (tr.own .z)) ?_
 rintro _ _ ⟨v38, v40, rfl, rfl⟩
 refine FJ.cat (.c (.c .n)) ?_
 refine FJ.know (WS.oform .z) ?_
 rintro ⟨Ao42, co42, rfl, hlo42, hmo42, hbo42⟩
 refine FJ.know (WS.oform (.s .z)) ?_
 rintro ⟨Ao43, co43, rfl, hlo43, hmo43, hbo43⟩
 refine FJ.e (goes_list rfl) rfl (by decide) rfl (e_alloc rfl z_33 rfl rfl) ?_
 rintro _ _ ⟨g44, rfl, rfl⟩
 refine FJ.es (goes_list rfl) rfl (es_store (off := 0) (cs := [.int .i64 ((writeR x a n L b).code), .slice Ao42 ((writeR x a n L b).fs.inodes).length co42, .slice Ao43 ((writeR x a n L b).fs.data).length co43]) rfl sz_33 (.t .z) (.t (.s .z)) rfl (ones rfl) .z (Nat.le_of_ble_eq_true rfl) (.c .z (.c (.s .z) (.c (.s (.s .z)) .n)))) ?_
 refine FJ.nil (FJ.then_ (FJ.seq (FJ.seq (FJ.region ?_))))
 refine FJ.ql rfl (q_loadA (cs := [.int .i64 ((writeR x a n L b).code), .slice Ao42 ((writeR x a n L b).fs.inodes).length co42, .slice Ao43 ((writeR x a n L b).fs.data).length co43]) rfl ag_33 sz_33 (.t .z) (WS.rows0 .z (fun i u h => by exact h))) ?_
 refine FJ.ql rfl (q_loadA (cs := [.int .i64 ((writeR x a n L b).code), .slice Ao24 ((writeR x a n L b).fs.inodes).length co24, .slice Ao25 ((writeR x a n L b).fs.data).length co25]) rfl ag_33 sz_33 (.t (.s16 (.s .z))) (WS.rows0 (.s4 (.s4 .z)) (fun i u h => by exact h))) ?_
 refine FJ.call (goes_list rfl) rfl (by decide) rfl (c_call rfl Tryz.func17 rfl rfl (args2 (.t (.s .z)) (.t .z))) .n (fun w1 S1 hs tr => c_17 (kT_33_mk (writeR x a n L b) (tr.own (.s .z)) (tr.own (.s (.s .z)))) (kT_33_mk (writeR x a n L b) (tr.own (.s4 (.s4 (.s .z)))) (tr.own (.s4 (.s4 (.s (.s .z))))))) ?_
 rintro _ _ ⟨rfl, rfl⟩
 refine FJ.cat .n ?_
 refine FJ.ql rfl (q_not rfl (.t .z)) (FJ.nil (FJ.then_ ?_))
 refine FJ.condN (.t .z) (fun b45 => ?_) (fun b45 => ?_)
 refine FJ.seq (FJ.region (FJ.er (.s16 (.s16 (.s4 (.s4 (.s (.s .z)))))) (FJ.ql rfl (q_assign rfl .c) (FJ.nil ?_))))
 refine FJ.then_ (FJ.ret (FJ.thenR ?_))
 refine FJ.doneS (res1 rfl .z) .n ?_
 exfalso; first | exact absurd rfl (by assumption) | omega | (simp_all; done)
 refine FJ.skip (FJ.then_ (FJ.seq (FJ.seq ?_)))
 refine FJ.sel (.c (.s .z) (.c (.s .z) (.c (.s .z) (.c (.s .z) (.c (.s (.s .z)) (.c (.s (.s .z)) (.c (.s (.s (.s .z))) (.c (.s (.s (.s .z))) (.c (.s (.s (.s .z))) (.c (.s (.s (.s .z))) (.c (.s (.s (.s .z))) (.c (.s (.s (.s .z))) (.c .z (.c .z (.c .z (.c .z .n)))))))))))))))) ?_
 refine FJ.draw [rowA g44 33 3 1 [.int .i64 ((writeR x a n L b).code), .slice Ao42 ((writeR x a n L b).fs.inodes).length co42, .slice Ao43 ((writeR x a n L b).fs.data).length co43], rowA g33 31 2 1 [.slice Ao31 x.inodes.length co31, .slice Ao32 x.data.length co32], rowA g26 33 3 1 [.int .i64 ((writeR x a n L b).code), .slice Ao24 ((writeR x a n L b).fs.inodes).length co24, .slice Ao25 ((writeR x a n L b).fs.data).length co25], rowA g5 25 2 1 [.slice A0_0 x.inodes.length c0_0, .slice A0_1 x.data.length c0_1]] 5 (by kernel_rfl) ?_
 refine FJ.sch [(0, true), (1, true), (2, false), (3, false), (4, true)] 0 #[true, true, true, true, true] (by rfl) (by kernel_rfl) ?_
 refine FJ.dq rfl rfl rfl (by decide) rfl (.s4 (.s4 (.s4 .z))) (q_loadA (cs := [.slice Ao31 x.inodes.length co31, .slice Ao32 x.data.length co32]) rfl ag_31 sz_31 (.t (.s16 (.s .z))) (WS.rows0 (.s .z) (fun i u h => by exact h))) ?_
 refine FJ.dq rfl rfl rfl (by decide) rfl (.s4 (.s4 (.s4 .z))) (q_loadA (cs := [.slice A0_0 x.inodes.length c0_0, .slice A0_1 x.data.length c0_1]) rfl ag_25 sz_25 (.t (.s16 (.s16 (.s4 (.s4 (.s4 .z)))))) (WS.rows0 (.s (.s (.s .z))) (fun i u h => by exact h))) ?_
 refine FJ.call (goes_sch rfl rfl) rfl (by decide) rfl (c_call rfl Tryz.func13 rfl rfl (args1 (.t .z))) .n (fun w1 S1 hs tr => c_13 (kT_25_mk x (tr.ctx h0_0) (tr.ctx h0_1))) ?_
 rintro _ _ ⟨v46, v48, rfl, rfl⟩
 refine FJ.cat (.c (.c .n)) ?_
 refine FJ.know (WS.oform .z) ?_
 rintro ⟨Ao50, co50, rfl, hlo50, hmo50, hbo50⟩
 refine FJ.know (WS.oform (.s .z)) ?_
 rintro ⟨Ao51, co51, rfl, hlo51, hmo51, hbo51⟩
 refine FJ.sk (.s4 (.s4 (.s4 (.s (.s .z))))) ?_
 refine FJ.call (goes_sch rfl rfl) rfl (by decide) rfl (c_call rfl Tryz.func18 rfl rfl (args2 (.t (.s (.s .z))) (.t .z))) .n (fun w1 S1 hs tr => c_18 (kT_31_mk x (tr.own (.s4 (.s (.s .z)))) (tr.own (.s4 (.s (.s (.s .z)))))) (kT_31_mk x (tr.own .z) (tr.own (.s .z)))) ?_
 rintro _ _ ⟨rfl, rfl⟩
 refine FJ.cat .n ?_
 refine FJ.sk (.s4 (.s4 (.s4 (.s (.s .z))))) ?_
 refine FJ.dq rfl rfl rfl (by decide) rfl (.s4 (.s4 (.s4 (.s (.s .z))))) (q_not rfl (.t .z)) (FJ.schN ?_)
 refine FJ.drawN (by kernel_rfl) ?_
 refine FJ.then_ ?_
 refine FJ.condN (.t .z) (fun b52 => ?_) (fun b52 => ?_)
 refine FJ.seq (FJ.region (FJ.er (.s16 (.s16 (.s4 (.s4 (.s4 (.s (.s (.s .z)))))))) (FJ.ql rfl (q_assign rfl .c) (FJ.nil ?_))))
 refine FJ.then_ (FJ.ret (FJ.thenR ?_))
 refine FJ.doneS (res1 rfl .z) .n ?_
 exfalso; first | exact absurd rfl (by assumption) | omega | (simp_all; done)
 refine FJ.skip (FJ.then_ (FJ.seq (FJ.seq (FJ.region ?_))))
 refine FJ.ql rfl (q_move rfl (.t (.s16 (.s (.s (.s .z)))))) (FJ.ql rfl (q_move rfl (.t (.s16 (.s16 (.s16 (.s4 (.s .z))))))) ?_)
 refine FJ.call (goes_list rfl) rfl (by decide) rfl (c_call rfl Tryz.func14 rfl rfl (args1 (.t .z))) .n (fun w1 S1 hs tr => c_14 (tr.ctx h3)) ?_
 rintro _ _ rfl
 refine FJ.cat (.c .n) ?_
 refine FJ.know (WS.oform .z) ?_
 rintro ⟨Ao54, co54, rfl, hlo54, hmo54, hbo54⟩
 refine FJ.call (goes_list rfl) rfl (by decide) rfl (c_call rfl Tryz.func19 rfl rfl (args2 (.t (.s (.s .z))) (.t .z))) .n (fun w1 S1 hs tr => c_19 (tr.own (.s4 (.s (.s .z)))) (tr.own .z)) ?_
 rintro _ _ ⟨rfl, rfl⟩
 refine FJ.cat .n ?_
 refine FJ.ql rfl (q_not rfl (.t .z)) (FJ.nil (FJ.then_ ?_))
 refine FJ.condN (.t .z) (fun b55 => ?_) (fun b55 => ?_)
 refine FJ.seq (FJ.region (FJ.er (.s16 (.s16 (.s16 (.s4 .z)))) (FJ.ql rfl (q_assign rfl .c) (FJ.nil ?_))))
 refine FJ.then_ (FJ.ret (FJ.thenR ?_))
 refine FJ.doneS (res1 rfl .z) .n ?_
 exfalso; first | exact absurd rfl (by assumption) | omega | (simp_all; done)
 refine FJ.skip (FJ.then_ (FJ.seq (FJ.seq (FJ.region ?_))))
 refine FJ.ql rfl (q_move rfl (.t (.s16 (.s4 (.s .z))))) (FJ.ql rfl (q_move rfl (.t (.s16 (.s16 (.s16 (.s4 (.s4 (.s (.s (.s .z)))))))))) ?_)
 refine FJ.call (goes_list rfl) rfl (by decide) rfl (c_call rfl Tryz.func15 rfl rfl (args1 (.t .z))) .n (fun w1 S1 hs tr => c_15 (tr.ctx h4)) ?_
 rintro _ _ rfl
 refine FJ.cat (.c .n) ?_
 refine FJ.know (WS.oform .z) ?_
 rintro ⟨Ao57, co57, rfl, hlo57, hmo57, hbo57⟩
 refine FJ.call (goes_list rfl) rfl (by decide) rfl (c_call rfl Tryz.func20 rfl rfl (args2 (.t (.s (.s .z))) (.t .z))) .n (fun w1 S1 hs tr => c_20 (tr.own (.s4 (.s (.s .z)))) (tr.own .z)) ?_
 rintro _ _ ⟨rfl, rfl⟩
 refine FJ.cat .n ?_
 refine FJ.ql rfl (q_not rfl (.t .z)) (FJ.nil (FJ.then_ ?_))
 refine FJ.condN (.t .z) (fun b58 => ?_) (fun b58 => ?_)
 refine FJ.seq (FJ.region (FJ.er (.s16 (.s16 (.s16 (.s4 (.s4 (.s .z)))))) (FJ.ql rfl (q_assign rfl .c) (FJ.nil ?_))))
 refine FJ.then_ (FJ.ret (FJ.thenR ?_))
 refine FJ.doneS (res1 rfl .z) .n ?_
 exfalso; first | exact absurd rfl (by assumption) | omega | (simp_all; done)
 refine FJ.skip (FJ.then_ (FJ.seq (FJ.region (FJ.ql rfl (q_assign rfl .c) ?_))))
 refine FJ.nil (FJ.then_ (FJ.seq (FJ.region ?_)))
 refine FJ.ql rfl (q_loadA (cs := [.slice Ao31 x.inodes.length co31, .slice Ao32 x.data.length co32]) rfl ag_31 sz_31 (.t (.s16 (.s16 (.s .z)))) (WS.rows0 (.s16 (.s .z)) (fun i u h => by exact h))) ?_
 refine FJ.ql rfl (q_move rfl (.t (.s .z))) ?_
 refine FJ.call (goes_list rfl) rfl (by decide) rfl (c_call rfl Tryz.func21 rfl rfl (args2 (.t (.s .z)) (.t .z))) (.c (.s4 (.s4 .z)) (.c (.s4 (.s4 .z)) .n)) (fun w1 S1 hs tr => c_21 _ hs (by omega) (by first | omega | (omega))) ?_
 rintro _ _ ⟨rfl, rfl⟩
 refine FJ.cat (.c (.c .n)) ?_
 refine FJ.er (.s (.s (.s .z))) (FJ.ql rfl (q_assign rfl (.t .z)) (FJ.nil (FJ.then_ (FJ.seq ?_))))
 refine FJ.region (FJ.ql rfl (q_move rfl (.t (.s16 (.s16 (.s .z))))) (FJ.ql rfl (q_move rfl (.t (.s .z))) ?_))
 refine FJ.call (goes_list rfl) rfl (by decide) rfl (c_call rfl Tryz.func22 rfl rfl (args2 (.t (.s .z)) (.t .z))) (.c (.s4 (.s4 (.s .z))) .n) (fun w1 S1 hs tr => c_22 _ hs (by omega) (by first | omega | (omega))) ?_
 rintro _ _ ⟨rfl, rfl⟩
 refine FJ.cat (.c .n) ?_
 refine FJ.er (.s (.s (.s .z))) (FJ.ql rfl (q_assign rfl (.t .z)) (FJ.nil (FJ.then_ (FJ.seq ?_))))
 refine FJ.region (FJ.ql rfl (q_move rfl (.t (.s16 (.s16 (.s .z))))) (FJ.ql rfl (q_move rfl (.t (.s .z))) ?_))
 refine FJ.call (goes_list rfl) rfl (by decide) rfl (c_call rfl Tryz.func23 rfl rfl (args2 (.t (.s .z)) (.t .z))) (.c (.s4 (.s4 (.s .z))) .n) (fun w1 S1 hs tr => c_23 _ hs (by omega) (by first | omega | (omega))) ?_
 rintro _ _ ⟨rfl, rfl⟩
 refine FJ.cat (.c .n) ?_
 refine FJ.er (.s (.s (.s .z))) (FJ.ql rfl (q_assign rfl (.t .z)) (FJ.nil (FJ.then_ (FJ.seq ?_))))
 refine FJ.seq (FJ.region (FJ.ql rfl (q_move rfl (.t .z)) (FJ.ql rfl (q_lss rfl (.t .z) .c) (FJ.ql rfl (q_move rfl (.t .z)) ?_))))
 refine FJ.caseP .z (fun g59 => ?_) (fun g59 => ?_)
 refine FJ.skipl rfl rfl .z rfl rfl (by decide) rfl ?_
 refine FJ.skipl rfl rfl (.s .z) rfl rfl (by decide) rfl ?_
 refine FJ.skipl rfl rfl (.s (.s .z)) rfl rfl (by decide) rfl ?_
 refine FJ.skipl rfl rfl (.s (.s (.s .z))) rfl rfl (by decide) rfl ?_
 refine FJ.ql rfl (q_pickT rfl (.t (.s4 .z)) .c) (FJ.nil (FJ.then_ ?_))
 refine FJ.condT (.t .z) ?_
 refine FJ.seq (FJ.region (FJ.er (.s16 (.s16 (.s16 (.s16 (.s4 (.s4 (.s (.s (.s .z))))))))) (FJ.ql rfl (q_assign rfl .c) (FJ.nil ?_))))
 refine FJ.then_ (FJ.ret (FJ.thenR ?_))
 refine FJ.doneS (res1 rfl .z) .n ?_
 exfalso; first | exact absurd rfl (by assumption) | omega | (simp_all; done)
 refine FJ.q (goes_listg rfl rfl .z) rfl (by decide) rfl (q_loadA (cs := [.int .i64 ((writeR x a n L b).code), .slice Ao42 ((writeR x a n L b).fs.inodes).length co42, .slice Ao43 ((writeR x a n L b).fs.data).length co43]) rfl ag_33 sz_33 (.t (.s16 (.s16 .z))) (WS.rows0 (.s16 .z) (fun i u h => by exact h))) ?_
 refine FJ.q (goes_listg rfl rfl (.s .z)) rfl (by decide) rfl (q_loadA (cs := [.int .i64 ((writeR x a n L b).code), .slice Ao24 ((writeR x a n L b).fs.inodes).length co24, .slice Ao25 ((writeR x a n L b).fs.data).length co25]) rfl ag_33 sz_33 (.t (.s16 (.s16 (.s16 (.s .z))))) (WS.rows0 (.s16 (.s (.s .z))) (fun i u h => by exact h))) ?_
 refine FJ.call (goes_listg rfl rfl (.s (.s .z))) rfl (by decide) rfl (c_call rfl Tryz.func17 rfl rfl (args2 (.t (.s .z)) (.t .z))) .n (fun w1 S1 hs tr => c_17 (kT_33_mk (writeR x a n L b) (tr.own (.s4 (.s4 .z))) (tr.own (.s4 (.s4 (.s .z))))) (kT_33_mk (writeR x a n L b) (tr.own (.s4 (.s4 (.s (.s .z))))) (tr.own (.s4 (.s4 (.s (.s (.s .z)))))))) ?_
 rintro _ _ ⟨rfl, rfl⟩
 refine FJ.cat .n ?_
 refine FJ.q (goes_listg rfl rfl (.s (.s (.s .z)))) rfl (by decide) rfl (q_not rfl (.t .z)) ?_
 refine FJ.ql rfl (q_pickF rfl (.t (.s4 .z)) (.t .z)) (FJ.nil (FJ.then_ ?_))
 refine FJ.condN (.t .z) (fun b60 => ?_) (fun b60 => ?_)
 exfalso; first | omega | contradiction
 refine FJ.skip (FJ.then_ (FJ.seq (FJ.region (FJ.ql rfl (q_assign rfl .c) ?_))))
 refine FJ.nil (FJ.then_ (FJ.seq (FJ.region ?_)))
 refine FJ.ql rfl (q_loadA (cs := [.int .i64 ((writeR x a n L b).code), .slice Ao42 ((writeR x a n L b).fs.inodes).length co42, .slice Ao43 ((writeR x a n L b).fs.data).length co43]) rfl ag_33 sz_33 (.t (.s16 (.s16 (.s4 (.s (.s .z)))))) (WS.rows0 (.s16 .z) (fun i u h => by exact h))) ?_
 refine FJ.ql rfl (q_move rfl (.t (.s .z))) ?_
 refine FJ.call (goes_list rfl) rfl (by decide) rfl (c_call rfl Tryz.func24 rfl rfl (args2 (.t (.s .z)) (.t .z))) (.c (.s4 (.s4 .z)) (.c (.s4 (.s4 .z)) .n)) (fun w1 S1 hs tr => c_24 _ hs (by omega) (by first | omega | (omega))) ?_
 rintro _ _ ⟨rfl, rfl⟩
 refine FJ.cat (.c (.c .n)) ?_
 refine FJ.er (.s (.s (.s .z))) (FJ.ql rfl (q_assign rfl (.t .z)) (FJ.nil (FJ.then_ (FJ.seq ?_))))
 refine FJ.region (FJ.ql rfl (q_assign rfl .c) (FJ.nil (FJ.then_ (FJ.seq ?_))))
 refine FJ.region ?_
 refine FJ.ql rfl (q_loadA (cs := [.int .i64 ((writeR x a n L b).code), .slice Ao42 ((writeR x a n L b).fs.inodes).length co42, .slice Ao43 ((writeR x a n L b).fs.data).length co43]) rfl ag_33 sz_33 (.t (.s16 (.s16 (.s4 (.s4 (.s (.s .z))))))) (WS.rows0 (.s16 .z) (fun i u h => by exact h))) ?_
 refine FJ.ql rfl (q_move rfl (.t (.s .z))) ?_
 refine FJ.call (goes_list rfl) rfl (by decide) rfl (c_call rfl Tryz.func25 rfl rfl (args2 (.t (.s .z)) (.t .z))) .n (fun w1 S1 hs tr => c_25 (kT_33_mk (⟨(writeR x a n L b).code, (⟨(vmark_RFs 1 (writeR x a n L b)).fs.inodes, (vmark_RFs 1 (writeR x a n L b)).fs.data⟩ : DFs)⟩ : RFs) (tr.own .z) (tr.own (.s .z))) _ (writeR x a n L b) rfl (by omega) (by first | omega | (omega))) ?_
 rintro _ _ ⟨rfl, rfl⟩
 refine FJ.cat .n ?_
 refine FJ.er (.s (.s (.s .z))) (FJ.ql rfl (q_assign rfl (.t .z)) (FJ.nil (FJ.then_ (FJ.seq ?_))))
 refine FJ.seq (FJ.region (FJ.ql rfl (q_move rfl (.t .z)) (FJ.ql rfl (q_lss rfl (.t .z) .c) (FJ.nil ?_))))
 refine FJ.then_ ?_
 refine FJ.condP (.t .z) (fun b61 => ?_) (fun b61 => ?_)
 refine FJ.seq (FJ.region (FJ.er (.s16 (.s16 (.s16 (.s16 (.s16 (.s4 (.s .z))))))) (FJ.ql rfl (q_assign rfl .c) (FJ.nil ?_))))
 refine FJ.then_ (FJ.ret (FJ.thenR ?_))
 refine FJ.doneS (res1 rfl .z) .n ?_
 exfalso; first | exact absurd rfl (by assumption) | omega | (simp_all; done)
 refine FJ.skip (FJ.then_ (FJ.seq (FJ.seq (FJ.region ?_))))
 refine FJ.ql rfl (q_move rfl (.t (.s (.s .z)))) (FJ.ql rfl (q_move rfl (.t (.s4 (.s (.s (.s .z)))))) (FJ.ql rfl (q_neq rfl (.t (.s .z)) (.t .z)) (FJ.nil (FJ.then_ ?_))))
 refine FJ.condN (.t .z) (fun b62 => ?_) (fun b62 => ?_)
 refine FJ.seq (FJ.region (FJ.er (.s16 (.s16 (.s16 (.s16 (.s16 (.s4 (.s4 .z))))))) (FJ.ql rfl (q_assign rfl .c) (FJ.nil ?_))))
 refine FJ.then_ (FJ.ret (FJ.thenR ?_))
 refine FJ.doneS (res1 rfl .z) .n ?_
 exfalso; first | exact absurd rfl (by assumption) | omega | (simp_all; done)
 refine FJ.skip (FJ.then_ (FJ.seq (FJ.region ?_)))
 refine FJ.ql rfl (q_loadA (cs := [.slice A0_0 x.inodes.length c0_0, .slice A0_1 x.data.length c0_1]) rfl ag_25 sz_25 (.t (.s16 (.s16 (.s16 (.s16 (.s16 (.s4 (.s4 (.s .z))))))))) (WS.rows0 (.s16 (.s (.s (.s .z)))) (fun i u h => by exact h))) ?_
 refine FJ.call (goes_list rfl) rfl (by decide) rfl (c_call rfl Tryz.func13 rfl rfl (args1 (.t .z))) .n (fun w1 S1 hs tr => c_13 (kT_25_mk x (tr.ctx h0_0) (tr.ctx h0_1))) ?_
 rintro _ _ ⟨v63, v65, rfl, rfl⟩
 refine FJ.cat (.c (.c .n)) ?_
 refine FJ.know (WS.oform .z) ?_
 rintro ⟨Ao67, co67, rfl, hlo67, hmo67, hbo67⟩
 refine FJ.know (WS.oform (.s .z)) ?_
 rintro ⟨Ao68, co68, rfl, hlo68, hmo68, hbo68⟩
 refine FJ.ql rfl (q_move rfl (.t (.s16 (.s16 (.s16 (.s16 (.s16 (.s4 (.s4 (.s4 (.s .z))))))))))) (FJ.ql rfl (q_move rfl (.t (.s16 (.s16 (.s16 (.s16 (.s16 (.s4 (.s4 (.s4 (.s (.s (.s .z))))))))))))) (FJ.ql rfl (q_move rfl (.t (.s16 (.s16 (.s16 (.s16 (.s16 (.s16 (.s .z))))))))) ?_))
 refine FJ.call (goes_list rfl) rfl (by decide) rfl (c_call rfl Tryz.func14 rfl rfl (args1 (.t .z))) .n (fun w1 S1 hs tr => c_14 (tr.ctx h3)) ?_
 rintro _ _ rfl
 refine FJ.cat (.c .n) ?_
 refine FJ.know (WS.oform .z) ?_
 rintro ⟨Ao70, co70, rfl, hlo70, hmo70, hbo70⟩
 refine FJ.ql rfl (q_move rfl (.t (.s16 (.s16 (.s16 (.s16 (.s16 (.s16 (.s4 .z))))))))) ?_
 refine FJ.call (goes_list rfl) rfl (by decide) rfl (c_call rfl Tryz.func15 rfl rfl (args1 (.t .z))) .n (fun w1 S1 hs tr => c_15 (tr.ctx h4)) ?_
 rintro _ _ rfl
 refine FJ.cat (.c .n) ?_
 refine FJ.know (WS.oform .z) ?_
 rintro ⟨Ao72, co72, rfl, hlo72, hmo72, hbo72⟩
 refine FJ.call (goes_list rfl) rfl (by decide) rfl (c_call rfl Tryz.func27 rfl rfl (args5 (.t (.s4 (.s (.s .z)))) (.t (.s4 (.s .z))) (.t (.s4 .z)) (.t (.s (.s .z))) (.t .z))) .n (fun w1 S1 hs tr => c_27 (kT_31_mk x (tr.own (.s (.s .z))) (tr.own (.s (.s (.s .z))))) _ _ (tr.own (.s .z)) (tr.own .z)) ?_
 rintro _ _ ⟨v73, v75, rfl, rfl⟩
 refine FJ.cat (.c (.c .n)) ?_
 refine FJ.know (WS.oform .z) ?_
 rintro ⟨Ao77, co77, rfl, hlo77, hmo77, hbo77⟩
 refine FJ.know (WS.oform (.s .z)) ?_
 rintro ⟨Ao78, co78, rfl, hlo78, hmo78, hbo78⟩
 refine FJ.e (goes_list rfl) rfl (by decide) rfl (e_alloc rfl z_33 rfl rfl) ?_
 rintro _ _ ⟨g79, rfl, rfl⟩
 refine FJ.es (goes_list rfl) rfl (es_store (off := 0) (cs := [.int .i64 ((writeR x a n L b).code), .slice Ao77 ((writeR x a n L b).fs.inodes).length co77, .slice Ao78 ((writeR x a n L b).fs.data).length co78]) rfl sz_33 (.t .z) (.t (.s .z)) rfl (ones rfl) .z (Nat.le_of_ble_eq_true rfl) (.c .z (.c (.s .z) (.c (.s (.s .z)) .n)))) ?_
 refine FJ.nil (FJ.then_ (FJ.seq (FJ.seq (FJ.region ?_))))
 refine FJ.ql rfl (q_loadA (cs := [.int .i64 ((writeR x a n L b).code), .slice Ao77 ((writeR x a n L b).fs.inodes).length co77, .slice Ao78 ((writeR x a n L b).fs.data).length co78]) rfl ag_33 sz_33 (.t .z) (WS.rows0 .z (fun i u h => by exact h))) ?_
 refine FJ.ql rfl (q_loadA (cs := [.int .i64 ((writeR x a n L b).code), .slice Ao24 ((writeR x a n L b).fs.inodes).length co24, .slice Ao25 ((writeR x a n L b).fs.data).length co25]) rfl ag_33 sz_33 (.t (.s16 (.s16 (.s16 (.s16 (.s4 (.s4 (.s4 (.s .z))))))))) (WS.rows0 (.s16 (.s4 (.s4 (.s .z)))) (fun i u h => by exact h))) ?_
 refine FJ.call (goes_list rfl) rfl (by decide) rfl (c_call rfl Tryz.func17 rfl rfl (args2 (.t (.s .z)) (.t .z))) .n (fun w1 S1 hs tr => c_17 (kT_33_mk (writeR x a n L b) (tr.own (.s .z)) (tr.own (.s (.s .z)))) (kT_33_mk (writeR x a n L b) (tr.own (.s16 (.s .z))) (tr.own (.s16 (.s (.s .z)))))) ?_
 rintro _ _ ⟨rfl, rfl⟩
 refine FJ.cat .n ?_
 refine FJ.ql rfl (q_not rfl (.t .z)) (FJ.nil (FJ.then_ ?_))
 refine FJ.condN (.t .z) (fun b80 => ?_) (fun b80 => ?_)
 exfalso; first | omega | contradiction
 refine FJ.skip (FJ.then_ (FJ.seq (FJ.region (FJ.er (.s16 (.s (.s (.s .z)))) ?_))))
 refine FJ.ql rfl (q_assign rfl .c) (FJ.nil (FJ.then_ (FJ.seq (FJ.region ?_))))
 refine FJ.ql rfl (q_loadA (cs := [.int .i64 ((writeR x a n L b).code), .slice Ao42 ((writeR x a n L b).fs.inodes).length co42, .slice Ao43 ((writeR x a n L b).fs.data).length co43]) rfl ag_33 sz_33 (.t (.s16 (.s16 (.s16 (.s16 .z))))) (WS.rows0 (.s16 (.s4 (.s (.s (.s .z))))) (fun i u h => by exact h))) ?_
 refine FJ.ql rfl (q_move rfl (.t (.s .z))) ?_
 refine FJ.call (goes_list rfl) rfl (by decide) rfl (c_call rfl Tryz.func25 rfl rfl (args2 (.t (.s .z)) (.t .z))) .n (fun w1 S1 hs tr => c_25 (kT_33_mk (⟨(writeR x a n L b).code, (⟨(vmark_RFs 1 (writeR x a n L b)).fs.inodes, (vmark_RFs 1 (writeR x a n L b)).fs.data⟩ : DFs)⟩ : RFs) (tr.own (.s4 (.s (.s (.s .z))))) (tr.own (.s4 (.s4 .z)))) _ (writeR x a n L b) rfl (by omega) (by first | omega | (omega))) ?_
 rintro _ _ ⟨rfl, rfl⟩
 refine FJ.cat .n ?_
 refine FJ.er (.s (.s (.s .z))) (FJ.ql rfl (q_assign rfl (.t .z)) (FJ.nil (FJ.then_ (FJ.seq ?_))))
 refine FJ.seq (FJ.region (FJ.ql rfl (q_move rfl (.t .z)) (FJ.ql rfl (q_lss rfl (.t .z) .c) (FJ.nil ?_))))
 refine FJ.then_ ?_
 refine FJ.condP (.t .z) (fun b81 => ?_) (fun b81 => ?_)
 exfalso; first | omega | contradiction
 refine FJ.skip (FJ.then_ (FJ.seq (FJ.seq (FJ.region ?_))))
 refine FJ.ql rfl (q_move rfl (.t (.s (.s .z)))) (FJ.ql rfl (q_move rfl (.t (.s16 (.s4 (.s4 (.s4 (.s .z))))))) (FJ.ql rfl (q_neq rfl (.t (.s .z)) (.t .z)) (FJ.nil (FJ.then_ ?_))))
 refine FJ.condN (.t .z) (fun b82 => ?_) (fun b82 => ?_)
 exfalso; first | omega | contradiction
 refine FJ.skip (FJ.then_ (FJ.seq (FJ.region (FJ.er (.s16 (.s16 (.s16 (.s16 (.s16 (.s16 (.s4 (.s4 (.s4 (.s (.s .z))))))))))) ?_))))
 refine FJ.ql rfl (q_assign rfl .c) (FJ.nil (FJ.then_ (FJ.ret ?_)))
 refine FJ.doneS (res1 rfl .z) .n ?_
 exact ⟨rfl, rfl⟩

end Go.Proofs.YticaddophhggoaaGreat

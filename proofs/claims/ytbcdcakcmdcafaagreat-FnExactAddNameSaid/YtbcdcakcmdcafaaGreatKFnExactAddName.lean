/- What is proved: contracts of functions, one a function. No condition. -/
import Derived.Test.YtbcdcakcmdcafaaGreatW39
import Derived.Test.YtbcdcakcmdcafaaGreatW7
import Derived.Test.YtbcdcakcmdcafaaGreatBase2
namespace Go.Proofs.YtbcdcakcmdcafaaGreat
open Go Go.RowKit
set_option linter.unusedVariables false
set_option linter.unusedSimpArgs false
set_option maxHeartbeats 1000000 in
set_option maxRecDepth 20000 in
theorem c_8 {w0 : World} {S0 : Bs} {x : DFs} {cs0 : List Value} (h0 : kT_37.ro w0 (FF w0 S0) x cs0) (a : Int) (s : ByteArray) (hz2 : s.size ≤ 140737488351232) (b : Int)  :
    Calls Tryz.prog 8 #[.agg cs0.toArray, .int .i64 a, .string s, .int .i64 b] w0 (TriPost w0 S0 (fun r l => r = .bool true ∧ l = [])) := by
 obtain ⟨u0_0, u0_1, rfl, h0_0, h0_1⟩ := kT_37_ro h0
 obtain ⟨A0_0, c0_0, rfl, hl0_0, hm0_0, hb0_0, he0_0⟩ := ro_form h0_0
 obtain ⟨A0_1, c0_1, rfl, hl0_1, hm0_1, hb0_1, he0_1⟩ := ro_form h0_1
 have hb := addNameR_cnt x a s b
 have hw := fs_cnt_wt x
 refine FJ.enter (N := 87) Tryz.func8 rfl rfl (by simp) [(0, .agg #[.slice A0_0 x.inodes.length c0_0, .slice A0_1 x.data.length c0_1]), (1, .int .i64 a), (2, .string s), (3, .int .i64 b)] (by simp) (l0 := []) trivial ?_
 refine FJ.seq (FJ.region ?_)
 refine FJ.e (goes_list rfl) rfl (by decide) rfl (e_box (cs := [.slice A0_0 x.inodes.length c0_0, .slice A0_1 x.data.length c0_1]) (n := 2) rfl (.t .z) rfl rfl) ?_
 rintro _ _ ⟨g3, rfl, rfl⟩
 refine FJ.ql rfl (q_assign rfl .c) (FJ.nil (FJ.then_ (FJ.seq (FJ.seq ?_))))
 refine FJ.region (FJ.ql rfl (q_move rfl (.t (.s4 .z))) (FJ.ql rfl (q_len_s rfl u_9 (.t .z)) (FJ.ql rfl (q_gtr rfl (.t .z) .c) (FJ.nil ?_))))
 refine FJ.then_ ?_
 refine FJ.condP (.t .z) (fun b4 => ?_) (fun b4 => ?_)
 refine FJ.seq (FJ.region (FJ.er (.s (.s (.s .z))) (FJ.ql rfl (q_assign rfl .c) (FJ.nil ?_))))
 refine FJ.then_ (FJ.ret (FJ.thenR ?_))
 refine FJ.doneS (res1 rfl .z) .n ?_
 exact ⟨rfl, rfl⟩
 refine FJ.skip (FJ.then_ (FJ.seq (FJ.region (FJ.ql rfl (q_assign rfl .c) ?_))))
 refine FJ.nil (FJ.then_ (FJ.seq (FJ.region ?_)))
 refine FJ.ql rfl (q_loadA (cs := [.slice A0_0 x.inodes.length c0_0, .slice A0_1 x.data.length c0_1]) rfl ag_37 sz_37 (.t (.s4 (.s .z))) (WS.rows0 .z (fun i u h => by exact h))) ?_
 refine FJ.ql rfl (q_move rfl (.t (.s .z))) ?_
 refine FJ.call (goes_list rfl) rfl (by decide) rfl (c_call rfl Tryz.func19 rfl rfl (args2 (.t (.s .z)) (.t .z))) .n (fun w1 S1 hs tr => c_19 (kT_37_mk x (tr.ctx h0_0) (tr.ctx h0_1)) _ (by omega) (by omega)) ?_
 rintro _ _ ⟨c5, rfl, hc5, wc5, rfl⟩
 refine FJ.cat .n ?_
 refine FJ.er (.s (.s (.s .z))) (FJ.ql rfl (q_assign rfl (.t .z)) (FJ.nil (FJ.then_ (FJ.seq ?_))))
 refine FJ.seq (FJ.region (FJ.ql rfl (q_move rfl (.t .z)) (FJ.ql rfl (q_lss rfl (.t .z) .c) (FJ.nil ?_))))
 refine FJ.then_ ?_
 refine FJ.condP (.t .z) (fun b6 => ?_) (fun b6 => ?_)
 refine FJ.seq (FJ.region (FJ.er (.s4 (.s4 (.s .z))) (FJ.ql rfl (q_assign rfl .c) (FJ.nil ?_))))
 refine FJ.then_ (FJ.ret (FJ.thenR ?_))
 refine FJ.doneS (res1 rfl .z) .n ?_
 exact ⟨rfl, rfl⟩
 refine FJ.skip (FJ.then_ (FJ.seq (FJ.region ?_)))
 refine FJ.ql rfl (q_loadA (cs := [.slice A0_0 x.inodes.length c0_0, .slice A0_1 x.data.length c0_1]) rfl ag_37 sz_37 (.t (.s4 (.s4 (.s (.s .z))))) (WS.rows0 .z (fun i u h => by exact h))) ?_
 refine FJ.call (goes_list rfl) rfl (by decide) rfl (c_call rfl Tryz.func21 rfl rfl (args1 (.t .z))) .n (fun w1 S1 hs tr => c_21 (kT_37_mk x (tr.ctx h0_0) (tr.ctx h0_1))) ?_
 rintro _ _ ⟨v7, v9, rfl, rfl⟩
 refine FJ.cat (.c (.c .n)) ?_
 refine FJ.know (WS.oform .z) ?_
 rintro ⟨Ao11, co11, rfl, hlo11, hmo11, hbo11⟩
 refine FJ.know (WS.oform (.s .z)) ?_
 rintro ⟨Ao12, co12, rfl, hlo12, hmo12, hbo12⟩
 refine FJ.ql rfl (q_move rfl (.t (.s4 (.s4 (.s4 (.s (.s .z))))))) (FJ.ql rfl (q_move rfl (.t (.s16 .z))) (FJ.ql rfl (q_move rfl (.t (.s16 (.s (.s .z))))) ?_))
 refine FJ.call (goes_list rfl) rfl (by decide) rfl (c_call rfl Tryz.func34 rfl rfl (args4 (.t (.s (.s (.s .z)))) (.t (.s (.s .z))) (.t (.s .z)) (.t .z))) .n (fun w1 S1 hs tr => c_34 (kT_26_mk x (tr.own .z) (tr.own (.s .z))) _ _ (by first | assumption | omega) _) ?_
 rintro _ _ ⟨v13, v15, rfl, rfl⟩
 refine FJ.cat (.c (.c .n)) ?_
 refine FJ.know (WS.oform .z) ?_
 rintro ⟨Ao17, co17, rfl, hlo17, hmo17, hbo17⟩
 refine FJ.know (WS.oform (.s .z)) ?_
 rintro ⟨Ao18, co18, rfl, hlo18, hmo18, hbo18⟩
 refine FJ.e (goes_list rfl) rfl (by decide) rfl (e_alloc rfl z_28 rfl rfl) ?_
 rintro _ _ ⟨g19, rfl, rfl⟩
 refine FJ.es (goes_list rfl) rfl (es_store (off := 0) (cs := [.int .i64 ((addNameR x a s b).code), .slice Ao17 ((addNameR x a s b).fs.inodes).length co17, .slice Ao18 ((addNameR x a s b).fs.data).length co18]) rfl sz_28 (.t .z) (.t (.s .z)) rfl (ones rfl) .z (Nat.le_of_ble_eq_true rfl) (.c .z (.c (.s .z) (.c (.s (.s .z)) .n)))) ?_
 refine FJ.nil (FJ.then_ (FJ.seq (FJ.region ?_)))
 refine FJ.ql rfl (q_loadA (cs := [.slice A0_0 x.inodes.length c0_0, .slice A0_1 x.data.length c0_1]) rfl ag_37 sz_37 (.t (.s16 (.s .z))) (WS.rows0 (.s4 (.s .z)) (fun i u h => by exact h))) ?_
 refine FJ.call (goes_list rfl) rfl (by decide) rfl (c_call rfl Tryz.func21 rfl rfl (args1 (.t .z))) .n (fun w1 S1 hs tr => c_21 (kT_37_mk x (tr.ctx h0_0) (tr.ctx h0_1))) ?_
 rintro _ _ ⟨v20, v22, rfl, rfl⟩
 refine FJ.cat (.c (.c .n)) ?_
 refine FJ.know (WS.oform .z) ?_
 rintro ⟨Ao24, co24, rfl, hlo24, hmo24, hbo24⟩
 refine FJ.know (WS.oform (.s .z)) ?_
 rintro ⟨Ao25, co25, rfl, hlo25, hmo25, hbo25⟩
 refine FJ.e (goes_list rfl) rfl (by decide) rfl (e_alloc rfl z_26 rfl rfl) ?_
 rintro _ _ ⟨g26, rfl, rfl⟩
 refine FJ.es (goes_list rfl) rfl (es_store (off := 0) (cs := [.slice Ao24 x.inodes.length co24, .slice Ao25 x.data.length co25]) rfl sz_26 (.t .z) (.t (.s .z)) rfl (ones rfl) .z (Nat.le_of_ble_eq_true rfl) (.c .z (.c (.s .z) .n))) ?_
 refine FJ.nil (FJ.then_ (FJ.seq (FJ.region ?_)))
 refine FJ.ql rfl (q_loadA (cs := [.slice Ao24 x.inodes.length co24, .slice Ao25 x.data.length co25]) rfl ag_26 sz_26 (.t .z) (WS.rows0 .z (fun i u h => by exact h))) ?_
 refine FJ.ql rfl (q_move rfl (.t (.s16 (.s4 (.s (.s (.s .z))))))) (FJ.ql rfl (q_move rfl (.t (.s16 (.s4 (.s4 (.s .z)))))) (FJ.ql rfl (q_move rfl (.t (.s16 (.s4 (.s4 (.s (.s (.s .z)))))))) ?_))
 refine FJ.call (goes_list rfl) rfl (by decide) rfl (c_call rfl Tryz.func35 rfl rfl (args4 (.t (.s (.s (.s .z)))) (.t (.s (.s .z))) (.t (.s .z)) (.t .z))) .n (fun w1 S1 hs tr => c_35 (kT_26_mk x (tr.own (.s .z)) (tr.own (.s (.s .z)))) _ _ (by first | assumption | omega) _) ?_
 rintro _ _ ⟨v27, v29, rfl, rfl⟩
 refine FJ.cat (.c (.c .n)) ?_
 refine FJ.know (WS.oform .z) ?_
 rintro ⟨Ao31, co31, rfl, hlo31, hmo31, hbo31⟩
 refine FJ.know (WS.oform (.s .z)) ?_
 rintro ⟨Ao32, co32, rfl, hlo32, hmo32, hbo32⟩
 refine FJ.e (goes_list rfl) rfl (by decide) rfl (e_alloc rfl z_28 rfl rfl) ?_
 rintro _ _ ⟨g33, rfl, rfl⟩
 refine FJ.es (goes_list rfl) rfl (es_store (off := 0) (cs := [.int .i64 ((addNameR x a s b).code), .slice Ao31 ((addNameR x a s b).fs.inodes).length co31, .slice Ao32 ((addNameR x a s b).fs.data).length co32]) rfl sz_28 (.t .z) (.t (.s .z)) rfl (ones rfl) .z (Nat.le_of_ble_eq_true rfl) (.c .z (.c (.s .z) (.c (.s (.s .z)) .n)))) ?_
 refine FJ.nil (FJ.then_ (FJ.seq (FJ.seq (FJ.region ?_))))
 refine FJ.ql rfl (q_loadA (cs := [.int .i64 ((addNameR x a s b).code), .slice Ao31 ((addNameR x a s b).fs.inodes).length co31, .slice Ao32 ((addNameR x a s b).fs.data).length co32]) rfl ag_28 sz_28 (.t .z) (WS.rows0 .z (fun i u h => by exact h))) ?_
 refine FJ.ql rfl (q_loadA (cs := [.int .i64 ((addNameR x a s b).code), .slice Ao17 ((addNameR x a s b).fs.inodes).length co17, .slice Ao18 ((addNameR x a s b).fs.data).length co18]) rfl ag_28 sz_28 (.t (.s4 (.s4 (.s (.s .z))))) (WS.rows0 (.s4 (.s (.s .z))) (fun i u h => by exact h))) ?_
 refine FJ.call (goes_list rfl) rfl (by decide) rfl (c_call rfl Tryz.func14 rfl rfl (args2 (.t (.s .z)) (.t .z))) .n (fun w1 S1 hs tr => c_14 (kT_28_mk (addNameR x a s b) (tr.own (.s .z)) (tr.own (.s (.s .z)))) (kT_28_mk (addNameR x a s b) (tr.own (.s4 (.s (.s (.s .z))))) (tr.own (.s4 (.s4 .z))))) ?_
 rintro _ _ ⟨rfl, rfl⟩
 refine FJ.cat .n ?_
 refine FJ.ql rfl (q_not rfl (.t .z)) (FJ.nil (FJ.then_ ?_))
 refine FJ.condN (.t .z) (fun b34 => ?_) (fun b34 => ?_)
 refine FJ.seq (FJ.region (FJ.er (.s16 (.s4 (.s4 (.s4 (.s .z))))) (FJ.ql rfl (q_assign rfl .c) (FJ.nil ?_))))
 refine FJ.then_ (FJ.ret (FJ.thenR ?_))
 refine FJ.doneS (res1 rfl .z) .n ?_
 exfalso; first | exact absurd rfl (by assumption) | omega | focus (simp_all; done)
 refine FJ.skip (FJ.then_ (FJ.seq (FJ.seq ?_)))
 refine FJ.sel (.c (.s .z) (.c (.s .z) (.c (.s (.s .z)) (.c (.s (.s .z)) (.c (.s (.s (.s .z))) (.c (.s (.s (.s .z))) (.c (.s (.s (.s .z))) (.c (.s (.s (.s .z))) (.c .z (.c .z (.c .z (.c .z .n)))))))))))) ?_
 refine FJ.draw [rowA g33 28 3 1 [.int .i64 ((addNameR x a s b).code), .slice Ao31 ((addNameR x a s b).fs.inodes).length co31, .slice Ao32 ((addNameR x a s b).fs.data).length co32], rowA g26 26 2 1 [.slice Ao24 x.inodes.length co24, .slice Ao25 x.data.length co25], rowA g19 28 3 1 [.int .i64 ((addNameR x a s b).code), .slice Ao17 ((addNameR x a s b).fs.inodes).length co17, .slice Ao18 ((addNameR x a s b).fs.data).length co18], rowA g3 37 2 1 [.slice A0_0 x.inodes.length c0_0, .slice A0_1 x.data.length c0_1]] 5 (by kernel_rfl) ?_
 refine FJ.sch [(0, true), (1, true), (2, false), (3, false), (4, true)] 0 #[true, true, true, true, true] (by rfl) (by kernel_rfl) ?_
 refine FJ.dq rfl rfl rfl (by decide) rfl (.s4 (.s4 .z)) (q_loadA (cs := [.slice Ao24 x.inodes.length co24, .slice Ao25 x.data.length co25]) rfl ag_26 sz_26 (.t (.s4 (.s4 (.s (.s .z))))) (WS.rows0 (.s .z) (fun i u h => by exact h))) ?_
 refine FJ.dq rfl rfl rfl (by decide) rfl (.s4 (.s4 .z)) (q_loadA (cs := [.slice A0_0 x.inodes.length c0_0, .slice A0_1 x.data.length c0_1]) rfl ag_37 sz_37 (.t (.s16 (.s4 (.s4 (.s4 (.s (.s (.s .z)))))))) (WS.rows0 (.s (.s (.s .z))) (fun i u h => by exact h))) ?_
 refine FJ.call (goes_sch rfl rfl) rfl (by decide) rfl (c_call rfl Tryz.func21 rfl rfl (args1 (.t .z))) .n (fun w1 S1 hs tr => c_21 (kT_37_mk x (tr.ctx h0_0) (tr.ctx h0_1))) ?_
 rintro _ _ ⟨v35, v37, rfl, rfl⟩
 refine FJ.cat (.c (.c .n)) ?_
 refine FJ.know (WS.oform .z) ?_
 rintro ⟨Ao39, co39, rfl, hlo39, hmo39, hbo39⟩
 refine FJ.know (WS.oform (.s .z)) ?_
 rintro ⟨Ao40, co40, rfl, hlo40, hmo40, hbo40⟩
 refine FJ.sk (.s4 (.s4 (.s (.s .z)))) ?_
 refine FJ.call (goes_sch rfl rfl) rfl (by decide) rfl (c_call rfl Tryz.func24 rfl rfl (args2 (.t (.s (.s .z))) (.t .z))) .n (fun w1 S1 hs tr => c_24 (kT_26_mk x (tr.own (.s4 .z)) (tr.own (.s4 (.s .z)))) (kT_26_mk x (tr.own .z) (tr.own (.s .z)))) ?_
 rintro _ _ ⟨rfl, rfl⟩
 refine FJ.cat .n ?_
 refine FJ.sk (.s4 (.s4 (.s (.s .z)))) ?_
 refine FJ.dq rfl rfl rfl (by decide) rfl (.s4 (.s4 (.s (.s .z)))) (q_not rfl (.t .z)) (FJ.schN ?_)
 refine FJ.drawN (by kernel_rfl) ?_
 refine FJ.then_ ?_
 refine FJ.condN (.t .z) (fun b41 => ?_) (fun b41 => ?_)
 refine FJ.seq (FJ.region (FJ.er (.s16 (.s16 (.s (.s .z)))) (FJ.ql rfl (q_assign rfl .c) (FJ.nil ?_))))
 refine FJ.then_ (FJ.ret (FJ.thenR ?_))
 refine FJ.doneS (res1 rfl .z) .n ?_
 exfalso; first | exact absurd rfl (by assumption) | omega | focus (simp_all; done)
 refine FJ.skip (FJ.then_ (FJ.seq (FJ.region (FJ.ql rfl (q_assign rfl .c) ?_))))
 refine FJ.nil (FJ.then_ (FJ.seq (FJ.region ?_)))
 refine FJ.ql rfl (q_loadA (cs := [.slice Ao24 x.inodes.length co24, .slice Ao25 x.data.length co25]) rfl ag_26 sz_26 (.t (.s16 .z)) (WS.rows0 (.s4 (.s4 (.s (.s (.s .z))))) (fun i u h => by exact h))) ?_
 refine FJ.ql rfl (q_move rfl (.t (.s .z))) ?_
 refine FJ.call (goes_list rfl) rfl (by decide) rfl (c_call rfl Tryz.func25 rfl rfl (args2 (.t (.s .z)) (.t .z))) (.c (.s4 .z) (.c (.s4 .z) .n)) (fun w1 S1 hs tr => c_25 _ hs (by omega) (by first | omega | (omega))) ?_
 rintro _ _ ⟨rfl, rfl⟩
 refine FJ.cat (.c (.c .n)) ?_
 refine FJ.er (.s (.s (.s .z))) (FJ.ql rfl (q_assign rfl (.t .z)) (FJ.nil (FJ.then_ (FJ.seq ?_))))
 refine FJ.seq (FJ.region (FJ.ql rfl (q_move rfl (.t .z)) (FJ.ql rfl (q_lss rfl (.t .z) .c) (FJ.ql rfl (q_move rfl (.t .z)) ?_))))
 refine FJ.caseP .z (fun g42 => ?_) (fun g42 => ?_)
 refine FJ.skipl rfl rfl .z rfl rfl (by decide) rfl ?_
 refine FJ.skipl rfl rfl (.s .z) rfl rfl (by decide) rfl ?_
 refine FJ.skipl rfl rfl (.s (.s .z)) rfl rfl (by decide) rfl ?_
 refine FJ.skipl rfl rfl (.s (.s (.s .z))) rfl rfl (by decide) rfl ?_
 refine FJ.ql rfl (q_pickT rfl (.t (.s4 .z)) .c) (FJ.nil (FJ.then_ ?_))
 refine FJ.condT (.t .z) ?_
 refine FJ.seq (FJ.region (FJ.er (.s16 (.s16 (.s4 (.s4 (.s4 (.s (.s .z))))))) (FJ.ql rfl (q_assign rfl .c) (FJ.nil ?_))))
 refine FJ.then_ (FJ.ret (FJ.thenR ?_))
 refine FJ.doneS (res1 rfl .z) .n ?_
 exfalso; first | exact absurd rfl (by assumption) | omega | focus (simp_all; done)
 refine FJ.q (goes_listg rfl rfl .z) rfl (by decide) rfl (q_loadA (cs := [.int .i64 ((addNameR x a s b).code), .slice Ao31 ((addNameR x a s b).fs.inodes).length co31, .slice Ao32 ((addNameR x a s b).fs.data).length co32]) rfl ag_28 sz_28 (.t (.s16 .z)) (WS.rows0 (.s4 (.s4 (.s (.s .z)))) (fun i u h => by exact h))) ?_
 refine FJ.q (goes_listg rfl rfl (.s .z)) rfl (by decide) rfl (q_loadA (cs := [.int .i64 ((addNameR x a s b).code), .slice Ao17 ((addNameR x a s b).fs.inodes).length co17, .slice Ao18 ((addNameR x a s b).fs.data).length co18]) rfl ag_28 sz_28 (.t (.s16 (.s4 (.s4 (.s (.s .z)))))) (WS.rows0 (.s4 (.s4 (.s4 .z))) (fun i u h => by exact h))) ?_
 refine FJ.call (goes_listg rfl rfl (.s (.s .z))) rfl (by decide) rfl (c_call rfl Tryz.func14 rfl rfl (args2 (.t (.s .z)) (.t .z))) .n (fun w1 S1 hs tr => c_14 (kT_28_mk (addNameR x a s b) (tr.own (.s4 .z)) (tr.own (.s4 (.s .z)))) (kT_28_mk (addNameR x a s b) (tr.own (.s4 (.s (.s .z)))) (tr.own (.s4 (.s (.s (.s .z))))))) ?_
 rintro _ _ ⟨rfl, rfl⟩
 refine FJ.cat .n ?_
 refine FJ.q (goes_listg rfl rfl (.s (.s (.s .z)))) rfl (by decide) rfl (q_not rfl (.t .z)) ?_
 refine FJ.ql rfl (q_pickF rfl (.t (.s4 .z)) (.t .z)) (FJ.nil (FJ.then_ ?_))
 refine FJ.condN (.t .z) (fun b43 => ?_) (fun b43 => ?_)
 exfalso; first | omega | contradiction
 refine FJ.skip (FJ.then_ (FJ.seq (FJ.region (FJ.ql rfl (q_assign rfl .c) ?_))))
 refine FJ.nil (FJ.then_ (FJ.seq (FJ.region ?_)))
 refine FJ.ql rfl (q_loadA (cs := [.int .i64 ((addNameR x a s b).code), .slice Ao31 ((addNameR x a s b).fs.inodes).length co31, .slice Ao32 ((addNameR x a s b).fs.data).length co32]) rfl ag_28 sz_28 (.t (.s16 (.s4 (.s (.s .z))))) (WS.rows0 (.s4 (.s4 (.s (.s .z)))) (fun i u h => by exact h))) ?_
 refine FJ.ql rfl (q_move rfl (.t (.s .z))) ?_
 refine FJ.call (goes_list rfl) rfl (by decide) rfl (c_call rfl Tryz.func17 rfl rfl (args2 (.t (.s .z)) (.t .z))) (.c (.s4 .z) (.c (.s4 .z) .n)) (fun w1 S1 hs tr => c_17 _ hs (by omega) (by first | omega | (omega))) ?_
 rintro _ _ ⟨rfl, rfl⟩
 refine FJ.cat (.c (.c .n)) ?_
 refine FJ.er (.s (.s (.s .z))) (FJ.ql rfl (q_assign rfl (.t .z)) (FJ.nil (FJ.then_ (FJ.seq ?_))))
 refine FJ.region (FJ.ql rfl (q_assign rfl .c) (FJ.nil (FJ.then_ (FJ.seq ?_))))
 refine FJ.region ?_
 refine FJ.ql rfl (q_loadA (cs := [.int .i64 ((addNameR x a s b).code), .slice Ao31 ((addNameR x a s b).fs.inodes).length co31, .slice Ao32 ((addNameR x a s b).fs.data).length co32]) rfl ag_28 sz_28 (.t (.s16 (.s4 (.s4 (.s (.s .z)))))) (WS.rows0 (.s4 (.s4 (.s (.s .z)))) (fun i u h => by exact h))) ?_
 refine FJ.ql rfl (q_move rfl (.t (.s .z))) ?_
 refine FJ.call (goes_list rfl) rfl (by decide) rfl (c_call rfl Tryz.func18 rfl rfl (args2 (.t (.s .z)) (.t .z))) .n (fun w1 S1 hs tr => c_18 (kT_28_mk (⟨(addNameR x a s b).code, (⟨(vmark_RFs 1 (addNameR x a s b)).fs.inodes, (vmark_RFs 1 (addNameR x a s b)).fs.data⟩ : DFs)⟩ : RFs) (tr.own .z) (tr.own (.s .z))) _ (addNameR x a s b) rfl (by omega) (by first | omega | (omega))) ?_
 rintro _ _ ⟨rfl, rfl⟩
 refine FJ.cat .n ?_
 refine FJ.er (.s (.s (.s .z))) (FJ.ql rfl (q_assign rfl (.t .z)) (FJ.nil (FJ.then_ (FJ.seq ?_))))
 refine FJ.seq (FJ.region (FJ.ql rfl (q_move rfl (.t .z)) (FJ.ql rfl (q_lss rfl (.t .z) .c) (FJ.nil ?_))))
 refine FJ.then_ ?_
 refine FJ.condP (.t .z) (fun b44 => ?_) (fun b44 => ?_)
 refine FJ.seq (FJ.region (FJ.er (.s16 (.s16 (.s16 (.s4 (.s4 .z))))) (FJ.ql rfl (q_assign rfl .c) (FJ.nil ?_))))
 refine FJ.then_ (FJ.ret (FJ.thenR ?_))
 refine FJ.doneS (res1 rfl .z) .n ?_
 exfalso; first | exact absurd rfl (by assumption) | omega | focus (simp_all; done)
 refine FJ.skip (FJ.then_ (FJ.seq (FJ.seq (FJ.region ?_))))
 refine FJ.ql rfl (q_move rfl (.t (.s (.s .z)))) (FJ.ql rfl (q_move rfl (.t (.s4 (.s (.s (.s .z)))))) (FJ.ql rfl (q_neq rfl (.t (.s .z)) (.t .z)) (FJ.nil (FJ.then_ ?_))))
 refine FJ.condN (.t .z) (fun b45 => ?_) (fun b45 => ?_)
 refine FJ.seq (FJ.region (FJ.er (.s16 (.s16 (.s16 (.s4 (.s4 (.s (.s (.s .z)))))))) (FJ.ql rfl (q_assign rfl .c) (FJ.nil ?_))))
 refine FJ.then_ (FJ.ret (FJ.thenR ?_))
 refine FJ.doneS (res1 rfl .z) .n ?_
 exfalso; first | exact absurd rfl (by assumption) | omega | focus (simp_all; done)
 refine FJ.skip (FJ.then_ (FJ.seq (FJ.region ?_)))
 refine FJ.ql rfl (q_loadA (cs := [.slice A0_0 x.inodes.length c0_0, .slice A0_1 x.data.length c0_1]) rfl ag_37 sz_37 (.t (.s16 (.s16 (.s16 (.s4 (.s4 (.s4 .z))))))) (WS.rows0 (.s4 (.s4 (.s4 (.s .z)))) (fun i u h => by exact h))) ?_
 refine FJ.call (goes_list rfl) rfl (by decide) rfl (c_call rfl Tryz.func21 rfl rfl (args1 (.t .z))) .n (fun w1 S1 hs tr => c_21 (kT_37_mk x (tr.ctx h0_0) (tr.ctx h0_1))) ?_
 rintro _ _ ⟨v46, v48, rfl, rfl⟩
 refine FJ.cat (.c (.c .n)) ?_
 refine FJ.know (WS.oform .z) ?_
 rintro ⟨Ao50, co50, rfl, hlo50, hmo50, hbo50⟩
 refine FJ.know (WS.oform (.s .z)) ?_
 rintro ⟨Ao51, co51, rfl, hlo51, hmo51, hbo51⟩
 refine FJ.ql rfl (q_move rfl (.t (.s16 (.s16 (.s16 (.s16 .z)))))) (FJ.ql rfl (q_move rfl (.t (.s16 (.s16 (.s16 (.s16 (.s (.s .z)))))))) (FJ.ql rfl (q_move rfl (.t (.s16 (.s16 (.s16 (.s16 (.s4 .z))))))) ?_))
 refine FJ.call (goes_list rfl) rfl (by decide) rfl (c_call rfl Tryz.func35 rfl rfl (args4 (.t (.s (.s (.s .z)))) (.t (.s (.s .z))) (.t (.s .z)) (.t .z))) .n (fun w1 S1 hs tr => c_35 (kT_26_mk x (tr.own .z) (tr.own (.s .z))) _ _ (by first | assumption | omega) _) ?_
 rintro _ _ ⟨v52, v54, rfl, rfl⟩
 refine FJ.cat (.c (.c .n)) ?_
 refine FJ.know (WS.oform .z) ?_
 rintro ⟨Ao56, co56, rfl, hlo56, hmo56, hbo56⟩
 refine FJ.know (WS.oform (.s .z)) ?_
 rintro ⟨Ao57, co57, rfl, hlo57, hmo57, hbo57⟩
 refine FJ.e (goes_list rfl) rfl (by decide) rfl (e_alloc rfl z_28 rfl rfl) ?_
 rintro _ _ ⟨g58, rfl, rfl⟩
 refine FJ.es (goes_list rfl) rfl (es_store (off := 0) (cs := [.int .i64 ((addNameR x a s b).code), .slice Ao56 ((addNameR x a s b).fs.inodes).length co56, .slice Ao57 ((addNameR x a s b).fs.data).length co57]) rfl sz_28 (.t .z) (.t (.s .z)) rfl (ones rfl) .z (Nat.le_of_ble_eq_true rfl) (.c .z (.c (.s .z) (.c (.s (.s .z)) .n)))) ?_
 refine FJ.nil (FJ.then_ (FJ.seq (FJ.seq (FJ.region ?_))))
 refine FJ.ql rfl (q_loadA (cs := [.int .i64 ((addNameR x a s b).code), .slice Ao56 ((addNameR x a s b).fs.inodes).length co56, .slice Ao57 ((addNameR x a s b).fs.data).length co57]) rfl ag_28 sz_28 (.t .z) (WS.rows0 .z (fun i u h => by exact h))) ?_
 refine FJ.ql rfl (q_loadA (cs := [.int .i64 ((addNameR x a s b).code), .slice Ao17 ((addNameR x a s b).fs.inodes).length co17, .slice Ao18 ((addNameR x a s b).fs.data).length co18]) rfl ag_28 sz_28 (.t (.s16 (.s16 (.s16 (.s (.s (.s .z))))))) (WS.rows0 (.s16 (.s .z)) (fun i u h => by exact h))) ?_
 refine FJ.call (goes_list rfl) rfl (by decide) rfl (c_call rfl Tryz.func14 rfl rfl (args2 (.t (.s .z)) (.t .z))) .n (fun w1 S1 hs tr => c_14 (kT_28_mk (addNameR x a s b) (tr.own (.s .z)) (tr.own (.s (.s .z)))) (kT_28_mk (addNameR x a s b) (tr.own (.s4 (.s4 (.s (.s (.s .z)))))) (tr.own (.s4 (.s4 (.s4 .z)))))) ?_
 rintro _ _ ⟨rfl, rfl⟩
 refine FJ.cat .n ?_
 refine FJ.ql rfl (q_not rfl (.t .z)) (FJ.nil (FJ.then_ ?_))
 refine FJ.condN (.t .z) (fun b59 => ?_) (fun b59 => ?_)
 exfalso; first | omega | contradiction
 refine FJ.skip (FJ.then_ (FJ.seq (FJ.region (FJ.er (.s16 .z) ?_))))
 refine FJ.ql rfl (q_assign rfl .c) (FJ.nil (FJ.then_ (FJ.seq (FJ.region ?_))))
 refine FJ.ql rfl (q_loadA (cs := [.int .i64 ((addNameR x a s b).code), .slice Ao31 ((addNameR x a s b).fs.inodes).length co31, .slice Ao32 ((addNameR x a s b).fs.data).length co32]) rfl ag_28 sz_28 (.t (.s16 (.s16 (.s4 (.s4 (.s4 (.s .z))))))) (WS.rows0 (.s4 (.s4 (.s4 (.s (.s (.s .z)))))) (fun i u h => by exact h))) ?_
 refine FJ.ql rfl (q_move rfl (.t (.s .z))) ?_
 refine FJ.call (goes_list rfl) rfl (by decide) rfl (c_call rfl Tryz.func18 rfl rfl (args2 (.t (.s .z)) (.t .z))) .n (fun w1 S1 hs tr => c_18 (kT_28_mk (⟨(addNameR x a s b).code, (⟨(vmark_RFs 1 (addNameR x a s b)).fs.inodes, (vmark_RFs 1 (addNameR x a s b)).fs.data⟩ : DFs)⟩ : RFs) (tr.own (.s4 (.s .z))) (tr.own (.s4 (.s (.s .z))))) _ (addNameR x a s b) rfl (by omega) (by first | omega | (omega))) ?_
 rintro _ _ ⟨rfl, rfl⟩
 refine FJ.cat .n ?_
 refine FJ.er (.s (.s (.s .z))) (FJ.ql rfl (q_assign rfl (.t .z)) (FJ.nil (FJ.then_ (FJ.seq ?_))))
 refine FJ.seq (FJ.region (FJ.ql rfl (q_move rfl (.t .z)) (FJ.ql rfl (q_lss rfl (.t .z) .c) (FJ.nil ?_))))
 refine FJ.then_ ?_
 refine FJ.condP (.t .z) (fun b60 => ?_) (fun b60 => ?_)
 exfalso; first | omega | contradiction
 refine FJ.skip (FJ.then_ (FJ.seq (FJ.seq (FJ.region ?_))))
 refine FJ.ql rfl (q_move rfl (.t (.s (.s .z)))) (FJ.ql rfl (q_move rfl (.t (.s16 (.s4 (.s4 (.s (.s .z))))))) (FJ.ql rfl (q_neq rfl (.t (.s .z)) (.t .z)) (FJ.nil (FJ.then_ ?_))))
 refine FJ.condN (.t .z) (fun b61 => ?_) (fun b61 => ?_)
 exfalso; first | omega | contradiction
 refine FJ.skip (FJ.then_ (FJ.seq (FJ.region (FJ.er (.s16 (.s16 (.s16 (.s16 (.s4 (.s4 (.s4 (.s (.s .z))))))))) ?_))))
 refine FJ.ql rfl (q_assign rfl .c) (FJ.nil (FJ.then_ (FJ.ret ?_)))
 refine FJ.doneS (res1 rfl .z) .n ?_
 exact ⟨rfl, rfl⟩

end Go.Proofs.YtbcdcakcmdcafaaGreat

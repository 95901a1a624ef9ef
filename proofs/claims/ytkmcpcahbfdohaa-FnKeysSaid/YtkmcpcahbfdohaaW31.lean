/- What is proved: contracts of functions, one a function. No condition. -/
import Derived.Test.YtkmcpcahbfdohaaW11
import Derived.Test.YtkmcpcahbfdohaaBlkB
namespace Go.Proofs.Ytkmcpcahbfdohaa
open Go Go.RowKit
set_option linter.unusedVariables false
set_option linter.unusedSimpArgs false
set_option maxHeartbeats 1000000 in
set_option maxRecDepth 20000 in
theorem c_40 {w0 : World} {S0 : Bs} {d : DDisk} {cs0 : List Value} (h0 : kT_25.ro w0 (FF w0 S0) d cs0) (a : Int)  :
    Calls Try.prog 40 #[.agg cs0.toArray, .int .i64 a] w0 (TriPost w0 S0 (RA_60 (blockAt d a))) := by
 obtain ⟨u0_0, u0_1, rfl, h0_0, h0_1⟩ := kT_25_ro h0
 obtain ⟨A0_0, c0_0, rfl, hl0_0, hm0_0, hb0_0, he0_0⟩ := ro_form h0_0
 obtain ⟨A0_1, c0_1, rfl, hl0_1, hm0_1, hb0_1, he0_1⟩ := ro_form h0_1
 refine FJ.enter (N := 17) Try.func40 rfl rfl (by simp) [(0, .agg #[.slice A0_0 d.blocks.length c0_0, .slice A0_1 d.cache.length c0_1]), (1, .int .i64 a)] (by simp) (l0 := []) trivial ?_
 refine FJ.seq (FJ.region ?_)
 refine FJ.e (goes_list rfl) rfl (by decide) rfl (e_box (cs := [.slice A0_0 d.blocks.length c0_0, .slice A0_1 d.cache.length c0_1]) (n := 2) rfl (.t .z) rfl rfl) ?_
 rintro _ _ ⟨g3, rfl, rfl⟩
 refine FJ.e (goes_list rfl) rfl (by decide) rfl (e_alloc rfl z_60 rfl rfl) ?_
 rintro _ _ ⟨g4, rfl, rfl⟩
 refine FJ.nil (FJ.then_ (FJ.seq (FJ.seq (FJ.region ?_))))
 refine FJ.ql rfl (q_loadA (cs := [.slice A0_0 d.blocks.length c0_0, .slice A0_1 d.cache.length c0_1]) rfl ag_25 sz_25 (.t (.s .z)) (WS.rows0 (.s .z) (fun i u h => by exact h))) ?_
 refine FJ.ql rfl (q_move rfl (.t (.s4 .z))) ?_
 refine FJ.call (goes_list rfl) rfl (by decide) rfl (c_call rfl Try.func99 rfl rfl (args2 (.t (.s .z)) (.t .z))) .n (fun w1 S1 hs tr => c_99 (kT_25_mk d (tr.ctx h0_0) (tr.ctx h0_1)) _) ?_
 rintro _ _ ⟨rfl, rfl⟩
 refine FJ.cat .n ?_
 refine FJ.ql rfl (q_assign rfl (.t .z)) (FJ.nil (FJ.then_ (FJ.seq (FJ.region ?_))))
 refine FJ.ql rfl (q_move rfl (.t .z)) (FJ.ql rfl (q_neq rfl (.t .z) .c) (FJ.nil (FJ.then_ ?_)))
 refine FJ.condN (.t .z) (fun b5 => ?_) (fun b5 => ?_)
 refine FJ.seq (FJ.region (FJ.ql rfl (q_move rfl (.t (.s (.s .z)))) ?_))
 refine FJ.ql rfl (q_build (ps := [(0, .int .i64 (blockFault d a))]) (cs := [.int .i64 (blockFault d a), .slice none 0 0]) rfl bl_60 (by intro act hact; simp only [List.map_toArray, List.map_cons, List.map_nil, (show Val _ _ _ from (.t .z)) act hact]) rfl) ?_
 refine FJ.es (goes_list rfl) rfl (es_store (off := 0) (cs := [.int .i64 (blockFault d a), .slice none 0 0]) rfl sz_60 (.t (.s4 (.s4 .z))) (.t .z) rfl (ones rfl) .z (Nat.le_of_ble_eq_true rfl) (.c .z (.c (.s .z) .n))) ?_
 refine FJ.nil (FJ.then_ (FJ.ret (FJ.thenR ?_)))
 refine FJ.add (c := ownA kSl_2 [] [.slice none 0 0]) (fun w S => own_nil w S none) ?_
 refine FJ.doneS (resC (cs := [.int .i64 (blockFault d a), .slice none 0 0]) rfl (.s4 (.s4 .z)) ag_60 sz_60 (WS.rows0 (cs := [.int .i64 (blockFault d a), .slice none 0 0]) (.s .z) (fun _ _ h => h))) (.c .z .n) ?_
 rw [blockAt_b (by assumption)]
 exact ⟨_, rfl, rfl⟩
 have hbk := blk_in_b (show blockFault d a = 0 by assumption)
 refine FJ.skip (FJ.then_ (FJ.seq (FJ.region (FJ.ql rfl (q_move rfl (.t (.s4 (.s4 (.s .z))))) ?_))))
 refine FJ.call (goes_list rfl) rfl (by decide) rfl (c_call rfl Try.func101 rfl rfl (args2 (.t (.s4 (.s4 .z))) (.t .z))) .n (fun w1 S1 hs tr => c_101 (wF := w0) (F0 := FF w0 S0) (d := d) (tr.ptr (.s .z) raw2) h0_0 h0_1 (fun b hb => tr.wide b hb) (by first | exact hbk.1 | exact (blk_in_d (by assumption) (by assumption)).1) (by first | exact hbk.2 | exact (blk_in_d (by assumption) (by assumption)).2)) ?_
 rintro _ _ ⟨hr7, rfl⟩
 refine FJ.cat .n ?_
 obtain ⟨A8, c9, rfl, hl11, -, -, he10⟩ := ro_form hr7
 refine FJ.call (goes_list rfl) rfl (by decide) rfl (c_call rfl Try.func100 rfl rfl (args1 (.t .z))) .n (fun w1 S1 hs tr => c_100 (tr.ctx hr7)) ?_
 rintro _ _ rfl
 refine FJ.cat (.c .n) ?_
 refine FJ.know (WS.oform .z) ?_
 rintro ⟨Ao14, co14, rfl, hlo14, hmo14, hbo14⟩
 refine FJ.ql rfl (q_build (ps := [(1, .slice Ao14 (blockL d a).length co14)]) (cs := [.int .i64 0, .slice Ao14 (blockL d a).length co14]) rfl bl_60 (by intro act hact; simp only [List.map_toArray, List.map_cons, List.map_nil, (show Val _ _ _ from (.t .z)) act hact]) rfl) ?_
 refine FJ.es (goes_list rfl) rfl (es_store (off := 0) (cs := [.int .i64 0, .slice Ao14 (blockL d a).length co14]) rfl sz_60 (.t (.s4 (.s4 (.s (.s .z))))) (.t .z) rfl (ones rfl) (.s .z) (Nat.le_of_ble_eq_true rfl) (.c .z (.c (.s .z) .n))) ?_
 refine FJ.nil (FJ.then_ (FJ.ret ?_))
 refine FJ.doneS (resC (cs := [.int .i64 0, .slice Ao14 (blockL d a).length co14]) rfl (.s4 (.s4 (.s (.s .z)))) ag_60 sz_60 (WS.rows0 (cs := [.int .i64 0, .slice Ao14 (blockL d a).length co14]) .z (fun _ _ h => h))) (.c (.s .z) .n) ?_
 rw [blockAt_0 (by assumption)]
 exact ⟨_, rfl, rfl⟩
end Go.Proofs.Ytkmcpcahbfdohaa

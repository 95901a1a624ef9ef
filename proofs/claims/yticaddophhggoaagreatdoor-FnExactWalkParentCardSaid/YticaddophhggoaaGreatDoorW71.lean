/- What is proved: contracts of functions, one a function. No condition. -/
import Derived.Test.YticaddophhggoaaGreatDoorW70
namespace Go.Proofs.YticaddophhggoaaGreatDoor
open Go Go.RowKit
set_option linter.unusedVariables false
set_option linter.unusedSimpArgs false
set_option maxHeartbeats 1000000 in
set_option maxRecDepth 20000 in
theorem c_14 {w0 : World} {S0 : Bs} {f : DFs} {cs0 : List Value} (h0 : kT_32.ro w0 (FF w0 S0) f cs0) (s : ByteArray) (hz1 : s.size ≤ 140737488351232) (hG : MaxL gmax w0 (FF w0 S0)) :
    Calls Tryz.prog 14 #[.agg cs0.toArray, .string s] w0 (TriPost w0 S0 (RA_28 (parR f s))) := by
 obtain ⟨u0_0, u0_1, rfl, h0_0, h0_1⟩ := kT_32_ro h0
 obtain ⟨A0_0, c0_0, rfl, hl0_0, hm0_0, hb0_0, he0_0⟩ := ro_form h0_0
 obtain ⟨A0_1, c0_1, rfl, hl0_1, hm0_1, hb0_1, he0_1⟩ := ro_form h0_1
 refine FJ.enter (N := 24) Tryz.func14 rfl rfl (by simp) [(0, .agg #[.slice A0_0 f.inodes.length c0_0, .slice A0_1 f.data.length c0_1]), (1, .string s)] (by simp) (l0 := []) trivial ?_
 refine FJ.seq (FJ.region ?_)
 refine FJ.e (goes_list rfl) rfl (by decide) rfl (e_box (cs := [.slice A0_0 f.inodes.length c0_0, .slice A0_1 f.data.length c0_1]) (n := 2) rfl (.t .z) rfl rfl) ?_
 rintro _ _ ⟨g3, rfl, rfl⟩
 refine FJ.e (goes_list rfl) rfl (by decide) rfl (e_alloc rfl z_28 rfl rfl) ?_
 rintro _ _ ⟨g4, rfl, rfl⟩
 refine FJ.nil (FJ.then_ (FJ.seq (FJ.seq (FJ.region ?_))))
 refine FJ.ql rfl (q_loadA (cs := [.slice A0_0 f.inodes.length c0_0, .slice A0_1 f.data.length c0_1]) rfl ag_32 sz_32 (.t (.s .z)) (WS.rows0 (.s .z) (fun i u h => by exact h))) ?_
 refine FJ.call (goes_list rfl) rfl (by decide) rfl (c_call rfl Tryz.func32 rfl rfl (args1 (.t .z))) .n (fun w1 S1 hs tr => c_32 (kT_32_mk f (tr.ctx h0_0) (tr.ctx h0_1))) ?_
 rintro _ _ ⟨rfl, rfl⟩
 refine FJ.cat .n ?_
 refine FJ.ql rfl (q_assign rfl (.t .z)) (FJ.nil (FJ.then_ (FJ.seq (FJ.region ?_))))
 refine FJ.ql rfl (q_move rfl (.t .z)) (FJ.ql rfl (q_neq rfl (.t .z) .c) (FJ.nil (FJ.then_ ?_)))
 refine FJ.condN (.t .z) (fun b5 => ?_) (fun b5 => ?_)
 refine FJ.seq (FJ.region (FJ.ql rfl (q_move rfl (.t (.s (.s .z)))) ?_))
 refine FJ.ql rfl (q_build (ps := [(0, .int .i64 (fsFault f))]) (cs := [.int .i64 (fsFault f), .int .i64 0]) rfl bl_28 (by intro act hact; simp only [List.map_toArray, List.map_cons, List.map_nil, (show Val _ _ _ from (.t .z)) act hact]) rfl) ?_
 refine FJ.es (goes_list rfl) rfl (es_store (off := 0) (cs := [.int .i64 (fsFault f), .int .i64 0]) rfl sz_28 (.t (.s4 (.s (.s (.s .z))))) (.t .z) rfl (ones rfl) .z (Nat.le_of_ble_eq_true rfl) (.c .z (.c (.s .z) .n))) ?_
 refine FJ.nil (FJ.then_ (FJ.ret (FJ.thenR ?_)))
 refine FJ.doneS (resC (cs := [.int .i64 (fsFault f), .int .i64 0]) rfl (.s4 (.s (.s (.s .z)))) ag_28 sz_28 (WS.rows0 (cs := [.int .i64 (fsFault f), .int .i64 0]) .z (fun _ _ h => h))) .n ?_
 first | (rw [parR_f (by assumption)]; exact ⟨rfl, rfl⟩) | (rw [parR_0 hF]; exact ⟨rfl, rfl⟩)
 have hF : fsFault f = 0 := b5
 have ht := fsTree hF
 refine FJ.skip (FJ.then_ (FJ.seq (FJ.region (FJ.ql rfl (q_move rfl (.t (.s4 (.s4 .z)))) ?_))))
 refine FJ.call (goes_list rfl) rfl (by decide) rfl (c_call rfl Tryz.func37 rfl rfl (args2 (.t (.s4 (.s (.s (.s .z))))) (.t .z))) .n (fun w1 S1 hs tr => c_37 (tr.ptr (.s .z) (kT_32_mk f (tr.ctx h0_0) (tr.ctx h0_1))) _ (by first | assumption | omega) (by assumption) (MaxL.tr tr hG)) ?_
 rintro _ _ ⟨rfl, rfl⟩
 refine FJ.cat .n ?_
 have hpsp6 := parP_size (f := f) (s := s)
 refine FJ.ql rfl (q_move rfl (.t .z)) (FJ.ql rfl (q_extract (v := .int .i64 ((parP f s).1)) rfl (.t .z) rfl) (FJ.ql rfl (q_extract (v := .string ((parP f s).2.1)) rfl (.t (.s .z)) rfl) (FJ.ql rfl (q_extract (v := .int .i64 ((parP f s).2.2)) rfl (.t (.s (.s .z))) rfl) (FJ.ql rfl (q_assign rfl (.t (.s (.s .z)))) ?_))))
 refine FJ.ql rfl (q_assign rfl (.t (.s (.s .z)))) (FJ.ql rfl (q_assign rfl (.t (.s (.s .z)))) (FJ.nil (FJ.then_ (FJ.seq ?_))))
 refine FJ.region (FJ.ql rfl (q_move rfl (.t .z)) (FJ.ql rfl (q_move rfl (.t (.s (.s (.s .z))))) ?_))
 refine FJ.ql rfl (q_build (ps := [(0, .int .i64 ((parP f s).2.2)), (1, .int .i64 ((parP f s).1))]) (cs := [.int .i64 ((parP f s).2.2), .int .i64 ((parP f s).1)]) rfl bl_28 (by intro act hact; simp only [List.map_toArray, List.map_cons, List.map_nil, (show Val _ _ _ from (.t (.s .z))) act hact, (show Val _ _ _ from (.t .z)) act hact]) rfl) ?_
 refine FJ.es (goes_list rfl) rfl (es_store (off := 0) (cs := [.int .i64 ((parP f s).2.2), .int .i64 ((parP f s).1)]) rfl sz_28 (.t (.s16 (.s .z))) (.t .z) rfl (ones rfl) .z (Nat.le_of_ble_eq_true rfl) (.c .z (.c (.s .z) .n))) ?_
 refine FJ.nil (FJ.then_ (FJ.ret ?_))
 refine FJ.doneS (resC (cs := [.int .i64 ((parP f s).2.2), .int .i64 ((parP f s).1)]) rfl (.s16 (.s .z)) ag_28 sz_28 (WS.rows0 (cs := [.int .i64 ((parP f s).2.2), .int .i64 ((parP f s).1)]) .z (fun _ _ h => h))) .n ?_
 first | (rw [parR_f (by assumption)]; exact ⟨rfl, rfl⟩) | (rw [parR_0 hF]; exact ⟨rfl, rfl⟩)

set_option maxHeartbeats 1000000 in
set_option maxRecDepth 20000 in
theorem c_13 {w0 : World} {S0 : Bs} {f : DFs} {cs0 : List Value} (h0 : kT_32.ro w0 (FF w0 S0) f cs0) (s : ByteArray) (hz1 : s.size ≤ 140737488351232)  :
    Calls Tryz.prog 13 #[.agg cs0.toArray, .string s] w0 (TriPost w0 S0 (RA_28 (parR f s))) := by
 obtain ⟨u0_0, u0_1, rfl, h0_0, h0_1⟩ := kT_32_ro h0
 obtain ⟨A0_0, c0_0, rfl, hl0_0, hm0_0, hb0_0, he0_0⟩ := ro_form h0_0
 obtain ⟨A0_1, c0_1, rfl, hl0_1, hm0_1, hb0_1, he0_1⟩ := ro_form h0_1
 refine FJ.enter (N := 23) Tryz.func13 rfl rfl (by simp) [(0, .agg #[.slice A0_0 f.inodes.length c0_0, .slice A0_1 f.data.length c0_1]), (1, .string s)] (by simp) (l0 := []) trivial ?_
 refine FJ.seq (FJ.region ?_)
 refine FJ.e (goes_list rfl) rfl (by decide) rfl (e_box (cs := [.slice A0_0 f.inodes.length c0_0, .slice A0_1 f.data.length c0_1]) (n := 2) rfl (.t .z) rfl rfl) ?_
 rintro _ _ ⟨g3, rfl, rfl⟩
 refine FJ.e (goes_list rfl) rfl (by decide) rfl (e_alloc rfl z_28 rfl rfl) ?_
 rintro _ _ ⟨g4, rfl, rfl⟩
 refine FJ.nil (FJ.then_ (FJ.seq (FJ.seq (FJ.region ?_))))
 refine FJ.call (goes_list rfl) rfl (by decide) rfl (c_call rfl Tryz.func27 rfl rfl (args1 (.t (.s .z)))) .n (fun w1 S1 hs tr => c_27 (tr.ptr (.s .z) (kT_32_mk f (tr.ctx h0_0) (tr.ctx h0_1)))) ?_
 rintro _ _ ⟨rfl, rfl⟩
 refine FJ.cat .n ?_
 refine FJ.ql rfl (q_assign rfl (.t .z)) (FJ.nil (FJ.then_ (FJ.seq (FJ.region ?_))))
 refine FJ.ql rfl (q_move rfl (.t .z)) (FJ.ql rfl (q_neq rfl (.t .z) .c) (FJ.nil (FJ.then_ ?_)))
 refine FJ.condN (.t .z) (fun b5 => ?_) (fun b5 => ?_)
 refine FJ.seq (FJ.region (FJ.ql rfl (q_move rfl (.t (.s (.s .z)))) ?_))
 refine FJ.ql rfl (q_build (ps := [(0, .int .i64 (fsFault f))]) (cs := [.int .i64 (fsFault f), .int .i64 0]) rfl bl_28 (by intro act hact; simp only [List.map_toArray, List.map_cons, List.map_nil, (show Val _ _ _ from (.t .z)) act hact]) rfl) ?_
 refine FJ.es (goes_list rfl) rfl (es_store (off := 0) (cs := [.int .i64 (fsFault f), .int .i64 0]) rfl sz_28 (.t (.s4 (.s (.s .z)))) (.t .z) rfl (ones rfl) .z (Nat.le_of_ble_eq_true rfl) (.c .z (.c (.s .z) .n))) ?_
 refine FJ.nil (FJ.then_ (FJ.ret (FJ.thenR ?_)))
 refine FJ.doneS (resC (cs := [.int .i64 (fsFault f), .int .i64 0]) rfl (.s4 (.s (.s .z))) ag_28 sz_28 (WS.rows0 (cs := [.int .i64 (fsFault f), .int .i64 0]) .z (fun _ _ h => h))) .n ?_
 first | (rw [parR_f (by assumption)]; exact ⟨rfl, rfl⟩) | (rw [parR_i hF]; exact ⟨rfl, rfl⟩)
 have hF : fsFault f = 0 := b5
 have ht := fsTree hF
 refine FJ.skip (FJ.then_ (FJ.seq (FJ.region (FJ.ql rfl (q_move rfl (.t (.s4 (.s (.s (.s .z)))))) ?_))))
 refine FJ.call (goes_list rfl) rfl (by decide) rfl (c_call rfl Tryz.func36 rfl rfl (args2 (.t (.s4 (.s (.s .z)))) (.t .z))) .n (fun w1 S1 hs tr => c_36 (tr.ptr (.s .z) (kT_32_mk f (tr.ctx h0_0) (tr.ctx h0_1))) _ (by first | assumption | omega) (by assumption)) ?_
 rintro _ _ ⟨rfl, rfl⟩
 refine FJ.cat .n ?_
 have hpsp6 := parP_size (f := f) (s := s)
 refine FJ.ql rfl (q_move rfl (.t .z)) (FJ.ql rfl (q_extract (v := .int .i64 ((parP f s).1)) rfl (.t .z) rfl) (FJ.ql rfl (q_extract (v := .string ((parP f s).2.1)) rfl (.t (.s .z)) rfl) (FJ.ql rfl (q_extract (v := .int .i64 ((parP f s).2.2)) rfl (.t (.s (.s .z))) rfl) (FJ.ql rfl (q_assign rfl (.t (.s (.s .z)))) ?_))))
 refine FJ.ql rfl (q_assign rfl (.t (.s (.s .z)))) (FJ.ql rfl (q_assign rfl (.t (.s (.s .z)))) (FJ.nil (FJ.then_ (FJ.seq ?_))))
 refine FJ.region (FJ.ql rfl (q_move rfl (.t (.s (.s .z)))) (FJ.ql rfl (q_move rfl (.t (.s .z))) ?_))
 refine FJ.call (goes_list rfl) rfl (by decide) rfl (c_call rfl Tryz.func29 rfl rfl (args2 (.t (.s .z)) (.t .z))) .n (fun w1 S1 hs tr => c_29 _ _) ?_
 rintro _ _ ⟨rfl, rfl⟩
 refine FJ.cat .n ?_
 refine FJ.es (goes_list rfl) rfl (es_store (off := 0) (cs := [.int .i64 ((intP ((parP f s).1) ((parP f s).2.2)).code), .int .i64 ((intP ((parP f s).1) ((parP f s).2.2)).val)]) rfl sz_28 (.t (.s16 .z)) (.t .z) rfl (ones rfl) .z (Nat.le_of_ble_eq_true rfl) (.c .z (.c (.s .z) .n))) ?_
 refine FJ.nil (FJ.then_ (FJ.ret ?_))
 refine FJ.doneS (resC (cs := [.int .i64 ((intP ((parP f s).1) ((parP f s).2.2)).code), .int .i64 ((intP ((parP f s).1) ((parP f s).2.2)).val)]) rfl (.s16 .z) ag_28 sz_28 (WS.rows0 (cs := [.int .i64 ((intP ((parP f s).1) ((parP f s).2.2)).code), .int .i64 ((intP ((parP f s).1) ((parP f s).2.2)).val)]) .z (fun _ _ h => h))) .n ?_
 first | (rw [parR_f (by assumption)]; exact ⟨rfl, rfl⟩) | (rw [parR_i hF]; exact ⟨rfl, rfl⟩)
end Go.Proofs.YticaddophhggoaaGreatDoor

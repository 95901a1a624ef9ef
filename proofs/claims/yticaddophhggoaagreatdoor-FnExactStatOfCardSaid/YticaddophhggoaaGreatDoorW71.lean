/- What is proved: contracts of functions, one a function. No condition. -/
import Derived.Test.YticaddophhggoaaGreatDoorW70
namespace Go.Proofs.YticaddophhggoaaGreatDoor
open Go Go.RowKit
set_option linter.unusedVariables false
set_option linter.unusedSimpArgs false
set_option maxHeartbeats 1000000 in
set_option maxRecDepth 20000 in
theorem c_16 {w0 : World} {S0 : Bs} {f : DFs} {cs0 : List Value} (h0 : kT_32.ro w0 (FF w0 S0) f cs0) (s : ByteArray) (hz1 : s.size ≤ 140737488351232) (hG : MaxL gmax w0 (FF w0 S0)) :
    Calls Tryz.prog 16 #[.agg cs0.toArray, .string s] w0 (TriPost w0 S0 (RA_38 (statR f s))) := by
 obtain ⟨u0_0, u0_1, rfl, h0_0, h0_1⟩ := kT_32_ro h0
 obtain ⟨A0_0, c0_0, rfl, hl0_0, hm0_0, hb0_0, he0_0⟩ := ro_form h0_0
 obtain ⟨A0_1, c0_1, rfl, hl0_1, hm0_1, hb0_1, he0_1⟩ := ro_form h0_1
 refine FJ.enter (N := 25) Tryz.func16 rfl rfl (by simp) [(0, .agg #[.slice A0_0 f.inodes.length c0_0, .slice A0_1 f.data.length c0_1]), (1, .string s)] (by simp) (l0 := []) trivial ?_
 refine FJ.seq (FJ.region ?_)
 refine FJ.e (goes_list rfl) rfl (by decide) rfl (e_box (cs := [.slice A0_0 f.inodes.length c0_0, .slice A0_1 f.data.length c0_1]) (n := 2) rfl (.t .z) rfl rfl) ?_
 rintro _ _ ⟨g3, rfl, rfl⟩
 refine FJ.e (goes_list rfl) rfl (by decide) rfl (e_alloc rfl z_38 rfl rfl) ?_
 rintro _ _ ⟨g4, rfl, rfl⟩
 refine FJ.nil (FJ.then_ (FJ.seq (FJ.seq (FJ.region ?_))))
 refine FJ.ql rfl (q_loadA (cs := [.slice A0_0 f.inodes.length c0_0, .slice A0_1 f.data.length c0_1]) rfl ag_32 sz_32 (.t (.s .z)) (WS.rows0 (.s .z) (fun i u h => by exact h))) ?_
 refine FJ.call (goes_list rfl) rfl (by decide) rfl (c_call rfl Tryz.func32 rfl rfl (args1 (.t .z))) .n (fun w1 S1 hs tr => c_32 (kT_32_mk f (tr.ctx h0_0) (tr.ctx h0_1))) ?_
 rintro _ _ ⟨rfl, rfl⟩
 refine FJ.cat .n ?_
 refine FJ.ql rfl (q_assign rfl (.t .z)) (FJ.nil (FJ.then_ (FJ.seq (FJ.region ?_))))
 refine FJ.ql rfl (q_move rfl (.t .z)) (FJ.ql rfl (q_neq rfl (.t .z) .c) (FJ.nil (FJ.then_ ?_)))
 refine FJ.condN (.t .z) (fun b5 => ?_) (fun b5 => ?_)
 refine FJ.seq (FJ.region (FJ.ql rfl (q_move rfl (.t (.s (.s .z)))) ?_))
 refine FJ.ql rfl (q_build (ps := [(0, .int .i64 (fsFault f))]) (cs := [.int .i64 (fsFault f), .int .i64 0, .int .i64 0, .int .i64 0, .int .i64 0]) rfl bl_38 (by intro act hact; simp only [List.map_toArray, List.map_cons, List.map_nil, (show Val _ _ _ from (.t .z)) act hact]) rfl) ?_
 refine FJ.es (goes_list rfl) rfl (es_store (off := 0) (cs := [.int .i64 (fsFault f), .int .i64 0, .int .i64 0, .int .i64 0, .int .i64 0]) rfl sz_38 (.t (.s4 (.s (.s (.s .z))))) (.t .z) rfl (ones rfl) .z (Nat.le_of_ble_eq_true rfl) (.c .z (.c (.s .z) (.c (.s (.s .z)) (.c (.s (.s (.s .z))) (.c (.s (.s (.s (.s .z)))) .n)))))) ?_
 refine FJ.nil (FJ.then_ (FJ.ret (FJ.thenR ?_)))
 refine FJ.doneS (resC (cs := [.int .i64 (fsFault f), .int .i64 0, .int .i64 0, .int .i64 0, .int .i64 0]) rfl (.s4 (.s (.s (.s .z)))) ag_38 sz_38 (WS.rows0 (cs := [.int .i64 (fsFault f), .int .i64 0, .int .i64 0, .int .i64 0, .int .i64 0]) .z (fun _ _ h => h))) .n ?_
 first | (rw [statR_f (by assumption)]; exact ⟨rfl, rfl⟩) | (rw [statR_c hF (by assumption)]; exact ⟨rfl, rfl⟩) | (rw [statR_0 hF (by assumption)]; exact ⟨rfl, rfl⟩)
 have hF : fsFault f = 0 := b5
 have ht := fsTree hF
 refine FJ.skip (FJ.then_ (FJ.seq (FJ.region (FJ.ql rfl (q_move rfl (.t (.s4 (.s4 .z)))) ?_))))
 refine FJ.call (goes_list rfl) rfl (by decide) rfl (c_call rfl Tryz.func33 rfl rfl (args2 (.t (.s4 (.s (.s (.s .z))))) (.t .z))) .n (fun w1 S1 hs tr => c_33 (tr.ptr (.s .z) (kT_32_mk f (tr.ctx h0_0) (tr.ctx h0_1))) _ (by first | assumption | omega) (by assumption) (MaxL.tr tr hG)) ?_
 rintro _ _ ⟨rfl, rfl⟩
 refine FJ.cat .n ?_
 have hwpp6 := walkP_place ht s
 refine FJ.ql rfl (q_move rfl (.t .z)) (FJ.ql rfl (q_extract (v := .int .i64 ((walkP f s).1)) rfl (.t .z) rfl) (FJ.ql rfl (q_extract (v := .int .i64 ((walkP f s).2)) rfl (.t (.s .z)) rfl) (FJ.ql rfl (q_assign rfl (.t (.s .z))) (FJ.ql rfl (q_assign rfl (.t (.s .z))) ?_))))
 refine FJ.nil (FJ.then_ (FJ.seq (FJ.seq (FJ.region ?_))))
 refine FJ.ql rfl (q_move rfl (.t .z)) (FJ.ql rfl (q_neq rfl (.t .z) .c) (FJ.nil (FJ.then_ ?_)))
 refine FJ.condN (.t .z) (fun b7 => ?_) (fun b7 => ?_)
 refine FJ.seq (FJ.region (FJ.ql rfl (q_move rfl (.t (.s (.s .z)))) ?_))
 refine FJ.ql rfl (q_build (ps := [(0, .int .i64 ((walkP f s).2))]) (cs := [.int .i64 ((walkP f s).2), .int .i64 0, .int .i64 0, .int .i64 0, .int .i64 0]) rfl bl_38 (by intro act hact; simp only [List.map_toArray, List.map_cons, List.map_nil, (show Val _ _ _ from (.t .z)) act hact]) rfl) ?_
 refine FJ.es (goes_list rfl) rfl (es_store (off := 0) (cs := [.int .i64 ((walkP f s).2), .int .i64 0, .int .i64 0, .int .i64 0, .int .i64 0]) rfl sz_38 (.t (.s16 .z)) (.t .z) rfl (ones rfl) .z (Nat.le_of_ble_eq_true rfl) (.c .z (.c (.s .z) (.c (.s (.s .z)) (.c (.s (.s (.s .z))) (.c (.s (.s (.s (.s .z)))) .n)))))) ?_
 refine FJ.nil (FJ.then_ (FJ.ret (FJ.thenR ?_)))
 refine FJ.doneS (resC (cs := [.int .i64 ((walkP f s).2), .int .i64 0, .int .i64 0, .int .i64 0, .int .i64 0]) rfl (.s16 .z) ag_38 sz_38 (WS.rows0 (cs := [.int .i64 ((walkP f s).2), .int .i64 0, .int .i64 0, .int .i64 0, .int .i64 0]) .z (fun _ _ h => h))) .n ?_
 first | (rw [statR_f (by assumption)]; exact ⟨rfl, rfl⟩) | (rw [statR_c hF (by assumption)]; exact ⟨rfl, rfl⟩) | (rw [statR_0 hF (by assumption)]; exact ⟨rfl, rfl⟩)
 refine FJ.skip (FJ.then_ (FJ.seq (FJ.region (FJ.ql rfl (q_move rfl (.t (.s (.s (.s .z))))) ?_))))
 refine FJ.call (goes_list rfl) rfl (by decide) rfl (c_call rfl Tryz.func38 rfl rfl (args2 (.t (.s16 .z)) (.t .z))) .n (fun w1 S1 hs tr => c_38 (tr.ptr (.s .z) (kT_32_mk f (tr.ctx h0_0) (tr.ctx h0_1))) _ (by first | assumption | (constructor <;> omega))) ?_
 rintro _ _ ⟨rfl, rfl⟩
 refine FJ.cat .n ?_
 refine FJ.es (goes_list rfl) rfl (es_store (off := 0) (cs := [.int .i64 ((statA f ((walkP f s).1)).code), .int .i64 ((statA f ((walkP f s).1)).inode), .int .i64 ((statA f ((walkP f s).1)).kind), .int .i64 ((statA f ((walkP f s).1)).links), .int .i64 ((statA f ((walkP f s).1)).size)]) rfl sz_38 (.t (.s16 .z)) (.t .z) rfl (ones rfl) .z (Nat.le_of_ble_eq_true rfl) (.c .z (.c (.s .z) (.c (.s (.s .z)) (.c (.s (.s (.s .z))) (.c (.s (.s (.s (.s .z)))) .n)))))) ?_
 refine FJ.nil (FJ.then_ (FJ.ret ?_))
 refine FJ.doneS (resC (cs := [.int .i64 ((statA f ((walkP f s).1)).code), .int .i64 ((statA f ((walkP f s).1)).inode), .int .i64 ((statA f ((walkP f s).1)).kind), .int .i64 ((statA f ((walkP f s).1)).links), .int .i64 ((statA f ((walkP f s).1)).size)]) rfl (.s16 .z) ag_38 sz_38 (WS.rows0 (cs := [.int .i64 ((statA f ((walkP f s).1)).code), .int .i64 ((statA f ((walkP f s).1)).inode), .int .i64 ((statA f ((walkP f s).1)).kind), .int .i64 ((statA f ((walkP f s).1)).links), .int .i64 ((statA f ((walkP f s).1)).size)]) .z (fun _ _ h => h))) .n ?_
 first | (rw [statR_f (by assumption)]; exact ⟨rfl, rfl⟩) | (rw [statR_c hF (by assumption)]; exact ⟨rfl, rfl⟩) | (rw [statR_0 hF (by assumption)]; exact ⟨rfl, rfl⟩)

set_option maxHeartbeats 1000000 in
set_option maxRecDepth 20000 in
theorem c_15 {w0 : World} {S0 : Bs} {f : DFs} {cs0 : List Value} (h0 : kT_32.ro w0 (FF w0 S0) f cs0) (s : ByteArray) (hz1 : s.size ≤ 140737488351232)  :
    Calls Tryz.prog 15 #[.agg cs0.toArray, .string s] w0 (TriPost w0 S0 (RA_38 (statR f s))) := by
 obtain ⟨u0_0, u0_1, rfl, h0_0, h0_1⟩ := kT_32_ro h0
 obtain ⟨A0_0, c0_0, rfl, hl0_0, hm0_0, hb0_0, he0_0⟩ := ro_form h0_0
 obtain ⟨A0_1, c0_1, rfl, hl0_1, hm0_1, hb0_1, he0_1⟩ := ro_form h0_1
 refine FJ.enter (N := 57) Tryz.func15 rfl rfl (by simp) [(0, .agg #[.slice A0_0 f.inodes.length c0_0, .slice A0_1 f.data.length c0_1]), (1, .string s)] (by simp) (l0 := []) trivial ?_
 refine FJ.seq (FJ.region ?_)
 refine FJ.e (goes_list rfl) rfl (by decide) rfl (e_box (cs := [.slice A0_0 f.inodes.length c0_0, .slice A0_1 f.data.length c0_1]) (n := 2) rfl (.t .z) rfl rfl) ?_
 rintro _ _ ⟨g3, rfl, rfl⟩
 refine FJ.e (goes_list rfl) rfl (by decide) rfl (e_alloc rfl z_38 rfl rfl) ?_
 rintro _ _ ⟨g4, rfl, rfl⟩
 refine FJ.nil (FJ.then_ (FJ.seq (FJ.seq (FJ.region ?_))))
 refine FJ.call (goes_list rfl) rfl (by decide) rfl (c_call rfl Tryz.func27 rfl rfl (args1 (.t (.s .z)))) .n (fun w1 S1 hs tr => c_27 (tr.ptr (.s .z) (kT_32_mk f (tr.ctx h0_0) (tr.ctx h0_1)))) ?_
 rintro _ _ ⟨rfl, rfl⟩
 refine FJ.cat .n ?_
 refine FJ.ql rfl (q_assign rfl (.t .z)) (FJ.nil (FJ.then_ (FJ.seq (FJ.region ?_))))
 refine FJ.ql rfl (q_move rfl (.t .z)) (FJ.ql rfl (q_neq rfl (.t .z) .c) (FJ.nil (FJ.then_ ?_)))
 refine FJ.condN (.t .z) (fun b5 => ?_) (fun b5 => ?_)
 refine FJ.seq (FJ.region (FJ.ql rfl (q_move rfl (.t (.s (.s .z)))) ?_))
 refine FJ.ql rfl (q_build (ps := [(0, .int .i64 (fsFault f))]) (cs := [.int .i64 (fsFault f), .int .i64 0, .int .i64 0, .int .i64 0, .int .i64 0]) rfl bl_38 (by intro act hact; simp only [List.map_toArray, List.map_cons, List.map_nil, (show Val _ _ _ from (.t .z)) act hact]) rfl) ?_
 refine FJ.es (goes_list rfl) rfl (es_store (off := 0) (cs := [.int .i64 (fsFault f), .int .i64 0, .int .i64 0, .int .i64 0, .int .i64 0]) rfl sz_38 (.t (.s4 (.s (.s .z)))) (.t .z) rfl (ones rfl) .z (Nat.le_of_ble_eq_true rfl) (.c .z (.c (.s .z) (.c (.s (.s .z)) (.c (.s (.s (.s .z))) (.c (.s (.s (.s (.s .z)))) .n)))))) ?_
 refine FJ.nil (FJ.then_ (FJ.ret (FJ.thenR ?_)))
 refine FJ.doneS (resC (cs := [.int .i64 (fsFault f), .int .i64 0, .int .i64 0, .int .i64 0, .int .i64 0]) rfl (.s4 (.s (.s .z))) ag_38 sz_38 (WS.rows0 (cs := [.int .i64 (fsFault f), .int .i64 0, .int .i64 0, .int .i64 0, .int .i64 0]) .z (fun _ _ h => h))) .n ?_
 first | (rw [statR_f (by assumption)]; exact ⟨rfl, rfl⟩) | (rw [statR_c hF (by assumption)]; exact ⟨rfl, rfl⟩)
 have hF : fsFault f = 0 := b5
 have ht := fsTree hF
 refine FJ.skip (FJ.then_ (FJ.seq (FJ.region (FJ.ql rfl (q_move rfl (.t (.s4 (.s (.s (.s .z)))))) ?_))))
 refine FJ.call (goes_list rfl) rfl (by decide) rfl (c_call rfl Tryz.func28 rfl rfl (args2 (.t (.s4 (.s (.s .z)))) (.t .z))) .n (fun w1 S1 hs tr => c_28 (tr.ptr (.s .z) (kT_32_mk f (tr.ctx h0_0) (tr.ctx h0_1))) _ (by first | assumption | omega) (by assumption)) ?_
 rintro _ _ ⟨rfl, rfl⟩
 refine FJ.cat .n ?_
 have hwpp6 := walkP_place ht s
 refine FJ.ql rfl (q_move rfl (.t .z)) (FJ.ql rfl (q_extract (v := .int .i64 ((walkP f s).1)) rfl (.t .z) rfl) (FJ.ql rfl (q_extract (v := .int .i64 ((walkP f s).2)) rfl (.t (.s .z)) rfl) (FJ.ql rfl (q_assign rfl (.t (.s .z))) (FJ.ql rfl (q_assign rfl (.t (.s .z))) ?_))))
 refine FJ.nil (FJ.then_ (FJ.seq (FJ.seq (FJ.region ?_))))
 refine FJ.ql rfl (q_move rfl (.t .z)) (FJ.ql rfl (q_neq rfl (.t .z) .c) (FJ.nil (FJ.then_ ?_)))
 refine FJ.condN (.t .z) (fun b7 => ?_) (fun b7 => ?_)
 refine FJ.seq (FJ.region (FJ.ql rfl (q_move rfl (.t (.s (.s .z)))) ?_))
 refine FJ.ql rfl (q_build (ps := [(0, .int .i64 ((walkP f s).2))]) (cs := [.int .i64 ((walkP f s).2), .int .i64 0, .int .i64 0, .int .i64 0, .int .i64 0]) rfl bl_38 (by intro act hact; simp only [List.map_toArray, List.map_cons, List.map_nil, (show Val _ _ _ from (.t .z)) act hact]) rfl) ?_
 refine FJ.es (goes_list rfl) rfl (es_store (off := 0) (cs := [.int .i64 ((walkP f s).2), .int .i64 0, .int .i64 0, .int .i64 0, .int .i64 0]) rfl sz_38 (.t (.s4 (.s4 (.s4 (.s (.s (.s .z))))))) (.t .z) rfl (ones rfl) .z (Nat.le_of_ble_eq_true rfl) (.c .z (.c (.s .z) (.c (.s (.s .z)) (.c (.s (.s (.s .z))) (.c (.s (.s (.s (.s .z)))) .n)))))) ?_
 refine FJ.nil (FJ.then_ (FJ.ret (FJ.thenR ?_)))
 refine FJ.doneS (resC (cs := [.int .i64 ((walkP f s).2), .int .i64 0, .int .i64 0, .int .i64 0, .int .i64 0]) rfl (.s4 (.s4 (.s4 (.s (.s (.s .z)))))) ag_38 sz_38 (WS.rows0 (cs := [.int .i64 ((walkP f s).2), .int .i64 0, .int .i64 0, .int .i64 0, .int .i64 0]) .z (fun _ _ h => h))) .n ?_
 first | (rw [statR_f (by assumption)]; exact ⟨rfl, rfl⟩) | (rw [statR_c hF (by assumption)]; exact ⟨rfl, rfl⟩)
 refine FJ.skip (FJ.then_ (FJ.seq (FJ.region (FJ.ql rfl (q_fieldAddr rfl (.t (.s4 (.s4 (.s4 (.s (.s .z)))))) (fun _ => fa_32_0 _ _)) ?_))))
 refine FJ.ql rfl (q_load rfl ag_30 (.t .z) (WS.row (.s .z) rfl)) (FJ.ql rfl (q_move rfl (.t (.s4 (.s .z)))) ?_)
 obtain ⟨ad8, hAad8, hrad8⟩ := he0_0 (by omega)
 subst hAad8
 obtain ⟨x9, hx9⟩ := get_ex (xs := f.inodes) (j := Int.toNat ((walkP f s).1)) (by omega)
 obtain ⟨ece10, hre10, hFe10, hce10⟩ := hrad8.elem hx9
 obtain ⟨ue10_3, ue10_4, rfl, he10_3, he10_4⟩ := kT_55_ro hre10
 obtain ⟨Ae10_3, ce10_3, rfl, hle10_3, hme10_3, hbe10_3, hee10_3⟩ := ro_form he10_3
 obtain ⟨Ae10_4, ce10_4, rfl, hle10_4, hme10_4, hbe10_4, hee10_4⟩ := ro_form he10_4
 have kx9 := kind_at (i := ((walkP f s).1)) hx9 (by omega)
 have nx9 := ents_at (a := ((walkP f s).1)) hx9 (by omega)
 have lx9 := links_at (a := ((walkP f s).1)) hx9 (by omega)
 have zx9 := size_at (a := ((walkP f s).1)) hx9 (by omega)
 refine FJ.ql rfl (q_indexAddr (j := Int.toNat ((walkP f s).1)) rfl u_30 sz_55 (.t (.s .z)) (.t .z) (by omega) (by omega)) ?_
 refine FJ.ql rfl (q_assign rfl (.t .z)) (FJ.nil (FJ.then_ (FJ.seq (FJ.seq ?_))))
 refine FJ.region (FJ.ql rfl (q_move rfl (.t .z)) (FJ.ql rfl (q_nilCheck rfl (.t .z)) (FJ.ql rfl (q_fieldAddr rfl (.t .z) (fun _ => fa_55_0 _ _)) (FJ.ql rfl (q_load rfl ag_2 (.t .z) (WS.el hFe10 hce10 rfl)) ?_))))
 refine FJ.ql rfl (q_eql rfl (.t .z) .c) (FJ.nil (FJ.then_ ?_))
 refine FJ.condP (.t .z) (fun b13 => ?_) (fun b13 => ?_)
 refine FJ.seq ?_
 refine FJ.draw [rowA g4 38 5 1 [.int .i64 0, .int .i64 0, .int .i64 0, .int .i64 0, .int .i64 0], rowA g3 32 2 1 [.slice (some ad8) f.inodes.length c0_0, .slice A0_1 f.data.length c0_1]] 11 (by kernel_rfl) ?_
 refine FJ.sch [(0, true), (1, true), (2, true), (3, true), (4, true), (5, true), (6, true), (7, true), (8, true), (9, true), (10, true), (11, false)] 0 #[true, true, true, true, true, true, true, true, true, true, true, true] (by rfl) (by kernel_rfl) ?_
 refine FJ.dq rfl rfl rfl (by decide) rfl .z (q_move rfl (.t (.s4 (.s4 (.s4 (.s .z)))))) (FJ.dq rfl rfl rfl (by decide) rfl .z (q_move rfl (.t (.s4 (.s (.s .z))))) (FJ.dq rfl rfl rfl (by decide) rfl .z (q_nilCheck rfl (.t .z)) (FJ.dq rfl rfl rfl (by decide) rfl .z (q_fieldAddr rfl (.t .z) (fun _ => fa_55_0 _ _)) (FJ.dq rfl rfl rfl (by decide) rfl .z (q_load rfl ag_2 (.t .z) (WS.el hFe10 hce10 rfl)) ?_))))
 refine FJ.dq rfl rfl rfl (by decide) rfl .z (q_move rfl (.t (.s4 (.s4 (.s (.s .z)))))) (FJ.dq rfl rfl rfl (by decide) rfl .z (q_nilCheck rfl (.t .z)) (FJ.dq rfl rfl rfl (by decide) rfl .z (q_fieldAddr rfl (.t .z) (fun _ => fa_55_4 _ _)) (FJ.dq rfl rfl rfl (by decide) rfl .z (q_load rfl ag_53 (.t .z) (WS.el hFe10 hce10 rfl)) (FJ.dq rfl rfl rfl (by decide) rfl .z (q_len rfl u_53 (.t .z)) ?_))))
 refine FJ.dq rfl rfl rfl (by decide) rfl .z (q_build (ps := [(1, .int .i64 ((walkP f s).1)), (2, .int .i64 x9.kind), (3, .int .i64 1), (4, .int .i64 (x9.ents.length : Int))]) (cs := [.int .i64 0, .int .i64 ((walkP f s).1), .int .i64 x9.kind, .int .i64 1, .int .i64 (x9.ents.length : Int)]) rfl bl_38 (by intro act hact; simp only [List.map_toArray, List.map_cons, List.map_nil, (show Val _ _ _ from (.t (.s4 (.s4 (.s .z))))) act hact, (show Val _ _ _ from (.t (.s4 (.s .z)))) act hact, (show Val _ _ _ from .c) act hact, (show Val _ _ _ from (.t .z)) act hact]) rfl) ?_
 refine FJ.es (goes_sch rfl rfl) rfl (es_store (off := 0) (cs := [.int .i64 0, .int .i64 ((walkP f s).1), .int .i64 x9.kind, .int .i64 1, .int .i64 (x9.ents.length : Int)]) rfl sz_38 (.t (.s16 (.s16 (.s (.s .z))))) (.t .z) rfl (ones rfl) .z (Nat.le_of_ble_eq_true rfl) (.c .z (.c (.s .z) (.c (.s (.s .z)) (.c (.s (.s (.s .z))) (.c (.s (.s (.s (.s .z)))) .n)))))) ?_
 refine FJ.sl rfl ?_
 refine FJ.schN ?_
 refine FJ.drawN (by kernel_rfl) ?_
 refine FJ.then_ (FJ.ret (FJ.thenR ?_))
 refine FJ.doneS (resC (cs := [.int .i64 0, .int .i64 ((walkP f s).1), .int .i64 x9.kind, .int .i64 1, .int .i64 (x9.ents.length : Int)]) rfl (.s16 (.s16 (.s (.s .z)))) ag_38 sz_38 (WS.rows0 (cs := [.int .i64 0, .int .i64 ((walkP f s).1), .int .i64 x9.kind, .int .i64 1, .int .i64 (x9.ents.length : Int)]) .z (fun _ _ h => h))) .n ?_
 first | (rw [statR_f (by assumption)]; exact ⟨rfl, rfl⟩) | (rw [statR_c hF (by assumption)]; exact ⟨rfl, rfl⟩) | (rw [statR_0 hF (by assumption), statA_d (by omega), kx9, nx9]; exact ⟨rfl, rfl⟩) | (rw [statR_0 hF (by assumption), statA_f (by omega), kx9, lx9, zx9]; exact ⟨rfl, rfl⟩)
 refine FJ.skip (FJ.then_ (FJ.seq ?_))
 refine FJ.draw [rowA g4 38 5 1 [.int .i64 0, .int .i64 0, .int .i64 0, .int .i64 0, .int .i64 0], rowA g3 32 2 1 [.slice (some ad8) f.inodes.length c0_0, .slice A0_1 f.data.length c0_1]] 14 (by kernel_rfl) ?_
 refine FJ.sch [(0, true), (1, true), (2, true), (3, true), (4, true), (5, true), (6, true), (7, true), (8, true), (9, true), (10, true), (11, true), (12, true), (13, true), (14, false)] 0 #[true, true, true, true, true, true, true, true, true, true, true, true, true, true, true] (by rfl) (by kernel_rfl) ?_
 refine FJ.dq rfl rfl rfl (by decide) rfl .z (q_move rfl (.t (.s4 (.s4 (.s4 (.s .z)))))) (FJ.dq rfl rfl rfl (by decide) rfl .z (q_move rfl (.t (.s4 (.s (.s .z))))) (FJ.dq rfl rfl rfl (by decide) rfl .z (q_nilCheck rfl (.t .z)) (FJ.dq rfl rfl rfl (by decide) rfl .z (q_fieldAddr rfl (.t .z) (fun _ => fa_55_0 _ _)) (FJ.dq rfl rfl rfl (by decide) rfl .z (q_load rfl ag_2 (.t .z) (WS.el hFe10 hce10 rfl)) ?_))))
 refine FJ.dq rfl rfl rfl (by decide) rfl .z (q_move rfl (.t (.s4 (.s4 (.s (.s .z)))))) (FJ.dq rfl rfl rfl (by decide) rfl .z (q_nilCheck rfl (.t .z)) (FJ.dq rfl rfl rfl (by decide) rfl .z (q_fieldAddr rfl (.t .z) (fun _ => fa_55_1 _ _)) (FJ.dq rfl rfl rfl (by decide) rfl .z (q_load rfl ag_2 (.t .z) (WS.el hFe10 hce10 rfl)) (FJ.dq rfl rfl rfl (by decide) rfl .z (q_move rfl (.t (.s4 (.s4 (.s4 (.s (.s .z))))))) ?_))))
 refine FJ.dq rfl rfl rfl (by decide) rfl .z (q_nilCheck rfl (.t .z)) (FJ.dq rfl rfl rfl (by decide) rfl .z (q_fieldAddr rfl (.t .z) (fun _ => fa_55_2 _ _)) (FJ.dq rfl rfl rfl (by decide) rfl .z (q_load rfl ag_2 (.t .z) (WS.el hFe10 hce10 rfl)) ?_))
 refine FJ.dq rfl rfl rfl (by decide) rfl .z (q_build (ps := [(1, .int .i64 ((walkP f s).1)), (2, .int .i64 x9.kind), (3, .int .i64 x9.links), (4, .int .i64 x9.size)]) (cs := [.int .i64 0, .int .i64 ((walkP f s).1), .int .i64 x9.kind, .int .i64 x9.links, .int .i64 x9.size]) rfl bl_38 (by intro act hact; simp only [List.map_toArray, List.map_cons, List.map_nil, (show Val _ _ _ from (.t (.s4 (.s4 (.s4 .z))))) act hact, (show Val _ _ _ from (.t (.s4 (.s4 .z)))) act hact, (show Val _ _ _ from (.t (.s4 .z))) act hact, (show Val _ _ _ from (.t .z)) act hact]) rfl) ?_
 refine FJ.es (goes_sch rfl rfl) rfl (es_store (off := 0) (cs := [.int .i64 0, .int .i64 ((walkP f s).1), .int .i64 x9.kind, .int .i64 x9.links, .int .i64 x9.size]) rfl sz_38 (.t (.s16 (.s16 (.s4 (.s .z))))) (.t .z) rfl (ones rfl) .z (Nat.le_of_ble_eq_true rfl) (.c .z (.c (.s .z) (.c (.s (.s .z)) (.c (.s (.s (.s .z))) (.c (.s (.s (.s (.s .z)))) .n)))))) ?_
 refine FJ.sl rfl ?_
 refine FJ.schN ?_
 refine FJ.drawN (by kernel_rfl) ?_
 refine FJ.then_ (FJ.ret ?_)
 refine FJ.doneS (resC (cs := [.int .i64 0, .int .i64 ((walkP f s).1), .int .i64 x9.kind, .int .i64 x9.links, .int .i64 x9.size]) rfl (.s16 (.s16 (.s4 (.s .z)))) ag_38 sz_38 (WS.rows0 (cs := [.int .i64 0, .int .i64 ((walkP f s).1), .int .i64 x9.kind, .int .i64 x9.links, .int .i64 x9.size]) .z (fun _ _ h => h))) .n ?_
 first | (rw [statR_f (by assumption)]; exact ⟨rfl, rfl⟩) | (rw [statR_c hF (by assumption)]; exact ⟨rfl, rfl⟩) | (rw [statR_0 hF (by assumption), statA_d (by omega), kx9, nx9]; exact ⟨rfl, rfl⟩) | (rw [statR_0 hF (by assumption), statA_f (by omega), kx9, lx9, zx9]; exact ⟨rfl, rfl⟩)

end Go.Proofs.YticaddophhggoaaGreatDoor

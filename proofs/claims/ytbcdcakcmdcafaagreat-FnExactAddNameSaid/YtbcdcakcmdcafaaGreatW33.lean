/- What is proved: contracts of functions, one a function. No condition. -/
import Derived.Test.YtbcdcakcmdcafaaGreatW31
namespace Go.Proofs.YtbcdcakcmdcafaaGreat
open Go Go.RowKit
set_option linter.unusedVariables false
set_option linter.unusedSimpArgs false
set_option maxHeartbeats 1000000 in
set_option maxRecDepth 20000 in
theorem c_109 {w0 : World} {S0 : Bs} {f : DFs} {cs0 : List Value} (h0 : kT_26.ro w0 (FF w0 S0) f cs0) (a : Int)  :
    Calls Tryz.prog 109 #[.agg cs0.toArray, .int .i64 a] w0 (TriPost w0 S0 (fun r l => r = .int .i64 (dirCode f a) ∧ l = [])) := by
 obtain ⟨u0_0, u0_1, rfl, h0_0, h0_1⟩ := kT_26_ro h0
 obtain ⟨A0_0, c0_0, rfl, hl0_0, hm0_0, hb0_0, he0_0⟩ := ro_form h0_0
 obtain ⟨A0_1, c0_1, rfl, hl0_1, hm0_1, hb0_1, he0_1⟩ := ro_form h0_1
 refine FJ.enter (N := 28) Tryz.func109 rfl rfl (by simp) [(0, .agg #[.slice A0_0 f.inodes.length c0_0, .slice A0_1 f.data.length c0_1]), (1, .int .i64 a)] (by simp) (l0 := []) trivial ?_
 refine FJ.seq (FJ.region ?_)
 refine FJ.e (goes_list rfl) rfl (by decide) rfl (e_box (cs := [.slice A0_0 f.inodes.length c0_0, .slice A0_1 f.data.length c0_1]) (n := 2) rfl (.t .z) rfl rfl) ?_
 rintro _ _ ⟨g3, rfl, rfl⟩
 refine FJ.ql rfl (q_assign rfl .c) (FJ.nil (FJ.then_ (FJ.seq (FJ.region ?_))))
 refine FJ.ql rfl (q_loadA (cs := [.slice A0_0 f.inodes.length c0_0, .slice A0_1 f.data.length c0_1]) rfl ag_26 sz_26 (.t (.s .z)) (WS.rows0 .z (fun i u h => by exact h))) ?_
 refine FJ.call (goes_list rfl) rfl (by decide) rfl (c_call rfl Tryz.func82 rfl rfl (args1 (.t .z))) .n (fun w1 S1 hs tr => c_82 (kT_26_mk f (tr.ctx h0_0) (tr.ctx h0_1))) ?_
 rintro _ _ ⟨rfl, rfl⟩
 refine FJ.cat .n ?_
 refine FJ.ql rfl (q_assign rfl (.t .z)) (FJ.nil (FJ.then_ (FJ.seq (FJ.block ?_))))
 refine FJ.seq (FJ.region (FJ.ql rfl (q_move rfl (.t .z)) (FJ.ql rfl (q_neq rfl (.t .z) .c) (FJ.ql rfl (q_assign rfl (.t .z)) ?_))))
 refine FJ.nil (FJ.then_ ?_)
 refine FJ.condN (.t .z) (fun b4 => ?_) (fun b4 => ?_)
 refine FJ.seq (FJ.region (FJ.ql rfl (q_move rfl (.t (.s (.s (.s .z))))) (FJ.er (.s4 (.s (.s (.s .z)))) (FJ.ql rfl (q_assign rfl (.t .z)) ?_))))
 refine FJ.nil (FJ.then_ (FJ.ret (FJ.inBR (FJ.thenR ?_))))
 refine FJ.doneS (res1 rfl .z) .n ?_
 exact ⟨by first | (rw [dirCode_f (by assumption)]; done) | (rw [dirCode_3 (by assumption) (by assumption)]; done) | (rw [dirCode_9 (by assumption) (by assumption) (by omega)]; done) | (rw [dirCode_0 (by assumption) (by assumption) (by omega)]; done), rfl⟩
 have hId5 := treeI b4
 refine FJ.seq (FJ.region (FJ.ql rfl (q_move rfl (.t (.s4 (.s4 (.s .z))))) (FJ.ql rfl (q_fieldAddr rfl (.t (.s4 (.s4 .z))) (fun _ => fa_26_0 _ _)) (FJ.ql rfl (q_load rfl ag_24 (.t .z) (WS.row .z rfl)) ?_))))
 refine FJ.call (goes_list rfl) rfl (by decide) rfl (c_call rfl Tryz.func100 rfl rfl (args1 (.t .z))) .n (fun w1 S1 hs tr => c_100 (tr.ctx h0_0)) ?_
 rintro _ _ ⟨rfl, rfl⟩
 refine FJ.cat .n ?_
 refine FJ.ql rfl (q_sub (c := (f.inodes.length : Int) - 1) rfl (.t .z) .c (wr (by omega) (by omega) (by omega))) ?_
 refine FJ.call (goes_list rfl) rfl (by decide) rfl (c_call rfl Tryz.func99 rfl rfl (args3 (.t (.s4 .z)) .c (.t .z))) .n (fun w1 S1 hs tr => c_99 _ _ _) ?_
 rintro _ _ ⟨rfl, rfl⟩
 refine FJ.cat .n ?_
 refine FJ.ql rfl (q_not rfl (.t .z)) (FJ.ql rfl (q_assign rfl (.t .z)) (FJ.nil (FJ.then_ ?_)))
 refine FJ.condN (.t .z) (fun b6 => ?_) (fun b6 => ?_)
 refine FJ.seq (FJ.region (FJ.er (.s4 (.s4 (.s4 (.s (.s .z))))) (FJ.ql rfl (q_assign rfl .c) (FJ.nil ?_))))
 refine FJ.then_ (FJ.ret (FJ.inBR (FJ.thenR ?_)))
 refine FJ.doneS (res1 rfl .z) .n ?_
 exact ⟨by first | (rw [dirCode_f (by assumption)]; done) | (rw [dirCode_3 (by assumption) (by assumption)]; done) | (rw [dirCode_9 (by assumption) (by assumption) (by omega)]; done) | (rw [dirCode_0 (by assumption) (by assumption) (by omega)]; done), rfl⟩
 refine FJ.seq (FJ.region (FJ.ql rfl (q_fieldAddr rfl (.t (.s4 (.s4 (.s4 (.s (.s (.s .z))))))) (fun _ => fa_26_0 _ _)) (FJ.ql rfl (q_load rfl ag_24 (.t .z) (WS.row .z rfl)) (FJ.ql rfl (q_move rfl (.t (.s16 (.s (.s (.s .z)))))) ?_))))
 obtain ⟨ad7, hAad7, hrad7⟩ := he0_0 (by omega)
 subst hAad7
 obtain ⟨x8, hx8⟩ := get_ex (xs := f.inodes) (j := Int.toNat a) (by omega)
 obtain ⟨ece9, hre9, hFe9, hce9⟩ := hrad7.elem hx8
 obtain ⟨ue9_3, ue9_4, rfl, he9_3, he9_4⟩ := kT_66_ro hre9
 obtain ⟨Ae9_3, ce9_3, rfl, hle9_3, hme9_3, hbe9_3, hee9_3⟩ := ro_form he9_3
 obtain ⟨Ae9_4, ce9_4, rfl, hle9_4, hme9_4, hbe9_4, hee9_4⟩ := ro_form he9_4
 have kx8 := kind_at (i := a) hx8 (by omega)
 have nx8 := ents_at (a := a) hx8 (by omega)
 have iox8 := inodes_all hId5 _ (List.mem_of_getElem? hx8)
 refine FJ.ql rfl (q_indexAddr (j := Int.toNat a) rfl u_24 sz_66 (.t (.s .z)) (.t .z) (by omega) (by omega)) ?_
 refine FJ.ql rfl (q_fieldAddr rfl (.t .z) (fun _ => fa_66_0 _ _)) (FJ.ql rfl (q_load rfl ag_2 (.t .z) (WS.el hFe9 hce9 rfl)) (FJ.ql rfl (q_neq rfl (.t .z) .c) (FJ.ql rfl (q_assign rfl (.t .z)) (FJ.nil ?_))))
 refine FJ.then_ ?_
 refine FJ.condN (.t .z) (fun b12 => ?_) (fun b12 => ?_)
 refine FJ.seq (FJ.region (FJ.er (.s16 (.s4 (.s (.s .z)))) (FJ.ql rfl (q_assign rfl .c) (FJ.nil ?_))))
 refine FJ.then_ (FJ.ret (FJ.inBR (FJ.thenR ?_)))
 refine FJ.doneS (res1 rfl .z) .n ?_
 exact ⟨by first | (rw [dirCode_f (by assumption)]; done) | (rw [dirCode_3 (by assumption) (by assumption)]; done) | (rw [dirCode_9 (by assumption) (by assumption) (by omega)]; done) | (rw [dirCode_0 (by assumption) (by assumption) (by omega)]; done), rfl⟩
 refine FJ.skip (FJ.inBN (FJ.then_ (FJ.seq (FJ.region ?_))))
 refine FJ.er (.s16 (.s4 (.s (.s .z)))) (FJ.ql rfl (q_assign rfl .c) (FJ.nil (FJ.then_ (FJ.ret ?_))))
 refine FJ.doneS (res1 rfl .z) .n ?_
 exact ⟨by first | (rw [dirCode_f (by assumption)]; done) | (rw [dirCode_3 (by assumption) (by assumption)]; done) | (rw [dirCode_9 (by assumption) (by assumption) (by omega)]; done) | (rw [dirCode_0 (by assumption) (by assumption) (by omega)]; done), rfl⟩

set_option maxHeartbeats 1000000 in
set_option maxRecDepth 20000 in
theorem c_105 {w0 : World} {S0 : Bs} {f : DFs} {ad0 : Addr} (h0 : PtrRo kT_26 w0 (FF w0 S0) ad0 f) (a : Int)  :
    Calls Tryz.prog 105 #[.pointer (some ad0), .int .i64 a] w0 (TriPost w0 S0 (fun r l => r = .int .i64 (dirCode f a) ∧ l = [])) := by
 obtain ⟨ec0, hF0, hr0, hc0⟩ := id h0
 obtain ⟨u0_0, u0_1, rfl, h0_0, h0_1⟩ := kT_26_ro hr0
 obtain ⟨A0_0, c0_0, rfl, hl0_0, hm0_0, hb0_0, he0_0⟩ := ro_form h0_0
 obtain ⟨A0_1, c0_1, rfl, hl0_1, hm0_1, hb0_1, he0_1⟩ := ro_form h0_1
 refine FJ.enter (N := 24) Tryz.func105 rfl rfl (by simp) [(0, .pointer (some ad0)), (1, .int .i64 a)] (by simp) (l0 := []) trivial ?_
 refine FJ.seq (FJ.region (FJ.ql rfl (q_assign rfl .c) (FJ.nil (FJ.then_ ?_))))
 refine FJ.seq (FJ.seq (FJ.region (FJ.ql rfl (q_move rfl (.t (.s .z))) ?_)))
 refine FJ.call (goes_list rfl) rfl (by decide) rfl (c_call rfl Tryz.func84 rfl rfl (args1 (.t .z))) .n (fun w1 S1 hs tr => c_84 (tr.ctxP h0)) ?_
 rintro _ _ ⟨rfl, rfl⟩
 refine FJ.cat .n ?_
 refine FJ.ql rfl (q_assign rfl (.t .z)) (FJ.nil (FJ.then_ (FJ.seq (FJ.region ?_))))
 refine FJ.ql rfl (q_move rfl (.t .z)) (FJ.ql rfl (q_neq rfl (.t .z) .c) (FJ.nil (FJ.then_ ?_)))
 refine FJ.condN (.t .z) (fun b3 => ?_) (fun b3 => ?_)
 refine FJ.seq (FJ.region (FJ.ql rfl (q_move rfl (.t (.s (.s .z)))) (FJ.er (.s4 (.s (.s .z))) (FJ.ql rfl (q_assign rfl (.t .z)) ?_))))
 refine FJ.nil (FJ.then_ (FJ.ret (FJ.thenR ?_)))
 refine FJ.doneS (res1 rfl .z) .n ?_
 exact ⟨by first | (rw [dirCode_f (by assumption)]; done) | (rw [dirCode_3 (by assumption) (by assumption)]; done) | (rw [dirCode_9 (by assumption) (by assumption) (by omega)]; done) | (rw [dirCode_0 (by assumption) (by assumption) (by omega)]; done), rfl⟩
 have hId4 := treeI b3
 refine FJ.skip (FJ.then_ (FJ.seq (FJ.seq (FJ.region ?_))))
 refine FJ.ql rfl (q_move rfl (.t (.s4 (.s (.s .z))))) (FJ.ql rfl (q_move rfl (.t (.s4 (.s4 .z)))) ?_)
 refine FJ.call (goes_list rfl) rfl (by decide) rfl (c_call rfl Tryz.func54 rfl rfl (args2 (.t (.s .z)) (.t .z))) .n (fun w1 S1 hs tr => c_54 (tr.ctxP h0) _) ?_
 rintro _ _ ⟨rfl, rfl⟩
 refine FJ.cat .n ?_
 refine FJ.ql rfl (q_not rfl (.t .z)) (FJ.nil (FJ.then_ ?_))
 refine FJ.condN (.t .z) (fun b5 => ?_) (fun b5 => ?_)
 refine FJ.seq (FJ.region (FJ.er (.s4 (.s4 (.s .z))) (FJ.ql rfl (q_assign rfl .c) (FJ.nil ?_))))
 refine FJ.then_ (FJ.ret (FJ.thenR ?_))
 refine FJ.doneS (res1 rfl .z) .n ?_
 exact ⟨by first | (rw [dirCode_f (by assumption)]; done) | (rw [dirCode_3 (by assumption) (by assumption)]; done) | (rw [dirCode_9 (by assumption) (by assumption) (by omega)]; done) | (rw [dirCode_0 (by assumption) (by assumption) (by omega)]; done), rfl⟩
 refine FJ.skip (FJ.then_ (FJ.seq (FJ.seq (FJ.region ?_))))
 refine FJ.ql rfl (q_move rfl (.t (.s4 (.s4 (.s (.s .z)))))) (FJ.ql rfl (q_nilCheck rfl (.t .z)) (FJ.ql rfl (q_fieldAddr rfl (.t .z) (fun _ => fa_26_0 _ _)) (FJ.ql rfl (q_load rfl ag_24 (.t .z) (WS.el hF0 hc0 rfl)) (FJ.ql rfl (q_move rfl (.t (.s4 (.s4 (.s4 (.s (.s (.s .z)))))))) ?_))))
 obtain ⟨ad6, hAad6, hrad6⟩ := he0_0 (by omega)
 subst hAad6
 obtain ⟨x7, hx7⟩ := get_ex (xs := f.inodes) (j := Int.toNat a) (by omega)
 obtain ⟨ece8, hre8, hFe8, hce8⟩ := hrad6.elem hx7
 obtain ⟨ue8_3, ue8_4, rfl, he8_3, he8_4⟩ := kT_66_ro hre8
 obtain ⟨Ae8_3, ce8_3, rfl, hle8_3, hme8_3, hbe8_3, hee8_3⟩ := ro_form he8_3
 obtain ⟨Ae8_4, ce8_4, rfl, hle8_4, hme8_4, hbe8_4, hee8_4⟩ := ro_form he8_4
 have kx7 := kind_at (i := a) hx7 (by omega)
 have nx7 := ents_at (a := a) hx7 (by omega)
 have iox7 := inodes_all hId4 _ (List.mem_of_getElem? hx7)
 refine FJ.ql rfl (q_indexAddr (j := Int.toNat a) rfl u_24 sz_66 (.t (.s .z)) (.t .z) (by omega) (by omega)) ?_
 refine FJ.ql rfl (q_fieldAddr rfl (.t .z) (fun _ => fa_66_0 _ _)) (FJ.ql rfl (q_load rfl ag_2 (.t .z) (WS.el hFe8 hce8 rfl)) (FJ.ql rfl (q_neq rfl (.t .z) .c) (FJ.nil (FJ.then_ ?_))))
 refine FJ.condN (.t .z) (fun b11 => ?_) (fun b11 => ?_)
 refine FJ.seq (FJ.region (FJ.er (.s16 (.s (.s .z))) (FJ.ql rfl (q_assign rfl .c) (FJ.nil ?_))))
 refine FJ.then_ (FJ.ret (FJ.thenR ?_))
 refine FJ.doneS (res1 rfl .z) .n ?_
 exact ⟨by first | (rw [dirCode_f (by assumption)]; done) | (rw [dirCode_3 (by assumption) (by assumption)]; done) | (rw [dirCode_9 (by assumption) (by assumption) (by omega)]; done) | (rw [dirCode_0 (by assumption) (by assumption) (by omega)]; done), rfl⟩
 refine FJ.skip (FJ.then_ (FJ.seq (FJ.region (FJ.er (.s16 (.s (.s .z))) ?_))))
 refine FJ.ql rfl (q_assign rfl .c) (FJ.nil (FJ.then_ (FJ.ret ?_)))
 refine FJ.doneS (res1 rfl .z) .n ?_
 exact ⟨by first | (rw [dirCode_f (by assumption)]; done) | (rw [dirCode_3 (by assumption) (by assumption)]; done) | (rw [dirCode_9 (by assumption) (by assumption) (by omega)]; done) | (rw [dirCode_0 (by assumption) (by assumption) (by omega)]; done), rfl⟩

set_option maxHeartbeats 1000000 in
set_option maxRecDepth 20000 in
theorem c_70 {w0 : World} {S0 : Bs} {f : DFs} {cs0 : List Value} (h0 : kT_26.ro w0 (FF w0 S0) f cs0) (a : Int) (s : ByteArray) (hz2 : s.size ≤ 140737488351232)  :
    Calls Tryz.prog 70 #[.agg cs0.toArray, .int .i64 a, .string s] w0 (TriPost w0 S0 (fun r l => r = .int .i64 (nameCode f a s) ∧ l = [])) := by
 obtain ⟨u0_0, u0_1, rfl, h0_0, h0_1⟩ := kT_26_ro h0
 obtain ⟨A0_0, c0_0, rfl, hl0_0, hm0_0, hb0_0, he0_0⟩ := ro_form h0_0
 obtain ⟨A0_1, c0_1, rfl, hl0_1, hm0_1, hb0_1, he0_1⟩ := ro_form h0_1
 refine FJ.enter (N := 16) Tryz.func70 rfl rfl (by simp) [(0, .agg #[.slice A0_0 f.inodes.length c0_0, .slice A0_1 f.data.length c0_1]), (1, .int .i64 a), (2, .string s)] (by simp) (l0 := []) trivial ?_
 refine FJ.seq (FJ.region ?_)
 refine FJ.e (goes_list rfl) rfl (by decide) rfl (e_box (cs := [.slice A0_0 f.inodes.length c0_0, .slice A0_1 f.data.length c0_1]) (n := 2) rfl (.t .z) rfl rfl) ?_
 rintro _ _ ⟨g3, rfl, rfl⟩
 refine FJ.ql rfl (q_assign rfl .c) (FJ.nil (FJ.then_ (FJ.seq (FJ.seq ?_))))
 refine FJ.region ?_
 refine FJ.ql rfl (q_loadA (cs := [.slice A0_0 f.inodes.length c0_0, .slice A0_1 f.data.length c0_1]) rfl ag_26 sz_26 (.t (.s .z)) (WS.rows0 .z (fun i u h => by exact h))) ?_
 refine FJ.ql rfl (q_move rfl (.t (.s4 .z))) ?_
 refine FJ.call (goes_list rfl) rfl (by decide) rfl (c_call rfl Tryz.func109 rfl rfl (args2 (.t (.s .z)) (.t .z))) .n (fun w1 S1 hs tr => c_109 (kT_26_mk f (tr.ctx h0_0) (tr.ctx h0_1)) _) ?_
 rintro _ _ ⟨rfl, rfl⟩
 refine FJ.cat .n ?_
 refine FJ.ql rfl (q_assign rfl (.t .z)) (FJ.nil (FJ.then_ (FJ.seq (FJ.region ?_))))
 refine FJ.ql rfl (q_move rfl (.t .z)) (FJ.ql rfl (q_neq rfl (.t .z) .c) (FJ.nil (FJ.then_ ?_)))
 refine FJ.condN (.t .z) (fun b4 => ?_) (fun b4 => ?_)
 refine FJ.seq (FJ.region (FJ.ql rfl (q_move rfl (.t (.s (.s .z)))) (FJ.er (.s4 (.s (.s (.s .z)))) (FJ.ql rfl (q_assign rfl (.t .z)) ?_))))
 refine FJ.nil (FJ.then_ (FJ.ret (FJ.thenR ?_)))
 refine FJ.doneS (res1 rfl .z) .n ?_
 exact ⟨by first | (rw [nameCode_f (by assumption)]; done) | (rw [nameCode_n (by assumption)]; done), rfl⟩
 have hdd5 := dirOk b4
 have hId5 := treeI hdd5.1
 obtain ⟨had5, hzd5⟩ := hdd5.2.1
 refine FJ.skip (FJ.then_ (FJ.seq (FJ.region (FJ.ql rfl (q_move rfl (.t (.s4 (.s4 (.s (.s .z)))))) ?_))))
 refine FJ.call (goes_list rfl) rfl (by decide) rfl (c_call rfl Tryz.func110 rfl rfl (args1 (.t .z))) .n (fun w1 S1 hs tr => c_110 _ (by first | assumption | omega)) ?_
 rintro _ _ ⟨rfl, rfl⟩
 refine FJ.cat .n ?_
 refine FJ.er (.s4 (.s4 .z)) (FJ.ql rfl (q_assign rfl (.t .z)) (FJ.nil (FJ.then_ (FJ.ret ?_))))
 refine FJ.doneS (res1 rfl .z) .n ?_
 exact ⟨by first | (rw [nameCode_f (by assumption)]; done) | (rw [nameCode_n (by assumption)]; done), rfl⟩

set_option maxHeartbeats 1000000 in
set_option maxRecDepth 20000 in
theorem c_65 {w0 : World} {S0 : Bs} {f : DFs} {ad0 : Addr} (h0 : PtrRo kT_26 w0 (FF w0 S0) ad0 f) (a : Int) (s : ByteArray) (hz2 : s.size ≤ 140737488351232)  :
    Calls Tryz.prog 65 #[.pointer (some ad0), .int .i64 a, .string s] w0 (TriPost w0 S0 (fun r l => r = .int .i64 (nameCode f a s) ∧ l = [])) := by
 obtain ⟨ec0, hF0, hr0, hc0⟩ := id h0
 obtain ⟨u0_0, u0_1, rfl, h0_0, h0_1⟩ := kT_26_ro hr0
 obtain ⟨A0_0, c0_0, rfl, hl0_0, hm0_0, hb0_0, he0_0⟩ := ro_form h0_0
 obtain ⟨A0_1, c0_1, rfl, hl0_1, hm0_1, hb0_1, he0_1⟩ := ro_form h0_1
 refine FJ.enter (N := 16) Tryz.func65 rfl rfl (by simp) [(0, .pointer (some ad0)), (1, .int .i64 a), (2, .string s)] (by simp) (l0 := []) trivial ?_
 refine FJ.seq (FJ.region (FJ.ql rfl (q_assign rfl .c) (FJ.nil (FJ.then_ ?_))))
 refine FJ.seq (FJ.seq (FJ.region (FJ.ql rfl (q_move rfl (.t (.s .z))) (FJ.ql rfl (q_move rfl (.t (.s (.s (.s .z))))) ?_))))
 refine FJ.call (goes_list rfl) rfl (by decide) rfl (c_call rfl Tryz.func105 rfl rfl (args2 (.t (.s .z)) (.t .z))) .n (fun w1 S1 hs tr => c_105 (tr.ctxP h0) _) ?_
 rintro _ _ ⟨rfl, rfl⟩
 refine FJ.cat .n ?_
 refine FJ.ql rfl (q_assign rfl (.t .z)) (FJ.nil (FJ.then_ (FJ.seq (FJ.region ?_))))
 refine FJ.ql rfl (q_move rfl (.t .z)) (FJ.ql rfl (q_neq rfl (.t .z) .c) (FJ.nil (FJ.then_ ?_)))
 refine FJ.condN (.t .z) (fun b3 => ?_) (fun b3 => ?_)
 refine FJ.seq (FJ.region (FJ.ql rfl (q_move rfl (.t (.s (.s .z)))) (FJ.er (.s4 (.s (.s (.s .z)))) (FJ.ql rfl (q_assign rfl (.t .z)) ?_))))
 refine FJ.nil (FJ.then_ (FJ.ret (FJ.thenR ?_)))
 refine FJ.doneS (res1 rfl .z) .n ?_
 exact ⟨by first | (rw [nameCode_f (by assumption)]; done) | (rw [nameCode_n (by assumption)]; done), rfl⟩
 have hdd4 := dirOk b3
 have hId4 := treeI hdd4.1
 obtain ⟨had4, hzd4⟩ := hdd4.2.1
 refine FJ.skip (FJ.then_ (FJ.seq (FJ.region (FJ.ql rfl (q_move rfl (.t (.s4 (.s4 (.s .z))))) ?_))))
 refine FJ.call (goes_list rfl) rfl (by decide) rfl (c_call rfl Tryz.func106 rfl rfl (args1 (.t .z))) .n (fun w1 S1 hs tr => c_106 _ (by first | assumption | omega)) ?_
 rintro _ _ ⟨rfl, rfl⟩
 refine FJ.cat .n ?_
 refine FJ.er (.s4 (.s4 .z)) (FJ.ql rfl (q_assign rfl (.t .z)) (FJ.nil (FJ.then_ (FJ.ret ?_))))
 refine FJ.doneS (res1 rfl .z) .n ?_
 exact ⟨by first | (rw [nameCode_f (by assumption)]; done) | (rw [nameCode_n (by assumption)]; done), rfl⟩

set_option maxHeartbeats 1000000 in
set_option maxRecDepth 20000 in
theorem c_72 {w0 : World} {S0 : Bs} {f : DFs} {ad0 : Addr} (h0 : PtrRo kT_26 w0 (FF w0 S0) ad0 f) (a : Int) (s : ByteArray) (hz2 : s.size ≤ 140737488351232) (hp : placeIn f.inodes.length a) :
    Calls Tryz.prog 72 #[.pointer (some ad0), .int .i64 a, .string s] w0 (TriPost w0 S0 (fun r l => r = .int .i64 (lookI (entsAt f.inodes a) s) ∧ l = [])) := by
 obtain ⟨ec0, hF0, hr0, hc0⟩ := id h0
 obtain ⟨u0_0, u0_1, rfl, h0_0, h0_1⟩ := kT_26_ro hr0
 obtain ⟨A0_0, c0_0, rfl, hl0_0, hm0_0, hb0_0, he0_0⟩ := ro_form h0_0
 obtain ⟨A0_1, c0_1, rfl, hl0_1, hm0_1, hb0_1, he0_1⟩ := ro_form h0_1
 obtain ⟨hp1, hp2⟩ := hp
 refine FJ.enter (N := 29) Tryz.func72 rfl rfl (by simp) [(0, .pointer (some ad0)), (1, .int .i64 a), (2, .string s)] (by simp) (l0 := []) trivial ?_
 refine FJ.seq (FJ.region (FJ.ql rfl (q_assign rfl .c) (FJ.nil (FJ.then_ ?_))))
 refine FJ.seq (FJ.seq (FJ.region (FJ.ql rfl (q_move rfl (.t (.s .z))) (FJ.ql rfl (q_nilCheck rfl (.t .z)) ?_))))
 refine FJ.ql rfl (q_fieldAddr rfl (.t .z) (fun _ => fa_26_0 _ _)) (FJ.ql rfl (q_load rfl ag_24 (.t .z) (WS.el hF0 hc0 rfl)) (FJ.ql rfl (q_move rfl (.t (.s4 (.s (.s .z))))) ?_))
 obtain ⟨ad3, hAad3, hrad3⟩ := he0_0 (by omega)
 subst hAad3
 obtain ⟨x4, hx4⟩ := get_ex (xs := f.inodes) (j := Int.toNat a) (by omega)
 obtain ⟨ece5, hre5, hFe5, hce5⟩ := hrad3.elem hx4
 obtain ⟨ue5_3, ue5_4, rfl, he5_3, he5_4⟩ := kT_66_ro hre5
 obtain ⟨Ae5_3, ce5_3, rfl, hle5_3, hme5_3, hbe5_3, hee5_3⟩ := ro_form he5_3
 obtain ⟨Ae5_4, ce5_4, rfl, hle5_4, hme5_4, hbe5_4, hee5_4⟩ := ro_form he5_4
 have kx4 := kind_at (i := a) hx4 (by omega)
 have nx4 := ents_at (a := a) hx4 (by omega)
 refine FJ.ql rfl (q_indexAddr (j := Int.toNat a) rfl u_24 sz_66 (.t (.s .z)) (.t .z) (by omega) (by omega)) ?_
 refine FJ.ql rfl (q_fieldAddr rfl (.t .z) (fun _ => fa_66_4 _ _)) (FJ.ql rfl (q_load rfl ag_64 (.t .z) (WS.el hFe5 hce5 rfl)) (FJ.ql rfl (q_len rfl u_64 (.t .z)) (FJ.ql rfl (q_move rfl .c) (FJ.nil ?_))))
 refine FJ.then_ (FJ.block ?_)
 refine FJ.loopi (γ := Nat) (fun k => [(18, .int .i64 (k : Int)), (17, .int .i64 (x4.ents.length : Int)), (16, .slice Ae5_4 x4.ents.length ce5_4), (2, .string s)]) (fun k => []) (fun k => k ≤ x4.ents.length ∧ ∀ j e, j < k → x4.ents[j]? = some e → ¬ e.name = s) (fun k => x4.ents.length - k) 0 ⟨Nat.zero_le _, all_zero (q := fun _ e => ¬ DEnt.name e = s)⟩ (.c .z (.c (.s .z) (.c (.s (.s .z)) (.c (.s4 (.s4 (.s4 (.s .z)))) .n)))) (fun _ h => h) ?_
 rintro k ⟨hk, hallk⟩
 refine FJ.seq (FJ.region (FJ.ql rfl (q_lss rfl (.t .z) (.t (.s .z))) (FJ.nil (FJ.then_ ?_))))
 refine FJ.seq ?_
 refine FJ.condP (.t .z) (fun b8 => ?_) (fun b8 => ?_)
 refine FJ.skip (FJ.then_ (FJ.seq (FJ.block (FJ.seq ?_))))
 refine FJ.region ?_
 obtain ⟨ad9, hAad9, hrad9⟩ := hee5_4 (by omega)
 subst hAad9
 obtain ⟨x10, hx10⟩ := get_ex (xs := x4.ents) (j := k) (by omega)
 obtain ⟨ece11, hre11, hFe11, hce11⟩ := hrad9.elem hx10
 obtain ⟨rfl, se11_0⟩ := kT_68_ro hre11
 refine FJ.ql rfl (q_indexAddr (j := k) rfl u_64 sz_68 (.t (.s (.s (.s .z)))) (.t (.s .z)) rfl (by omega)) ?_
 refine FJ.ql rfl (q_loadA (cs := [.string x10.name, .int .i64 x10.ino]) rfl ag_68 sz_68 (.t .z) (WS.els hFe11 hce11)) ?_
 refine FJ.e (goes_list rfl) rfl (by decide) rfl (e_alloc rfl z_68 rfl rfl) ?_
 rintro _ _ ⟨g12, rfl, rfl⟩
 refine FJ.es (goes_list rfl) rfl (es_store (off := 0) (cs := [.string x10.name, .int .i64 x10.ino]) rfl sz_68 (.t .z) (.t (.s .z)) rfl (ones rfl) .z (Nat.le_of_ble_eq_true rfl) (.c .z (.c (.s .z) .n))) ?_
 refine FJ.nil (FJ.then_ (FJ.seq (FJ.region (FJ.ql rfl (q_fieldAddr rfl (.t .z) (fun _ => fa_68_0 _ _)) ?_))))
 refine FJ.ql rfl (q_load rfl ag_9 (.t .z) (WS.row .z rfl)) (FJ.ql rfl (q_move rfl (.t (.s4 (.s4 (.s .z))))) (FJ.ql rfl (q_seql rfl (.t (.s .z)) (.t .z)) (FJ.nil (FJ.then_ ?_))))
 refine FJ.condP (.t .z) (fun b13 => ?_) (fun b13 => ?_)
 refine FJ.seq (FJ.region (FJ.ql rfl (q_fieldAddr rfl (.t (.s4 .z)) (fun _ => fa_68_1 _ _)) (FJ.ql rfl (q_load rfl ag_2 (.t .z) (WS.row .z rfl)) (FJ.ql rfl (q_assign rfl (.t .z)) ?_))))
 refine FJ.nil (FJ.then_ (FJ.ret (FJ.inBR (FJ.thenR ?_))))
 refine FJ.thenR (FJ.inBR (FJ.thenR ?_))
 refine FJ.doneS (res1 rfl .z) .n ?_
 exact ⟨by rw [nx4, lookI_hit hx10 (by assumption) hallk], rfl⟩
 refine FJ.skip (FJ.inBN (FJ.then_ (FJ.region ?_)))
 refine FJ.ql rfl (q_add (c := ((k + 1 : Nat) : Int)) rfl (.t (.s4 (.s4 .z))) .c (wr (by omega) (by omega) (by omega))) ?_
 refine FJ.er (.s4 (.s4 (.s .z))) (FJ.ql rfl (q_move rfl (.t .z)) (FJ.nil ?_))
 refine FJ.again (k + 1) ⟨by omega, all_succ (q := fun _ e => ¬ DEnt.name e = s) hallk hx10 (by assumption)⟩ (by first | omega | (dsimp only; omega)) (.c .z (.c (.s4 (.s4 (.s (.s .z)))) (.c (.s4 (.s4 (.s (.s (.s .z))))) (.c (.s4 (.s4 (.s4 .z))) .n)))) (fun _ h => h.sel .n)
 refine FJ.exit (FJ.thenE (FJ.thenE (FJ.inB (FJ.then_ ?_))))
 refine FJ.seq (FJ.region (FJ.ql rfl (q_assign rfl .c) (FJ.nil (FJ.then_ ?_))))
 refine FJ.ret ?_
 refine FJ.doneS (res1 rfl .z) .n ?_
 exact ⟨by rw [nx4, lookI_no (k := k) (by omega) hallk], rfl⟩

set_option maxHeartbeats 1000000 in
set_option maxRecDepth 20000 in
theorem c_66 {w0 : World} {S0 : Bs} {es : (List DEnt)} {v0 : Value} (h0 : kSl_68.ro w0 (FF w0 S0) es [v0]) (s : ByteArray) (hz1 : s.size ≤ 140737488351232)  :
    Calls Tryz.prog 66 #[v0, .string s] w0 (TriPost w0 S0 (fun r l => r = .int .i64 (idxF (nameP s) es) ∧ l = [])) := by
 obtain ⟨A0, c0, rfl, hl0, hm0, hb0, he0⟩ := ro_form h0
 refine FJ.enter (N := 20) Tryz.func66 rfl rfl (by simp) [(0, .slice A0 es.length c0), (1, .string s)] (by simp) (l0 := []) trivial ?_
 refine FJ.seq (FJ.region (FJ.ql rfl (q_assign rfl .c) (FJ.nil (FJ.then_ ?_))))
 refine FJ.seq (FJ.seq (FJ.region (FJ.ql rfl (q_assign rfl .c) (FJ.nil ?_))))
 refine FJ.then_ (FJ.block ?_)
 refine FJ.loopi (γ := Nat) (fun k => [(5, .int .i64 (k : Int)), (0, .slice A0 es.length c0), (1, .string s)]) (fun k => []) (fun k => k ≤ es.length ∧ ∀ j e, j < k → es[j]? = some e → nameP s e = false) (fun k => es.length - k) 0 ⟨Nat.zero_le _, all_zero (q := fun _ e => nameP s e = false)⟩ (.c .z (.c (.s (.s .z)) (.c (.s (.s (.s .z))) .n))) (fun _ h => h) ?_
 rintro k ⟨hk, hallk⟩
 refine FJ.seq (FJ.seq (FJ.region (FJ.ql rfl (q_move rfl (.t .z)) (FJ.ql rfl (q_move rfl (.t (.s (.s .z)))) ?_))))
 refine FJ.ql rfl (q_len rfl u_64 (.t .z)) (FJ.ql rfl (q_lss rfl (.t (.s (.s .z))) (.t .z)) (FJ.nil (FJ.then_ ?_)))
 refine FJ.condP (.t .z) (fun b2 => ?_) (fun b2 => ?_)
 refine FJ.skip (FJ.then_ (FJ.seq (FJ.block (FJ.seq ?_))))
 refine FJ.region (FJ.ql rfl (q_move rfl (.t (.s4 (.s .z)))) (FJ.ql rfl (q_move rfl (.t (.s4 (.s .z)))) ?_))
 obtain ⟨ad3, hAad3, hrad3⟩ := he0 (by omega)
 subst hAad3
 obtain ⟨x4, hx4⟩ := get_ex (xs := es) (j := k) (by omega)
 obtain ⟨ece5, hre5, hFe5, hce5⟩ := hrad3.elem hx4
 obtain ⟨rfl, se5_0⟩ := kT_68_ro hre5
 refine FJ.ql rfl (q_indexAddr (j := k) rfl u_64 sz_68 (.t (.s .z)) (.t .z) rfl (by omega)) ?_
 refine FJ.ql rfl (q_fieldAddr rfl (.t .z) (fun _ => fa_68_0 _ _)) (FJ.ql rfl (q_load rfl ag_9 (.t .z) (WS.el hFe5 hce5 rfl)) (FJ.ql rfl (q_move rfl (.t (.s4 (.s4 (.s (.s (.s .z))))))) (FJ.ql rfl (q_seql rfl (.t (.s .z)) (.t .z)) (FJ.nil ?_))))
 refine FJ.then_ ?_
 refine FJ.condP (.t .z) (fun b6 => ?_) (fun b6 => ?_)
 refine FJ.seq (FJ.region (FJ.ql rfl (q_move rfl (.t (.s4 (.s4 (.s (.s (.s .z))))))) (FJ.ql rfl (q_assign rfl (.t .z)) (FJ.nil ?_))))
 refine FJ.then_ (FJ.ret (FJ.inBR (FJ.thenR (FJ.thenR ?_))))
 refine FJ.inBR (FJ.thenR ?_)
 refine FJ.doneS (res1 rfl .z) .n ?_
 exact ⟨by rw [idxF_some hx4 (decide_eq_true (by assumption)) hallk], rfl⟩
 refine FJ.skip (FJ.inBN (FJ.then_ (FJ.region (FJ.ql rfl (q_move rfl (.t (.s4 (.s4 (.s (.s (.s .z))))))) ?_))))
 refine FJ.ql rfl (q_add (c := ((k + 1 : Nat) : Int)) rfl (.t .z) .c (wr (by omega) (by omega) (by omega))) ?_
 refine FJ.er (.s4 (.s4 (.s4 (.s .z)))) (FJ.ql rfl (q_assign rfl (.t .z)) (FJ.nil ?_))
 refine FJ.again (k + 1) ⟨by omega, all_succ (q := fun _ e => nameP s e = false) hallk hx4 (decide_eq_false (by assumption))⟩ (by first | omega | (dsimp only; omega)) (.c .z (.c (.s4 (.s4 (.s4 (.s (.s .z))))) (.c (.s4 (.s4 (.s4 (.s (.s (.s .z)))))) .n))) (fun _ h => h)
 refine FJ.exit (FJ.thenE (FJ.thenE (FJ.inB (FJ.then_ ?_))))
 refine FJ.seq (FJ.region (FJ.ql rfl (q_assign rfl .c) (FJ.nil (FJ.then_ ?_))))
 refine FJ.ret ?_
 refine FJ.doneS (res1 rfl .z) .n ?_
 exact ⟨by rw [idxF_none (fun j x hx => hallk j x (by have := (List.getElem?_eq_some_iff.1 hx).1; omega) hx)], rfl⟩

end Go.Proofs.YtbcdcakcmdcafaaGreat

/- What is proved: contracts of functions, one a function. No condition. -/
import Derived.Test.YtkmcpcahbfdohaaW1
import Derived.Test.YtkmcpcahbfdohaaW4
namespace Go.Proofs.Ytkmcpcahbfdohaa
open Go Go.RowKit
set_option linter.unusedVariables false
set_option linter.unusedSimpArgs false
set_option maxHeartbeats 1000000 in
set_option maxRecDepth 20000 in
theorem c_78 {w0 : World} {S0 : Bs} (n : Int) (hn : 0 ≤ n ∧ n ≤ 60) :
    Calls Try.prog 78 #[.int .i64 n] w0 (TriPost w0 S0 (RA_25 ⟨List.replicate n.toNat [], []⟩)) := by
 refine FJ.enter (N := 6) Try.func78 rfl rfl (by simp) [(0, .int .i64 n)] (by simp) (l0 := []) trivial ?_
 refine FJ.seq (FJ.region ?_)
 refine FJ.e (goes_list rfl) rfl (by decide) rfl (e_alloc rfl z_25 rfl rfl) ?_
 rintro _ _ ⟨g1, rfl, rfl⟩
 refine FJ.nil (FJ.then_ (FJ.seq (FJ.region (FJ.ql rfl (q_move rfl (.t (.s .z))) ?_))))
 refine FJ.eq .z (congrArg (Value.int .i64) (show n = ((Int.toNat n : Nat) : Int) by omega)) ?_
 refine FJ.e (goes_list rfl) rfl (by decide) rfl (e_makeSlice (n := Int.toNat n) (x0 := ([] : (List Int))) rfl u_22 inf_40 rfl (fun w S => own_nil w S none) (.t .z) (.t .z) (by omega) (by omega)) ?_
 rintro _ _ rfl
 refine FJ.know (WS.oform .z) ?_
 rintro ⟨Ao3, co3, rfl, hlo3, hmo3, hbo3⟩
 refine FJ.ql rfl (q_build (ps := [(0, .slice Ao3 (List.replicate (Int.toNat n) ([] : (List Int))).length co3)]) (cs := [.slice Ao3 (List.replicate (Int.toNat n) ([] : (List Int))).length co3, .slice none 0 0]) rfl bl_25 (by intro act hact; simp only [List.map_toArray, List.map_cons, List.map_nil, (show Val _ _ _ from (.t .z)) act hact]) rfl) ?_
 refine FJ.es (goes_list rfl) rfl (es_store (off := 0) (cs := [.slice Ao3 (List.replicate (Int.toNat n) ([] : (List Int))).length co3, .slice none 0 0]) rfl sz_25 (.t (.s (.s (.s .z)))) (.t .z) rfl (ones rfl) (.s .z) (Nat.le_of_ble_eq_true rfl) (.c .z (.c (.s .z) .n))) ?_
 refine FJ.nil (FJ.then_ (FJ.ret ?_))
 refine FJ.add (c := ownA kSl_57 [] [.slice none 0 0]) (fun w S => own_nil w S none) ?_
 refine FJ.doneS (resC (cs := [.slice Ao3 (List.replicate (Int.toNat n) ([] : (List Int))).length co3, .slice none 0 0]) rfl (.s (.s (.s .z))) ag_25 sz_25 (WS.rows0 (cs := [.slice Ao3 (List.replicate (Int.toNat n) ([] : (List Int))).length co3, .slice none 0 0]) (.s .z) (fun _ _ h => h))) (.c (.s (.s .z)) (.c .z .n)) ?_
 skip
 exact ⟨_, _, rfl, rfl⟩

set_option maxHeartbeats 1000000 in
set_option maxRecDepth 20000 in
theorem c_20 {w0 : World} {S0 : Bs} (n : Int)  :
    Calls Try.prog 20 #[.int .i64 n] w0 (TriPost w0 S0 (RA_27 (newDisk n))) := by
 refine FJ.enter (N := 10) Try.func20 rfl rfl (by simp) [(0, .int .i64 n)] (by simp) (l0 := []) trivial ?_
 refine FJ.seq (FJ.region ?_)
 refine FJ.e (goes_list rfl) rfl (by decide) rfl (e_alloc rfl z_27 rfl rfl) ?_
 rintro _ _ ⟨g1, rfl, rfl⟩
 refine FJ.nil (FJ.then_ (FJ.seq (FJ.seq (FJ.region ?_))))
 refine FJ.ql rfl (q_move rfl (.t (.s .z))) ?_
 refine FJ.call (goes_list rfl) rfl (by decide) rfl (c_call rfl Try.func77 rfl rfl (args3 (.t .z) .c .c)) .n (fun w1 S1 hs tr => c_77 _ _ _) ?_
 rintro _ _ ⟨rfl, rfl⟩
 refine FJ.cat .n ?_
 refine FJ.ql rfl (q_not rfl (.t .z)) (FJ.nil (FJ.then_ ?_))
 refine FJ.condN (.t .z) (fun b2 => ?_) (fun b2 => ?_)
 refine FJ.seq (FJ.region ?_)
 refine FJ.ql rfl (q_build (ps := [(0, .int .i64 3)]) (cs := [.int .i64 3, .slice none 0 0, .slice none 0 0]) rfl bl_27 (by intro act hact; simp only [List.map_toArray, List.map_cons, List.map_nil, (show Val _ _ _ from .c) act hact]) rfl) ?_
 refine FJ.es (goes_list rfl) rfl (es_store (off := 0) (cs := [.int .i64 3, .slice none 0 0, .slice none 0 0]) rfl sz_27 (.t (.s4 .z)) (.t .z) rfl (ones rfl) .z (Nat.le_of_ble_eq_true rfl) (.c .z (.c (.s .z) (.c (.s (.s .z)) .n)))) ?_
 refine FJ.nil (FJ.then_ (FJ.ret (FJ.thenR ?_)))
 refine FJ.add (c := ownA kSl_40 [] [.slice none 0 0]) (fun w S => own_nil w S none) ?_
 refine FJ.add (c := ownA kSl_57 [] [.slice none 0 0]) (fun w S => own_nil w S none) ?_
 refine FJ.doneS (resC (cs := [.int .i64 3, .slice none 0 0, .slice none 0 0]) rfl (.s4 .z) ag_27 sz_27 (WS.rows0 (cs := [.int .i64 3, .slice none 0 0, .slice none 0 0]) (.s (.s .z)) (fun _ _ h => h))) (.c (.s .z) (.c .z .n)) ?_
 rw [newDisk_no (by assumption)]
 exact ⟨_, _, rfl, rfl⟩
 refine FJ.skip (FJ.then_ (FJ.seq (FJ.region (FJ.ql rfl (q_move rfl (.t (.s4 .z))) ?_))))
 refine FJ.call (goes_list rfl) rfl (by decide) rfl (c_call rfl Try.func78 rfl rfl (args1 (.t .z))) .n (fun w1 S1 hs tr => c_78 _ (by assumption)) ?_
 rintro _ _ ⟨v5, v7, rfl, rfl⟩
 refine FJ.cat (.c (.c .n)) ?_
 refine FJ.know (WS.oform .z) ?_
 rintro ⟨Ao9, co9, rfl, hlo9, hmo9, hbo9⟩
 refine FJ.know (WS.oform (.s .z)) ?_
 rintro ⟨Ao10, co10, rfl, hlo10, hmo10, hbo10⟩
 refine FJ.ql rfl (q_build (ps := [(1, .agg #[.slice Ao9 ((⟨List.replicate (Int.toNat n) [], []⟩ : DDisk).blocks).length co9, .slice Ao10 ((⟨List.replicate (Int.toNat n) [], []⟩ : DDisk).cache).length co10])]) (cs := [.int .i64 0, .slice Ao9 ((⟨List.replicate (Int.toNat n) [], []⟩ : DDisk).blocks).length co9, .slice Ao10 ((⟨List.replicate (Int.toNat n) [], []⟩ : DDisk).cache).length co10]) rfl bl_27 (by intro act hact; simp only [List.map_toArray, List.map_cons, List.map_nil, (show Val _ _ _ from (.t .z)) act hact]) rfl) ?_
 refine FJ.es (goes_list rfl) rfl (es_store (off := 0) (cs := [.int .i64 0, .slice Ao9 ((⟨List.replicate (Int.toNat n) [], []⟩ : DDisk).blocks).length co9, .slice Ao10 ((⟨List.replicate (Int.toNat n) [], []⟩ : DDisk).cache).length co10]) rfl sz_27 (.t (.s4 (.s (.s .z)))) (.t .z) rfl (ones rfl) (.s (.s .z)) (Nat.le_of_ble_eq_true rfl) (.c .z (.c (.s .z) (.c (.s (.s .z)) .n)))) ?_
 refine FJ.nil (FJ.then_ (FJ.ret ?_))
 refine FJ.doneS (resC (cs := [.int .i64 0, .slice Ao9 ((⟨List.replicate (Int.toNat n) [], []⟩ : DDisk).blocks).length co9, .slice Ao10 ((⟨List.replicate (Int.toNat n) [], []⟩ : DDisk).cache).length co10]) rfl (.s4 (.s (.s .z))) ag_27 sz_27 (WS.rows0 (cs := [.int .i64 0, .slice Ao9 ((⟨List.replicate (Int.toNat n) [], []⟩ : DDisk).blocks).length co9, .slice Ao10 ((⟨List.replicate (Int.toNat n) [], []⟩ : DDisk).cache).length co10]) .z (fun _ _ h => h))) (.c (.s .z) (.c (.s .z) .n)) ?_
 rw [newDisk_ok (by assumption)]
 exact ⟨_, _, rfl, rfl⟩

set_option maxHeartbeats 1000000 in
set_option maxRecDepth 20000 in
theorem c_21 {w0 : World} {S0 : Bs} (n : Int)  :
    Calls Try.prog 21 #[.int .i64 n] w0 (TriPost w0 S0 (RA_27 (newDisk n))) := by
 refine FJ.enter (N := 11) Try.func21 rfl rfl (by simp) [(0, .int .i64 n)] (by simp) (l0 := []) trivial ?_
 refine FJ.seq (FJ.region ?_)
 refine FJ.e (goes_list rfl) rfl (by decide) rfl (e_alloc rfl z_27 rfl rfl) ?_
 rintro _ _ ⟨g1, rfl, rfl⟩
 refine FJ.nil (FJ.then_ (FJ.seq (FJ.seq (FJ.region ?_))))
 refine FJ.ql rfl (q_move rfl (.t (.s .z))) ?_
 refine FJ.call (goes_list rfl) rfl (by decide) rfl (c_call rfl Try.func79 rfl rfl (args3 (.t .z) .c .c)) .n (fun w1 S1 hs tr => c_79 _ _ _) ?_
 rintro _ _ ⟨rfl, rfl⟩
 refine FJ.cat .n ?_
 refine FJ.ql rfl (q_not rfl (.t .z)) (FJ.nil (FJ.then_ ?_))
 refine FJ.condN (.t .z) (fun b2 => ?_) (fun b2 => ?_)
 refine FJ.seq (FJ.region ?_)
 refine FJ.ql rfl (q_build (ps := [(0, .int .i64 3)]) (cs := [.int .i64 3, .slice none 0 0, .slice none 0 0]) rfl bl_27 (by intro act hact; simp only [List.map_toArray, List.map_cons, List.map_nil, (show Val _ _ _ from .c) act hact]) rfl) ?_
 refine FJ.es (goes_list rfl) rfl (es_store (off := 0) (cs := [.int .i64 3, .slice none 0 0, .slice none 0 0]) rfl sz_27 (.t (.s4 .z)) (.t .z) rfl (ones rfl) .z (Nat.le_of_ble_eq_true rfl) (.c .z (.c (.s .z) (.c (.s (.s .z)) .n)))) ?_
 refine FJ.nil (FJ.then_ (FJ.ret (FJ.thenR ?_)))
 refine FJ.add (c := ownA kSl_40 [] [.slice none 0 0]) (fun w S => own_nil w S none) ?_
 refine FJ.add (c := ownA kSl_57 [] [.slice none 0 0]) (fun w S => own_nil w S none) ?_
 refine FJ.doneS (resC (cs := [.int .i64 3, .slice none 0 0, .slice none 0 0]) rfl (.s4 .z) ag_27 sz_27 (WS.rows0 (cs := [.int .i64 3, .slice none 0 0, .slice none 0 0]) (.s (.s .z)) (fun _ _ h => h))) (.c (.s .z) (.c .z .n)) ?_
 rw [newDisk_no (by assumption)]
 exact ⟨_, _, rfl, rfl⟩
 refine FJ.skip (FJ.then_ (FJ.seq (FJ.region (FJ.ql rfl (q_move rfl (.t (.s4 .z))) ?_))))
 refine FJ.eq .z (congrArg (Value.int .i64) (show n = ((Int.toNat n : Nat) : Int) by omega)) ?_
 refine FJ.e (goes_list rfl) rfl (by decide) rfl (e_makeSlice (n := Int.toNat n) (x0 := ([] : (List Int))) rfl u_22 inf_40 rfl (fun w S => own_nil w S none) (.t .z) (.t .z) (by omega) (by omega)) ?_
 rintro _ _ rfl
 refine FJ.know (WS.oform .z) ?_
 rintro ⟨Ao6, co6, rfl, hlo6, hmo6, hbo6⟩
 refine FJ.ql rfl (q_build (ps := [(0, .slice Ao6 (List.replicate (Int.toNat n) ([] : (List Int))).length co6)]) (cs := [.slice Ao6 (List.replicate (Int.toNat n) ([] : (List Int))).length co6, .slice none 0 0]) rfl bl_25 (by intro act hact; simp only [List.map_toArray, List.map_cons, List.map_nil, (show Val _ _ _ from (.t .z)) act hact]) rfl) ?_
 refine FJ.ql rfl (q_build (ps := [(1, .agg #[.slice Ao6 (List.replicate (Int.toNat n) ([] : (List Int))).length co6, .slice none 0 0])]) (cs := [.int .i64 0, .slice Ao6 (List.replicate (Int.toNat n) ([] : (List Int))).length co6, .slice none 0 0]) rfl bl_27 (by intro act hact; simp only [List.map_toArray, List.map_cons, List.map_nil, (show Val _ _ _ from (.t .z)) act hact]) rfl) ?_
 refine FJ.es (goes_list rfl) rfl (es_store (off := 0) (cs := [.int .i64 0, .slice Ao6 (List.replicate (Int.toNat n) ([] : (List Int))).length co6, .slice none 0 0]) rfl sz_27 (.t (.s4 (.s (.s (.s .z))))) (.t .z) rfl (ones rfl) (.s .z) (Nat.le_of_ble_eq_true rfl) (.c .z (.c (.s .z) (.c (.s (.s .z)) .n)))) ?_
 refine FJ.nil (FJ.then_ (FJ.ret ?_))
 refine FJ.add (c := ownA kSl_57 [] [.slice none 0 0]) (fun w S => own_nil w S none) ?_
 refine FJ.doneS (resC (cs := [.int .i64 0, .slice Ao6 (List.replicate (Int.toNat n) ([] : (List Int))).length co6, .slice none 0 0]) rfl (.s4 (.s (.s (.s .z)))) ag_27 sz_27 (WS.rows0 (cs := [.int .i64 0, .slice Ao6 (List.replicate (Int.toNat n) ([] : (List Int))).length co6, .slice none 0 0]) (.s .z) (fun _ _ h => h))) (.c (.s (.s .z)) (.c .z .n)) ?_
 rw [newDisk_ok (by assumption)]
 exact ⟨_, _, rfl, rfl⟩

set_option maxHeartbeats 1000000 in
set_option maxRecDepth 20000 in
theorem c_22 {w0 : World} {S0 : Bs} {x : RDisk} {cs0 : List Value} (h0 : kT_27.ro w0 (FF w0 S0) x cs0) {y : RDisk} {cs1 : List Value} (h1 : kT_27.ro w0 (FF w0 S0) y cs1)  :
    Calls Try.prog 22 #[.agg cs0.toArray, .agg cs1.toArray] w0 (TriPost w0 S0 (fun r l => r = .bool (decide (x = y)) ∧ l = [])) := by
 obtain ⟨u0_1, u0_2, rfl, h0_1, h0_2⟩ := kT_27_ro h0
 obtain ⟨A0_1, c0_1, rfl, hl0_1, hm0_1, hb0_1, he0_1⟩ := ro_form h0_1
 obtain ⟨A0_2, c0_2, rfl, hl0_2, hm0_2, hb0_2, he0_2⟩ := ro_form h0_2
 obtain ⟨u1_1, u1_2, rfl, h1_1, h1_2⟩ := kT_27_ro h1
 obtain ⟨A1_1, c1_1, rfl, hl1_1, hm1_1, hb1_1, he1_1⟩ := ro_form h1_1
 obtain ⟨A1_2, c1_2, rfl, hl1_2, hm1_2, hb1_2, he1_2⟩ := ro_form h1_2
 refine FJ.enter (N := 16) Try.func22 rfl rfl (by simp) [(0, .agg #[.int .i64 x.code, .slice A0_1 x.disk.blocks.length c0_1, .slice A0_2 x.disk.cache.length c0_2]), (1, .agg #[.int .i64 y.code, .slice A1_1 y.disk.blocks.length c1_1, .slice A1_2 y.disk.cache.length c1_2])] (by simp) (l0 := []) trivial ?_
 refine FJ.seq (FJ.region ?_)
 refine FJ.e (goes_list rfl) rfl (by decide) rfl (e_box (cs := [.int .i64 x.code, .slice A0_1 x.disk.blocks.length c0_1, .slice A0_2 x.disk.cache.length c0_2]) (n := 3) rfl (.t .z) rfl rfl) ?_
 rintro _ _ ⟨g5, rfl, rfl⟩
 refine FJ.e (goes_list rfl) rfl (by decide) rfl (e_box (cs := [.int .i64 y.code, .slice A1_1 y.disk.blocks.length c1_1, .slice A1_2 y.disk.cache.length c1_2]) (n := 3) rfl (.t (.s (.s .z))) rfl rfl) ?_
 rintro _ _ ⟨g6, rfl, rfl⟩
 refine FJ.ql rfl (q_assign rfl .c) (FJ.nil (FJ.then_ (FJ.seq (FJ.seq ?_))))
 refine FJ.region (FJ.ql rfl (q_fieldAddr rfl (.t (.s (.s .z))) (fun _ => fa_27_0 _ _)) (FJ.ql rfl (q_load rfl ag_2 (.t .z) (WS.row (.s .z) rfl)) (FJ.ql rfl (q_fieldAddr rfl (.t (.s (.s (.s .z)))) (fun _ => fa_27_0 _ _)) (FJ.ql rfl (q_load rfl ag_2 (.t .z) (WS.row .z rfl)) ?_))))
 refine FJ.ql rfl (q_neq rfl (.t (.s (.s .z))) (.t .z)) (FJ.nil (FJ.then_ ?_))
 refine FJ.condN (.t .z) (fun b7 => ?_) (fun b7 => ?_)
 refine FJ.seq (FJ.region (FJ.er (.s4 (.s .z)) (FJ.ql rfl (q_assign rfl .c) (FJ.nil ?_))))
 refine FJ.then_ (FJ.ret (FJ.thenR ?_))
 refine FJ.doneS (res1 rfl .z) .n ?_
 exact ⟨by rw [decide_eq_false]; rintro rfl; simp_all, rfl⟩
 refine FJ.skip (FJ.then_ (FJ.seq (FJ.seq (FJ.region ?_))))
 refine FJ.ql rfl (q_fieldAddr rfl (.t (.s4 (.s (.s (.s .z))))) (fun _ => fa_27_1 _ _)) (FJ.ql rfl (q_loadA (cs := [.slice A0_1 x.disk.blocks.length c0_1, .slice A0_2 x.disk.cache.length c0_2]) rfl ag_25 sz_25 (.t .z) (WS.rows (.s .z) (sub_at rfl))) (FJ.ql rfl (q_fieldAddr rfl (.t (.s4 (.s4 .z))) (fun _ => fa_27_1 _ _)) (FJ.ql rfl (q_loadA (cs := [.slice A1_1 y.disk.blocks.length c1_1, .slice A1_2 y.disk.cache.length c1_2]) rfl ag_25 sz_25 (.t .z) (WS.rows .z (sub_at rfl))) ?_)))
 refine FJ.call (goes_list rfl) rfl (by decide) rfl (c_call rfl Try.func29 rfl rfl (args2 (.t (.s (.s .z))) (.t .z))) .n (fun w1 S1 hs tr => c_29 (kT_25_mk x.disk (tr.ctx h0_1) (tr.ctx h0_2)) (kT_25_mk y.disk (tr.ctx h1_1) (tr.ctx h1_2))) ?_
 rintro _ _ ⟨rfl, rfl⟩
 refine FJ.cat .n ?_
 refine FJ.ql rfl (q_not rfl (.t .z)) (FJ.nil (FJ.then_ ?_))
 refine FJ.condN (.t .z) (fun b8 => ?_) (fun b8 => ?_)
 refine FJ.seq (FJ.region (FJ.er (.s4 (.s4 (.s (.s (.s .z))))) (FJ.ql rfl (q_assign rfl .c) (FJ.nil ?_))))
 refine FJ.then_ (FJ.ret (FJ.thenR ?_))
 refine FJ.doneS (res1 rfl .z) .n ?_
 exact ⟨by rw [decide_eq_false]; rintro rfl; simp_all, rfl⟩
 refine FJ.skip (FJ.then_ (FJ.seq (FJ.region (FJ.er (.s4 (.s4 (.s (.s (.s .z))))) ?_))))
 refine FJ.ql rfl (q_assign rfl .c) (FJ.nil (FJ.then_ (FJ.ret ?_)))
 refine FJ.doneS (res1 rfl .z) .n ?_
 exact ⟨by rw [decide_eq_true]; cases x; cases y; simp_all, rfl⟩

end Go.Proofs.Ytkmcpcahbfdohaa

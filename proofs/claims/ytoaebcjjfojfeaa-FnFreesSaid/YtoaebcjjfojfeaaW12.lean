/- What is proved: contracts of functions, one a function. No condition. -/
import Derived.Test.YtoaebcjjfojfeaaW11
namespace Go.Proofs.Ytoaebcjjfojfeaa
open Go Go.RowKit
set_option linter.unusedVariables false
set_option linter.unusedSimpArgs false
set_option maxHeartbeats 1000000 in
set_option maxRecDepth 20000 in
theorem c_55 {w0 : World} {S0 : Bs} {xs : (List DInode)} {v0 : Value} (h0 : kSl_30.ro w0 (FF w0 S0) xs [v0])  :
    Calls Try.prog 55 #[v0] w0 (TriPost w0 S0 (RA_57 (usedR xs))) := by
 obtain ⟨A0, c0, rfl, hl0, hm0, hb0, he0⟩ := ro_form h0
 refine FJ.enter (N := 22) Try.func55 rfl rfl (by simp) [(0, .slice A0 xs.length c0)] (by simp) (l0 := []) trivial ?_
 refine FJ.seq (FJ.region ?_)
 refine FJ.e (goes_list rfl) rfl (by decide) rfl (e_alloc rfl z_57 rfl rfl) ?_
 rintro _ _ ⟨g2, rfl, rfl⟩
 refine FJ.nil (FJ.then_ (FJ.seq (FJ.seq (FJ.region ?_))))
 refine FJ.ql rfl (q_move rfl (.t (.s .z))) ?_
 refine FJ.call (goes_list rfl) rfl (by decide) rfl (c_call rfl Try.func80 rfl rfl (args1 (.t .z))) .n (fun w1 S1 hs tr => c_80 (tr.ctx h0)) ?_
 rintro _ _ ⟨rfl, rfl⟩
 refine FJ.cat .n ?_
 refine FJ.ql rfl (q_assign rfl (.t .z)) (FJ.nil (FJ.then_ (FJ.seq (FJ.region ?_))))
 refine FJ.ql rfl (q_move rfl (.t .z)) (FJ.ql rfl (q_neq rfl (.t .z) .c) (FJ.nil (FJ.then_ ?_)))
 refine FJ.condN (.t .z) (fun b3 => ?_) (fun b3 => ?_)
 refine FJ.seq (FJ.region (FJ.ql rfl (q_move rfl (.t (.s (.s .z)))) ?_))
 refine FJ.ql rfl (q_build (ps := [(0, .int .i64 (inodesFault xs))]) (cs := [.int .i64 (inodesFault xs), .slice none 0 0]) rfl bl_57 (by intro act hact; simp only [List.map_toArray, List.map_cons, List.map_nil, (show Val _ _ _ from (.t .z)) act hact]) rfl) ?_
 refine FJ.es (goes_list rfl) rfl (es_store (off := 0) (cs := [.int .i64 (inodesFault xs), .slice none 0 0]) rfl sz_57 (.t (.s4 (.s (.s (.s .z))))) (.t .z) rfl (ones rfl) .z (Nat.le_of_ble_eq_true rfl) (.c .z (.c (.s .z) .n))) ?_
 refine FJ.nil (FJ.then_ (FJ.ret (FJ.thenR ?_)))
 refine FJ.add (c := ownA kSl_2 [] [.slice none 0 0]) (fun w S => own_nil w S none) ?_
 refine FJ.doneS (resC (cs := [.int .i64 (inodesFault xs), .slice none 0 0]) rfl (.s4 (.s (.s (.s .z)))) ag_57 sz_57 (WS.rows0 (cs := [.int .i64 (inodesFault xs), .slice none 0 0]) (.s .z) (fun _ _ h => h))) (.c .z .n) ?_
 first | (rw [usedR_f (by assumption)]; exact ⟨_, rfl, rfl⟩) | (rw [usedR_7 (by assumption) (by assumption)]; exact ⟨_, rfl, rfl⟩) | (rw [usedR_0 (by assumption) (by assumption)]; exact ⟨_, rfl, rfl⟩) | (rw [usedR_s (by assumption) (by assumption)]; exact ⟨_, rfl, rfl⟩)
 refine FJ.skip (FJ.then_ (FJ.seq (FJ.region (FJ.ql rfl (q_move rfl (.t (.s4 (.s (.s .z))))) ?_))))
 refine FJ.call (goes_list rfl) rfl (by decide) rfl (c_call rfl Try.func103 rfl rfl (args1 (.t .z))) .n (fun w1 S1 hs tr => c_103 (tr.ctx h0) (by first | assumption | (exact ask_ok (by assumption)))) ?_
 rintro _ _ ⟨v5, rfl, rfl⟩
 refine FJ.cat (.c .n) ?_
 refine FJ.know (WS.oform .z) ?_
 rintro ⟨Ao7, co7, rfl, hlo7, hmo7, hbo7⟩
 refine FJ.ql rfl (q_move rfl (.t .z)) (FJ.ql rfl (q_extract (v := .slice Ao7 (sortI (usedL xs)).length co7) rfl (.t .z) rfl) (FJ.ql rfl (q_extract (v := .bool (decide (usedL xs).Nodup)) rfl (.t (.s .z)) rfl) (FJ.ql rfl (q_assign rfl (.t (.s .z))) (FJ.ql rfl (q_assign rfl (.t (.s .z))) ?_))))
 refine FJ.nil (FJ.then_ (FJ.seq (FJ.seq (FJ.region ?_))))
 refine FJ.ql rfl (q_move rfl (.t .z)) (FJ.ql rfl (q_not rfl (.t .z)) (FJ.nil (FJ.then_ ?_)))
 refine FJ.condN (.t .z) (fun b8 => ?_) (fun b8 => ?_)
 refine FJ.seq (FJ.region ?_)
 refine FJ.ql rfl (q_build (ps := [(0, .int .i64 7)]) (cs := [.int .i64 7, .slice none 0 0]) rfl bl_57 (by intro act hact; simp only [List.map_toArray, List.map_cons, List.map_nil, (show Val _ _ _ from .c) act hact]) rfl) ?_
 refine FJ.es (goes_list rfl) rfl (es_store (off := 0) (cs := [.int .i64 7, .slice none 0 0]) rfl sz_57 (.t (.s4 (.s4 (.s4 (.s (.s (.s .z))))))) (.t .z) rfl (ones rfl) (.s .z) (Nat.le_of_ble_eq_true rfl) (.c .z (.c (.s .z) .n))) ?_
 refine FJ.nil (FJ.then_ (FJ.ret (FJ.thenR ?_)))
 refine FJ.add (c := ownA kSl_2 [] [.slice none 0 0]) (fun w S => own_nil w S none) ?_
 refine FJ.doneS (resC (cs := [.int .i64 7, .slice none 0 0]) rfl (.s4 (.s4 (.s4 (.s (.s (.s .z)))))) ag_57 sz_57 (WS.rows0 (cs := [.int .i64 7, .slice none 0 0]) (.s .z) (fun _ _ h => h))) (.c .z .n) ?_
 first | (rw [usedR_f (by assumption)]; exact ⟨_, rfl, rfl⟩) | (rw [usedR_7 (by assumption) (by assumption)]; exact ⟨_, rfl, rfl⟩) | (rw [usedR_0 (by assumption) (by assumption)]; exact ⟨_, rfl, rfl⟩) | (rw [usedR_s (by assumption) (by assumption)]; exact ⟨_, rfl, rfl⟩)
 refine FJ.skip (FJ.then_ (FJ.seq (FJ.region (FJ.ql rfl (q_move rfl (.t (.s (.s (.s .z))))) ?_))))
 refine FJ.ql rfl (q_build (ps := [(1, .slice Ao7 (sortI (usedL xs)).length co7)]) (cs := [.int .i64 0, .slice Ao7 (sortI (usedL xs)).length co7]) rfl bl_57 (by intro act hact; simp only [List.map_toArray, List.map_cons, List.map_nil, (show Val _ _ _ from (.t .z)) act hact]) rfl) ?_
 refine FJ.es (goes_list rfl) rfl (es_store (off := 0) (cs := [.int .i64 0, .slice Ao7 (sortI (usedL xs)).length co7]) rfl sz_57 (.t (.s16 .z)) (.t .z) rfl (ones rfl) (.s .z) (Nat.le_of_ble_eq_true rfl) (.c .z (.c (.s .z) .n))) ?_
 refine FJ.nil (FJ.then_ (FJ.ret ?_))
 refine FJ.doneS (resC (cs := [.int .i64 0, .slice Ao7 (sortI (usedL xs)).length co7]) rfl (.s16 .z) ag_57 sz_57 (WS.rows0 (cs := [.int .i64 0, .slice Ao7 (sortI (usedL xs)).length co7]) .z (fun _ _ h => h))) (.c (.s .z) .n) ?_
 first | (rw [usedR_f (by assumption)]; exact ⟨_, rfl, rfl⟩) | (rw [usedR_7 (by assumption) (by assumption)]; exact ⟨_, rfl, rfl⟩) | (rw [usedR_0 (by assumption) (by assumption)]; exact ⟨_, rfl, rfl⟩) | (rw [usedR_s (by assumption) (by assumption)]; exact ⟨_, rfl, rfl⟩)

set_option maxHeartbeats 1000000 in
set_option maxRecDepth 20000 in
theorem c_54 {w0 : World} {S0 : Bs} {xs : (List DInode)} {v0 : Value} (h0 : kSl_30.ro w0 (FF w0 S0) xs [v0])  :
    Calls Try.prog 54 #[v0] w0 (TriPost w0 S0 (RA_57 (usedR xs))) := by
 obtain ⟨A0, c0, rfl, hl0, hm0, hb0, he0⟩ := ro_form h0
 refine FJ.enter (N := 22) Try.func54 rfl rfl (by simp) [(0, .slice A0 xs.length c0)] (by simp) (l0 := []) trivial ?_
 refine FJ.seq (FJ.region ?_)
 refine FJ.e (goes_list rfl) rfl (by decide) rfl (e_alloc rfl z_57 rfl rfl) ?_
 rintro _ _ ⟨g2, rfl, rfl⟩
 refine FJ.nil (FJ.then_ (FJ.seq (FJ.seq (FJ.region ?_))))
 refine FJ.ql rfl (q_move rfl (.t (.s .z))) ?_
 refine FJ.call (goes_list rfl) rfl (by decide) rfl (c_call rfl Try.func78 rfl rfl (args1 (.t .z))) .n (fun w1 S1 hs tr => c_78 (tr.ctx h0)) ?_
 rintro _ _ ⟨rfl, rfl⟩
 refine FJ.cat .n ?_
 refine FJ.ql rfl (q_assign rfl (.t .z)) (FJ.nil (FJ.then_ (FJ.seq (FJ.region ?_))))
 refine FJ.ql rfl (q_move rfl (.t .z)) (FJ.ql rfl (q_neq rfl (.t .z) .c) (FJ.nil (FJ.then_ ?_)))
 refine FJ.condN (.t .z) (fun b3 => ?_) (fun b3 => ?_)
 refine FJ.seq (FJ.region (FJ.ql rfl (q_move rfl (.t (.s (.s .z)))) ?_))
 refine FJ.ql rfl (q_build (ps := [(0, .int .i64 (inodesFault xs))]) (cs := [.int .i64 (inodesFault xs), .slice none 0 0]) rfl bl_57 (by intro act hact; simp only [List.map_toArray, List.map_cons, List.map_nil, (show Val _ _ _ from (.t .z)) act hact]) rfl) ?_
 refine FJ.es (goes_list rfl) rfl (es_store (off := 0) (cs := [.int .i64 (inodesFault xs), .slice none 0 0]) rfl sz_57 (.t (.s4 (.s (.s (.s .z))))) (.t .z) rfl (ones rfl) .z (Nat.le_of_ble_eq_true rfl) (.c .z (.c (.s .z) .n))) ?_
 refine FJ.nil (FJ.then_ (FJ.ret (FJ.thenR ?_)))
 refine FJ.add (c := ownA kSl_2 [] [.slice none 0 0]) (fun w S => own_nil w S none) ?_
 refine FJ.doneS (resC (cs := [.int .i64 (inodesFault xs), .slice none 0 0]) rfl (.s4 (.s (.s (.s .z)))) ag_57 sz_57 (WS.rows0 (cs := [.int .i64 (inodesFault xs), .slice none 0 0]) (.s .z) (fun _ _ h => h))) (.c .z .n) ?_
 first | (rw [usedR_f (by assumption)]; exact ⟨_, rfl, rfl⟩) | (rw [usedR_7 (by assumption) (by assumption)]; exact ⟨_, rfl, rfl⟩) | (rw [usedR_0 (by assumption) (by assumption)]; exact ⟨_, rfl, rfl⟩) | (rw [usedR_s (by assumption) (by assumption)]; exact ⟨_, rfl, rfl⟩)
 refine FJ.skip (FJ.then_ (FJ.seq (FJ.region (FJ.ql rfl (q_move rfl (.t (.s4 (.s (.s .z))))) ?_))))
 refine FJ.call (goes_list rfl) rfl (by decide) rfl (c_call rfl Try.func102 rfl rfl (args1 (.t .z))) .n (fun w1 S1 hs tr => c_102 (tr.ctx h0) (by assumption)) ?_
 rintro _ _ ⟨v5, rfl, rfl⟩
 refine FJ.cat (.c .n) ?_
 refine FJ.know (WS.oform .z) ?_
 rintro ⟨Ao7, co7, rfl, hlo7, hmo7, hbo7⟩
 refine FJ.ql rfl (q_move rfl (.t .z)) (FJ.ql rfl (q_extract (v := .slice Ao7 (placesTo (usedP xs) 20).length co7) rfl (.t .z) rfl) (FJ.ql rfl (q_extract (v := .bool (decide (usedL xs).Nodup)) rfl (.t (.s .z)) rfl) (FJ.ql rfl (q_assign rfl (.t (.s .z))) (FJ.ql rfl (q_assign rfl (.t (.s .z))) ?_))))
 refine FJ.nil (FJ.then_ (FJ.seq (FJ.seq (FJ.region ?_))))
 refine FJ.ql rfl (q_move rfl (.t .z)) (FJ.ql rfl (q_not rfl (.t .z)) (FJ.nil (FJ.then_ ?_)))
 refine FJ.condN (.t .z) (fun b8 => ?_) (fun b8 => ?_)
 refine FJ.seq (FJ.region ?_)
 refine FJ.ql rfl (q_build (ps := [(0, .int .i64 7)]) (cs := [.int .i64 7, .slice none 0 0]) rfl bl_57 (by intro act hact; simp only [List.map_toArray, List.map_cons, List.map_nil, (show Val _ _ _ from .c) act hact]) rfl) ?_
 refine FJ.es (goes_list rfl) rfl (es_store (off := 0) (cs := [.int .i64 7, .slice none 0 0]) rfl sz_57 (.t (.s4 (.s4 (.s4 (.s (.s (.s .z))))))) (.t .z) rfl (ones rfl) (.s .z) (Nat.le_of_ble_eq_true rfl) (.c .z (.c (.s .z) .n))) ?_
 refine FJ.nil (FJ.then_ (FJ.ret (FJ.thenR ?_)))
 refine FJ.add (c := ownA kSl_2 [] [.slice none 0 0]) (fun w S => own_nil w S none) ?_
 refine FJ.doneS (resC (cs := [.int .i64 7, .slice none 0 0]) rfl (.s4 (.s4 (.s4 (.s (.s (.s .z)))))) ag_57 sz_57 (WS.rows0 (cs := [.int .i64 7, .slice none 0 0]) (.s .z) (fun _ _ h => h))) (.c .z .n) ?_
 first | (rw [usedR_f (by assumption)]; exact ⟨_, rfl, rfl⟩) | (rw [usedR_7 (by assumption) (by assumption)]; exact ⟨_, rfl, rfl⟩) | (rw [usedR_0 (by assumption) (by assumption)]; exact ⟨_, rfl, rfl⟩) | (rw [usedR_s (by assumption) (by assumption)]; exact ⟨_, rfl, rfl⟩)
 refine FJ.skip (FJ.then_ (FJ.seq (FJ.region (FJ.ql rfl (q_move rfl (.t (.s (.s (.s .z))))) ?_))))
 refine FJ.ql rfl (q_build (ps := [(1, .slice Ao7 (placesTo (usedP xs) 20).length co7)]) (cs := [.int .i64 0, .slice Ao7 (placesTo (usedP xs) 20).length co7]) rfl bl_57 (by intro act hact; simp only [List.map_toArray, List.map_cons, List.map_nil, (show Val _ _ _ from (.t .z)) act hact]) rfl) ?_
 refine FJ.es (goes_list rfl) rfl (es_store (off := 0) (cs := [.int .i64 0, .slice Ao7 (placesTo (usedP xs) 20).length co7]) rfl sz_57 (.t (.s16 .z)) (.t .z) rfl (ones rfl) (.s .z) (Nat.le_of_ble_eq_true rfl) (.c .z (.c (.s .z) .n))) ?_
 refine FJ.nil (FJ.then_ (FJ.ret ?_))
 refine FJ.doneS (resC (cs := [.int .i64 0, .slice Ao7 (placesTo (usedP xs) 20).length co7]) rfl (.s16 .z) ag_57 sz_57 (WS.rows0 (cs := [.int .i64 0, .slice Ao7 (placesTo (usedP xs) 20).length co7]) .z (fun _ _ h => h))) (.c (.s .z) .n) ?_
 first | (rw [usedR_f (by assumption)]; exact ⟨_, rfl, rfl⟩) | (rw [usedR_7 (by assumption) (by assumption)]; exact ⟨_, rfl, rfl⟩) | (rw [usedR_0 (by assumption) (by assumption)]; exact ⟨_, rfl, rfl⟩) | (rw [usedR_s (by assumption) (by assumption)]; exact ⟨_, rfl, rfl⟩)

set_option maxHeartbeats 1000000 in
set_option maxRecDepth 20000 in
theorem c_58 {w0 : World} {S0 : Bs} {xs : (List DInode)} {v0 : Value} (h0 : kSl_30.ro w0 (FF w0 S0) xs [v0]) {b : (List Int)} {v1 : Value} (h1 : kSl_2.ro w0 (FF w0 S0) b [v1])  :
    Calls Try.prog 58 #[v0, v1] w0 (TriPost w0 S0 (RA_57 (freeR xs b))) := by
 obtain ⟨A0, c0, rfl, hl0, hm0, hb0, he0⟩ := ro_form h0
 obtain ⟨A1, c1, rfl, hl1, hm1, hb1, he1⟩ := ro_form h1
 refine FJ.enter (N := 18) Try.func58 rfl rfl (by simp) [(0, .slice A0 xs.length c0), (1, .slice A1 b.length c1)] (by simp) (l0 := []) trivial ?_
 refine FJ.seq (FJ.region ?_)
 refine FJ.e (goes_list rfl) rfl (by decide) rfl (e_alloc rfl z_57 rfl rfl) ?_
 rintro _ _ ⟨g3, rfl, rfl⟩
 refine FJ.nil (FJ.then_ (FJ.seq (FJ.seq (FJ.region ?_))))
 refine FJ.ql rfl (q_move rfl (.t (.s .z))) ?_
 refine FJ.call (goes_list rfl) rfl (by decide) rfl (c_call rfl Try.func80 rfl rfl (args1 (.t .z))) .n (fun w1 S1 hs tr => c_80 (tr.ctx h0)) ?_
 rintro _ _ ⟨rfl, rfl⟩
 refine FJ.cat .n ?_
 refine FJ.ql rfl (q_move rfl (.t (.s4 .z))) ?_
 refine FJ.call (goes_list rfl) rfl (by decide) rfl (c_call rfl Try.func106 rfl rfl (args2 (.t (.s .z)) (.t .z))) .n (fun w1 S1 hs tr => c_106 _ (tr.ctx h1)) ?_
 rintro _ _ ⟨rfl, rfl⟩
 refine FJ.cat .n ?_
 refine FJ.ql rfl (q_assign rfl (.t .z)) (FJ.nil (FJ.then_ (FJ.seq (FJ.region ?_))))
 refine FJ.ql rfl (q_move rfl (.t .z)) (FJ.ql rfl (q_neq rfl (.t .z) .c) (FJ.nil (FJ.then_ ?_)))
 refine FJ.condN (.t .z) (fun b4 => ?_) (fun b4 => ?_)
 refine FJ.seq (FJ.region (FJ.ql rfl (q_move rfl (.t (.s (.s .z)))) ?_))
 refine FJ.ql rfl (q_build (ps := [(0, .int .i64 (if inodesFault xs = 0 then busyFault b else inodesFault xs))]) (cs := [.int .i64 (if inodesFault xs = 0 then busyFault b else inodesFault xs), .slice none 0 0]) rfl bl_57 (by intro act hact; simp only [List.map_toArray, List.map_cons, List.map_nil, (show Val _ _ _ from (.t .z)) act hact]) rfl) ?_
 refine FJ.es (goes_list rfl) rfl (es_store (off := 0) (cs := [.int .i64 (if inodesFault xs = 0 then busyFault b else inodesFault xs), .slice none 0 0]) rfl sz_57 (.t (.s4 (.s4 (.s .z)))) (.t .z) rfl (ones rfl) .z (Nat.le_of_ble_eq_true rfl) (.c .z (.c (.s .z) .n))) ?_
 refine FJ.nil (FJ.then_ (FJ.ret (FJ.thenR ?_)))
 refine FJ.add (c := ownA kSl_2 [] [.slice none 0 0]) (fun w S => own_nil w S none) ?_
 refine FJ.doneS (resC (cs := [.int .i64 (if inodesFault xs = 0 then busyFault b else inodesFault xs), .slice none 0 0]) rfl (.s4 (.s4 (.s .z))) ag_57 sz_57 (WS.rows0 (cs := [.int .i64 (if inodesFault xs = 0 then busyFault b else inodesFault xs), .slice none 0 0]) (.s .z) (fun _ _ h => h))) (.c .z .n) ?_
 first | (rw [freeR_f (by assumption)]; exact ⟨_, rfl, rfl⟩) | (rw [freeR_0 (by assumption)]; exact ⟨_, rfl, rfl⟩)
 refine FJ.skip (FJ.then_ (FJ.seq (FJ.region (FJ.ql rfl (q_move rfl (.t (.s4 (.s4 .z)))) ?_))))
 refine FJ.ql rfl (q_move rfl (.t (.s4 (.s4 (.s (.s .z)))))) ?_
 refine FJ.call (goes_list rfl) rfl (by decide) rfl (c_call rfl Try.func107 rfl rfl (args2 (.t (.s .z)) (.t .z))) .n (fun w1 S1 hs tr => c_107 (tr.ctx h0) (tr.ctx h1) (by first | assumption | (exact ask_ok (by assumption)))) ?_
 rintro _ _ rfl
 refine FJ.cat (.c .n) ?_
 refine FJ.know (WS.oform .z) ?_
 rintro ⟨Ao7, co7, rfl, hlo7, hmo7, hbo7⟩
 refine FJ.ql rfl (q_build (ps := [(1, .slice Ao7 (freeTo xs b).length co7)]) (cs := [.int .i64 0, .slice Ao7 (freeTo xs b).length co7]) rfl bl_57 (by intro act hact; simp only [List.map_toArray, List.map_cons, List.map_nil, (show Val _ _ _ from (.t .z)) act hact]) rfl) ?_
 refine FJ.es (goes_list rfl) rfl (es_store (off := 0) (cs := [.int .i64 0, .slice Ao7 (freeTo xs b).length co7]) rfl sz_57 (.t (.s4 (.s4 (.s (.s (.s .z)))))) (.t .z) rfl (ones rfl) (.s .z) (Nat.le_of_ble_eq_true rfl) (.c .z (.c (.s .z) .n))) ?_
 refine FJ.nil (FJ.then_ (FJ.ret ?_))
 refine FJ.doneS (resC (cs := [.int .i64 0, .slice Ao7 (freeTo xs b).length co7]) rfl (.s4 (.s4 (.s (.s (.s .z))))) ag_57 sz_57 (WS.rows0 (cs := [.int .i64 0, .slice Ao7 (freeTo xs b).length co7]) .z (fun _ _ h => h))) (.c (.s .z) .n) ?_
 first | (rw [freeR_f (by assumption)]; exact ⟨_, rfl, rfl⟩) | (rw [freeR_0 (by assumption)]; exact ⟨_, rfl, rfl⟩)

set_option maxHeartbeats 1000000 in
set_option maxRecDepth 20000 in
theorem c_57 {w0 : World} {S0 : Bs} {xs : (List DInode)} {v0 : Value} (h0 : kSl_30.ro w0 (FF w0 S0) xs [v0]) {b : (List Int)} {v1 : Value} (h1 : kSl_2.ro w0 (FF w0 S0) b [v1])  :
    Calls Try.prog 57 #[v0, v1] w0 (TriPost w0 S0 (RA_57 (freeR xs b))) := by
 obtain ⟨A0, c0, rfl, hl0, hm0, hb0, he0⟩ := ro_form h0
 obtain ⟨A1, c1, rfl, hl1, hm1, hb1, he1⟩ := ro_form h1
 refine FJ.enter (N := 17) Try.func57 rfl rfl (by simp) [(0, .slice A0 xs.length c0), (1, .slice A1 b.length c1)] (by simp) (l0 := []) trivial ?_
 refine FJ.seq (FJ.region ?_)
 refine FJ.e (goes_list rfl) rfl (by decide) rfl (e_alloc rfl z_57 rfl rfl) ?_
 rintro _ _ ⟨g3, rfl, rfl⟩
 refine FJ.nil (FJ.then_ (FJ.seq (FJ.seq (FJ.region ?_))))
 refine FJ.ql rfl (q_move rfl (.t (.s .z))) (FJ.ql rfl (q_move rfl (.t (.s (.s (.s .z))))) ?_)
 refine FJ.call (goes_list rfl) rfl (by decide) rfl (c_call rfl Try.func104 rfl rfl (args2 (.t (.s .z)) (.t .z))) .n (fun w1 S1 hs tr => c_104 (tr.ctx h0) (tr.ctx h1)) ?_
 rintro _ _ ⟨rfl, rfl⟩
 refine FJ.cat .n ?_
 refine FJ.ql rfl (q_assign rfl (.t .z)) (FJ.nil (FJ.then_ (FJ.seq (FJ.region ?_))))
 refine FJ.ql rfl (q_move rfl (.t .z)) (FJ.ql rfl (q_neq rfl (.t .z) .c) (FJ.nil (FJ.then_ ?_)))
 refine FJ.condN (.t .z) (fun b4 => ?_) (fun b4 => ?_)
 refine FJ.seq (FJ.region (FJ.ql rfl (q_move rfl (.t (.s (.s .z)))) ?_))
 refine FJ.ql rfl (q_build (ps := [(0, .int .i64 (askFault xs b))]) (cs := [.int .i64 (askFault xs b), .slice none 0 0]) rfl bl_57 (by intro act hact; simp only [List.map_toArray, List.map_cons, List.map_nil, (show Val _ _ _ from (.t .z)) act hact]) rfl) ?_
 refine FJ.es (goes_list rfl) rfl (es_store (off := 0) (cs := [.int .i64 (askFault xs b), .slice none 0 0]) rfl sz_57 (.t (.s4 (.s4 .z))) (.t .z) rfl (ones rfl) .z (Nat.le_of_ble_eq_true rfl) (.c .z (.c (.s .z) .n))) ?_
 refine FJ.nil (FJ.then_ (FJ.ret (FJ.thenR ?_)))
 refine FJ.add (c := ownA kSl_2 [] [.slice none 0 0]) (fun w S => own_nil w S none) ?_
 refine FJ.doneS (resC (cs := [.int .i64 (askFault xs b), .slice none 0 0]) rfl (.s4 (.s4 .z)) ag_57 sz_57 (WS.rows0 (cs := [.int .i64 (askFault xs b), .slice none 0 0]) (.s .z) (fun _ _ h => h))) (.c .z .n) ?_
 first | (rw [freeR_f (by assumption)]; exact ⟨_, rfl, rfl⟩) | (rw [freeR_0 (by assumption)]; exact ⟨_, rfl, rfl⟩)
 refine FJ.skip (FJ.then_ (FJ.seq (FJ.region (FJ.ql rfl (q_move rfl (.t (.s4 (.s (.s (.s .z)))))) ?_))))
 refine FJ.ql rfl (q_move rfl (.t (.s4 (.s4 (.s .z))))) ?_
 refine FJ.call (goes_list rfl) rfl (by decide) rfl (c_call rfl Try.func105 rfl rfl (args2 (.t (.s .z)) (.t .z))) .n (fun w1 S1 hs tr => c_105 (tr.ctx h0) (tr.ctx h1) (by first | assumption | (exact ask_ok (by assumption)))) ?_
 rintro _ _ rfl
 refine FJ.cat (.c .n) ?_
 refine FJ.know (WS.oform .z) ?_
 rintro ⟨Ao7, co7, rfl, hlo7, hmo7, hbo7⟩
 refine FJ.ql rfl (q_build (ps := [(1, .slice Ao7 (freeTo xs b).length co7)]) (cs := [.int .i64 0, .slice Ao7 (freeTo xs b).length co7]) rfl bl_57 (by intro act hact; simp only [List.map_toArray, List.map_cons, List.map_nil, (show Val _ _ _ from (.t .z)) act hact]) rfl) ?_
 refine FJ.es (goes_list rfl) rfl (es_store (off := 0) (cs := [.int .i64 0, .slice Ao7 (freeTo xs b).length co7]) rfl sz_57 (.t (.s4 (.s4 (.s (.s .z))))) (.t .z) rfl (ones rfl) (.s .z) (Nat.le_of_ble_eq_true rfl) (.c .z (.c (.s .z) .n))) ?_
 refine FJ.nil (FJ.then_ (FJ.ret ?_))
 refine FJ.doneS (resC (cs := [.int .i64 0, .slice Ao7 (freeTo xs b).length co7]) rfl (.s4 (.s4 (.s (.s .z)))) ag_57 sz_57 (WS.rows0 (cs := [.int .i64 0, .slice Ao7 (freeTo xs b).length co7]) .z (fun _ _ h => h))) (.c (.s .z) .n) ?_
 first | (rw [freeR_f (by assumption)]; exact ⟨_, rfl, rfl⟩) | (rw [freeR_0 (by assumption)]; exact ⟨_, rfl, rfl⟩)

set_option maxHeartbeats 1000000 in
set_option maxRecDepth 20000 in
theorem c_60 {w0 : World} {S0 : Bs} {xs : (List DInode)} {v0 : Value} (h0 : kSl_30.ro w0 (FF w0 S0) xs [v0]) {b : (List Int)} {v1 : Value} (h1 : kSl_2.ro w0 (FF w0 S0) b [v1]) (n : Int)  :
    Calls Try.prog 60 #[v0, v1, .int .i64 n] w0 (TriPost w0 S0 (RA_57 (pickR xs b n))) := by
 obtain ⟨A0, c0, rfl, hl0, hm0, hb0, he0⟩ := ro_form h0
 obtain ⟨A1, c1, rfl, hl1, hm1, hb1, he1⟩ := ro_form h1
 refine FJ.enter (N := 28) Try.func60 rfl rfl (by simp) [(0, .slice A0 xs.length c0), (1, .slice A1 b.length c1), (2, .int .i64 n)] (by simp) (l0 := []) trivial ?_
 refine FJ.seq (FJ.region ?_)
 refine FJ.e (goes_list rfl) rfl (by decide) rfl (e_alloc rfl z_57 rfl rfl) ?_
 rintro _ _ ⟨g3, rfl, rfl⟩
 refine FJ.nil (FJ.then_ (FJ.seq (FJ.seq (FJ.region ?_))))
 refine FJ.ql rfl (q_move rfl (.t (.s .z))) ?_
 refine FJ.call (goes_list rfl) rfl (by decide) rfl (c_call rfl Try.func80 rfl rfl (args1 (.t .z))) .n (fun w1 S1 hs tr => c_80 (tr.ctx h0)) ?_
 rintro _ _ ⟨rfl, rfl⟩
 refine FJ.cat .n ?_
 refine FJ.ql rfl (q_move rfl (.t (.s4 .z))) ?_
 refine FJ.call (goes_list rfl) rfl (by decide) rfl (c_call rfl Try.func106 rfl rfl (args2 (.t (.s .z)) (.t .z))) .n (fun w1 S1 hs tr => c_106 _ (tr.ctx h1)) ?_
 rintro _ _ ⟨rfl, rfl⟩
 refine FJ.cat .n ?_
 refine FJ.ql rfl (q_assign rfl (.t .z)) (FJ.nil (FJ.then_ (FJ.seq (FJ.region ?_))))
 refine FJ.ql rfl (q_move rfl (.t .z)) (FJ.ql rfl (q_neq rfl (.t .z) .c) (FJ.nil (FJ.then_ ?_)))
 refine FJ.condN (.t .z) (fun b4 => ?_) (fun b4 => ?_)
 refine FJ.seq (FJ.region (FJ.ql rfl (q_move rfl (.t (.s (.s .z)))) ?_))
 refine FJ.ql rfl (q_build (ps := [(0, .int .i64 (if inodesFault xs = 0 then busyFault b else inodesFault xs))]) (cs := [.int .i64 (if inodesFault xs = 0 then busyFault b else inodesFault xs), .slice none 0 0]) rfl bl_57 (by intro act hact; simp only [List.map_toArray, List.map_cons, List.map_nil, (show Val _ _ _ from (.t .z)) act hact]) rfl) ?_
 refine FJ.es (goes_list rfl) rfl (es_store (off := 0) (cs := [.int .i64 (if inodesFault xs = 0 then busyFault b else inodesFault xs), .slice none 0 0]) rfl sz_57 (.t (.s4 (.s4 (.s .z)))) (.t .z) rfl (ones rfl) .z (Nat.le_of_ble_eq_true rfl) (.c .z (.c (.s .z) .n))) ?_
 refine FJ.nil (FJ.then_ (FJ.ret (FJ.thenR ?_)))
 refine FJ.add (c := ownA kSl_2 [] [.slice none 0 0]) (fun w S => own_nil w S none) ?_
 refine FJ.doneS (resC (cs := [.int .i64 (if inodesFault xs = 0 then busyFault b else inodesFault xs), .slice none 0 0]) rfl (.s4 (.s4 (.s .z))) ag_57 sz_57 (WS.rows0 (cs := [.int .i64 (if inodesFault xs = 0 then busyFault b else inodesFault xs), .slice none 0 0]) (.s .z) (fun _ _ h => h))) (.c .z .n) ?_
 first | (rw [pickR_f (by assumption)]; exact ⟨_, rfl, rfl⟩) | (rw [pickR_0 (by assumption), pickOf_3 (by assumption)]; exact ⟨_, rfl, rfl⟩) | (rw [pickR_0 (by assumption), pickOf_8 (by assumption) (by assumption)]; exact ⟨_, rfl, rfl⟩) | (rw [pickR_0 (by assumption), pickOf_0 (by assumption) (by assumption)]; exact ⟨_, rfl, rfl⟩) | (rw [pickR_0 (by assumption)]; exact ⟨_, rfl, rfl⟩)
 refine FJ.skip (FJ.then_ (FJ.seq (FJ.region (FJ.ql rfl (q_move rfl (.t (.s4 (.s4 .z)))) ?_))))
 refine FJ.ql rfl (q_move rfl (.t (.s4 (.s4 (.s (.s .z)))))) (FJ.ql rfl (q_move rfl (.t (.s4 (.s4 (.s4 .z))))) ?_)
 refine FJ.call (goes_list rfl) rfl (by decide) rfl (c_call rfl Try.func111 rfl rfl (args3 (.t (.s (.s .z))) (.t (.s .z)) (.t .z))) .n (fun w1 S1 hs tr => c_111 (tr.ctx h0) (tr.ctx h1) _ (by first | assumption | (exact ask_ok (by assumption)))) ?_
 rintro _ _ ⟨v6, rfl, rfl⟩
 refine FJ.cat (.c .n) ?_
 refine FJ.know (WS.oform .z) ?_
 rintro ⟨Ao8, co8, rfl, hlo8, hmo8, hbo8⟩
 refine FJ.ql rfl (q_move rfl (.t .z)) (FJ.ql rfl (q_extract (v := .slice Ao8 ((pickOf xs b n).list).length co8) rfl (.t .z) rfl) (FJ.ql rfl (q_extract (v := .int .i64 ((pickOf xs b n).code)) rfl (.t (.s .z)) rfl) (FJ.ql rfl (q_assign rfl (.t (.s .z))) (FJ.ql rfl (q_assign rfl (.t (.s .z))) ?_))))
 refine FJ.nil (FJ.then_ (FJ.seq (FJ.region (FJ.ql rfl (q_move rfl (.t .z)) ?_))))
 refine FJ.ql rfl (q_move rfl (.t (.s (.s .z)))) ?_
 refine FJ.ql rfl (q_build (ps := [(0, .int .i64 ((pickOf xs b n).code)), (1, .slice Ao8 ((pickOf xs b n).list).length co8)]) (cs := [.int .i64 ((pickOf xs b n).code), .slice Ao8 ((pickOf xs b n).list).length co8]) rfl bl_57 (by intro act hact; simp only [List.map_toArray, List.map_cons, List.map_nil, (show Val _ _ _ from (.t (.s .z))) act hact, (show Val _ _ _ from (.t .z)) act hact]) rfl) ?_
 refine FJ.es (goes_list rfl) rfl (es_store (off := 0) (cs := [.int .i64 ((pickOf xs b n).code), .slice Ao8 ((pickOf xs b n).list).length co8]) rfl sz_57 (.t (.s16 (.s (.s (.s .z))))) (.t .z) rfl (ones rfl) (.s .z) (Nat.le_of_ble_eq_true rfl) (.c .z (.c (.s .z) .n))) ?_
 refine FJ.nil (FJ.then_ (FJ.ret ?_))
 refine FJ.doneS (resC (cs := [.int .i64 ((pickOf xs b n).code), .slice Ao8 ((pickOf xs b n).list).length co8]) rfl (.s16 (.s (.s (.s .z)))) ag_57 sz_57 (WS.rows0 (cs := [.int .i64 ((pickOf xs b n).code), .slice Ao8 ((pickOf xs b n).list).length co8]) .z (fun _ _ h => h))) (.c (.s .z) .n) ?_
 first | (rw [pickR_f (by assumption)]; exact ⟨_, rfl, rfl⟩) | (rw [pickR_0 (by assumption), pickOf_3 (by assumption)]; exact ⟨_, rfl, rfl⟩) | (rw [pickR_0 (by assumption), pickOf_8 (by assumption) (by assumption)]; exact ⟨_, rfl, rfl⟩) | (rw [pickR_0 (by assumption), pickOf_0 (by assumption) (by assumption)]; exact ⟨_, rfl, rfl⟩) | (rw [pickR_0 (by assumption)]; exact ⟨_, rfl, rfl⟩)

set_option maxHeartbeats 1000000 in
set_option maxRecDepth 20000 in
theorem c_61 {w0 : World} {S0 : Bs} {xs : (List DInode)} {v0 : Value} (h0 : kSl_30.ro w0 (FF w0 S0) xs [v0]) {b : (List Int)} {v1 : Value} (h1 : kSl_2.ro w0 (FF w0 S0) b [v1]) (n : Int)  :
    Calls Try.prog 61 #[v0, v1, .int .i64 n] w0 (TriPost w0 S0 (RA_57 (pickR xs b n))) := by
 obtain ⟨A0, c0, rfl, hl0, hm0, hb0, he0⟩ := ro_form h0
 obtain ⟨A1, c1, rfl, hl1, hm1, hb1, he1⟩ := ro_form h1
 refine FJ.enter (N := 32) Try.func61 rfl rfl (by simp) [(0, .slice A0 xs.length c0), (1, .slice A1 b.length c1), (2, .int .i64 n)] (by simp) (l0 := []) trivial ?_
 refine FJ.seq (FJ.region ?_)
 refine FJ.e (goes_list rfl) rfl (by decide) rfl (e_alloc rfl z_57 rfl rfl) ?_
 rintro _ _ ⟨g3, rfl, rfl⟩
 refine FJ.nil (FJ.then_ (FJ.seq (FJ.seq (FJ.region ?_))))
 refine FJ.ql rfl (q_move rfl (.t (.s .z))) (FJ.ql rfl (q_move rfl (.t (.s (.s (.s .z))))) ?_)
 refine FJ.call (goes_list rfl) rfl (by decide) rfl (c_call rfl Try.func104 rfl rfl (args2 (.t (.s .z)) (.t .z))) .n (fun w1 S1 hs tr => c_104 (tr.ctx h0) (tr.ctx h1)) ?_
 rintro _ _ ⟨rfl, rfl⟩
 refine FJ.cat .n ?_
 refine FJ.ql rfl (q_assign rfl (.t .z)) (FJ.nil (FJ.then_ (FJ.seq (FJ.region ?_))))
 refine FJ.ql rfl (q_move rfl (.t .z)) (FJ.ql rfl (q_neq rfl (.t .z) .c) (FJ.nil (FJ.then_ ?_)))
 refine FJ.condN (.t .z) (fun b4 => ?_) (fun b4 => ?_)
 refine FJ.seq (FJ.region (FJ.ql rfl (q_move rfl (.t (.s (.s .z)))) ?_))
 refine FJ.ql rfl (q_build (ps := [(0, .int .i64 (askFault xs b))]) (cs := [.int .i64 (askFault xs b), .slice none 0 0]) rfl bl_57 (by intro act hact; simp only [List.map_toArray, List.map_cons, List.map_nil, (show Val _ _ _ from (.t .z)) act hact]) rfl) ?_
 refine FJ.es (goes_list rfl) rfl (es_store (off := 0) (cs := [.int .i64 (askFault xs b), .slice none 0 0]) rfl sz_57 (.t (.s4 (.s4 .z))) (.t .z) rfl (ones rfl) .z (Nat.le_of_ble_eq_true rfl) (.c .z (.c (.s .z) .n))) ?_
 refine FJ.nil (FJ.then_ (FJ.ret (FJ.thenR ?_)))
 refine FJ.add (c := ownA kSl_2 [] [.slice none 0 0]) (fun w S => own_nil w S none) ?_
 refine FJ.doneS (resC (cs := [.int .i64 (askFault xs b), .slice none 0 0]) rfl (.s4 (.s4 .z)) ag_57 sz_57 (WS.rows0 (cs := [.int .i64 (askFault xs b), .slice none 0 0]) (.s .z) (fun _ _ h => h))) (.c .z .n) ?_
 first | (rw [pickR_f (by assumption)]; exact ⟨_, rfl, rfl⟩) | (rw [pickR_0 (by assumption), pickOf_3 (by assumption)]; exact ⟨_, rfl, rfl⟩) | (rw [pickR_0 (by assumption), pickOf_8 (by assumption) (by assumption)]; exact ⟨_, rfl, rfl⟩) | (rw [pickR_0 (by assumption), pickOf_0 (by assumption) (by assumption)]; exact ⟨_, rfl, rfl⟩) | (rw [pickR_0 (by assumption)]; exact ⟨_, rfl, rfl⟩)
 refine FJ.skip (FJ.then_ (FJ.seq (FJ.seq (FJ.region ?_))))
 refine FJ.ql rfl (q_move rfl (.t (.s4 (.s4 (.s .z))))) ?_
 refine FJ.call (goes_list rfl) rfl (by decide) rfl (c_call rfl Try.func82 rfl rfl (args3 (.t .z) .c .c)) .n (fun w1 S1 hs tr => c_82 _ _ _) ?_
 rintro _ _ ⟨rfl, rfl⟩
 refine FJ.cat .n ?_
 refine FJ.ql rfl (q_not rfl (.t .z)) (FJ.nil (FJ.then_ ?_))
 refine FJ.condN (.t .z) (fun b6 => ?_) (fun b6 => ?_)
 refine FJ.seq (FJ.region ?_)
 refine FJ.ql rfl (q_build (ps := [(0, .int .i64 3)]) (cs := [.int .i64 3, .slice none 0 0]) rfl bl_57 (by intro act hact; simp only [List.map_toArray, List.map_cons, List.map_nil, (show Val _ _ _ from .c) act hact]) rfl) ?_
 refine FJ.es (goes_list rfl) rfl (es_store (off := 0) (cs := [.int .i64 3, .slice none 0 0]) rfl sz_57 (.t (.s4 (.s4 (.s (.s .z))))) (.t .z) rfl (ones rfl) .z (Nat.le_of_ble_eq_true rfl) (.c .z (.c (.s .z) .n))) ?_
 refine FJ.nil (FJ.then_ (FJ.ret (FJ.thenR ?_)))
 refine FJ.add (c := ownA kSl_2 [] [.slice none 0 0]) (fun w S => own_nil w S none) ?_
 refine FJ.doneS (resC (cs := [.int .i64 3, .slice none 0 0]) rfl (.s4 (.s4 (.s (.s .z)))) ag_57 sz_57 (WS.rows0 (cs := [.int .i64 3, .slice none 0 0]) (.s .z) (fun _ _ h => h))) (.c .z .n) ?_
 first | (rw [pickR_f (by assumption)]; exact ⟨_, rfl, rfl⟩) | (rw [pickR_0 (by assumption), pickOf_3 (by assumption)]; exact ⟨_, rfl, rfl⟩) | (rw [pickR_0 (by assumption), pickOf_8 (by assumption) (by assumption)]; exact ⟨_, rfl, rfl⟩) | (rw [pickR_0 (by assumption), pickOf_0 (by assumption) (by assumption)]; exact ⟨_, rfl, rfl⟩) | (rw [pickR_0 (by assumption)]; exact ⟨_, rfl, rfl⟩)
 refine FJ.skip (FJ.then_ (FJ.seq (FJ.region (FJ.ql rfl (q_move rfl (.t (.s4 (.s4 (.s (.s .z)))))) ?_))))
 refine FJ.ql rfl (q_move rfl (.t (.s4 (.s4 (.s4 .z))))) ?_
 refine FJ.call (goes_list rfl) rfl (by decide) rfl (c_call rfl Try.func105 rfl rfl (args2 (.t (.s .z)) (.t .z))) .n (fun w1 S1 hs tr => c_105 (tr.ctx h0) (tr.ctx h1) (by first | assumption | (exact ask_ok (by assumption)))) ?_
 rintro _ _ rfl
 refine FJ.cat (.c .n) ?_
 refine FJ.know (WS.oform .z) ?_
 rintro ⟨Ao9, co9, rfl, hlo9, hmo9, hbo9⟩
 refine FJ.ql rfl (q_assign rfl (.t .z)) (FJ.nil (FJ.then_ (FJ.seq (FJ.seq ?_))))
 refine FJ.region (FJ.ql rfl (q_move rfl (.t .z)) (FJ.ql rfl (q_len rfl u_22 (.t .z)) (FJ.ql rfl (q_move rfl (.t (.s16 (.s (.s .z))))) (FJ.ql rfl (q_lss rfl (.t (.s .z)) (.t .z)) ?_))))
 refine FJ.nil (FJ.then_ ?_)
 refine FJ.condP (.t .z) (fun b10 => ?_) (fun b10 => ?_)
 refine FJ.seq (FJ.region ?_)
 refine FJ.ql rfl (q_build (ps := [(0, .int .i64 8)]) (cs := [.int .i64 8, .slice none 0 0]) rfl bl_57 (by intro act hact; simp only [List.map_toArray, List.map_cons, List.map_nil, (show Val _ _ _ from .c) act hact]) rfl) ?_
 refine FJ.es (goes_list rfl) rfl (es_store (off := 0) (cs := [.int .i64 8, .slice none 0 0]) rfl sz_57 (.t (.s16 (.s (.s .z)))) (.t .z) rfl (ones rfl) (.s .z) (Nat.le_of_ble_eq_true rfl) (.c .z (.c (.s .z) .n))) ?_
 refine FJ.nil (FJ.then_ (FJ.ret (FJ.thenR ?_)))
 refine FJ.add (c := ownA kSl_2 [] [.slice none 0 0]) (fun w S => own_nil w S none) ?_
 refine FJ.doneS (resC (cs := [.int .i64 8, .slice none 0 0]) rfl (.s16 (.s (.s .z))) ag_57 sz_57 (WS.rows0 (cs := [.int .i64 8, .slice none 0 0]) (.s .z) (fun _ _ h => h))) (.c .z .n) ?_
 first | (rw [pickR_f (by assumption)]; exact ⟨_, rfl, rfl⟩) | (rw [pickR_0 (by assumption), pickOf_3 (by assumption)]; exact ⟨_, rfl, rfl⟩) | (rw [pickR_0 (by assumption), pickOf_8 (by assumption) (by assumption)]; exact ⟨_, rfl, rfl⟩) | (rw [pickR_0 (by assumption), pickOf_0 (by assumption) (by assumption)]; exact ⟨_, rfl, rfl⟩) | (rw [pickR_0 (by assumption)]; exact ⟨_, rfl, rfl⟩)
 refine FJ.skip (FJ.then_ (FJ.seq (FJ.region (FJ.ql rfl (q_move rfl (.t (.s4 .z))) ?_))))
 refine FJ.ql rfl (q_move rfl (.t (.s16 (.s4 (.s .z))))) ?_
 refine FJ.know (WS.ocap .z) ?_
 rintro ⟨-, hk12, -, -⟩
 have hm13 : (List.take (Int.toNat n) (freeTo xs b)).length = Int.toNat n := by rw [List.length_take]; omega
 refine FJ.eq .z (congrArg (Value.int .i64) (show n = (((List.take (Int.toNat n) (freeTo xs b)).length : Nat) : Int) by rw [hm13]; try omega)) ?_
 refine FJ.turns (c := ownA kSl_2 (List.take (Int.toNat n) (freeTo xs b)) [.slice Ao9 ((List.take (Int.toNat n) (freeTo xs b)).length) co9]) (.c .z .n) (own_take' (by omega)) ?_
 refine FJ.ql rfl (q_sliceTake (b := (List.take (Int.toNat n) (freeTo xs b)).length) rfl u_22 sz_2 (.t (.s .z)) (.t .z) (by omega)) ?_
 refine FJ.ql rfl (q_build (ps := [(1, .slice Ao9 ((List.take (Int.toNat n) (freeTo xs b)).length) co9)]) (cs := [.int .i64 0, .slice Ao9 ((List.take (Int.toNat n) (freeTo xs b)).length) co9]) rfl bl_57 (by intro act hact; simp only [List.map_toArray, List.map_cons, List.map_nil, (show Val _ _ _ from (.t .z)) act hact]) rfl) ?_
 refine FJ.es (goes_list rfl) rfl (es_store (off := 0) (cs := [.int .i64 0, .slice Ao9 ((List.take (Int.toNat n) (freeTo xs b)).length) co9]) rfl sz_57 (.t (.s16 (.s4 (.s .z)))) (.t .z) rfl (ones rfl) (.s .z) (Nat.le_of_ble_eq_true rfl) (.c .z (.c (.s .z) .n))) ?_
 refine FJ.nil (FJ.then_ (FJ.ret ?_))
 refine FJ.doneS (resC (cs := [.int .i64 0, .slice Ao9 ((List.take (Int.toNat n) (freeTo xs b)).length) co9]) rfl (.s16 (.s4 (.s .z))) ag_57 sz_57 (WS.rows0 (cs := [.int .i64 0, .slice Ao9 ((List.take (Int.toNat n) (freeTo xs b)).length) co9]) .z (fun _ _ h => h))) (.c (.s .z) .n) ?_
 first | (rw [pickR_f (by assumption)]; exact ⟨_, rfl, rfl⟩) | (rw [pickR_0 (by assumption), pickOf_3 (by assumption)]; exact ⟨_, rfl, rfl⟩) | (rw [pickR_0 (by assumption), pickOf_8 (by assumption) (by assumption)]; exact ⟨_, rfl, rfl⟩) | (rw [pickR_0 (by assumption), pickOf_0 (by assumption) (by assumption)]; exact ⟨_, rfl, rfl⟩) | (rw [pickR_0 (by assumption)]; exact ⟨_, rfl, rfl⟩)

end Go.Proofs.Ytoaebcjjfojfeaa

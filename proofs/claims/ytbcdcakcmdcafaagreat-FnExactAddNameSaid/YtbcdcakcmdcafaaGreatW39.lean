/- What is proved: contracts of functions, one a function. No condition. -/
import Derived.Test.YtbcdcakcmdcafaaGreatW38
import Derived.Test.YtbcdcakcmdcafaaGreatW32
import Derived.Test.YtbcdcakcmdcafaaGreatBase2
namespace Go.Proofs.YtbcdcakcmdcafaaGreat
open Go Go.RowKit
set_option linter.unusedVariables false
set_option linter.unusedSimpArgs false
set_option maxHeartbeats 1000000 in
set_option maxRecDepth 20000 in
theorem c_79 {w0 : World} {S0 : Bs} {f : DFs} {v0_0 : Value} {v0_1 : Value} (c : Int) (hs : Star [ownA kSl_66 f.inodes [v0_0], ownA kSl_39 f.data [v0_1]] w0 S0)  :
    Calls Tryz.prog 79 #[.agg #[v0_0, v0_1], .int .i64 c] w0 (TriPost w0 S0 (RA_28 (fsR f c))) := by
 refine FJ.enter (N := 11) Tryz.func79 rfl rfl (by simp) [(0, .agg #[v0_0, v0_1]), (1, .int .i64 c)] (by simp) hs ?_
 refine FJ.know (WS.oform .z) ?_
 rintro ⟨Ao1, co1, rfl, hlo1, hmo1, hbo1⟩
 refine FJ.know (WS.oform (.s .z)) ?_
 rintro ⟨Ao2, co2, rfl, hlo2, hmo2, hbo2⟩
 refine FJ.seq (FJ.region ?_)
 refine FJ.e (goes_list rfl) rfl (by decide) rfl (e_box (cs := [.slice Ao1 f.inodes.length co1, .slice Ao2 f.data.length co2]) (n := 2) rfl (.t .z) rfl rfl) ?_
 rintro _ _ ⟨g3, rfl, rfl⟩
 refine FJ.e (goes_list rfl) rfl (by decide) rfl (e_alloc rfl z_28 rfl rfl) ?_
 rintro _ _ ⟨g4, rfl, rfl⟩
 refine FJ.nil (FJ.then_ (FJ.seq (FJ.seq (FJ.region ?_))))
 refine FJ.ql rfl (q_move rfl (.t (.s (.s (.s .z))))) (FJ.ql rfl (q_neq rfl (.t .z) .c) (FJ.nil (FJ.then_ ?_)))
 refine FJ.condN (.t .z) (fun b5 => ?_) (fun b5 => ?_)
 refine FJ.seq (FJ.region (FJ.ql rfl (q_move rfl (.t (.s4 (.s .z)))) ?_))
 refine FJ.ql rfl (q_build (ps := [(0, .int .i64 c)]) (cs := [.int .i64 c, .slice none 0 0, .slice none 0 0]) rfl bl_28 (by intro act hact; simp only [List.map_toArray, List.map_cons, List.map_nil, (show Val _ _ _ from (.t .z)) act hact]) rfl) ?_
 refine FJ.es (goes_list rfl) rfl (es_store (off := 0) (cs := [.int .i64 c, .slice none 0 0, .slice none 0 0]) rfl sz_28 (.t (.s4 .z)) (.t .z) rfl (ones rfl) .z (Nat.le_of_ble_eq_true rfl) (.c .z (.c (.s .z) (.c (.s (.s .z)) .n)))) ?_
 refine FJ.nil (FJ.then_ (FJ.ret (FJ.thenR ?_)))
 refine FJ.add (c := ownA kSl_66 [] [.slice none 0 0]) (fun w S => own_nil w S none) ?_
 refine FJ.add (c := ownA kSl_39 [] [.slice none 0 0]) (fun w S => own_nil w S none) ?_
 refine FJ.doneS (resC (cs := [.int .i64 c, .slice none 0 0, .slice none 0 0]) rfl (.s4 .z) ag_28 sz_28 (WS.rows0 (cs := [.int .i64 c, .slice none 0 0, .slice none 0 0]) (.s (.s .z)) (fun _ _ h => h))) (.c (.s .z) (.c .z .n)) ?_
 first | (rw [fsR_c (by assumption)]; exact ⟨_, _, rfl, rfl⟩) | (rw [fsR_0 (by omega)]; exact ⟨_, _, rfl, rfl⟩)
 refine FJ.skip (FJ.then_ (FJ.seq (FJ.region ?_)))
 refine FJ.ql rfl (q_loadA (cs := [.slice Ao1 f.inodes.length co1, .slice Ao2 f.data.length co2]) rfl ag_26 sz_26 (.t (.s (.s (.s .z)))) (WS.rows0 (.s .z) (fun i u h => by exact h))) ?_
 refine FJ.ql rfl (q_build (ps := [(1, .agg #[.slice Ao1 f.inodes.length co1, .slice Ao2 f.data.length co2])]) (cs := [.int .i64 0, .slice Ao1 f.inodes.length co1, .slice Ao2 f.data.length co2]) rfl bl_28 (by intro act hact; simp only [List.map_toArray, List.map_cons, List.map_nil, (show Val _ _ _ from (.t .z)) act hact]) rfl) ?_
 refine FJ.es (goes_list rfl) rfl (es_store (off := 0) (cs := [.int .i64 0, .slice Ao1 f.inodes.length co1, .slice Ao2 f.data.length co2]) rfl sz_28 (.t (.s4 .z)) (.t .z) rfl (ones rfl) .z (Nat.le_of_ble_eq_true rfl) (.c .z (.c (.s .z) (.c (.s (.s .z)) .n)))) ?_
 refine FJ.nil (FJ.then_ (FJ.ret ?_))
 refine FJ.doneS (resC (cs := [.int .i64 0, .slice Ao1 f.inodes.length co1, .slice Ao2 f.data.length co2]) rfl (.s4 .z) ag_28 sz_28 (WS.rows0 (cs := [.int .i64 0, .slice Ao1 f.inodes.length co1, .slice Ao2 f.data.length co2]) .z (fun _ _ h => h))) (.c (.s (.s .z)) (.c (.s (.s .z)) .n)) ?_
 first | (rw [fsR_c (by assumption)]; exact ⟨_, _, rfl, rfl⟩) | (rw [fsR_0 (by omega)]; exact ⟨_, _, rfl, rfl⟩)

set_option maxHeartbeats 1000000 in
set_option maxRecDepth 20000 in
theorem c_35 {w0 : World} {S0 : Bs} {f : DFs} {cs0 : List Value} (h0 : kT_26.ro w0 (FF w0 S0) f cs0) (a : Int) (s : ByteArray) (hz2 : s.size ≤ 140737488351232) (b : Int)  :
    Calls Tryz.prog 35 #[.agg cs0.toArray, .int .i64 a, .string s, .int .i64 b] w0 (TriPost w0 S0 (RA_28 (addNameR f a s b))) := by
 obtain ⟨u0_0, u0_1, rfl, h0_0, h0_1⟩ := kT_26_ro h0
 obtain ⟨A0_0, c0_0, rfl, hl0_0, hm0_0, hb0_0, he0_0⟩ := ro_form h0_0
 obtain ⟨A0_1, c0_1, rfl, hl0_1, hm0_1, hb0_1, he0_1⟩ := ro_form h0_1
 refine FJ.enter (N := 29) Tryz.func35 rfl rfl (by simp) [(0, .agg #[.slice A0_0 f.inodes.length c0_0, .slice A0_1 f.data.length c0_1]), (1, .int .i64 a), (2, .string s), (3, .int .i64 b)] (by simp) (l0 := []) trivial ?_
 refine FJ.seq (FJ.region ?_)
 refine FJ.e (goes_list rfl) rfl (by decide) rfl (e_box (cs := [.slice A0_0 f.inodes.length c0_0, .slice A0_1 f.data.length c0_1]) (n := 2) rfl (.t .z) rfl rfl) ?_
 rintro _ _ ⟨g3, rfl, rfl⟩
 refine FJ.e (goes_list rfl) rfl (by decide) rfl (e_alloc rfl z_28 rfl rfl) ?_
 rintro _ _ ⟨g4, rfl, rfl⟩
 refine FJ.nil (FJ.then_ (FJ.seq (FJ.seq (FJ.region ?_))))
 refine FJ.ql rfl (q_loadA (cs := [.slice A0_0 f.inodes.length c0_0, .slice A0_1 f.data.length c0_1]) rfl ag_26 sz_26 (.t (.s .z)) (WS.rows0 (.s .z) (fun i u h => by exact h))) ?_
 refine FJ.ql rfl (q_move rfl (.t (.s4 .z))) (FJ.ql rfl (q_move rfl (.t (.s4 (.s (.s .z))))) ?_)
 refine FJ.call (goes_list rfl) rfl (by decide) rfl (c_call rfl Tryz.func70 rfl rfl (args3 (.t (.s (.s .z))) (.t (.s .z)) (.t .z))) .n (fun w1 S1 hs tr => c_70 (kT_26_mk f (tr.ctx h0_0) (tr.ctx h0_1)) _ _ (by first | assumption | omega)) ?_
 rintro _ _ ⟨rfl, rfl⟩
 refine FJ.cat .n ?_
 refine FJ.ql rfl (q_assign rfl (.t .z)) (FJ.nil (FJ.then_ (FJ.seq (FJ.region ?_))))
 refine FJ.ql rfl (q_move rfl (.t .z)) (FJ.ql rfl (q_neq rfl (.t .z) .c) (FJ.nil (FJ.then_ ?_)))
 refine FJ.condN (.t .z) (fun b5 => ?_) (fun b5 => ?_)
 refine FJ.seq (FJ.region (FJ.ql rfl (q_move rfl (.t (.s (.s .z)))) ?_))
 refine FJ.ql rfl (q_build (ps := [(0, .int .i64 (nameCode f a s))]) (cs := [.int .i64 (nameCode f a s), .slice none 0 0, .slice none 0 0]) rfl bl_28 (by intro act hact; simp only [List.map_toArray, List.map_cons, List.map_nil, (show Val _ _ _ from (.t .z)) act hact]) rfl) ?_
 refine FJ.es (goes_list rfl) rfl (es_store (off := 0) (cs := [.int .i64 (nameCode f a s), .slice none 0 0, .slice none 0 0]) rfl sz_28 (.t (.s4 (.s4 (.s .z)))) (.t .z) rfl (ones rfl) .z (Nat.le_of_ble_eq_true rfl) (.c .z (.c (.s .z) (.c (.s (.s .z)) .n)))) ?_
 refine FJ.nil (FJ.then_ (FJ.ret (FJ.thenR ?_)))
 refine FJ.add (c := ownA kSl_66 [] [.slice none 0 0]) (fun w S => own_nil w S none) ?_
 refine FJ.add (c := ownA kSl_39 [] [.slice none 0 0]) (fun w S => own_nil w S none) ?_
 refine FJ.doneS (resC (cs := [.int .i64 (nameCode f a s), .slice none 0 0, .slice none 0 0]) rfl (.s4 (.s4 (.s .z))) ag_28 sz_28 (WS.rows0 (cs := [.int .i64 (nameCode f a s), .slice none 0 0, .slice none 0 0]) (.s (.s .z)) (fun _ _ h => h))) (.c (.s .z) (.c .z .n)) ?_
 first | (rw [addNameR_f (by assumption)]; exact ⟨_, _, rfl, rfl⟩) | (rw [addNameR_q hnm]; exact ⟨_, _, rfl, rfl⟩) | (rw [addNameR_c hnm (by assumption)]; exact ⟨_, _, rfl, rfl⟩) | (rw [addNameR_0 hnm (by omega)]; exact ⟨_, _, rfl, rfl⟩)
 have hnm : nameCode f a s = 0 := b5
 obtain ⟨ht, hp, -⟩ := dirOk (nameOk hnm)
 have h6 : (entsAt f.inodes a).length ≤ 6 := ents_len (treeI ht) a
 obtain ⟨hp1, hp2⟩ := hp
 refine FJ.skip (FJ.then_ (FJ.seq (FJ.region ?_)))
 refine FJ.ql rfl (q_loadA (cs := [.slice A0_0 f.inodes.length c0_0, .slice A0_1 f.data.length c0_1]) rfl ag_26 sz_26 (.t (.s4 (.s4 .z))) (WS.rows0 (.s .z) (fun i u h => by exact h))) ?_
 refine FJ.call (goes_list rfl) rfl (by decide) rfl (c_call rfl Tryz.func71 rfl rfl (args1 (.t .z))) .n (fun w1 S1 hs tr => c_71 (kT_26_mk f (tr.ctx h0_0) (tr.ctx h0_1))) ?_
 rintro _ _ ⟨v8, v10, rfl, rfl⟩
 refine FJ.cat (.c (.c .n)) ?_
 refine FJ.know (WS.oform .z) ?_
 rintro ⟨Ao12, co12, rfl, hlo12, hmo12, hbo12⟩
 refine FJ.know (WS.oform (.s .z)) ?_
 rintro ⟨Ao13, co13, rfl, hlo13, hmo13, hbo13⟩
 refine FJ.e (goes_list rfl) rfl (by decide) rfl (e_alloc rfl z_26 rfl rfl) ?_
 rintro _ _ ⟨g14, rfl, rfl⟩
 refine FJ.es (goes_list rfl) rfl (es_store (off := 0) (cs := [.slice Ao12 f.inodes.length co12, .slice Ao13 f.data.length co13]) rfl sz_26 (.t .z) (.t (.s .z)) rfl (ones rfl) .z (Nat.le_of_ble_eq_true rfl) (.c .z (.c (.s .z) .n))) ?_
 refine FJ.nil (FJ.then_ (FJ.seq (FJ.region (FJ.ql rfl (q_move rfl (.t (.s4 (.s4 (.s4 (.s .z)))))) ?_))))
 refine FJ.ql rfl (q_move rfl (.t (.s4 (.s4 (.s4 (.s (.s (.s .z)))))))) (FJ.ql rfl (q_move rfl (.t (.s16 (.s .z)))) ?_)
 refine FJ.call (goes_list rfl) rfl (by decide) rfl (c_call rfl Tryz.func78 rfl rfl (args4 (.t (.s (.s (.s .z)))) (.t (.s (.s .z))) (.t (.s .z)) (.t .z))) (.c .z (.c .z (.c .z .n))) (fun w1 S1 hs tr => c_78 (f := f) _ _ (by first | assumption | omega) _ hs (by assumption) (by first | assumption | (constructor <;> omega)) (by omega)) ?_
 rintro _ _ ⟨v15, v17, rfl, rfl⟩
 refine FJ.cat (.c (.c (.c .n))) ?_
 refine FJ.know (WS.oform (.s .z)) ?_
 rintro ⟨Ao19, co19, rfl, hlo19, hmo19, hbo19⟩
 refine FJ.know (WS.oform (.s (.s .z))) ?_
 rintro ⟨Ao20, co20, rfl, hlo20, hmo20, hbo20⟩
 refine FJ.ql rfl (q_assign rfl (.t .z)) (FJ.nil (FJ.then_ (FJ.seq (FJ.region ?_))))
 refine FJ.ql rfl (q_loadA (cs := [.slice Ao19 ((addF f a s b).inodes).length co19, .slice Ao20 ((addF f a s b).data).length co20]) rfl ag_26 sz_26 (.t (.s4 (.s .z))) (WS.rows0 .z (fun i u h => by exact h))) ?_
 refine FJ.ql rfl (q_move rfl (.t (.s .z))) ?_
 refine FJ.call (goes_list rfl) rfl (by decide) rfl (c_call rfl Tryz.func79 rfl rfl (args2 (.t (.s .z)) (.t .z))) (.c (.s .z) (.c (.s .z) .n)) (fun w1 S1 hs tr => c_79 (f := (addF f a s b)) _ hs) ?_
 rintro _ _ ⟨v21, v23, rfl, rfl⟩
 refine FJ.cat (.c (.c .n)) ?_
 refine FJ.know (WS.oform .z) ?_
 rintro ⟨Ao25, co25, rfl, hlo25, hmo25, hbo25⟩
 refine FJ.know (WS.oform (.s .z)) ?_
 rintro ⟨Ao26, co26, rfl, hlo26, hmo26, hbo26⟩
 refine FJ.es (goes_list rfl) rfl (es_store (off := 0) (cs := [.int .i64 ((fsR (addF f a s b) (addC f a s b)).code), .slice Ao25 ((fsR (addF f a s b) (addC f a s b)).fs.inodes).length co25, .slice Ao26 ((fsR (addF f a s b) (addC f a s b)).fs.data).length co26]) rfl sz_28 (.t (.s16 (.s (.s .z)))) (.t .z) rfl (ones rfl) (.s (.s (.s .z))) (Nat.le_of_ble_eq_true rfl) (.c .z (.c (.s .z) (.c (.s (.s .z)) .n)))) ?_
 refine FJ.nil (FJ.then_ (FJ.ret ?_))
 refine FJ.doneS (resC (cs := [.int .i64 ((fsR (addF f a s b) (addC f a s b)).code), .slice Ao25 ((fsR (addF f a s b) (addC f a s b)).fs.inodes).length co25, .slice Ao26 ((fsR (addF f a s b) (addC f a s b)).fs.data).length co26]) rfl (.s16 (.s (.s .z))) ag_28 sz_28 (WS.rows0 (cs := [.int .i64 ((fsR (addF f a s b) (addC f a s b)).code), .slice Ao25 ((fsR (addF f a s b) (addC f a s b)).fs.inodes).length co25, .slice Ao26 ((fsR (addF f a s b) (addC f a s b)).fs.data).length co26]) .z (fun _ _ h => h))) (.c (.s .z) (.c (.s .z) .n)) ?_
 first | (rw [addNameR_f (by assumption)]; exact ⟨_, _, rfl, rfl⟩) | (rw [addNameR_q hnm]; exact ⟨_, _, rfl, rfl⟩) | (rw [addNameR_c hnm (by assumption)]; exact ⟨_, _, rfl, rfl⟩) | (rw [addNameR_0 hnm (by omega)]; exact ⟨_, _, rfl, rfl⟩)

set_option maxHeartbeats 1000000 in
set_option maxRecDepth 20000 in
theorem c_34 {w0 : World} {S0 : Bs} {f : DFs} {cs0 : List Value} (h0 : kT_26.ro w0 (FF w0 S0) f cs0) (a : Int) (s : ByteArray) (hz2 : s.size ≤ 140737488351232) (b : Int)  :
    Calls Tryz.prog 34 #[.agg cs0.toArray, .int .i64 a, .string s, .int .i64 b] w0 (TriPost w0 S0 (RA_28 (addNameR f a s b))) := by
 obtain ⟨u0_0, u0_1, rfl, h0_0, h0_1⟩ := kT_26_ro h0
 obtain ⟨A0_0, c0_0, rfl, hl0_0, hm0_0, hb0_0, he0_0⟩ := ro_form h0_0
 obtain ⟨A0_1, c0_1, rfl, hl0_1, hm0_1, hb0_1, he0_1⟩ := ro_form h0_1
 refine FJ.enter (N := 31) Tryz.func34 rfl rfl (by simp) [(0, .agg #[.slice A0_0 f.inodes.length c0_0, .slice A0_1 f.data.length c0_1]), (1, .int .i64 a), (2, .string s), (3, .int .i64 b)] (by simp) (l0 := []) trivial ?_
 refine FJ.seq (FJ.region ?_)
 refine FJ.e (goes_list rfl) rfl (by decide) rfl (e_box (cs := [.slice A0_0 f.inodes.length c0_0, .slice A0_1 f.data.length c0_1]) (n := 2) rfl (.t .z) rfl rfl) ?_
 rintro _ _ ⟨g3, rfl, rfl⟩
 refine FJ.e (goes_list rfl) rfl (by decide) rfl (e_alloc rfl z_28 rfl rfl) ?_
 rintro _ _ ⟨g4, rfl, rfl⟩
 refine FJ.nil (FJ.then_ (FJ.seq (FJ.seq (FJ.region ?_))))
 refine FJ.ql rfl (q_move rfl (.t (.s (.s (.s .z))))) (FJ.ql rfl (q_move rfl (.t (.s4 (.s .z)))) ?_)
 refine FJ.call (goes_list rfl) rfl (by decide) rfl (c_call rfl Tryz.func65 rfl rfl (args3 (.t (.s (.s (.s .z)))) (.t (.s .z)) (.t .z))) .n (fun w1 S1 hs tr => c_65 (tr.ptr (.s .z) (kT_26_mk f (tr.ctx h0_0) (tr.ctx h0_1))) _ _ (by first | assumption | omega)) ?_
 rintro _ _ ⟨rfl, rfl⟩
 refine FJ.cat .n ?_
 refine FJ.ql rfl (q_assign rfl (.t .z)) (FJ.nil (FJ.then_ (FJ.seq (FJ.region ?_))))
 refine FJ.ql rfl (q_move rfl (.t .z)) (FJ.ql rfl (q_neq rfl (.t .z) .c) (FJ.nil (FJ.then_ ?_)))
 refine FJ.condN (.t .z) (fun b5 => ?_) (fun b5 => ?_)
 refine FJ.seq (FJ.region (FJ.ql rfl (q_move rfl (.t (.s (.s .z)))) ?_))
 refine FJ.ql rfl (q_build (ps := [(0, .int .i64 (nameCode f a s))]) (cs := [.int .i64 (nameCode f a s), .slice none 0 0, .slice none 0 0]) rfl bl_28 (by intro act hact; simp only [List.map_toArray, List.map_cons, List.map_nil, (show Val _ _ _ from (.t .z)) act hact]) rfl) ?_
 refine FJ.es (goes_list rfl) rfl (es_store (off := 0) (cs := [.int .i64 (nameCode f a s), .slice none 0 0, .slice none 0 0]) rfl sz_28 (.t (.s4 (.s4 .z))) (.t .z) rfl (ones rfl) .z (Nat.le_of_ble_eq_true rfl) (.c .z (.c (.s .z) (.c (.s (.s .z)) .n)))) ?_
 refine FJ.nil (FJ.then_ (FJ.ret (FJ.thenR ?_)))
 refine FJ.add (c := ownA kSl_66 [] [.slice none 0 0]) (fun w S => own_nil w S none) ?_
 refine FJ.add (c := ownA kSl_39 [] [.slice none 0 0]) (fun w S => own_nil w S none) ?_
 refine FJ.doneS (resC (cs := [.int .i64 (nameCode f a s), .slice none 0 0, .slice none 0 0]) rfl (.s4 (.s4 .z)) ag_28 sz_28 (WS.rows0 (cs := [.int .i64 (nameCode f a s), .slice none 0 0, .slice none 0 0]) (.s (.s .z)) (fun _ _ h => h))) (.c (.s .z) (.c .z .n)) ?_
 first | (rw [addNameR_f (by assumption)]; exact ⟨_, _, rfl, rfl⟩) | (rw [addNameR_q hnm]; exact ⟨_, _, rfl, rfl⟩) | (rw [addNameR_c hnm (by assumption)]; exact ⟨_, _, rfl, rfl⟩) | (rw [addNameR_0 hnm (by omega)]; exact ⟨_, _, rfl, rfl⟩)
 have hnm : nameCode f a s = 0 := b5
 obtain ⟨ht, hp, -⟩ := dirOk (nameOk hnm)
 have h6 : (entsAt f.inodes a).length ≤ 6 := ents_len (treeI ht) a
 obtain ⟨hp1, hp2⟩ := hp
 refine FJ.skip (FJ.then_ (FJ.seq (FJ.region ?_)))
 refine FJ.ql rfl (q_loadA (cs := [.slice A0_0 f.inodes.length c0_0, .slice A0_1 f.data.length c0_1]) rfl ag_26 sz_26 (.t (.s4 (.s (.s (.s .z))))) (WS.rows0 (.s .z) (fun i u h => by exact h))) ?_
 refine FJ.call (goes_list rfl) rfl (by decide) rfl (c_call rfl Tryz.func67 rfl rfl (args1 (.t .z))) .n (fun w1 S1 hs tr => c_67 (kT_26_mk f (tr.ctx h0_0) (tr.ctx h0_1))) ?_
 rintro _ _ ⟨v8, v10, rfl, rfl⟩
 refine FJ.cat (.c (.c .n)) ?_
 refine FJ.know (WS.oform .z) ?_
 rintro ⟨Ao12, co12, rfl, hlo12, hmo12, hbo12⟩
 refine FJ.know (WS.oform (.s .z)) ?_
 rintro ⟨Ao13, co13, rfl, hlo13, hmo13, hbo13⟩
 refine FJ.e (goes_list rfl) rfl (by decide) rfl (e_alloc rfl z_26 rfl rfl) ?_
 rintro _ _ ⟨g14, rfl, rfl⟩
 refine FJ.es (goes_list rfl) rfl (es_store (off := 0) (cs := [.slice Ao12 f.inodes.length co12, .slice Ao13 f.data.length co13]) rfl sz_26 (.t .z) (.t (.s .z)) rfl (ones rfl) .z (Nat.le_of_ble_eq_true rfl) (.c .z (.c (.s .z) .n))) ?_
 refine FJ.nil (FJ.then_ (FJ.seq (FJ.seq (FJ.region ?_))))
 refine FJ.ql rfl (q_move rfl (.t (.s4 (.s4 (.s4 .z))))) (FJ.ql rfl (q_move rfl (.t (.s4 (.s4 (.s4 (.s (.s .z))))))) (FJ.ql rfl (q_move rfl (.t (.s16 .z))) ?_))
 refine FJ.call (goes_list rfl) rfl (by decide) rfl (c_call rfl Tryz.func77 rfl rfl (args4 (.t (.s (.s (.s .z)))) (.t (.s (.s .z))) (.t (.s .z)) (.t .z))) (.c .z (.c .z (.c .z .n))) (fun w1 S1 hs tr => c_77 (f := f) _ _ (by first | assumption | omega) _ hs (by assumption) (by first | assumption | (constructor <;> omega)) (by omega)) ?_
 rintro _ _ ⟨v15, v17, rfl, rfl⟩
 refine FJ.cat (.c (.c (.c .n))) ?_
 refine FJ.know (WS.oform (.s .z)) ?_
 rintro ⟨Ao19, co19, rfl, hlo19, hmo19, hbo19⟩
 refine FJ.know (WS.oform (.s (.s .z))) ?_
 rintro ⟨Ao20, co20, rfl, hlo20, hmo20, hbo20⟩
 refine FJ.ql rfl (q_assign rfl (.t .z)) (FJ.nil (FJ.then_ (FJ.seq (FJ.region ?_))))
 refine FJ.ql rfl (q_move rfl (.t .z)) (FJ.ql rfl (q_neq rfl (.t .z) .c) (FJ.nil (FJ.then_ ?_)))
 refine FJ.condN (.t .z) (fun b21 => ?_) (fun b21 => ?_)
 refine FJ.seq (FJ.region (FJ.ql rfl (q_move rfl (.t (.s (.s .z)))) ?_))
 refine FJ.ql rfl (q_build (ps := [(0, .int .i64 (addC f a s b))]) (cs := [.int .i64 (addC f a s b), .slice none 0 0, .slice none 0 0]) rfl bl_28 (by intro act hact; simp only [List.map_toArray, List.map_cons, List.map_nil, (show Val _ _ _ from (.t .z)) act hact]) rfl) ?_
 refine FJ.es (goes_list rfl) rfl (es_store (off := 0) (cs := [.int .i64 (addC f a s b), .slice none 0 0, .slice none 0 0]) rfl sz_28 (.t (.s16 (.s (.s .z)))) (.t .z) rfl (ones rfl) (.s (.s (.s .z))) (Nat.le_of_ble_eq_true rfl) (.c .z (.c (.s .z) (.c (.s (.s .z)) .n)))) ?_
 refine FJ.nil (FJ.then_ (FJ.ret (FJ.thenR ?_)))
 refine FJ.add (c := ownA kSl_66 [] [.slice none 0 0]) (fun w S => own_nil w S none) ?_
 refine FJ.add (c := ownA kSl_39 [] [.slice none 0 0]) (fun w S => own_nil w S none) ?_
 refine FJ.doneS (resC (cs := [.int .i64 (addC f a s b), .slice none 0 0, .slice none 0 0]) rfl (.s16 (.s (.s .z))) ag_28 sz_28 (WS.rows0 (cs := [.int .i64 (addC f a s b), .slice none 0 0, .slice none 0 0]) (.s (.s .z)) (fun _ _ h => h))) (.c (.s .z) (.c .z .n)) ?_
 first | (rw [addNameR_f (by assumption)]; exact ⟨_, _, rfl, rfl⟩) | (rw [addNameR_q hnm]; exact ⟨_, _, rfl, rfl⟩) | (rw [addNameR_c hnm (by assumption)]; exact ⟨_, _, rfl, rfl⟩) | (rw [addNameR_0 hnm (by omega)]; exact ⟨_, _, rfl, rfl⟩)
 refine FJ.skip (FJ.then_ (FJ.seq (FJ.region ?_)))
 refine FJ.ql rfl (q_loadA (cs := [.slice Ao19 ((addF f a s b).inodes).length co19, .slice Ao20 ((addF f a s b).data).length co20]) rfl ag_26 sz_26 (.t (.s4 (.s (.s (.s .z))))) (WS.rows0 .z (fun i u h => by exact h))) ?_
 refine FJ.ql rfl (q_build (ps := [(1, .agg #[.slice Ao19 ((addF f a s b).inodes).length co19, .slice Ao20 ((addF f a s b).data).length co20])]) (cs := [.int .i64 0, .slice Ao19 ((addF f a s b).inodes).length co19, .slice Ao20 ((addF f a s b).data).length co20]) rfl bl_28 (by intro act hact; simp only [List.map_toArray, List.map_cons, List.map_nil, (show Val _ _ _ from (.t .z)) act hact]) rfl) ?_
 refine FJ.es (goes_list rfl) rfl (es_store (off := 0) (cs := [.int .i64 0, .slice Ao19 ((addF f a s b).inodes).length co19, .slice Ao20 ((addF f a s b).data).length co20]) rfl sz_28 (.t (.s16 (.s (.s .z)))) (.t .z) rfl (ones rfl) (.s (.s (.s .z))) (Nat.le_of_ble_eq_true rfl) (.c .z (.c (.s .z) (.c (.s (.s .z)) .n)))) ?_
 refine FJ.nil (FJ.then_ (FJ.ret ?_))
 refine FJ.doneS (resC (cs := [.int .i64 0, .slice Ao19 ((addF f a s b).inodes).length co19, .slice Ao20 ((addF f a s b).data).length co20]) rfl (.s16 (.s (.s .z))) ag_28 sz_28 (WS.rows0 (cs := [.int .i64 0, .slice Ao19 ((addF f a s b).inodes).length co19, .slice Ao20 ((addF f a s b).data).length co20]) .z (fun _ _ h => h))) (.c (.s (.s .z)) (.c (.s (.s .z)) .n)) ?_
 first | (rw [addNameR_f (by assumption)]; exact ⟨_, _, rfl, rfl⟩) | (rw [addNameR_q hnm]; exact ⟨_, _, rfl, rfl⟩) | (rw [addNameR_c hnm (by assumption)]; exact ⟨_, _, rfl, rfl⟩) | (rw [addNameR_0 hnm (by omega)]; exact ⟨_, _, rfl, rfl⟩)

end Go.Proofs.YtbcdcakcmdcafaaGreat

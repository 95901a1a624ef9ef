/- What is proved: contracts of functions, one a function. No condition. -/
import Derived.Test.YticaddophhggoaaGreatW40
namespace Go.Proofs.YticaddophhggoaaGreat
open Go Go.RowKit
set_option linter.unusedVariables false
set_option linter.unusedSimpArgs false
set_option maxHeartbeats 1000000 in
set_option maxRecDepth 20000 in
theorem c_76 {w0 : World} {S0 : Bs} {f : DFs} {ad0 : Addr} {v0_0 : Value} {v0_1 : Value} (h0 : PtrRo (kraw 2 (by decide)) w0 (FF w0 S0) ad0 [v0_0, v0_1]) (a : Int) (n : Int) {b : (List Int)} {v3 : Value} (h3 : kSl_2.ro w0 (FF w0 S0) b [v3]) (hs : Star [ownA kSl_73 f.inodes [v0_0], ownA kSl_26 f.data [v0_1]] w0 S0) (ht : treeFault f = 0) (hp : placeIn f.inodes.length a) :
    Calls Tryz.prog 76 #[.pointer (some ad0), .int .i64 a, .int .i64 n, v3] w0 (TriPost w0 S0 (fun r l => r = .int .i64 (cutC f a n b) ∧ l = [ownA kSl_73 (cutQ f a n b).inodes [v0_0], ownA kSl_26 (cutQ f a n b).data [v0_1]])) := by
 obtain ⟨ec0, hF0, ⟨rfl, -, -⟩, hc0⟩ := id h0
 obtain ⟨A3, c3, rfl, hl3, hm3, hb3, he3⟩ := ro_form h3
 obtain ⟨hp1a, hp2a⟩ := hp
 have hI := treeI ht
 have hd := data_20 ht
 have hfl := fileB_len ht a
 have hzl := @padZ_len (fileB f a) n
 refine FJ.enter (N := 23) Tryz.func76 rfl rfl (by simp) [(0, .pointer (some ad0)), (1, .int .i64 a), (2, .int .i64 n), (3, .slice A3 b.length c3)] (by simp) hs ?_
 refine FJ.know (WS.oform .z) ?_
 rintro ⟨Ao2, co2, rfl, hlo2, hmo2, hbo2⟩
 refine FJ.know (WS.oform (.s .z)) ?_
 rintro ⟨Ao3, co3, rfl, hlo3, hmo3, hbo3⟩
 refine FJ.seq (FJ.region (FJ.ql rfl (q_assign rfl .c) (FJ.nil (FJ.then_ ?_))))
 refine FJ.seq (FJ.seq (FJ.region (FJ.ql rfl (q_move rfl (.t (.s (.s (.s .z))))) ?_)))
 refine FJ.call (goes_list rfl) rfl (by decide) rfl (c_call rfl Tryz.func108 rfl rfl (args3 (.t .z) .c .c)) .n (fun w1 S1 hs tr => c_108 _ _ _) ?_
 rintro _ _ ⟨rfl, rfl⟩
 refine FJ.cat .n ?_
 refine FJ.ql rfl (q_not rfl (.t .z)) (FJ.nil (FJ.then_ ?_))
 refine FJ.condN (.t .z) (fun b4 => ?_) (fun b4 => ?_)
 refine FJ.seq (FJ.region (FJ.er (.s (.s (.s .z))) (FJ.ql rfl (q_assign rfl .c) (FJ.nil ?_))))
 refine FJ.then_ (FJ.ret (FJ.thenR ?_))
 refine FJ.doneS (res1 rfl .z) (.c .z (.c .z .n)) ?_
 first | (rw [cutC_3 (by omega), cutQ_3 (by omega)]; exact ⟨rfl, rfl⟩) | (rw [cutC_0 (by omega), cutQ_0 (by omega)]; exact ⟨rfl, rfl⟩)
 refine FJ.skip (FJ.then_ (FJ.seq (FJ.region (FJ.ql rfl (q_move rfl (.t (.s4 .z))) ?_))))
 refine FJ.ql rfl (q_move rfl (.t (.s4 (.s (.s .z))))) (FJ.ql rfl (q_move rfl (.t (.s4 (.s (.s .z))))) (FJ.ql rfl (q_move rfl (.t (.s4 (.s4 .z)))) ?_))
 refine FJ.call (goes_list rfl) rfl (by decide) rfl (c_call rfl Tryz.func91 rfl rfl (args2 (.t (.s .z)) (.t .z))) .n (fun w1 S1 hs tr => c_91 (tr.elw hF0 hc0 (kT_31_mk f (tr.own .z) (tr.own (.s .z)))) _ (by assumption) (by first | assumption | (constructor <;> omega))) ?_
 rintro _ _ rfl
 refine FJ.cat (.c .n) ?_
 refine FJ.know (WS.oform .z) ?_
 rintro ⟨Ao6, co6, rfl, hlo6, hmo6, hbo6⟩
 refine FJ.ql rfl (q_move rfl (.t (.s4 (.s4 (.s (.s (.s .z))))))) ?_
 refine FJ.call (goes_list rfl) rfl (by decide) rfl (c_call rfl Tryz.func133 rfl rfl (args2 (.t (.s .z)) (.t .z))) (.c .z .n) (fun w1 S1 hs tr => c_133 (x := fileB f a) _ hs (by omega) (by omega)) ?_
 rintro _ _ rfl
 refine FJ.cat (.c .n) ?_
 refine FJ.know (WS.oform .z) ?_
 rintro ⟨Ao8, co8, rfl, hlo8, hmo8, hbo8⟩
 refine FJ.ql rfl (q_move rfl (.t (.s4 (.s4 (.s4 (.s .z)))))) ?_
 refine FJ.know (WS.ocap .z) ?_
 rintro ⟨-, hk9, -, -⟩
 have hm10 : (List.take (Int.toNat n) (padZ (fileB f a) n)).length = Int.toNat n := by rw [List.length_take]; rw [padZ_len]; omega
 refine FJ.eq .z (congrArg (Value.int .i64) (show n = (((List.take (Int.toNat n) (padZ (fileB f a) n)).length : Nat) : Int) by rw [hm10]; omega)) ?_
 refine FJ.turns (c := ownA kSl_5 (List.take (Int.toNat n) (padZ (fileB f a) n)) [.slice Ao8 ((List.take (Int.toNat n) (padZ (fileB f a) n)).length) co8]) (.c .z .n) (own_take' (by rw [padZ_len]; omega)) ?_
 refine FJ.ql rfl (q_sliceTake (b := (List.take (Int.toNat n) (padZ (fileB f a) n)).length) rfl u_26 sz_5 (.t (.s .z)) (.t .z) (by omega)) ?_
 refine FJ.ql rfl (q_move rfl (.t (.s16 .z))) ?_
 refine FJ.call (goes_list rfl) rfl (by decide) rfl (c_call rfl Tryz.func65 rfl rfl (args4 (.t (.s4 (.s4 (.s .z)))) (.t (.s4 (.s4 .z))) (.t (.s .z)) (.t .z))) (.c (.s .z) (.c (.s .z) .n)) (fun w1 S1 hs tr => c_65 (f := f) (tr.ctxP h0) _ (tr.own .z) (tr.ctx h3) hs (by assumption) (by assumption) (by first | assumption | (constructor <;> omega)) (by first | omega | (simp only [padZ_len, List.length_take]; omega))) ?_
 rintro _ _ ⟨rfl, rfl⟩
 refine FJ.cat (.c (.c .n)) ?_
 refine FJ.ceq (x' := (setQ f a (List.take (Int.toNat n) (padZ (fileB f a) n)) b).inodes) .z rfl ?_
 refine FJ.ceq (x' := (setQ f a (List.take (Int.toNat n) (padZ (fileB f a) n)) b).data) (.s .z) rfl ?_
 refine FJ.er (.s4 (.s4 (.s4 (.s (.s .z))))) (FJ.ql rfl (q_assign rfl (.t .z)) (FJ.nil (FJ.then_ (FJ.ret ?_))))
 refine FJ.doneS (res1 rfl .z) (.c (.s .z) (.c .z .n)) ?_
 first | (rw [cutC_3 (by omega), cutQ_3 (by omega)]; exact ⟨rfl, rfl⟩) | (rw [cutC_0 (by omega), cutQ_0 (by omega)]; exact ⟨rfl, rfl⟩)

set_option maxHeartbeats 1000000 in
set_option maxRecDepth 20000 in
theorem c_29 {w0 : World} {S0 : Bs} {f : DFs} {cs0 : List Value} (h0 : kT_31.ro w0 (FF w0 S0) f cs0) (a : Int) (n : Int) {b : (List Int)} {v3 : Value} (h3 : kSl_2.ro w0 (FF w0 S0) b [v3])  :
    Calls Tryz.prog 29 #[.agg cs0.toArray, .int .i64 a, .int .i64 n, v3] w0 (TriPost w0 S0 (RA_33 (cutR f a n b))) := by
 obtain ⟨u0_0, u0_1, rfl, h0_0, h0_1⟩ := kT_31_ro h0
 obtain ⟨A0_0, c0_0, rfl, hl0_0, hm0_0, hb0_0, he0_0⟩ := ro_form h0_0
 obtain ⟨A0_1, c0_1, rfl, hl0_1, hm0_1, hb0_1, he0_1⟩ := ro_form h0_1
 obtain ⟨A3, c3, rfl, hl3, hm3, hb3, he3⟩ := ro_form h3
 refine FJ.enter (N := 30) Tryz.func29 rfl rfl (by simp) [(0, .agg #[.slice A0_0 f.inodes.length c0_0, .slice A0_1 f.data.length c0_1]), (1, .int .i64 a), (2, .int .i64 n), (3, .slice A3 b.length c3)] (by simp) (l0 := []) trivial ?_
 refine FJ.seq (FJ.region ?_)
 refine FJ.e (goes_list rfl) rfl (by decide) rfl (e_box (cs := [.slice A0_0 f.inodes.length c0_0, .slice A0_1 f.data.length c0_1]) (n := 2) rfl (.t .z) rfl rfl) ?_
 rintro _ _ ⟨g4, rfl, rfl⟩
 refine FJ.e (goes_list rfl) rfl (by decide) rfl (e_alloc rfl z_33 rfl rfl) ?_
 rintro _ _ ⟨g5, rfl, rfl⟩
 refine FJ.nil (FJ.then_ (FJ.seq (FJ.seq (FJ.region ?_))))
 refine FJ.ql rfl (q_loadA (cs := [.slice A0_0 f.inodes.length c0_0, .slice A0_1 f.data.length c0_1]) rfl ag_31 sz_31 (.t (.s .z)) (WS.rows0 (.s .z) (fun i u h => by exact h))) ?_
 refine FJ.ql rfl (q_move rfl (.t (.s4 .z))) ?_
 refine FJ.call (goes_list rfl) rfl (by decide) rfl (c_call rfl Tryz.func62 rfl rfl (args2 (.t (.s .z)) (.t .z))) .n (fun w1 S1 hs tr => c_62 (kT_31_mk f (tr.ctx h0_0) (tr.ctx h0_1)) _) ?_
 rintro _ _ ⟨rfl, rfl⟩
 refine FJ.cat .n ?_
 refine FJ.ql rfl (q_move rfl (.t (.s4 (.s4 .z)))) ?_
 refine FJ.call (goes_list rfl) rfl (by decide) rfl (c_call rfl Tryz.func61 rfl rfl (args2 (.t (.s .z)) (.t .z))) .n (fun w1 S1 hs tr => c_61 _ (tr.ctx h3)) ?_
 rintro _ _ ⟨rfl, rfl⟩
 refine FJ.cat .n ?_
 refine FJ.ql rfl (q_assign rfl (.t .z)) (FJ.nil (FJ.then_ (FJ.seq (FJ.region ?_))))
 refine FJ.ql rfl (q_move rfl (.t .z)) (FJ.ql rfl (q_neq rfl (.t .z) .c) (FJ.nil (FJ.then_ ?_)))
 refine FJ.condN (.t .z) (fun b6 => ?_) (fun b6 => ?_)
 have hw1 : ¬ wcode f a b = 0 := b6
 refine FJ.seq (FJ.region (FJ.ql rfl (q_move rfl (.t (.s (.s .z)))) ?_))
 refine FJ.ql rfl (q_build (ps := [(0, .int .i64 (if bytesCode f a = 0 then busyFault b else bytesCode f a))]) (cs := [.int .i64 (if bytesCode f a = 0 then busyFault b else bytesCode f a), .slice none 0 0, .slice none 0 0]) rfl bl_33 (by intro act hact; simp only [List.map_toArray, List.map_cons, List.map_nil, (show Val _ _ _ from (.t .z)) act hact]) rfl) ?_
 refine FJ.es (goes_list rfl) rfl (es_store (off := 0) (cs := [.int .i64 (if bytesCode f a = 0 then busyFault b else bytesCode f a), .slice none 0 0, .slice none 0 0]) rfl sz_33 (.t (.s4 (.s4 (.s (.s .z))))) (.t .z) rfl (ones rfl) .z (Nat.le_of_ble_eq_true rfl) (.c .z (.c (.s .z) (.c (.s (.s .z)) .n)))) ?_
 refine FJ.nil (FJ.then_ (FJ.ret (FJ.thenR ?_)))
 refine FJ.add (c := ownA kSl_73 [] [.slice none 0 0]) (fun w S => own_nil w S none) ?_
 refine FJ.add (c := ownA kSl_26 [] [.slice none 0 0]) (fun w S => own_nil w S none) ?_
 refine FJ.doneS (resC (cs := [.int .i64 (if bytesCode f a = 0 then busyFault b else bytesCode f a), .slice none 0 0, .slice none 0 0]) rfl (.s4 (.s4 (.s (.s .z)))) ag_33 sz_33 (WS.rows0 (cs := [.int .i64 (if bytesCode f a = 0 then busyFault b else bytesCode f a), .slice none 0 0, .slice none 0 0]) (.s (.s .z)) (fun _ _ h => h))) (.c (.s .z) (.c .z .n)) ?_
 first | (rw [cutR_f hw1]; exact ⟨_, _, rfl, rfl⟩) | (rw [cutR_q hw0]; exact ⟨_, _, rfl, rfl⟩)
 have hw0 : wcode f a b = 0 := b6
 obtain ⟨hbc, hbz⟩ := wOk hw0
 obtain ⟨hF, ⟨hpa, hpb⟩, hk2, hn0⟩ := bytesOk hbc
 have ht := fsTree hF
 have hI := treeI ht
 have hd := data_20 ht
 have hB := blocks_in hI a
 have hfl := fileB_len ht a
 refine FJ.skip (FJ.then_ (FJ.seq (FJ.region ?_)))
 refine FJ.ql rfl (q_loadA (cs := [.slice A0_0 f.inodes.length c0_0, .slice A0_1 f.data.length c0_1]) rfl ag_31 sz_31 (.t (.s4 (.s4 (.s .z)))) (WS.rows0 (.s .z) (fun i u h => by exact h))) ?_
 refine FJ.call (goes_list rfl) rfl (by decide) rfl (c_call rfl Tryz.func63 rfl rfl (args1 (.t .z))) .n (fun w1 S1 hs tr => c_63 (kT_31_mk f (tr.ctx h0_0) (tr.ctx h0_1))) ?_
 rintro _ _ ⟨v9, v11, rfl, rfl⟩
 refine FJ.cat (.c (.c .n)) ?_
 refine FJ.know (WS.oform .z) ?_
 rintro ⟨Ao13, co13, rfl, hlo13, hmo13, hbo13⟩
 refine FJ.know (WS.oform (.s .z)) ?_
 rintro ⟨Ao14, co14, rfl, hlo14, hmo14, hbo14⟩
 refine FJ.e (goes_list rfl) rfl (by decide) rfl (e_alloc rfl z_31 rfl rfl) ?_
 rintro _ _ ⟨g15, rfl, rfl⟩
 refine FJ.es (goes_list rfl) rfl (es_store (off := 0) (cs := [.slice Ao13 f.inodes.length co13, .slice Ao14 f.data.length co14]) rfl sz_31 (.t .z) (.t (.s .z)) rfl (ones rfl) .z (Nat.le_of_ble_eq_true rfl) (.c .z (.c (.s .z) .n))) ?_
 refine FJ.nil (FJ.then_ (FJ.seq (FJ.region (FJ.ql rfl (q_move rfl (.t (.s4 (.s4 (.s4 (.s (.s .z))))))) ?_))))
 refine FJ.ql rfl (q_move rfl (.t (.s16 .z))) (FJ.ql rfl (q_move rfl (.t (.s16 (.s (.s .z))))) ?_)
 refine FJ.call (goes_list rfl) rfl (by decide) rfl (c_call rfl Tryz.func76 rfl rfl (args4 (.t (.s (.s (.s .z)))) (.t (.s (.s .z))) (.t (.s .z)) (.t .z))) (.c (.s .z) (.c (.s .z) .n)) (fun w1 S1 hs tr => c_76 (f := f) (tr.ptr .z ⟨rfl, rfl, ones rfl⟩) _ _ (tr.ctx h3) hs (by assumption) (by first | assumption | (constructor <;> omega))) ?_
 rintro _ _ ⟨rfl, rfl⟩
 refine FJ.cat (.c (.c .n)) ?_
 refine FJ.ceq (x' := (cutQ f a n b).inodes) .z rfl ?_
 refine FJ.ceq (x' := (cutQ f a n b).data) (.s .z) rfl ?_
 refine FJ.ql rfl (q_assign rfl (.t .z)) (FJ.nil (FJ.then_ (FJ.seq (FJ.region ?_))))
 refine FJ.ql rfl (q_loadA (cs := [.slice Ao13 f.inodes.length co13, .slice Ao14 f.data.length co14]) rfl ag_31 sz_31 (.t (.s4 (.s .z))) (WS.rows0 (.s (.s .z)) (fun i u h => by exact h))) ?_
 refine FJ.ql rfl (q_move rfl (.t (.s .z))) ?_
 refine FJ.call (goes_list rfl) rfl (by decide) rfl (c_call rfl Tryz.func64 rfl rfl (args2 (.t (.s .z)) (.t .z))) (.c (.s .z) (.c .z .n)) (fun w1 S1 hs tr => c_64 (f := (cutQ f a n b)) _ hs) ?_
 rintro _ _ ⟨v16, v18, rfl, rfl⟩
 refine FJ.cat (.c (.c .n)) ?_
 refine FJ.know (WS.oform .z) ?_
 rintro ⟨Ao20, co20, rfl, hlo20, hmo20, hbo20⟩
 refine FJ.know (WS.oform (.s .z)) ?_
 rintro ⟨Ao21, co21, rfl, hlo21, hmo21, hbo21⟩
 refine FJ.es (goes_list rfl) rfl (es_store (off := 0) (cs := [.int .i64 ((fsR (cutQ f a n b) (cutC f a n b)).code), .slice Ao20 ((fsR (cutQ f a n b) (cutC f a n b)).fs.inodes).length co20, .slice Ao21 ((fsR (cutQ f a n b) (cutC f a n b)).fs.data).length co21]) rfl sz_33 (.t (.s16 (.s (.s (.s .z))))) (.t .z) rfl (ones rfl) (.s (.s (.s .z))) (Nat.le_of_ble_eq_true rfl) (.c .z (.c (.s .z) (.c (.s (.s .z)) .n)))) ?_
 refine FJ.nil (FJ.then_ (FJ.ret ?_))
 refine FJ.doneS (resC (cs := [.int .i64 ((fsR (cutQ f a n b) (cutC f a n b)).code), .slice Ao20 ((fsR (cutQ f a n b) (cutC f a n b)).fs.inodes).length co20, .slice Ao21 ((fsR (cutQ f a n b) (cutC f a n b)).fs.data).length co21]) rfl (.s16 (.s (.s (.s .z)))) ag_33 sz_33 (WS.rows0 (cs := [.int .i64 ((fsR (cutQ f a n b) (cutC f a n b)).code), .slice Ao20 ((fsR (cutQ f a n b) (cutC f a n b)).fs.inodes).length co20, .slice Ao21 ((fsR (cutQ f a n b) (cutC f a n b)).fs.data).length co21]) .z (fun _ _ h => h))) (.c (.s .z) (.c (.s .z) .n)) ?_
 first | (rw [cutR_f hw1]; exact ⟨_, _, rfl, rfl⟩) | (rw [cutR_q hw0]; exact ⟨_, _, rfl, rfl⟩)

set_option maxHeartbeats 1000000 in
set_option maxRecDepth 20000 in
theorem c_28 {w0 : World} {S0 : Bs} {f : DFs} {cs0 : List Value} (h0 : kT_31.ro w0 (FF w0 S0) f cs0) (a : Int) (n : Int) {b : (List Int)} {v3 : Value} (h3 : kSl_2.ro w0 (FF w0 S0) b [v3])  :
    Calls Tryz.prog 28 #[.agg cs0.toArray, .int .i64 a, .int .i64 n, v3] w0 (TriPost w0 S0 (RA_33 (cutR f a n b))) := by
 obtain ⟨u0_0, u0_1, rfl, h0_0, h0_1⟩ := kT_31_ro h0
 obtain ⟨A0_0, c0_0, rfl, hl0_0, hm0_0, hb0_0, he0_0⟩ := ro_form h0_0
 obtain ⟨A0_1, c0_1, rfl, hl0_1, hm0_1, hb0_1, he0_1⟩ := ro_form h0_1
 obtain ⟨A3, c3, rfl, hl3, hm3, hb3, he3⟩ := ro_form h3
 refine FJ.enter (N := 38) Tryz.func28 rfl rfl (by simp) [(0, .agg #[.slice A0_0 f.inodes.length c0_0, .slice A0_1 f.data.length c0_1]), (1, .int .i64 a), (2, .int .i64 n), (3, .slice A3 b.length c3)] (by simp) (l0 := []) trivial ?_
 refine FJ.seq (FJ.region ?_)
 refine FJ.e (goes_list rfl) rfl (by decide) rfl (e_box (cs := [.slice A0_0 f.inodes.length c0_0, .slice A0_1 f.data.length c0_1]) (n := 2) rfl (.t .z) rfl rfl) ?_
 rintro _ _ ⟨g4, rfl, rfl⟩
 refine FJ.e (goes_list rfl) rfl (by decide) rfl (e_alloc rfl z_33 rfl rfl) ?_
 rintro _ _ ⟨g5, rfl, rfl⟩
 refine FJ.nil (FJ.then_ (FJ.seq (FJ.seq (FJ.region ?_))))
 refine FJ.ql rfl (q_move rfl (.t (.s (.s (.s .z))))) (FJ.ql rfl (q_move rfl (.t (.s4 (.s (.s .z))))) ?_)
 refine FJ.call (goes_list rfl) rfl (by decide) rfl (c_call rfl Tryz.func57 rfl rfl (args3 (.t (.s (.s (.s .z)))) (.t (.s .z)) (.t .z))) .n (fun w1 S1 hs tr => c_57 (tr.ptr (.s .z) (kT_31_mk f (tr.ctx h0_0) (tr.ctx h0_1))) _ (tr.ctx h3)) ?_
 rintro _ _ ⟨rfl, rfl⟩
 refine FJ.cat .n ?_
 refine FJ.ql rfl (q_assign rfl (.t .z)) (FJ.nil (FJ.then_ (FJ.seq (FJ.region ?_))))
 refine FJ.ql rfl (q_move rfl (.t .z)) (FJ.ql rfl (q_neq rfl (.t .z) .c) (FJ.nil (FJ.then_ ?_)))
 refine FJ.condN (.t .z) (fun b6 => ?_) (fun b6 => ?_)
 have hw1 : ¬ wcode f a b = 0 := b6
 refine FJ.seq (FJ.region (FJ.ql rfl (q_move rfl (.t (.s (.s .z)))) ?_))
 refine FJ.ql rfl (q_build (ps := [(0, .int .i64 (wcode f a b))]) (cs := [.int .i64 (wcode f a b), .slice none 0 0, .slice none 0 0]) rfl bl_33 (by intro act hact; simp only [List.map_toArray, List.map_cons, List.map_nil, (show Val _ _ _ from (.t .z)) act hact]) rfl) ?_
 refine FJ.es (goes_list rfl) rfl (es_store (off := 0) (cs := [.int .i64 (wcode f a b), .slice none 0 0, .slice none 0 0]) rfl sz_33 (.t (.s4 (.s4 .z))) (.t .z) rfl (ones rfl) .z (Nat.le_of_ble_eq_true rfl) (.c .z (.c (.s .z) (.c (.s (.s .z)) .n)))) ?_
 refine FJ.nil (FJ.then_ (FJ.ret (FJ.thenR ?_)))
 refine FJ.add (c := ownA kSl_73 [] [.slice none 0 0]) (fun w S => own_nil w S none) ?_
 refine FJ.add (c := ownA kSl_26 [] [.slice none 0 0]) (fun w S => own_nil w S none) ?_
 refine FJ.doneS (resC (cs := [.int .i64 (wcode f a b), .slice none 0 0, .slice none 0 0]) rfl (.s4 (.s4 .z)) ag_33 sz_33 (WS.rows0 (cs := [.int .i64 (wcode f a b), .slice none 0 0, .slice none 0 0]) (.s (.s .z)) (fun _ _ h => h))) (.c (.s .z) (.c .z .n)) ?_
 first | (rw [cutR_f hw1]; exact ⟨_, _, rfl, rfl⟩) | (rw [cutR_3 hw0 (by omega)]; exact ⟨_, _, rfl, rfl⟩) | (rw [cutR_0 hw0 (by omega)]; exact ⟨_, _, rfl, rfl⟩)
 have hw0 : wcode f a b = 0 := b6
 obtain ⟨hbc, hbz⟩ := wOk hw0
 obtain ⟨hF, ⟨hpa, hpb⟩, hk2, hn0⟩ := bytesOk hbc
 have ht := fsTree hF
 have hI := treeI ht
 have hd := data_20 ht
 have hB := blocks_in hI a
 have hfl := fileB_len ht a
 refine FJ.skip (FJ.then_ (FJ.seq (FJ.seq (FJ.region ?_))))
 refine FJ.ql rfl (q_move rfl (.t (.s4 (.s4 (.s (.s .z)))))) ?_
 refine FJ.call (goes_list rfl) rfl (by decide) rfl (c_call rfl Tryz.func75 rfl rfl (args1 (.t .z))) .n (fun w1 S1 hs tr => c_75 _) ?_
 rintro _ _ ⟨rfl, rfl⟩
 refine FJ.cat .n ?_
 refine FJ.ql rfl (q_not rfl (.t .z)) (FJ.nil (FJ.then_ ?_))
 refine FJ.condN (.t .z) (fun b9 => ?_) (fun b9 => ?_)
 refine FJ.seq (FJ.region ?_)
 refine FJ.ql rfl (q_build (ps := [(0, .int .i64 3)]) (cs := [.int .i64 3, .slice none 0 0, .slice none 0 0]) rfl bl_33 (by intro act hact; simp only [List.map_toArray, List.map_cons, List.map_nil, (show Val _ _ _ from .c) act hact]) rfl) ?_
 refine FJ.es (goes_list rfl) rfl (es_store (off := 0) (cs := [.int .i64 3, .slice none 0 0, .slice none 0 0]) rfl sz_33 (.t (.s4 (.s4 (.s (.s .z))))) (.t .z) rfl (ones rfl) .z (Nat.le_of_ble_eq_true rfl) (.c .z (.c (.s .z) (.c (.s (.s .z)) .n)))) ?_
 refine FJ.nil (FJ.then_ (FJ.ret (FJ.thenR ?_)))
 refine FJ.add (c := ownA kSl_73 [] [.slice none 0 0]) (fun w S => own_nil w S none) ?_
 refine FJ.add (c := ownA kSl_26 [] [.slice none 0 0]) (fun w S => own_nil w S none) ?_
 refine FJ.doneS (resC (cs := [.int .i64 3, .slice none 0 0, .slice none 0 0]) rfl (.s4 (.s4 (.s (.s .z)))) ag_33 sz_33 (WS.rows0 (cs := [.int .i64 3, .slice none 0 0, .slice none 0 0]) (.s (.s .z)) (fun _ _ h => h))) (.c (.s .z) (.c .z .n)) ?_
 first | (rw [cutR_f hw1]; exact ⟨_, _, rfl, rfl⟩) | (rw [cutR_3 hw0 (by omega)]; exact ⟨_, _, rfl, rfl⟩) | (rw [cutR_0 hw0 (by omega)]; exact ⟨_, _, rfl, rfl⟩)
 refine FJ.skip (FJ.then_ (FJ.seq (FJ.region (FJ.ql rfl (q_move rfl (.t (.s4 (.s4 (.s4 .z))))) ?_))))
 refine FJ.call (goes_list rfl) rfl (by decide) rfl (c_call rfl Tryz.func73 rfl rfl (args2 (.t (.s4 (.s4 (.s (.s (.s .z)))))) (.t .z))) .n (fun w1 S1 hs tr => c_73 (tr.ptr (.s .z) (kT_31_mk f (tr.ctx h0_0) (tr.ctx h0_1))) _ (by assumption) (by first | assumption | (constructor <;> omega))) ?_
 rintro _ _ rfl
 refine FJ.cat (.c .n) ?_
 refine FJ.know (WS.oform .z) ?_
 rintro ⟨Ao13, co13, rfl, hlo13, hmo13, hbo13⟩
 refine FJ.ql rfl (q_assign rfl (.t .z)) (FJ.nil (FJ.then_ (FJ.seq (FJ.block ?_))))
 have he14 : fileB f a = fileB f a ++ List.replicate 0 0 := (padz_0 _)
 refine FJ.ceq .z he14 ?_
 refine FJ.chEq .z (congrArg (fun z_ : Nat => (ownA kSl_5 (fileB f a ++ List.replicate 0 0) [.slice Ao13 z_ co13] : Asn)) (congrArg List.length he14)) ?_
 refine FJ.eq .z (congrArg (fun z_ : Nat => (.slice Ao13 z_ co13 : Value)) (congrArg List.length he14)) ?_
 refine FJ.eq (.s .z) (congrArg (fun z_ : Nat => (.slice Ao13 z_ co13 : Value)) (congrArg List.length he14)) ?_
 refine FJ.loopi (γ := Nat × (Option Addr) × Nat) (fun ⟨k, Agk0, cgk0⟩ => [(10, .slice Agk0 (fileB f a ++ List.replicate k 0).length cgk0), (8, .pointer (some ⟨g5, 0, none⟩)), (4, .pointer (some ⟨g4, 0, none⟩)), (1, .int .i64 a), (2, .int .i64 n), (3, .slice A3 b.length c3)]) (fun ⟨k, Agk0, cgk0⟩ => [ownA kSl_5 (fileB f a ++ List.replicate k 0) [.slice Agk0 (fileB f a ++ List.replicate k 0).length cgk0], rowA g5 33 3 1 [.int .i64 0, .slice none 0 0, .slice none 0 0], rowA g4 31 2 1 [.slice A0_0 f.inodes.length c0_0, .slice A0_1 f.data.length c0_1]]) (fun ⟨k, Agk0, cgk0⟩ => k ≤ Int.toNat (n) - (fileB f a).length) (fun ⟨k, Agk0, cgk0⟩ => Int.toNat (n) - (fileB f a).length - k) (0, Ao13, co13) (Nat.zero_le _) (.c (.s .z) (.c (.s4 (.s4 (.s4 .z))) (.c (.s4 (.s4 (.s4 (.s .z)))) (.c (.s4 (.s4 (.s4 (.s (.s (.s .z)))))) (.c (.s16 .z) (.c (.s16 (.s .z)) .n)))))) (fun _ h => h.sel (.c .z (.c .z (.c .z .n)))) ?_
 rintro ⟨k, Agk0, cgk0⟩ hk
 have hpl := padz_len (L := fileB f a) (k := k)
 refine FJ.seq (FJ.seq (FJ.region (FJ.ql rfl (q_move rfl (.t .z)) (FJ.ql rfl (q_len rfl u_26 (.t .z)) ?_))))
 refine FJ.ql rfl (q_move rfl (.t (.s4 (.s (.s .z))))) (FJ.ql rfl (q_lss rfl (.t (.s .z)) (.t .z)) (FJ.nil (FJ.then_ ?_)))
 refine FJ.condP (.t .z) (fun b15 => ?_) (fun b15 => ?_)
 refine FJ.skip (FJ.then_ (FJ.block (FJ.region (FJ.ql rfl (q_move rfl (.t (.s4 .z))) ?_))))
 refine FJ.e (goes_list rfl) rfl (by decide) rfl (e_buildSliceL (ps := [(0, .int .u8 0)]) (cs := [.int .u8 0]) rfl u_26 (inz inf_5) (by decide) (by intro act hact; simp only [List.map_toArray, List.map_cons, List.map_nil, (show Val _ _ _ from .c) act hact]) rfl rfl (by decide) rfl rfl) ?_
 rintro _ _ ⟨g16, rfl, rfl⟩
 refine FJ.add (c := ownA kbyte (0 : UInt8) [.int .u8 0]) (fun _ _ => ⟨rfl, trivial⟩) ?_
 refine FJ.e (goes_list rfl) rfl (by decide) rfl (e_append1 rfl u_26 inf_5 rfl (.t (.s .z)) (.t .z) (.c (.s (.s .z)) (.c (.s .z) (.c .z .n))) (by first | omega | (simp only [List.length_append, List.length_replicate, List.length_cons, List.length_nil]; omega)) (by first | omega | (simp only [List.length_append, List.length_replicate, List.length_cons, List.length_nil]; omega))) ?_
 rintro _ _ rfl
 refine FJ.ceq .z padz_s ?_
 refine FJ.know (WS.oform .z) ?_
 rintro ⟨Ao18, co18, rfl, hlo18, hmo18, hbo18⟩
 refine FJ.er (.s4 (.s (.s (.s .z)))) (FJ.ql rfl (q_assign rfl (.t .z)) (FJ.nil (FJ.inBN ?_)))
 refine FJ.again ((k + 1), Ao18, co18) (by omega) (by first | omega | (dsimp only; omega)) (.c .z (.c (.s4 (.s4 .z)) (.c (.s4 (.s4 (.s .z))) (.c (.s4 (.s4 (.s (.s .z)))) (.c (.s4 (.s4 (.s (.s (.s .z))))) (.c (.s4 (.s4 (.s4 .z))) .n)))))) (fun _ h => h.sel (.c .z (.c .z (.c .z .n))))
 refine FJ.exit (FJ.thenE (FJ.thenE (FJ.inB (FJ.then_ ?_))))
 refine FJ.seq ?_
 have hzl := @padZ_len (fileB f a) n
 have he19 : fileB f a ++ List.replicate k 0 = padZ (fileB f a) n := (padz_all (by omega) (by omega))
 refine FJ.eq .z (congrArg (fun z_ => (.bool (decide (((z_).length : Int) < n)) : Value)) he19) ?_
 refine FJ.eq (.s (.s .z)) (congrArg (fun z_ => (.int .i64 ((z_).length : Int) : Value)) he19) ?_
 refine FJ.eq (.s (.s (.s .z))) (congrArg (fun z_ => (.slice Agk0 (z_).length cgk0 : Value)) he19) ?_
 refine FJ.eq (.s4 .z) (congrArg (fun z_ => (.slice Agk0 (z_).length cgk0 : Value)) he19) ?_
 refine FJ.chEq .z (congrArg (fun z_ => (ownA kSl_5 (z_) [.slice Agk0 (z_).length cgk0] : Asn)) he19) ?_
 refine FJ.draw [rowA g5 33 3 1 [.int .i64 0, .slice none 0 0, .slice none 0 0], rowA g4 31 2 1 [.slice A0_0 f.inodes.length c0_0, .slice A0_1 f.data.length c0_1]] 7 (by kernel_rfl) ?_
 refine FJ.sch [(0, true), (1, true), (2, true), (3, true), (4, true), (5, true), (6, false), (7, false)] 0 #[true, true, true, true, true, true, true, true] (by rfl) (by kernel_rfl) ?_
 refine FJ.dq rfl rfl rfl (by decide) rfl (.s .z) (q_loadA (cs := [.slice A0_0 f.inodes.length c0_0, .slice A0_1 f.data.length c0_1]) rfl ag_31 sz_31 (.t (.s4 (.s (.s .z)))) (WS.rows0 (.s .z) (fun i u h => by exact h))) ?_
 refine FJ.dq rfl rfl rfl (by decide) rfl (.s .z) (q_move rfl (.t (.s4 (.s4 .z)))) (FJ.dq rfl rfl rfl (by decide) rfl (.s .z) (q_move rfl (.t (.s (.s .z)))) (FJ.dq rfl rfl rfl (by decide) rfl (.s .z) (q_move rfl (.t (.s4 (.s4 (.s (.s (.s .z))))))) ?_))
 refine FJ.know (WS.ocap .z) ?_
 rintro ⟨-, hk20, -, -⟩
 have hm21 : (List.take (Int.toNat n) (padZ (fileB f a) n)).length = Int.toNat n := by rw [List.length_take]; rw [padZ_len]; omega
 refine FJ.eq .z (congrArg (Value.int .i64) (show n = (((List.take (Int.toNat n) (padZ (fileB f a) n)).length : Nat) : Int) by rw [hm21]; omega)) ?_
 refine FJ.turns (c := ownA kSl_5 (List.take (Int.toNat n) (padZ (fileB f a) n)) [.slice Agk0 ((List.take (Int.toNat n) (padZ (fileB f a) n)).length) cgk0]) (.c .z .n) (own_take' (by rw [padZ_len]; omega)) ?_
 refine FJ.dq rfl rfl rfl (by decide) rfl (.s .z) (q_sliceTake (b := (List.take (Int.toNat n) (padZ (fileB f a) n)).length) rfl u_26 sz_5 (.t (.s .z)) (.t .z) (by omega)) ?_
 refine FJ.dq rfl rfl rfl (by decide) rfl (.s .z) (q_move rfl (.t (.s4 (.s4 (.s4 (.s (.s .z))))))) ?_
 refine FJ.call (goes_sch rfl rfl) rfl (by decide) rfl (c_call rfl Tryz.func58 rfl rfl (args4 (.t (.s4 (.s .z))) (.t (.s4 .z)) (.t (.s .z)) (.t .z))) .n (fun w1 S1 hs tr => c_58 (kT_31_mk f (tr.ctx h0_0) (tr.ctx h0_1)) _ (tr.own .z) (tr.ctx h3) (by assumption) (by first | assumption | (constructor <;> omega)) (by assumption)) ?_
 rintro _ _ ⟨v22, v24, rfl, rfl⟩
 refine FJ.cat (.c (.c .n)) ?_
 refine FJ.know (WS.oform .z) ?_
 rintro ⟨Ao26, co26, rfl, hlo26, hmo26, hbo26⟩
 refine FJ.know (WS.oform (.s .z)) ?_
 rintro ⟨Ao27, co27, rfl, hlo27, hmo27, hbo27⟩
 refine FJ.sk (.s (.s (.s .z))) ?_
 refine FJ.es (goes_sch rfl rfl) rfl (es_store (off := 0) (cs := [.int .i64 ((setG f a (List.take (Int.toNat n) (padZ (fileB f a) n)) b).code), .slice Ao26 ((setG f a (List.take (Int.toNat n) (padZ (fileB f a) n)) b).fs.inodes).length co26, .slice Ao27 ((setG f a (List.take (Int.toNat n) (padZ (fileB f a) n)) b).fs.data).length co27]) rfl sz_33 (.t (.s4 (.s4 (.s4 .z)))) (.t .z) rfl (ones rfl) (.s (.s (.s .z))) (Nat.le_of_ble_eq_true rfl) (.c .z (.c (.s .z) (.c (.s (.s .z)) .n)))) ?_
 refine FJ.sl rfl ?_
 refine FJ.schN ?_
 refine FJ.drawN (by kernel_rfl) ?_
 refine FJ.then_ (FJ.ret ?_)
 refine FJ.doneS (resC (cs := [.int .i64 ((setG f a (List.take (Int.toNat n) (padZ (fileB f a) n)) b).code), .slice Ao26 ((setG f a (List.take (Int.toNat n) (padZ (fileB f a) n)) b).fs.inodes).length co26, .slice Ao27 ((setG f a (List.take (Int.toNat n) (padZ (fileB f a) n)) b).fs.data).length co27]) rfl (.s4 (.s4 (.s4 .z))) ag_33 sz_33 (WS.rows0 (cs := [.int .i64 ((setG f a (List.take (Int.toNat n) (padZ (fileB f a) n)) b).code), .slice Ao26 ((setG f a (List.take (Int.toNat n) (padZ (fileB f a) n)) b).fs.inodes).length co26, .slice Ao27 ((setG f a (List.take (Int.toNat n) (padZ (fileB f a) n)) b).fs.data).length co27]) .z (fun _ _ h => h))) (.c (.s .z) (.c (.s .z) .n)) ?_
 first | (rw [cutR_f hw1]; exact ⟨_, _, rfl, rfl⟩) | (rw [cutR_3 hw0 (by omega)]; exact ⟨_, _, rfl, rfl⟩) | (rw [cutR_0 hw0 (by omega)]; exact ⟨_, _, rfl, rfl⟩)

end Go.Proofs.YticaddophhggoaaGreat

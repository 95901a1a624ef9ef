/- What is proved: contracts of functions, one a function. No condition. -/
import Derived.Test.YticaddophhggoaaGreatW40
import Derived.Test.YticaddophhggoaaGreatBase2
namespace Go.Proofs.YticaddophhggoaaGreat
open Go Go.RowKit
set_option linter.unusedVariables false
set_option linter.unusedSimpArgs false
set_option maxHeartbeats 1000000 in
set_option maxRecDepth 20000 in
theorem c_74 {w0 : World} {S0 : Bs} {f : DFs} {ad0 : Addr} {v0_0 : Value} {v0_1 : Value} (h0 : PtrRo (kraw 2 (by decide)) w0 (FF w0 S0) ad0 [v0_0, v0_1]) (a : Int) (i : Int) {L : (List UInt8)} {v3 : Value} (h3 : kSl_5.ro w0 (FF w0 S0) L [v3]) {b : (List Int)} {v4 : Value} (h4 : kSl_2.ro w0 (FF w0 S0) b [v4]) (hs : Star [ownA kSl_73 f.inodes [v0_0], ownA kSl_26 f.data [v0_1]] w0 S0) (ht : treeFault f = 0) (hp : placeIn f.inodes.length a) :
    Calls Tryz.prog 74 #[.pointer (some ad0), .int .i64 a, .int .i64 i, v3, v4] w0 (TriPost w0 S0 (fun r l => r = .int .i64 (wrC f a i L b) ∧ l = [ownA kSl_73 (wrQ f a i L b).inodes [v0_0], ownA kSl_26 (wrQ f a i L b).data [v0_1]])) := by
 obtain ⟨ec0, hF0, ⟨rfl, -, -⟩, hc0⟩ := id h0
 obtain ⟨A3, c3, rfl, hl3, hm3, hb3, he3⟩ := ro_form h3
 obtain ⟨A4, c4, rfl, hl4, hm4, hb4, he4⟩ := ro_form h4
 obtain ⟨hp1a, hp2a⟩ := hp
 have hI := treeI ht
 have hd := data_20 ht
 have hfl := fileB_len ht a
 have hwl := @wrote_len f a i L
 have hzl := @padZ_len (fileB f a) (i + (L.length : Int))
 refine FJ.enter (N := 44) Tryz.func74 rfl rfl (by simp) [(0, .pointer (some ad0)), (1, .int .i64 a), (2, .int .i64 i), (3, .slice A3 L.length c3), (4, .slice A4 b.length c4)] (by simp) hs ?_
 refine FJ.know (WS.oform .z) ?_
 rintro ⟨Ao3, co3, rfl, hlo3, hmo3, hbo3⟩
 refine FJ.know (WS.oform (.s .z)) ?_
 rintro ⟨Ao4, co4, rfl, hlo4, hmo4, hbo4⟩
 refine FJ.seq (FJ.region (FJ.ql rfl (q_assign rfl .c) (FJ.nil (FJ.then_ ?_))))
 refine FJ.seq (FJ.block (FJ.seq (FJ.region (FJ.ql rfl (q_move rfl (.t (.s (.s (.s .z))))) ?_))))
 refine FJ.call (goes_list rfl) rfl (by decide) rfl (c_call rfl Tryz.func108 rfl rfl (args3 (.t .z) .c .c)) .n (fun w1 S1 hs tr => c_108 _ _ _) ?_
 rintro _ _ ⟨rfl, rfl⟩
 refine FJ.cat .n ?_
 refine FJ.ql rfl (q_not rfl (.t .z)) (FJ.ql rfl (q_assign rfl (.t .z)) (FJ.nil (FJ.then_ ?_)))
 refine FJ.condN (.t .z) (fun b5 => ?_) (fun b5 => ?_)
 refine FJ.seq (FJ.region (FJ.er (.s4 .z) (FJ.ql rfl (q_assign rfl .c) (FJ.nil ?_))))
 refine FJ.then_ (FJ.ret (FJ.inBR (FJ.thenR ?_)))
 refine FJ.doneS (res1 rfl .z) (.c .z (.c .z .n)) ?_
 first | (rw [(wr_3 (by omega)).1, (wr_3 (by omega)).2]; exact ⟨rfl, rfl⟩) | (rw [(wr_2 (by omega) (by omega)).1, (wr_2 (by omega) (by omega)).2]; exact ⟨rfl, rfl⟩) | (rw [(wr_e (by omega) (by omega) (by omega)).1, (wr_e (by omega) (by omega) (by omega)).2]; exact ⟨rfl, rfl⟩) | (rw [(wr_0 (by omega) (by omega) (by omega)).1, (wr_0 (by omega) (by omega) (by omega)).2]; exact ⟨rfl, rfl⟩)
 refine FJ.seq (FJ.region (FJ.ql rfl (q_move rfl (.t (.s4 (.s (.s (.s .z)))))) (FJ.ql rfl (q_move rfl (.t (.s4 (.s4 (.s .z))))) ?_)))
 refine FJ.call (goes_list rfl) rfl (by decide) rfl (c_call rfl Tryz.func125 rfl rfl (args1 (.t .z))) .n (fun w1 S1 hs tr => c_125 (tr.ctx h3)) ?_
 rintro _ _ ⟨rfl, rfl⟩
 refine FJ.cat .n ?_
 refine FJ.ql rfl (q_add (c := i + (L.length : Int)) rfl (.t (.s (.s .z))) (.t .z) (wr (by omega) (by omega) (by omega))) ?_
 refine FJ.ql rfl (q_gtr rfl (.t .z) .c) (FJ.ql rfl (q_assign rfl (.t .z)) (FJ.nil (FJ.then_ ?_)))
 refine FJ.condP (.t .z) (fun b6 => ?_) (fun b6 => ?_)
 refine FJ.seq (FJ.region (FJ.er (.s4 (.s4 (.s (.s .z)))) (FJ.ql rfl (q_assign rfl .c) (FJ.nil ?_))))
 refine FJ.then_ (FJ.ret (FJ.inBR (FJ.thenR ?_)))
 refine FJ.doneS (res1 rfl .z) (.c .z (.c .z .n)) ?_
 first | (rw [(wr_3 (by omega)).1, (wr_3 (by omega)).2]; exact ⟨rfl, rfl⟩) | (rw [(wr_2 (by omega) (by omega)).1, (wr_2 (by omega) (by omega)).2]; exact ⟨rfl, rfl⟩) | (rw [(wr_e (by omega) (by omega) (by omega)).1, (wr_e (by omega) (by omega) (by omega)).2]; exact ⟨rfl, rfl⟩) | (rw [(wr_0 (by omega) (by omega) (by omega)).1, (wr_0 (by omega) (by omega) (by omega)).2]; exact ⟨rfl, rfl⟩)
 refine FJ.seq (FJ.region (FJ.ql rfl (q_move rfl (.t (.s4 (.s4 (.s4 (.s (.s .z))))))) (FJ.ql rfl (q_len rfl u_26 (.t .z)) (FJ.ql rfl (q_eql rfl (.t .z) .c) ?_))))
 refine FJ.ql rfl (q_assign rfl (.t .z)) (FJ.nil (FJ.then_ ?_))
 refine FJ.condP (.t .z) (fun b7 => ?_) (fun b7 => ?_)
 refine FJ.seq (FJ.region (FJ.er (.s4 (.s4 (.s4 (.s (.s .z))))) (FJ.ql rfl (q_assign rfl .c) (FJ.nil ?_))))
 refine FJ.then_ (FJ.ret (FJ.inBR (FJ.thenR ?_)))
 refine FJ.doneS (res1 rfl .z) (.c .z (.c .z .n)) ?_
 first | (rw [(wr_3 (by omega)).1, (wr_3 (by omega)).2]; exact ⟨rfl, rfl⟩) | (rw [(wr_2 (by omega) (by omega)).1, (wr_2 (by omega) (by omega)).2]; exact ⟨rfl, rfl⟩) | (rw [(wr_e (by omega) (by omega) (by omega)).1, (wr_e (by omega) (by omega) (by omega)).2]; exact ⟨rfl, rfl⟩) | (rw [(wr_0 (by omega) (by omega) (by omega)).1, (wr_0 (by omega) (by omega) (by omega)).2]; exact ⟨rfl, rfl⟩)
 refine FJ.skip (FJ.inBN (FJ.then_ (FJ.seq (FJ.region ?_))))
 refine FJ.ql rfl (q_move rfl (.t (.s4 (.s4 (.s4 (.s (.s (.s .z)))))))) (FJ.ql rfl (q_move rfl (.t (.s16 (.s .z)))) ?_)
 refine FJ.call (goes_list rfl) rfl (by decide) rfl (c_call rfl Tryz.func91 rfl rfl (args2 (.t (.s .z)) (.t .z))) .n (fun w1 S1 hs tr => c_91 (tr.elw hF0 hc0 (kT_31_mk f (tr.own .z) (tr.own (.s .z)))) _ (by assumption) (by first | assumption | (constructor <;> omega))) ?_
 rintro _ _ rfl
 refine FJ.cat (.c .n) ?_
 refine FJ.know (WS.oform .z) ?_
 rintro ⟨Ao9, co9, rfl, hlo9, hmo9, hbo9⟩
 refine FJ.ql rfl (q_move rfl (.t (.s16 (.s4 .z)))) (FJ.ql rfl (q_move rfl (.t (.s16 (.s4 (.s (.s .z)))))) ?_)
 refine FJ.call (goes_list rfl) rfl (by decide) rfl (c_call rfl Tryz.func125 rfl rfl (args1 (.t .z))) .n (fun w1 S1 hs tr => c_125 (tr.ctx h3)) ?_
 rintro _ _ ⟨rfl, rfl⟩
 refine FJ.cat .n ?_
 refine FJ.ql rfl (q_add (c := i + (L.length : Int)) rfl (.t (.s (.s .z))) (.t .z) (wr (by omega) (by omega) (by omega))) ?_
 refine FJ.call (goes_list rfl) rfl (by decide) rfl (c_call rfl Tryz.func133 rfl rfl (args2 (.t (.s4 .z)) (.t .z))) (.c .z .n) (fun w1 S1 hs tr => c_133 (x := fileB f a) _ hs (by omega) (by omega)) ?_
 rintro _ _ rfl
 refine FJ.cat (.c .n) ?_
 refine FJ.know (WS.oform .z) ?_
 rintro ⟨Ao11, co11, rfl, hlo11, hmo11, hbo11⟩
 refine FJ.ql rfl (q_assign rfl (.t .z)) (FJ.nil (FJ.then_ (FJ.seq (FJ.region ?_))))
 refine FJ.ql rfl (q_move rfl (.t .z)) (FJ.ql rfl (q_move rfl (.t (.s16 (.s4 (.s4 (.s (.s (.s .z)))))))) ?_)
 refine FJ.eq .z (congrArg (Value.int .i64) (show i = ((Int.toNat i : Nat) : Int) by omega)) ?_
 obtain ⟨As12, hAs12⟩ : ∃ A' : Option Addr, A' = (if co11 = Int.toNat i then Ao11 else Option.map (fun z => Addr.add z ((Int.toNat i) * 1)) Ao11) := ⟨_, rfl⟩
 have ls12 := subL_len (xs := padZ (fileB f a) (i + (L.length : Int))) (a := Int.toNat i) (b := (padZ (fileB f a) (i + (L.length : Int))).length) (by omega)
 have hk13 : True := trivial
 refine FJ.ql rfl (q_sliceL (a := Int.toNat i) (b := (padZ (fileB f a) (i + (L.length : Int))).length) rfl u_26 sz_5 (.t (.s .z)) hAs12 (.inr ⟨_, _, rfl, (.t .z)⟩) (.inl ⟨rfl, rfl⟩) (by omega) (by omega) (by omega)) ?_
 refine FJ.ql rfl (q_move rfl (.t (.s16 (.s4 (.s4 (.s4 (.s (.s .z)))))))) ?_
 refine FJ.know (WS.oad .z (by rw [padZ_len]; omega)) ?_
 rintro ⟨ad14, rfl⟩
 refine FJ.e (goes_list rfl) rfl (by decide) rfl (e_copyF (i := Int.toNat i) (flat_scalar _ _ _) rfl u_26 sz_5 (cpy_len (.t (.s .z))) (hAs12.trans (by split <;> rfl)) (.t .z) (.c .z .n) (fun w1 S1 tr => (tr.ctx h3)) (by rw [padZ_len]; omega) (by omega)) ?_
 rintro _ _ ⟨rfl, rfl⟩
 refine FJ.ceq (x' := wroteB f a i L) .z (by unfold wroteB putB; rw [List.take_length]) ?_
 refine FJ.nil (FJ.then_ (FJ.seq (FJ.region (FJ.ql rfl (q_move rfl (.t (.s16 (.s4 (.s4 (.s4 (.s .z))))))) ?_))))
 refine FJ.ql rfl (q_move rfl (.t (.s16 (.s4 (.s4 (.s4 (.s (.s (.s .z))))))))) (FJ.ql rfl (q_move rfl (.t (.s4 (.s (.s (.s .z)))))) (FJ.ql rfl (q_move rfl (.t (.s16 (.s16 (.s4 .z))))) ?_))
 refine FJ.call (goes_list rfl) rfl (by decide) rfl (c_call rfl Tryz.func65 rfl rfl (args4 (.t (.s (.s (.s .z)))) (.t (.s (.s .z))) (.t (.s .z)) (.t .z))) (.c (.s .z) (.c (.s .z) .n)) (fun w1 S1 hs tr => c_65 (f := f) (tr.ctxP h0) _ (tr.own .z) (tr.ctx h4) hs (by assumption) (by assumption) (by first | assumption | (constructor <;> omega)) (by first | omega | (simp only [padZ_len, List.length_take]; omega))) ?_
 rintro _ _ ⟨rfl, rfl⟩
 refine FJ.cat (.c (.c .n)) ?_
 refine FJ.ceq (x' := (setQ f a (wroteB f a i L) b).inodes) .z rfl ?_
 refine FJ.ceq (x' := (setQ f a (wroteB f a i L) b).data) (.s .z) rfl ?_
 refine FJ.er (.s16 (.s16 (.s .z))) (FJ.ql rfl (q_assign rfl (.t .z)) (FJ.nil (FJ.then_ (FJ.ret ?_))))
 refine FJ.doneS (res1 rfl .z) (.c (.s .z) (.c .z .n)) ?_
 first | (rw [(wr_3 (by omega)).1, (wr_3 (by omega)).2]; exact ⟨rfl, rfl⟩) | (rw [(wr_2 (by omega) (by omega)).1, (wr_2 (by omega) (by omega)).2]; exact ⟨rfl, rfl⟩) | (rw [(wr_e (by omega) (by omega) (by omega)).1, (wr_e (by omega) (by omega) (by omega)).2]; exact ⟨rfl, rfl⟩) | (rw [(wr_0 (by omega) (by omega) (by omega)).1, (wr_0 (by omega) (by omega) (by omega)).2]; exact ⟨rfl, rfl⟩)

set_option maxHeartbeats 1000000 in
set_option maxRecDepth 20000 in
theorem c_27 {w0 : World} {S0 : Bs} {f : DFs} {cs0 : List Value} (h0 : kT_31.ro w0 (FF w0 S0) f cs0) (a : Int) (i : Int) {L : (List UInt8)} {v3 : Value} (h3 : kSl_5.ro w0 (FF w0 S0) L [v3]) {b : (List Int)} {v4 : Value} (h4 : kSl_2.ro w0 (FF w0 S0) b [v4])  :
    Calls Tryz.prog 27 #[.agg cs0.toArray, .int .i64 a, .int .i64 i, v3, v4] w0 (TriPost w0 S0 (RA_33 (writeR f a i L b))) := by
 obtain ⟨u0_0, u0_1, rfl, h0_0, h0_1⟩ := kT_31_ro h0
 obtain ⟨A0_0, c0_0, rfl, hl0_0, hm0_0, hb0_0, he0_0⟩ := ro_form h0_0
 obtain ⟨A0_1, c0_1, rfl, hl0_1, hm0_1, hb0_1, he0_1⟩ := ro_form h0_1
 obtain ⟨A3, c3, rfl, hl3, hm3, hb3, he3⟩ := ro_form h3
 obtain ⟨A4, c4, rfl, hl4, hm4, hb4, he4⟩ := ro_form h4
 refine FJ.enter (N := 33) Tryz.func27 rfl rfl (by simp) [(0, .agg #[.slice A0_0 f.inodes.length c0_0, .slice A0_1 f.data.length c0_1]), (1, .int .i64 a), (2, .int .i64 i), (3, .slice A3 L.length c3), (4, .slice A4 b.length c4)] (by simp) (l0 := []) trivial ?_
 refine FJ.seq (FJ.region ?_)
 refine FJ.e (goes_list rfl) rfl (by decide) rfl (e_box (cs := [.slice A0_0 f.inodes.length c0_0, .slice A0_1 f.data.length c0_1]) (n := 2) rfl (.t .z) rfl rfl) ?_
 rintro _ _ ⟨g5, rfl, rfl⟩
 refine FJ.e (goes_list rfl) rfl (by decide) rfl (e_alloc rfl z_33 rfl rfl) ?_
 rintro _ _ ⟨g6, rfl, rfl⟩
 refine FJ.nil (FJ.then_ (FJ.seq (FJ.seq (FJ.region ?_))))
 refine FJ.ql rfl (q_loadA (cs := [.slice A0_0 f.inodes.length c0_0, .slice A0_1 f.data.length c0_1]) rfl ag_31 sz_31 (.t (.s .z)) (WS.rows0 (.s .z) (fun i u h => by exact h))) ?_
 refine FJ.ql rfl (q_move rfl (.t (.s4 .z))) ?_
 refine FJ.call (goes_list rfl) rfl (by decide) rfl (c_call rfl Tryz.func62 rfl rfl (args2 (.t (.s .z)) (.t .z))) .n (fun w1 S1 hs tr => c_62 (kT_31_mk f (tr.ctx h0_0) (tr.ctx h0_1)) _) ?_
 rintro _ _ ⟨rfl, rfl⟩
 refine FJ.cat .n ?_
 refine FJ.ql rfl (q_move rfl (.t (.s4 (.s4 (.s .z))))) ?_
 refine FJ.call (goes_list rfl) rfl (by decide) rfl (c_call rfl Tryz.func61 rfl rfl (args2 (.t (.s .z)) (.t .z))) .n (fun w1 S1 hs tr => c_61 _ (tr.ctx h4)) ?_
 rintro _ _ ⟨rfl, rfl⟩
 refine FJ.cat .n ?_
 refine FJ.ql rfl (q_assign rfl (.t .z)) (FJ.nil (FJ.then_ (FJ.seq (FJ.region ?_))))
 refine FJ.ql rfl (q_move rfl (.t .z)) (FJ.ql rfl (q_neq rfl (.t .z) .c) (FJ.nil (FJ.then_ ?_)))
 refine FJ.condN (.t .z) (fun b7 => ?_) (fun b7 => ?_)
 have hw1 : ¬ wcode f a b = 0 := b7
 refine FJ.seq (FJ.region (FJ.ql rfl (q_move rfl (.t (.s (.s .z)))) ?_))
 refine FJ.ql rfl (q_build (ps := [(0, .int .i64 (if bytesCode f a = 0 then busyFault b else bytesCode f a))]) (cs := [.int .i64 (if bytesCode f a = 0 then busyFault b else bytesCode f a), .slice none 0 0, .slice none 0 0]) rfl bl_33 (by intro act hact; simp only [List.map_toArray, List.map_cons, List.map_nil, (show Val _ _ _ from (.t .z)) act hact]) rfl) ?_
 refine FJ.es (goes_list rfl) rfl (es_store (off := 0) (cs := [.int .i64 (if bytesCode f a = 0 then busyFault b else bytesCode f a), .slice none 0 0, .slice none 0 0]) rfl sz_33 (.t (.s4 (.s4 (.s (.s .z))))) (.t .z) rfl (ones rfl) .z (Nat.le_of_ble_eq_true rfl) (.c .z (.c (.s .z) (.c (.s (.s .z)) .n)))) ?_
 refine FJ.nil (FJ.then_ (FJ.ret (FJ.thenR ?_)))
 refine FJ.add (c := ownA kSl_73 [] [.slice none 0 0]) (fun w S => own_nil w S none) ?_
 refine FJ.add (c := ownA kSl_26 [] [.slice none 0 0]) (fun w S => own_nil w S none) ?_
 refine FJ.doneS (resC (cs := [.int .i64 (if bytesCode f a = 0 then busyFault b else bytesCode f a), .slice none 0 0, .slice none 0 0]) rfl (.s4 (.s4 (.s (.s .z)))) ag_33 sz_33 (WS.rows0 (cs := [.int .i64 (if bytesCode f a = 0 then busyFault b else bytesCode f a), .slice none 0 0, .slice none 0 0]) (.s (.s .z)) (fun _ _ h => h))) (.c (.s .z) (.c .z .n)) ?_
 first | (rw [writeR_f hw1]; exact ⟨_, _, rfl, rfl⟩) | (rw [writeR_q hw0 hfl]; exact ⟨_, _, rfl, rfl⟩)
 have hw0 : wcode f a b = 0 := b7
 obtain ⟨hbc, hbz⟩ := wOk hw0
 obtain ⟨hF, ⟨hpa, hpb⟩, hk2, hn0⟩ := bytesOk hbc
 have ht := fsTree hF
 have hI := treeI ht
 have hd := data_20 ht
 have hB := blocks_in hI a
 have hfl := fileB_len ht a
 refine FJ.skip (FJ.then_ (FJ.seq (FJ.region ?_)))
 refine FJ.ql rfl (q_loadA (cs := [.slice A0_0 f.inodes.length c0_0, .slice A0_1 f.data.length c0_1]) rfl ag_31 sz_31 (.t (.s4 (.s4 (.s .z)))) (WS.rows0 (.s .z) (fun i u h => by exact h))) ?_
 refine FJ.call (goes_list rfl) rfl (by decide) rfl (c_call rfl Tryz.func63 rfl rfl (args1 (.t .z))) .n (fun w1 S1 hs tr => c_63 (kT_31_mk f (tr.ctx h0_0) (tr.ctx h0_1))) ?_
 rintro _ _ ⟨v10, v12, rfl, rfl⟩
 refine FJ.cat (.c (.c .n)) ?_
 refine FJ.know (WS.oform .z) ?_
 rintro ⟨Ao14, co14, rfl, hlo14, hmo14, hbo14⟩
 refine FJ.know (WS.oform (.s .z)) ?_
 rintro ⟨Ao15, co15, rfl, hlo15, hmo15, hbo15⟩
 refine FJ.e (goes_list rfl) rfl (by decide) rfl (e_alloc rfl z_31 rfl rfl) ?_
 rintro _ _ ⟨g16, rfl, rfl⟩
 refine FJ.es (goes_list rfl) rfl (es_store (off := 0) (cs := [.slice Ao14 f.inodes.length co14, .slice Ao15 f.data.length co15]) rfl sz_31 (.t .z) (.t (.s .z)) rfl (ones rfl) .z (Nat.le_of_ble_eq_true rfl) (.c .z (.c (.s .z) .n))) ?_
 refine FJ.nil (FJ.then_ (FJ.seq (FJ.region (FJ.ql rfl (q_move rfl (.t (.s4 (.s4 (.s4 (.s (.s .z))))))) ?_))))
 refine FJ.ql rfl (q_move rfl (.t (.s16 .z))) (FJ.ql rfl (q_move rfl (.t (.s16 (.s (.s .z))))) (FJ.ql rfl (q_move rfl (.t (.s16 (.s4 .z)))) ?_))
 refine FJ.call (goes_list rfl) rfl (by decide) rfl (c_call rfl Tryz.func74 rfl rfl (args5 (.t (.s4 .z)) (.t (.s (.s (.s .z)))) (.t (.s (.s .z))) (.t (.s .z)) (.t .z))) (.c (.s .z) (.c (.s .z) .n)) (fun w1 S1 hs tr => c_74 (f := f) (tr.ptr .z ⟨rfl, rfl, ones rfl⟩) _ _ (tr.ctx h3) (tr.ctx h4) hs (by assumption) (by first | assumption | (constructor <;> omega))) ?_
 rintro _ _ ⟨rfl, rfl⟩
 refine FJ.cat (.c (.c .n)) ?_
 refine FJ.ceq (x' := (wrQ f a i L b).inodes) .z rfl ?_
 refine FJ.ceq (x' := (wrQ f a i L b).data) (.s .z) rfl ?_
 refine FJ.ql rfl (q_assign rfl (.t .z)) (FJ.nil (FJ.then_ (FJ.seq (FJ.region ?_))))
 refine FJ.ql rfl (q_loadA (cs := [.slice Ao14 f.inodes.length co14, .slice Ao15 f.data.length co15]) rfl ag_31 sz_31 (.t (.s4 (.s (.s .z)))) (WS.rows0 (.s (.s .z)) (fun i u h => by exact h))) ?_
 refine FJ.ql rfl (q_move rfl (.t (.s .z))) ?_
 refine FJ.call (goes_list rfl) rfl (by decide) rfl (c_call rfl Tryz.func64 rfl rfl (args2 (.t (.s .z)) (.t .z))) (.c (.s .z) (.c .z .n)) (fun w1 S1 hs tr => c_64 (f := (wrQ f a i L b)) _ hs) ?_
 rintro _ _ ⟨v17, v19, rfl, rfl⟩
 refine FJ.cat (.c (.c .n)) ?_
 refine FJ.know (WS.oform .z) ?_
 rintro ⟨Ao21, co21, rfl, hlo21, hmo21, hbo21⟩
 refine FJ.know (WS.oform (.s .z)) ?_
 rintro ⟨Ao22, co22, rfl, hlo22, hmo22, hbo22⟩
 refine FJ.es (goes_list rfl) rfl (es_store (off := 0) (cs := [.int .i64 ((fsR (wrQ f a i L b) (wrC f a i L b)).code), .slice Ao21 ((fsR (wrQ f a i L b) (wrC f a i L b)).fs.inodes).length co21, .slice Ao22 ((fsR (wrQ f a i L b) (wrC f a i L b)).fs.data).length co22]) rfl sz_33 (.t (.s16 (.s4 .z))) (.t .z) rfl (ones rfl) (.s (.s (.s .z))) (Nat.le_of_ble_eq_true rfl) (.c .z (.c (.s .z) (.c (.s (.s .z)) .n)))) ?_
 refine FJ.nil (FJ.then_ (FJ.ret ?_))
 refine FJ.doneS (resC (cs := [.int .i64 ((fsR (wrQ f a i L b) (wrC f a i L b)).code), .slice Ao21 ((fsR (wrQ f a i L b) (wrC f a i L b)).fs.inodes).length co21, .slice Ao22 ((fsR (wrQ f a i L b) (wrC f a i L b)).fs.data).length co22]) rfl (.s16 (.s4 .z)) ag_33 sz_33 (WS.rows0 (cs := [.int .i64 ((fsR (wrQ f a i L b) (wrC f a i L b)).code), .slice Ao21 ((fsR (wrQ f a i L b) (wrC f a i L b)).fs.inodes).length co21, .slice Ao22 ((fsR (wrQ f a i L b) (wrC f a i L b)).fs.data).length co22]) .z (fun _ _ h => h))) (.c (.s .z) (.c (.s .z) .n)) ?_
 first | (rw [writeR_f hw1]; exact ⟨_, _, rfl, rfl⟩) | (rw [writeR_q hw0 hfl]; exact ⟨_, _, rfl, rfl⟩)

set_option maxHeartbeats 1000000 in
set_option maxRecDepth 20000 in
theorem c_26 {w0 : World} {S0 : Bs} {f : DFs} {cs0 : List Value} (h0 : kT_31.ro w0 (FF w0 S0) f cs0) (a : Int) (i : Int) {L : (List UInt8)} {v3 : Value} (h3 : kSl_5.ro w0 (FF w0 S0) L [v3]) {b : (List Int)} {v4 : Value} (h4 : kSl_2.ro w0 (FF w0 S0) b [v4])  :
    Calls Tryz.prog 26 #[.agg cs0.toArray, .int .i64 a, .int .i64 i, v3, v4] w0 (TriPost w0 S0 (RA_33 (writeR f a i L b))) := by
 obtain ⟨u0_0, u0_1, rfl, h0_0, h0_1⟩ := kT_31_ro h0
 obtain ⟨A0_0, c0_0, rfl, hl0_0, hm0_0, hb0_0, he0_0⟩ := ro_form h0_0
 obtain ⟨A0_1, c0_1, rfl, hl0_1, hm0_1, hb0_1, he0_1⟩ := ro_form h0_1
 obtain ⟨A3, c3, rfl, hl3, hm3, hb3, he3⟩ := ro_form h3
 obtain ⟨A4, c4, rfl, hl4, hm4, hb4, he4⟩ := ro_form h4
 refine FJ.enter (N := 69) Tryz.func26 rfl rfl (by simp) [(0, .agg #[.slice A0_0 f.inodes.length c0_0, .slice A0_1 f.data.length c0_1]), (1, .int .i64 a), (2, .int .i64 i), (3, .slice A3 L.length c3), (4, .slice A4 b.length c4)] (by simp) (l0 := []) trivial ?_
 refine FJ.seq (FJ.region ?_)
 refine FJ.e (goes_list rfl) rfl (by decide) rfl (e_box (cs := [.slice A0_0 f.inodes.length c0_0, .slice A0_1 f.data.length c0_1]) (n := 2) rfl (.t .z) rfl rfl) ?_
 rintro _ _ ⟨g5, rfl, rfl⟩
 refine FJ.e (goes_list rfl) rfl (by decide) rfl (e_alloc rfl z_33 rfl rfl) ?_
 rintro _ _ ⟨g6, rfl, rfl⟩
 refine FJ.nil (FJ.then_ (FJ.seq (FJ.seq (FJ.region ?_))))
 refine FJ.ql rfl (q_move rfl (.t (.s (.s (.s .z))))) (FJ.ql rfl (q_move rfl (.t (.s4 (.s (.s (.s .z)))))) ?_)
 refine FJ.call (goes_list rfl) rfl (by decide) rfl (c_call rfl Tryz.func57 rfl rfl (args3 (.t (.s (.s (.s .z)))) (.t (.s .z)) (.t .z))) .n (fun w1 S1 hs tr => c_57 (tr.ptr (.s .z) (kT_31_mk f (tr.ctx h0_0) (tr.ctx h0_1))) _ (tr.ctx h4)) ?_
 rintro _ _ ⟨rfl, rfl⟩
 refine FJ.cat .n ?_
 refine FJ.ql rfl (q_assign rfl (.t .z)) (FJ.nil (FJ.then_ (FJ.seq (FJ.region ?_))))
 refine FJ.ql rfl (q_move rfl (.t .z)) (FJ.ql rfl (q_neq rfl (.t .z) .c) (FJ.nil (FJ.then_ ?_)))
 refine FJ.condN (.t .z) (fun b7 => ?_) (fun b7 => ?_)
 have hw1 : ¬ wcode f a b = 0 := b7
 refine FJ.seq (FJ.region (FJ.ql rfl (q_move rfl (.t (.s (.s .z)))) ?_))
 refine FJ.ql rfl (q_build (ps := [(0, .int .i64 (wcode f a b))]) (cs := [.int .i64 (wcode f a b), .slice none 0 0, .slice none 0 0]) rfl bl_33 (by intro act hact; simp only [List.map_toArray, List.map_cons, List.map_nil, (show Val _ _ _ from (.t .z)) act hact]) rfl) ?_
 refine FJ.es (goes_list rfl) rfl (es_store (off := 0) (cs := [.int .i64 (wcode f a b), .slice none 0 0, .slice none 0 0]) rfl sz_33 (.t (.s4 (.s4 .z))) (.t .z) rfl (ones rfl) .z (Nat.le_of_ble_eq_true rfl) (.c .z (.c (.s .z) (.c (.s (.s .z)) .n)))) ?_
 refine FJ.nil (FJ.then_ (FJ.ret (FJ.thenR ?_)))
 refine FJ.add (c := ownA kSl_73 [] [.slice none 0 0]) (fun w S => own_nil w S none) ?_
 refine FJ.add (c := ownA kSl_26 [] [.slice none 0 0]) (fun w S => own_nil w S none) ?_
 refine FJ.doneS (resC (cs := [.int .i64 (wcode f a b), .slice none 0 0, .slice none 0 0]) rfl (.s4 (.s4 .z)) ag_33 sz_33 (WS.rows0 (cs := [.int .i64 (wcode f a b), .slice none 0 0, .slice none 0 0]) (.s (.s .z)) (fun _ _ h => h))) (.c (.s .z) (.c .z .n)) ?_
 first | (rw [writeR_f hw1]; exact ⟨_, _, rfl, rfl⟩) | (rw [writeR_3 hw0 (by omega)]; exact ⟨_, _, rfl, rfl⟩) | (rw [writeR_2 hw0 (by omega) (by omega)]; exact ⟨_, _, rfl, rfl⟩) | (rw [writeR_e hw0 (by omega) (by omega) (by omega)]; exact ⟨_, _, rfl, rfl⟩) | (rw [writeR_0 hw0 (by omega) (by omega) (by omega)]; exact ⟨_, _, rfl, rfl⟩)
 have hw0 : wcode f a b = 0 := b7
 obtain ⟨hbc, hbz⟩ := wOk hw0
 obtain ⟨hF, ⟨hpa, hpb⟩, hk2, hn0⟩ := bytesOk hbc
 have ht := fsTree hF
 have hI := treeI ht
 have hd := data_20 ht
 have hB := blocks_in hI a
 have hfl := fileB_len ht a
 refine FJ.skip (FJ.then_ (FJ.seq (FJ.seq (FJ.region ?_))))
 refine FJ.ql rfl (q_move rfl (.t (.s4 (.s4 (.s (.s .z)))))) ?_
 refine FJ.call (goes_list rfl) rfl (by decide) rfl (c_call rfl Tryz.func71 rfl rfl (args3 (.t .z) .c .c)) .n (fun w1 S1 hs tr => c_71 _ _ _) ?_
 rintro _ _ ⟨rfl, rfl⟩
 refine FJ.cat .n ?_
 refine FJ.ql rfl (q_not rfl (.t .z)) (FJ.nil (FJ.then_ ?_))
 refine FJ.condN (.t .z) (fun b10 => ?_) (fun b10 => ?_)
 refine FJ.seq (FJ.region ?_)
 refine FJ.ql rfl (q_build (ps := [(0, .int .i64 3)]) (cs := [.int .i64 3, .slice none 0 0, .slice none 0 0]) rfl bl_33 (by intro act hact; simp only [List.map_toArray, List.map_cons, List.map_nil, (show Val _ _ _ from .c) act hact]) rfl) ?_
 refine FJ.es (goes_list rfl) rfl (es_store (off := 0) (cs := [.int .i64 3, .slice none 0 0, .slice none 0 0]) rfl sz_33 (.t (.s4 (.s4 (.s (.s .z))))) (.t .z) rfl (ones rfl) .z (Nat.le_of_ble_eq_true rfl) (.c .z (.c (.s .z) (.c (.s (.s .z)) .n)))) ?_
 refine FJ.nil (FJ.then_ (FJ.ret (FJ.thenR ?_)))
 refine FJ.add (c := ownA kSl_73 [] [.slice none 0 0]) (fun w S => own_nil w S none) ?_
 refine FJ.add (c := ownA kSl_26 [] [.slice none 0 0]) (fun w S => own_nil w S none) ?_
 refine FJ.doneS (resC (cs := [.int .i64 3, .slice none 0 0, .slice none 0 0]) rfl (.s4 (.s4 (.s (.s .z)))) ag_33 sz_33 (WS.rows0 (cs := [.int .i64 3, .slice none 0 0, .slice none 0 0]) (.s (.s .z)) (fun _ _ h => h))) (.c (.s .z) (.c .z .n)) ?_
 first | (rw [writeR_f hw1]; exact ⟨_, _, rfl, rfl⟩) | (rw [writeR_3 hw0 (by omega)]; exact ⟨_, _, rfl, rfl⟩) | (rw [writeR_2 hw0 (by omega) (by omega)]; exact ⟨_, _, rfl, rfl⟩) | (rw [writeR_e hw0 (by omega) (by omega) (by omega)]; exact ⟨_, _, rfl, rfl⟩) | (rw [writeR_0 hw0 (by omega) (by omega) (by omega)]; exact ⟨_, _, rfl, rfl⟩)
 refine FJ.skip (FJ.then_ (FJ.seq (FJ.seq (FJ.region ?_))))
 refine FJ.ql rfl (q_move rfl (.t (.s4 (.s4 (.s4 (.s .z)))))) (FJ.ql rfl (q_move rfl (.t (.s4 (.s4 (.s4 (.s (.s (.s .z)))))))) (FJ.ql rfl (q_len rfl u_26 (.t .z)) ?_))
 refine FJ.ql rfl (q_add (c := i + (L.length : Int)) rfl (.t (.s (.s .z))) (.t .z) (wr (by omega) (by omega) (by omega))) ?_
 refine FJ.ql rfl (q_gtr rfl (.t .z) .c) (FJ.nil (FJ.then_ ?_))
 refine FJ.condP (.t .z) (fun b13 => ?_) (fun b13 => ?_)
 refine FJ.seq (FJ.region ?_)
 refine FJ.ql rfl (q_build (ps := [(0, .int .i64 2)]) (cs := [.int .i64 2, .slice none 0 0, .slice none 0 0]) rfl bl_33 (by intro act hact; simp only [List.map_toArray, List.map_cons, List.map_nil, (show Val _ _ _ from .c) act hact]) rfl) ?_
 refine FJ.es (goes_list rfl) rfl (es_store (off := 0) (cs := [.int .i64 2, .slice none 0 0, .slice none 0 0]) rfl sz_33 (.t (.s4 (.s4 (.s4 (.s (.s (.s .z))))))) (.t .z) rfl (ones rfl) .z (Nat.le_of_ble_eq_true rfl) (.c .z (.c (.s .z) (.c (.s (.s .z)) .n)))) ?_
 refine FJ.nil (FJ.then_ (FJ.ret (FJ.thenR ?_)))
 refine FJ.add (c := ownA kSl_73 [] [.slice none 0 0]) (fun w S => own_nil w S none) ?_
 refine FJ.add (c := ownA kSl_26 [] [.slice none 0 0]) (fun w S => own_nil w S none) ?_
 refine FJ.doneS (resC (cs := [.int .i64 2, .slice none 0 0, .slice none 0 0]) rfl (.s4 (.s4 (.s4 (.s (.s (.s .z)))))) ag_33 sz_33 (WS.rows0 (cs := [.int .i64 2, .slice none 0 0, .slice none 0 0]) (.s (.s .z)) (fun _ _ h => h))) (.c (.s .z) (.c .z .n)) ?_
 first | (rw [writeR_f hw1]; exact ⟨_, _, rfl, rfl⟩) | (rw [writeR_3 hw0 (by omega)]; exact ⟨_, _, rfl, rfl⟩) | (rw [writeR_2 hw0 (by omega) (by omega)]; exact ⟨_, _, rfl, rfl⟩) | (rw [writeR_e hw0 (by omega) (by omega) (by omega)]; exact ⟨_, _, rfl, rfl⟩) | (rw [writeR_0 hw0 (by omega) (by omega) (by omega)]; exact ⟨_, _, rfl, rfl⟩)
 refine FJ.skip (FJ.then_ (FJ.seq (FJ.seq (FJ.region ?_))))
 refine FJ.ql rfl (q_move rfl (.t (.s16 (.s (.s (.s .z)))))) (FJ.ql rfl (q_len rfl u_26 (.t .z)) (FJ.ql rfl (q_eql rfl (.t .z) .c) (FJ.nil (FJ.then_ ?_))))
 refine FJ.condP (.t .z) (fun b16 => ?_) (fun b16 => ?_)
 refine FJ.seq (FJ.region ?_)
 refine FJ.ql rfl (q_loadA (cs := [.slice A0_0 f.inodes.length c0_0, .slice A0_1 f.data.length c0_1]) rfl ag_31 sz_31 (.t (.s16 (.s (.s .z)))) (WS.rows0 (.s .z) (fun i u h => by exact h))) ?_
 refine FJ.call (goes_list rfl) rfl (by decide) rfl (c_call rfl Tryz.func72 rfl rfl (args1 (.t .z))) .n (fun w1 S1 hs tr => c_72 (kT_31_mk f (tr.ctx h0_0) (tr.ctx h0_1))) ?_
 rintro _ _ ⟨v17, v19, rfl, rfl⟩
 refine FJ.cat (.c (.c .n)) ?_
 refine FJ.know (WS.oform .z) ?_
 rintro ⟨Ao21, co21, rfl, hlo21, hmo21, hbo21⟩
 refine FJ.know (WS.oform (.s .z)) ?_
 rintro ⟨Ao22, co22, rfl, hlo22, hmo22, hbo22⟩
 refine FJ.ql rfl (q_build (ps := [(1, .agg #[.slice Ao21 f.inodes.length co21, .slice Ao22 f.data.length co22])]) (cs := [.int .i64 0, .slice Ao21 f.inodes.length co21, .slice Ao22 f.data.length co22]) rfl bl_33 (by intro act hact; simp only [List.map_toArray, List.map_cons, List.map_nil, (show Val _ _ _ from (.t .z)) act hact]) rfl) ?_
 refine FJ.es (goes_list rfl) rfl (es_store (off := 0) (cs := [.int .i64 0, .slice Ao21 f.inodes.length co21, .slice Ao22 f.data.length co22]) rfl sz_33 (.t (.s16 (.s4 .z))) (.t .z) rfl (ones rfl) (.s (.s .z)) (Nat.le_of_ble_eq_true rfl) (.c .z (.c (.s .z) (.c (.s (.s .z)) .n)))) ?_
 refine FJ.nil (FJ.then_ (FJ.ret (FJ.thenR ?_)))
 refine FJ.doneS (resC (cs := [.int .i64 0, .slice Ao21 f.inodes.length co21, .slice Ao22 f.data.length co22]) rfl (.s16 (.s4 .z)) ag_33 sz_33 (WS.rows0 (cs := [.int .i64 0, .slice Ao21 f.inodes.length co21, .slice Ao22 f.data.length co22]) .z (fun _ _ h => h))) (.c (.s .z) (.c (.s .z) .n)) ?_
 first | (rw [writeR_f hw1]; exact ⟨_, _, rfl, rfl⟩) | (rw [writeR_3 hw0 (by omega)]; exact ⟨_, _, rfl, rfl⟩) | (rw [writeR_2 hw0 (by omega) (by omega)]; exact ⟨_, _, rfl, rfl⟩) | (rw [writeR_e hw0 (by omega) (by omega) (by omega)]; exact ⟨_, _, rfl, rfl⟩) | (rw [writeR_0 hw0 (by omega) (by omega) (by omega)]; exact ⟨_, _, rfl, rfl⟩)
 refine FJ.skip (FJ.then_ (FJ.seq (FJ.region (FJ.ql rfl (q_move rfl (.t (.s16 (.s4 .z)))) ?_))))
 refine FJ.call (goes_list rfl) rfl (by decide) rfl (c_call rfl Tryz.func73 rfl rfl (args2 (.t (.s16 (.s (.s (.s .z))))) (.t .z))) .n (fun w1 S1 hs tr => c_73 (tr.ptr (.s .z) (kT_31_mk f (tr.ctx h0_0) (tr.ctx h0_1))) _ (by assumption) (by first | assumption | (constructor <;> omega))) ?_
 rintro _ _ rfl
 refine FJ.cat (.c .n) ?_
 refine FJ.know (WS.oform .z) ?_
 rintro ⟨Ao24, co24, rfl, hlo24, hmo24, hbo24⟩
 refine FJ.ql rfl (q_assign rfl (.t .z)) (FJ.nil (FJ.then_ (FJ.seq (FJ.block ?_))))
 have he25 : fileB f a = fileB f a ++ List.replicate 0 0 := (padz_0 _)
 refine FJ.ceq .z he25 ?_
 refine FJ.chEq .z (congrArg (fun z_ : Nat => (ownA kSl_5 (fileB f a ++ List.replicate 0 0) [.slice Ao24 z_ co24] : Asn)) (congrArg List.length he25)) ?_
 refine FJ.eq .z (congrArg (fun z_ : Nat => (.slice Ao24 z_ co24 : Value)) (congrArg List.length he25)) ?_
 refine FJ.eq (.s .z) (congrArg (fun z_ : Nat => (.slice Ao24 z_ co24 : Value)) (congrArg List.length he25)) ?_
 refine FJ.loopi (γ := Nat × (Option Addr) × Nat) (fun ⟨k, Agk0, cgk0⟩ => [(12, .slice Agk0 (fileB f a ++ List.replicate k 0).length cgk0), (10, .pointer (some ⟨g6, 0, none⟩)), (5, .pointer (some ⟨g5, 0, none⟩)), (1, .int .i64 a), (2, .int .i64 i), (3, .slice A3 L.length c3), (4, .slice A4 b.length c4)]) (fun ⟨k, Agk0, cgk0⟩ => [ownA kSl_5 (fileB f a ++ List.replicate k 0) [.slice Agk0 (fileB f a ++ List.replicate k 0).length cgk0], rowA g6 33 3 1 [.int .i64 0, .slice none 0 0, .slice none 0 0], rowA g5 31 2 1 [.slice A0_0 f.inodes.length c0_0, .slice A0_1 f.data.length c0_1]]) (fun ⟨k, Agk0, cgk0⟩ => k ≤ Int.toNat (i + (L.length : Int)) - (fileB f a).length) (fun ⟨k, Agk0, cgk0⟩ => Int.toNat (i + (L.length : Int)) - (fileB f a).length - k) (0, Ao24, co24) (Nat.zero_le _) (.c (.s .z) (.c (.s16 (.s4 .z)) (.c (.s16 (.s4 (.s .z))) (.c (.s16 (.s4 (.s (.s (.s .z))))) (.c (.s16 (.s4 (.s4 .z))) (.c (.s16 (.s4 (.s4 (.s .z)))) (.c (.s16 (.s4 (.s4 (.s (.s .z))))) .n))))))) (fun _ h => h.sel (.c .z (.c .z (.c .z .n)))) ?_
 rintro ⟨k, Agk0, cgk0⟩ hk
 have hpl := padz_len (L := fileB f a) (k := k)
 refine FJ.seq (FJ.seq (FJ.region (FJ.ql rfl (q_move rfl (.t .z)) (FJ.ql rfl (q_len rfl u_26 (.t .z)) ?_))))
 refine FJ.ql rfl (q_move rfl (.t (.s4 (.s (.s .z))))) (FJ.ql rfl (q_move rfl (.t (.s4 (.s4 .z)))) (FJ.ql rfl (q_len rfl u_26 (.t .z)) ?_))
 refine FJ.ql rfl (q_add (c := i + (L.length : Int)) rfl (.t (.s (.s .z))) (.t .z) (wr (by omega) (by omega) (by omega))) ?_
 refine FJ.ql rfl (q_lss rfl (.t (.s4 .z)) (.t .z)) (FJ.nil (FJ.then_ ?_))
 refine FJ.condP (.t .z) (fun b26 => ?_) (fun b26 => ?_)
 refine FJ.skip (FJ.then_ (FJ.block (FJ.region (FJ.ql rfl (q_move rfl (.t (.s4 (.s (.s (.s .z)))))) ?_))))
 refine FJ.e (goes_list rfl) rfl (by decide) rfl (e_buildSliceL (ps := [(0, .int .u8 0)]) (cs := [.int .u8 0]) rfl u_26 (inz inf_5) (by decide) (by intro act hact; simp only [List.map_toArray, List.map_cons, List.map_nil, (show Val _ _ _ from .c) act hact]) rfl rfl (by decide) rfl rfl) ?_
 rintro _ _ ⟨g27, rfl, rfl⟩
 refine FJ.add (c := ownA kbyte (0 : UInt8) [.int .u8 0]) (fun _ _ => ⟨rfl, trivial⟩) ?_
 refine FJ.e (goes_list rfl) rfl (by decide) rfl (e_append1 rfl u_26 inf_5 rfl (.t (.s .z)) (.t .z) (.c (.s (.s .z)) (.c (.s .z) (.c .z .n))) (by first | omega | (simp only [List.length_append, List.length_replicate, List.length_cons, List.length_nil]; omega)) (by first | omega | (simp only [List.length_append, List.length_replicate, List.length_cons, List.length_nil]; omega))) ?_
 rintro _ _ rfl
 refine FJ.ceq .z padz_s ?_
 refine FJ.know (WS.oform .z) ?_
 rintro ⟨Ao29, co29, rfl, hlo29, hmo29, hbo29⟩
 refine FJ.er (.s4 (.s4 (.s (.s .z)))) (FJ.ql rfl (q_assign rfl (.t .z)) (FJ.nil (FJ.inBN ?_)))
 refine FJ.again ((k + 1), Ao29, co29) (by omega) (by first | omega | (dsimp only; omega)) (.c .z (.c (.s4 (.s4 (.s (.s (.s .z))))) (.c (.s4 (.s4 (.s4 .z))) (.c (.s4 (.s4 (.s4 (.s .z)))) (.c (.s4 (.s4 (.s4 (.s (.s .z))))) (.c (.s4 (.s4 (.s4 (.s (.s (.s .z)))))) (.c (.s16 .z) .n))))))) (fun _ h => h.sel (.c .z (.c .z (.c .z .n))))
 refine FJ.exit (FJ.thenE (FJ.thenE (FJ.inB (FJ.then_ ?_))))
 refine FJ.seq (FJ.seq (FJ.region (FJ.ql rfl (q_assign rfl .c) (FJ.nil ?_))))
 refine FJ.then_ (FJ.block ?_)
 have he30 : fileB f a ++ List.replicate k 0 = padZ (fileB f a) (i + (L.length : Int)) := (padz_all (by omega) (by omega))
 refine FJ.eq (.s .z) (congrArg (fun z_ => (.bool (decide (((z_).length : Int) < i + (L.length : Int))) : Value)) he30) ?_
 refine FJ.eq (.s4 (.s (.s .z))) (congrArg (fun z_ => (.int .i64 ((z_).length : Int) : Value)) he30) ?_
 refine FJ.eq (.s4 (.s (.s (.s .z)))) (congrArg (fun z_ => (.slice Agk0 (z_).length cgk0 : Value)) he30) ?_
 refine FJ.eq (.s4 (.s4 .z)) (congrArg (fun z_ => (.slice Agk0 (z_).length cgk0 : Value)) he30) ?_
 refine FJ.chEq .z (congrArg (fun z_ => (ownA kSl_5 (z_) [.slice Agk0 (z_).length cgk0] : Asn)) he30) ?_
 have hzl := @padZ_len (fileB f a) (i + (L.length : Int))
 refine FJ.ceq (x' := putB (padZ (fileB f a) (i + (L.length : Int))) (Int.toNat i) L 0) .z (putB_0 _ _ _) ?_
 refine FJ.loopi (γ := Nat) (fun q => [(12, .slice Agk0 (padZ (fileB f a) (i + (L.length : Int))).length cgk0), (13, .int .i64 (q : Int)), (10, .pointer (some ⟨g6, 0, none⟩)), (5, .pointer (some ⟨g5, 0, none⟩)), (1, .int .i64 a), (2, .int .i64 i), (3, .slice A3 L.length c3), (4, .slice A4 b.length c4)]) (fun q => [ownA kSl_5 (putB (padZ (fileB f a) (i + (L.length : Int))) (Int.toNat i) L q) [.slice Agk0 (padZ (fileB f a) (i + (L.length : Int))).length cgk0], rowA g6 33 3 1 [.int .i64 0, .slice none 0 0, .slice none 0 0], rowA g5 31 2 1 [.slice A0_0 f.inodes.length c0_0, .slice A0_1 f.data.length c0_1]]) (fun q => q ≤ L.length) (fun q => L.length - q) 0 (Nat.zero_le _) (.c .z (.c (.s4 .z) (.c (.s4 (.s4 (.s .z))) (.c (.s4 (.s4 (.s (.s .z)))) (.c (.s4 (.s4 (.s (.s (.s .z))))) (.c (.s4 (.s4 (.s4 .z))) (.c (.s4 (.s4 (.s4 (.s .z)))) (.c (.s4 (.s4 (.s4 (.s (.s .z))))) .n)))))))) (fun _ h => h.sel (.c .z (.c .z (.c .z .n)))) ?_
 rintro q hq
 have hpq : (putB (padZ (fileB f a) (i + (L.length : Int))) (Int.toNat i) L q).length = (padZ (fileB f a) (i + (L.length : Int))).length := putB_len (by omega) (by omega)
 refine FJ.seq (FJ.seq (FJ.region (FJ.ql rfl (q_move rfl (.t (.s .z))) (FJ.ql rfl (q_move rfl (.t (.s4 (.s (.s (.s .z)))))) ?_))))
 refine FJ.ql rfl (q_len rfl u_26 (.t .z)) (FJ.ql rfl (q_lss rfl (.t (.s (.s .z))) (.t .z)) (FJ.nil (FJ.then_ ?_)))
 refine FJ.condP (.t .z) (fun b31 => ?_) (fun b31 => ?_)
 refine FJ.skip (FJ.then_ (FJ.seq (FJ.block (FJ.region ?_))))
 refine FJ.ql rfl (q_move rfl (.t (.s4 .z))) (FJ.ql rfl (q_move rfl (.t (.s4 (.s4 (.s (.s .z)))))) (FJ.ql rfl (q_move rfl (.t (.s4 (.s (.s (.s .z)))))) ?_))
 refine FJ.ql rfl (q_add (c := i + (q : Int)) rfl (.t (.s .z)) (.t .z) (wr (by omega) (by omega) (by omega))) ?_
 refine FJ.ql rfl (q_move rfl (.t (.s4 (.s4 (.s4 (.s (.s .z))))))) (FJ.ql rfl (q_move rfl (.t (.s4 (.s4 (.s (.s .z)))))) ?_)
 obtain ⟨ad32, hAad32, hrad32⟩ := he3 (by omega)
 subst hAad32
 obtain ⟨x33, hx33⟩ := get_ex (xs := L) (j := q) (by first | omega | (rw [hpq]; omega))
 obtain ⟨ece34, hre34, hFe34, hce34⟩ := hrad32.elem hx33
 obtain ⟨rfl, se34⟩ := hre34
 refine FJ.ql rfl (q_indexAddr (j := q) rfl u_26 sz_5 (.t (.s .z)) (.t .z) rfl (by first | omega | (rw [hpq]; omega))) ?_
 refine FJ.ql rfl (q_load rfl ag_5 (.t .z) (WS.el0 hFe34 hce34 rfl)) ?_
 refine FJ.know (WS.oad .z (by omega)) ?_
 rintro ⟨ad35, rfl⟩
 refine FJ.ql rfl (q_indexAddr (j := Int.toNat (i + (q : Int))) rfl u_26 sz_5 (.t (.s4 (.s (.s (.s .z))))) (.t (.s4 .z)) (by omega) (by first | omega | (rw [hpq]; omega))) ?_
 refine FJ.add (c := ownA kbyte x33 [.int .u8 (x33.toNat : Int)]) (fun _ _ => ⟨rfl, trivial⟩) ?_
 refine FJ.es (goes_list rfl) rfl (es_set (j := Int.toNat (i + (q : Int))) rfl sz_5 (.t .z) (.t (.s .z)) rfl (.c (.s .z) (.c .z .n)) (by first | omega | (rw [hpq]; omega))) ?_
 refine FJ.ceq .z (by first | exact putB_s hx33 (by omega) | (rw [show Int.toNat (i + (q : Int)) = Int.toNat i + q by omega, putB_s hx33 (by omega)])) ?_
 refine FJ.nil (FJ.inBN (FJ.then_ (FJ.region (FJ.ql rfl (q_move rfl (.t (.s4 (.s4 (.s4 (.s (.s .z))))))) ?_))))
 refine FJ.ql rfl (q_add (c := ((q + 1 : Nat) : Int)) rfl (.t .z) .c (wr (by omega) (by omega) (by omega))) ?_
 refine FJ.er (.s16 .z) (FJ.ql rfl (q_assign rfl (.t .z)) (FJ.nil ?_))
 refine FJ.again (q + 1) (by omega) (by first | omega | (dsimp only; omega)) (.c (.s16 .z) (.c .z (.c (.s16 (.s .z)) (.c (.s16 (.s (.s .z))) (.c (.s16 (.s (.s (.s .z)))) (.c (.s16 (.s4 .z)) (.c (.s16 (.s4 (.s .z))) (.c (.s16 (.s4 (.s (.s .z)))) .n)))))))) (fun _ h => h.sel (.c .z (.c .z (.c .z .n))))
 refine FJ.exit (FJ.thenE (FJ.thenE (FJ.inB (FJ.then_ ?_))))
 refine FJ.seq (FJ.region ?_)
 refine FJ.ql rfl (q_loadA (cs := [.slice A0_0 f.inodes.length c0_0, .slice A0_1 f.data.length c0_1]) rfl ag_31 sz_31 (.t (.s4 (.s (.s (.s .z))))) (WS.rows0 (.s (.s .z)) (fun i u h => by exact h))) ?_
 refine FJ.ql rfl (q_move rfl (.t (.s4 (.s4 (.s .z))))) (FJ.ql rfl (q_move rfl (.t (.s4 (.s (.s .z))))) (FJ.ql rfl (q_move rfl (.t (.s4 (.s4 (.s4 (.s (.s .z))))))) ?_))
 have he37 : putB (padZ (fileB f a) (i + (L.length : Int))) (Int.toNat i) L q = wroteB f a i L := (putB_all (by omega) (by omega))
 refine FJ.chEq .z (congrArg (fun z_ => (ownA kSl_5 (z_) [.slice Agk0 (padZ (fileB f a) (i + (L.length : Int))).length cgk0] : Asn)) he37) ?_
 refine FJ.call (goes_list rfl) rfl (by decide) rfl (c_call rfl Tryz.func58 rfl rfl (args4 (.t (.s (.s (.s .z)))) (.t (.s (.s .z))) (.t (.s .z)) (.t .z))) .n (fun w1 S1 hs tr => c_58 (kT_31_mk f (tr.ctx h0_0) (tr.ctx h0_1)) _ (tr.own .z) (tr.ctx h4) (by assumption) (by first | assumption | (constructor <;> omega)) (by assumption)) ?_
 rintro _ _ ⟨v38, v40, rfl, rfl⟩
 refine FJ.cat (.c (.c .n)) ?_
 refine FJ.know (WS.oform .z) ?_
 rintro ⟨Ao42, co42, rfl, hlo42, hmo42, hbo42⟩
 refine FJ.know (WS.oform (.s .z)) ?_
 rintro ⟨Ao43, co43, rfl, hlo43, hmo43, hbo43⟩
 refine FJ.es (goes_list rfl) rfl (es_store (off := 0) (cs := [.int .i64 ((setG f a (wroteB f a i L) b).code), .slice Ao42 ((setG f a (wroteB f a i L) b).fs.inodes).length co42, .slice Ao43 ((setG f a (wroteB f a i L) b).fs.data).length co43]) rfl sz_33 (.t (.s4 (.s4 (.s (.s (.s .z)))))) (.t .z) rfl (ones rfl) (.s (.s (.s .z))) (Nat.le_of_ble_eq_true rfl) (.c .z (.c (.s .z) (.c (.s (.s .z)) .n)))) ?_
 refine FJ.nil (FJ.then_ (FJ.ret ?_))
 refine FJ.doneS (resC (cs := [.int .i64 ((setG f a (wroteB f a i L) b).code), .slice Ao42 ((setG f a (wroteB f a i L) b).fs.inodes).length co42, .slice Ao43 ((setG f a (wroteB f a i L) b).fs.data).length co43]) rfl (.s4 (.s4 (.s (.s (.s .z))))) ag_33 sz_33 (WS.rows0 (cs := [.int .i64 ((setG f a (wroteB f a i L) b).code), .slice Ao42 ((setG f a (wroteB f a i L) b).fs.inodes).length co42, .slice Ao43 ((setG f a (wroteB f a i L) b).fs.data).length co43]) .z (fun _ _ h => h))) (.c (.s .z) (.c (.s .z) .n)) ?_
 first | (rw [writeR_f hw1]; exact ⟨_, _, rfl, rfl⟩) | (rw [writeR_3 hw0 (by omega)]; exact ⟨_, _, rfl, rfl⟩) | (rw [writeR_2 hw0 (by omega) (by omega)]; exact ⟨_, _, rfl, rfl⟩) | (rw [writeR_e hw0 (by omega) (by omega) (by omega)]; exact ⟨_, _, rfl, rfl⟩) | (rw [writeR_0 hw0 (by omega) (by omega) (by omega)]; exact ⟨_, _, rfl, rfl⟩)

end Go.Proofs.YticaddophhggoaaGreat

/- What is proved: contracts of functions, one a function. No condition. -/
import Derived.Test.YtkmcpcahbfdohaaW8
import Derived.Test.YtkmcpcahbfdohaaBase1
namespace Go.Proofs.Ytkmcpcahbfdohaa
open Go Go.RowKit
set_option linter.unusedVariables false
set_option linter.unusedSimpArgs false
set_option maxHeartbeats 1000000 in
set_option maxRecDepth 20000 in
theorem c_109 {w0 : World} {S0 : Bs} {x : (List DExt)} {v0 : Value} (h0 : kSl_165.ro w0 (FF w0 S0) x [v0]) (n : Int) (hn0 : 0 ≤ n) (hn1 : n ≤ 1048576) :
    Calls Try.prog 109 #[v0, .int .i64 n] w0 (TriPost w0 S0 (fun r l => ∃ c : Int, r = .int .i64 c ∧ c ≤ n ∧ (0 ≤ c → (x.length : Int) ≤ n - c) ∧ l = [])) := by
 obtain ⟨A0, c0, rfl, hl0, hm0, hb0, he0⟩ := ro_form h0
 refine FJ.enter (N := 12) Try.func109 rfl rfl (by simp) [(0, .slice A0 x.length c0), (1, .int .i64 n)] (by simp) (l0 := []) trivial ?_
 refine FJ.seq (FJ.region (FJ.ql rfl (q_assign rfl .c) (FJ.nil (FJ.then_ ?_))))
 refine FJ.seq (FJ.region (FJ.ql rfl (q_move rfl (.t (.s (.s .z)))) (FJ.ql rfl (q_move rfl (.t (.s (.s .z)))) (FJ.ql rfl (q_len rfl u_67 (.t .z)) ?_))))
 refine FJ.ql rfl (q_sub (c := n - (x.length : Int)) rfl (.t (.s (.s .z))) (.t .z) (wr (by omega) (by omega) (by omega))) ?_
 refine FJ.er (.s4 (.s (.s .z))) (FJ.ql rfl (q_assign rfl (.t .z)) (FJ.nil (FJ.then_ (FJ.seq ?_))))
 refine FJ.seq (FJ.region (FJ.ql rfl (q_move rfl (.t .z)) (FJ.ql rfl (q_lss rfl (.t .z) .c) (FJ.nil ?_))))
 refine FJ.then_ ?_
 refine FJ.condP (.t .z) (fun b2 => ?_) (fun b2 => ?_)
 refine FJ.seq (FJ.region (FJ.er (.s4 (.s (.s (.s .z)))) (FJ.ql rfl (q_assign rfl .c) (FJ.nil ?_))))
 refine FJ.then_ (FJ.ret (FJ.thenR ?_))
 refine FJ.doneS (res1 rfl .z) .n ?_
 exact ⟨(-1), rfl, by omega, by omega, rfl⟩
 refine FJ.skip (FJ.then_ (FJ.seq (FJ.region (FJ.ql rfl (q_move rfl (.t (.s (.s .z)))) ?_))))
 refine FJ.er (.s4 (.s4 .z)) (FJ.ql rfl (q_assign rfl (.t .z)) (FJ.nil (FJ.then_ (FJ.ret ?_))))
 refine FJ.doneS (res1 rfl .z) .n ?_
 exact ⟨(n - (x.length : Int)), rfl, by omega, by omega, rfl⟩

set_option maxHeartbeats 1000000 in
set_option maxRecDepth 20000 in
theorem c_47 {w0 : World} {S0 : Bs} {x : DKern} {cs0 : List Value} (h0 : kT_69.ro w0 (FF w0 S0) x cs0) (n : Int) (hn0 : 0 ≤ n) (hn1 : n ≤ 1048576) :
    Calls Try.prog 47 #[.agg cs0.toArray, .int .i64 n] w0 (TriPost w0 S0 (fun r l => ∃ c : Int, r = .int .i64 c ∧ c ≤ n ∧ (0 ≤ c → ((wt_DKern x) : Int) ≤ n - c) ∧ l = [])) := by
 obtain ⟨u0_0, u0_1, u0_2, rfl, h0_0, h0_1, h0_2⟩ := kT_69_ro h0
 obtain ⟨A0_0, c0_0, rfl, hl0_0, hm0_0, hb0_0, he0_0⟩ := ro_form h0_0
 obtain ⟨A0_1, c0_1, rfl, hl0_1, hm0_1, hb0_1, he0_1⟩ := ro_form h0_1
 obtain ⟨A0_2, c0_2, rfl, hl0_2, hm0_2, hb0_2, he0_2⟩ := ro_form h0_2
 refine FJ.enter (N := 18) Try.func47 rfl rfl (by simp) [(0, .agg #[.slice A0_0 x.disk.blocks.length c0_0, .slice A0_1 x.disk.cache.length c0_1, .slice A0_2 x.exts.length c0_2]), (1, .int .i64 n)] (by simp) (l0 := []) trivial ?_
 refine FJ.seq (FJ.region ?_)
 refine FJ.e (goes_list rfl) rfl (by decide) rfl (e_box (cs := [.slice A0_0 x.disk.blocks.length c0_0, .slice A0_1 x.disk.cache.length c0_1, .slice A0_2 x.exts.length c0_2]) (n := 3) rfl (.t .z) rfl rfl) ?_
 rintro _ _ ⟨g4, rfl, rfl⟩
 refine FJ.ql rfl (q_assign rfl .c) (FJ.nil (FJ.then_ (FJ.seq (FJ.region ?_))))
 refine FJ.ql rfl (q_fieldAddr rfl (.t (.s .z)) (fun _ => fa_69_0 _ _)) (FJ.ql rfl (q_loadA (cs := [.slice A0_0 x.disk.blocks.length c0_0, .slice A0_1 x.disk.cache.length c0_1]) rfl ag_34 sz_34 (.t .z) (WS.rows .z (sub_at rfl))) (FJ.ql rfl (q_move rfl (.t (.s4 (.s .z)))) ?_))
 refine FJ.call (goes_list rfl) rfl (by decide) rfl (c_call rfl Try.func25 rfl rfl (args2 (.t (.s .z)) (.t .z))) .n (fun w1 S1 hs tr => c_25 (kT_34_mk x.disk (tr.ctx h0_0) (tr.ctx h0_1)) _ (by omega) (by omega)) ?_
 rintro _ _ ⟨c5, rfl, hc5, wc5, rfl⟩
 refine FJ.cat .n ?_
 refine FJ.er (.s4 (.s (.s (.s .z)))) (FJ.ql rfl (q_assign rfl (.t .z)) (FJ.nil (FJ.then_ (FJ.seq ?_))))
 refine FJ.seq (FJ.region (FJ.ql rfl (q_move rfl (.t .z)) (FJ.ql rfl (q_lss rfl (.t .z) .c) (FJ.nil ?_))))
 refine FJ.then_ ?_
 refine FJ.condP (.t .z) (fun b6 => ?_) (fun b6 => ?_)
 refine FJ.seq (FJ.region (FJ.er (.s4 (.s (.s (.s .z)))) (FJ.ql rfl (q_assign rfl .c) (FJ.nil ?_))))
 refine FJ.then_ (FJ.ret (FJ.thenR ?_))
 refine FJ.doneS (res1 rfl .z) .n ?_
 exact ⟨(-1), rfl, by omega, by simp only [wt_DKern]; omega, rfl⟩
 refine FJ.skip (FJ.then_ (FJ.seq (FJ.region (FJ.ql rfl (q_fieldAddr rfl (.t (.s4 (.s4 .z))) (fun _ => fa_69_1 _ _)) ?_))))
 refine FJ.ql rfl (q_load rfl ag_67 (.t .z) (WS.row .z rfl)) (FJ.ql rfl (q_move rfl (.t (.s4 .z))) ?_)
 refine FJ.call (goes_list rfl) rfl (by decide) rfl (c_call rfl Try.func109 rfl rfl (args2 (.t (.s .z)) (.t .z))) .n (fun w1 S1 hs tr => c_109 (tr.ctx h0_2) _ (by omega) (by omega)) ?_
 rintro _ _ ⟨c7, rfl, hc7, wc7, rfl⟩
 refine FJ.cat .n ?_
 refine FJ.er (.s4 (.s (.s .z))) (FJ.ql rfl (q_assign rfl (.t .z)) (FJ.nil (FJ.then_ (FJ.seq ?_))))
 refine FJ.seq (FJ.region (FJ.ql rfl (q_move rfl (.t .z)) (FJ.ql rfl (q_lss rfl (.t .z) .c) (FJ.nil ?_))))
 refine FJ.then_ ?_
 refine FJ.condP (.t .z) (fun b8 => ?_) (fun b8 => ?_)
 refine FJ.seq (FJ.region (FJ.er (.s4 (.s4 (.s4 (.s .z)))) (FJ.ql rfl (q_assign rfl .c) (FJ.nil ?_))))
 refine FJ.then_ (FJ.ret (FJ.thenR ?_))
 refine FJ.doneS (res1 rfl .z) .n ?_
 exact ⟨(-1), rfl, by omega, by simp only [wt_DKern]; omega, rfl⟩
 refine FJ.skip (FJ.then_ (FJ.seq (FJ.region (FJ.ql rfl (q_move rfl (.t (.s (.s .z)))) ?_))))
 refine FJ.er (.s4 (.s4 (.s4 (.s (.s .z))))) (FJ.ql rfl (q_assign rfl (.t .z)) (FJ.nil (FJ.then_ (FJ.ret ?_))))
 refine FJ.doneS (res1 rfl .z) .n ?_
 exact ⟨c7, rfl, by omega, by simp only [wt_DKern]; omega, rfl⟩

set_option maxHeartbeats 1000000 in
set_option maxRecDepth 20000 in
theorem c_151 {w0 : World} {S0 : Bs} {x : DExt} {cs0 : List Value} (h0 : kT_165.ro w0 (FF w0 S0) x cs0)  :
    Calls Try.prog 151 #[.agg cs0.toArray] w0 (TriPost w0 S0 (RA_135 x)) := by
 obtain rfl := kT_165_ro h0
 refine FJ.enter (N := 14) Try.func151 rfl rfl (by simp) [(0, .agg #[.int .i64 x.frm, .int .i64 x.cnt, .int .i64 x.key])] (by simp) (l0 := []) trivial ?_
 refine FJ.seq (FJ.region ?_)
 refine FJ.e (goes_list rfl) rfl (by decide) rfl (e_box (cs := [.int .i64 x.frm, .int .i64 x.cnt, .int .i64 x.key]) (n := 3) rfl (.t .z) rfl rfl) ?_
 rintro _ _ ⟨g1, rfl, rfl⟩
 refine FJ.e (goes_list rfl) rfl (by decide) rfl (e_alloc rfl z_135 rfl rfl) ?_
 rintro _ _ ⟨g2, rfl, rfl⟩
 refine FJ.nil (FJ.then_ (FJ.seq (FJ.region ?_)))
 refine FJ.e (goes_list rfl) rfl (by decide) rfl (e_alloc rfl z_135 rfl rfl) ?_
 rintro _ _ ⟨g3, rfl, rfl⟩
 refine FJ.nil (FJ.then_ (FJ.seq (FJ.region (FJ.ql rfl (q_fieldAddr rfl (.t (.s (.s .z))) (fun _ => fa_165_0 _ _)) ?_))))
 refine FJ.ql rfl (q_load rfl ag_2 (.t .z) (WS.row (.s (.s .z)) rfl)) (FJ.ql rfl (q_fieldAddr rfl (.t (.s (.s .z))) (fun _ => fa_135_0 _ _)) ?_)
 refine FJ.es (goes_list rfl) rfl (es_store (off := 0) (cs := [.int .i64 x.frm]) rfl sz_2 (.t .z) (.t (.s .z)) rfl (ones rfl) .z (Nat.le_of_ble_eq_true rfl) (.c .z .n)) ?_
 refine FJ.nil (FJ.then_ (FJ.seq (FJ.region (FJ.ql rfl (q_fieldAddr rfl (.t (.s4 (.s .z))) (fun _ => fa_165_1 _ _)) ?_))))
 refine FJ.ql rfl (q_load rfl ag_2 (.t .z) (WS.row (.s (.s .z)) rfl)) (FJ.ql rfl (q_fieldAddr rfl (.t (.s4 (.s .z))) (fun _ => fa_135_1 _ _)) ?_)
 refine FJ.es (goes_list rfl) rfl (es_store (off := 1) (cs := [.int .i64 x.cnt]) rfl sz_2 (.t .z) (.t (.s .z)) rfl (ones rfl) .z (Nat.le_of_ble_eq_true rfl) (.c (.s .z) .n)) ?_
 refine FJ.nil (FJ.then_ (FJ.seq (FJ.region (FJ.ql rfl (q_fieldAddr rfl (.t (.s4 (.s4 .z))) (fun _ => fa_165_2 _ _)) ?_))))
 refine FJ.ql rfl (q_load rfl ag_2 (.t .z) (WS.row (.s (.s .z)) rfl)) (FJ.ql rfl (q_fieldAddr rfl (.t (.s4 (.s4 .z))) (fun _ => fa_135_2 _ _)) ?_)
 refine FJ.es (goes_list rfl) rfl (es_store (off := 2) (cs := [.int .i64 x.key]) rfl sz_2 (.t .z) (.t (.s .z)) rfl (ones rfl) .z (Nat.le_of_ble_eq_true rfl) (.c (.s (.s .z)) .n)) ?_
 refine FJ.nil (FJ.then_ (FJ.seq (FJ.region ?_)))
 refine FJ.ql rfl (q_loadA (cs := [.int .i64 x.frm, .int .i64 x.cnt, .int .i64 x.key]) rfl ag_135 sz_135 (.t (.s4 (.s4 (.s .z)))) (WS.rows0 .z (fun i u h => by exact h))) ?_
 refine FJ.es (goes_list rfl) rfl (es_store (off := 0) (cs := [.int .i64 x.frm, .int .i64 x.cnt, .int .i64 x.key]) rfl sz_135 (.t (.s4 (.s4 (.s (.s (.s .z)))))) (.t .z) rfl (ones rfl) (.s .z) (Nat.le_of_ble_eq_true rfl) (.c .z (.c (.s .z) (.c (.s (.s .z)) .n)))) ?_
 refine FJ.nil (FJ.then_ (FJ.ret ?_))
 refine FJ.doneS (resC (cs := [.int .i64 x.frm, .int .i64 x.cnt, .int .i64 x.key]) rfl (.s4 (.s4 (.s (.s (.s .z))))) ag_135 sz_135 (WS.rows0 (cs := [.int .i64 x.frm, .int .i64 x.cnt, .int .i64 x.key]) .z (fun _ _ h => h))) .n ?_
 exact ⟨rfl, rfl⟩

set_option maxHeartbeats 1000000 in
set_option maxRecDepth 20000 in
theorem c_111 {w0 : World} {S0 : Bs} {x : (List DExt)} {v0 : Value} (h0 : kSl_165.ro w0 (FF w0 S0) x [v0])  :
    Calls Try.prog 111 #[v0] w0 (TriPost w0 S0 (fun r l => l = [ownA kSl_135 x [r]])) := by
 obtain ⟨A0, c0, rfl, hl0, hm0, hb0, he0⟩ := ro_form h0
 refine FJ.enter (N := 23) Try.func111 rfl rfl (by simp) [(0, .slice A0 x.length c0)] (by simp) (l0 := []) trivial ?_
 refine FJ.seq (FJ.region (FJ.ql rfl (q_assign rfl .c) (FJ.nil (FJ.then_ ?_))))
 refine FJ.seq (FJ.region (FJ.ql rfl (q_move rfl (.t (.s .z))) (FJ.ql rfl (q_len rfl u_67 (.t .z)) ?_)))
 refine FJ.e (goes_list rfl) rfl (by decide) rfl (e_makeSlice (n := x.length) (x0 := (⟨0, 0, 0⟩ : DExt)) rfl u_41 inf_135 rfl (fun w S => zero_135 w S) (.t .z) (.t .z) (by omega) (by omega)) ?_
 rintro _ _ rfl
 refine FJ.know (WS.oform .z) ?_
 rintro ⟨Ao3, co3, rfl, hlo3, hmo3, hbo3⟩
 refine FJ.ql rfl (q_assign rfl (.t .z)) (FJ.nil (FJ.then_ (FJ.seq (FJ.seq ?_))))
 refine FJ.region (FJ.ql rfl (q_assign rfl .c) (FJ.nil (FJ.then_ (FJ.block ?_))))
 refine FJ.ceq .z (fillC_zero x (⟨0, 0, 0⟩ : DExt)) ?_
 refine FJ.loopi (γ := Nat) (fun k => [(4, .int .i64 (k : Int)), (3, .slice Ao3 (List.replicate x.length (⟨0, 0, 0⟩ : DExt)).length co3), (2, .slice none 0 0), (0, .slice A0 x.length c0)]) (fun k => [ownA kSl_135 (fillC x (⟨0, 0, 0⟩ : DExt) k) [.slice Ao3 (List.replicate x.length (⟨0, 0, 0⟩ : DExt)).length co3]]) (fun k => k ≤ x.length) (fun k => x.length - k) 0 (Nat.zero_le _) (.c .z (.c (.s .z) (.c (.s4 (.s .z)) (.c (.s4 (.s (.s .z))) .n)))) (fun _ h => h.sel (.c .z .n)) ?_
 rintro k hk
 refine FJ.seq (FJ.seq (FJ.region (FJ.ql rfl (q_move rfl (.t .z)) (FJ.ql rfl (q_move rfl (.t (.s4 .z))) ?_))))
 refine FJ.ql rfl (q_len rfl u_67 (.t .z)) (FJ.ql rfl (q_lss rfl (.t (.s (.s .z))) (.t .z)) (FJ.nil (FJ.then_ ?_)))
 refine FJ.condP (.t .z) (fun b4 => ?_) (fun b4 => ?_)
 refine FJ.skip (FJ.then_ (FJ.seq (FJ.block (FJ.region ?_))))
 refine FJ.ql rfl (q_move rfl (.t (.s4 (.s .z)))) (FJ.ql rfl (q_move rfl (.t (.s4 (.s .z)))) (FJ.ql rfl (q_move rfl (.t (.s4 (.s4 (.s .z))))) (FJ.ql rfl (q_move rfl (.t (.s4 (.s (.s (.s .z)))))) ?_)))
 obtain ⟨ad5, hAad5, hrad5⟩ := he0 (by omega)
 subst hAad5
 obtain ⟨x6, hx6⟩ := get_ex (xs := x) (j := k) (by first | omega | (rw [fillC_len (by omega)]; omega) | (rw [List.length_replicate]; omega))
 obtain ⟨ece7, hre7, hFe7, hce7⟩ := hrad5.elem hx6
 obtain rfl := kT_165_ro hre7
 refine FJ.ql rfl (q_indexAddr (j := k) rfl u_67 sz_165 (.t (.s .z)) (.t .z) rfl (by first | omega | (rw [fillC_len (by omega)]; omega) | (rw [List.length_replicate]; omega))) ?_
 refine FJ.ql rfl (q_loadA (cs := [.int .i64 x6.frm, .int .i64 x6.cnt, .int .i64 x6.key]) rfl ag_165 sz_165 (.t .z) (WS.els hFe7 hce7)) ?_
 refine FJ.call (goes_list rfl) rfl (by decide) rfl (c_call rfl Try.func151 rfl rfl (args1 (.t .z))) .n (fun w1 S1 hs tr => c_151 (tr.ctx hre7)) ?_
 rintro _ _ ⟨rfl, rfl⟩
 refine FJ.cat .n ?_
 refine FJ.know (WS.oad .z (by rw [fillC_len (by omega)]; omega)) ?_
 rintro ⟨ad8, rfl⟩
 refine FJ.ql rfl (q_indexAddr (j := k) rfl u_41 sz_135 (.t (.s4 (.s (.s .z)))) (.t (.s4 (.s .z))) rfl (by first | omega | (rw [fillC_len (by omega)]; omega) | (rw [List.length_replicate]; omega))) ?_
 refine FJ.turns (c := ownA kT_135 (⟨x6.frm, x6.cnt, x6.key⟩ : DExt) [.int .i64 x6.frm, .int .i64 x6.cnt, .int .i64 x6.key]) .n (fun w S h => kT_135_omk (⟨x6.frm, x6.cnt, x6.key⟩ : DExt) h) ?_
 refine FJ.es (goes_list rfl) rfl (es_set (j := k) rfl sz_135 (.t .z) (.t (.s .z)) rfl (.c (.s .z) (.c .z .n)) (by first | omega | (rw [fillC_len (by omega)]; omega) | (rw [List.length_replicate]; omega))) ?_
 refine FJ.ceq .z (fillC_set hx6) ?_
 refine FJ.nil (FJ.inBN (FJ.then_ (FJ.region (FJ.ql rfl (q_move rfl (.t (.s4 (.s4 (.s4 .z))))) ?_))))
 refine FJ.ql rfl (q_add (c := ((k + 1 : Nat) : Int)) rfl (.t .z) .c (wr (by omega) (by omega) (by omega))) ?_
 refine FJ.er (.s4 (.s4 (.s4 (.s (.s .z))))) (FJ.ql rfl (q_assign rfl (.t .z)) (FJ.nil ?_))
 refine FJ.again (k + 1) (by omega) (by first | omega | (dsimp only; omega)) (.c .z (.c (.s4 (.s4 (.s4 (.s (.s (.s .z)))))) (.c (.s16 .z) (.c (.s16 (.s .z)) .n)))) (fun _ h => h.sel (.c .z .n))
 refine FJ.exit (FJ.thenE (FJ.thenE (FJ.inB (FJ.then_ ?_))))
 refine FJ.seq (FJ.region (FJ.ql rfl (q_move rfl (.t (.s4 (.s .z)))) (FJ.er (.s4 (.s (.s (.s .z)))) (FJ.ql rfl (q_assign rfl (.t .z)) ?_))))
 refine FJ.nil (FJ.then_ (FJ.ret ?_))
 refine FJ.ceq .z (fillC_all (by omega)) ?_
 refine FJ.doneS (res1 rfl .z) (.c .z .n) ?_
 rfl

set_option maxHeartbeats 1000000 in
set_option maxRecDepth 20000 in
theorem c_49 {w0 : World} {S0 : Bs} {x : DKern} {cs0 : List Value} (h0 : kT_69.ro w0 (FF w0 S0) x cs0)  :
    Calls Try.prog 49 #[.agg cs0.toArray] w0 (TriPost w0 S0 (RA_43 x)) := by
 obtain ⟨u0_0, u0_1, u0_2, rfl, h0_0, h0_1, h0_2⟩ := kT_69_ro h0
 obtain ⟨A0_0, c0_0, rfl, hl0_0, hm0_0, hb0_0, he0_0⟩ := ro_form h0_0
 obtain ⟨A0_1, c0_1, rfl, hl0_1, hm0_1, hb0_1, he0_1⟩ := ro_form h0_1
 obtain ⟨A0_2, c0_2, rfl, hl0_2, hm0_2, hb0_2, he0_2⟩ := ro_form h0_2
 refine FJ.enter (N := 13) Try.func49 rfl rfl (by simp) [(0, .agg #[.slice A0_0 x.disk.blocks.length c0_0, .slice A0_1 x.disk.cache.length c0_1, .slice A0_2 x.exts.length c0_2])] (by simp) (l0 := []) trivial ?_
 refine FJ.seq (FJ.region ?_)
 refine FJ.e (goes_list rfl) rfl (by decide) rfl (e_box (cs := [.slice A0_0 x.disk.blocks.length c0_0, .slice A0_1 x.disk.cache.length c0_1, .slice A0_2 x.exts.length c0_2]) (n := 3) rfl (.t .z) rfl rfl) ?_
 rintro _ _ ⟨g4, rfl, rfl⟩
 refine FJ.e (goes_list rfl) rfl (by decide) rfl (e_alloc rfl z_43 rfl rfl) ?_
 rintro _ _ ⟨g5, rfl, rfl⟩
 refine FJ.nil (FJ.then_ (FJ.seq (FJ.region ?_)))
 refine FJ.e (goes_list rfl) rfl (by decide) rfl (e_alloc rfl z_43 rfl rfl) ?_
 rintro _ _ ⟨g6, rfl, rfl⟩
 refine FJ.nil (FJ.then_ (FJ.seq (FJ.region (FJ.ql rfl (q_fieldAddr rfl (.t (.s (.s .z))) (fun _ => fa_69_0 _ _)) ?_))))
 refine FJ.ql rfl (q_loadA (cs := [.slice A0_0 x.disk.blocks.length c0_0, .slice A0_1 x.disk.cache.length c0_1]) rfl ag_34 sz_34 (.t .z) (WS.rows (.s (.s .z)) (sub_at rfl))) ?_
 refine FJ.call (goes_list rfl) rfl (by decide) rfl (c_call rfl Try.func27 rfl rfl (args1 (.t .z))) .n (fun w1 S1 hs tr => c_27 (kT_34_mk x.disk (tr.ctx h0_0) (tr.ctx h0_1))) ?_
 rintro _ _ ⟨v7, v9, rfl, rfl⟩
 refine FJ.cat (.c (.c .n)) ?_
 refine FJ.know (WS.oform .z) ?_
 rintro ⟨Ao11, co11, rfl, hlo11, hmo11, hbo11⟩
 refine FJ.know (WS.oform (.s .z)) ?_
 rintro ⟨Ao12, co12, rfl, hlo12, hmo12, hbo12⟩
 refine FJ.ql rfl (q_fieldAddr rfl (.t (.s (.s (.s .z)))) (fun _ => fa_43_0 _ _)) ?_
 refine FJ.es (goes_list rfl) rfl (es_store (off := 0) (cs := [.slice Ao11 x.disk.blocks.length co11, .slice Ao12 x.disk.cache.length co12]) rfl sz_25 (.t .z) (.t (.s .z)) rfl (ones rfl) (.s (.s .z)) (Nat.le_of_ble_eq_true rfl) (.c .z (.c (.s .z) .n))) ?_
 refine FJ.nil (FJ.then_ (FJ.seq (FJ.region (FJ.ql rfl (q_fieldAddr rfl (.t (.s4 (.s (.s .z)))) (fun _ => fa_69_1 _ _)) ?_))))
 refine FJ.ql rfl (q_load rfl ag_67 (.t .z) (WS.row (.s4 .z) rfl)) ?_
 refine FJ.call (goes_list rfl) rfl (by decide) rfl (c_call rfl Try.func111 rfl rfl (args1 (.t .z))) .n (fun w1 S1 hs tr => c_111 (tr.ctx h0_2)) ?_
 rintro _ _ rfl
 refine FJ.cat (.c .n) ?_
 refine FJ.know (WS.oform .z) ?_
 rintro ⟨Ao14, co14, rfl, hlo14, hmo14, hbo14⟩
 refine FJ.ql rfl (q_fieldAddr rfl (.t (.s4 (.s (.s (.s .z))))) (fun _ => fa_43_1 _ _)) ?_
 refine FJ.es (goes_list rfl) rfl (es_store (off := 2) (cs := [.slice Ao14 x.exts.length co14]) rfl sz_41 (.t .z) (.t (.s .z)) rfl (ones rfl) (.s .z) (Nat.le_of_ble_eq_true rfl) (.c (.s (.s .z)) .n)) ?_
 refine FJ.nil (FJ.then_ (FJ.seq (FJ.region ?_)))
 refine FJ.ql rfl (q_loadA (cs := [.slice Ao11 x.disk.blocks.length co11, .slice Ao12 x.disk.cache.length co12, .slice Ao14 x.exts.length co14]) rfl ag_43 sz_43 (.t (.s4 (.s4 .z))) (WS.rows0 .z (fun i u h => by exact h))) ?_
 refine FJ.es (goes_list rfl) rfl (es_store (off := 0) (cs := [.slice Ao11 x.disk.blocks.length co11, .slice Ao12 x.disk.cache.length co12, .slice Ao14 x.exts.length co14]) rfl sz_43 (.t (.s4 (.s4 (.s (.s .z))))) (.t .z) rfl (ones rfl) (.s4 .z) (Nat.le_of_ble_eq_true rfl) (.c .z (.c (.s .z) (.c (.s (.s .z)) .n)))) ?_
 refine FJ.nil (FJ.then_ (FJ.ret ?_))
 refine FJ.doneS (resC (cs := [.slice Ao11 x.disk.blocks.length co11, .slice Ao12 x.disk.cache.length co12, .slice Ao14 x.exts.length co14]) rfl (.s4 (.s4 (.s (.s .z)))) ag_43 sz_43 (WS.rows0 (cs := [.slice Ao11 x.disk.blocks.length co11, .slice Ao12 x.disk.cache.length co12, .slice Ao14 x.exts.length co14]) .z (fun _ _ h => h))) (.c (.s (.s (.s .z))) (.c (.s (.s (.s .z))) (.c (.s (.s .z)) .n))) ?_
 exact ⟨_, _, _, rfl, rfl⟩

set_option maxHeartbeats 1000000 in
set_option maxRecDepth 20000 in
theorem c_152 {w0 : World} {S0 : Bs} {x : DExt} {cs0 : List Value} (h0 : kT_135.ro w0 (FF w0 S0) x cs0) {y : DExt} {cs1 : List Value} (h1 : kT_135.ro w0 (FF w0 S0) y cs1)  :
    Calls Try.prog 152 #[.agg cs0.toArray, .agg cs1.toArray] w0 (TriPost w0 S0 (fun r l => r = .bool (decide (x = y)) ∧ l = [])) := by
 obtain rfl := kT_135_ro h0
 obtain rfl := kT_135_ro h1
 refine FJ.enter (N := 20) Try.func152 rfl rfl (by simp) [(0, .agg #[.int .i64 x.frm, .int .i64 x.cnt, .int .i64 x.key]), (1, .agg #[.int .i64 y.frm, .int .i64 y.cnt, .int .i64 y.key])] (by simp) (l0 := []) trivial ?_
 refine FJ.seq (FJ.region ?_)
 refine FJ.e (goes_list rfl) rfl (by decide) rfl (e_box (cs := [.int .i64 x.frm, .int .i64 x.cnt, .int .i64 x.key]) (n := 3) rfl (.t .z) rfl rfl) ?_
 rintro _ _ ⟨g1, rfl, rfl⟩
 refine FJ.e (goes_list rfl) rfl (by decide) rfl (e_box (cs := [.int .i64 y.frm, .int .i64 y.cnt, .int .i64 y.key]) (n := 3) rfl (.t (.s (.s .z))) rfl rfl) ?_
 rintro _ _ ⟨g2, rfl, rfl⟩
 refine FJ.ql rfl (q_assign rfl .c) (FJ.nil (FJ.then_ (FJ.seq (FJ.seq ?_))))
 refine FJ.region (FJ.ql rfl (q_fieldAddr rfl (.t (.s (.s .z))) (fun _ => fa_135_0 _ _)) (FJ.ql rfl (q_load rfl ag_2 (.t .z) (WS.row (.s .z) rfl)) (FJ.ql rfl (q_fieldAddr rfl (.t (.s (.s (.s .z)))) (fun _ => fa_135_0 _ _)) (FJ.ql rfl (q_load rfl ag_2 (.t .z) (WS.row .z rfl)) ?_))))
 refine FJ.ql rfl (q_neq rfl (.t (.s (.s .z))) (.t .z)) (FJ.nil (FJ.then_ ?_))
 refine FJ.condN (.t .z) (fun b3 => ?_) (fun b3 => ?_)
 refine FJ.seq (FJ.region (FJ.er (.s4 (.s .z)) (FJ.ql rfl (q_assign rfl .c) (FJ.nil ?_))))
 refine FJ.then_ (FJ.ret (FJ.thenR ?_))
 refine FJ.doneS (res1 rfl .z) .n ?_
 exact ⟨by rw [decide_eq_false]; rintro rfl; simp_all, rfl⟩
 refine FJ.skip (FJ.then_ (FJ.seq (FJ.seq (FJ.region ?_))))
 refine FJ.ql rfl (q_fieldAddr rfl (.t (.s4 (.s (.s (.s .z))))) (fun _ => fa_135_1 _ _)) (FJ.ql rfl (q_load rfl ag_2 (.t .z) (WS.row (.s .z) rfl)) (FJ.ql rfl (q_fieldAddr rfl (.t (.s4 (.s4 .z))) (fun _ => fa_135_1 _ _)) (FJ.ql rfl (q_load rfl ag_2 (.t .z) (WS.row .z rfl)) (FJ.ql rfl (q_neq rfl (.t (.s (.s .z))) (.t .z)) ?_))))
 refine FJ.nil (FJ.then_ ?_)
 refine FJ.condN (.t .z) (fun b4 => ?_) (fun b4 => ?_)
 refine FJ.seq (FJ.region (FJ.er (.s4 (.s4 (.s (.s .z)))) (FJ.ql rfl (q_assign rfl .c) (FJ.nil ?_))))
 refine FJ.then_ (FJ.ret (FJ.thenR ?_))
 refine FJ.doneS (res1 rfl .z) .n ?_
 exact ⟨by rw [decide_eq_false]; rintro rfl; simp_all, rfl⟩
 refine FJ.skip (FJ.then_ (FJ.seq (FJ.seq (FJ.region ?_))))
 refine FJ.ql rfl (q_fieldAddr rfl (.t (.s4 (.s4 (.s4 .z)))) (fun _ => fa_135_2 _ _)) (FJ.ql rfl (q_load rfl ag_2 (.t .z) (WS.row (.s .z) rfl)) (FJ.ql rfl (q_fieldAddr rfl (.t (.s4 (.s4 (.s4 (.s .z))))) (fun _ => fa_135_2 _ _)) (FJ.ql rfl (q_load rfl ag_2 (.t .z) (WS.row .z rfl)) (FJ.ql rfl (q_neq rfl (.t (.s (.s .z))) (.t .z)) ?_))))
 refine FJ.nil (FJ.then_ ?_)
 refine FJ.condN (.t .z) (fun b5 => ?_) (fun b5 => ?_)
 refine FJ.seq (FJ.region (FJ.er (.s4 (.s4 (.s4 (.s (.s (.s .z)))))) (FJ.ql rfl (q_assign rfl .c) (FJ.nil ?_))))
 refine FJ.then_ (FJ.ret (FJ.thenR ?_))
 refine FJ.doneS (res1 rfl .z) .n ?_
 exact ⟨by rw [decide_eq_false]; rintro rfl; simp_all, rfl⟩
 refine FJ.skip (FJ.then_ (FJ.seq (FJ.region (FJ.er (.s4 (.s4 (.s4 (.s (.s (.s .z)))))) ?_))))
 refine FJ.ql rfl (q_assign rfl .c) (FJ.nil (FJ.then_ (FJ.ret ?_)))
 refine FJ.doneS (res1 rfl .z) .n ?_
 exact ⟨by rw [decide_eq_true]; cases x; cases y; simp_all, rfl⟩

set_option maxHeartbeats 1000000 in
set_option maxRecDepth 20000 in
theorem c_113 {w0 : World} {S0 : Bs} {x : (List DExt)} {v0 : Value} (h0 : kSl_135.ro w0 (FF w0 S0) x [v0]) {y : (List DExt)} {v1 : Value} (h1 : kSl_135.ro w0 (FF w0 S0) y [v1])  :
    Calls Try.prog 113 #[v0, v1] w0 (TriPost w0 S0 (fun r l => r = .bool (decide (x = y)) ∧ l = [])) := by
 obtain ⟨A0, c0, rfl, hl0, hm0, hb0, he0⟩ := ro_form h0
 obtain ⟨A1, c1, rfl, hl1, hm1, hb1, he1⟩ := ro_form h1
 refine FJ.enter (N := 27) Try.func113 rfl rfl (by simp) [(0, .slice A0 x.length c0), (1, .slice A1 y.length c1)] (by simp) (l0 := []) trivial ?_
 refine FJ.seq (FJ.region (FJ.ql rfl (q_assign rfl .c) (FJ.nil (FJ.then_ ?_))))
 refine FJ.seq (FJ.seq (FJ.region (FJ.ql rfl (q_move rfl (.t (.s .z))) (FJ.ql rfl (q_len rfl u_41 (.t .z)) ?_))))
 refine FJ.ql rfl (q_move rfl (.t (.s4 .z))) (FJ.ql rfl (q_len rfl u_41 (.t .z)) (FJ.ql rfl (q_neq rfl (.t (.s (.s .z))) (.t .z)) (FJ.nil (FJ.then_ ?_))))
 refine FJ.condN (.t .z) (fun b3 => ?_) (fun b3 => ?_)
 refine FJ.seq (FJ.region (FJ.er (.s4 (.s .z)) (FJ.ql rfl (q_assign rfl .c) (FJ.nil ?_))))
 refine FJ.then_ (FJ.ret (FJ.thenR ?_))
 refine FJ.doneS (res1 rfl .z) .n ?_
 exact ⟨by rw [decide_eq_false (fun h => by subst h; omega)], rfl⟩
 refine FJ.skip (FJ.then_ (FJ.seq (FJ.seq (FJ.region ?_))))
 refine FJ.ql rfl (q_assign rfl .c) (FJ.nil (FJ.then_ (FJ.block ?_)))
 refine FJ.loopi (γ := Nat) (fun k => [(5, .int .i64 (k : Int)), (0, .slice A0 x.length c0), (1, .slice A1 y.length c1)]) (fun k => []) (fun k => k ≤ x.length ∧ ∀ j, j < k → x[j]? = y[j]?) (fun k => x.length - k) 0 ⟨Nat.zero_le _, all_eq_zero⟩ (.c .z (.c (.s4 (.s (.s (.s .z)))) (.c (.s4 (.s4 .z)) .n))) (fun _ h => h) ?_
 rintro k ⟨hk, hallk⟩
 refine FJ.seq (FJ.seq (FJ.region (FJ.ql rfl (q_move rfl (.t .z)) (FJ.ql rfl (q_move rfl (.t (.s (.s .z)))) ?_))))
 refine FJ.ql rfl (q_len rfl u_41 (.t .z)) (FJ.ql rfl (q_lss rfl (.t (.s (.s .z))) (.t .z)) (FJ.nil (FJ.then_ ?_)))
 refine FJ.condP (.t .z) (fun b4 => ?_) (fun b4 => ?_)
 refine FJ.skip (FJ.then_ (FJ.seq (FJ.block (FJ.seq ?_))))
 refine FJ.draw [] 10 (by kernel_rfl) ?_
 refine FJ.sch [(0, true), (1, true), (2, true), (3, true), (4, true), (5, true), (6, true), (7, true), (8, false), (9, true)] 0 #[true, true, true, true, true, true, true, true, true, true] (by rfl) (by kernel_rfl) ?_
 refine FJ.dq rfl rfl rfl (by decide) rfl .z (q_move rfl (.t (.s4 (.s .z)))) (FJ.dq rfl rfl rfl (by decide) rfl .z (q_move rfl (.t (.s4 (.s .z)))) ?_)
 obtain ⟨ad5, hAad5, hrad5⟩ := he0 (by omega)
 subst hAad5
 obtain ⟨x6, hx6⟩ := get_ex (xs := x) (j := k) (by omega)
 obtain ⟨ece7, hre7, hFe7, hce7⟩ := hrad5.elem hx6
 obtain rfl := kT_135_ro hre7
 refine FJ.dq rfl rfl rfl (by decide) rfl .z (q_indexAddr (j := k) rfl u_41 sz_135 (.t (.s .z)) (.t .z) rfl (by omega)) ?_
 refine FJ.dq rfl rfl rfl (by decide) rfl .z (q_loadA (cs := [.int .i64 x6.frm, .int .i64 x6.cnt, .int .i64 x6.key]) rfl ag_135 sz_135 (.t .z) (WS.els hFe7 hce7)) (FJ.dq rfl rfl rfl (by decide) rfl .z (q_move rfl (.t (.s4 (.s4 (.s (.s .z)))))) (FJ.dq rfl rfl rfl (by decide) rfl .z (q_move rfl (.t (.s4 (.s4 (.s .z))))) ?_))
 obtain ⟨ad8, hAad8, hrad8⟩ := he1 (by omega)
 subst hAad8
 obtain ⟨x9, hx9⟩ := get_ex (xs := y) (j := k) (by omega)
 obtain ⟨ece10, hre10, hFe10, hce10⟩ := hrad8.elem hx9
 obtain rfl := kT_135_ro hre10
 refine FJ.dq rfl rfl rfl (by decide) rfl .z (q_indexAddr (j := k) rfl u_41 sz_135 (.t (.s .z)) (.t .z) rfl (by omega)) ?_
 refine FJ.dq rfl rfl rfl (by decide) rfl .z (q_loadA (cs := [.int .i64 x9.frm, .int .i64 x9.cnt, .int .i64 x9.key]) rfl ag_135 sz_135 (.t .z) (WS.els hFe10 hce10)) ?_
 refine FJ.call (goes_sch rfl rfl) rfl (by decide) rfl (c_call rfl Try.func152 rfl rfl (args2 (.t (.s4 .z)) (.t .z))) .n (fun w1 S1 hs tr => c_152 (tr.ctx hre7) (tr.ctx hre10)) ?_
 rintro _ _ ⟨rfl, rfl⟩
 refine FJ.cat .n ?_
 refine FJ.sk .z ?_
 refine FJ.dq rfl rfl rfl (by decide) rfl .z (q_not rfl (.t .z)) (FJ.schN ?_)
 refine FJ.drawN (by kernel_rfl) ?_
 refine FJ.then_ ?_
 refine FJ.condN (.t .z) (fun b11 => ?_) (fun b11 => ?_)
 refine FJ.seq (FJ.region (FJ.ql rfl (q_assign rfl .c) (FJ.nil (FJ.then_ ?_))))
 refine FJ.ret (FJ.inBR (FJ.thenR (FJ.thenR (FJ.inBR ?_))))
 refine FJ.thenR ?_
 refine FJ.doneS (res1 rfl .z) .n ?_
 exact ⟨by rw [decide_eq_false (ne_of_get hx6 hx9 (by first | assumption | (intro e; subst e; contradiction) | (simp_all; done)))], rfl⟩
 refine FJ.skip (FJ.inBN (FJ.then_ (FJ.region (FJ.ql rfl (q_move rfl (.t (.s4 (.s4 (.s4 (.s (.s .z))))))) ?_))))
 refine FJ.ql rfl (q_add (c := ((k + 1 : Nat) : Int)) rfl (.t .z) .c (wr (by omega) (by omega) (by omega))) ?_
 refine FJ.er (.s16 .z) (FJ.ql rfl (q_assign rfl (.t .z)) (FJ.nil ?_))
 refine FJ.again (k + 1) ⟨by omega, all_eq_succ hallk hx6 hx9 (by first | assumption | exact byte_eq (by assumption) | (simp_all; done))⟩ (by first | omega | (dsimp only; omega)) (.c .z (.c (.s16 (.s .z)) (.c (.s16 (.s (.s .z))) .n))) (fun _ h => h)
 refine FJ.exit (FJ.thenE (FJ.thenE (FJ.inB (FJ.then_ ?_))))
 refine FJ.seq (FJ.region (FJ.ql rfl (q_assign rfl .c) (FJ.nil (FJ.then_ ?_))))
 refine FJ.ret ?_
 refine FJ.doneS (res1 rfl .z) .n ?_
 exact ⟨by rw [decide_eq_true (eq_of_all (by omega) (by omega) hallk)], rfl⟩

set_option maxHeartbeats 1000000 in
set_option maxRecDepth 20000 in
theorem c_51 {w0 : World} {S0 : Bs} {x : DKern} {cs0 : List Value} (h0 : kT_43.ro w0 (FF w0 S0) x cs0) {y : DKern} {cs1 : List Value} (h1 : kT_43.ro w0 (FF w0 S0) y cs1)  :
    Calls Try.prog 51 #[.agg cs0.toArray, .agg cs1.toArray] w0 (TriPost w0 S0 (fun r l => r = .bool (decide (x = y)) ∧ l = [])) := by
 obtain ⟨u0_0, u0_1, u0_2, rfl, h0_0, h0_1, h0_2⟩ := kT_43_ro h0
 obtain ⟨A0_0, c0_0, rfl, hl0_0, hm0_0, hb0_0, he0_0⟩ := ro_form h0_0
 obtain ⟨A0_1, c0_1, rfl, hl0_1, hm0_1, hb0_1, he0_1⟩ := ro_form h0_1
 obtain ⟨A0_2, c0_2, rfl, hl0_2, hm0_2, hb0_2, he0_2⟩ := ro_form h0_2
 obtain ⟨u1_0, u1_1, u1_2, rfl, h1_0, h1_1, h1_2⟩ := kT_43_ro h1
 obtain ⟨A1_0, c1_0, rfl, hl1_0, hm1_0, hb1_0, he1_0⟩ := ro_form h1_0
 obtain ⟨A1_1, c1_1, rfl, hl1_1, hm1_1, hb1_1, he1_1⟩ := ro_form h1_1
 obtain ⟨A1_2, c1_2, rfl, hl1_2, hm1_2, hb1_2, he1_2⟩ := ro_form h1_2
 refine FJ.enter (N := 17) Try.func51 rfl rfl (by simp) [(0, .agg #[.slice A0_0 x.disk.blocks.length c0_0, .slice A0_1 x.disk.cache.length c0_1, .slice A0_2 x.exts.length c0_2]), (1, .agg #[.slice A1_0 y.disk.blocks.length c1_0, .slice A1_1 y.disk.cache.length c1_1, .slice A1_2 y.exts.length c1_2])] (by simp) (l0 := []) trivial ?_
 refine FJ.seq (FJ.region ?_)
 refine FJ.e (goes_list rfl) rfl (by decide) rfl (e_box (cs := [.slice A0_0 x.disk.blocks.length c0_0, .slice A0_1 x.disk.cache.length c0_1, .slice A0_2 x.exts.length c0_2]) (n := 3) rfl (.t .z) rfl rfl) ?_
 rintro _ _ ⟨g7, rfl, rfl⟩
 refine FJ.e (goes_list rfl) rfl (by decide) rfl (e_box (cs := [.slice A1_0 y.disk.blocks.length c1_0, .slice A1_1 y.disk.cache.length c1_1, .slice A1_2 y.exts.length c1_2]) (n := 3) rfl (.t (.s (.s .z))) rfl rfl) ?_
 rintro _ _ ⟨g8, rfl, rfl⟩
 refine FJ.ql rfl (q_assign rfl .c) (FJ.nil (FJ.then_ (FJ.seq (FJ.seq ?_))))
 refine FJ.region (FJ.ql rfl (q_fieldAddr rfl (.t (.s (.s .z))) (fun _ => fa_43_0 _ _)) (FJ.ql rfl (q_loadA (cs := [.slice A0_0 x.disk.blocks.length c0_0, .slice A0_1 x.disk.cache.length c0_1]) rfl ag_25 sz_25 (.t .z) (WS.rows (.s .z) (sub_at rfl))) (FJ.ql rfl (q_fieldAddr rfl (.t (.s (.s (.s .z)))) (fun _ => fa_43_0 _ _)) (FJ.ql rfl (q_loadA (cs := [.slice A1_0 y.disk.blocks.length c1_0, .slice A1_1 y.disk.cache.length c1_1]) rfl ag_25 sz_25 (.t .z) (WS.rows .z (sub_at rfl))) ?_))))
 refine FJ.call (goes_list rfl) rfl (by decide) rfl (c_call rfl Try.func29 rfl rfl (args2 (.t (.s (.s .z))) (.t .z))) .n (fun w1 S1 hs tr => c_29 (kT_25_mk x.disk (tr.ctx h0_0) (tr.ctx h0_1)) (kT_25_mk y.disk (tr.ctx h1_0) (tr.ctx h1_1))) ?_
 rintro _ _ ⟨rfl, rfl⟩
 refine FJ.cat .n ?_
 refine FJ.ql rfl (q_not rfl (.t .z)) (FJ.nil (FJ.then_ ?_))
 refine FJ.condN (.t .z) (fun b9 => ?_) (fun b9 => ?_)
 refine FJ.seq (FJ.region (FJ.er (.s4 (.s (.s .z))) (FJ.ql rfl (q_assign rfl .c) (FJ.nil ?_))))
 refine FJ.then_ (FJ.ret (FJ.thenR ?_))
 refine FJ.doneS (res1 rfl .z) .n ?_
 exact ⟨by rw [decide_eq_false]; rintro rfl; simp_all, rfl⟩
 refine FJ.skip (FJ.then_ (FJ.seq (FJ.seq (FJ.region ?_))))
 refine FJ.ql rfl (q_fieldAddr rfl (.t (.s4 (.s4 .z))) (fun _ => fa_43_1 _ _)) (FJ.ql rfl (q_load rfl ag_41 (.t .z) (WS.row (.s .z) rfl)) (FJ.ql rfl (q_fieldAddr rfl (.t (.s4 (.s4 (.s .z)))) (fun _ => fa_43_1 _ _)) (FJ.ql rfl (q_load rfl ag_41 (.t .z) (WS.row .z rfl)) ?_)))
 refine FJ.call (goes_list rfl) rfl (by decide) rfl (c_call rfl Try.func113 rfl rfl (args2 (.t (.s (.s .z))) (.t .z))) .n (fun w1 S1 hs tr => c_113 (tr.ctx h0_2) (tr.ctx h1_2)) ?_
 rintro _ _ ⟨rfl, rfl⟩
 refine FJ.cat .n ?_
 refine FJ.ql rfl (q_not rfl (.t .z)) (FJ.nil (FJ.then_ ?_))
 refine FJ.condN (.t .z) (fun b10 => ?_) (fun b10 => ?_)
 refine FJ.seq (FJ.region (FJ.er (.s4 (.s4 (.s4 .z))) (FJ.ql rfl (q_assign rfl .c) (FJ.nil ?_))))
 refine FJ.then_ (FJ.ret (FJ.thenR ?_))
 refine FJ.doneS (res1 rfl .z) .n ?_
 exact ⟨by rw [decide_eq_false]; rintro rfl; simp_all, rfl⟩
 refine FJ.skip (FJ.then_ (FJ.seq (FJ.region (FJ.er (.s4 (.s4 (.s4 .z))) ?_))))
 refine FJ.ql rfl (q_assign rfl .c) (FJ.nil (FJ.then_ (FJ.ret ?_)))
 refine FJ.doneS (res1 rfl .z) .n ?_
 exact ⟨by rw [decide_eq_true]; cases x; cases y; simp_all, rfl⟩

set_option maxHeartbeats 1000000 in
set_option maxRecDepth 20000 in
theorem c_32 {w0 : World} {S0 : Bs} {x : RKern} {cs0 : List Value} (h0 : kT_45.ro w0 (FF w0 S0) x cs0) {y : RKern} {cs1 : List Value} (h1 : kT_45.ro w0 (FF w0 S0) y cs1)  :
    Calls Try.prog 32 #[.agg cs0.toArray, .agg cs1.toArray] w0 (TriPost w0 S0 (fun r l => r = .bool (decide (x = y)) ∧ l = [])) := by
 obtain ⟨u0_1, u0_2, u0_3, u0_4, rfl, h0_1, h0_2, h0_3, h0_4⟩ := kT_45_ro h0
 obtain ⟨A0_1, c0_1, rfl, hl0_1, hm0_1, hb0_1, he0_1⟩ := ro_form h0_1
 obtain ⟨A0_2, c0_2, rfl, hl0_2, hm0_2, hb0_2, he0_2⟩ := ro_form h0_2
 obtain ⟨A0_3, c0_3, rfl, hl0_3, hm0_3, hb0_3, he0_3⟩ := ro_form h0_3
 obtain ⟨A0_4, c0_4, rfl, hl0_4, hm0_4, hb0_4, he0_4⟩ := ro_form h0_4
 obtain ⟨u1_1, u1_2, u1_3, u1_4, rfl, h1_1, h1_2, h1_3, h1_4⟩ := kT_45_ro h1
 obtain ⟨A1_1, c1_1, rfl, hl1_1, hm1_1, hb1_1, he1_1⟩ := ro_form h1_1
 obtain ⟨A1_2, c1_2, rfl, hl1_2, hm1_2, hb1_2, he1_2⟩ := ro_form h1_2
 obtain ⟨A1_3, c1_3, rfl, hl1_3, hm1_3, hb1_3, he1_3⟩ := ro_form h1_3
 obtain ⟨A1_4, c1_4, rfl, hl1_4, hm1_4, hb1_4, he1_4⟩ := ro_form h1_4
 refine FJ.enter (N := 22) Try.func32 rfl rfl (by simp) [(0, .agg #[.int .i64 x.code, .slice A0_1 x.words.length c0_1, .slice A0_2 x.kern.disk.blocks.length c0_2, .slice A0_3 x.kern.disk.cache.length c0_3, .slice A0_4 x.kern.exts.length c0_4]), (1, .agg #[.int .i64 y.code, .slice A1_1 y.words.length c1_1, .slice A1_2 y.kern.disk.blocks.length c1_2, .slice A1_3 y.kern.disk.cache.length c1_3, .slice A1_4 y.kern.exts.length c1_4])] (by simp) (l0 := []) trivial ?_
 refine FJ.seq (FJ.region ?_)
 refine FJ.e (goes_list rfl) rfl (by decide) rfl (e_box (cs := [.int .i64 x.code, .slice A0_1 x.words.length c0_1, .slice A0_2 x.kern.disk.blocks.length c0_2, .slice A0_3 x.kern.disk.cache.length c0_3, .slice A0_4 x.kern.exts.length c0_4]) (n := 5) rfl (.t .z) rfl rfl) ?_
 rintro _ _ ⟨g9, rfl, rfl⟩
 refine FJ.e (goes_list rfl) rfl (by decide) rfl (e_box (cs := [.int .i64 y.code, .slice A1_1 y.words.length c1_1, .slice A1_2 y.kern.disk.blocks.length c1_2, .slice A1_3 y.kern.disk.cache.length c1_3, .slice A1_4 y.kern.exts.length c1_4]) (n := 5) rfl (.t (.s (.s .z))) rfl rfl) ?_
 rintro _ _ ⟨g10, rfl, rfl⟩
 refine FJ.ql rfl (q_assign rfl .c) (FJ.nil (FJ.then_ (FJ.seq (FJ.seq ?_))))
 refine FJ.region (FJ.ql rfl (q_fieldAddr rfl (.t (.s (.s .z))) (fun _ => fa_45_0 _ _)) (FJ.ql rfl (q_load rfl ag_2 (.t .z) (WS.row (.s .z) rfl)) (FJ.ql rfl (q_fieldAddr rfl (.t (.s (.s (.s .z)))) (fun _ => fa_45_0 _ _)) (FJ.ql rfl (q_load rfl ag_2 (.t .z) (WS.row .z rfl)) ?_))))
 refine FJ.ql rfl (q_neq rfl (.t (.s (.s .z))) (.t .z)) (FJ.nil (FJ.then_ ?_))
 refine FJ.condN (.t .z) (fun b11 => ?_) (fun b11 => ?_)
 refine FJ.seq (FJ.region (FJ.er (.s4 (.s .z)) (FJ.ql rfl (q_assign rfl .c) (FJ.nil ?_))))
 refine FJ.then_ (FJ.ret (FJ.thenR ?_))
 refine FJ.doneS (res1 rfl .z) .n ?_
 exact ⟨by rw [decide_eq_false]; rintro rfl; simp_all, rfl⟩
 refine FJ.skip (FJ.then_ (FJ.seq (FJ.seq (FJ.region ?_))))
 refine FJ.ql rfl (q_fieldAddr rfl (.t (.s4 (.s (.s (.s .z))))) (fun _ => fa_45_1 _ _)) (FJ.ql rfl (q_load rfl ag_40 (.t .z) (WS.row (.s .z) rfl)) (FJ.ql rfl (q_fieldAddr rfl (.t (.s4 (.s4 .z))) (fun _ => fa_45_1 _ _)) (FJ.ql rfl (q_load rfl ag_40 (.t .z) (WS.row .z rfl)) ?_)))
 refine FJ.call (goes_list rfl) rfl (by decide) rfl (c_call rfl Try.func58 rfl rfl (args2 (.t (.s (.s .z))) (.t .z))) .n (fun w1 S1 hs tr => c_58 (tr.ctx h0_1) (tr.ctx h1_1)) ?_
 rintro _ _ ⟨rfl, rfl⟩
 refine FJ.cat .n ?_
 refine FJ.ql rfl (q_not rfl (.t .z)) (FJ.nil (FJ.then_ ?_))
 refine FJ.condN (.t .z) (fun b12 => ?_) (fun b12 => ?_)
 refine FJ.seq (FJ.region (FJ.er (.s4 (.s4 (.s (.s (.s .z))))) (FJ.ql rfl (q_assign rfl .c) (FJ.nil ?_))))
 refine FJ.then_ (FJ.ret (FJ.thenR ?_))
 refine FJ.doneS (res1 rfl .z) .n ?_
 exact ⟨by rw [decide_eq_false]; rintro rfl; simp_all, rfl⟩
 refine FJ.skip (FJ.then_ (FJ.seq (FJ.seq (FJ.region ?_))))
 refine FJ.ql rfl (q_fieldAddr rfl (.t (.s4 (.s4 (.s4 (.s .z))))) (fun _ => fa_45_2 _ _)) (FJ.ql rfl (q_loadA (cs := [.slice A0_2 x.kern.disk.blocks.length c0_2, .slice A0_3 x.kern.disk.cache.length c0_3, .slice A0_4 x.kern.exts.length c0_4]) rfl ag_43 sz_43 (.t .z) (WS.rows (.s .z) (sub_at rfl))) (FJ.ql rfl (q_fieldAddr rfl (.t (.s4 (.s4 (.s4 (.s (.s .z)))))) (fun _ => fa_45_2 _ _)) (FJ.ql rfl (q_loadA (cs := [.slice A1_2 y.kern.disk.blocks.length c1_2, .slice A1_3 y.kern.disk.cache.length c1_3, .slice A1_4 y.kern.exts.length c1_4]) rfl ag_43 sz_43 (.t .z) (WS.rows .z (sub_at rfl))) ?_)))
 refine FJ.call (goes_list rfl) rfl (by decide) rfl (c_call rfl Try.func51 rfl rfl (args2 (.t (.s (.s .z))) (.t .z))) .n (fun w1 S1 hs tr => c_51 (kT_43_mk x.kern (tr.ctx h0_2) (tr.ctx h0_3) (tr.ctx h0_4)) (kT_43_mk y.kern (tr.ctx h1_2) (tr.ctx h1_3) (tr.ctx h1_4))) ?_
 rintro _ _ ⟨rfl, rfl⟩
 refine FJ.cat .n ?_
 refine FJ.ql rfl (q_not rfl (.t .z)) (FJ.nil (FJ.then_ ?_))
 refine FJ.condN (.t .z) (fun b13 => ?_) (fun b13 => ?_)
 refine FJ.seq (FJ.region (FJ.er (.s16 (.s .z)) (FJ.ql rfl (q_assign rfl .c) (FJ.nil ?_))))
 refine FJ.then_ (FJ.ret (FJ.thenR ?_))
 refine FJ.doneS (res1 rfl .z) .n ?_
 exact ⟨by rw [decide_eq_false]; rintro rfl; simp_all, rfl⟩
 refine FJ.skip (FJ.then_ (FJ.seq (FJ.region (FJ.er (.s16 (.s .z)) ?_))))
 refine FJ.ql rfl (q_assign rfl .c) (FJ.nil (FJ.then_ (FJ.ret ?_)))
 refine FJ.doneS (res1 rfl .z) .n ?_
 exact ⟨by rw [decide_eq_true]; cases x; cases y; simp_all, rfl⟩

end Go.Proofs.Ytkmcpcahbfdohaa

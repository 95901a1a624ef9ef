/- What is proved: contracts of functions, one a function. No condition. -/
import Derived.Test.YtkmcpcahbfdohaaW10
namespace Go.Proofs.Ytkmcpcahbfdohaa
open Go Go.RowKit
set_option linter.unusedVariables false
set_option linter.unusedSimpArgs false
set_option maxHeartbeats 1000000 in
set_option maxRecDepth 20000 in
theorem c_105 {w0 : World} {S0 : Bs} {x : (List Int)} {v0 : Value} (h0 : kSl_2.ro w0 (FF w0 S0) x [v0])  :
    Calls Try.prog 105 #[v0] w0 (TriPost w0 S0 (fun r l => l = [ownA kSl_2 x [r]])) := by
 obtain ⟨A0, c0, rfl, hl0, hm0, hb0, he0⟩ := ro_form h0
 refine FJ.enter (N := 6) Try.func105 rfl rfl (by simp) [(0, .slice A0 x.length c0)] (by simp) (l0 := []) trivial ?_
 refine FJ.seq (FJ.region (FJ.ql rfl (q_assign rfl .c) (FJ.nil (FJ.then_ ?_))))
 refine FJ.seq (FJ.region ?_)
 refine FJ.e (goes_list rfl) rfl (by decide) rfl (e_buildNil rfl u_40 (inz inf_2)) ?_
 rintro _ _ ⟨g2, rfl, rfl⟩
 refine FJ.ql rfl (q_move rfl (.t (.s (.s .z)))) ?_
 refine FJ.add (c := ownA kSl_2 ([] : (List Int)) [.slice (some ⟨g2, 0, none⟩) 0 0]) (fun w S => own_nil w S _) ?_
 refine FJ.e (goes_list rfl) rfl (by decide) rfl (e_appendF (flat_scalar _ _ _) rfl u_40 inf_2 rfl (.t (.s .z)) (.t .z) (.c .z .n) (fun w1 S1 tr => tr.ctx h0) (by first | omega | (simp only [List.length_append, List.length_take, List.length_nil, List.length_cons]; omega)) (by first | omega | (simp only [List.length_append, List.length_take, List.length_nil, List.length_cons]; omega))) ?_
 rintro _ _ rfl
 refine FJ.ceq .z (List.nil_append _) ?_
 refine FJ.know (WS.oform .z) ?_
 rintro ⟨Ao4, co4, rfl, hlo4, hmo4, hbo4⟩
 refine FJ.er (.s (.s (.s .z))) (FJ.ql rfl (q_assign rfl (.t .z)) (FJ.nil (FJ.then_ (FJ.ret ?_))))
 refine FJ.doneS (res1 rfl .z) (.c .z .n) ?_
 rfl

set_option maxHeartbeats 1000000 in
set_option maxRecDepth 20000 in
theorem c_100 {w0 : World} {S0 : Bs} {x : (List Int)} {v0 : Value} (h0 : kSl_2.ro w0 (FF w0 S0) x [v0])  :
    Calls Try.prog 100 #[v0] w0 (TriPost w0 S0 (fun r l => l = [ownA kSl_2 x [r]])) := by
 obtain ⟨A0, c0, rfl, hl0, hm0, hb0, he0⟩ := ro_form h0
 refine FJ.enter (N := 8) Try.func100 rfl rfl (by simp) [(0, .slice A0 x.length c0)] (by simp) (l0 := []) trivial ?_
 refine FJ.seq (FJ.region (FJ.ql rfl (q_assign rfl .c) (FJ.nil (FJ.then_ ?_))))
 refine FJ.seq (FJ.seq (FJ.region (FJ.ql rfl (q_move rfl (.t (.s .z))) (FJ.ql rfl (q_eqnil rfl u_40 (.t .z) .c) ?_))))
 refine FJ.nil (FJ.then_ ?_)
 refine FJ.cond (.t .z) (fun b2 => ?_) (fun b2 => ?_)
 refine FJ.seq (FJ.region (FJ.er (.s (.s .z)) (FJ.ql rfl (q_assign rfl .c) (FJ.nil ?_))))
 refine FJ.then_ (FJ.ret (FJ.thenR ?_))
 refine FJ.add (c := ownA kSl_2 [] [.slice none 0 0]) (fun w S => own_nil w S none) ?_
 refine FJ.ceq .z (nil_of he0 (by assumption)) ?_
 refine FJ.doneS (res1 rfl .z) (.c .z .n) ?_
 rfl
 refine FJ.skip (FJ.then_ (FJ.seq (FJ.region ?_)))
 refine FJ.e (goes_list rfl) rfl (by decide) rfl (e_buildNil rfl u_40 (inz inf_2)) ?_
 rintro _ _ ⟨g4, rfl, rfl⟩
 refine FJ.ql rfl (q_move rfl (.t (.s4 .z))) ?_
 refine FJ.add (c := ownA kSl_2 ([] : (List Int)) [.slice (some ⟨g4, 0, none⟩) 0 0]) (fun w S => own_nil w S _) ?_
 refine FJ.e (goes_list rfl) rfl (by decide) rfl (e_appendF (flat_scalar _ _ _) rfl u_40 inf_2 rfl (.t (.s .z)) (.t .z) (.c .z .n) (fun w1 S1 tr => tr.ctx h0) (by first | omega | (simp only [List.length_append, List.length_take, List.length_nil, List.length_cons]; omega)) (by first | omega | (simp only [List.length_append, List.length_take, List.length_nil, List.length_cons]; omega))) ?_
 rintro _ _ rfl
 refine FJ.ceq .z (List.nil_append _) ?_
 refine FJ.know (WS.oform .z) ?_
 rintro ⟨Ao6, co6, rfl, hlo6, hmo6, hbo6⟩
 refine FJ.er (.s4 (.s .z)) (FJ.ql rfl (q_assign rfl (.t .z)) (FJ.nil (FJ.then_ (FJ.ret ?_))))
 refine FJ.doneS (res1 rfl .z) (.c .z .n) ?_
 rfl

set_option maxHeartbeats 1000000 in
set_option maxRecDepth 20000 in
theorem c_155 {w0 : World} {S0 : Bs} {x : (List DPut)} {v0 : Value} {wF : World} {F0 : Bs} (hF : ∀ b, F0 b → FF w0 S0 b ∧ w0.heap[b]? = wF.heap[b]?) (h0 : kSl_57.ro wF F0 x [v0])  :
    Calls Try.prog 155 #[v0] w0 (TriPost w0 S0 (fun r l => ∃ css : List (List Value), css.length = x.length ∧ (∀ (j : Nat) y c, x[j]? = some y → css[j]? = some c → kT_57.ro wF F0 y c) ∧ l = [ownA (kslice 57 32 (kraw kT_57.sz kT_57.pos)) css [r]])) := by
 have h0' := h0
 replace h0 : kSl_57.ro w0 (FF w0 S0) x [v0] := kSl_57.ro_up (kSl_57.ro_loc h0 (fun b hb => (hF b hb).2)) (fun b hb => (hF b hb).1)
 obtain ⟨A0, c0, rfl, hl0, hm0, hb0, he0⟩ := ro_form h0
 refine FJ.enter (N := 8) Try.func155 rfl rfl (by simp) [(0, .slice A0 x.length c0)] (by simp) (l0 := []) trivial ?_
 refine FJ.seq (FJ.region (FJ.ql rfl (q_assign rfl .c) (FJ.nil (FJ.then_ ?_))))
 refine FJ.seq (FJ.seq (FJ.region (FJ.ql rfl (q_move rfl (.t (.s .z))) (FJ.ql rfl (q_eqnil rfl u_23 (.t .z) .c) ?_))))
 refine FJ.nil (FJ.then_ ?_)
 refine FJ.cond (.t .z) (fun b2 => ?_) (fun b2 => ?_)
 refine FJ.seq (FJ.region (FJ.er (.s (.s .z)) (FJ.ql rfl (q_assign rfl .c) (FJ.nil ?_))))
 refine FJ.then_ (FJ.ret (FJ.thenR ?_))
 refine FJ.add (c := ownA (kslice 57 32 (kraw kT_57.sz kT_57.pos)) [] [.slice none 0 0]) (fun w S => own_nil w S _) ?_
 refine FJ.doneS (res1 rfl .z) (.c .z .n) ?_
 exact ⟨[], (by rw [← nil_of he0 (by assumption)]; rfl), (fun j y c h => by rw [← nil_of he0 (by assumption)] at h; simp at h), rfl⟩
 refine FJ.skip (FJ.then_ (FJ.seq (FJ.region ?_)))
 refine FJ.e (goes_list rfl) rfl (by decide) rfl (e_buildNil rfl u_23 (inz inf_57)) ?_
 rintro _ _ ⟨g4, rfl, rfl⟩
 refine FJ.ql rfl (q_move rfl (.t (.s4 .z))) ?_
 refine FJ.add (c := ownA (kslice 57 32 (kraw kT_57.sz kT_57.pos)) [] [.slice (some ⟨g4, 0, none⟩) 0 0]) (fun w S => own_nil w S _) ?_
 refine FJ.e (goes_list rfl) rfl (by decide) rfl (e_appendRaw (K := kT_57) rfl u_23 inf_57 rfl (.t (.s .z)) (.t .z) (.c .z .n) hF h0' (by omega) (by omega)) ?_
 rintro _ _ ⟨css6, hlcss6, hrcss6, rfl⟩
 refine FJ.know (WS.oform .z) ?_
 rintro ⟨Ao7, co7, rfl, hlo7, hmo7, hbo7⟩
 refine FJ.er (.s4 (.s .z)) (FJ.ql rfl (q_assign rfl (.t .z)) (FJ.nil (FJ.then_ (FJ.ret ?_))))
 refine FJ.doneS (res1 rfl .z) (.c .z .n) ?_
 exact ⟨_, by assumption, by assumption, rfl⟩

set_option maxHeartbeats 1000000 in
set_option maxRecDepth 20000 in
theorem c_147 {w0 : World} {S0 : Bs} {x : (List DPut)} {v0 : Value} (h0 : kSl_57.ro w0 (FF w0 S0) x [v0])  :
    Calls Try.prog 147 #[v0] w0 (TriPost w0 S0 (fun r l => l = [ownA kSl_57 x [r]])) := by
 obtain ⟨A0, c0, rfl, hl0, hm0, hb0, he0⟩ := ro_form h0
 refine FJ.enter (N := 24) Try.func147 rfl rfl (by simp) [(0, .slice A0 x.length c0)] (by simp) (l0 := []) trivial ?_
 refine FJ.seq (FJ.region (FJ.ql rfl (q_assign rfl .c) (FJ.nil (FJ.then_ ?_))))
 refine FJ.seq (FJ.region (FJ.ql rfl (q_move rfl (.t (.s .z))) ?_))
 refine FJ.call (goes_list rfl) rfl (by decide) rfl (c_call rfl Try.func155 rfl rfl (args1 (.t .z))) .n (fun w1 S1 hs tr => c_155 (F0 := FF w0 S0) (wF := w0) tr.wide h0) ?_
 rintro _ _ ⟨css2, hlcss2, hrcss2, rfl⟩
 refine FJ.cat (.c .n) ?_
 refine FJ.know (WS.oform .z) ?_
 rintro ⟨Ao4, co4, rfl, hlo4, hmo4, hbo4⟩
 refine FJ.ql rfl (q_assign rfl (.t .z)) (FJ.nil (FJ.then_ (FJ.seq (FJ.seq ?_))))
 refine FJ.region (FJ.ql rfl (q_move rfl (.t .z)) (FJ.ql rfl (q_len rfl u_23 (.t .z)) (FJ.ql rfl (q_move rfl .c) (FJ.nil ?_))))
 refine FJ.then_ (FJ.block ?_)
 refine FJ.add (c := seqC kT_57 ([] : List DPut) []) seqC_nil ?_
 refine FJ.loopi (γ := Nat × (List (List Value))) (fun ⟨k, css⟩ => [(10, .int .i64 (k : Int)), (9, .int .i64 (css2.length : Int)), (8, .slice Ao4 css2.length co4), (3, .slice Ao4 css2.length co4), (2, .slice none 0 0)]) (fun ⟨k, css⟩ => [seqC kT_57 (List.take k x) (List.take k css), ownA (kslice 57 32 (kraw kT_57.sz kT_57.pos)) css [.slice Ao4 css2.length co4]]) (fun ⟨k, css⟩ => k ≤ css2.length ∧ css.length = css2.length ∧ (∀ j, k ≤ j → css[j]? = css2[j]?)) (fun ⟨k, css⟩ => css2.length - k) (0, css2) ⟨Nat.zero_le _, rfl, fun _ _ => rfl⟩ (.c .z (.c (.s .z) (.c (.s (.s .z)) (.c (.s (.s (.s .z))) (.c (.s4 (.s (.s .z))) .n))))) (fun _ h => h.sel (.c .z (.c .z .n))) ?_
 rintro ⟨k, css⟩ ⟨hk, hlcss, hsame⟩
 refine FJ.seq (FJ.region (FJ.ql rfl (q_lss rfl (.t .z) (.t (.s .z))) (FJ.nil (FJ.then_ ?_))))
 refine FJ.seq ?_
 refine FJ.condP (.t .z) (fun b5 => ?_) (fun b5 => ?_)
 refine FJ.skip (FJ.then_ (FJ.seq (FJ.block (FJ.seq ?_))))
 refine FJ.region (FJ.ql rfl (q_move rfl (.t (.s .z))) ?_)
 refine FJ.know (WS.oad (.s .z) (by omega)) ?_
 rintro ⟨ad6, rfl⟩
 obtain ⟨c7, hc7⟩ := get_ex (xs := css) (j := k) (by omega)
 obtain ⟨y8, hy8⟩ := get_ex (xs := x) (j := k) (by omega)
 have ry8 := hrcss2 k y8 c7 hy8 ((hsame k (Nat.le_refl _)).symm.trans hc7)
 obtain ⟨uy8_1, rfl, hy8_1⟩ := kT_57_ro ry8
 obtain ⟨Ay8_1, cy8_1, rfl, hly8_1, hmy8_1, hby8_1, hey8_1⟩ := ro_form hy8_1
 refine FJ.ql rfl (q_indexAddr (j := k) rfl u_23 sz_57 (.t (.s4 .z)) (.t (.s (.s .z))) rfl (by omega)) ?_
 refine FJ.ql rfl (q_loadA (cs := [.int .i64 y8.at_, .slice Ay8_1 y8.words.length cy8_1]) rfl ag_57 sz_57 (.t .z) (WS.raws (.s .z) hc7)) ?_
 refine FJ.e (goes_list rfl) rfl (by decide) rfl (e_alloc rfl z_57 rfl rfl) ?_
 rintro _ _ ⟨g11, rfl, rfl⟩
 refine FJ.ql rfl (q_assign rfl (.t (.s (.s (.s .z))))) ?_
 refine FJ.es (goes_list rfl) rfl (es_store (off := 0) (cs := [.int .i64 y8.at_, .slice Ay8_1 y8.words.length cy8_1]) rfl sz_57 (.t (.s .z)) (.t (.s (.s .z))) rfl (ones rfl) .z (Nat.le_of_ble_eq_true rfl) (.c .z (.c (.s .z) .n))) ?_
 refine FJ.nil (FJ.then_ (FJ.region (FJ.ql rfl (q_move rfl (.t (.s4 (.s4 (.s .z))))) (FJ.ql rfl (q_move rfl (.t (.s .z))) ?_))))
 refine FJ.ql rfl (q_fieldAddr rfl (.t (.s (.s (.s .z)))) (fun _ => fa_57_1 _ _)) (FJ.ql rfl (q_load rfl ag_40 (.t .z) (WS.row .z rfl)) ?_)
 refine FJ.call (goes_list rfl) rfl (by decide) rfl (c_call rfl Try.func100 rfl rfl (args1 (.t .z))) .n (fun w1 S1 hs tr => c_100 (tr.ctx hy8_1)) ?_
 rintro _ _ rfl
 refine FJ.cat (.c .n) ?_
 refine FJ.know (WS.oform .z) ?_
 rintro ⟨Ao13, co13, rfl, hlo13, hmo13, hbo13⟩
 refine FJ.ql rfl (q_indexAddr (j := k) rfl u_23 sz_57 (.t (.s4 .z)) (.t (.s (.s (.s .z)))) rfl (by omega)) ?_
 refine FJ.ql rfl (q_fieldAddr rfl (.t .z) (fun _ => fa_57_1 _ _)) ?_
 refine FJ.es (goes_list rfl) rfl (es_raw (j := k) (off := 1) (cs := [.slice Ao13 y8.words.length co13]) rfl sz_40 (.t .z) (add_add _ _ _) (.t (.s (.s .z))) rfl (ones rfl) (.s (.s (.s .z))) hc7 (Nat.le_of_ble_eq_true rfl)) ?_
 refine FJ.ceq (x' := List.set css k [.int .i64 y8.at_, .slice Ao13 y8.words.length co13]) .z rfl ?_
 refine FJ.nil (FJ.inBN (FJ.then_ (FJ.region ?_)))
 refine FJ.ql rfl (q_add (c := ((k + 1 : Nat) : Int)) rfl (.t (.s4 (.s4 (.s4 (.s .z))))) .c (wr (by omega) (by omega) (by omega))) ?_
 refine FJ.er (.s4 (.s4 (.s4 (.s (.s .z))))) (FJ.ql rfl (q_move rfl (.t .z)) (FJ.nil ?_))
 refine FJ.turns (c := ownA kT_57 y8 [.int .i64 y8.at_, .slice Ao13 y8.words.length co13]) (.c (.s .z) .n) (fun w S h => kT_57_omk y8 h) ?_
 refine FJ.turns (c := seqC kT_57 (List.take (k + 1) x) (List.take (k + 1) (List.set css k [.int .i64 y8.at_, .slice Ao13 y8.words.length co13]))) (.c (.s (.s (.s .z))) (.c .z .n)) (seq_snoc' (by rw [List.length_take, List.length_take]; omega) (take_get hy8).symm (take_set hc7)) ?_
 refine FJ.again ((k + 1), List.set css k [.int .i64 y8.at_, .slice Ao13 y8.words.length co13]) ⟨by omega, by rw [List.length_set]; exact hlcss, fun j hj => by rw [List.getElem?_set_ne (by omega)]; exact hsame j (by omega)⟩ (by first | omega | (dsimp only; omega)) (.c .z (.c (.s4 (.s4 (.s4 (.s (.s (.s .z)))))) (.c (.s16 .z) (.c (.s16 (.s .z)) (.c (.s16 (.s (.s .z))) .n))))) (fun _ h => h.sel (.c .z (.c .z .n)))
 refine FJ.exit (FJ.thenE (FJ.thenE (FJ.inB (FJ.then_ ?_))))
 refine FJ.seq (FJ.region (FJ.ql rfl (q_move rfl (.t (.s4 .z))) (FJ.er (.s4 (.s (.s .z))) (FJ.ql rfl (q_assign rfl (.t .z)) ?_))))
 refine FJ.nil (FJ.then_ (FJ.ret ?_))
 refine FJ.turns (c := ownA kSl_57 x [.slice Ao4 css2.length co4]) (.c (.s .z) (.c .z .n)) (raw_own' (by omega) (List.take_of_length_le (by omega)) (List.take_of_length_le (by omega))) ?_
 refine FJ.doneS (res1 rfl .z) (.c .z .n) ?_
 rfl

set_option maxHeartbeats 1000000 in
set_option maxRecDepth 20000 in
theorem c_96 {w0 : World} {S0 : Bs} {x : DDisk} {cs0 : List Value} (h0 : kT_25.ro w0 (FF w0 S0) x cs0)  :
    Calls Try.prog 96 #[.agg cs0.toArray] w0 (TriPost w0 S0 (RA_25 x)) := by
 obtain ⟨u0_0, u0_1, rfl, h0_0, h0_1⟩ := kT_25_ro h0
 obtain ⟨A0_0, c0_0, rfl, hl0_0, hm0_0, hb0_0, he0_0⟩ := ro_form h0_0
 obtain ⟨A0_1, c0_1, rfl, hl0_1, hm0_1, hb0_1, he0_1⟩ := ro_form h0_1
 refine FJ.enter (N := 27) Try.func96 rfl rfl (by simp) [(0, .agg #[.slice A0_0 x.blocks.length c0_0, .slice A0_1 x.cache.length c0_1])] (by simp) (l0 := []) trivial ?_
 refine FJ.seq (FJ.region ?_)
 refine FJ.e (goes_list rfl) rfl (by decide) rfl (e_box (cs := [.slice A0_0 x.blocks.length c0_0, .slice A0_1 x.cache.length c0_1]) (n := 2) rfl (.t .z) rfl rfl) ?_
 rintro _ _ ⟨g3, rfl, rfl⟩
 refine FJ.e (goes_list rfl) rfl (by decide) rfl (e_alloc rfl z_25 rfl rfl) ?_
 rintro _ _ ⟨g4, rfl, rfl⟩
 refine FJ.nil (FJ.then_ (FJ.seq (FJ.region ?_)))
 refine FJ.e (goes_list rfl) rfl (by decide) rfl (e_alloc rfl z_25 rfl rfl) ?_
 rintro _ _ ⟨g5, rfl, rfl⟩
 refine FJ.nil (FJ.then_ (FJ.seq (FJ.seq (FJ.region ?_))))
 refine FJ.ql rfl (q_fieldAddr rfl (.t (.s (.s .z))) (fun _ => fa_25_0 _ _)) (FJ.ql rfl (q_load rfl ag_22 (.t .z) (WS.row (.s (.s .z)) rfl)) (FJ.ql rfl (q_len rfl u_22 (.t .z)) (FJ.ql rfl (q_move rfl .c) (FJ.nil ?_))))
 refine FJ.then_ (FJ.block ?_)
 refine FJ.add (c := ownA kSl_40 [] [.slice none 0 0]) (fun w S => own_nil w S none) ?_
 refine FJ.loopi (γ := Nat × (Option Addr) × Nat) (fun ⟨k, Agk0, cgk0⟩ => [(9, .int .i64 (k : Int)), (8, .int .i64 (x.blocks.length : Int)), (7, .slice A0_0 x.blocks.length c0_0), (3, .pointer (some ⟨g5, 0, none⟩)), (2, .pointer (some ⟨g4, 0, none⟩)), (1, .pointer (some ⟨g3, 0, none⟩))]) (fun ⟨k, Agk0, cgk0⟩ => [ownA kSl_40 (List.take k x.blocks) [.slice Agk0 (List.take k x.blocks).length cgk0], rowA g5 25 2 1 [.slice Agk0 (List.take k x.blocks).length cgk0, .slice none 0 0], rowA g4 25 2 1 [.slice none 0 0, .slice none 0 0], rowA g3 25 2 1 [.slice A0_0 x.blocks.length c0_0, .slice A0_1 x.cache.length c0_1]]) (fun ⟨k, Agk0, cgk0⟩ => k ≤ x.blocks.length) (fun ⟨k, Agk0, cgk0⟩ => x.blocks.length - k) (0, none, 0) (Nat.zero_le _) (.c .z (.c (.s .z) (.c (.s (.s .z)) (.c (.s4 .z) (.c (.s4 (.s .z)) (.c (.s4 (.s (.s .z))) .n)))))) (fun _ h => h.sel (.c .z (.c .z (.c .z (.c .z .n))))) ?_
 rintro ⟨k, Agk0, cgk0⟩ hk
 refine FJ.seq (FJ.region (FJ.ql rfl (q_lss rfl (.t .z) (.t (.s .z))) (FJ.nil (FJ.then_ ?_))))
 refine FJ.seq ?_
 refine FJ.condP (.t .z) (fun b7 => ?_) (fun b7 => ?_)
 refine FJ.skip (FJ.then_ (FJ.seq (FJ.block (FJ.seq ?_))))
 refine FJ.region ?_
 obtain ⟨ad8, hAad8, hrad8⟩ := he0_0 (by omega)
 subst hAad8
 obtain ⟨x9, hx9⟩ := get_ex (xs := x.blocks) (j := k) (by omega)
 obtain ⟨ece10, hre10, hFe10, hce10⟩ := hrad8.elem hx9
 obtain ⟨ue10, rfl⟩ := sl_one hre10
 obtain ⟨Ae10, ce10, rfl, hle10, hme10, hbe10, hee10⟩ := ro_form hre10
 refine FJ.ql rfl (q_indexAddr (j := k) rfl u_22 sz_40 (.t (.s (.s (.s .z)))) (.t (.s .z)) rfl (by omega)) ?_
 refine FJ.ql rfl (q_load rfl ag_40 (.t .z) (WS.el0 hFe10 hce10 rfl)) (FJ.ql rfl (q_assign rfl (.t .z)) (FJ.nil (FJ.then_ ?_)))
 refine FJ.draw [rowA g5 25 2 1 [.slice Agk0 (List.take k x.blocks).length cgk0, .slice none 0 0], rowA g4 25 2 1 [.slice none 0 0, .slice none 0 0], rowA g3 25 2 1 [.slice (some ad8) x.blocks.length c0_0, .slice A0_1 x.cache.length c0_1]] 7 (by kernel_rfl) ?_
 refine FJ.sch [(0, true), (1, true), (2, true), (3, false), (4, false), (5, false), (6, true), (7, false)] 0 #[true, true, true, true, true, true, true, true] (by rfl) (by kernel_rfl) ?_
 refine FJ.dq rfl rfl rfl (by decide) rfl (.s .z) (q_fieldAddr rfl (.t (.s4 (.s (.s (.s .z))))) (fun _ => fa_25_0 _ _)) (FJ.dq rfl rfl rfl (by decide) rfl (.s .z) (q_load rfl ag_22 (.t .z) (WS.row .z rfl)) (FJ.dq rfl rfl rfl (by decide) rfl (.s .z) (q_move rfl (.t (.s (.s .z)))) ?_))
 refine FJ.call (goes_sch rfl rfl) rfl (by decide) rfl (c_call rfl Try.func100 rfl rfl (args1 (.t .z))) .n (fun w1 S1 hs tr => c_100 (tr.ctx hre10)) ?_
 rintro _ _ rfl
 refine FJ.cat (.c .n) ?_
 refine FJ.know (WS.oform .z) ?_
 rintro ⟨Ao13, co13, rfl, hlo13, hmo13, hbo13⟩
 refine FJ.sk (.s (.s .z)) ?_
 refine FJ.e (goes_sch rfl rfl) rfl (by decide) rfl (e_buildSliceL (ps := [(0, .slice Ao13 x9.length co13)]) (cs := [.slice Ao13 x9.length co13]) rfl u_22 (inz inf_40) (by decide) (by intro act hact; simp only [List.map_toArray, List.map_cons, List.map_nil, (show Val _ _ _ from (.t .z)) act hact]) rfl rfl (by decide) rfl rfl) ?_
 rintro _ _ ⟨g14, rfl, rfl⟩
 refine FJ.sk (.s (.s (.s .z))) ?_
 refine FJ.e (goes_sch rfl rfl) rfl (by decide) rfl (e_append1 rfl u_22 inf_40 rfl (.t (.s (.s (.s .z)))) (.t .z) (.c (.s (.s .z)) (.c .z (.c .z .n))) (by simp only [List.length_take]; omega) (by simp only [List.length_take]; omega)) ?_
 rintro _ _ rfl
 refine FJ.ceq .z (take_get hx9).symm ?_
 refine FJ.know (WS.oform .z) ?_
 rintro ⟨Ao15, co15, rfl, hlo15, hmo15, hbo15⟩
 refine FJ.sk (.s .z) ?_
 refine FJ.dq rfl rfl rfl (by decide) rfl (.s .z) (q_fieldAddr rfl (.t (.s4 (.s4 (.s4 (.s .z))))) (fun _ => fa_25_0 _ _)) ?_
 refine FJ.es (goes_sch rfl rfl) rfl (es_store (off := 0) (cs := [.slice Ao15 (List.take (k + 1) x.blocks).length co15]) rfl sz_22 (.t .z) (.t (.s .z)) rfl (ones rfl) (.s .z) (Nat.le_of_ble_eq_true rfl) (.c .z .n)) ?_
 refine FJ.sl rfl ?_
 refine FJ.schN ?_
 refine FJ.drawN (by kernel_rfl) ?_
 refine FJ.inBN (FJ.then_ (FJ.region ?_))
 refine FJ.ql rfl (q_add (c := ((k + 1 : Nat) : Int)) rfl (.t (.s4 (.s4 (.s (.s (.s .z)))))) .c (wr (by omega) (by omega) (by omega))) ?_
 refine FJ.er (.s4 (.s4 (.s4 .z))) (FJ.ql rfl (q_move rfl (.t .z)) (FJ.nil ?_))
 refine FJ.again ((k + 1), Ao15, co15) (by omega) (by first | omega | (dsimp only; omega)) (.c .z (.c (.s4 (.s4 (.s4 (.s .z)))) (.c (.s4 (.s4 (.s4 (.s (.s .z))))) (.c (.s4 (.s4 (.s4 (.s (.s (.s .z)))))) (.c (.s16 .z) (.c (.s16 (.s .z)) .n)))))) (fun _ h => h.sel (.c (.s .z) (.c .z (.c .z (.c .z .n)))))
 refine FJ.exit (FJ.thenE (FJ.thenE (FJ.inB (FJ.then_ ?_))))
 refine FJ.seq ?_
 refine FJ.draw [rowA g5 25 2 1 [.slice Agk0 (List.take k x.blocks).length cgk0, .slice none 0 0], rowA g4 25 2 1 [.slice none 0 0, .slice none 0 0], rowA g3 25 2 1 [.slice A0_0 x.blocks.length c0_0, .slice A0_1 x.cache.length c0_1]] 6 (by kernel_rfl) ?_
 refine FJ.sch [(0, true), (1, true), (2, true), (3, true), (4, false), (5, true), (6, false)] 0 #[true, true, true, true, true, true, true] (by rfl) (by kernel_rfl) ?_
 refine FJ.dq rfl rfl rfl (by decide) rfl (.s .z) (q_fieldAddr rfl (.t (.s4 .z)) (fun _ => fa_25_0 _ _)) (FJ.dq rfl rfl rfl (by decide) rfl (.s .z) (q_load rfl ag_22 (.t .z) (WS.row .z rfl)) (FJ.dq rfl rfl rfl (by decide) rfl (.s .z) (q_fieldAddr rfl (.t (.s4 (.s4 .z))) (fun _ => fa_25_1 _ _)) (FJ.dq rfl rfl rfl (by decide) rfl (.s .z) (q_load rfl ag_23 (.t .z) (WS.row (.s (.s .z)) rfl)) ?_)))
 refine FJ.call (goes_sch rfl rfl) rfl (by decide) rfl (c_call rfl Try.func147 rfl rfl (args1 (.t .z))) .n (fun w1 S1 hs tr => c_147 (tr.ctx h0_1)) ?_
 rintro _ _ rfl
 refine FJ.cat (.c .n) ?_
 refine FJ.know (WS.oform .z) ?_
 rintro ⟨Ao17, co17, rfl, hlo17, hmo17, hbo17⟩
 refine FJ.sk (.s (.s .z)) ?_
 refine FJ.dq rfl rfl rfl (by decide) rfl (.s (.s .z)) (q_build (ps := [(0, .slice Agk0 (List.take k x.blocks).length cgk0), (1, .slice Ao17 x.cache.length co17)]) (cs := [.slice Agk0 (List.take k x.blocks).length cgk0, .slice Ao17 x.cache.length co17]) rfl bl_25 (by intro act hact; simp only [List.map_toArray, List.map_cons, List.map_nil, (show Val _ _ _ from (.t (.s (.s (.s .z))))) act hact, (show Val _ _ _ from (.t .z)) act hact]) rfl) ?_
 refine FJ.es (goes_sch rfl rfl) rfl (es_store (off := 0) (cs := [.slice Agk0 (List.take k x.blocks).length cgk0, .slice Ao17 x.cache.length co17]) rfl sz_25 (.t (.s4 (.s4 (.s (.s (.s .z)))))) (.t .z) rfl (ones rfl) (.s (.s (.s .z))) (Nat.le_of_ble_eq_true rfl) (.c .z (.c (.s .z) .n))) ?_
 refine FJ.sl rfl ?_
 refine FJ.schN ?_
 refine FJ.drawN (by kernel_rfl) ?_
 refine FJ.then_ (FJ.ret ?_)
 refine FJ.ceq (.s (.s .z)) (List.take_of_length_le (by omega)) ?_
 refine FJ.doneS (resC (cs := [.slice Agk0 (List.take k x.blocks).length cgk0, .slice Ao17 x.cache.length co17]) rfl (.s4 (.s4 (.s (.s (.s .z))))) ag_25 sz_25 (WS.rows0 (cs := [.slice Agk0 (List.take k x.blocks).length cgk0, .slice Ao17 x.cache.length co17]) (.s .z) (fun _ _ h => h))) (.c .z (.c (.s .z) .n)) ?_
 skip
 exact ⟨_, _, rfl, rfl⟩

set_option maxHeartbeats 1000000 in
set_option maxRecDepth 20000 in
theorem c_118 {w0 : World} {S0 : Bs} {x : DDisk} {cs0 : List Value} (h0 : kT_25.ro w0 (FF w0 S0) x cs0)  :
    Calls Try.prog 118 #[.agg cs0.toArray] w0 (TriPost w0 S0 (RA_25 x)) := by
 obtain ⟨u0_0, u0_1, rfl, h0_0, h0_1⟩ := kT_25_ro h0
 obtain ⟨A0_0, c0_0, rfl, hl0_0, hm0_0, hb0_0, he0_0⟩ := ro_form h0_0
 obtain ⟨A0_1, c0_1, rfl, hl0_1, hm0_1, hb0_1, he0_1⟩ := ro_form h0_1
 refine FJ.enter (N := 52) Try.func118 rfl rfl (by simp) [(0, .agg #[.slice A0_0 x.blocks.length c0_0, .slice A0_1 x.cache.length c0_1])] (by simp) (l0 := []) trivial ?_
 refine FJ.seq (FJ.region ?_)
 refine FJ.e (goes_list rfl) rfl (by decide) rfl (e_box (cs := [.slice A0_0 x.blocks.length c0_0, .slice A0_1 x.cache.length c0_1]) (n := 2) rfl (.t .z) rfl rfl) ?_
 rintro _ _ ⟨g3, rfl, rfl⟩
 refine FJ.e (goes_list rfl) rfl (by decide) rfl (e_alloc rfl z_25 rfl rfl) ?_
 rintro _ _ ⟨g4, rfl, rfl⟩
 refine FJ.nil (FJ.then_ (FJ.seq (FJ.region ?_)))
 refine FJ.ql rfl (q_build (ps := []) (cs := [.slice none 0 0, .slice none 0 0]) rfl bl_25 (by intro act hact; simp only [List.map_toArray, List.map_cons, List.map_nil]) rfl) ?_
 refine FJ.e (goes_list rfl) rfl (by decide) rfl (e_alloc rfl z_25 rfl rfl) ?_
 rintro _ _ ⟨g5, rfl, rfl⟩
 refine FJ.es (goes_list rfl) rfl (es_store (off := 0) (cs := [.slice none 0 0, .slice none 0 0]) rfl sz_25 (.t .z) (.t (.s .z)) rfl (ones rfl) .z (Nat.le_of_ble_eq_true rfl) (.c .z (.c (.s .z) .n))) ?_
 refine FJ.nil (FJ.then_ (FJ.seq (FJ.seq (FJ.region ?_))))
 refine FJ.ql rfl (q_assign rfl .c) (FJ.nil (FJ.then_ (FJ.block ?_)))
 refine FJ.add (c := ownA kSl_40 [] [.slice none 0 0]) (fun w S => own_nil w S none) ?_
 refine FJ.loopi (γ := Nat × (Option Addr) × Nat) (fun ⟨k, Agk0, cgk0⟩ => [(4, .int .i64 (k : Int)), (3, .pointer (some ⟨g5, 0, none⟩)), (2, .pointer (some ⟨g4, 0, none⟩)), (1, .pointer (some ⟨g3, 0, none⟩))]) (fun ⟨k, Agk0, cgk0⟩ => [ownA kSl_40 (List.take k x.blocks) [.slice Agk0 (List.take k x.blocks).length cgk0], rowA g5 25 2 1 [.slice Agk0 (List.take k x.blocks).length cgk0, .slice none 0 0], rowA g4 25 2 1 [.slice none 0 0, .slice none 0 0], rowA g3 25 2 1 [.slice A0_0 x.blocks.length c0_0, .slice A0_1 x.cache.length c0_1]]) (fun ⟨k, Agk0, cgk0⟩ => k ≤ x.blocks.length) (fun ⟨k, Agk0, cgk0⟩ => x.blocks.length - k) (0, none, 0) (Nat.zero_le _) (.c .z (.c (.s .z) (.c (.s (.s (.s .z))) (.c (.s4 .z) .n)))) (fun _ h => h.sel (.c .z (.c .z (.c .z (.c .z .n))))) ?_
 rintro ⟨k, Agk0, cgk0⟩ hk
 refine FJ.seq (FJ.seq (FJ.region (FJ.ql rfl (q_move rfl (.t .z)) (FJ.ql rfl (q_fieldAddr rfl (.t (.s4 .z)) (fun _ => fa_25_0 _ _)) ?_))))
 refine FJ.ql rfl (q_load rfl ag_22 (.t .z) (WS.row (.s (.s (.s .z))) rfl)) (FJ.ql rfl (q_len rfl u_22 (.t .z)) (FJ.ql rfl (q_lss rfl (.t (.s (.s (.s .z)))) (.t .z)) (FJ.nil (FJ.then_ ?_))))
 refine FJ.condP (.t .z) (fun b7 => ?_) (fun b7 => ?_)
 refine FJ.skip (FJ.then_ (FJ.seq (FJ.block ?_)))
 refine FJ.draw [rowA g5 25 2 1 [.slice Agk0 (List.take k x.blocks).length cgk0, .slice none 0 0], rowA g4 25 2 1 [.slice none 0 0, .slice none 0 0], rowA g3 25 2 1 [.slice A0_0 x.blocks.length c0_0, .slice A0_1 x.cache.length c0_1]] 11 (by kernel_rfl) ?_
 refine FJ.sch [(0, true), (1, true), (2, true), (3, true), (4, true), (5, true), (6, true), (7, false), (8, false), (9, false), (10, true), (11, false)] 0 #[true, true, true, true, true, true, true, true, true, true, true, true] (by rfl) (by kernel_rfl) ?_
 refine FJ.dq rfl rfl rfl (by decide) rfl (.s .z) (q_fieldAddr rfl (.t (.s4 (.s (.s .z)))) (fun _ => fa_25_0 _ _)) (FJ.dq rfl rfl rfl (by decide) rfl (.s .z) (q_load rfl ag_22 (.t .z) (WS.row .z rfl)) (FJ.dq rfl rfl rfl (by decide) rfl (.s .z) (q_fieldAddr rfl (.t (.s4 (.s4 (.s (.s .z))))) (fun _ => fa_25_0 _ _)) (FJ.dq rfl rfl rfl (by decide) rfl (.s .z) (q_load rfl ag_22 (.t .z) (WS.row (.s (.s .z)) rfl)) (FJ.dq rfl rfl rfl (by decide) rfl (.s .z) (q_move rfl (.t (.s4 (.s4 (.s .z))))) ?_))))
 obtain ⟨ad8, hAad8, hrad8⟩ := he0_0 (by omega)
 subst hAad8
 obtain ⟨x9, hx9⟩ := get_ex (xs := x.blocks) (j := k) (by omega)
 obtain ⟨ece10, hre10, hFe10, hce10⟩ := hrad8.elem hx9
 obtain ⟨ue10, rfl⟩ := sl_one hre10
 obtain ⟨Ae10, ce10, rfl, hle10, hme10, hbe10, hee10⟩ := ro_form hre10
 refine FJ.dq rfl rfl rfl (by decide) rfl (.s .z) (q_indexAddr (j := k) rfl u_22 sz_40 (.t (.s .z)) (.t .z) rfl (by omega)) ?_
 refine FJ.dq rfl rfl rfl (by decide) rfl (.s .z) (q_load rfl ag_40 (.t .z) (WS.el0 hFe10 hce10 rfl)) ?_
 refine FJ.call (goes_sch rfl rfl) rfl (by decide) rfl (c_call rfl Try.func105 rfl rfl (args1 (.t .z))) .n (fun w1 S1 hs tr => c_105 (tr.ctx hre10)) ?_
 rintro _ _ rfl
 refine FJ.cat (.c .n) ?_
 refine FJ.know (WS.oform .z) ?_
 rintro ⟨Ao13, co13, rfl, hlo13, hmo13, hbo13⟩
 refine FJ.sk (.s (.s .z)) ?_
 refine FJ.e (goes_sch rfl rfl) rfl (by decide) rfl (e_buildSliceL (ps := [(0, .slice Ao13 x9.length co13)]) (cs := [.slice Ao13 x9.length co13]) rfl u_22 (inz inf_40) (by decide) (by intro act hact; simp only [List.map_toArray, List.map_cons, List.map_nil, (show Val _ _ _ from (.t .z)) act hact]) rfl rfl (by decide) rfl rfl) ?_
 rintro _ _ ⟨g14, rfl, rfl⟩
 refine FJ.sk (.s (.s (.s .z))) ?_
 refine FJ.e (goes_sch rfl rfl) rfl (by decide) rfl (e_append1 rfl u_22 inf_40 rfl (.t (.s4 (.s (.s (.s .z))))) (.t .z) (.c (.s (.s .z)) (.c .z (.c .z .n))) (by simp only [List.length_take]; omega) (by simp only [List.length_take]; omega)) ?_
 rintro _ _ rfl
 refine FJ.ceq .z (take_get hx9).symm ?_
 refine FJ.know (WS.oform .z) ?_
 rintro ⟨Ao15, co15, rfl, hlo15, hmo15, hbo15⟩
 refine FJ.sk (.s .z) ?_
 refine FJ.dq rfl rfl rfl (by decide) rfl (.s .z) (q_fieldAddr rfl (.t (.s16 .z)) (fun _ => fa_25_0 _ _)) ?_
 refine FJ.es (goes_sch rfl rfl) rfl (es_store (off := 0) (cs := [.slice Ao15 (List.take (k + 1) x.blocks).length co15]) rfl sz_22 (.t .z) (.t (.s .z)) rfl (ones rfl) (.s .z) (Nat.le_of_ble_eq_true rfl) (.c .z .n)) ?_
 refine FJ.sl rfl ?_
 refine FJ.schN ?_
 refine FJ.drawN (by kernel_rfl) ?_
 refine FJ.inBN (FJ.then_ (FJ.region (FJ.ql rfl (q_move rfl (.t (.s16 .z))) ?_)))
 refine FJ.ql rfl (q_add (c := ((k + 1 : Nat) : Int)) rfl (.t .z) .c (wr (by omega) (by omega) (by omega))) ?_
 refine FJ.er (.s16 (.s (.s .z))) (FJ.ql rfl (q_assign rfl (.t .z)) (FJ.nil ?_))
 refine FJ.again ((k + 1), Ao15, co15) (by omega) (by first | omega | (dsimp only; omega)) (.c .z (.c (.s16 (.s (.s (.s .z)))) (.c (.s16 (.s4 .z)) (.c (.s16 (.s4 (.s .z))) .n)))) (fun _ h => h.sel (.c (.s .z) (.c .z (.c .z (.c .z .n)))))
 refine FJ.exit (FJ.thenE (FJ.thenE (FJ.inB (FJ.then_ ?_))))
 refine FJ.seq (FJ.seq (FJ.region (FJ.ql rfl (q_assign rfl .c) (FJ.nil ?_))))
 refine FJ.then_ (FJ.block ?_)
 refine FJ.ceq .z (List.take_of_length_le (by omega)) ?_
 refine FJ.add (c := ownA kSl_57 [] [.slice none 0 0]) (fun w S => own_nil w S none) ?_
 refine FJ.loopi (γ := Nat × (Option Addr) × Nat) (fun ⟨q, Agq0, cgq0⟩ => [(5, .int .i64 (q : Int)), (3, .pointer (some ⟨g5, 0, none⟩)), (2, .pointer (some ⟨g4, 0, none⟩)), (1, .pointer (some ⟨g3, 0, none⟩))]) (fun ⟨q, Agq0, cgq0⟩ => [ownA kSl_57 (List.take q x.cache) [.slice Agq0 (List.take q x.cache).length cgq0], ownA kSl_40 x.blocks [.slice Agk0 (List.take k x.blocks).length cgk0], rowA g5 25 2 1 [.slice Agk0 (List.take k x.blocks).length cgk0, .slice Agq0 (List.take q x.cache).length cgq0], rowA g4 25 2 1 [.slice none 0 0, .slice none 0 0], rowA g3 25 2 1 [.slice A0_0 x.blocks.length c0_0, .slice A0_1 x.cache.length c0_1]]) (fun ⟨q, Agq0, cgq0⟩ => q ≤ x.cache.length) (fun ⟨q, Agq0, cgq0⟩ => x.cache.length - q) (0, none, 0) (Nat.zero_le _) (.c .z (.c (.s4 (.s (.s (.s .z)))) (.c (.s4 (.s4 .z)) (.c (.s4 (.s4 (.s .z))) .n)))) (fun _ h => h.sel (.c .z (.c .z (.c .z (.c .z (.c .z .n)))))) ?_
 rintro ⟨q, Agq0, cgq0⟩ hq
 refine FJ.seq (FJ.seq (FJ.region (FJ.ql rfl (q_move rfl (.t .z)) (FJ.ql rfl (q_fieldAddr rfl (.t (.s4 .z)) (fun _ => fa_25_1 _ _)) ?_))))
 refine FJ.ql rfl (q_load rfl ag_23 (.t .z) (WS.row (.s4 .z) rfl)) (FJ.ql rfl (q_len rfl u_23 (.t .z)) (FJ.ql rfl (q_lss rfl (.t (.s (.s (.s .z)))) (.t .z)) (FJ.nil (FJ.then_ ?_))))
 refine FJ.condP (.t .z) (fun b17 => ?_) (fun b17 => ?_)
 refine FJ.skip (FJ.then_ (FJ.seq (FJ.block ?_)))
 refine FJ.draw [rowA g5 25 2 1 [.slice Agk0 (List.take k x.blocks).length cgk0, .slice Agq0 (List.take q x.cache).length cgq0], rowA g4 25 2 1 [.slice none 0 0, .slice none 0 0], rowA g3 25 2 1 [.slice A0_0 x.blocks.length c0_0, .slice A0_1 x.cache.length c0_1]] 19 (by kernel_rfl) ?_
 refine FJ.sch [(0, true), (1, true), (2, true), (3, true), (4, true), (5, true), (6, true), (7, true), (8, true), (9, true), (10, true), (11, true), (12, true), (13, true), (14, false), (15, true), (16, false), (17, false), (18, true), (19, false)] 0 #[true, true, true, true, true, true, true, true, true, true, true, true, true, true, true, true, true, true, true, true] (by rfl) (by kernel_rfl) ?_
 refine FJ.dq rfl rfl rfl (by decide) rfl (.s (.s .z)) (q_fieldAddr rfl (.t (.s4 (.s (.s .z)))) (fun _ => fa_25_1 _ _)) (FJ.dq rfl rfl rfl (by decide) rfl (.s (.s .z)) (q_load rfl ag_23 (.t .z) (WS.row .z rfl)) (FJ.dq rfl rfl rfl (by decide) rfl (.s (.s .z)) (q_fieldAddr rfl (.t (.s4 (.s4 (.s (.s .z))))) (fun _ => fa_25_1 _ _)) (FJ.dq rfl rfl rfl (by decide) rfl (.s (.s .z)) (q_load rfl ag_23 (.t .z) (WS.row (.s (.s .z)) rfl)) (FJ.dq rfl rfl rfl (by decide) rfl (.s (.s .z)) (q_move rfl (.t (.s4 (.s4 (.s .z))))) ?_))))
 obtain ⟨ad18, hAad18, hrad18⟩ := he0_1 (by omega)
 subst hAad18
 obtain ⟨x19, hx19⟩ := get_ex (xs := x.cache) (j := q) (by omega)
 obtain ⟨ece20, hre20, hFe20, hce20⟩ := hrad18.elem hx19
 obtain ⟨ue20_1, rfl, he20_1⟩ := kT_57_ro hre20
 obtain ⟨Ae20_1, ce20_1, rfl, hle20_1, hme20_1, hbe20_1, hee20_1⟩ := ro_form he20_1
 refine FJ.dq rfl rfl rfl (by decide) rfl (.s (.s .z)) (q_indexAddr (j := q) rfl u_23 sz_57 (.t (.s .z)) (.t .z) rfl (by omega)) ?_
 refine FJ.dq rfl rfl rfl (by decide) rfl (.s (.s .z)) (q_fieldAddr rfl (.t .z) (fun _ => fa_57_0 _ _)) (FJ.dq rfl rfl rfl (by decide) rfl (.s (.s .z)) (q_load rfl ag_2 (.t .z) (WS.el hFe20 hce20 rfl)) (FJ.dq rfl rfl rfl (by decide) rfl (.s (.s .z)) (q_fieldAddr rfl (.t (.s16 .z)) (fun _ => fa_25_1 _ _)) (FJ.dq rfl rfl rfl (by decide) rfl (.s (.s .z)) (q_load rfl ag_23 (.t .z) (WS.row (.s (.s .z)) rfl)) (FJ.dq rfl rfl rfl (by decide) rfl (.s (.s .z)) (q_move rfl (.t (.s4 (.s4 (.s4 (.s (.s (.s .z)))))))) ?_))))
 refine FJ.dq rfl rfl rfl (by decide) rfl (.s (.s .z)) (q_indexAddr (j := q) rfl u_23 sz_57 (.t (.s .z)) (.t .z) rfl (by omega)) ?_
 refine FJ.dq rfl rfl rfl (by decide) rfl (.s (.s .z)) (q_fieldAddr rfl (.t .z) (fun _ => fa_57_1 _ _)) (FJ.dq rfl rfl rfl (by decide) rfl (.s (.s .z)) (q_load rfl ag_40 (.t .z) (WS.el hFe20 hce20 rfl)) ?_)
 refine FJ.call (goes_sch rfl rfl) rfl (by decide) rfl (c_call rfl Try.func105 rfl rfl (args1 (.t .z))) .n (fun w1 S1 hs tr => c_105 (tr.ctx he20_1)) ?_
 rintro _ _ rfl
 refine FJ.cat (.c .n) ?_
 refine FJ.know (WS.oform .z) ?_
 rintro ⟨Ao23, co23, rfl, hlo23, hmo23, hbo23⟩
 refine FJ.sk (.s (.s (.s .z))) ?_
 refine FJ.dq rfl rfl rfl (by decide) rfl (.s (.s (.s .z))) (q_build (ps := [(0, .int .i64 x19.at_), (1, .slice Ao23 x19.words.length co23)]) (cs := [.int .i64 x19.at_, .slice Ao23 x19.words.length co23]) rfl bl_57 (by intro act hact; simp only [List.map_toArray, List.map_cons, List.map_nil, (show Val _ _ _ from (.t (.s4 (.s (.s (.s .z)))))) act hact, (show Val _ _ _ from (.t .z)) act hact]) rfl) ?_
 refine FJ.e (goes_sch rfl rfl) rfl (by decide) rfl (e_buildSliceL (ps := [(0, .agg #[.int .i64 x19.at_, .slice Ao23 x19.words.length co23])]) (cs := [.int .i64 x19.at_, .slice Ao23 x19.words.length co23]) rfl u_23 (inz inf_57) (by decide) (by intro act hact; simp only [List.map_toArray, List.map_cons, List.map_nil, (show Val _ _ _ from (.t .z)) act hact]) rfl rfl (by decide) rfl rfl) ?_
 rintro _ _ ⟨g24, rfl, rfl⟩
 refine FJ.sk (.s4 .z) ?_
 refine FJ.turns (c := ownA kT_57 (⟨x19.at_, x19.words⟩ : DPut) [.int .i64 x19.at_, .slice Ao23 x19.words.length co23]) (.c (.s .z) .n) (fun w S h => kT_57_omk (⟨x19.at_, x19.words⟩ : DPut) h) ?_
 refine FJ.e (goes_sch rfl rfl) rfl (by decide) rfl (e_append1 rfl u_23 inf_57 rfl (.t (.s4 (.s4 (.s4 (.s (.s (.s .z))))))) (.t .z) (.c (.s (.s .z)) (.c (.s .z) (.c .z .n))) (by simp only [List.length_take]; omega) (by simp only [List.length_take]; omega)) ?_
 rintro _ _ rfl
 refine FJ.ceq .z (take_get hx19).symm ?_
 refine FJ.know (WS.oform .z) ?_
 rintro ⟨Ao26, co26, rfl, hlo26, hmo26, hbo26⟩
 refine FJ.sk (.s (.s .z)) ?_
 refine FJ.dq rfl rfl rfl (by decide) rfl (.s (.s .z)) (q_fieldAddr rfl (.t (.s16 (.s4 (.s4 .z)))) (fun _ => fa_25_1 _ _)) ?_
 refine FJ.es (goes_sch rfl rfl) rfl (es_store (off := 1) (cs := [.slice Ao26 (List.take (q + 1) x.cache).length co26]) rfl sz_23 (.t .z) (.t (.s .z)) rfl (ones rfl) (.s (.s .z)) (Nat.le_of_ble_eq_true rfl) (.c (.s .z) .n)) ?_
 refine FJ.sl rfl ?_
 refine FJ.schN ?_
 refine FJ.drawN (by kernel_rfl) ?_
 refine FJ.inBN (FJ.then_ (FJ.region (FJ.ql rfl (q_move rfl (.t (.s16 (.s4 (.s4 .z))))) ?_)))
 refine FJ.ql rfl (q_add (c := ((q + 1 : Nat) : Int)) rfl (.t .z) .c (wr (by omega) (by omega) (by omega))) ?_
 refine FJ.er (.s16 (.s4 (.s4 (.s (.s .z))))) (FJ.ql rfl (q_assign rfl (.t .z)) (FJ.nil ?_))
 refine FJ.again ((q + 1), Ao26, co26) (by omega) (by first | omega | (dsimp only; omega)) (.c .z (.c (.s16 (.s4 (.s4 (.s (.s (.s .z)))))) (.c (.s16 (.s4 (.s4 (.s4 .z)))) (.c (.s16 (.s4 (.s4 (.s4 (.s .z))))) .n)))) (fun _ h => h.sel (.c (.s .z) (.c (.s .z) (.c .z (.c .z (.c .z .n))))))
 refine FJ.exit (FJ.thenE (FJ.thenE (FJ.inB (FJ.then_ ?_))))
 refine FJ.seq (FJ.region ?_)
 refine FJ.ql rfl (q_loadA (cs := [.slice Agk0 (List.take k x.blocks).length cgk0, .slice Agq0 (List.take q x.cache).length cgq0]) rfl ag_25 sz_25 (.t (.s4 (.s (.s .z)))) (WS.rows0 (.s (.s .z)) (fun i u h => by exact h))) ?_
 refine FJ.es (goes_list rfl) rfl (es_store (off := 0) (cs := [.slice Agk0 (List.take k x.blocks).length cgk0, .slice Agq0 (List.take q x.cache).length cgq0]) rfl sz_25 (.t (.s4 (.s4 .z))) (.t .z) rfl (ones rfl) (.s (.s (.s .z))) (Nat.le_of_ble_eq_true rfl) (.c .z (.c (.s .z) .n))) ?_
 refine FJ.nil (FJ.then_ (FJ.ret ?_))
 refine FJ.ceq (.s .z) (List.take_of_length_le (by omega)) ?_
 refine FJ.doneS (resC (cs := [.slice Agk0 (List.take k x.blocks).length cgk0, .slice Agq0 (List.take q x.cache).length cgq0]) rfl (.s4 (.s4 .z)) ag_25 sz_25 (WS.rows0 (cs := [.slice Agk0 (List.take k x.blocks).length cgk0, .slice Agq0 (List.take q x.cache).length cgq0]) (.s .z) (fun _ _ h => h))) (.c (.s (.s .z)) (.c .z .n)) ?_
 skip
 exact ⟨_, _, rfl, rfl⟩

set_option maxHeartbeats 1000000 in
set_option maxRecDepth 20000 in
theorem c_103 {w0 : World} {S0 : Bs} {d : DDisk} {g0 e0 s0 : Nat} {post0 : List Value} {v0_0 : Value} {v0_1 : Value} (a : Int) {ws : (List Int)} {v2 : Value} (h2 : kSl_2.ro w0 (FF w0 S0) ws [v2]) (hs : Star [rowA g0 e0 s0 1 (v0_0 :: v0_1 :: post0), ownA kSl_40 d.blocks [v0_0], ownA kSl_57 d.cache [v0_1]] w0 S0) (hc : d.cache.length ≤ 200) :
    Calls Try.prog 103 #[.pointer (some ⟨g0, 0, none⟩), .int .i64 a, v2] w0 (TriPost w0 S0 (PA_25 g0 e0 s0 post0 ⟨d.blocks, d.cache ++ [⟨a, ws⟩]⟩)) := by
 obtain ⟨A2, c2, rfl, hl2, hm2, hb2, he2⟩ := ro_form h2
 refine FJ.enter (N := 19) Try.func103 rfl rfl (by simp) [(0, .pointer (some ⟨g0, 0, none⟩)), (1, .int .i64 a), (2, .slice A2 ws.length c2)] (by simp) hs ?_
 refine FJ.know (WS.oform (.s .z)) ?_
 rintro ⟨Ao2, co2, rfl, hlo2, hmo2, hbo2⟩
 refine FJ.know (WS.oform (.s (.s .z))) ?_
 rintro ⟨Ao3, co3, rfl, hlo3, hmo3, hbo3⟩
 refine FJ.sel (.c (.s .z) (.c (.s .z) (.c .z .n))) ?_
 refine FJ.draw [rowA g0 e0 s0 1 ((.slice Ao2 d.blocks.length co2) :: (.slice Ao3 d.cache.length co3) :: post0)] 13 (by kernel_rfl) ?_
 refine FJ.sch [(0, true), (1, true), (2, true), (3, true), (4, true), (5, true), (6, true), (7, false), (8, true), (9, false), (10, false), (11, false), (12, true), (13, false)] 0 #[true, true, true, true, true, true, true, true, true, true, true, true, true, true] (by rfl) (by kernel_rfl) ?_
 refine FJ.dq rfl rfl rfl (by decide) rfl (.s (.s .z)) (q_move rfl (.t .z)) (FJ.dq rfl rfl rfl (by decide) rfl (.s (.s .z)) (q_move rfl (.t (.s .z))) (FJ.dq rfl rfl rfl (by decide) rfl (.s (.s .z)) (q_nilCheck rfl (.t .z)) (FJ.dq rfl rfl rfl (by decide) rfl (.s (.s .z)) (q_fieldAddr rfl (.t .z) (fun _ => fa_25_1 _ _)) (FJ.dq rfl rfl rfl (by decide) rfl (.s (.s .z)) (q_load rfl ag_23 (.t .z) (WS.row .z rfl)) ?_))))
 refine FJ.dq rfl rfl rfl (by decide) rfl (.s (.s .z)) (q_move rfl (.t (.s4 (.s (.s .z))))) (FJ.dq rfl rfl rfl (by decide) rfl (.s (.s .z)) (q_move rfl (.t (.s4 (.s4 .z)))) ?_)
 refine FJ.call (goes_sch rfl rfl) rfl (by decide) rfl (c_call rfl Try.func100 rfl rfl (args1 (.t .z))) .n (fun w1 S1 hs tr => c_100 (tr.ctx h2)) ?_
 rintro _ _ rfl
 refine FJ.cat (.c .n) ?_
 refine FJ.know (WS.oform .z) ?_
 rintro ⟨Ao5, co5, rfl, hlo5, hmo5, hbo5⟩
 refine FJ.sk (.s (.s (.s .z))) ?_
 refine FJ.dq rfl rfl rfl (by decide) rfl (.s (.s (.s .z))) (q_build (ps := [(0, .int .i64 a), (1, .slice Ao5 ws.length co5)]) (cs := [.int .i64 a, .slice Ao5 ws.length co5]) rfl bl_57 (by intro act hact; simp only [List.map_toArray, List.map_cons, List.map_nil, (show Val _ _ _ from (.t (.s (.s .z)))) act hact, (show Val _ _ _ from (.t .z)) act hact]) rfl) ?_
 refine FJ.e (goes_sch rfl rfl) rfl (by decide) rfl (e_buildSliceL (ps := [(0, .agg #[.int .i64 a, .slice Ao5 ws.length co5])]) (cs := [.int .i64 a, .slice Ao5 ws.length co5]) rfl u_23 (inz inf_57) (by decide) (by intro act hact; simp only [List.map_toArray, List.map_cons, List.map_nil, (show Val _ _ _ from (.t .z)) act hact]) rfl rfl (by decide) rfl rfl) ?_
 rintro _ _ ⟨g6, rfl, rfl⟩
 refine FJ.sk (.s4 .z) ?_
 refine FJ.turns (c := ownA kT_57 (⟨a, ws⟩ : DPut) [.int .i64 a, .slice Ao5 ws.length co5]) (.c (.s .z) .n) (fun w S h => kT_57_omk (⟨a, ws⟩ : DPut) h) ?_
 refine FJ.e (goes_sch rfl rfl) rfl (by decide) rfl (e_append1 rfl u_23 inf_57 rfl (.t (.s4 (.s .z))) (.t .z) (.c (.s (.s (.s .z))) (.c (.s .z) (.c .z .n))) (by first | omega | (simp only [List.length_append, List.length_take, List.length_nil, List.length_cons]; omega)) (by first | omega | (simp only [List.length_append, List.length_take, List.length_nil, List.length_cons]; omega))) ?_
 rintro _ _ rfl
 refine FJ.know (WS.oform .z) ?_
 rintro ⟨Ao8, co8, rfl, hlo8, hmo8, hbo8⟩
 refine FJ.sk (.s (.s .z)) ?_
 refine FJ.q (goes_sch rfl rfl) rfl (by decide) rfl (q_nilCheck rfl (.t (.s4 (.s4 (.s (.s .z)))))) ?_
 refine FJ.sk (.s (.s .z)) ?_
 refine FJ.dq rfl rfl rfl (by decide) rfl (.s (.s .z)) (q_fieldAddr rfl (.t .z) (fun _ => fa_25_1 _ _)) ?_
 refine FJ.es (goes_sch rfl rfl) rfl (es_store (off := 1) (cs := [.slice Ao8 (d.cache ++ [(⟨a, ws⟩ : DPut)]).length co8]) rfl sz_23 (.t .z) (.t (.s (.s .z))) rfl (ones rfl) (.s (.s .z)) (by simp only [List.length_cons, List.length_nil]; omega) (.c (.s .z) .n)) ?_
 refine FJ.sl rfl ?_
 refine FJ.schN ?_
 refine FJ.drawN (by kernel_rfl) ?_
 refine FJ.doneSN (res0 rfl) (.c .z (.c (.s .z) (.c .z .n))) ?_
 exact ⟨_, _, rfl, rfl⟩

set_option maxHeartbeats 1000000 in
set_option maxRecDepth 20000 in
theorem c_99 {w0 : World} {S0 : Bs} {d : DDisk} {cs0 : List Value} (h0 : kT_25.ro w0 (FF w0 S0) d cs0) (a : Int)  :
    Calls Try.prog 99 #[.agg cs0.toArray, .int .i64 a] w0 (TriPost w0 S0 (fun r l => r = .int .i64 (blockFault d a) ∧ l = [])) := by
 obtain ⟨u0_0, u0_1, rfl, h0_0, h0_1⟩ := kT_25_ro h0
 obtain ⟨A0_0, c0_0, rfl, hl0_0, hm0_0, hb0_0, he0_0⟩ := ro_form h0_0
 obtain ⟨A0_1, c0_1, rfl, hl0_1, hm0_1, hb0_1, he0_1⟩ := ro_form h0_1
 refine FJ.enter (N := 18) Try.func99 rfl rfl (by simp) [(0, .agg #[.slice A0_0 d.blocks.length c0_0, .slice A0_1 d.cache.length c0_1]), (1, .int .i64 a)] (by simp) (l0 := []) trivial ?_
 refine FJ.seq (FJ.region ?_)
 refine FJ.e (goes_list rfl) rfl (by decide) rfl (e_box (cs := [.slice A0_0 d.blocks.length c0_0, .slice A0_1 d.cache.length c0_1]) (n := 2) rfl (.t .z) rfl rfl) ?_
 rintro _ _ ⟨g3, rfl, rfl⟩
 refine FJ.ql rfl (q_assign rfl .c) (FJ.nil (FJ.then_ (FJ.seq (FJ.seq ?_))))
 refine FJ.region ?_
 refine FJ.ql rfl (q_loadA (cs := [.slice A0_0 d.blocks.length c0_0, .slice A0_1 d.cache.length c0_1]) rfl ag_25 sz_25 (.t (.s .z)) (WS.rows0 .z (fun i u h => by exact h))) ?_
 refine FJ.call (goes_list rfl) rfl (by decide) rfl (c_call rfl Try.func86 rfl rfl (args1 (.t .z))) .n (fun w1 S1 hs tr => c_86 (kT_25_mk d (tr.ctx h0_0) (tr.ctx h0_1))) ?_
 rintro _ _ ⟨rfl, rfl⟩
 refine FJ.cat .n ?_
 refine FJ.ql rfl (q_assign rfl (.t .z)) (FJ.nil (FJ.then_ (FJ.seq (FJ.region ?_))))
 refine FJ.ql rfl (q_move rfl (.t .z)) (FJ.ql rfl (q_neq rfl (.t .z) .c) (FJ.nil (FJ.then_ ?_)))
 refine FJ.condN (.t .z) (fun b4 => ?_) (fun b4 => ?_)
 refine FJ.seq (FJ.region (FJ.ql rfl (q_move rfl (.t (.s (.s .z)))) (FJ.er (.s4 (.s (.s .z))) (FJ.ql rfl (q_assign rfl (.t .z)) ?_))))
 refine FJ.nil (FJ.then_ (FJ.ret (FJ.thenR ?_)))
 refine FJ.doneS (res1 rfl .z) .n ?_
 exact ⟨by rw [blockFault_f (by assumption)], rfl⟩
 refine FJ.skip (FJ.then_ (FJ.seq (FJ.seq (FJ.region ?_))))
 refine FJ.ql rfl (q_move rfl (.t (.s4 (.s4 .z)))) (FJ.ql rfl (q_fieldAddr rfl (.t (.s4 (.s (.s (.s .z))))) (fun _ => fa_25_0 _ _)) (FJ.ql rfl (q_load rfl ag_22 (.t .z) (WS.row .z rfl)) ?_))
 refine FJ.call (goes_list rfl) rfl (by decide) rfl (c_call rfl Try.func143 rfl rfl (args1 (.t .z))) .n (fun w1 S1 hs tr => c_143 (tr.ctx h0_0)) ?_
 rintro _ _ ⟨rfl, rfl⟩
 refine FJ.cat .n ?_
 refine FJ.ql rfl (q_sub (c := (d.blocks.length : Int) - 1) rfl (.t .z) .c (wr (by omega) (by omega) (by omega))) ?_
 refine FJ.call (goes_list rfl) rfl (by decide) rfl (c_call rfl Try.func79 rfl rfl (args3 (.t (.s4 .z)) .c (.t .z))) .n (fun w1 S1 hs tr => c_79 _ _ _) ?_
 rintro _ _ ⟨rfl, rfl⟩
 refine FJ.cat .n ?_
 refine FJ.ql rfl (q_not rfl (.t .z)) (FJ.nil (FJ.then_ ?_))
 refine FJ.condN (.t .z) (fun b5 => ?_) (fun b5 => ?_)
 refine FJ.seq (FJ.region (FJ.er (.s4 (.s4 (.s4 .z))) (FJ.ql rfl (q_assign rfl .c) (FJ.nil ?_))))
 refine FJ.then_ (FJ.ret (FJ.thenR ?_))
 refine FJ.doneS (res1 rfl .z) .n ?_
 exact ⟨by rw [blockFault_3 (by assumption) (by assumption)], rfl⟩
 refine FJ.skip (FJ.then_ (FJ.seq (FJ.region (FJ.er (.s4 (.s4 (.s4 .z))) ?_))))
 refine FJ.ql rfl (q_assign rfl .c) (FJ.nil (FJ.then_ (FJ.ret ?_)))
 refine FJ.doneS (res1 rfl .z) .n ?_
 exact ⟨by rw [blockFault_0 (by assumption) (by assumption)], rfl⟩

set_option maxHeartbeats 1000000 in
set_option maxRecDepth 20000 in
theorem c_56 {w0 : World} {S0 : Bs} {d : DDisk} {cs0 : List Value} (h0 : kT_25.ro w0 (FF w0 S0) d cs0) (a : Int) {ws : (List Int)} {v2 : Value} (h2 : kSl_2.ro w0 (FF w0 S0) ws [v2])  :
    Calls Try.prog 56 #[.agg cs0.toArray, .int .i64 a, v2] w0 (TriPost w0 S0 (RA_27 (putBlock d a ws))) := by
 obtain ⟨u0_0, u0_1, rfl, h0_0, h0_1⟩ := kT_25_ro h0
 obtain ⟨A0_0, c0_0, rfl, hl0_0, hm0_0, hb0_0, he0_0⟩ := ro_form h0_0
 obtain ⟨A0_1, c0_1, rfl, hl0_1, hm0_1, hb0_1, he0_1⟩ := ro_form h0_1
 obtain ⟨A2, c2, rfl, hl2, hm2, hb2, he2⟩ := ro_form h2
 refine FJ.enter (N := 43) Try.func56 rfl rfl (by simp) [(0, .agg #[.slice A0_0 d.blocks.length c0_0, .slice A0_1 d.cache.length c0_1]), (1, .int .i64 a), (2, .slice A2 ws.length c2)] (by simp) (l0 := []) trivial ?_
 refine FJ.seq (FJ.region ?_)
 refine FJ.e (goes_list rfl) rfl (by decide) rfl (e_box (cs := [.slice A0_0 d.blocks.length c0_0, .slice A0_1 d.cache.length c0_1]) (n := 2) rfl (.t .z) rfl rfl) ?_
 rintro _ _ ⟨g4, rfl, rfl⟩
 refine FJ.e (goes_list rfl) rfl (by decide) rfl (e_alloc rfl z_27 rfl rfl) ?_
 rintro _ _ ⟨g5, rfl, rfl⟩
 refine FJ.nil (FJ.then_ (FJ.seq (FJ.seq (FJ.region ?_))))
 refine FJ.call (goes_list rfl) rfl (by decide) rfl (c_call rfl Try.func83 rfl rfl (args1 (.t (.s .z)))) .n (fun w1 S1 hs tr => c_83 (tr.ptr (.s .z) (kT_25_mk d (tr.ctx h0_0) (tr.ctx h0_1)))) ?_
 rintro _ _ ⟨rfl, rfl⟩
 refine FJ.cat .n ?_
 refine FJ.ql rfl (q_assign rfl (.t .z)) (FJ.nil (FJ.then_ (FJ.seq (FJ.region ?_))))
 refine FJ.ql rfl (q_move rfl (.t .z)) (FJ.ql rfl (q_neq rfl (.t .z) .c) (FJ.nil (FJ.then_ ?_)))
 refine FJ.condN (.t .z) (fun b6 => ?_) (fun b6 => ?_)
 refine FJ.seq (FJ.region (FJ.ql rfl (q_move rfl (.t (.s (.s .z)))) ?_))
 refine FJ.ql rfl (q_build (ps := [(0, .int .i64 (diskFault d))]) (cs := [.int .i64 (diskFault d), .slice none 0 0, .slice none 0 0]) rfl bl_27 (by intro act hact; simp only [List.map_toArray, List.map_cons, List.map_nil, (show Val _ _ _ from (.t .z)) act hact]) rfl) ?_
 refine FJ.es (goes_list rfl) rfl (es_store (off := 0) (cs := [.int .i64 (diskFault d), .slice none 0 0, .slice none 0 0]) rfl sz_27 (.t (.s4 (.s (.s .z)))) (.t .z) rfl (ones rfl) .z (Nat.le_of_ble_eq_true rfl) (.c .z (.c (.s .z) (.c (.s (.s .z)) .n)))) ?_
 refine FJ.nil (FJ.then_ (FJ.ret (FJ.thenR ?_)))
 refine FJ.add (c := ownA kSl_40 [] [.slice none 0 0]) (fun w S => own_nil w S none) ?_
 refine FJ.add (c := ownA kSl_57 [] [.slice none 0 0]) (fun w S => own_nil w S none) ?_
 refine FJ.doneS (resC (cs := [.int .i64 (diskFault d), .slice none 0 0, .slice none 0 0]) rfl (.s4 (.s (.s .z))) ag_27 sz_27 (WS.rows0 (cs := [.int .i64 (diskFault d), .slice none 0 0, .slice none 0 0]) (.s (.s .z)) (fun _ _ h => h))) (.c (.s .z) (.c .z .n)) ?_
 rw [putBlock_f (by assumption)]
 exact ⟨_, _, rfl, rfl⟩
 refine FJ.skip (FJ.then_ (FJ.seq (FJ.seq (FJ.region ?_))))
 refine FJ.ql rfl (q_move rfl (.t (.s4 (.s (.s (.s .z)))))) ?_
 refine FJ.call (goes_list rfl) rfl (by decide) rfl (c_call rfl Try.func104 rfl rfl (args2 (.t (.s4 (.s (.s .z)))) (.t .z))) .n (fun w1 S1 hs tr => c_104 (tr.ptr (.s .z) (kT_25_mk d (tr.ctx h0_0) (tr.ctx h0_1))) _) ?_
 rintro _ _ ⟨rfl, rfl⟩
 refine FJ.cat .n ?_
 refine FJ.ql rfl (q_not rfl (.t .z)) (FJ.nil (FJ.then_ ?_))
 refine FJ.condN (.t .z) (fun b9 => ?_) (fun b9 => ?_)
 refine FJ.seq (FJ.region ?_)
 refine FJ.ql rfl (q_build (ps := [(0, .int .i64 3)]) (cs := [.int .i64 3, .slice none 0 0, .slice none 0 0]) rfl bl_27 (by intro act hact; simp only [List.map_toArray, List.map_cons, List.map_nil, (show Val _ _ _ from .c) act hact]) rfl) ?_
 refine FJ.es (goes_list rfl) rfl (es_store (off := 0) (cs := [.int .i64 3, .slice none 0 0, .slice none 0 0]) rfl sz_27 (.t (.s4 (.s4 .z))) (.t .z) rfl (ones rfl) .z (Nat.le_of_ble_eq_true rfl) (.c .z (.c (.s .z) (.c (.s (.s .z)) .n)))) ?_
 refine FJ.nil (FJ.then_ (FJ.ret (FJ.thenR ?_)))
 refine FJ.add (c := ownA kSl_40 [] [.slice none 0 0]) (fun w S => own_nil w S none) ?_
 refine FJ.add (c := ownA kSl_57 [] [.slice none 0 0]) (fun w S => own_nil w S none) ?_
 refine FJ.doneS (resC (cs := [.int .i64 3, .slice none 0 0, .slice none 0 0]) rfl (.s4 (.s4 .z)) ag_27 sz_27 (WS.rows0 (cs := [.int .i64 3, .slice none 0 0, .slice none 0 0]) (.s (.s .z)) (fun _ _ h => h))) (.c (.s .z) (.c .z .n)) ?_
 rw [putBlock_3 (by assumption) (by assumption)]
 exact ⟨_, _, rfl, rfl⟩
 refine FJ.skip (FJ.then_ (FJ.seq (FJ.seq (FJ.region ?_))))
 refine FJ.ql rfl (q_move rfl (.t (.s4 (.s4 (.s (.s (.s .z))))))) ?_
 refine FJ.call (goes_list rfl) rfl (by decide) rfl (c_call rfl Try.func117 rfl rfl (args1 (.t .z))) .n (fun w1 S1 hs tr => c_117 (tr.ctx h2)) ?_
 rintro _ _ ⟨rfl, rfl⟩
 refine FJ.cat .n ?_
 refine FJ.ql rfl (q_assign rfl (.t .z)) (FJ.nil (FJ.then_ (FJ.seq (FJ.region ?_))))
 refine FJ.ql rfl (q_move rfl (.t .z)) (FJ.ql rfl (q_neq rfl (.t .z) .c) (FJ.nil (FJ.then_ ?_)))
 refine FJ.condN (.t .z) (fun b12 => ?_) (fun b12 => ?_)
 refine FJ.seq (FJ.region (FJ.ql rfl (q_move rfl (.t (.s (.s .z)))) ?_))
 refine FJ.ql rfl (q_build (ps := [(0, .int .i64 (wordsFault ws))]) (cs := [.int .i64 (wordsFault ws), .slice none 0 0, .slice none 0 0]) rfl bl_27 (by intro act hact; simp only [List.map_toArray, List.map_cons, List.map_nil, (show Val _ _ _ from (.t .z)) act hact]) rfl) ?_
 refine FJ.es (goes_list rfl) rfl (es_store (off := 0) (cs := [.int .i64 (wordsFault ws), .slice none 0 0, .slice none 0 0]) rfl sz_27 (.t (.s4 (.s4 (.s4 (.s (.s .z)))))) (.t .z) rfl (ones rfl) .z (Nat.le_of_ble_eq_true rfl) (.c .z (.c (.s .z) (.c (.s (.s .z)) .n)))) ?_
 refine FJ.nil (FJ.then_ (FJ.ret (FJ.thenR ?_)))
 refine FJ.add (c := ownA kSl_40 [] [.slice none 0 0]) (fun w S => own_nil w S none) ?_
 refine FJ.add (c := ownA kSl_57 [] [.slice none 0 0]) (fun w S => own_nil w S none) ?_
 refine FJ.doneS (resC (cs := [.int .i64 (wordsFault ws), .slice none 0 0, .slice none 0 0]) rfl (.s4 (.s4 (.s4 (.s (.s .z))))) ag_27 sz_27 (WS.rows0 (cs := [.int .i64 (wordsFault ws), .slice none 0 0, .slice none 0 0]) (.s (.s .z)) (fun _ _ h => h))) (.c (.s .z) (.c .z .n)) ?_
 rw [putBlock_w (by assumption) (by assumption) (by assumption)]
 exact ⟨_, _, rfl, rfl⟩
 refine FJ.skip (FJ.then_ (FJ.seq (FJ.seq (FJ.region ?_))))
 refine FJ.ql rfl (q_fieldAddr rfl (.t (.s4 (.s4 (.s4 (.s .z))))) (fun _ => fa_25_1 _ _)) (FJ.ql rfl (q_load rfl ag_23 (.t .z) (WS.row (.s .z) rfl)) (FJ.ql rfl (q_len rfl u_23 (.t .z)) (FJ.ql rfl (q_geq rfl (.t .z) .c) (FJ.nil ?_))))
 refine FJ.then_ ?_
 refine FJ.condP (.t .z) (fun b15 => ?_) (fun b15 => ?_)
 refine FJ.seq (FJ.region ?_)
 refine FJ.ql rfl (q_build (ps := [(0, .int .i64 2)]) (cs := [.int .i64 2, .slice none 0 0, .slice none 0 0]) rfl bl_27 (by intro act hact; simp only [List.map_toArray, List.map_cons, List.map_nil, (show Val _ _ _ from .c) act hact]) rfl) ?_
 refine FJ.es (goes_list rfl) rfl (es_store (off := 0) (cs := [.int .i64 2, .slice none 0 0, .slice none 0 0]) rfl sz_27 (.t (.s16 (.s .z))) (.t .z) rfl (ones rfl) .z (Nat.le_of_ble_eq_true rfl) (.c .z (.c (.s .z) (.c (.s (.s .z)) .n)))) ?_
 refine FJ.nil (FJ.then_ (FJ.ret (FJ.thenR ?_)))
 refine FJ.add (c := ownA kSl_40 [] [.slice none 0 0]) (fun w S => own_nil w S none) ?_
 refine FJ.add (c := ownA kSl_57 [] [.slice none 0 0]) (fun w S => own_nil w S none) ?_
 refine FJ.doneS (resC (cs := [.int .i64 2, .slice none 0 0, .slice none 0 0]) rfl (.s16 (.s .z)) ag_27 sz_27 (WS.rows0 (cs := [.int .i64 2, .slice none 0 0, .slice none 0 0]) (.s (.s .z)) (fun _ _ h => h))) (.c (.s .z) (.c .z .n)) ?_
 rw [putBlock_2 (by assumption) (by assumption) (by assumption) (by omega)]
 exact ⟨_, _, rfl, rfl⟩
 refine FJ.skip (FJ.then_ (FJ.seq (FJ.region ?_)))
 refine FJ.ql rfl (q_loadA (cs := [.slice A0_0 d.blocks.length c0_0, .slice A0_1 d.cache.length c0_1]) rfl ag_25 sz_25 (.t (.s16 (.s .z))) (WS.rows0 (.s .z) (fun i u h => by exact h))) ?_
 refine FJ.call (goes_list rfl) rfl (by decide) rfl (c_call rfl Try.func118 rfl rfl (args1 (.t .z))) .n (fun w1 S1 hs tr => c_118 (kT_25_mk d (tr.ctx h0_0) (tr.ctx h0_1))) ?_
 rintro _ _ ⟨v18, v20, rfl, rfl⟩
 refine FJ.cat (.c (.c .n)) ?_
 refine FJ.know (WS.oform .z) ?_
 rintro ⟨Ao22, co22, rfl, hlo22, hmo22, hbo22⟩
 refine FJ.know (WS.oform (.s .z)) ?_
 rintro ⟨Ao23, co23, rfl, hlo23, hmo23, hbo23⟩
 refine FJ.e (goes_list rfl) rfl (by decide) rfl (e_alloc rfl z_25 rfl rfl) ?_
 rintro _ _ ⟨g24, rfl, rfl⟩
 refine FJ.es (goes_list rfl) rfl (es_store (off := 0) (cs := [.slice Ao22 d.blocks.length co22, .slice Ao23 d.cache.length co23]) rfl sz_25 (.t .z) (.t (.s .z)) rfl (ones rfl) .z (Nat.le_of_ble_eq_true rfl) (.c .z (.c (.s .z) .n))) ?_
 refine FJ.nil (FJ.then_ (FJ.seq ?_))
 refine FJ.sel (.c (.s .z) (.c (.s .z) (.c .z (.c .z (.c .z .n))))) ?_
 refine FJ.draw [rowA g24 25 2 1 [.slice Ao22 d.blocks.length co22, .slice Ao23 d.cache.length co23], rowA g5 27 3 1 [.int .i64 0, .slice none 0 0, .slice none 0 0], rowA g4 25 2 1 [.slice A0_0 d.blocks.length c0_0, .slice A0_1 d.cache.length c0_1]] 9 (by kernel_rfl) ?_
 refine FJ.sch [(0, true), (1, true), (2, true), (3, true), (4, false), (5, true), (6, false), (7, false), (8, true), (9, false)] 0 #[true, true, true, true, true, true, true, true, true, true] (by rfl) (by kernel_rfl) ?_
 refine FJ.dq rfl rfl rfl (by decide) rfl (.s (.s .z)) (q_fieldAddr rfl (.t .z) (fun _ => fa_25_1 _ _)) (FJ.dq rfl rfl rfl (by decide) rfl (.s (.s .z)) (q_load rfl ag_23 (.t .z) (WS.row .z rfl)) (FJ.dq rfl rfl rfl (by decide) rfl (.s (.s .z)) (q_move rfl (.t (.s16 (.s4 (.s4 .z))))) (FJ.dq rfl rfl rfl (by decide) rfl (.s (.s .z)) (q_move rfl (.t (.s16 (.s4 (.s4 (.s (.s .z))))))) ?_)))
 refine FJ.call (goes_sch rfl rfl) rfl (by decide) rfl (c_call rfl Try.func105 rfl rfl (args1 (.t .z))) .n (fun w1 S1 hs tr => c_105 (tr.ctx h2)) ?_
 rintro _ _ rfl
 refine FJ.cat (.c .n) ?_
 refine FJ.know (WS.oform .z) ?_
 rintro ⟨Ao26, co26, rfl, hlo26, hmo26, hbo26⟩
 refine FJ.sk (.s (.s (.s .z))) ?_
 refine FJ.dq rfl rfl rfl (by decide) rfl (.s (.s (.s .z))) (q_build (ps := [(0, .int .i64 a), (1, .slice Ao26 ws.length co26)]) (cs := [.int .i64 a, .slice Ao26 ws.length co26]) rfl bl_57 (by intro act hact; simp only [List.map_toArray, List.map_cons, List.map_nil, (show Val _ _ _ from (.t (.s (.s .z)))) act hact, (show Val _ _ _ from (.t .z)) act hact]) rfl) ?_
 refine FJ.e (goes_sch rfl rfl) rfl (by decide) rfl (e_buildSliceL (ps := [(0, .agg #[.int .i64 a, .slice Ao26 ws.length co26])]) (cs := [.int .i64 a, .slice Ao26 ws.length co26]) rfl u_23 (inz inf_57) (by decide) (by intro act hact; simp only [List.map_toArray, List.map_cons, List.map_nil, (show Val _ _ _ from (.t .z)) act hact]) rfl rfl (by decide) rfl rfl) ?_
 rintro _ _ ⟨g27, rfl, rfl⟩
 refine FJ.sk (.s4 .z) ?_
 refine FJ.turns (c := ownA kT_57 (⟨a, ws⟩ : DPut) [.int .i64 a, .slice Ao26 ws.length co26]) (.c (.s .z) .n) (fun w S h => kT_57_omk (⟨a, ws⟩ : DPut) h) ?_
 refine FJ.e (goes_sch rfl rfl) rfl (by decide) rfl (e_append1 rfl u_23 inf_57 rfl (.t (.s4 (.s .z))) (.t .z) (.c (.s (.s (.s .z))) (.c (.s .z) (.c .z .n))) (by first | omega | (simp only [List.length_append, List.length_take, List.length_nil, List.length_cons]; omega)) (by first | omega | (simp only [List.length_append, List.length_take, List.length_nil, List.length_cons]; omega))) ?_
 rintro _ _ rfl
 refine FJ.know (WS.oform .z) ?_
 rintro ⟨Ao29, co29, rfl, hlo29, hmo29, hbo29⟩
 refine FJ.sk (.s (.s .z)) ?_
 refine FJ.dq rfl rfl rfl (by decide) rfl (.s (.s .z)) (q_fieldAddr rfl (.t (.s4 (.s4 .z))) (fun _ => fa_25_1 _ _)) ?_
 refine FJ.es (goes_sch rfl rfl) rfl (es_store (off := 1) (cs := [.slice Ao29 (d.cache ++ [(⟨a, ws⟩ : DPut)]).length co29]) rfl sz_23 (.t .z) (.t (.s .z)) rfl (ones rfl) (.s (.s .z)) (Nat.le_of_ble_eq_true rfl) (.c (.s .z) .n)) ?_
 refine FJ.sl rfl ?_
 refine FJ.schN ?_
 refine FJ.drawN (by kernel_rfl) ?_
 refine FJ.then_ (FJ.seq (FJ.region ?_))
 refine FJ.ql rfl (q_loadA (cs := [.slice Ao22 d.blocks.length co22, .slice Ao29 (d.cache ++ [(⟨a, ws⟩ : DPut)]).length co29]) rfl ag_25 sz_25 (.t (.s4 (.s4 (.s .z)))) (WS.rows0 .z (fun i u h => by exact h))) ?_
 refine FJ.ql rfl (q_build (ps := [(1, .agg #[.slice Ao22 d.blocks.length co22, .slice Ao29 (d.cache ++ [(⟨a, ws⟩ : DPut)]).length co29])]) (cs := [.int .i64 0, .slice Ao22 d.blocks.length co22, .slice Ao29 (d.cache ++ [(⟨a, ws⟩ : DPut)]).length co29]) rfl bl_27 (by intro act hact; simp only [List.map_toArray, List.map_cons, List.map_nil, (show Val _ _ _ from (.t .z)) act hact]) rfl) ?_
 refine FJ.es (goes_list rfl) rfl (es_store (off := 0) (cs := [.int .i64 0, .slice Ao22 d.blocks.length co22, .slice Ao29 (d.cache ++ [(⟨a, ws⟩ : DPut)]).length co29]) rfl sz_27 (.t (.s16 (.s4 (.s4 (.s4 (.s (.s .z))))))) (.t .z) rfl (ones rfl) (.s (.s (.s .z))) (Nat.le_of_ble_eq_true rfl) (.c .z (.c (.s .z) (.c (.s (.s .z)) .n)))) ?_
 refine FJ.nil (FJ.then_ (FJ.ret ?_))
 refine FJ.doneS (resC (cs := [.int .i64 0, .slice Ao22 d.blocks.length co22, .slice Ao29 (d.cache ++ [(⟨a, ws⟩ : DPut)]).length co29]) rfl (.s16 (.s4 (.s4 (.s4 (.s (.s .z)))))) ag_27 sz_27 (WS.rows0 (cs := [.int .i64 0, .slice Ao22 d.blocks.length co22, .slice Ao29 (d.cache ++ [(⟨a, ws⟩ : DPut)]).length co29]) .z (fun _ _ h => h))) (.c (.s (.s (.s .z))) (.c (.s (.s .z)) .n)) ?_
 rw [putBlock_0 (by assumption) (by assumption) (by assumption) (by omega)]
 exact ⟨_, _, rfl, rfl⟩

set_option maxHeartbeats 1000000 in
set_option maxRecDepth 20000 in
theorem c_41 {w0 : World} {S0 : Bs} {d : DDisk} {cs0 : List Value} (h0 : kT_25.ro w0 (FF w0 S0) d cs0) (a : Int) {ws : (List Int)} {v2 : Value} (h2 : kSl_2.ro w0 (FF w0 S0) ws [v2])  :
    Calls Try.prog 41 #[.agg cs0.toArray, .int .i64 a, v2] w0 (TriPost w0 S0 (RA_27 (putBlock d a ws))) := by
 obtain ⟨u0_0, u0_1, rfl, h0_0, h0_1⟩ := kT_25_ro h0
 obtain ⟨A0_0, c0_0, rfl, hl0_0, hm0_0, hb0_0, he0_0⟩ := ro_form h0_0
 obtain ⟨A0_1, c0_1, rfl, hl0_1, hm0_1, hb0_1, he0_1⟩ := ro_form h0_1
 obtain ⟨A2, c2, rfl, hl2, hm2, hb2, he2⟩ := ro_form h2
 refine FJ.enter (N := 35) Try.func41 rfl rfl (by simp) [(0, .agg #[.slice A0_0 d.blocks.length c0_0, .slice A0_1 d.cache.length c0_1]), (1, .int .i64 a), (2, .slice A2 ws.length c2)] (by simp) (l0 := []) trivial ?_
 refine FJ.seq (FJ.region ?_)
 refine FJ.e (goes_list rfl) rfl (by decide) rfl (e_box (cs := [.slice A0_0 d.blocks.length c0_0, .slice A0_1 d.cache.length c0_1]) (n := 2) rfl (.t .z) rfl rfl) ?_
 rintro _ _ ⟨g4, rfl, rfl⟩
 refine FJ.e (goes_list rfl) rfl (by decide) rfl (e_alloc rfl z_27 rfl rfl) ?_
 rintro _ _ ⟨g5, rfl, rfl⟩
 refine FJ.nil (FJ.then_ (FJ.seq (FJ.seq (FJ.region ?_))))
 refine FJ.ql rfl (q_loadA (cs := [.slice A0_0 d.blocks.length c0_0, .slice A0_1 d.cache.length c0_1]) rfl ag_25 sz_25 (.t (.s .z)) (WS.rows0 (.s .z) (fun i u h => by exact h))) ?_
 refine FJ.ql rfl (q_move rfl (.t (.s4 .z))) ?_
 refine FJ.call (goes_list rfl) rfl (by decide) rfl (c_call rfl Try.func99 rfl rfl (args2 (.t (.s .z)) (.t .z))) .n (fun w1 S1 hs tr => c_99 (kT_25_mk d (tr.ctx h0_0) (tr.ctx h0_1)) _) ?_
 rintro _ _ ⟨rfl, rfl⟩
 refine FJ.cat .n ?_
 refine FJ.ql rfl (q_assign rfl (.t .z)) (FJ.nil (FJ.then_ (FJ.seq (FJ.region ?_))))
 refine FJ.ql rfl (q_move rfl (.t .z)) (FJ.ql rfl (q_neq rfl (.t .z) .c) (FJ.nil (FJ.then_ ?_)))
 refine FJ.condN (.t .z) (fun b6 => ?_) (fun b6 => ?_)
 refine FJ.seq (FJ.region (FJ.ql rfl (q_move rfl (.t (.s (.s .z)))) ?_))
 refine FJ.ql rfl (q_build (ps := [(0, .int .i64 (blockFault d a))]) (cs := [.int .i64 (blockFault d a), .slice none 0 0, .slice none 0 0]) rfl bl_27 (by intro act hact; simp only [List.map_toArray, List.map_cons, List.map_nil, (show Val _ _ _ from (.t .z)) act hact]) rfl) ?_
 refine FJ.es (goes_list rfl) rfl (es_store (off := 0) (cs := [.int .i64 (blockFault d a), .slice none 0 0, .slice none 0 0]) rfl sz_27 (.t (.s4 (.s4 .z))) (.t .z) rfl (ones rfl) .z (Nat.le_of_ble_eq_true rfl) (.c .z (.c (.s .z) (.c (.s (.s .z)) .n)))) ?_
 refine FJ.nil (FJ.then_ (FJ.ret (FJ.thenR ?_)))
 refine FJ.add (c := ownA kSl_40 [] [.slice none 0 0]) (fun w S => own_nil w S none) ?_
 refine FJ.add (c := ownA kSl_57 [] [.slice none 0 0]) (fun w S => own_nil w S none) ?_
 refine FJ.doneS (resC (cs := [.int .i64 (blockFault d a), .slice none 0 0, .slice none 0 0]) rfl (.s4 (.s4 .z)) ag_27 sz_27 (WS.rows0 (cs := [.int .i64 (blockFault d a), .slice none 0 0, .slice none 0 0]) (.s (.s .z)) (fun _ _ h => h))) (.c (.s .z) (.c .z .n)) ?_
 rw [putBlock_b (by assumption)]
 exact ⟨_, _, rfl, rfl⟩
 have h60 := diskFault_60 (blockFault_ok (show blockFault d a = 0 by assumption)).1
 refine FJ.skip (FJ.then_ (FJ.seq (FJ.seq (FJ.region ?_))))
 refine FJ.ql rfl (q_move rfl (.t (.s4 (.s4 (.s (.s .z)))))) ?_
 refine FJ.call (goes_list rfl) rfl (by decide) rfl (c_call rfl Try.func102 rfl rfl (args1 (.t .z))) .n (fun w1 S1 hs tr => c_102 (tr.ctx h2)) ?_
 rintro _ _ ⟨rfl, rfl⟩
 refine FJ.cat .n ?_
 refine FJ.ql rfl (q_assign rfl (.t .z)) (FJ.nil (FJ.then_ (FJ.seq (FJ.region ?_))))
 refine FJ.ql rfl (q_move rfl (.t .z)) (FJ.ql rfl (q_neq rfl (.t .z) .c) (FJ.nil (FJ.then_ ?_)))
 refine FJ.condN (.t .z) (fun b9 => ?_) (fun b9 => ?_)
 refine FJ.seq (FJ.region (FJ.ql rfl (q_move rfl (.t (.s (.s .z)))) ?_))
 refine FJ.ql rfl (q_build (ps := [(0, .int .i64 (wordsFault ws))]) (cs := [.int .i64 (wordsFault ws), .slice none 0 0, .slice none 0 0]) rfl bl_27 (by intro act hact; simp only [List.map_toArray, List.map_cons, List.map_nil, (show Val _ _ _ from (.t .z)) act hact]) rfl) ?_
 refine FJ.es (goes_list rfl) rfl (es_store (off := 0) (cs := [.int .i64 (wordsFault ws), .slice none 0 0, .slice none 0 0]) rfl sz_27 (.t (.s4 (.s4 (.s4 (.s .z))))) (.t .z) rfl (ones rfl) .z (Nat.le_of_ble_eq_true rfl) (.c .z (.c (.s .z) (.c (.s (.s .z)) .n)))) ?_
 refine FJ.nil (FJ.then_ (FJ.ret (FJ.thenR ?_)))
 refine FJ.add (c := ownA kSl_40 [] [.slice none 0 0]) (fun w S => own_nil w S none) ?_
 refine FJ.add (c := ownA kSl_57 [] [.slice none 0 0]) (fun w S => own_nil w S none) ?_
 refine FJ.doneS (resC (cs := [.int .i64 (wordsFault ws), .slice none 0 0, .slice none 0 0]) rfl (.s4 (.s4 (.s4 (.s .z)))) ag_27 sz_27 (WS.rows0 (cs := [.int .i64 (wordsFault ws), .slice none 0 0, .slice none 0 0]) (.s (.s .z)) (fun _ _ h => h))) (.c (.s .z) (.c .z .n)) ?_
 rw [putBlock_w (blockFault_ok (show blockFault d a = 0 by assumption)).1 (blockFault_ok (show blockFault d a = 0 by assumption)).2 (by assumption)]
 exact ⟨_, _, rfl, rfl⟩
 refine FJ.skip (FJ.then_ (FJ.seq (FJ.seq (FJ.region ?_))))
 refine FJ.ql rfl (q_fieldAddr rfl (.t (.s4 (.s4 (.s4 .z)))) (fun _ => fa_25_1 _ _)) (FJ.ql rfl (q_load rfl ag_23 (.t .z) (WS.row (.s .z) rfl)) (FJ.ql rfl (q_len rfl u_23 (.t .z)) (FJ.ql rfl (q_eql rfl (.t .z) .c) (FJ.nil ?_))))
 refine FJ.then_ ?_
 refine FJ.condP (.t .z) (fun b12 => ?_) (fun b12 => ?_)
 refine FJ.seq (FJ.region ?_)
 refine FJ.ql rfl (q_build (ps := [(0, .int .i64 2)]) (cs := [.int .i64 2, .slice none 0 0, .slice none 0 0]) rfl bl_27 (by intro act hact; simp only [List.map_toArray, List.map_cons, List.map_nil, (show Val _ _ _ from .c) act hact]) rfl) ?_
 refine FJ.es (goes_list rfl) rfl (es_store (off := 0) (cs := [.int .i64 2, .slice none 0 0, .slice none 0 0]) rfl sz_27 (.t (.s16 .z)) (.t .z) rfl (ones rfl) .z (Nat.le_of_ble_eq_true rfl) (.c .z (.c (.s .z) (.c (.s (.s .z)) .n)))) ?_
 refine FJ.nil (FJ.then_ (FJ.ret (FJ.thenR ?_)))
 refine FJ.add (c := ownA kSl_40 [] [.slice none 0 0]) (fun w S => own_nil w S none) ?_
 refine FJ.add (c := ownA kSl_57 [] [.slice none 0 0]) (fun w S => own_nil w S none) ?_
 refine FJ.doneS (resC (cs := [.int .i64 2, .slice none 0 0, .slice none 0 0]) rfl (.s16 .z) ag_27 sz_27 (WS.rows0 (cs := [.int .i64 2, .slice none 0 0, .slice none 0 0]) (.s (.s .z)) (fun _ _ h => h))) (.c (.s .z) (.c .z .n)) ?_
 rw [putBlock_2 (blockFault_ok (show blockFault d a = 0 by assumption)).1 (blockFault_ok (show blockFault d a = 0 by assumption)).2 (by assumption) (by omega)]
 exact ⟨_, _, rfl, rfl⟩
 refine FJ.skip (FJ.then_ (FJ.seq (FJ.region ?_)))
 refine FJ.ql rfl (q_loadA (cs := [.slice A0_0 d.blocks.length c0_0, .slice A0_1 d.cache.length c0_1]) rfl ag_25 sz_25 (.t (.s16 .z)) (WS.rows0 (.s .z) (fun i u h => by exact h))) ?_
 refine FJ.call (goes_list rfl) rfl (by decide) rfl (c_call rfl Try.func96 rfl rfl (args1 (.t .z))) .n (fun w1 S1 hs tr => c_96 (kT_25_mk d (tr.ctx h0_0) (tr.ctx h0_1))) ?_
 rintro _ _ ⟨v15, v17, rfl, rfl⟩
 refine FJ.cat (.c (.c .n)) ?_
 refine FJ.know (WS.oform .z) ?_
 rintro ⟨Ao19, co19, rfl, hlo19, hmo19, hbo19⟩
 refine FJ.know (WS.oform (.s .z)) ?_
 rintro ⟨Ao20, co20, rfl, hlo20, hmo20, hbo20⟩
 refine FJ.e (goes_list rfl) rfl (by decide) rfl (e_alloc rfl z_25 rfl rfl) ?_
 rintro _ _ ⟨g21, rfl, rfl⟩
 refine FJ.es (goes_list rfl) rfl (es_store (off := 0) (cs := [.slice Ao19 d.blocks.length co19, .slice Ao20 d.cache.length co20]) rfl sz_25 (.t .z) (.t (.s .z)) rfl (ones rfl) .z (Nat.le_of_ble_eq_true rfl) (.c .z (.c (.s .z) .n))) ?_
 refine FJ.nil (FJ.then_ (FJ.seq (FJ.region (FJ.ql rfl (q_move rfl (.t (.s16 (.s4 (.s .z))))) ?_))))
 refine FJ.ql rfl (q_move rfl (.t (.s16 (.s4 (.s (.s (.s .z))))))) ?_
 refine FJ.call (goes_list rfl) rfl (by decide) rfl (c_call rfl Try.func103 rfl rfl (args3 (.t (.s (.s .z))) (.t (.s .z)) (.t .z))) (.c .z (.c .z (.c .z .n))) (fun w1 S1 hs tr => c_103 (d := d) _ (tr.ctx h2) hs (by omega)) ?_
 rintro _ _ ⟨v22, v24, rfl, rfl⟩
 refine FJ.cat (.c (.c (.c .n))) ?_
 refine FJ.ceq (x' := (⟨(d).blocks, (d).cache ++ [⟨a, ws⟩]⟩ : DDisk).blocks) (.s .z) rfl ?_
 refine FJ.know (WS.oform .z) ?_
 rintro ⟨Ao26, co26, rfl, hlo26, hmo26, hbo26⟩
 refine FJ.ceq (x' := (⟨(d).blocks, (d).cache ++ [⟨a, ws⟩]⟩ : DDisk).cache) (.s (.s .z)) rfl ?_
 refine FJ.know (WS.oform .z) ?_
 rintro ⟨Ao27, co27, rfl, hlo27, hmo27, hbo27⟩
 refine FJ.nil (FJ.then_ (FJ.seq (FJ.region ?_)))
 refine FJ.ql rfl (q_loadA (cs := [.slice Ao26 ((⟨(d).blocks, (d).cache ++ [⟨a, ws⟩]⟩ : DDisk).blocks).length co26, .slice Ao27 ((⟨(d).blocks, (d).cache ++ [⟨a, ws⟩]⟩ : DDisk).cache).length co27]) rfl ag_25 sz_25 (.t (.s (.s (.s .z)))) (WS.rows0 (.s (.s .z)) (fun i u h => by exact h))) ?_
 refine FJ.ql rfl (q_build (ps := [(1, .agg #[.slice Ao26 ((⟨(d).blocks, (d).cache ++ [⟨a, ws⟩]⟩ : DDisk).blocks).length co26, .slice Ao27 ((⟨(d).blocks, (d).cache ++ [⟨a, ws⟩]⟩ : DDisk).cache).length co27])]) (cs := [.int .i64 0, .slice Ao26 ((⟨(d).blocks, (d).cache ++ [⟨a, ws⟩]⟩ : DDisk).blocks).length co26, .slice Ao27 ((⟨(d).blocks, (d).cache ++ [⟨a, ws⟩]⟩ : DDisk).cache).length co27]) rfl bl_27 (by intro act hact; simp only [List.map_toArray, List.map_cons, List.map_nil, (show Val _ _ _ from (.t .z)) act hact]) rfl) ?_
 refine FJ.es (goes_list rfl) rfl (es_store (off := 0) (cs := [.int .i64 0, .slice Ao26 ((⟨(d).blocks, (d).cache ++ [⟨a, ws⟩]⟩ : DDisk).blocks).length co26, .slice Ao27 ((⟨(d).blocks, (d).cache ++ [⟨a, ws⟩]⟩ : DDisk).cache).length co27]) rfl sz_27 (.t (.s16 (.s4 (.s (.s (.s .z)))))) (.t .z) rfl (ones rfl) (.s (.s (.s .z))) (Nat.le_of_ble_eq_true rfl) (.c .z (.c (.s .z) (.c (.s (.s .z)) .n)))) ?_
 refine FJ.nil (FJ.then_ (FJ.ret ?_))
 refine FJ.doneS (resC (cs := [.int .i64 0, .slice Ao26 ((⟨(d).blocks, (d).cache ++ [⟨a, ws⟩]⟩ : DDisk).blocks).length co26, .slice Ao27 ((⟨(d).blocks, (d).cache ++ [⟨a, ws⟩]⟩ : DDisk).cache).length co27]) rfl (.s16 (.s4 (.s (.s (.s .z))))) ag_27 sz_27 (WS.rows0 (cs := [.int .i64 0, .slice Ao26 ((⟨(d).blocks, (d).cache ++ [⟨a, ws⟩]⟩ : DDisk).blocks).length co26, .slice Ao27 ((⟨(d).blocks, (d).cache ++ [⟨a, ws⟩]⟩ : DDisk).cache).length co27]) .z (fun _ _ h => h))) (.c (.s (.s .z)) (.c (.s .z) .n)) ?_
 rw [putBlock_0 (blockFault_ok (show blockFault d a = 0 by assumption)).1 (blockFault_ok (show blockFault d a = 0 by assumption)).2 (by assumption) (by omega)]
 exact ⟨_, _, rfl, rfl⟩

end Go.Proofs.Ytkmcpcahbfdohaa

/- What is proved: contracts of functions, one a function. No condition. -/
import Derived.Test.YtkmcpcahbfdohaaW10
namespace Go.Proofs.Ytkmcpcahbfdohaa
open Go Go.RowKit
set_option linter.unusedVariables false
set_option linter.unusedSimpArgs false
set_option maxHeartbeats 1000000 in
set_option maxRecDepth 20000 in
theorem c_105 {w0 : World} {S0 : Bs} {x : (List Int)} {v0 : Value} (h0 : kSl_2.ro w0 (FF w0 S0) x [v0])  :
    Calls Try.prog 105 #[v0] w0 (TriPost w0 S0 (fun r l => l = [ownA kSl_2 x [r]])) := by
 obtain ⟨A0, c0, rfl, hl0, hm0, hb0, he0⟩ := ro_form h0
 refine FJ.enter (N := 6) Try.func105 rfl rfl (by simp) [(0, .slice A0 x.length c0)] (by simp) (l0 := []) trivial ?_
 refine FJ.seq (FJ.region (FJ.ql rfl (q_assign rfl .c) (FJ.nil (FJ.then_ ?_))))
 refine FJ.seq (FJ.region ?_)
 refine FJ.e (goes_list rfl) rfl (by decide) rfl (e_buildNil rfl u_40 (inz inf_2)) ?_
 rintro _ _ ⟨g2, rfl, rfl⟩
 refine FJ.ql rfl (q_move rfl (.t (.s (.s .z)))) ?_
 refine FJ.add (c := ownA kSl_2 ([] : (List Int)) [.slice (some ⟨g2, 0, none⟩) 0 0]) (fun w S => own_nil w S _) ?_
 refine FJ.e (goes_list rfl) rfl (by decide) rfl (e_appendF (flat_scalar _ _ _) rfl u_40 inf_2 rfl (.t (.s .z)) (.t .z) (.c .z .n) (fun w1 S1 tr => tr.ctx h0) (by first | omega | (simp only [List.length_append, List.length_take, List.length_nil, List.length_cons]; omega)) (by first | omega | (simp only [List.length_append, List.length_take, List.length_nil, List.length_cons]; omega))) ?_
 rintro _ _ rfl
 refine FJ.ceq .z (List.nil_append _) ?_
 refine FJ.know (WS.oform .z) ?_
 rintro ⟨Ao4, co4, rfl, hlo4, hmo4, hbo4⟩
 refine FJ.er (.s (.s (.s .z))) (FJ.ql rfl (q_assign rfl (.t .z)) (FJ.nil (FJ.then_ (FJ.ret ?_))))
 refine FJ.doneS (res1 rfl .z) (.c .z .n) ?_
 rfl

set_option maxHeartbeats 1000000 in
set_option maxRecDepth 20000 in
theorem c_100 {w0 : World} {S0 : Bs} {x : (List Int)} {v0 : Value} (h0 : kSl_2.ro w0 (FF w0 S0) x [v0])  :
    Calls Try.prog 100 #[v0] w0 (TriPost w0 S0 (fun r l => l = [ownA kSl_2 x [r]])) := by
 obtain ⟨A0, c0, rfl, hl0, hm0, hb0, he0⟩ := ro_form h0
 refine FJ.enter (N := 8) Try.func100 rfl rfl (by simp) [(0, .slice A0 x.length c0)] (by simp) (l0 := []) trivial ?_
 refine FJ.seq (FJ.region (FJ.ql rfl (q_assign rfl .c) (FJ.nil (FJ.then_ ?_))))
 refine FJ.seq (FJ.seq (FJ.region (FJ.ql rfl (q_move rfl (.t (.s .z))) (FJ.ql rfl (q_eqnil rfl u_40 (.t .z) .c) ?_))))
 refine FJ.nil (FJ.then_ ?_)
 refine FJ.cond (.t .z) (fun b2 => ?_) (fun b2 => ?_)
 refine FJ.seq (FJ.region (FJ.er (.s (.s .z)) (FJ.ql rfl (q_assign rfl .c) (FJ.nil ?_))))
 refine FJ.then_ (FJ.ret (FJ.thenR ?_))
 refine FJ.add (c := ownA kSl_2 [] [.slice none 0 0]) (fun w S => own_nil w S none) ?_
 refine FJ.ceq .z (nil_of he0 (by assumption)) ?_
 refine FJ.doneS (res1 rfl .z) (.c .z .n) ?_
 rfl
 refine FJ.skip (FJ.then_ (FJ.seq (FJ.region ?_)))
 refine FJ.e (goes_list rfl) rfl (by decide) rfl (e_buildNil rfl u_40 (inz inf_2)) ?_
 rintro _ _ ⟨g4, rfl, rfl⟩
 refine FJ.ql rfl (q_move rfl (.t (.s4 .z))) ?_
 refine FJ.add (c := ownA kSl_2 ([] : (List Int)) [.slice (some ⟨g4, 0, none⟩) 0 0]) (fun w S => own_nil w S _) ?_
 refine FJ.e (goes_list rfl) rfl (by decide) rfl (e_appendF (flat_scalar _ _ _) rfl u_40 inf_2 rfl (.t (.s .z)) (.t .z) (.c .z .n) (fun w1 S1 tr => tr.ctx h0) (by first | omega | (simp only [List.length_append, List.length_take, List.length_nil, List.length_cons]; omega)) (by first | omega | (simp only [List.length_append, List.length_take, List.length_nil, List.length_cons]; omega))) ?_
 rintro _ _ rfl
 refine FJ.ceq .z (List.nil_append _) ?_
 refine FJ.know (WS.oform .z) ?_
 rintro ⟨Ao6, co6, rfl, hlo6, hmo6, hbo6⟩
 refine FJ.er (.s4 (.s .z)) (FJ.ql rfl (q_assign rfl (.t .z)) (FJ.nil (FJ.then_ (FJ.ret ?_))))
 refine FJ.doneS (res1 rfl .z) (.c .z .n) ?_
 rfl

set_option maxHeartbeats 1000000 in
set_option maxRecDepth 20000 in
theorem c_99 {w0 : World} {S0 : Bs} {d : DDisk} {cs0 : List Value} (h0 : kT_25.ro w0 (FF w0 S0) d cs0) (a : Int)  :
    Calls Try.prog 99 #[.agg cs0.toArray, .int .i64 a] w0 (TriPost w0 S0 (fun r l => r = .int .i64 (blockFault d a) ∧ l = [])) := by
 obtain ⟨u0_0, u0_1, rfl, h0_0, h0_1⟩ := kT_25_ro h0
 obtain ⟨A0_0, c0_0, rfl, hl0_0, hm0_0, hb0_0, he0_0⟩ := ro_form h0_0
 obtain ⟨A0_1, c0_1, rfl, hl0_1, hm0_1, hb0_1, he0_1⟩ := ro_form h0_1
 refine FJ.enter (N := 18) Try.func99 rfl rfl (by simp) [(0, .agg #[.slice A0_0 d.blocks.length c0_0, .slice A0_1 d.cache.length c0_1]), (1, .int .i64 a)] (by simp) (l0 := []) trivial ?_
 refine FJ.seq (FJ.region ?_)
 refine FJ.e (goes_list rfl) rfl (by decide) rfl (e_box (cs := [.slice A0_0 d.blocks.length c0_0, .slice A0_1 d.cache.length c0_1]) (n := 2) rfl (.t .z) rfl rfl) ?_
 rintro _ _ ⟨g3, rfl, rfl⟩
 refine FJ.ql rfl (q_assign rfl .c) (FJ.nil (FJ.then_ (FJ.seq (FJ.seq ?_))))
 refine FJ.region ?_
 refine FJ.ql rfl (q_loadA (cs := [.slice A0_0 d.blocks.length c0_0, .slice A0_1 d.cache.length c0_1]) rfl ag_25 sz_25 (.t (.s .z)) (WS.rows0 .z (fun i u h => by exact h))) ?_
 refine FJ.call (goes_list rfl) rfl (by decide) rfl (c_call rfl Try.func86 rfl rfl (args1 (.t .z))) .n (fun w1 S1 hs tr => c_86 (kT_25_mk d (tr.ctx h0_0) (tr.ctx h0_1))) ?_
 rintro _ _ ⟨rfl, rfl⟩
 refine FJ.cat .n ?_
 refine FJ.ql rfl (q_assign rfl (.t .z)) (FJ.nil (FJ.then_ (FJ.seq (FJ.region ?_))))
 refine FJ.ql rfl (q_move rfl (.t .z)) (FJ.ql rfl (q_neq rfl (.t .z) .c) (FJ.nil (FJ.then_ ?_)))
 refine FJ.condN (.t .z) (fun b4 => ?_) (fun b4 => ?_)
 refine FJ.seq (FJ.region (FJ.ql rfl (q_move rfl (.t (.s (.s .z)))) (FJ.er (.s4 (.s (.s .z))) (FJ.ql rfl (q_assign rfl (.t .z)) ?_))))
 refine FJ.nil (FJ.then_ (FJ.ret (FJ.thenR ?_)))
 refine FJ.doneS (res1 rfl .z) .n ?_
 exact ⟨by rw [blockFault_f (by assumption)], rfl⟩
 refine FJ.skip (FJ.then_ (FJ.seq (FJ.seq (FJ.region ?_))))
 refine FJ.ql rfl (q_move rfl (.t (.s4 (.s4 .z)))) (FJ.ql rfl (q_fieldAddr rfl (.t (.s4 (.s (.s (.s .z))))) (fun _ => fa_25_0 _ _)) (FJ.ql rfl (q_load rfl ag_22 (.t .z) (WS.row .z rfl)) ?_))
 refine FJ.call (goes_list rfl) rfl (by decide) rfl (c_call rfl Try.func143 rfl rfl (args1 (.t .z))) .n (fun w1 S1 hs tr => c_143 (tr.ctx h0_0)) ?_
 rintro _ _ ⟨rfl, rfl⟩
 refine FJ.cat .n ?_
 refine FJ.ql rfl (q_sub (c := (d.blocks.length : Int) - 1) rfl (.t .z) .c (wr (by omega) (by omega) (by omega))) ?_
 refine FJ.call (goes_list rfl) rfl (by decide) rfl (c_call rfl Try.func79 rfl rfl (args3 (.t (.s4 .z)) .c (.t .z))) .n (fun w1 S1 hs tr => c_79 _ _ _) ?_
 rintro _ _ ⟨rfl, rfl⟩
 refine FJ.cat .n ?_
 refine FJ.ql rfl (q_not rfl (.t .z)) (FJ.nil (FJ.then_ ?_))
 refine FJ.condN (.t .z) (fun b5 => ?_) (fun b5 => ?_)
 refine FJ.seq (FJ.region (FJ.er (.s4 (.s4 (.s4 .z))) (FJ.ql rfl (q_assign rfl .c) (FJ.nil ?_))))
 refine FJ.then_ (FJ.ret (FJ.thenR ?_))
 refine FJ.doneS (res1 rfl .z) .n ?_
 exact ⟨by rw [blockFault_3 (by assumption) (by assumption)], rfl⟩
 refine FJ.skip (FJ.then_ (FJ.seq (FJ.region (FJ.er (.s4 (.s4 (.s4 .z))) ?_))))
 refine FJ.ql rfl (q_assign rfl .c) (FJ.nil (FJ.then_ (FJ.ret ?_)))
 refine FJ.doneS (res1 rfl .z) .n ?_
 exact ⟨by rw [blockFault_0 (by assumption) (by assumption)], rfl⟩
end Go.Proofs.Ytkmcpcahbfdohaa

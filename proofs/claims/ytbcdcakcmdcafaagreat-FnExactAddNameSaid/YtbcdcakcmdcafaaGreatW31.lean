/- What is proved: contracts of functions, one a function. No condition. -/
import Derived.Test.YtbcdcakcmdcafaaGreatW24
import Derived.Test.YtbcdcakcmdcafaaGreatBase2
namespace Go.Proofs.YtbcdcakcmdcafaaGreat
open Go Go.RowKit
set_option linter.unusedVariables false
set_option linter.unusedSimpArgs false
set_option maxHeartbeats 1000000 in
set_option maxRecDepth 20000 in
theorem c_92 {w0 : World} {S0 : Bs} {x : (List UInt8)} {v0 : Value} (h0 : kSl_5.ro w0 (FF w0 S0) x [v0])  :
    Calls Tryz.prog 92 #[v0] w0 (TriPost w0 S0 (fun r l => l = [ownA kSl_5 x [r]])) := by
 obtain ⟨A0, c0, rfl, hl0, hm0, hb0, he0⟩ := ro_form h0
 refine FJ.enter (N := 8) Tryz.func92 rfl rfl (by simp) [(0, .slice A0 x.length c0)] (by simp) (l0 := []) trivial ?_
 refine FJ.seq (FJ.region (FJ.ql rfl (q_assign rfl .c) (FJ.nil (FJ.then_ ?_))))
 refine FJ.seq (FJ.seq (FJ.region (FJ.ql rfl (q_move rfl (.t (.s .z))) (FJ.ql rfl (q_eqnil rfl u_39 (.t .z) .c) ?_))))
 refine FJ.nil (FJ.then_ ?_)
 refine FJ.cond (.t .z) (fun b2 => ?_) (fun b2 => ?_)
 refine FJ.seq (FJ.region (FJ.er (.s (.s .z)) (FJ.ql rfl (q_assign rfl .c) (FJ.nil ?_))))
 refine FJ.then_ (FJ.ret (FJ.thenR ?_))
 refine FJ.add (c := ownA kSl_5 [] [.slice none 0 0]) (fun w S => own_nil w S none) ?_
 refine FJ.ceq .z (nil_of he0 (by assumption)) ?_
 refine FJ.doneS (res1 rfl .z) (.c .z .n) ?_
 rfl
 refine FJ.skip (FJ.then_ (FJ.seq (FJ.region ?_)))
 refine FJ.e (goes_list rfl) rfl (by decide) rfl (e_buildNil rfl u_39 (inz inf_5)) ?_
 rintro _ _ ⟨g4, rfl, rfl⟩
 refine FJ.ql rfl (q_move rfl (.t (.s4 .z))) ?_
 refine FJ.add (c := ownA kSl_5 ([] : (List UInt8)) [.slice (some ⟨g4, 0, none⟩) 0 0]) (fun w S => own_nil w S _) ?_
 refine FJ.e (goes_list rfl) rfl (by decide) rfl (e_appendF (flat_scalar _ _ _) rfl u_39 inf_5 rfl (.t (.s .z)) (.t .z) (.c .z .n) (fun w1 S1 tr => tr.ctx h0) (by first | omega | (simp only [List.length_append, List.length_take, List.length_nil, List.length_cons]; omega)) (by first | omega | (simp only [List.length_append, List.length_take, List.length_nil, List.length_cons]; omega))) ?_
 rintro _ _ rfl
 refine FJ.ceq .z (List.nil_append _) ?_
 refine FJ.know (WS.oform .z) ?_
 rintro ⟨Ao6, co6, rfl, hlo6, hmo6, hbo6⟩
 refine FJ.er (.s4 (.s .z)) (FJ.ql rfl (q_assign rfl (.t .z)) (FJ.nil (FJ.then_ (FJ.ret ?_))))
 refine FJ.doneS (res1 rfl .z) (.c .z .n) ?_
 rfl

set_option maxHeartbeats 1000000 in
set_option maxRecDepth 20000 in
theorem c_54 {w0 : World} {S0 : Bs} {f : DFs} {ad0 : Addr} (h0 : PtrRo kT_26 w0 (FF w0 S0) ad0 f) (a : Int)  :
    Calls Tryz.prog 54 #[.pointer (some ad0), .int .i64 a] w0 (TriPost w0 S0 (fun r l => r = .bool (decide (placeIn f.inodes.length a)) ∧ l = [])) := by
 obtain ⟨ec0, hF0, hr0, hc0⟩ := id h0
 obtain ⟨u0_0, u0_1, rfl, h0_0, h0_1⟩ := kT_26_ro hr0
 obtain ⟨A0_0, c0_0, rfl, hl0_0, hm0_0, hb0_0, he0_0⟩ := ro_form h0_0
 obtain ⟨A0_1, c0_1, rfl, hl0_1, hm0_1, hb0_1, he0_1⟩ := ro_form h0_1
 refine FJ.enter (N := 13) Tryz.func54 rfl rfl (by simp) [(0, .pointer (some ad0)), (1, .int .i64 a)] (by simp) (l0 := []) trivial ?_
 refine FJ.seq (FJ.region (FJ.ql rfl (q_assign rfl .c) (FJ.nil (FJ.then_ ?_))))
 refine FJ.seq (FJ.region (FJ.ql rfl (q_move rfl (.t (.s (.s .z)))) (FJ.ql rfl (q_move rfl (.t (.s (.s .z)))) (FJ.ql rfl (q_nilCheck rfl (.t .z)) ?_))))
 refine FJ.ql rfl (q_fieldAddr rfl (.t .z) (fun _ => fa_26_0 _ _)) (FJ.ql rfl (q_load rfl ag_24 (.t .z) (WS.el hF0 hc0 rfl)) (FJ.ql rfl (q_len rfl u_24 (.t .z)) ?_))
 refine FJ.ql rfl (q_sub (c := (f.inodes.length : Int) - 1) rfl (.t .z) .c (wr (by omega) (by omega) (by omega))) ?_
 refine FJ.call (goes_list rfl) rfl (by decide) rfl (c_call rfl Tryz.func62 rfl rfl (args3 (.t (.s4 (.s (.s .z)))) .c (.t .z))) .n (fun w1 S1 hs tr => c_62 _ _ _) ?_
 rintro _ _ ⟨rfl, rfl⟩
 refine FJ.cat .n ?_
 refine FJ.er (.s4 (.s4 .z)) (FJ.ql rfl (q_assign rfl (.t .z)) (FJ.nil (FJ.then_ (FJ.ret ?_))))
 refine FJ.doneS (res1 rfl .z) .n ?_
 exact ⟨rfl, rfl⟩
end Go.Proofs.YtbcdcakcmdcafaaGreat

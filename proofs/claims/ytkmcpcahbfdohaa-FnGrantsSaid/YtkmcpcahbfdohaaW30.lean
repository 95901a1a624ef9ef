/- What is proved: contracts of functions, one a function. No condition. -/
import Derived.Test.YtkmcpcahbfdohaaW15
import Derived.Test.YtkmcpcahbfdohaaBase2
namespace Go.Proofs.Ytkmcpcahbfdohaa
open Go Go.RowKit
set_option linter.unusedVariables false
set_option linter.unusedSimpArgs false
set_option maxHeartbeats 1000000 in
set_option maxRecDepth 20000 in
theorem c_125 {w0 : World} {S0 : Bs} {x : (List DExt)} {v0 : Value} (i : Nat) {ys : (List DExt)} {v2 : Value} (hs : Star [ownA kSl_135 x [v0], ownA kSl_135 ys [v2]] w0 S0) (hi : i ≤ x.length) (hy : 0 < ys.length) (hx64 : x.length ≤ 64) (hy8 : ys.length ≤ 8) :
    Calls Try.prog 125 #[v0, .int .i64 (i : Int), v2] w0 (TriPost w0 S0 (fun r l => l = [ownA kSl_135 (List.take i x ++ ys ++ List.drop i x) [r]])) := by
 refine FJ.enter (N := 95) Try.func125 rfl rfl (by simp) [(0, v0), (1, .int .i64 (i : Int)), (2, v2)] (by simp) hs ?_
 refine FJ.know (WS.oform .z) ?_
 rintro ⟨Ao1, co1, rfl, hlo1, hmo1, hbo1⟩
 refine FJ.know (WS.oform (.s .z)) ?_
 rintro ⟨Ao2, co2, rfl, hlo2, hmo2, hbo2⟩
 refine FJ.seq (FJ.region (FJ.ql rfl (q_assign rfl .c) (FJ.nil (FJ.then_ ?_))))
 refine FJ.seq (FJ.region (FJ.ql rfl (q_move rfl (.t (.s .z))) (FJ.ql rfl (q_move rfl (.t (.s (.s (.s .z))))) ?_)))
 obtain ⟨As3, hAs3⟩ : ∃ A' : Option Addr, A' = (if co1 = i then Ao1 else Option.map (fun z => Addr.add z (i * 3)) Ao1) := ⟨_, rfl⟩
 have ls3 := subL_len (xs := x) (a := i) (b := x.length) (by omega)
 have hk4 : True := trivial
 refine FJ.ql rfl (q_sliceL (a := i) (b := x.length) rfl u_41 sz_135 (.t (.s .z)) hAs3 (.inr ⟨_, _, rfl, (.t .z)⟩) (.inl ⟨rfl, rfl⟩) (by omega) (by omega) (by omega)) ?_
 refine FJ.nil (FJ.then_ (FJ.seq (FJ.region (FJ.ql rfl (q_move rfl (.t (.s4 (.s (.s .z))))) ?_))))
 refine FJ.ql rfl (q_len rfl u_41 (.t .z)) (FJ.ql rfl (q_assign rfl (.t .z)) (FJ.nil (FJ.then_ (FJ.seq ?_))))
 refine FJ.seq (FJ.region (FJ.ql rfl (q_move rfl (.t .z)) (FJ.ql rfl (q_eql rfl (.t .z) .c) (FJ.nil ?_))))
 refine FJ.then_ ?_
 refine FJ.condP (.t .z) (fun b5 => ?_) (fun b5 => ?_)
 exfalso; omega
 refine FJ.know (WS.oad (.s .z) (by omega)) ?_
 rintro ⟨ad6, rfl⟩
 refine FJ.skip (FJ.then_ (FJ.seq (FJ.region (FJ.ql rfl (q_move rfl (.t (.s4 (.s4 (.s .z))))) ?_))))
 refine FJ.ql rfl (q_len rfl u_41 (.t .z)) (FJ.ql rfl (q_assign rfl (.t .z)) (FJ.nil (FJ.then_ (FJ.seq ?_))))
 refine FJ.seq (FJ.region (FJ.ql rfl (q_move rfl (.t (.s4 (.s4 (.s4 (.s .z)))))) (FJ.ql rfl (q_move rfl (.t (.s .z))) (FJ.ql rfl (q_eql rfl (.t (.s .z)) (.t .z)) ?_))))
 refine FJ.nil (FJ.then_ ?_)
 refine FJ.condP (.t .z) (fun b7 => ?_) (fun b7 => ?_)
 refine FJ.seq (FJ.region (FJ.ql rfl (q_move rfl (.t (.s4 (.s4 (.s4 (.s (.s (.s .z)))))))) (FJ.ql rfl (q_move rfl (.t (.s16 (.s (.s .z))))) ?_)))
 refine FJ.e (goes_list rfl) rfl (by decide) rfl (e_appendF (flat_iso _ (flat_pair (flat_scalar _ _ _) (flat_pair (flat_scalar _ _ _) (flat_scalar _ _ _)))) rfl u_41 inf_135 rfl (.t (.s .z)) (.t .z) (.c .z .n) (fun w1 S1 tr => tr.own .z) (by first | omega | (simp only [List.length_append, List.length_take, List.length_nil, List.length_cons]; omega)) (by first | omega | (simp only [List.length_append, List.length_take, List.length_nil, List.length_cons]; omega))) ?_
 rintro _ _ rfl
 refine FJ.know (WS.oform .z) ?_
 rintro ⟨Ao8, co8, rfl, hlo8, hmo8, hbo8⟩
 refine FJ.er (.s16 (.s .z)) (FJ.ql rfl (q_assign rfl (.t .z)) (FJ.nil (FJ.then_ (FJ.ret ?_))))
 refine FJ.thenR ?_
 refine FJ.ceq (x' := List.take i x ++ ys ++ List.drop i x) .z (ins_end (by omega)) ?_
 refine FJ.doneS (res1 rfl .z) (.c .z .n) ?_
 rfl
 refine FJ.know (WS.oad .z (by omega)) ?_
 rintro ⟨ad9, rfl⟩
 refine FJ.skip (FJ.then_ (FJ.seq (FJ.seq (FJ.region ?_))))
 refine FJ.ql rfl (q_move rfl (.t (.s (.s (.s .z))))) (FJ.ql rfl (q_move rfl (.t (.s4 (.s4 (.s .z))))) ?_)
 refine FJ.ql rfl (q_add (c := ((x.length + ys.length : Nat) : Int)) rfl (.t (.s .z)) (.t .z) (wr (by omega) (by omega) (by omega))) ?_
 refine FJ.ql rfl (q_move rfl (.t (.s16 (.s (.s .z))))) (FJ.ql rfl (q_cap rfl u_41 (.t .z)) (FJ.ql rfl (q_gtr rfl (.t (.s (.s .z))) (.t .z)) (FJ.nil (FJ.then_ ?_))))
 refine FJ.condP (.t .z) (fun b10 => ?_) (fun b10 => ?_)
 refine FJ.seq (FJ.region (FJ.ql rfl (q_move rfl (.t (.s16 (.s4 (.s .z))))) (FJ.ql rfl (q_move rfl (.t (.s16 (.s4 (.s (.s (.s .z))))))) ?_)))
 refine FJ.ql rfl (q_sliceHi (b := i) rfl u_41 sz_135 (.t (.s .z)) (.t .z) (by omega)) ?_
 refine FJ.ql rfl (q_move rfl (.t (.s4 (.s4 (.s4 .z))))) (FJ.ql rfl (q_move rfl (.t (.s16 (.s (.s .z))))) ?_)
 refine FJ.ql rfl (q_add (c := ((x.length + ys.length : Nat) : Int)) rfl (.t (.s .z)) (.t .z) (wr (by omega) (by omega) (by omega))) ?_
 refine FJ.ql rfl (q_move rfl (.t (.s16 (.s4 (.s4 (.s4 .z)))))) ?_
 refine FJ.ql rfl (q_sub (c := ((x.length + ys.length : Nat) : Int) - (i : Int)) rfl (.t (.s .z)) (.t .z) (wr (by omega) (by omega) (by omega))) ?_
 refine FJ.eq .z (congrArg (Value.int .i64) (show ((x.length + ys.length : Nat) : Int) - (i : Int) = ((x.length + ys.length - i : Nat) : Int) by omega)) ?_
 refine FJ.e (goes_list rfl) rfl (by decide) rfl (e_appendMake (i := i) (x0 := (⟨0, 0, 0⟩ : DExt)) (flat_iso _ (flat_pair (flat_scalar _ _ _) (flat_pair (flat_scalar _ _ _) (flat_scalar _ _ _)))) rfl u_41 u_3 inf_135 rfl (fun w S => zero_135 w S) (.t (.s4 (.s .z))) (.t .z) (.c .z .n) (by omega) (by omega) (by omega) (by omega) (by omega)) ?_
 rintro _ _ rfl
 have hXl : (List.take i x ++ List.replicate (x.length + ys.length - i) (⟨0, 0, 0⟩ : DExt)).length = x.length + ys.length := by rw [List.length_append, List.length_take, List.length_replicate]; omega
 refine FJ.know (WS.oform .z) ?_
 rintro ⟨Ao12, co12, rfl, hlo12, hmo12, hbo12⟩
 refine FJ.know (WS.oad .z (by omega)) ?_
 rintro ⟨ad13, rfl⟩
 refine FJ.ql rfl (q_assign rfl (.t .z)) (FJ.nil (FJ.then_ (FJ.seq (FJ.region ?_))))
 refine FJ.ql rfl (q_move rfl (.t .z)) (FJ.ql rfl (q_move rfl (.t (.s16 (.s16 (.s .z))))) ?_)
 obtain ⟨As14, hAs14⟩ : ∃ A' : Option Addr, A' = (if co12 = i then (some ad13) else Option.map (fun z => Addr.add z (i * 3)) (some ad13)) := ⟨_, rfl⟩
 have ls14 := subL_len (xs := List.take i x ++ List.replicate (x.length + ys.length - i) (⟨0, 0, 0⟩ : DExt)) (a := i) (b := (List.take i x ++ List.replicate (x.length + ys.length - i) (⟨0, 0, 0⟩ : DExt)).length) (by omega)
 have hk15 : True := trivial
 refine FJ.ql rfl (q_sliceL (a := i) (b := (List.take i x ++ List.replicate (x.length + ys.length - i) (⟨0, 0, 0⟩ : DExt)).length) rfl u_41 sz_135 (.t (.s .z)) hAs14 (.inr ⟨_, _, rfl, (.t .z)⟩) (.inl ⟨rfl, rfl⟩) (by omega) (by omega) (by omega)) ?_
 refine FJ.ql rfl (q_move rfl (.t (.s16 (.s16 (.s4 .z))))) ?_
 refine FJ.e (goes_list rfl) rfl (by decide) rfl (e_copyF (i := i) (xs := List.take i x ++ List.replicate (x.length + ys.length - i) (⟨0, 0, 0⟩ : DExt)) (ys := ys) (flat_iso _ (flat_pair (flat_scalar _ _ _) (flat_pair (flat_scalar _ _ _) (flat_scalar _ _ _)))) rfl u_41 sz_135 (cpy_len (.t (.s .z))) (hAs14.trans (by split <;> rfl)) (.t .z) (.c .z .n) (fun w1 S1 tr => (tr.own (.s .z))) (by first | omega | (simp only [List.length_append, List.length_take, List.length_drop, List.length_replicate]; omega)) (by omega)) ?_
 rintro _ _ ⟨rfl, rfl⟩
 have hXl16 : (List.take i (List.take i x ++ List.replicate (x.length + ys.length - i) (⟨0, 0, 0⟩ : DExt)) ++ ys ++ List.drop (i + ys.length) (List.take i x ++ List.replicate (x.length + ys.length - i) (⟨0, 0, 0⟩ : DExt))).length = (List.take i x ++ List.replicate (x.length + ys.length - i) (⟨0, 0, 0⟩ : DExt)).length := by simp only [List.length_append, List.length_take, List.length_drop, List.length_replicate]; omega
 refine FJ.chEq .z (show (ownA kSl_135 (List.take i (List.take i x ++ List.replicate (x.length + ys.length - i) (⟨0, 0, 0⟩ : DExt)) ++ ys ++ List.drop (i + ys.length) (List.take i x ++ List.replicate (x.length + ys.length - i) (⟨0, 0, 0⟩ : DExt))) [.slice (some ad13) (List.take i x ++ List.replicate (x.length + ys.length - i) (⟨0, 0, 0⟩ : DExt)).length co12] : Asn) = ownA kSl_135 (List.take i (List.take i x ++ List.replicate (x.length + ys.length - i) (⟨0, 0, 0⟩ : DExt)) ++ ys ++ List.drop (i + ys.length) (List.take i x ++ List.replicate (x.length + ys.length - i) (⟨0, 0, 0⟩ : DExt))) [.slice (some ad13) (List.take i (List.take i x ++ List.replicate (x.length + ys.length - i) (⟨0, 0, 0⟩ : DExt)) ++ ys ++ List.drop (i + ys.length) (List.take i x ++ List.replicate (x.length + ys.length - i) (⟨0, 0, 0⟩ : DExt))).length co12] by rw [← hXl16]) ?_
 refine FJ.eq (.s4 .z) (show (.slice (some ad13) (List.take i x ++ List.replicate (x.length + ys.length - i) (⟨0, 0, 0⟩ : DExt)).length co12 : Value) = .slice (some ad13) (List.take i (List.take i x ++ List.replicate (x.length + ys.length - i) (⟨0, 0, 0⟩ : DExt)) ++ ys ++ List.drop (i + ys.length) (List.take i x ++ List.replicate (x.length + ys.length - i) (⟨0, 0, 0⟩ : DExt))).length co12 by rw [← hXl16]) ?_
 refine FJ.eq (.s4 (.s .z)) (show (.slice (some ad13) (List.take i x ++ List.replicate (x.length + ys.length - i) (⟨0, 0, 0⟩ : DExt)).length co12 : Value) = .slice (some ad13) (List.take i (List.take i x ++ List.replicate (x.length + ys.length - i) (⟨0, 0, 0⟩ : DExt)) ++ ys ++ List.drop (i + ys.length) (List.take i x ++ List.replicate (x.length + ys.length - i) (⟨0, 0, 0⟩ : DExt))).length co12 by rw [← hXl16]) ?_
 refine FJ.eq (.s4 (.s (.s .z))) (show (.slice (some ad13) (List.take i x ++ List.replicate (x.length + ys.length - i) (⟨0, 0, 0⟩ : DExt)).length co12 : Value) = .slice (some ad13) (List.take i (List.take i x ++ List.replicate (x.length + ys.length - i) (⟨0, 0, 0⟩ : DExt)) ++ ys ++ List.drop (i + ys.length) (List.take i x ++ List.replicate (x.length + ys.length - i) (⟨0, 0, 0⟩ : DExt))).length co12 by rw [← hXl16]) ?_
 refine FJ.nil (FJ.then_ (FJ.seq ?_))
 refine FJ.draw [] 9 (by kernel_rfl) ?_
 refine FJ.sch [(0, true), (1, true), (2, true), (3, true), (4, true), (5, true), (6, true), (7, true), (8, false)] 0 #[true, true, true, true, true, true, true, true, true] (by rfl) (by kernel_rfl) ?_
 refine FJ.dq rfl rfl rfl (by decide) rfl (.s (.s (.s .z))) (q_move rfl (.t (.s .z))) (FJ.dq rfl rfl rfl (by decide) rfl (.s (.s (.s .z))) (q_move rfl (.t (.s16 (.s16 (.s4 (.s (.s .z))))))) (FJ.dq rfl rfl rfl (by decide) rfl (.s (.s (.s .z))) (q_move rfl (.t (.s16 (.s4 (.s4 (.s4 (.s (.s (.s .z))))))))) ?_))
 refine FJ.dq rfl rfl rfl (by decide) rfl (.s (.s (.s .z))) (q_add (c := ((i + ys.length : Nat) : Int)) rfl (.t (.s .z)) (.t .z) (wr (by omega) (by omega) (by omega))) ?_
 obtain ⟨As17, hAs17⟩ : ∃ A' : Option Addr, A' = (if co12 = i + ys.length then (some ad13) else Option.map (fun z => Addr.add z ((i + ys.length) * 3)) (some ad13)) := ⟨_, rfl⟩
 have ls17 := subL_len (xs := List.take i (List.take i x ++ List.replicate (x.length + ys.length - i) (⟨0, 0, 0⟩ : DExt)) ++ ys ++ List.drop (i + ys.length) (List.take i x ++ List.replicate (x.length + ys.length - i) (⟨0, 0, 0⟩ : DExt))) (a := i + ys.length) (b := (List.take i (List.take i x ++ List.replicate (x.length + ys.length - i) (⟨0, 0, 0⟩ : DExt)) ++ ys ++ List.drop (i + ys.length) (List.take i x ++ List.replicate (x.length + ys.length - i) (⟨0, 0, 0⟩ : DExt))).length) (by omega)
 have hk18 : True := trivial
 refine FJ.dq rfl rfl rfl (by decide) rfl (.s (.s (.s .z))) (q_sliceL (a := i + ys.length) (b := (List.take i (List.take i x ++ List.replicate (x.length + ys.length - i) (⟨0, 0, 0⟩ : DExt)) ++ ys ++ List.drop (i + ys.length) (List.take i x ++ List.replicate (x.length + ys.length - i) (⟨0, 0, 0⟩ : DExt))).length) rfl u_41 sz_135 (.t (.s (.s (.s .z)))) hAs17 (.inr ⟨_, _, rfl, (.t .z)⟩) (.inl ⟨rfl, rfl⟩) (by omega) (by omega) (by omega)) ?_
 refine FJ.dq rfl rfl rfl (by decide) rfl (.s (.s (.s .z))) (q_move rfl (.t (.s16 (.s16 (.s4 (.s4 (.s .z))))))) (FJ.dq rfl rfl rfl (by decide) rfl (.s (.s (.s .z))) (q_move rfl (.t (.s16 (.s16 (.s4 (.s4 (.s (.s (.s .z))))))))) ?_)
 obtain ⟨As19, hAs19⟩ : ∃ A' : Option Addr, A' = (if co1 = i then (some ad9) else Option.map (fun z => Addr.add z (i * 3)) (some ad9)) := ⟨_, rfl⟩
 have ls19 := subL_len (xs := x) (a := i) (b := x.length) (by omega)
 have hk20 : True := trivial
 refine FJ.dq rfl rfl rfl (by decide) rfl (.s (.s (.s .z))) (q_sliceL (a := i) (b := x.length) rfl u_41 sz_135 (.t (.s .z)) hAs19 (.inr ⟨_, _, rfl, (.t .z)⟩) (.inl ⟨rfl, rfl⟩) (by omega) (by omega) (by omega)) ?_
 refine FJ.e (goes_sch rfl rfl) rfl (by decide) rfl (e_copyF (i := i + ys.length) (xs := List.take i (List.take i x ++ List.replicate (x.length + ys.length - i) (⟨0, 0, 0⟩ : DExt)) ++ ys ++ List.drop (i + ys.length) (List.take i x ++ List.replicate (x.length + ys.length - i) (⟨0, 0, 0⟩ : DExt))) (ys := (subL x i x.length)) (flat_iso _ (flat_pair (flat_scalar _ _ _) (flat_pair (flat_scalar _ _ _) (flat_scalar _ _ _)))) rfl u_41 sz_135 (cpy_len (.t (.s (.s (.s .z))))) (hAs17.trans (by split <;> rfl)) (.t .z) (.c .z .n) (fun w1 S1 tr => (ro_sub (a := i) (b := x.length) hAs19 (tr.own .z) (by omega) (by omega))) (by first | omega | (simp only [List.length_append, List.length_take, List.length_drop, List.length_replicate]; omega)) (by omega)) ?_
 rintro _ _ ⟨rfl, rfl⟩
 have hXl21 : (List.take (i + ys.length) (List.take i (List.take i x ++ List.replicate (x.length + ys.length - i) (⟨0, 0, 0⟩ : DExt)) ++ ys ++ List.drop (i + ys.length) (List.take i x ++ List.replicate (x.length + ys.length - i) (⟨0, 0, 0⟩ : DExt))) ++ (subL x i x.length) ++ List.drop (i + ys.length + (subL x i x.length).length) (List.take i (List.take i x ++ List.replicate (x.length + ys.length - i) (⟨0, 0, 0⟩ : DExt)) ++ ys ++ List.drop (i + ys.length) (List.take i x ++ List.replicate (x.length + ys.length - i) (⟨0, 0, 0⟩ : DExt)))).length = (List.take i (List.take i x ++ List.replicate (x.length + ys.length - i) (⟨0, 0, 0⟩ : DExt)) ++ ys ++ List.drop (i + ys.length) (List.take i x ++ List.replicate (x.length + ys.length - i) (⟨0, 0, 0⟩ : DExt))).length := by simp only [List.length_append, List.length_take, List.length_drop, List.length_replicate]; omega
 refine FJ.chEq .z (show (ownA kSl_135 (List.take (i + ys.length) (List.take i (List.take i x ++ List.replicate (x.length + ys.length - i) (⟨0, 0, 0⟩ : DExt)) ++ ys ++ List.drop (i + ys.length) (List.take i x ++ List.replicate (x.length + ys.length - i) (⟨0, 0, 0⟩ : DExt))) ++ (subL x i x.length) ++ List.drop (i + ys.length + (subL x i x.length).length) (List.take i (List.take i x ++ List.replicate (x.length + ys.length - i) (⟨0, 0, 0⟩ : DExt)) ++ ys ++ List.drop (i + ys.length) (List.take i x ++ List.replicate (x.length + ys.length - i) (⟨0, 0, 0⟩ : DExt)))) [.slice (some ad13) (List.take i (List.take i x ++ List.replicate (x.length + ys.length - i) (⟨0, 0, 0⟩ : DExt)) ++ ys ++ List.drop (i + ys.length) (List.take i x ++ List.replicate (x.length + ys.length - i) (⟨0, 0, 0⟩ : DExt))).length co12] : Asn) = ownA kSl_135 (List.take (i + ys.length) (List.take i (List.take i x ++ List.replicate (x.length + ys.length - i) (⟨0, 0, 0⟩ : DExt)) ++ ys ++ List.drop (i + ys.length) (List.take i x ++ List.replicate (x.length + ys.length - i) (⟨0, 0, 0⟩ : DExt))) ++ (subL x i x.length) ++ List.drop (i + ys.length + (subL x i x.length).length) (List.take i (List.take i x ++ List.replicate (x.length + ys.length - i) (⟨0, 0, 0⟩ : DExt)) ++ ys ++ List.drop (i + ys.length) (List.take i x ++ List.replicate (x.length + ys.length - i) (⟨0, 0, 0⟩ : DExt)))) [.slice (some ad13) (List.take (i + ys.length) (List.take i (List.take i x ++ List.replicate (x.length + ys.length - i) (⟨0, 0, 0⟩ : DExt)) ++ ys ++ List.drop (i + ys.length) (List.take i x ++ List.replicate (x.length + ys.length - i) (⟨0, 0, 0⟩ : DExt))) ++ (subL x i x.length) ++ List.drop (i + ys.length + (subL x i x.length).length) (List.take i (List.take i x ++ List.replicate (x.length + ys.length - i) (⟨0, 0, 0⟩ : DExt)) ++ ys ++ List.drop (i + ys.length) (List.take i x ++ List.replicate (x.length + ys.length - i) (⟨0, 0, 0⟩ : DExt)))).length co12] by rw [← hXl21]) ?_
 refine FJ.eq (.s4 (.s4 .z)) (show (.slice (some ad13) (List.take i (List.take i x ++ List.replicate (x.length + ys.length - i) (⟨0, 0, 0⟩ : DExt)) ++ ys ++ List.drop (i + ys.length) (List.take i x ++ List.replicate (x.length + ys.length - i) (⟨0, 0, 0⟩ : DExt))).length co12 : Value) = .slice (some ad13) (List.take (i + ys.length) (List.take i (List.take i x ++ List.replicate (x.length + ys.length - i) (⟨0, 0, 0⟩ : DExt)) ++ ys ++ List.drop (i + ys.length) (List.take i x ++ List.replicate (x.length + ys.length - i) (⟨0, 0, 0⟩ : DExt))) ++ (subL x i x.length) ++ List.drop (i + ys.length + (subL x i x.length).length) (List.take i (List.take i x ++ List.replicate (x.length + ys.length - i) (⟨0, 0, 0⟩ : DExt)) ++ ys ++ List.drop (i + ys.length) (List.take i x ++ List.replicate (x.length + ys.length - i) (⟨0, 0, 0⟩ : DExt)))).length co12 by rw [← hXl21]) ?_
 refine FJ.eq (.s4 (.s4 (.s .z))) (show (.slice (some ad13) (List.take i (List.take i x ++ List.replicate (x.length + ys.length - i) (⟨0, 0, 0⟩ : DExt)) ++ ys ++ List.drop (i + ys.length) (List.take i x ++ List.replicate (x.length + ys.length - i) (⟨0, 0, 0⟩ : DExt))).length co12 : Value) = .slice (some ad13) (List.take (i + ys.length) (List.take i (List.take i x ++ List.replicate (x.length + ys.length - i) (⟨0, 0, 0⟩ : DExt)) ++ ys ++ List.drop (i + ys.length) (List.take i x ++ List.replicate (x.length + ys.length - i) (⟨0, 0, 0⟩ : DExt))) ++ (subL x i x.length) ++ List.drop (i + ys.length + (subL x i x.length).length) (List.take i (List.take i x ++ List.replicate (x.length + ys.length - i) (⟨0, 0, 0⟩ : DExt)) ++ ys ++ List.drop (i + ys.length) (List.take i x ++ List.replicate (x.length + ys.length - i) (⟨0, 0, 0⟩ : DExt)))).length co12 by rw [← hXl21]) ?_
 refine FJ.eq (.s4 (.s4 (.s (.s .z)))) (show (.slice (some ad13) (List.take i (List.take i x ++ List.replicate (x.length + ys.length - i) (⟨0, 0, 0⟩ : DExt)) ++ ys ++ List.drop (i + ys.length) (List.take i x ++ List.replicate (x.length + ys.length - i) (⟨0, 0, 0⟩ : DExt))).length co12 : Value) = .slice (some ad13) (List.take (i + ys.length) (List.take i (List.take i x ++ List.replicate (x.length + ys.length - i) (⟨0, 0, 0⟩ : DExt)) ++ ys ++ List.drop (i + ys.length) (List.take i x ++ List.replicate (x.length + ys.length - i) (⟨0, 0, 0⟩ : DExt))) ++ (subL x i x.length) ++ List.drop (i + ys.length + (subL x i x.length).length) (List.take i (List.take i x ++ List.replicate (x.length + ys.length - i) (⟨0, 0, 0⟩ : DExt)) ++ ys ++ List.drop (i + ys.length) (List.take i x ++ List.replicate (x.length + ys.length - i) (⟨0, 0, 0⟩ : DExt)))).length co12 by rw [← hXl21]) ?_
 refine FJ.eq (.s4 (.s4 (.s (.s (.s .z))))) (show (.slice (some ad13) (List.take i (List.take i x ++ List.replicate (x.length + ys.length - i) (⟨0, 0, 0⟩ : DExt)) ++ ys ++ List.drop (i + ys.length) (List.take i x ++ List.replicate (x.length + ys.length - i) (⟨0, 0, 0⟩ : DExt))).length co12 : Value) = .slice (some ad13) (List.take (i + ys.length) (List.take i (List.take i x ++ List.replicate (x.length + ys.length - i) (⟨0, 0, 0⟩ : DExt)) ++ ys ++ List.drop (i + ys.length) (List.take i x ++ List.replicate (x.length + ys.length - i) (⟨0, 0, 0⟩ : DExt))) ++ (subL x i x.length) ++ List.drop (i + ys.length + (subL x i x.length).length) (List.take i (List.take i x ++ List.replicate (x.length + ys.length - i) (⟨0, 0, 0⟩ : DExt)) ++ ys ++ List.drop (i + ys.length) (List.take i x ++ List.replicate (x.length + ys.length - i) (⟨0, 0, 0⟩ : DExt)))).length co12 by rw [← hXl21]) ?_
 refine FJ.sk (.s (.s (.s .z))) ?_
 refine FJ.schN ?_
 refine FJ.drawN (by kernel_rfl) ?_
 refine FJ.then_ (FJ.seq (FJ.region (FJ.ql rfl (q_move rfl (.t (.s .z))) (FJ.er (.s16 (.s16 (.s4 (.s4 (.s4 (.s .z)))))) ?_))))
 refine FJ.ql rfl (q_assign rfl (.t .z)) (FJ.nil (FJ.then_ (FJ.ret (FJ.thenR ?_))))
 refine FJ.ceq (x' := List.take i x ++ ys ++ List.drop i x) .z (ins_grow (by omega) rfl) ?_
 refine FJ.doneS (res1 rfl .z) (.c .z .n) ?_
 rfl
 refine FJ.skip (FJ.then_ (FJ.seq (FJ.region (FJ.ql rfl (q_move rfl (.t (.s16 (.s4 (.s .z))))) ?_))))
 refine FJ.ql rfl (q_move rfl (.t (.s4 (.s4 (.s (.s .z)))))) (FJ.ql rfl (q_move rfl (.t (.s16 .z))) ?_)
 refine FJ.ql rfl (q_add (c := ((x.length + ys.length : Nat) : Int)) rfl (.t (.s .z)) (.t .z) (wr (by omega) (by omega) (by omega))) ?_
 refine FJ.ql rfl (q_sliceHi (b := x.length + ys.length) rfl u_41 sz_135 (.t (.s (.s (.s .z)))) (.t .z) (by omega)) ?_
 refine FJ.er (.s16 (.s4 (.s4 (.s (.s .z))))) (FJ.ql rfl (q_assign rfl (.t .z)) (FJ.nil (FJ.then_ (FJ.seq ?_))))
 refine FJ.seq (FJ.region (FJ.ql rfl (q_move rfl (.t (.s16 (.s4 (.s4 (.s4 .z)))))) (FJ.ql rfl (q_move rfl (.t (.s .z))) (FJ.ql rfl (q_move rfl (.t (.s16 (.s4 (.s4 (.s4 (.s .z))))))) ?_))))
 refine FJ.ql rfl (q_move rfl (.t (.s16 (.s4 (.s (.s (.s .z))))))) ?_
 refine FJ.ql rfl (q_add (c := ((i + ys.length : Nat) : Int)) rfl (.t (.s .z)) (.t .z) (wr (by omega) (by omega) (by omega))) ?_
 refine FJ.ql rfl (q_slice (a := i + ys.length) (b := x.length + ys.length) rfl u_41 sz_135 (.t (.s (.s (.s .z)))) (.inr ⟨_, _, rfl, (.t .z)⟩) (.inl ⟨rfl, rfl⟩) (by omega) (by omega)) ?_
 refine FJ.e (goes_list rfl) rfl (by decide) rfl (e_overlaps (tS := 41) (tR := 4) (i := i + ys.length) rfl Try.func153 rfl rfl (by kernel_rfl) (by kernel_rfl) u_41 sz_135 (.t (.s4 (.s .z))) (.t .z) rfl (.c .z (.c .z .n)) (by omega) (by omega)) ?_
 rintro _ _ ⟨rfl, rfl⟩
 refine FJ.ql rfl (q_not rfl (.t .z)) (FJ.nil (FJ.then_ ?_))
 refine FJ.condT (.t .z) ?_
 refine FJ.seq ?_
 refine FJ.draw [] 9 (by kernel_rfl) ?_
 refine FJ.sch [(0, true), (1, true), (2, true), (3, true), (4, true), (5, true), (6, true), (7, true), (8, false)] 0 #[true, true, true, true, true, true, true, true, true] (by rfl) (by kernel_rfl) ?_
 refine FJ.dq rfl rfl rfl (by decide) rfl (.s (.s .z)) (q_move rfl (.t (.s4 (.s4 .z)))) (FJ.dq rfl rfl rfl (by decide) rfl (.s (.s .z)) (q_move rfl (.t (.s16 (.s16 (.s4 .z))))) (FJ.dq rfl rfl rfl (by decide) rfl (.s (.s .z)) (q_move rfl (.t (.s16 (.s4 (.s4 (.s4 (.s (.s .z)))))))) ?_))
 refine FJ.dq rfl rfl rfl (by decide) rfl (.s (.s .z)) (q_add (c := ((i + ys.length : Nat) : Int)) rfl (.t (.s .z)) (.t .z) (wr (by omega) (by omega) (by omega))) ?_
 refine FJ.dq rfl rfl rfl (by decide) rfl (.s (.s .z)) (q_slice (a := i + ys.length) (b := x.length + ys.length) rfl u_41 sz_135 (.t (.s (.s (.s .z)))) (.inr ⟨_, _, rfl, (.t .z)⟩) (.inl ⟨rfl, rfl⟩) (by omega) (by omega)) ?_
 refine FJ.dq rfl rfl rfl (by decide) rfl (.s (.s .z)) (q_move rfl (.t (.s4 (.s4 (.s4 (.s .z)))))) (FJ.dq rfl rfl rfl (by decide) rfl (.s (.s .z)) (q_move rfl (.t (.s16 (.s16 (.s4 (.s4 (.s .z))))))) ?_)
 refine FJ.dq rfl rfl rfl (by decide) rfl (.s (.s .z)) (q_slice (a := i) (b := x.length + ys.length) rfl u_41 sz_135 (.t (.s .z)) (.inr ⟨_, _, rfl, (.t .z)⟩) (.inl ⟨rfl, rfl⟩) (by omega) (by omega)) ?_
 refine FJ.e (goes_sch rfl rfl) rfl (by decide) rfl (e_copyGap (i := i) (m := ys.length) (flat_iso _ (flat_pair (flat_scalar _ _ _) (flat_pair (flat_scalar _ _ _) (flat_scalar _ _ _)))) rfl u_41 sz_135 (cpy_n (.t (.s (.s (.s .z)))) (by omega)) rfl (.t .z) rfl (.c .z .n) (by omega) (by omega) (by omega)) ?_
 rintro _ _ ⟨g22, rfl, rfl, rfl⟩
 refine FJ.sk (.s (.s .z)) ?_
 refine FJ.schN ?_
 refine FJ.drawN (by kernel_rfl) ?_
 refine FJ.then_ (FJ.seq (FJ.region (FJ.ql rfl (q_move rfl (.t (.s16 (.s .z)))) (FJ.ql rfl (q_move rfl (.t (.s16 (.s16 (.s4 (.s4 (.s4 (.s .z)))))))) ?_))))
 refine FJ.ql rfl (q_slice (a := i) (b := x.length + ys.length) rfl u_41 sz_135 (.t (.s .z)) (.inr ⟨_, _, rfl, (.t .z)⟩) (.inl ⟨rfl, rfl⟩) (by omega) (by omega)) ?_
 refine FJ.ql rfl (q_move rfl (.t (.s16 (.s16 (.s16 .z))))) ?_
 refine FJ.e (goes_list rfl) rfl (by decide) rfl (e_copyFill (by_ := 24) (flat_iso _ (flat_pair (flat_scalar _ _ _) (flat_pair (flat_scalar _ _ _) (flat_scalar _ _ _)))) rfl u_41 sz_135 (.t (.s .z)) rfl (.t .z) (.c .z .n) (fun w1 S1 tr => (tr.own .z)) (by omega) rfl (by omega) (by omega) (by omega) (by omega)) ?_
 rintro _ _ ⟨rfl, rfl⟩
 refine FJ.nil (FJ.then_ (FJ.seq (FJ.region (FJ.ql rfl (q_move rfl (.t (.s16 (.s4 (.s (.s .z)))))) ?_))))
 refine FJ.er (.s16 (.s16 (.s16 (.s .z)))) (FJ.ql rfl (q_assign rfl (.t .z)) (FJ.nil (FJ.then_ (FJ.ret ?_))))
 refine FJ.thenR ?_
 refine FJ.doneS (res1 rfl .z) (.c .z .n) ?_
 rfl

set_option maxHeartbeats 1000000 in
set_option maxRecDepth 20000 in
theorem c_123 {w0 : World} {S0 : Bs} {x : DExt} {cs0 : List Value} (h0 : kT_135.ro w0 (FF w0 S0) x cs0) {n : DExt} {ad1 : Addr} (h1 : PtrRo kT_135 w0 (FF w0 S0) ad1 n)  :
    Calls Try.prog 123 #[.agg cs0.toArray, .pointer (some ad1)] w0 (TriPost w0 S0 (fun r l => r = .bool (ovP n x) ∧ l = [])) := by
 obtain rfl := kT_135_ro h0
 obtain ⟨ec1, hF1, hr1, hc1⟩ := h1
 obtain rfl := kT_135_ro hr1
 refine FJ.enter (N := 22) Try.func123 rfl rfl (by simp) [(0, .agg #[.int .i64 x.frm, .int .i64 x.cnt, .int .i64 x.key]), (1, .pointer (some ad1))] (by simp) (l0 := []) trivial ?_
 refine FJ.seq (FJ.region ?_)
 refine FJ.e (goes_list rfl) rfl (by decide) rfl (e_box (cs := [.int .i64 x.frm, .int .i64 x.cnt, .int .i64 x.key]) (n := 3) rfl (.t .z) rfl rfl) ?_
 rintro _ _ ⟨g1, rfl, rfl⟩
 refine FJ.ql rfl (q_assign rfl .c) (FJ.nil (FJ.then_ (FJ.seq (FJ.region ?_))))
 refine FJ.ql rfl (q_fieldAddr rfl (.t (.s (.s (.s .z)))) (fun _ => fa_135_0 _ _)) (FJ.ql rfl (q_load rfl ag_2 (.t .z) (WS.el hF1 hc1 rfl)) (FJ.ql rfl (q_fieldAddr rfl (.t (.s (.s (.s .z)))) (fun _ => fa_135_0 _ _)) (FJ.ql rfl (q_load rfl ag_2 (.t .z) (WS.row .z rfl)) (FJ.ql rfl (q_fieldAddr rfl (.t (.s4 (.s .z))) (fun _ => fa_135_1 _ _)) ?_))))
 refine FJ.ql rfl (q_load rfl ag_2 (.t .z) (WS.row .z rfl)) (FJ.ql rfl (q_add (c := IntKind.i64.wrap (x.frm + x.cnt)) rfl (.t (.s (.s .z))) (.t .z) rfl) (FJ.ql rfl (q_lss rfl (.t (.s4 (.s .z))) (.t .z)) (FJ.ql rfl (q_move rfl (.t .z)) ?_)))
 refine FJ.caseP .z (fun g2 => ?_) (fun g2 => ?_)
 refine FJ.q (goes_listg rfl rfl .z) rfl (by decide) rfl (q_fieldAddr rfl (.t (.s4 (.s4 (.s (.s .z))))) (fun _ => fa_135_0 _ _)) ?_
 refine FJ.q (goes_listg rfl rfl (.s .z)) rfl (by decide) rfl (q_load rfl ag_2 (.t .z) (WS.row .z rfl)) ?_
 refine FJ.q (goes_listg rfl rfl (.s (.s .z))) rfl (by decide) rfl (q_fieldAddr rfl (.t (.s4 (.s4 (.s4 (.s (.s .z)))))) (fun _ => fa_135_0 _ _)) ?_
 refine FJ.q (goes_listg rfl rfl (.s (.s (.s .z)))) rfl (by decide) rfl (q_load rfl ag_2 (.t .z) (WS.el hF1 hc1 rfl)) ?_
 refine FJ.q (goes_listg rfl rfl (.s4 .z)) rfl (by decide) rfl (q_fieldAddr rfl (.t (.s16 .z)) (fun _ => fa_135_1 _ _)) ?_
 refine FJ.q (goes_listg rfl rfl (.s4 (.s .z))) rfl (by decide) rfl (q_load rfl ag_2 (.t .z) (WS.el hF1 hc1 rfl)) ?_
 refine FJ.q (goes_listg rfl rfl (.s4 (.s (.s .z)))) rfl (by decide) rfl (q_add (c := IntKind.i64.wrap (n.frm + n.cnt)) rfl (.t (.s (.s .z))) (.t .z) rfl) ?_
 refine FJ.q (goes_listg rfl rfl (.s4 (.s (.s (.s .z))))) rfl (by decide) rfl (q_lss rfl (.t (.s4 (.s .z))) (.t .z)) ?_
 refine FJ.ql rfl (q_pickT rfl (.t (.s4 (.s4 .z))) (.t .z)) (FJ.er (.s16 (.s (.s .z))) (FJ.ql rfl (q_assign rfl (.t .z)) (FJ.nil (FJ.then_ ?_))))
 refine FJ.ret ?_
 refine FJ.doneS (res1 rfl .z) .n ?_
 exact ⟨congrArg Value.bool (by unfold ovP; first | (simp_all; done) | (simp_all; omega)), rfl⟩
 refine FJ.skipl rfl rfl .z rfl rfl (by decide) rfl ?_
 refine FJ.skipl rfl rfl (.s .z) rfl rfl (by decide) rfl ?_
 refine FJ.skipl rfl rfl (.s (.s .z)) rfl rfl (by decide) rfl ?_
 refine FJ.skipl rfl rfl (.s (.s (.s .z))) rfl rfl (by decide) rfl ?_
 refine FJ.skipl rfl rfl (.s4 .z) rfl rfl (by decide) rfl ?_
 refine FJ.skipl rfl rfl (.s4 (.s .z)) rfl rfl (by decide) rfl ?_
 refine FJ.skipl rfl rfl (.s4 (.s (.s .z))) rfl rfl (by decide) rfl ?_
 refine FJ.skipl rfl rfl (.s4 (.s (.s (.s .z)))) rfl rfl (by decide) rfl ?_
 refine FJ.ql rfl (q_pickF rfl (.t (.s4 (.s4 .z))) .c) (FJ.er (.s16 (.s (.s .z))) (FJ.ql rfl (q_assign rfl (.t .z)) (FJ.nil (FJ.then_ ?_))))
 refine FJ.ret ?_
 refine FJ.doneS (res1 rfl .z) .n ?_
 exact ⟨congrArg Value.bool (by unfold ovP; first | (simp_all; done) | (simp_all; omega)), rfl⟩

set_option maxHeartbeats 1000000 in
set_option maxRecDepth 20000 in
theorem c_65 {w0 : World} {S0 : Bs} {k : DKern} {cs0 : List Value} (h0 : kT_43.ro w0 (FF w0 S0) k cs0) (f : Int) (c : Int) (key : Int)  :
    Calls Try.prog 65 #[.agg cs0.toArray, .int .i64 f, .int .i64 c, .int .i64 key] w0 (TriPost w0 S0 (RA_45 (grant k ⟨f, c, key⟩))) := by
 obtain ⟨u0_0, u0_1, u0_2, rfl, h0_0, h0_1, h0_2⟩ := kT_43_ro h0
 obtain ⟨A0_0, c0_0, rfl, hl0_0, hm0_0, hb0_0, he0_0⟩ := ro_form h0_0
 obtain ⟨A0_1, c0_1, rfl, hl0_1, hm0_1, hb0_1, he0_1⟩ := ro_form h0_1
 obtain ⟨A0_2, c0_2, rfl, hl0_2, hm0_2, hb0_2, he0_2⟩ := ro_form h0_2
 refine FJ.enter (N := 69) Try.func65 rfl rfl (by simp) [(0, .agg #[.slice A0_0 k.disk.blocks.length c0_0, .slice A0_1 k.disk.cache.length c0_1, .slice A0_2 k.exts.length c0_2]), (1, .int .i64 f), (2, .int .i64 c), (3, .int .i64 key)] (by simp) (l0 := []) trivial ?_
 refine FJ.seq (FJ.region ?_)
 refine FJ.e (goes_list rfl) rfl (by decide) rfl (e_box (cs := [.slice A0_0 k.disk.blocks.length c0_0, .slice A0_1 k.disk.cache.length c0_1, .slice A0_2 k.exts.length c0_2]) (n := 3) rfl (.t .z) rfl rfl) ?_
 rintro _ _ ⟨g4, rfl, rfl⟩
 refine FJ.e (goes_list rfl) rfl (by decide) rfl (e_alloc rfl z_45 rfl rfl) ?_
 rintro _ _ ⟨g5, rfl, rfl⟩
 refine FJ.nil (FJ.then_ (FJ.seq (FJ.seq (FJ.region ?_))))
 refine FJ.ql rfl (q_loadA (cs := [.slice A0_0 k.disk.blocks.length c0_0, .slice A0_1 k.disk.cache.length c0_1, .slice A0_2 k.exts.length c0_2]) rfl ag_43 sz_43 (.t (.s .z)) (WS.rows0 (.s .z) (fun i u h => by exact h))) ?_
 refine FJ.call (goes_list rfl) rfl (by decide) rfl (c_call rfl Try.func112 rfl rfl (args1 (.t .z))) .n (fun w1 S1 hs tr => c_112 (kT_43_mk k (tr.ctx h0_0) (tr.ctx h0_1) (tr.ctx h0_2))) ?_
 rintro _ _ ⟨rfl, rfl⟩
 refine FJ.cat .n ?_
 refine FJ.ql rfl (q_assign rfl (.t .z)) (FJ.nil (FJ.then_ (FJ.seq (FJ.region ?_))))
 refine FJ.ql rfl (q_move rfl (.t .z)) (FJ.ql rfl (q_neq rfl (.t .z) .c) (FJ.nil (FJ.then_ ?_)))
 refine FJ.condN (.t .z) (fun b6 => ?_) (fun b6 => ?_)
 refine FJ.seq (FJ.region (FJ.ql rfl (q_move rfl (.t (.s (.s .z)))) ?_))
 refine FJ.ql rfl (q_build (ps := [(0, .int .i64 (kernFault k))]) (cs := [.int .i64 (kernFault k), .slice none 0 0, .slice none 0 0, .slice none 0 0, .slice none 0 0]) rfl bl_45 (by intro act hact; simp only [List.map_toArray, List.map_cons, List.map_nil, (show Val _ _ _ from (.t .z)) act hact]) rfl) ?_
 refine FJ.es (goes_list rfl) rfl (es_store (off := 0) (cs := [.int .i64 (kernFault k), .slice none 0 0, .slice none 0 0, .slice none 0 0, .slice none 0 0]) rfl sz_45 (.t (.s4 (.s (.s (.s .z))))) (.t .z) rfl (ones rfl) .z (Nat.le_of_ble_eq_true rfl) (.c .z (.c (.s .z) (.c (.s (.s .z)) (.c (.s (.s (.s .z))) (.c (.s (.s (.s (.s .z)))) .n)))))) ?_
 refine FJ.nil (FJ.then_ (FJ.ret (FJ.thenR ?_)))
 refine FJ.add (c := ownA kSl_2 [] [.slice none 0 0]) (fun w S => own_nil w S none) ?_
 refine FJ.add (c := ownA kSl_40 [] [.slice none 0 0]) (fun w S => own_nil w S none) ?_
 refine FJ.add (c := ownA kSl_57 [] [.slice none 0 0]) (fun w S => own_nil w S none) ?_
 refine FJ.add (c := ownA kSl_135 [] [.slice none 0 0]) (fun w S => own_nil w S none) ?_
 refine FJ.doneS (resC (cs := [.int .i64 (kernFault k), .slice none 0 0, .slice none 0 0, .slice none 0 0, .slice none 0 0]) rfl (.s4 (.s (.s (.s .z)))) ag_45 sz_45 (WS.rows0 (cs := [.int .i64 (kernFault k), .slice none 0 0, .slice none 0 0, .slice none 0 0, .slice none 0 0]) (.s4 .z) (fun _ _ h => h))) (.c (.s (.s (.s .z))) (.c (.s (.s .z)) (.c (.s .z) (.c .z .n)))) ?_
 first | (rw [grant_f (by assumption)]; exact ⟨_, _, _, _, rfl, rfl⟩) | (rw [grant_3 hkf (by assumption)]; exact ⟨_, _, _, _, rfl, rfl⟩) | (rw [grant_7 hkf hie (by assumption)]; exact ⟨_, _, _, _, rfl, rfl⟩) | (rw [grant_2 hkf hie (by assumption) (by omega)]; exact ⟨_, _, _, _, rfl, rfl⟩) | (rw [grant_0 (i := q) hkf hie (by assumption) (by omega) (grantI_eq hallq hq (.inl (by omega)))]; exact ⟨_, _, _, _, rfl, rfl⟩)
 have hkf : kernFault k = 0 := b6
 obtain ⟨hkd, hk8, hkx, hk60⟩ := kernOk hkf
 have hks := kernFault_exts hkf
 refine FJ.skip (FJ.then_ (FJ.seq (FJ.region (FJ.ql rfl (q_move rfl (.t (.s4 (.s4 .z)))) ?_))))
 refine FJ.ql rfl (q_move rfl (.t (.s4 (.s4 (.s (.s .z)))))) (FJ.ql rfl (q_move rfl (.t (.s4 (.s4 (.s4 .z))))) ?_)
 refine FJ.ql rfl (q_build (ps := [(0, .int .i64 f), (1, .int .i64 c), (2, .int .i64 key)]) (cs := [.int .i64 f, .int .i64 c, .int .i64 key]) rfl bl_135 (by intro act hact; simp only [List.map_toArray, List.map_cons, List.map_nil, (show Val _ _ _ from (.t (.s (.s .z)))) act hact, (show Val _ _ _ from (.t (.s .z))) act hact, (show Val _ _ _ from (.t .z)) act hact]) rfl) ?_
 refine FJ.e (goes_list rfl) rfl (by decide) rfl (e_alloc rfl z_135 rfl rfl) ?_
 rintro _ _ ⟨g11, rfl, rfl⟩
 refine FJ.es (goes_list rfl) rfl (es_store (off := 0) (cs := [.int .i64 f, .int .i64 c, .int .i64 key]) rfl sz_135 (.t .z) (.t (.s .z)) rfl (ones rfl) .z (Nat.le_of_ble_eq_true rfl) (.c .z (.c (.s .z) (.c (.s (.s .z)) .n)))) ?_
 refine FJ.nil (FJ.then_ (FJ.seq (FJ.block (FJ.seq ?_))))
 refine FJ.region ?_
 refine FJ.ql rfl (q_loadA (cs := [.slice A0_0 k.disk.blocks.length c0_0, .slice A0_1 k.disk.cache.length c0_1, .slice A0_2 k.exts.length c0_2]) rfl ag_43 sz_43 (.t (.s4 (.s4 (.s (.s (.s .z)))))) (WS.rows0 (.s (.s .z)) (fun i u h => by exact h))) ?_
 refine FJ.ql rfl (q_loadA (cs := [.int .i64 f, .int .i64 c, .int .i64 key]) rfl ag_135 sz_135 (.t (.s .z)) (WS.rows0 .z (fun i u h => by exact h))) ?_
 refine FJ.call (goes_list rfl) rfl (by decide) rfl (c_call rfl Try.func121 rfl rfl (args2 (.t (.s .z)) (.t .z))) .n (fun w1 S1 hs tr => c_121 (kT_43_mk k (tr.ctx h0_0) (tr.ctx h0_1) (tr.ctx h0_2)) (kT_135_mk (⟨f, c, key⟩ : DExt)) (by omega)) ?_
 rintro _ _ ⟨rfl, rfl⟩
 refine FJ.cat .n ?_
 refine FJ.ql rfl (q_not rfl (.t .z)) (FJ.ql rfl (q_assign rfl (.t .z)) (FJ.nil (FJ.then_ ?_)))
 refine FJ.condN (.t .z) (fun b12 => ?_) (fun b12 => ?_)
 refine FJ.seq (FJ.region ?_)
 refine FJ.ql rfl (q_build (ps := [(0, .int .i64 3)]) (cs := [.int .i64 3, .slice none 0 0, .slice none 0 0, .slice none 0 0, .slice none 0 0]) rfl bl_45 (by intro act hact; simp only [List.map_toArray, List.map_cons, List.map_nil, (show Val _ _ _ from .c) act hact]) rfl) ?_
 refine FJ.es (goes_list rfl) rfl (es_store (off := 0) (cs := [.int .i64 3, .slice none 0 0, .slice none 0 0, .slice none 0 0, .slice none 0 0]) rfl sz_45 (.t (.s16 .z)) (.t .z) rfl (ones rfl) (.s .z) (Nat.le_of_ble_eq_true rfl) (.c .z (.c (.s .z) (.c (.s (.s .z)) (.c (.s (.s (.s .z))) (.c (.s (.s (.s (.s .z)))) .n)))))) ?_
 refine FJ.nil (FJ.then_ (FJ.ret (FJ.inBR (FJ.thenR ?_))))
 refine FJ.add (c := ownA kSl_2 [] [.slice none 0 0]) (fun w S => own_nil w S none) ?_
 refine FJ.add (c := ownA kSl_40 [] [.slice none 0 0]) (fun w S => own_nil w S none) ?_
 refine FJ.add (c := ownA kSl_57 [] [.slice none 0 0]) (fun w S => own_nil w S none) ?_
 refine FJ.add (c := ownA kSl_135 [] [.slice none 0 0]) (fun w S => own_nil w S none) ?_
 refine FJ.doneS (resC (cs := [.int .i64 3, .slice none 0 0, .slice none 0 0, .slice none 0 0, .slice none 0 0]) rfl (.s16 .z) ag_45 sz_45 (WS.rows0 (cs := [.int .i64 3, .slice none 0 0, .slice none 0 0, .slice none 0 0, .slice none 0 0]) (.s4 .z) (fun _ _ h => h))) (.c (.s (.s (.s .z))) (.c (.s (.s .z)) (.c (.s .z) (.c .z .n)))) ?_
 first | (rw [grant_f (by assumption)]; exact ⟨_, _, _, _, rfl, rfl⟩) | (rw [grant_3 hkf (by assumption)]; exact ⟨_, _, _, _, rfl, rfl⟩) | (rw [grant_7 hkf hie (by assumption)]; exact ⟨_, _, _, _, rfl, rfl⟩) | (rw [grant_2 hkf hie (by assumption) (by omega)]; exact ⟨_, _, _, _, rfl, rfl⟩) | (rw [grant_0 (i := q) hkf hie (by assumption) (by omega) (grantI_eq hallq hq (.inl (by omega)))]; exact ⟨_, _, _, _, rfl, rfl⟩)
 have hie : isExt k.disk.blocks.length (⟨f, c, key⟩ : DExt) := b12
 have hif : (1 ≤ key ∧ key ≤ 9999) ∧ (0 ≤ f ∧ f ≤ (k.disk.blocks.length : Int)) ∧ (1 ≤ c ∧ c ≤ (k.disk.blocks.length : Int)) ∧ f + c ≤ (k.disk.blocks.length : Int) := hie
 obtain ⟨⟨hn1, hn2⟩, ⟨hn3, hn4⟩, ⟨hn5, hn6⟩, hn7⟩ := hif
 refine FJ.seq (FJ.region (FJ.ql rfl (q_fieldAddr rfl (.t (.s16 .z)) (fun _ => fa_43_1 _ _)) (FJ.ql rfl (q_load rfl ag_41 (.t .z) (WS.row (.s (.s .z)) rfl)) (FJ.ql rfl (q_makeFunc rfl args0 (args1 (.t (.s4 (.s (.s (.s .z))))))) ?_))))
 refine FJ.call (goes_list rfl) rfl (by decide) rfl (c_call rfl Try.func122 rfl rfl (args2 (.t (.s .z)) (.t .z))) .n (fun w1 S1 hs tr => c_122 (tr.ctx h0_2) Try.func123 rfl rfl (fun w2 S2 h2 x => c_123 (n := (⟨f, c, key⟩ : DExt)) (kT_135_mk x) (PtrRo.wide (tr.ptr .z (kT_135_mk (⟨f, c, key⟩ : DExt))) h2))) ?_
 rintro _ _ ⟨rfl, rfl⟩
 refine FJ.cat .n ?_
 refine FJ.ql rfl (q_assign rfl (.t .z)) (FJ.nil (FJ.then_ ?_))
 refine FJ.cond (.t .z) (fun b17 => ?_) (fun b17 => ?_)
 refine FJ.seq (FJ.region ?_)
 refine FJ.ql rfl (q_build (ps := [(0, .int .i64 7)]) (cs := [.int .i64 7, .slice none 0 0, .slice none 0 0, .slice none 0 0, .slice none 0 0]) rfl bl_45 (by intro act hact; simp only [List.map_toArray, List.map_cons, List.map_nil, (show Val _ _ _ from .c) act hact]) rfl) ?_
 refine FJ.es (goes_list rfl) rfl (es_store (off := 0) (cs := [.int .i64 7, .slice none 0 0, .slice none 0 0, .slice none 0 0, .slice none 0 0]) rfl sz_45 (.t (.s16 (.s4 (.s .z)))) (.t .z) rfl (ones rfl) (.s .z) (Nat.le_of_ble_eq_true rfl) (.c .z (.c (.s .z) (.c (.s (.s .z)) (.c (.s (.s (.s .z))) (.c (.s (.s (.s (.s .z)))) .n)))))) ?_
 refine FJ.nil (FJ.then_ (FJ.ret (FJ.inBR (FJ.thenR ?_))))
 refine FJ.add (c := ownA kSl_2 [] [.slice none 0 0]) (fun w S => own_nil w S none) ?_
 refine FJ.add (c := ownA kSl_40 [] [.slice none 0 0]) (fun w S => own_nil w S none) ?_
 refine FJ.add (c := ownA kSl_57 [] [.slice none 0 0]) (fun w S => own_nil w S none) ?_
 refine FJ.add (c := ownA kSl_135 [] [.slice none 0 0]) (fun w S => own_nil w S none) ?_
 refine FJ.doneS (resC (cs := [.int .i64 7, .slice none 0 0, .slice none 0 0, .slice none 0 0, .slice none 0 0]) rfl (.s16 (.s4 (.s .z))) ag_45 sz_45 (WS.rows0 (cs := [.int .i64 7, .slice none 0 0, .slice none 0 0, .slice none 0 0, .slice none 0 0]) (.s4 .z) (fun _ _ h => h))) (.c (.s (.s (.s .z))) (.c (.s (.s .z)) (.c (.s .z) (.c .z .n)))) ?_
 first | (rw [grant_f (by assumption)]; exact ⟨_, _, _, _, rfl, rfl⟩) | (rw [grant_3 hkf (by assumption)]; exact ⟨_, _, _, _, rfl, rfl⟩) | (rw [grant_7 hkf hie (by assumption)]; exact ⟨_, _, _, _, rfl, rfl⟩) | (rw [grant_2 hkf hie (by assumption) (by omega)]; exact ⟨_, _, _, _, rfl, rfl⟩) | (rw [grant_0 (i := q) hkf hie (by assumption) (by omega) (grantI_eq hallq hq (.inl (by omega)))]; exact ⟨_, _, _, _, rfl, rfl⟩)
 refine FJ.seq (FJ.region (FJ.ql rfl (q_fieldAddr rfl (.t (.s16 (.s4 (.s .z)))) (fun _ => fa_43_1 _ _)) (FJ.ql rfl (q_load rfl ag_41 (.t .z) (WS.row (.s (.s .z)) rfl)) (FJ.ql rfl (q_len rfl u_41 (.t .z)) ?_))))
 refine FJ.ql rfl (q_eql rfl (.t .z) .c) (FJ.ql rfl (q_assign rfl (.t .z)) (FJ.nil (FJ.then_ ?_)))
 refine FJ.condP (.t .z) (fun b22 => ?_) (fun b22 => ?_)
 refine FJ.seq (FJ.region ?_)
 refine FJ.ql rfl (q_build (ps := [(0, .int .i64 2)]) (cs := [.int .i64 2, .slice none 0 0, .slice none 0 0, .slice none 0 0, .slice none 0 0]) rfl bl_45 (by intro act hact; simp only [List.map_toArray, List.map_cons, List.map_nil, (show Val _ _ _ from .c) act hact]) rfl) ?_
 refine FJ.es (goes_list rfl) rfl (es_store (off := 0) (cs := [.int .i64 2, .slice none 0 0, .slice none 0 0, .slice none 0 0, .slice none 0 0]) rfl sz_45 (.t (.s16 (.s4 (.s4 (.s (.s .z)))))) (.t .z) rfl (ones rfl) (.s .z) (Nat.le_of_ble_eq_true rfl) (.c .z (.c (.s .z) (.c (.s (.s .z)) (.c (.s (.s (.s .z))) (.c (.s (.s (.s (.s .z)))) .n)))))) ?_
 refine FJ.nil (FJ.then_ (FJ.ret (FJ.inBR (FJ.thenR ?_))))
 refine FJ.add (c := ownA kSl_2 [] [.slice none 0 0]) (fun w S => own_nil w S none) ?_
 refine FJ.add (c := ownA kSl_40 [] [.slice none 0 0]) (fun w S => own_nil w S none) ?_
 refine FJ.add (c := ownA kSl_57 [] [.slice none 0 0]) (fun w S => own_nil w S none) ?_
 refine FJ.add (c := ownA kSl_135 [] [.slice none 0 0]) (fun w S => own_nil w S none) ?_
 refine FJ.doneS (resC (cs := [.int .i64 2, .slice none 0 0, .slice none 0 0, .slice none 0 0, .slice none 0 0]) rfl (.s16 (.s4 (.s4 (.s (.s .z))))) ag_45 sz_45 (WS.rows0 (cs := [.int .i64 2, .slice none 0 0, .slice none 0 0, .slice none 0 0, .slice none 0 0]) (.s4 .z) (fun _ _ h => h))) (.c (.s (.s (.s .z))) (.c (.s (.s .z)) (.c (.s .z) (.c .z .n)))) ?_
 first | (rw [grant_f (by assumption)]; exact ⟨_, _, _, _, rfl, rfl⟩) | (rw [grant_3 hkf (by assumption)]; exact ⟨_, _, _, _, rfl, rfl⟩) | (rw [grant_7 hkf hie (by assumption)]; exact ⟨_, _, _, _, rfl, rfl⟩) | (rw [grant_2 hkf hie (by assumption) (by omega)]; exact ⟨_, _, _, _, rfl, rfl⟩) | (rw [grant_0 (i := q) hkf hie (by assumption) (by omega) (grantI_eq hallq hq (.inl (by omega)))]; exact ⟨_, _, _, _, rfl, rfl⟩)
 refine FJ.skip (FJ.inBN (FJ.then_ (FJ.seq (FJ.region ?_))))
 refine FJ.ql rfl (q_loadA (cs := [.slice A0_0 k.disk.blocks.length c0_0, .slice A0_1 k.disk.cache.length c0_1, .slice A0_2 k.exts.length c0_2]) rfl ag_43 sz_43 (.t (.s16 (.s4 (.s4 (.s (.s .z)))))) (WS.rows0 (.s (.s .z)) (fun i u h => by exact h))) ?_
 refine FJ.call (goes_list rfl) rfl (by decide) rfl (c_call rfl Try.func124 rfl rfl (args1 (.t .z))) .n (fun w1 S1 hs tr => c_124 (kT_43_mk k (tr.ctx h0_0) (tr.ctx h0_1) (tr.ctx h0_2))) ?_
 rintro _ _ ⟨v27, v29, v31, rfl, rfl⟩
 refine FJ.cat (.c (.c (.c .n))) ?_
 refine FJ.know (WS.oform .z) ?_
 rintro ⟨Ao33, co33, rfl, hlo33, hmo33, hbo33⟩
 refine FJ.know (WS.oform (.s .z)) ?_
 rintro ⟨Ao34, co34, rfl, hlo34, hmo34, hbo34⟩
 refine FJ.know (WS.oform (.s (.s .z))) ?_
 rintro ⟨Ao35, co35, rfl, hlo35, hmo35, hbo35⟩
 refine FJ.e (goes_list rfl) rfl (by decide) rfl (e_alloc rfl z_43 rfl rfl) ?_
 rintro _ _ ⟨g36, rfl, rfl⟩
 refine FJ.es (goes_list rfl) rfl (es_store (off := 0) (cs := [.slice Ao33 k.disk.blocks.length co33, .slice Ao34 k.disk.cache.length co34, .slice Ao35 k.exts.length co35]) rfl sz_43 (.t .z) (.t (.s .z)) rfl (ones rfl) .z (Nat.le_of_ble_eq_true rfl) (.c .z (.c (.s .z) (.c (.s (.s .z)) .n)))) ?_
 refine FJ.nil (FJ.then_ (FJ.seq (FJ.region (FJ.ql rfl (q_assign rfl .c) ?_))))
 refine FJ.nil (FJ.then_ (FJ.seq (FJ.block ?_)))
 refine FJ.loopi (γ := Nat) (fun q => [(12, .int .i64 (q : Int)), (11, .pointer (some ⟨g36, 0, none⟩)), (10, .pointer (some ⟨g11, 0, none⟩)), (8, .pointer (some ⟨g5, 0, none⟩)), (1, .int .i64 f)]) (fun q => [rowA g36 43 3 1 [.slice Ao33 k.disk.blocks.length co33, .slice Ao34 k.disk.cache.length co34, .slice Ao35 k.exts.length co35], ownA kSl_40 k.disk.blocks [.slice Ao33 k.disk.blocks.length co33], ownA kSl_57 k.disk.cache [.slice Ao34 k.disk.cache.length co34], ownA kSl_135 k.exts [.slice Ao35 k.exts.length co35], rowA g11 135 3 1 [.int .i64 f, .int .i64 c, .int .i64 key], rowA g5 45 5 1 [.int .i64 0, .slice none 0 0, .slice none 0 0, .slice none 0 0, .slice none 0 0], rowA g4 43 3 1 [.slice A0_0 k.disk.blocks.length c0_0, .slice A0_1 k.disk.cache.length c0_1, .slice A0_2 k.exts.length c0_2]]) (fun q => q ≤ k.exts.length ∧ ∀ (j : Nat) (e : DExt), j < q → k.exts[j]? = some e → e.frm < f) (fun q => k.exts.length - q) 0 ⟨Nat.zero_le _, all_zero (q := fun _ (e : DExt) => e.frm < f)⟩ (.c .z (.c (.s .z) (.c (.s16 (.s (.s (.s .z)))) (.c (.s16 (.s4 (.s4 (.s4 (.s .z))))) (.c (.s16 (.s16 .z)) .n))))) (fun _ h => h.sel (.c .z (.c .z (.c .z (.c .z (.c .z (.c .z (.c .z .n)))))))) ?_
 rintro q ⟨hq, hallq⟩
 refine FJ.seq (FJ.seq (FJ.region (FJ.ql rfl (q_move rfl (.t .z)) (FJ.ql rfl (q_fieldAddr rfl (.t (.s (.s .z))) (fun _ => fa_43_1 _ _)) ?_))))
 refine FJ.ql rfl (q_load rfl ag_41 (.t .z) (WS.row .z rfl)) (FJ.ql rfl (q_len rfl u_41 (.t .z)) (FJ.ql rfl (q_lss rfl (.t (.s (.s (.s .z)))) (.t .z)) (FJ.ql rfl (q_move rfl (.t .z)) ?_)))
 refine FJ.caseP .z (fun g37 => ?_) (fun g37 => ?_)
 refine FJ.q (goes_listg rfl rfl .z) rfl (by decide) rfl (q_fieldAddr rfl (.t (.s4 (.s (.s (.s .z))))) (fun _ => fa_43_1 _ _)) ?_
 refine FJ.q (goes_listg rfl rfl (.s .z)) rfl (by decide) rfl (q_load rfl ag_41 (.t .z) (WS.row .z rfl)) ?_
 refine FJ.q (goes_listg rfl rfl (.s (.s .z))) rfl (by decide) rfl (q_move rfl (.t (.s4 (.s4 .z)))) ?_
 refine FJ.open (.c (.s (.s (.s .z))) .n) own_raw ?_
 rintro fc38 hlfc38
 obtain ⟨y39, hy39⟩ := get_ex (xs := k.exts) (j := q) (by omega)
 obtain ⟨c40, hc40⟩ := get_ex (xs := fc38) (j := q) (by rw [hlfc38]; exact (List.getElem?_eq_some_iff.1 hy39).1)
 refine FJ.turn (.s .z) (seq_split hy39 hc40) ?_
 refine FJ.open (.c .z .n) kT_135_op ?_
 rintro ⟨⟩ rfl
 refine FJ.know (WS.oad (.s (.s .z)) (by omega)) ?_
 rintro ⟨ad41, rfl⟩
 refine FJ.q (goes_listg rfl rfl (.s (.s (.s .z)))) rfl (by decide) rfl (q_indexAddr (j := q) rfl u_41 sz_135 (.t (.s .z)) (.t .z) rfl (by omega)) ?_
 refine FJ.q (goes_listg rfl rfl (.s4 .z)) rfl (by decide) rfl (q_fieldAddr rfl (.t .z) (fun _ => fa_135_0 _ _)) ?_
 refine FJ.q (goes_listg rfl rfl (.s4 (.s .z))) rfl (by decide) rfl (q_load rfl ag_2 (.t .z) (WS.raw (.s (.s .z)) hc40 rfl)) ?_
 refine FJ.q (goes_listg rfl rfl (.s4 (.s (.s .z)))) rfl (by decide) rfl (q_move rfl (.t (.s16 .z))) ?_
 refine FJ.q (goes_listg rfl rfl (.s4 (.s (.s (.s .z))))) rfl (by decide) rfl (q_lss rfl (.t (.s .z)) (.t .z)) ?_
 refine FJ.ql rfl (q_pickT rfl (.t (.s4 (.s4 .z))) (.t .z)) (FJ.nil (FJ.then_ ?_))
 refine FJ.condP (.t .z) (fun b43 => ?_) (fun b43 => ?_)
 refine FJ.skip (FJ.then_ (FJ.block (FJ.region (FJ.ql rfl (q_move rfl (.t (.s4 (.s4 (.s4 (.s (.s (.s .z)))))))) ?_))))
 refine FJ.ql rfl (q_add (c := ((q + 1 : Nat) : Int)) rfl (.t .z) .c (wr (by omega) (by omega) (by omega))) ?_
 refine FJ.er (.s16 (.s .z)) (FJ.ql rfl (q_assign rfl (.t .z)) (FJ.nil (FJ.inBN ?_)))
 refine FJ.turns (c := ownA kT_135 y39 [.int .i64 y39.frm, .int .i64 y39.cnt, .int .i64 y39.key]) .n (fun w S h => kT_135_omk y39 h) ?_
 refine FJ.turns (c := ownA kSl_135 k.exts [.slice (some ad41) k.exts.length co35]) (.c (.s (.s (.s .z))) (.c .z (.c .z (.c .z .n)))) (own_unfocus0 (K := kT_135) hlfc38 hy39 hc40) ?_
 refine FJ.again (q + 1) ⟨by omega, all_succ (q := fun _ (e : DExt) => e.frm < f) hallq hy39 (by assumption)⟩ (by first | omega | (dsimp only; omega)) (.c .z (.c (.s16 (.s (.s .z))) (.c (.s16 (.s (.s (.s .z)))) (.c (.s16 (.s4 .z)) (.c (.s16 (.s4 (.s .z))) .n))))) (fun _ h => h.sel (.c (.s .z) (.c (.s .z) (.c (.s .z) (.c .z (.c .z (.c .z (.c .z .n))))))))
 refine FJ.exit (FJ.thenE (FJ.thenE (FJ.inB (FJ.then_ ?_))))
 refine FJ.seq (FJ.region (FJ.ql rfl (q_fieldAddr rfl (.t (.s16 .z)) (fun _ => fa_43_1 _ _)) (FJ.ql rfl (q_load rfl ag_41 (.t .z) (WS.row (.s (.s (.s .z))) rfl)) (FJ.ql rfl (q_move rfl (.t (.s16 (.s .z)))) ?_))))
 refine FJ.ql rfl (q_loadA (cs := [.int .i64 f, .int .i64 c, .int .i64 key]) rfl ag_135 sz_135 (.t (.s16 (.s4 .z))) (WS.rows0 (.s4 (.s (.s .z))) (fun i u h => by exact h))) ?_
 refine FJ.e (goes_list rfl) rfl (by decide) rfl (e_buildSliceL (ps := [(0, .agg #[.int .i64 f, .int .i64 c, .int .i64 key])]) (cs := [.int .i64 f, .int .i64 c, .int .i64 key]) rfl u_41 (inz inf_135) (by decide) (by intro act hact; simp only [List.map_toArray, List.map_cons, List.map_nil, (show Val _ _ _ from (.t .z)) act hact]) rfl rfl (by decide) rfl rfl) ?_
 rintro _ _ ⟨g45, rfl, rfl⟩
 refine FJ.turns (c := ownA kT_135 y39 [.int .i64 y39.frm, .int .i64 y39.cnt, .int .i64 y39.key]) .n (fun w S h => kT_135_omk y39 h) ?_
 refine FJ.turns (c := ownA kSl_135 k.exts [.slice (some ad41) k.exts.length co35]) (.c (.s4 .z) (.c .z (.c (.s .z) (.c (.s .z) .n)))) (own_unfocus0 (K := kT_135) hlfc38 hy39 hc40) ?_
 refine FJ.turns (c := ownA kT_135 (⟨f, c, key⟩ : DExt) [.int .i64 f, .int .i64 c, .int .i64 key]) .n (fun w S h => kT_135_omk (⟨f, c, key⟩ : DExt) h) ?_
 refine FJ.turns (c := ownA kSl_135 [(⟨f, c, key⟩ : DExt)] [.slice (some ⟨g45, 0, none⟩) 1 1]) (.c (.s (.s .z)) (.c .z .n)) (lit1_own rfl rfl (by decide)) ?_
 refine FJ.call (goes_list rfl) rfl (by decide) rfl (c_call rfl Try.func125 rfl rfl (args3 (.t (.s (.s (.s .z)))) (.t (.s (.s .z))) (.t .z))) (.c (.s .z) (.c .z .n)) (fun w1 S1 hs tr => c_125 (x := k.exts) (ys := [(⟨f, c, key⟩ : DExt)]) _ hs (by first | omega | (simp only [List.length_cons, List.length_nil]; omega)) (by first | omega | (simp only [List.length_cons, List.length_nil]; omega)) (by first | omega | (simp only [List.length_cons, List.length_nil]; omega)) (by first | omega | (simp only [List.length_cons, List.length_nil]; omega))) ?_
 rintro _ _ rfl
 refine FJ.cat (.c .n) ?_
 refine FJ.know (WS.oform .z) ?_
 rintro ⟨Ao50, co50, rfl, hlo50, hmo50, hbo50⟩
 refine FJ.ql rfl (q_fieldAddr rfl (.t (.s16 (.s4 (.s (.s .z))))) (fun _ => fa_43_1 _ _)) ?_
 refine FJ.es (goes_list rfl) rfl (es_store (off := 2) (cs := [.slice Ao50 (List.take q k.exts ++ ([(⟨f, c, key⟩ : DExt)]) ++ List.drop q k.exts).length co50]) rfl sz_41 (.t .z) (.t (.s .z)) rfl (ones rfl) (.s .z) (Nat.le_of_ble_eq_true rfl) (.c (.s (.s .z)) .n)) ?_
 refine FJ.nil (FJ.then_ (FJ.seq (FJ.region ?_)))
 refine FJ.ql rfl (q_loadA (cs := [.slice Ao33 k.disk.blocks.length co33, .slice Ao34 k.disk.cache.length co34, .slice Ao50 (List.take q k.exts ++ ([(⟨f, c, key⟩ : DExt)]) ++ List.drop q k.exts).length co50]) rfl ag_43 sz_43 (.t (.s16 (.s4 (.s (.s (.s .z)))))) (WS.rows0 .z (fun i u h => by exact h))) ?_
 refine FJ.ql rfl (q_build (ps := [(2, .agg #[.slice Ao33 k.disk.blocks.length co33, .slice Ao34 k.disk.cache.length co34, .slice Ao50 (List.take q k.exts ++ ([(⟨f, c, key⟩ : DExt)]) ++ List.drop q k.exts).length co50])]) (cs := [.int .i64 0, .slice none 0 0, .slice Ao33 k.disk.blocks.length co33, .slice Ao34 k.disk.cache.length co34, .slice Ao50 (List.take q k.exts ++ ([(⟨f, c, key⟩ : DExt)]) ++ List.drop q k.exts).length co50]) rfl bl_45 (by intro act hact; simp only [List.map_toArray, List.map_cons, List.map_nil, (show Val _ _ _ from (.t .z)) act hact]) rfl) ?_
 refine FJ.es (goes_list rfl) rfl (es_store (off := 0) (cs := [.int .i64 0, .slice none 0 0, .slice Ao33 k.disk.blocks.length co33, .slice Ao34 k.disk.cache.length co34, .slice Ao50 (List.take q k.exts ++ ([(⟨f, c, key⟩ : DExt)]) ++ List.drop q k.exts).length co50]) rfl sz_45 (.t (.s16 (.s4 (.s4 (.s (.s (.s .z))))))) (.t .z) rfl (ones rfl) (.s4 (.s .z)) (Nat.le_of_ble_eq_true rfl) (.c .z (.c (.s .z) (.c (.s (.s .z)) (.c (.s (.s (.s .z))) (.c (.s (.s (.s (.s .z)))) .n)))))) ?_
 refine FJ.nil (FJ.then_ (FJ.ret ?_))
 refine FJ.add (c := ownA kSl_2 [] [.slice none 0 0]) (fun w S => own_nil w S none) ?_
 refine FJ.doneS (resC (cs := [.int .i64 0, .slice none 0 0, .slice Ao33 k.disk.blocks.length co33, .slice Ao34 k.disk.cache.length co34, .slice Ao50 (List.take q k.exts ++ ([(⟨f, c, key⟩ : DExt)]) ++ List.drop q k.exts).length co50]) rfl (.s16 (.s4 (.s4 (.s (.s (.s .z)))))) ag_45 sz_45 (WS.rows0 (cs := [.int .i64 0, .slice none 0 0, .slice Ao33 k.disk.blocks.length co33, .slice Ao34 k.disk.cache.length co34, .slice Ao50 (List.take q k.exts ++ ([(⟨f, c, key⟩ : DExt)]) ++ List.drop q k.exts).length co50]) (.s .z) (fun _ _ h => h))) (.c .z (.c (.s (.s (.s .z))) (.c (.s (.s (.s .z))) (.c (.s (.s .z)) .n)))) ?_
 first | (rw [grant_f (by assumption)]; exact ⟨_, _, _, _, rfl, rfl⟩) | (rw [grant_3 hkf (by assumption)]; exact ⟨_, _, _, _, rfl, rfl⟩) | (rw [grant_7 hkf hie (by assumption)]; exact ⟨_, _, _, _, rfl, rfl⟩) | (rw [grant_2 hkf hie (by assumption) (by omega)]; exact ⟨_, _, _, _, rfl, rfl⟩) | (rw [grant_0 (i := q) hkf hie (by assumption) (by omega) (grantI_eq hallq hq (.inr ⟨_, hy39, by assumption⟩))]; exact ⟨_, _, _, _, rfl, rfl⟩)
 refine FJ.skipl rfl rfl .z rfl rfl (by decide) rfl ?_
 refine FJ.skipl rfl rfl (.s .z) rfl rfl (by decide) rfl ?_
 refine FJ.skipl rfl rfl (.s (.s .z)) rfl rfl (by decide) rfl ?_
 refine FJ.skipl rfl rfl (.s (.s (.s .z))) rfl rfl (by decide) rfl ?_
 refine FJ.skipl rfl rfl (.s4 .z) rfl rfl (by decide) rfl ?_
 refine FJ.skipl rfl rfl (.s4 (.s .z)) rfl rfl (by decide) rfl ?_
 refine FJ.skipl rfl rfl (.s4 (.s (.s .z))) rfl rfl (by decide) rfl ?_
 refine FJ.skipl rfl rfl (.s4 (.s (.s (.s .z)))) rfl rfl (by decide) rfl ?_
 refine FJ.ql rfl (q_pickF rfl (.t (.s4 (.s4 .z))) .c) (FJ.nil (FJ.then_ ?_))
 refine FJ.condF (.t .z) ?_
 refine FJ.exit (FJ.thenE (FJ.thenE (FJ.inB (FJ.then_ ?_))))
 refine FJ.seq (FJ.region (FJ.ql rfl (q_fieldAddr rfl (.t (.s16 .z)) (fun _ => fa_43_1 _ _)) (FJ.ql rfl (q_load rfl ag_41 (.t .z) (WS.row .z rfl)) (FJ.ql rfl (q_move rfl (.t (.s16 (.s .z)))) ?_))))
 refine FJ.ql rfl (q_loadA (cs := [.int .i64 f, .int .i64 c, .int .i64 key]) rfl ag_135 sz_135 (.t (.s16 (.s4 .z))) (WS.rows0 (.s4 .z) (fun i u h => by exact h))) ?_
 refine FJ.e (goes_list rfl) rfl (by decide) rfl (e_buildSliceL (ps := [(0, .agg #[.int .i64 f, .int .i64 c, .int .i64 key])]) (cs := [.int .i64 f, .int .i64 c, .int .i64 key]) rfl u_41 (inz inf_135) (by decide) (by intro act hact; simp only [List.map_toArray, List.map_cons, List.map_nil, (show Val _ _ _ from (.t .z)) act hact]) rfl rfl (by decide) rfl rfl) ?_
 rintro _ _ ⟨g52, rfl, rfl⟩
 refine FJ.turns (c := ownA kT_135 (⟨f, c, key⟩ : DExt) [.int .i64 f, .int .i64 c, .int .i64 key]) .n (fun w S h => kT_135_omk (⟨f, c, key⟩ : DExt) h) ?_
 refine FJ.turns (c := ownA kSl_135 [(⟨f, c, key⟩ : DExt)] [.slice (some ⟨g52, 0, none⟩) 1 1]) (.c (.s .z) (.c .z .n)) (lit1_own rfl rfl (by decide)) ?_
 refine FJ.call (goes_list rfl) rfl (by decide) rfl (c_call rfl Try.func125 rfl rfl (args3 (.t (.s (.s (.s .z)))) (.t (.s (.s .z))) (.t .z))) (.c (.s4 .z) (.c .z .n)) (fun w1 S1 hs tr => c_125 (x := k.exts) (ys := [(⟨f, c, key⟩ : DExt)]) _ hs (by first | omega | (simp only [List.length_cons, List.length_nil]; omega)) (by first | omega | (simp only [List.length_cons, List.length_nil]; omega)) (by first | omega | (simp only [List.length_cons, List.length_nil]; omega)) (by first | omega | (simp only [List.length_cons, List.length_nil]; omega))) ?_
 rintro _ _ rfl
 refine FJ.cat (.c .n) ?_
 refine FJ.know (WS.oform .z) ?_
 rintro ⟨Ao56, co56, rfl, hlo56, hmo56, hbo56⟩
 refine FJ.ql rfl (q_fieldAddr rfl (.t (.s16 (.s4 (.s (.s .z))))) (fun _ => fa_43_1 _ _)) ?_
 refine FJ.es (goes_list rfl) rfl (es_store (off := 2) (cs := [.slice Ao56 (List.take q k.exts ++ ([(⟨f, c, key⟩ : DExt)]) ++ List.drop q k.exts).length co56]) rfl sz_41 (.t .z) (.t (.s .z)) rfl (ones rfl) (.s .z) (Nat.le_of_ble_eq_true rfl) (.c (.s (.s .z)) .n)) ?_
 refine FJ.nil (FJ.then_ (FJ.seq (FJ.region ?_)))
 refine FJ.ql rfl (q_loadA (cs := [.slice Ao33 k.disk.blocks.length co33, .slice Ao34 k.disk.cache.length co34, .slice Ao56 (List.take q k.exts ++ ([(⟨f, c, key⟩ : DExt)]) ++ List.drop q k.exts).length co56]) rfl ag_43 sz_43 (.t (.s16 (.s4 (.s (.s (.s .z)))))) (WS.rows0 .z (fun i u h => by exact h))) ?_
 refine FJ.ql rfl (q_build (ps := [(2, .agg #[.slice Ao33 k.disk.blocks.length co33, .slice Ao34 k.disk.cache.length co34, .slice Ao56 (List.take q k.exts ++ ([(⟨f, c, key⟩ : DExt)]) ++ List.drop q k.exts).length co56])]) (cs := [.int .i64 0, .slice none 0 0, .slice Ao33 k.disk.blocks.length co33, .slice Ao34 k.disk.cache.length co34, .slice Ao56 (List.take q k.exts ++ ([(⟨f, c, key⟩ : DExt)]) ++ List.drop q k.exts).length co56]) rfl bl_45 (by intro act hact; simp only [List.map_toArray, List.map_cons, List.map_nil, (show Val _ _ _ from (.t .z)) act hact]) rfl) ?_
 refine FJ.es (goes_list rfl) rfl (es_store (off := 0) (cs := [.int .i64 0, .slice none 0 0, .slice Ao33 k.disk.blocks.length co33, .slice Ao34 k.disk.cache.length co34, .slice Ao56 (List.take q k.exts ++ ([(⟨f, c, key⟩ : DExt)]) ++ List.drop q k.exts).length co56]) rfl sz_45 (.t (.s16 (.s4 (.s4 (.s (.s (.s .z))))))) (.t .z) rfl (ones rfl) (.s4 (.s .z)) (Nat.le_of_ble_eq_true rfl) (.c .z (.c (.s .z) (.c (.s (.s .z)) (.c (.s (.s (.s .z))) (.c (.s (.s (.s (.s .z)))) .n)))))) ?_
 refine FJ.nil (FJ.then_ (FJ.ret ?_))
 refine FJ.add (c := ownA kSl_2 [] [.slice none 0 0]) (fun w S => own_nil w S none) ?_
 refine FJ.doneS (resC (cs := [.int .i64 0, .slice none 0 0, .slice Ao33 k.disk.blocks.length co33, .slice Ao34 k.disk.cache.length co34, .slice Ao56 (List.take q k.exts ++ ([(⟨f, c, key⟩ : DExt)]) ++ List.drop q k.exts).length co56]) rfl (.s16 (.s4 (.s4 (.s (.s (.s .z)))))) ag_45 sz_45 (WS.rows0 (cs := [.int .i64 0, .slice none 0 0, .slice Ao33 k.disk.blocks.length co33, .slice Ao34 k.disk.cache.length co34, .slice Ao56 (List.take q k.exts ++ ([(⟨f, c, key⟩ : DExt)]) ++ List.drop q k.exts).length co56]) (.s .z) (fun _ _ h => h))) (.c .z (.c (.s (.s (.s .z))) (.c (.s (.s (.s .z))) (.c (.s (.s .z)) .n)))) ?_
 first | (rw [grant_f (by assumption)]; exact ⟨_, _, _, _, rfl, rfl⟩) | (rw [grant_3 hkf (by assumption)]; exact ⟨_, _, _, _, rfl, rfl⟩) | (rw [grant_7 hkf hie (by assumption)]; exact ⟨_, _, _, _, rfl, rfl⟩) | (rw [grant_2 hkf hie (by assumption) (by omega)]; exact ⟨_, _, _, _, rfl, rfl⟩) | (rw [grant_0 (i := q) hkf hie (by assumption) (by omega) (grantI_eq hallq hq (.inl (by omega)))]; exact ⟨_, _, _, _, rfl, rfl⟩)

set_option maxHeartbeats 1000000 in
set_option maxRecDepth 20000 in
theorem c_66 {w0 : World} {S0 : Bs} {k : DKern} {cs0 : List Value} (h0 : kT_43.ro w0 (FF w0 S0) k cs0) (f : Int) (c : Int) (key : Int)  :
    Calls Try.prog 66 #[.agg cs0.toArray, .int .i64 f, .int .i64 c, .int .i64 key] w0 (TriPost w0 S0 (RA_45 (grant k ⟨f, c, key⟩))) := by
 obtain ⟨u0_0, u0_1, u0_2, rfl, h0_0, h0_1, h0_2⟩ := kT_43_ro h0
 obtain ⟨A0_0, c0_0, rfl, hl0_0, hm0_0, hb0_0, he0_0⟩ := ro_form h0_0
 obtain ⟨A0_1, c0_1, rfl, hl0_1, hm0_1, hb0_1, he0_1⟩ := ro_form h0_1
 obtain ⟨A0_2, c0_2, rfl, hl0_2, hm0_2, hb0_2, he0_2⟩ := ro_form h0_2
 refine FJ.enter (N := 96) Try.func66 rfl rfl (by simp) [(0, .agg #[.slice A0_0 k.disk.blocks.length c0_0, .slice A0_1 k.disk.cache.length c0_1, .slice A0_2 k.exts.length c0_2]), (1, .int .i64 f), (2, .int .i64 c), (3, .int .i64 key)] (by simp) (l0 := []) trivial ?_
 refine FJ.seq (FJ.region ?_)
 refine FJ.e (goes_list rfl) rfl (by decide) rfl (e_box (cs := [.slice A0_0 k.disk.blocks.length c0_0, .slice A0_1 k.disk.cache.length c0_1, .slice A0_2 k.exts.length c0_2]) (n := 3) rfl (.t .z) rfl rfl) ?_
 rintro _ _ ⟨g4, rfl, rfl⟩
 refine FJ.e (goes_list rfl) rfl (by decide) rfl (e_alloc rfl z_45 rfl rfl) ?_
 rintro _ _ ⟨g5, rfl, rfl⟩
 refine FJ.nil (FJ.then_ (FJ.seq (FJ.seq (FJ.region ?_))))
 refine FJ.call (goes_list rfl) rfl (by decide) rfl (c_call rfl Try.func110 rfl rfl (args1 (.t (.s .z)))) .n (fun w1 S1 hs tr => c_110 (tr.ptr (.s .z) (kT_43_mk k (tr.ctx h0_0) (tr.ctx h0_1) (tr.ctx h0_2)))) ?_
 rintro _ _ ⟨rfl, rfl⟩
 refine FJ.cat .n ?_
 refine FJ.ql rfl (q_assign rfl (.t .z)) (FJ.nil (FJ.then_ (FJ.seq (FJ.region ?_))))
 refine FJ.ql rfl (q_move rfl (.t .z)) (FJ.ql rfl (q_neq rfl (.t .z) .c) (FJ.nil (FJ.then_ ?_)))
 refine FJ.condN (.t .z) (fun b6 => ?_) (fun b6 => ?_)
 refine FJ.seq (FJ.region (FJ.ql rfl (q_move rfl (.t (.s (.s .z)))) ?_))
 refine FJ.call (goes_list rfl) rfl (by decide) rfl (c_call rfl Try.func89 rfl rfl (args1 (.t .z))) .n (fun w1 S1 hs tr => c_89 _) ?_
 rintro _ _ ⟨v7, v9, v11, v13, rfl, rfl⟩
 refine FJ.cat (.c (.c (.c (.c .n)))) ?_
 refine FJ.know (WS.oform .z) ?_
 rintro ⟨Ao15, co15, rfl, hlo15, hmo15, hbo15⟩
 refine FJ.know (WS.oform (.s .z)) ?_
 rintro ⟨Ao16, co16, rfl, hlo16, hmo16, hbo16⟩
 refine FJ.know (WS.oform (.s (.s .z))) ?_
 rintro ⟨Ao17, co17, rfl, hlo17, hmo17, hbo17⟩
 refine FJ.know (WS.oform (.s (.s (.s .z)))) ?_
 rintro ⟨Ao18, co18, rfl, hlo18, hmo18, hbo18⟩
 refine FJ.es (goes_list rfl) rfl (es_store (off := 0) (cs := [.int .i64 ((badKern (kernFault k)).code), .slice Ao15 ((badKern (kernFault k)).words).length co15, .slice Ao16 ((badKern (kernFault k)).kern.disk.blocks).length co16, .slice Ao17 ((badKern (kernFault k)).kern.disk.cache).length co17, .slice Ao18 ((badKern (kernFault k)).kern.exts).length co18]) rfl sz_45 (.t (.s4 (.s (.s .z)))) (.t .z) rfl (ones rfl) (.s4 .z) (Nat.le_of_ble_eq_true rfl) (.c .z (.c (.s .z) (.c (.s (.s .z)) (.c (.s (.s (.s .z))) (.c (.s (.s (.s (.s .z)))) .n)))))) ?_
 refine FJ.nil (FJ.then_ (FJ.ret (FJ.thenR ?_)))
 refine FJ.doneS (resC (cs := [.int .i64 ((badKern (kernFault k)).code), .slice Ao15 ((badKern (kernFault k)).words).length co15, .slice Ao16 ((badKern (kernFault k)).kern.disk.blocks).length co16, .slice Ao17 ((badKern (kernFault k)).kern.disk.cache).length co17, .slice Ao18 ((badKern (kernFault k)).kern.exts).length co18]) rfl (.s4 (.s (.s .z))) ag_45 sz_45 (WS.rows0 (cs := [.int .i64 ((badKern (kernFault k)).code), .slice Ao15 ((badKern (kernFault k)).words).length co15, .slice Ao16 ((badKern (kernFault k)).kern.disk.blocks).length co16, .slice Ao17 ((badKern (kernFault k)).kern.disk.cache).length co17, .slice Ao18 ((badKern (kernFault k)).kern.exts).length co18]) .z (fun _ _ h => h))) (.c (.s .z) (.c (.s .z) (.c (.s .z) (.c (.s .z) .n)))) ?_
 first | (rw [grant_f (by assumption)]; exact ⟨_, _, _, _, rfl, rfl⟩) | (rw [grant_3 hkf (by assumption)]; exact ⟨_, _, _, _, rfl, rfl⟩) | (rw [grant_2 hkf hie (ov_no (by omega) hallq) (by omega)]; exact ⟨_, _, _, _, rfl, rfl⟩) | (rw [grant_0 (i := m) hkf hie (ov_no (by omega) hallq) (by omega) (GI_end hG (by omega) hq)]; exact ⟨_, _, _, _, rfl, rfl⟩)
 have hkf : kernFault k = 0 := b6
 obtain ⟨hkd, hk8, hkx, hk60⟩ := kernOk hkf
 have hks := kernFault_exts hkf
 refine FJ.skip (FJ.then_ (FJ.seq (FJ.region (FJ.ql rfl (q_move rfl (.t (.s4 (.s (.s (.s .z)))))) ?_))))
 refine FJ.ql rfl (q_move rfl (.t (.s4 (.s4 (.s .z))))) (FJ.ql rfl (q_move rfl (.t (.s4 (.s4 (.s (.s (.s .z))))))) ?_)
 refine FJ.ql rfl (q_build (ps := [(0, .int .i64 f), (1, .int .i64 c), (2, .int .i64 key)]) (cs := [.int .i64 f, .int .i64 c, .int .i64 key]) rfl bl_135 (by intro act hact; simp only [List.map_toArray, List.map_cons, List.map_nil, (show Val _ _ _ from (.t (.s (.s .z)))) act hact, (show Val _ _ _ from (.t (.s .z))) act hact, (show Val _ _ _ from (.t .z)) act hact]) rfl) ?_
 refine FJ.e (goes_list rfl) rfl (by decide) rfl (e_alloc rfl z_135 rfl rfl) ?_
 rintro _ _ ⟨g19, rfl, rfl⟩
 refine FJ.es (goes_list rfl) rfl (es_store (off := 0) (cs := [.int .i64 f, .int .i64 c, .int .i64 key]) rfl sz_135 (.t .z) (.t (.s .z)) rfl (ones rfl) .z (Nat.le_of_ble_eq_true rfl) (.c .z (.c (.s .z) (.c (.s (.s .z)) .n)))) ?_
 refine FJ.nil (FJ.then_ (FJ.seq (FJ.seq (FJ.region ?_))))
 refine FJ.ql rfl (q_loadA (cs := [.int .i64 f, .int .i64 c, .int .i64 key]) rfl ag_135 sz_135 (.t .z) (WS.rows0 .z (fun i u h => by exact h))) ?_
 refine FJ.ql rfl (q_fieldAddr rfl (.t (.s4 (.s4 (.s (.s (.s .z)))))) (fun _ => fa_43_0 _ _)) (FJ.ql rfl (q_fieldAddrA (k := 0) rfl (.t .z) (fun _ => fa_25_0 _ _) rfl) (FJ.ql rfl (q_load rfl ag_22 (.t .z) (WS.row (.s (.s .z)) rfl)) (FJ.ql rfl (q_len rfl u_22 (.t .z)) ?_)))
 refine FJ.call (goes_list rfl) rfl (by decide) rfl (c_call rfl Try.func126 rfl rfl (args2 (.t (.s4 .z)) (.t .z))) .n (fun w1 S1 hs tr => c_126 (kT_135_mk (⟨f, c, key⟩ : DExt)) _ (by omega)) ?_
 rintro _ _ ⟨rfl, rfl⟩
 refine FJ.cat .n ?_
 refine FJ.ql rfl (q_not rfl (.t .z)) (FJ.nil (FJ.then_ ?_))
 refine FJ.condN (.t .z) (fun b20 => ?_) (fun b20 => ?_)
 refine FJ.seq (FJ.region ?_)
 refine FJ.call (goes_list rfl) rfl (by decide) rfl (c_call rfl Try.func89 rfl rfl (args1 .c)) .n (fun w1 S1 hs tr => c_89 _) ?_
 rintro _ _ ⟨v21, v23, v25, v27, rfl, rfl⟩
 refine FJ.cat (.c (.c (.c (.c .n)))) ?_
 refine FJ.know (WS.oform .z) ?_
 rintro ⟨Ao29, co29, rfl, hlo29, hmo29, hbo29⟩
 refine FJ.know (WS.oform (.s .z)) ?_
 rintro ⟨Ao30, co30, rfl, hlo30, hmo30, hbo30⟩
 refine FJ.know (WS.oform (.s (.s .z))) ?_
 rintro ⟨Ao31, co31, rfl, hlo31, hmo31, hbo31⟩
 refine FJ.know (WS.oform (.s (.s (.s .z)))) ?_
 rintro ⟨Ao32, co32, rfl, hlo32, hmo32, hbo32⟩
 refine FJ.es (goes_list rfl) rfl (es_store (off := 0) (cs := [.int .i64 ((badKern 3).code), .slice Ao29 ((badKern 3).words).length co29, .slice Ao30 ((badKern 3).kern.disk.blocks).length co30, .slice Ao31 ((badKern 3).kern.disk.cache).length co31, .slice Ao32 ((badKern 3).kern.exts).length co32]) rfl sz_45 (.t (.s16 (.s .z))) (.t .z) rfl (ones rfl) (.s4 (.s .z)) (Nat.le_of_ble_eq_true rfl) (.c .z (.c (.s .z) (.c (.s (.s .z)) (.c (.s (.s (.s .z))) (.c (.s (.s (.s (.s .z)))) .n)))))) ?_
 refine FJ.nil (FJ.then_ (FJ.ret (FJ.thenR ?_)))
 refine FJ.doneS (resC (cs := [.int .i64 ((badKern 3).code), .slice Ao29 ((badKern 3).words).length co29, .slice Ao30 ((badKern 3).kern.disk.blocks).length co30, .slice Ao31 ((badKern 3).kern.disk.cache).length co31, .slice Ao32 ((badKern 3).kern.exts).length co32]) rfl (.s16 (.s .z)) ag_45 sz_45 (WS.rows0 (cs := [.int .i64 ((badKern 3).code), .slice Ao29 ((badKern 3).words).length co29, .slice Ao30 ((badKern 3).kern.disk.blocks).length co30, .slice Ao31 ((badKern 3).kern.disk.cache).length co31, .slice Ao32 ((badKern 3).kern.exts).length co32]) .z (fun _ _ h => h))) (.c (.s .z) (.c (.s .z) (.c (.s .z) (.c (.s .z) .n)))) ?_
 first | (rw [grant_f (by assumption)]; exact ⟨_, _, _, _, rfl, rfl⟩) | (rw [grant_3 hkf (by assumption)]; exact ⟨_, _, _, _, rfl, rfl⟩) | (rw [grant_2 hkf hie (ov_no (by omega) hallq) (by omega)]; exact ⟨_, _, _, _, rfl, rfl⟩) | (rw [grant_0 (i := m) hkf hie (ov_no (by omega) hallq) (by omega) (GI_end hG (by omega) hq)]; exact ⟨_, _, _, _, rfl, rfl⟩)
 have hie : isExt k.disk.blocks.length (⟨f, c, key⟩ : DExt) := b20
 have hif : (1 ≤ key ∧ key ≤ 9999) ∧ (0 ≤ f ∧ f ≤ (k.disk.blocks.length : Int)) ∧ (1 ≤ c ∧ c ≤ (k.disk.blocks.length : Int)) ∧ f + c ≤ (k.disk.blocks.length : Int) := hie
 obtain ⟨⟨hn1, hn2⟩, ⟨hn3, hn4⟩, ⟨hn5, hn6⟩, hn7⟩ := hif
 refine FJ.skip (FJ.then_ (FJ.seq (FJ.region (FJ.ql rfl (q_assign rfl .c) ?_))))
 refine FJ.nil (FJ.then_ (FJ.seq (FJ.seq (FJ.region ?_))))
 refine FJ.ql rfl (q_assign rfl .c) (FJ.nil (FJ.then_ (FJ.block ?_)))
 refine FJ.loopi (γ := Nat × Nat) (fun ⟨q, m⟩ => [(12, .int .i64 (q : Int)), (11, .int .i64 (m : Int)), (10, .pointer (some ⟨g19, 0, none⟩)), (8, .pointer (some ⟨g5, 0, none⟩)), (4, .pointer (some ⟨g4, 0, none⟩))]) (fun ⟨q, m⟩ => [rowA g19 135 3 1 [.int .i64 f, .int .i64 c, .int .i64 key], rowA g5 45 5 1 [.int .i64 0, .slice none 0 0, .slice none 0 0, .slice none 0 0, .slice none 0 0], rowA g4 43 3 1 [.slice A0_0 k.disk.blocks.length c0_0, .slice A0_1 k.disk.cache.length c0_1, .slice A0_2 k.exts.length c0_2]]) (fun ⟨q, m⟩ => q ≤ k.exts.length ∧ (∀ (j : Nat) (e : DExt), j < q → k.exts[j]? = some e → ovP (⟨f, c, key⟩ : DExt) e = false) ∧ GI k.exts f q m) (fun ⟨q, m⟩ => k.exts.length - q) (0, 0) ⟨Nat.zero_le _, all_zero (q := fun _ (e : DExt) => ovP (⟨f, c, key⟩ : DExt) e = false), GI_0⟩ (.c .z (.c (.s .z) (.c (.s4 (.s4 (.s .z))) (.c (.s16 (.s (.s .z))) (.c (.s16 (.s (.s (.s .z)))) .n))))) (fun _ h => h.sel (.c .z (.c .z (.c .z .n)))) ?_
 rintro ⟨q, m⟩ ⟨hq, hallq, hG⟩
 have hml := hG.le
 refine FJ.seq (FJ.seq (FJ.region (FJ.ql rfl (q_move rfl (.t .z)) (FJ.ql rfl (q_fieldAddr rfl (.t (.s4 (.s .z))) (fun _ => fa_43_1 _ _)) ?_))))
 refine FJ.ql rfl (q_load rfl ag_41 (.t .z) (WS.row (.s (.s .z)) rfl)) (FJ.ql rfl (q_len rfl u_41 (.t .z)) (FJ.ql rfl (q_lss rfl (.t (.s (.s (.s .z)))) (.t .z)) (FJ.nil (FJ.then_ ?_))))
 refine FJ.condP (.t .z) (fun b33 => ?_) (fun b33 => ?_)
 refine FJ.skip (FJ.then_ (FJ.seq (FJ.block (FJ.seq ?_))))
 refine FJ.region (FJ.ql rfl (q_fieldAddr rfl (.t (.s4 (.s4 (.s .z)))) (fun _ => fa_43_1 _ _)) (FJ.ql rfl (q_load rfl ag_41 (.t .z) (WS.row (.s (.s .z)) rfl)) (FJ.ql rfl (q_move rfl (.t (.s4 (.s (.s (.s .z)))))) ?_)))
 obtain ⟨ad34, hAad34, hrad34⟩ := he0_2 (by omega)
 subst hAad34
 obtain ⟨x35, hx35⟩ := get_ex (xs := k.exts) (j := q) (by omega)
 obtain ⟨ece36, hre36, hFe36, hce36⟩ := hrad34.elem hx35
 obtain rfl := kT_135_ro hre36
 obtain ⟨-, ⟨hx1, hx2⟩, ⟨hx3, hx4⟩, hx5⟩ := hkx _ _ hx35
 refine FJ.ql rfl (q_indexAddr (j := q) rfl u_41 sz_135 (.t (.s .z)) (.t .z) rfl (by omega)) ?_
 refine FJ.ql rfl (q_loadA (cs := [.int .i64 x35.frm, .int .i64 x35.cnt, .int .i64 x35.key]) rfl ag_135 sz_135 (.t .z) (WS.els hFe36 hce36)) ?_
 refine FJ.e (goes_list rfl) rfl (by decide) rfl (e_alloc rfl z_135 rfl rfl) ?_
 rintro _ _ ⟨g37, rfl, rfl⟩
 refine FJ.es (goes_list rfl) rfl (es_store (off := 0) (cs := [.int .i64 x35.frm, .int .i64 x35.cnt, .int .i64 x35.key]) rfl sz_135 (.t .z) (.t (.s .z)) rfl (ones rfl) .z (Nat.le_of_ble_eq_true rfl) (.c .z (.c (.s .z) (.c (.s (.s .z)) .n)))) ?_
 refine FJ.nil (FJ.then_ (FJ.seq (FJ.seq (FJ.region ?_))))
 refine FJ.ql rfl (q_fieldAddr rfl (.t (.s4 (.s4 (.s4 (.s .z))))) (fun _ => fa_135_0 _ _)) (FJ.ql rfl (q_load rfl ag_2 (.t .z) (WS.row (.s .z) rfl)) (FJ.ql rfl (q_fieldAddr rfl (.t (.s (.s .z))) (fun _ => fa_135_0 _ _)) (FJ.ql rfl (q_load rfl ag_2 (.t .z) (WS.row .z rfl)) (FJ.ql rfl (q_fieldAddr rfl (.t (.s4 .z)) (fun _ => fa_135_1 _ _)) ?_))))
 refine FJ.ql rfl (q_load rfl ag_2 (.t .z) (WS.row .z rfl)) ?_
 refine FJ.ql rfl (q_add (c := x35.frm + x35.cnt) rfl (.t (.s (.s .z))) (.t .z) (wr (by omega) (by omega) (by omega))) ?_
 refine FJ.ql rfl (q_lss rfl (.t (.s4 (.s .z))) (.t .z)) (FJ.ql rfl (q_move rfl (.t .z)) ?_)
 refine FJ.caseP .z (fun g38 => ?_) (fun g38 => ?_)
 refine FJ.q (goes_listg rfl rfl .z) rfl (by decide) rfl (q_fieldAddr rfl (.t (.s4 (.s4 (.s .z)))) (fun _ => fa_135_0 _ _)) ?_
 refine FJ.q (goes_listg rfl rfl (.s .z)) rfl (by decide) rfl (q_load rfl ag_2 (.t .z) (WS.row .z rfl)) ?_
 refine FJ.q (goes_listg rfl rfl (.s (.s .z))) rfl (by decide) rfl (q_fieldAddr rfl (.t (.s16 (.s4 (.s4 .z)))) (fun _ => fa_135_0 _ _)) ?_
 refine FJ.q (goes_listg rfl rfl (.s (.s (.s .z)))) rfl (by decide) rfl (q_load rfl ag_2 (.t .z) (WS.row (.s .z) rfl)) ?_
 refine FJ.q (goes_listg rfl rfl (.s4 .z)) rfl (by decide) rfl (q_fieldAddr rfl (.t (.s16 (.s4 (.s4 (.s (.s .z)))))) (fun _ => fa_135_1 _ _)) ?_
 refine FJ.q (goes_listg rfl rfl (.s4 (.s .z))) rfl (by decide) rfl (q_load rfl ag_2 (.t .z) (WS.row (.s .z) rfl)) ?_
 refine FJ.q (goes_listg rfl rfl (.s4 (.s (.s .z)))) rfl (by decide) rfl (q_add (c := f + c) rfl (.t (.s (.s .z))) (.t .z) (wr (by omega) (by omega) (by omega))) ?_
 refine FJ.q (goes_listg rfl rfl (.s4 (.s (.s (.s .z))))) rfl (by decide) rfl (q_lss rfl (.t (.s4 (.s .z))) (.t .z)) ?_
 refine FJ.ql rfl (q_pickT rfl (.t (.s4 (.s4 .z))) (.t .z)) (FJ.nil (FJ.then_ ?_))
 refine FJ.condP (.t .z) (fun b39 => ?_) (fun b39 => ?_)
 refine FJ.seq (FJ.region ?_)
 refine FJ.call (goes_list rfl) rfl (by decide) rfl (c_call rfl Try.func89 rfl rfl (args1 .c)) .n (fun w1 S1 hs tr => c_89 _) ?_
 rintro _ _ ⟨v40, v42, v44, v46, rfl, rfl⟩
 refine FJ.cat (.c (.c (.c (.c .n)))) ?_
 refine FJ.know (WS.oform .z) ?_
 rintro ⟨Ao48, co48, rfl, hlo48, hmo48, hbo48⟩
 refine FJ.know (WS.oform (.s .z)) ?_
 rintro ⟨Ao49, co49, rfl, hlo49, hmo49, hbo49⟩
 refine FJ.know (WS.oform (.s (.s .z))) ?_
 rintro ⟨Ao50, co50, rfl, hlo50, hmo50, hbo50⟩
 refine FJ.know (WS.oform (.s (.s (.s .z)))) ?_
 rintro ⟨Ao51, co51, rfl, hlo51, hmo51, hbo51⟩
 refine FJ.es (goes_list rfl) rfl (es_store (off := 0) (cs := [.int .i64 ((badKern 7).code), .slice Ao48 ((badKern 7).words).length co48, .slice Ao49 ((badKern 7).kern.disk.blocks).length co49, .slice Ao50 ((badKern 7).kern.disk.cache).length co50, .slice Ao51 ((badKern 7).kern.exts).length co51]) rfl sz_45 (.t (.s16 (.s16 (.s .z)))) (.t .z) rfl (ones rfl) (.s4 (.s (.s .z))) (Nat.le_of_ble_eq_true rfl) (.c .z (.c (.s .z) (.c (.s (.s .z)) (.c (.s (.s (.s .z))) (.c (.s (.s (.s (.s .z)))) .n)))))) ?_
 refine FJ.nil (FJ.then_ (FJ.ret (FJ.thenR (FJ.inBR ?_))))
 refine FJ.thenR (FJ.thenR (FJ.inBR (FJ.thenR ?_)))
 refine FJ.doneS (resC (cs := [.int .i64 ((badKern 7).code), .slice Ao48 ((badKern 7).words).length co48, .slice Ao49 ((badKern 7).kern.disk.blocks).length co49, .slice Ao50 ((badKern 7).kern.disk.cache).length co50, .slice Ao51 ((badKern 7).kern.exts).length co51]) rfl (.s16 (.s16 (.s .z))) ag_45 sz_45 (WS.rows0 (cs := [.int .i64 ((badKern 7).code), .slice Ao48 ((badKern 7).words).length co48, .slice Ao49 ((badKern 7).kern.disk.blocks).length co49, .slice Ao50 ((badKern 7).kern.disk.cache).length co50, .slice Ao51 ((badKern 7).kern.exts).length co51]) .z (fun _ _ h => h))) (.c (.s .z) (.c (.s .z) (.c (.s .z) (.c (.s .z) .n)))) ?_
 first | (rw [grant_f (by assumption)]; exact ⟨_, _, _, _, rfl, rfl⟩) | (rw [grant_3 hkf (by assumption)]; exact ⟨_, _, _, _, rfl, rfl⟩) | (rw [grant_7 hkf hie (List.any_eq_true.2 ⟨_, List.mem_of_getElem? hx35, ov_t hk60 hie (hkx _ _ hx35) (by assumption) (by assumption)⟩)]; exact ⟨_, _, _, _, rfl, rfl⟩) | (rw [grant_2 hkf hie (ov_no (by omega) hallq) (by omega)]; exact ⟨_, _, _, _, rfl, rfl⟩) | (rw [grant_0 (i := m) hkf hie (ov_no (by omega) hallq) (by omega) (GI_end hG (by omega) hq)]; exact ⟨_, _, _, _, rfl, rfl⟩)
 refine FJ.skip (FJ.then_ (FJ.seq (FJ.region (FJ.ql rfl (q_fieldAddr rfl (.t (.s16 (.s (.s .z)))) (fun _ => fa_135_0 _ _)) ?_))))
 refine FJ.ql rfl (q_load rfl ag_2 (.t .z) (WS.row .z rfl)) (FJ.ql rfl (q_fieldAddr rfl (.t (.s16 (.s16 (.s .z)))) (fun _ => fa_135_0 _ _)) (FJ.ql rfl (q_load rfl ag_2 (.t .z) (WS.row (.s .z) rfl)) (FJ.ql rfl (q_lss rfl (.t (.s (.s .z))) (.t .z)) (FJ.nil ?_))))
 refine FJ.then_ ?_
 refine FJ.condP (.t .z) (fun b52 => ?_) (fun b52 => ?_)
 refine FJ.region (FJ.ql rfl (q_move rfl (.t (.s16 (.s16 (.s (.s .z)))))) ?_)
 refine FJ.ql rfl (q_add (c := ((q + 1 : Nat) : Int)) rfl (.t .z) .c (wr (by omega) (by omega) (by omega))) ?_
 refine FJ.er (.s16 (.s16 (.s4 (.s .z)))) (FJ.ql rfl (q_assign rfl (.t .z)) (FJ.nil (FJ.inBN (FJ.then_ ?_))))
 refine FJ.region (FJ.ql rfl (q_move rfl (.t (.s16 (.s16 (.s4 (.s .z)))))) ?_)
 refine FJ.ql rfl (q_add (c := ((q + 1 : Nat) : Int)) rfl (.t .z) .c (wr (by omega) (by omega) (by omega))) ?_
 refine FJ.er (.s16 (.s16 (.s4 (.s (.s (.s .z)))))) (FJ.ql rfl (q_assign rfl (.t .z)) (FJ.nil ?_))
 refine FJ.again ((q + 1), q + 1) ⟨by omega, all_succ (q := fun _ (e : DExt) => ovP (⟨f, c, key⟩ : DExt) e = false) hallq hx35 (by first | exact ov_f1 hk60 hie (hkx _ _ hx35) (by assumption) | exact ov_f2 hk60 hie (hkx _ _ hx35) (by assumption)), GI_y hks hG hx35 (by assumption)⟩ (by first | omega | (dsimp only; omega)) (.c .z (.c (.s (.s (.s .z))) (.c (.s16 (.s16 (.s4 (.s4 .z)))) (.c (.s16 (.s16 (.s4 (.s4 (.s .z))))) (.c (.s16 (.s16 (.s4 (.s4 (.s (.s .z)))))) .n))))) (fun _ h => h.sel (.c (.s .z) (.c (.s .z) (.c (.s .z) .n))))
 refine FJ.skip (FJ.inBN (FJ.then_ (FJ.region (FJ.ql rfl (q_move rfl (.t (.s16 (.s16 (.s (.s .z)))))) ?_))))
 refine FJ.ql rfl (q_add (c := ((q + 1 : Nat) : Int)) rfl (.t .z) .c (wr (by omega) (by omega) (by omega))) ?_
 refine FJ.er (.s16 (.s16 (.s4 .z))) (FJ.ql rfl (q_assign rfl (.t .z)) (FJ.nil ?_))
 refine FJ.again ((q + 1), m) ⟨by omega, all_succ (q := fun _ (e : DExt) => ovP (⟨f, c, key⟩ : DExt) e = false) hallq hx35 (by first | exact ov_f1 hk60 hie (hkx _ _ hx35) (by assumption) | exact ov_f2 hk60 hie (hkx _ _ hx35) (by assumption)), GI_n hG hx35 (by assumption)⟩ (by first | omega | (dsimp only; omega)) (.c .z (.c (.s16 (.s16 (.s4 (.s .z)))) (.c (.s16 (.s16 (.s4 (.s (.s .z))))) (.c (.s16 (.s16 (.s4 (.s (.s (.s .z)))))) (.c (.s16 (.s16 (.s4 (.s4 .z)))) .n))))) (fun _ h => h.sel (.c (.s .z) (.c (.s .z) (.c (.s .z) .n))))
 refine FJ.skipl rfl rfl .z rfl rfl (by decide) rfl ?_
 refine FJ.skipl rfl rfl (.s .z) rfl rfl (by decide) rfl ?_
 refine FJ.skipl rfl rfl (.s (.s .z)) rfl rfl (by decide) rfl ?_
 refine FJ.skipl rfl rfl (.s (.s (.s .z))) rfl rfl (by decide) rfl ?_
 refine FJ.skipl rfl rfl (.s4 .z) rfl rfl (by decide) rfl ?_
 refine FJ.skipl rfl rfl (.s4 (.s .z)) rfl rfl (by decide) rfl ?_
 refine FJ.skipl rfl rfl (.s4 (.s (.s .z))) rfl rfl (by decide) rfl ?_
 refine FJ.skipl rfl rfl (.s4 (.s (.s (.s .z)))) rfl rfl (by decide) rfl ?_
 refine FJ.ql rfl (q_pickF rfl (.t (.s4 (.s4 .z))) .c) (FJ.nil (FJ.then_ ?_))
 refine FJ.condF (.t .z) ?_
 refine FJ.skip (FJ.then_ (FJ.seq (FJ.region (FJ.ql rfl (q_fieldAddr rfl (.t (.s16 (.s (.s .z)))) (fun _ => fa_135_0 _ _)) ?_))))
 refine FJ.ql rfl (q_load rfl ag_2 (.t .z) (WS.row .z rfl)) (FJ.ql rfl (q_fieldAddr rfl (.t (.s16 (.s16 (.s .z)))) (fun _ => fa_135_0 _ _)) (FJ.ql rfl (q_load rfl ag_2 (.t .z) (WS.row (.s .z) rfl)) (FJ.ql rfl (q_lss rfl (.t (.s (.s .z))) (.t .z)) (FJ.nil ?_))))
 refine FJ.then_ ?_
 refine FJ.condP (.t .z) (fun b53 => ?_) (fun b53 => ?_)
 refine FJ.region (FJ.ql rfl (q_move rfl (.t (.s16 (.s16 (.s (.s .z)))))) ?_)
 refine FJ.ql rfl (q_add (c := ((q + 1 : Nat) : Int)) rfl (.t .z) .c (wr (by omega) (by omega) (by omega))) ?_
 refine FJ.er (.s16 (.s16 (.s4 (.s .z)))) (FJ.ql rfl (q_assign rfl (.t .z)) (FJ.nil (FJ.inBN (FJ.then_ ?_))))
 refine FJ.region (FJ.ql rfl (q_move rfl (.t (.s16 (.s16 (.s4 (.s .z)))))) ?_)
 refine FJ.ql rfl (q_add (c := ((q + 1 : Nat) : Int)) rfl (.t .z) .c (wr (by omega) (by omega) (by omega))) ?_
 refine FJ.er (.s16 (.s16 (.s4 (.s (.s (.s .z)))))) (FJ.ql rfl (q_assign rfl (.t .z)) (FJ.nil ?_))
 refine FJ.again ((q + 1), q + 1) ⟨by omega, all_succ (q := fun _ (e : DExt) => ovP (⟨f, c, key⟩ : DExt) e = false) hallq hx35 (by first | exact ov_f1 hk60 hie (hkx _ _ hx35) (by assumption) | exact ov_f2 hk60 hie (hkx _ _ hx35) (by assumption)), GI_y hks hG hx35 (by assumption)⟩ (by first | omega | (dsimp only; omega)) (.c .z (.c (.s (.s (.s .z))) (.c (.s16 (.s16 (.s4 (.s4 .z)))) (.c (.s16 (.s16 (.s4 (.s4 (.s .z))))) (.c (.s16 (.s16 (.s4 (.s4 (.s (.s .z)))))) .n))))) (fun _ h => h.sel (.c (.s .z) (.c (.s .z) (.c (.s .z) .n))))
 refine FJ.skip (FJ.inBN (FJ.then_ (FJ.region (FJ.ql rfl (q_move rfl (.t (.s16 (.s16 (.s (.s .z)))))) ?_))))
 refine FJ.ql rfl (q_add (c := ((q + 1 : Nat) : Int)) rfl (.t .z) .c (wr (by omega) (by omega) (by omega))) ?_
 refine FJ.er (.s16 (.s16 (.s4 .z))) (FJ.ql rfl (q_assign rfl (.t .z)) (FJ.nil ?_))
 refine FJ.again ((q + 1), m) ⟨by omega, all_succ (q := fun _ (e : DExt) => ovP (⟨f, c, key⟩ : DExt) e = false) hallq hx35 (by first | exact ov_f1 hk60 hie (hkx _ _ hx35) (by assumption) | exact ov_f2 hk60 hie (hkx _ _ hx35) (by assumption)), GI_n hG hx35 (by assumption)⟩ (by first | omega | (dsimp only; omega)) (.c .z (.c (.s16 (.s16 (.s4 (.s .z)))) (.c (.s16 (.s16 (.s4 (.s (.s .z))))) (.c (.s16 (.s16 (.s4 (.s (.s (.s .z)))))) (.c (.s16 (.s16 (.s4 (.s4 .z)))) .n))))) (fun _ h => h.sel (.c (.s .z) (.c (.s .z) (.c (.s .z) .n))))
 refine FJ.exit (FJ.thenE (FJ.thenE (FJ.inB (FJ.then_ ?_))))
 refine FJ.seq (FJ.seq (FJ.region (FJ.ql rfl (q_fieldAddr rfl (.t (.s4 (.s4 (.s .z)))) (fun _ => fa_43_1 _ _)) (FJ.ql rfl (q_load rfl ag_41 (.t .z) (WS.row (.s (.s .z)) rfl)) ?_))))
 refine FJ.ql rfl (q_len rfl u_41 (.t .z)) (FJ.ql rfl (q_geq rfl (.t .z) .c) (FJ.nil (FJ.then_ ?_)))
 refine FJ.condP (.t .z) (fun b54 => ?_) (fun b54 => ?_)
 refine FJ.seq (FJ.region ?_)
 refine FJ.call (goes_list rfl) rfl (by decide) rfl (c_call rfl Try.func89 rfl rfl (args1 .c)) .n (fun w1 S1 hs tr => c_89 _) ?_
 rintro _ _ ⟨v55, v57, v59, v61, rfl, rfl⟩
 refine FJ.cat (.c (.c (.c (.c .n)))) ?_
 refine FJ.know (WS.oform .z) ?_
 rintro ⟨Ao63, co63, rfl, hlo63, hmo63, hbo63⟩
 refine FJ.know (WS.oform (.s .z)) ?_
 rintro ⟨Ao64, co64, rfl, hlo64, hmo64, hbo64⟩
 refine FJ.know (WS.oform (.s (.s .z))) ?_
 rintro ⟨Ao65, co65, rfl, hlo65, hmo65, hbo65⟩
 refine FJ.know (WS.oform (.s (.s (.s .z)))) ?_
 rintro ⟨Ao66, co66, rfl, hlo66, hmo66, hbo66⟩
 refine FJ.es (goes_list rfl) rfl (es_store (off := 0) (cs := [.int .i64 ((badKern 2).code), .slice Ao63 ((badKern 2).words).length co63, .slice Ao64 ((badKern 2).kern.disk.blocks).length co64, .slice Ao65 ((badKern 2).kern.disk.cache).length co65, .slice Ao66 ((badKern 2).kern.exts).length co66]) rfl sz_45 (.t (.s4 (.s4 (.s4 (.s .z))))) (.t .z) rfl (ones rfl) (.s4 (.s .z)) (Nat.le_of_ble_eq_true rfl) (.c .z (.c (.s .z) (.c (.s (.s .z)) (.c (.s (.s (.s .z))) (.c (.s (.s (.s (.s .z)))) .n)))))) ?_
 refine FJ.nil (FJ.then_ (FJ.ret (FJ.thenR ?_)))
 refine FJ.doneS (resC (cs := [.int .i64 ((badKern 2).code), .slice Ao63 ((badKern 2).words).length co63, .slice Ao64 ((badKern 2).kern.disk.blocks).length co64, .slice Ao65 ((badKern 2).kern.disk.cache).length co65, .slice Ao66 ((badKern 2).kern.exts).length co66]) rfl (.s4 (.s4 (.s4 (.s .z)))) ag_45 sz_45 (WS.rows0 (cs := [.int .i64 ((badKern 2).code), .slice Ao63 ((badKern 2).words).length co63, .slice Ao64 ((badKern 2).kern.disk.blocks).length co64, .slice Ao65 ((badKern 2).kern.disk.cache).length co65, .slice Ao66 ((badKern 2).kern.exts).length co66]) .z (fun _ _ h => h))) (.c (.s .z) (.c (.s .z) (.c (.s .z) (.c (.s .z) .n)))) ?_
 first | (rw [grant_f (by assumption)]; exact ⟨_, _, _, _, rfl, rfl⟩) | (rw [grant_3 hkf (by assumption)]; exact ⟨_, _, _, _, rfl, rfl⟩) | (rw [grant_2 hkf hie (ov_no (by omega) hallq) (by omega)]; exact ⟨_, _, _, _, rfl, rfl⟩) | (rw [grant_0 (i := m) hkf hie (ov_no (by omega) hallq) (by omega) (GI_end hG (by omega) hq)]; exact ⟨_, _, _, _, rfl, rfl⟩)
 refine FJ.skip (FJ.then_ (FJ.seq (FJ.region ?_)))
 refine FJ.ql rfl (q_loadA (cs := [.slice A0_0 k.disk.blocks.length c0_0, .slice A0_1 k.disk.cache.length c0_1, .slice A0_2 k.exts.length c0_2]) rfl ag_43 sz_43 (.t (.s4 (.s4 (.s4 (.s .z))))) (WS.rows0 (.s (.s .z)) (fun i u h => by exact h))) ?_
 refine FJ.call (goes_list rfl) rfl (by decide) rfl (c_call rfl Try.func127 rfl rfl (args1 (.t .z))) .n (fun w1 S1 hs tr => c_127 (kT_43_mk k (tr.ctx h0_0) (tr.ctx h0_1) (tr.ctx h0_2))) ?_
 rintro _ _ ⟨v67, v69, v71, rfl, rfl⟩
 refine FJ.cat (.c (.c (.c .n))) ?_
 refine FJ.know (WS.oform .z) ?_
 rintro ⟨Ao73, co73, rfl, hlo73, hmo73, hbo73⟩
 refine FJ.know (WS.oform (.s .z)) ?_
 rintro ⟨Ao74, co74, rfl, hlo74, hmo74, hbo74⟩
 refine FJ.know (WS.oform (.s (.s .z))) ?_
 rintro ⟨Ao75, co75, rfl, hlo75, hmo75, hbo75⟩
 refine FJ.e (goes_list rfl) rfl (by decide) rfl (e_alloc rfl z_43 rfl rfl) ?_
 rintro _ _ ⟨g76, rfl, rfl⟩
 refine FJ.es (goes_list rfl) rfl (es_store (off := 0) (cs := [.slice Ao73 k.disk.blocks.length co73, .slice Ao74 k.disk.cache.length co74, .slice Ao75 k.exts.length co75]) rfl sz_43 (.t .z) (.t (.s .z)) rfl (ones rfl) .z (Nat.le_of_ble_eq_true rfl) (.c .z (.c (.s .z) (.c (.s (.s .z)) .n)))) ?_
 refine FJ.nil (FJ.then_ (FJ.seq (FJ.region ?_)))
 refine FJ.e (goes_list rfl) rfl (by decide) rfl (e_buildNil rfl u_41 (inz inf_135)) ?_
 rintro _ _ ⟨g77, rfl, rfl⟩
 refine FJ.ql rfl (q_fieldAddr rfl (.t (.s16 (.s .z))) (fun _ => fa_43_1 _ _)) (FJ.ql rfl (q_load rfl ag_41 (.t .z) (WS.row (.s4 (.s (.s (.s .z)))) rfl)) (FJ.ql rfl (q_move rfl (.t (.s16 .z))) ?_))
 obtain ⟨As78, hAs78⟩ : ∃ A' : Option Addr, A' = (if c0_2 = 0 then A0_2 else Option.map (fun z => Addr.add z (0 * 3)) A0_2) := ⟨_, rfl⟩
 have hs78 := ro_sub (a := 0) (b := m) hAs78 h0_2 (by omega) (by omega)
 have ls78 := subL_len (xs := k.exts) (a := 0) (b := m) (by omega)
 refine FJ.ql rfl (q_sliceL (a := 0) (b := m) rfl u_41 sz_135 (.t (.s .z)) hAs78 (.inl ⟨rfl, rfl⟩) (.inr ⟨_, _, rfl, (.t .z)⟩) (by omega) (by omega) (by omega)) ?_
 refine FJ.add (c := ownA kSl_135 ([] : (List DExt)) [.slice (some ⟨g77, 0, none⟩) 0 0]) (fun w S => own_nil w S _) ?_
 refine FJ.e (goes_list rfl) rfl (by decide) rfl (e_appendF (flat_iso _ (flat_pair (flat_scalar _ _ _) (flat_pair (flat_scalar _ _ _) (flat_scalar _ _ _)))) rfl u_41 inf_135 rfl (.t (.s4 .z)) (.t .z) (.c .z .n) (fun w1 S1 tr => tr.ctx hs78) (by first | omega | (simp only [List.length_append, List.length_take, List.length_nil, List.length_cons]; omega)) (by first | omega | (simp only [List.length_append, List.length_take, List.length_nil, List.length_cons]; omega))) ?_
 rintro _ _ rfl
 refine FJ.ceq .z (List.nil_append _) ?_
 refine FJ.know (WS.oform .z) ?_
 rintro ⟨Ao81, co81, rfl, hlo81, hmo81, hbo81⟩
 refine FJ.ql rfl (q_assign rfl (.t .z)) (FJ.nil (FJ.then_ (FJ.seq ?_)))
 refine FJ.sel (.c .z (.c (.s (.s .z)) (.c (.s (.s .z)) (.c (.s (.s .z)) (.c .z (.c .z (.c .z (.c .z (.c .z .n))))))))) ?_
 refine FJ.draw [rowA g77 135 3 0 [], rowA g76 43 3 1 [.slice Ao73 k.disk.blocks.length co73, .slice Ao74 k.disk.cache.length co74, .slice Ao75 k.exts.length co75], rowA g19 135 3 1 [.int .i64 f, .int .i64 c, .int .i64 key], rowA g5 45 5 1 [.int .i64 0, .slice none 0 0, .slice none 0 0, .slice none 0 0, .slice none 0 0], rowA g4 43 3 1 [.slice A0_0 k.disk.blocks.length c0_0, .slice A0_1 k.disk.cache.length c0_1, .slice A0_2 k.exts.length c0_2]] 10 (by kernel_rfl) ?_
 refine FJ.sch [(0, true), (1, true), (4, true), (5, true), (6, true), (7, true), (2, false), (3, false), (8, false), (9, true), (10, false)] 0 #[true, true, true, true, true, true, true, true, true, true, true] (by rfl) (by kernel_rfl) ?_
 refine FJ.dq rfl rfl rfl (by decide) rfl (.s4 .z) (q_move rfl (.t .z)) ?_
 refine FJ.dq rfl rfl rfl (by decide) rfl (.s4 .z) (q_loadA (cs := [.int .i64 f, .int .i64 c, .int .i64 key]) rfl ag_135 sz_135 (.t (.s16 (.s4 (.s (.s .z))))) (WS.rows0 (.s (.s .z)) (fun i u h => by exact h))) ?_
 refine FJ.dq rfl rfl rfl (by decide) rfl (.s4 .z) (q_fieldAddr rfl (.t (.s16 (.s4 (.s4 (.s .z))))) (fun _ => fa_43_1 _ _)) (FJ.dq rfl rfl rfl (by decide) rfl (.s4 .z) (q_load rfl ag_41 (.t .z) (WS.row (.s4 .z) rfl)) (FJ.dq rfl rfl rfl (by decide) rfl (.s4 .z) (q_move rfl (.t (.s16 (.s4 (.s4 .z))))) ?_))
 obtain ⟨As82, hAs82⟩ : ∃ A' : Option Addr, A' = (if c0_2 = m then A0_2 else Option.map (fun z => Addr.add z (m * 3)) A0_2) := ⟨_, rfl⟩
 have hs82 := ro_sub (a := m) (b := k.exts.length) hAs82 h0_2 (by omega) (by omega)
 have ls82 := subL_len (xs := k.exts) (a := m) (b := k.exts.length) (by omega)
 refine FJ.dq rfl rfl rfl (by decide) rfl (.s4 .z) (q_sliceL (a := m) (b := k.exts.length) rfl u_41 sz_135 (.t (.s .z)) hAs82 (.inr ⟨_, _, rfl, (.t .z)⟩) (.inl ⟨rfl, rfl⟩) (by omega) (by omega) (by omega)) ?_
 refine FJ.e (goes_sch rfl rfl) rfl (by decide) rfl (e_buildSliceL (ps := [(0, .agg #[.int .i64 f, .int .i64 c, .int .i64 key])]) (cs := [.int .i64 f, .int .i64 c, .int .i64 key]) rfl u_41 (inz inf_135) (by decide) (by intro act hact; simp only [List.map_toArray, List.map_cons, List.map_nil, (show Val _ _ _ from (.t (.s4 .z))) act hact]) rfl rfl (by decide) rfl rfl) ?_
 rintro _ _ ⟨g84, rfl, rfl⟩
 refine FJ.sk (.s4 (.s .z)) ?_
 refine FJ.turns (c := ownA kT_135 (⟨f, c, key⟩ : DExt) [.int .i64 f, .int .i64 c, .int .i64 key]) .n (fun w S h => kT_135_omk (⟨f, c, key⟩ : DExt) h) ?_
 refine FJ.e (goes_sch rfl rfl) rfl (by decide) rfl (e_append1 rfl u_41 inf_135 rfl (.t (.s4 (.s (.s .z)))) (.t .z) (.c (.s (.s .z)) (.c (.s .z) (.c .z .n))) (by first | omega | (simp only [List.length_append, List.length_take, List.length_nil, List.length_cons]; omega)) (by first | omega | (simp only [List.length_append, List.length_take, List.length_nil, List.length_cons]; omega))) ?_
 rintro _ _ rfl
 refine FJ.know (WS.oform .z) ?_
 rintro ⟨Ao86, co86, rfl, hlo86, hmo86, hbo86⟩
 refine FJ.sk (.s4 .z) ?_
 refine FJ.e (goes_sch rfl rfl) rfl (by decide) rfl (e_appendF (flat_iso _ (flat_pair (flat_scalar _ _ _) (flat_pair (flat_scalar _ _ _) (flat_scalar _ _ _)))) rfl u_41 inf_135 rfl (.t .z) (.t (.s (.s .z))) (.c .z .n) (fun w1 S1 tr => tr.ctx hs82) (by first | omega | (simp only [List.length_append, List.length_take, List.length_nil, List.length_cons]; omega)) (by first | omega | (simp only [List.length_append, List.length_take, List.length_nil, List.length_cons]; omega))) ?_
 rintro _ _ rfl
 refine FJ.know (WS.oform .z) ?_
 rintro ⟨Ao87, co87, rfl, hlo87, hmo87, hbo87⟩
 refine FJ.sk (.s4 .z) ?_
 refine FJ.dq rfl rfl rfl (by decide) rfl (.s4 .z) (q_fieldAddr rfl (.t (.s16 .z)) (fun _ => fa_43_1 _ _)) ?_
 refine FJ.es (goes_sch rfl rfl) rfl (es_store (off := 2) (cs := [.slice Ao87 (((subL k.exts 0 m) ++ [(⟨f, c, key⟩ : DExt)]) ++ (subL k.exts m k.exts.length)).length co87]) rfl sz_41 (.t .z) (.t (.s .z)) rfl (ones rfl) (.s4 (.s .z)) (Nat.le_of_ble_eq_true rfl) (.c (.s (.s .z)) .n)) ?_
 refine FJ.sl rfl ?_
 refine FJ.schN ?_
 refine FJ.drawN (by kernel_rfl) ?_
 refine FJ.then_ (FJ.seq (FJ.region ?_))
 refine FJ.ql rfl (q_loadA (cs := [.slice Ao73 k.disk.blocks.length co73, .slice Ao74 k.disk.cache.length co74, .slice Ao87 (((subL k.exts 0 m) ++ [(⟨f, c, key⟩ : DExt)]) ++ (subL k.exts m k.exts.length)).length co87]) rfl ag_43 sz_43 (.t (.s16 (.s .z))) (WS.rows0 .z (fun i u h => by exact h))) ?_
 refine FJ.ql rfl (q_build (ps := [(2, .agg #[.slice Ao73 k.disk.blocks.length co73, .slice Ao74 k.disk.cache.length co74, .slice Ao87 (((subL k.exts 0 m) ++ [(⟨f, c, key⟩ : DExt)]) ++ (subL k.exts m k.exts.length)).length co87])]) (cs := [.int .i64 0, .slice none 0 0, .slice Ao73 k.disk.blocks.length co73, .slice Ao74 k.disk.cache.length co74, .slice Ao87 (((subL k.exts 0 m) ++ [(⟨f, c, key⟩ : DExt)]) ++ (subL k.exts m k.exts.length)).length co87]) rfl bl_45 (by intro act hact; simp only [List.map_toArray, List.map_cons, List.map_nil, (show Val _ _ _ from (.t .z)) act hact]) rfl) ?_
 refine FJ.es (goes_list rfl) rfl (es_store (off := 0) (cs := [.int .i64 0, .slice none 0 0, .slice Ao73 k.disk.blocks.length co73, .slice Ao74 k.disk.cache.length co74, .slice Ao87 (((subL k.exts 0 m) ++ [(⟨f, c, key⟩ : DExt)]) ++ (subL k.exts m k.exts.length)).length co87]) rfl sz_45 (.t (.s16 (.s16 (.s (.s .z))))) (.t .z) rfl (ones rfl) (.s4 (.s (.s (.s .z)))) (Nat.le_of_ble_eq_true rfl) (.c .z (.c (.s .z) (.c (.s (.s .z)) (.c (.s (.s (.s .z))) (.c (.s (.s (.s (.s .z)))) .n)))))) ?_
 refine FJ.nil (FJ.then_ (FJ.ret ?_))
 refine FJ.ceq (x' := List.take m k.exts ++ [(⟨f, c, key⟩ : DExt)] ++ List.drop m k.exts) (.s (.s .z)) (by simp [subL]) ?_
 refine FJ.add (c := ownA kSl_2 [] [.slice none 0 0]) (fun w S => own_nil w S none) ?_
 refine FJ.doneS (resC (cs := [.int .i64 0, .slice none 0 0, .slice Ao73 k.disk.blocks.length co73, .slice Ao74 k.disk.cache.length co74, .slice Ao87 (((subL k.exts 0 m) ++ [(⟨f, c, key⟩ : DExt)]) ++ (subL k.exts m k.exts.length)).length co87]) rfl (.s16 (.s16 (.s (.s .z)))) ag_45 sz_45 (WS.rows0 (cs := [.int .i64 0, .slice none 0 0, .slice Ao73 k.disk.blocks.length co73, .slice Ao74 k.disk.cache.length co74, .slice Ao87 (((subL k.exts 0 m) ++ [(⟨f, c, key⟩ : DExt)]) ++ (subL k.exts m k.exts.length)).length co87]) (.s (.s .z)) (fun _ _ h => h))) (.c .z (.c (.s (.s (.s .z))) (.c (.s (.s (.s .z))) (.c .z .n)))) ?_
 first | (rw [grant_f (by assumption)]; exact ⟨_, _, _, _, rfl, rfl⟩) | (rw [grant_3 hkf (by assumption)]; exact ⟨_, _, _, _, rfl, rfl⟩) | (rw [grant_2 hkf hie (ov_no (by omega) hallq) (by omega)]; exact ⟨_, _, _, _, rfl, rfl⟩) | (rw [grant_0 (i := m) hkf hie (ov_no (by omega) hallq) (by omega) (GI_end hG (by omega) hq)]; exact ⟨_, _, _, _, rfl, rfl⟩)

end Go.Proofs.Ytkmcpcahbfdohaa

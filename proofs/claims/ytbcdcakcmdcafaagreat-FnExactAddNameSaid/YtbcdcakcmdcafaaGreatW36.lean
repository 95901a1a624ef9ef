/- What is proved: contracts of functions, one a function. No condition. -/
import Derived.Test.YtbcdcakcmdcafaaGreatW34
import Derived.Test.YtbcdcakcmdcafaaGreatBase2
namespace Go.Proofs.YtbcdcakcmdcafaaGreat
open Go Go.RowKit
set_option linter.unusedVariables false
set_option linter.unusedSimpArgs false
set_option maxHeartbeats 1000000 in
set_option maxRecDepth 20000 in
theorem c_145 {w0 : World} {S0 : Bs} {x : (List DEnt)} {v0 : Value} (i : Nat) {ys : (List DEnt)} {v2 : Value} (hs : Star [ownA kSl_68 x [v0], ownA kSl_68 ys [v2]] w0 S0) (hi : i ≤ x.length) (hy : 0 < ys.length) (hx64 : x.length ≤ 64) (hy8 : ys.length ≤ 8) :
    Calls Tryz.prog 145 #[v0, .int .i64 (i : Int), v2] w0 (TriPost w0 S0 (fun r l => l = [ownA kSl_68 (List.take i x ++ ys ++ List.drop i x) [r]])) := by
 refine FJ.enter (N := 95) Tryz.func145 rfl rfl (by simp) [(0, v0), (1, .int .i64 (i : Int)), (2, v2)] (by simp) hs ?_
 refine FJ.know (WS.oform .z) ?_
 rintro ⟨Ao1, co1, rfl, hlo1, hmo1, hbo1⟩
 refine FJ.know (WS.oform (.s .z)) ?_
 rintro ⟨Ao2, co2, rfl, hlo2, hmo2, hbo2⟩
 refine FJ.seq (FJ.region (FJ.ql rfl (q_assign rfl .c) (FJ.nil (FJ.then_ ?_))))
 refine FJ.seq (FJ.region (FJ.ql rfl (q_move rfl (.t (.s .z))) (FJ.ql rfl (q_move rfl (.t (.s (.s (.s .z))))) ?_)))
 obtain ⟨As3, hAs3⟩ : ∃ A' : Option Addr, A' = (if co1 = i then Ao1 else Option.map (fun z => Addr.add z (i * 2)) Ao1) := ⟨_, rfl⟩
 have ls3 := subL_len (xs := x) (a := i) (b := x.length) (by omega)
 have hk4 : True := trivial
 refine FJ.ql rfl (q_sliceL (a := i) (b := x.length) rfl u_64 sz_68 (.t (.s .z)) hAs3 (.inr ⟨_, _, rfl, (.t .z)⟩) (.inl ⟨rfl, rfl⟩) (by omega) (by omega) (by omega)) ?_
 refine FJ.nil (FJ.then_ (FJ.seq (FJ.region (FJ.ql rfl (q_move rfl (.t (.s4 (.s (.s .z))))) ?_))))
 refine FJ.ql rfl (q_len rfl u_64 (.t .z)) (FJ.ql rfl (q_assign rfl (.t .z)) (FJ.nil (FJ.then_ (FJ.seq ?_))))
 refine FJ.seq (FJ.region (FJ.ql rfl (q_move rfl (.t .z)) (FJ.ql rfl (q_eql rfl (.t .z) .c) (FJ.nil ?_))))
 refine FJ.then_ ?_
 refine FJ.condP (.t .z) (fun b5 => ?_) (fun b5 => ?_)
 exfalso; omega
 refine FJ.know (WS.oad (.s .z) (by omega)) ?_
 rintro ⟨ad6, rfl⟩
 refine FJ.skip (FJ.then_ (FJ.seq (FJ.region (FJ.ql rfl (q_move rfl (.t (.s4 (.s4 (.s .z))))) ?_))))
 refine FJ.ql rfl (q_len rfl u_64 (.t .z)) (FJ.ql rfl (q_assign rfl (.t .z)) (FJ.nil (FJ.then_ (FJ.seq ?_))))
 refine FJ.seq (FJ.region (FJ.ql rfl (q_move rfl (.t (.s4 (.s4 (.s4 (.s .z)))))) (FJ.ql rfl (q_move rfl (.t (.s .z))) (FJ.ql rfl (q_eql rfl (.t (.s .z)) (.t .z)) ?_))))
 refine FJ.nil (FJ.then_ ?_)
 refine FJ.condP (.t .z) (fun b7 => ?_) (fun b7 => ?_)
 refine FJ.seq (FJ.region (FJ.ql rfl (q_move rfl (.t (.s4 (.s4 (.s4 (.s (.s (.s .z)))))))) (FJ.ql rfl (q_move rfl (.t (.s16 (.s (.s .z))))) ?_)))
 refine FJ.e (goes_list rfl) rfl (by decide) rfl (e_appendF (flat_iso _ (flat_pair (flat_scalar _ _ _) (flat_scalar _ _ _))) rfl u_64 inf_68 rfl (.t (.s .z)) (.t .z) (.c .z .n) (fun w1 S1 tr => tr.own .z) (by first | omega | (simp only [List.length_append, List.length_take, List.length_nil, List.length_cons]; omega)) (by first | omega | (simp only [List.length_append, List.length_take, List.length_nil, List.length_cons]; omega))) ?_
 rintro _ _ rfl
 refine FJ.know (WS.oform .z) ?_
 rintro ⟨Ao8, co8, rfl, hlo8, hmo8, hbo8⟩
 refine FJ.er (.s16 (.s .z)) (FJ.ql rfl (q_assign rfl (.t .z)) (FJ.nil (FJ.then_ (FJ.ret ?_))))
 refine FJ.thenR ?_
 refine FJ.ceq (x' := List.take i x ++ ys ++ List.drop i x) .z (ins_end (by omega)) ?_
 refine FJ.doneS (res1 rfl .z) (.c .z .n) ?_
 rfl
 refine FJ.know (WS.oad .z (by omega)) ?_
 rintro ⟨ad9, rfl⟩
 refine FJ.skip (FJ.then_ (FJ.seq (FJ.seq (FJ.region ?_))))
 refine FJ.ql rfl (q_move rfl (.t (.s (.s (.s .z))))) (FJ.ql rfl (q_move rfl (.t (.s4 (.s4 (.s .z))))) ?_)
 refine FJ.ql rfl (q_add (c := ((x.length + ys.length : Nat) : Int)) rfl (.t (.s .z)) (.t .z) (wr (by omega) (by omega) (by omega))) ?_
 refine FJ.ql rfl (q_move rfl (.t (.s16 (.s (.s .z))))) (FJ.ql rfl (q_cap rfl u_64 (.t .z)) (FJ.ql rfl (q_gtr rfl (.t (.s (.s .z))) (.t .z)) (FJ.nil (FJ.then_ ?_))))
 refine FJ.condP (.t .z) (fun b10 => ?_) (fun b10 => ?_)
 refine FJ.seq (FJ.region (FJ.ql rfl (q_move rfl (.t (.s16 (.s4 (.s .z))))) (FJ.ql rfl (q_move rfl (.t (.s16 (.s4 (.s (.s (.s .z))))))) ?_)))
 refine FJ.ql rfl (q_sliceHi (b := i) rfl u_64 sz_68 (.t (.s .z)) (.t .z) (by omega)) ?_
 refine FJ.ql rfl (q_move rfl (.t (.s4 (.s4 (.s4 .z))))) (FJ.ql rfl (q_move rfl (.t (.s16 (.s (.s .z))))) ?_)
 refine FJ.ql rfl (q_add (c := ((x.length + ys.length : Nat) : Int)) rfl (.t (.s .z)) (.t .z) (wr (by omega) (by omega) (by omega))) ?_
 refine FJ.ql rfl (q_move rfl (.t (.s16 (.s4 (.s4 (.s4 .z)))))) ?_
 refine FJ.ql rfl (q_sub (c := ((x.length + ys.length : Nat) : Int) - (i : Int)) rfl (.t (.s .z)) (.t .z) (wr (by omega) (by omega) (by omega))) ?_
 refine FJ.eq .z (congrArg (Value.int .i64) (show ((x.length + ys.length : Nat) : Int) - (i : Int) = ((x.length + ys.length - i : Nat) : Int) by omega)) ?_
 refine FJ.e (goes_list rfl) rfl (by decide) rfl (e_appendMake (i := i) (x0 := (⟨⟨#[]⟩, 0⟩ : DEnt)) (flat_iso _ (flat_pair (flat_scalar _ _ _) (flat_scalar _ _ _))) rfl u_64 u_3 inf_68 rfl (fun w S => zero_68 w S) (.t (.s4 (.s .z))) (.t .z) (.c .z .n) (by omega) (by omega) (by omega) (by omega) (by omega)) ?_
 rintro _ _ rfl
 have hXl : (List.take i x ++ List.replicate (x.length + ys.length - i) (⟨⟨#[]⟩, 0⟩ : DEnt)).length = x.length + ys.length := by rw [List.length_append, List.length_take, List.length_replicate]; omega
 refine FJ.know (WS.oform .z) ?_
 rintro ⟨Ao12, co12, rfl, hlo12, hmo12, hbo12⟩
 refine FJ.know (WS.oad .z (by omega)) ?_
 rintro ⟨ad13, rfl⟩
 refine FJ.ql rfl (q_assign rfl (.t .z)) (FJ.nil (FJ.then_ (FJ.seq (FJ.region ?_))))
 refine FJ.ql rfl (q_move rfl (.t .z)) (FJ.ql rfl (q_move rfl (.t (.s16 (.s16 (.s .z))))) ?_)
 obtain ⟨As14, hAs14⟩ : ∃ A' : Option Addr, A' = (if co12 = i then (some ad13) else Option.map (fun z => Addr.add z (i * 2)) (some ad13)) := ⟨_, rfl⟩
 have ls14 := subL_len (xs := List.take i x ++ List.replicate (x.length + ys.length - i) (⟨⟨#[]⟩, 0⟩ : DEnt)) (a := i) (b := (List.take i x ++ List.replicate (x.length + ys.length - i) (⟨⟨#[]⟩, 0⟩ : DEnt)).length) (by omega)
 have hk15 : True := trivial
 refine FJ.ql rfl (q_sliceL (a := i) (b := (List.take i x ++ List.replicate (x.length + ys.length - i) (⟨⟨#[]⟩, 0⟩ : DEnt)).length) rfl u_64 sz_68 (.t (.s .z)) hAs14 (.inr ⟨_, _, rfl, (.t .z)⟩) (.inl ⟨rfl, rfl⟩) (by omega) (by omega) (by omega)) ?_
 refine FJ.ql rfl (q_move rfl (.t (.s16 (.s16 (.s4 .z))))) ?_
 refine FJ.e (goes_list rfl) rfl (by decide) rfl (e_copyF (i := i) (xs := List.take i x ++ List.replicate (x.length + ys.length - i) (⟨⟨#[]⟩, 0⟩ : DEnt)) (ys := ys) (flat_iso _ (flat_pair (flat_scalar _ _ _) (flat_scalar _ _ _))) rfl u_64 sz_68 (cpy_len (.t (.s .z))) (hAs14.trans (by split <;> rfl)) (.t .z) (.c .z .n) (fun w1 S1 tr => (tr.own (.s .z))) (by first | omega | (simp only [List.length_append, List.length_take, List.length_drop, List.length_replicate]; omega)) (by omega)) ?_
 rintro _ _ ⟨rfl, rfl⟩
 have hXl16 : (List.take i (List.take i x ++ List.replicate (x.length + ys.length - i) (⟨⟨#[]⟩, 0⟩ : DEnt)) ++ ys ++ List.drop (i + ys.length) (List.take i x ++ List.replicate (x.length + ys.length - i) (⟨⟨#[]⟩, 0⟩ : DEnt))).length = (List.take i x ++ List.replicate (x.length + ys.length - i) (⟨⟨#[]⟩, 0⟩ : DEnt)).length := by simp only [List.length_append, List.length_take, List.length_drop, List.length_replicate]; omega
 refine FJ.chEq .z (show (ownA kSl_68 (List.take i (List.take i x ++ List.replicate (x.length + ys.length - i) (⟨⟨#[]⟩, 0⟩ : DEnt)) ++ ys ++ List.drop (i + ys.length) (List.take i x ++ List.replicate (x.length + ys.length - i) (⟨⟨#[]⟩, 0⟩ : DEnt))) [.slice (some ad13) (List.take i x ++ List.replicate (x.length + ys.length - i) (⟨⟨#[]⟩, 0⟩ : DEnt)).length co12] : Asn) = ownA kSl_68 (List.take i (List.take i x ++ List.replicate (x.length + ys.length - i) (⟨⟨#[]⟩, 0⟩ : DEnt)) ++ ys ++ List.drop (i + ys.length) (List.take i x ++ List.replicate (x.length + ys.length - i) (⟨⟨#[]⟩, 0⟩ : DEnt))) [.slice (some ad13) (List.take i (List.take i x ++ List.replicate (x.length + ys.length - i) (⟨⟨#[]⟩, 0⟩ : DEnt)) ++ ys ++ List.drop (i + ys.length) (List.take i x ++ List.replicate (x.length + ys.length - i) (⟨⟨#[]⟩, 0⟩ : DEnt))).length co12] by rw [← hXl16]) ?_
 refine FJ.eq (.s4 .z) (show (.slice (some ad13) (List.take i x ++ List.replicate (x.length + ys.length - i) (⟨⟨#[]⟩, 0⟩ : DEnt)).length co12 : Value) = .slice (some ad13) (List.take i (List.take i x ++ List.replicate (x.length + ys.length - i) (⟨⟨#[]⟩, 0⟩ : DEnt)) ++ ys ++ List.drop (i + ys.length) (List.take i x ++ List.replicate (x.length + ys.length - i) (⟨⟨#[]⟩, 0⟩ : DEnt))).length co12 by rw [← hXl16]) ?_
 refine FJ.eq (.s4 (.s .z)) (show (.slice (some ad13) (List.take i x ++ List.replicate (x.length + ys.length - i) (⟨⟨#[]⟩, 0⟩ : DEnt)).length co12 : Value) = .slice (some ad13) (List.take i (List.take i x ++ List.replicate (x.length + ys.length - i) (⟨⟨#[]⟩, 0⟩ : DEnt)) ++ ys ++ List.drop (i + ys.length) (List.take i x ++ List.replicate (x.length + ys.length - i) (⟨⟨#[]⟩, 0⟩ : DEnt))).length co12 by rw [← hXl16]) ?_
 refine FJ.eq (.s4 (.s (.s .z))) (show (.slice (some ad13) (List.take i x ++ List.replicate (x.length + ys.length - i) (⟨⟨#[]⟩, 0⟩ : DEnt)).length co12 : Value) = .slice (some ad13) (List.take i (List.take i x ++ List.replicate (x.length + ys.length - i) (⟨⟨#[]⟩, 0⟩ : DEnt)) ++ ys ++ List.drop (i + ys.length) (List.take i x ++ List.replicate (x.length + ys.length - i) (⟨⟨#[]⟩, 0⟩ : DEnt))).length co12 by rw [← hXl16]) ?_
 refine FJ.nil (FJ.then_ (FJ.seq ?_))
 refine FJ.draw [] 9 (by kernel_rfl) ?_
 refine FJ.sch [(0, true), (1, true), (2, true), (3, true), (4, true), (5, true), (6, true), (7, true), (8, false)] 0 #[true, true, true, true, true, true, true, true, true] (by rfl) (by kernel_rfl) ?_
 refine FJ.dq rfl rfl rfl (by decide) rfl (.s (.s (.s .z))) (q_move rfl (.t (.s .z))) (FJ.dq rfl rfl rfl (by decide) rfl (.s (.s (.s .z))) (q_move rfl (.t (.s16 (.s16 (.s4 (.s (.s .z))))))) (FJ.dq rfl rfl rfl (by decide) rfl (.s (.s (.s .z))) (q_move rfl (.t (.s16 (.s4 (.s4 (.s4 (.s (.s (.s .z))))))))) ?_))
 refine FJ.dq rfl rfl rfl (by decide) rfl (.s (.s (.s .z))) (q_add (c := ((i + ys.length : Nat) : Int)) rfl (.t (.s .z)) (.t .z) (wr (by omega) (by omega) (by omega))) ?_
 obtain ⟨As17, hAs17⟩ : ∃ A' : Option Addr, A' = (if co12 = i + ys.length then (some ad13) else Option.map (fun z => Addr.add z ((i + ys.length) * 2)) (some ad13)) := ⟨_, rfl⟩
 have ls17 := subL_len (xs := List.take i (List.take i x ++ List.replicate (x.length + ys.length - i) (⟨⟨#[]⟩, 0⟩ : DEnt)) ++ ys ++ List.drop (i + ys.length) (List.take i x ++ List.replicate (x.length + ys.length - i) (⟨⟨#[]⟩, 0⟩ : DEnt))) (a := i + ys.length) (b := (List.take i (List.take i x ++ List.replicate (x.length + ys.length - i) (⟨⟨#[]⟩, 0⟩ : DEnt)) ++ ys ++ List.drop (i + ys.length) (List.take i x ++ List.replicate (x.length + ys.length - i) (⟨⟨#[]⟩, 0⟩ : DEnt))).length) (by omega)
 have hk18 : True := trivial
 refine FJ.dq rfl rfl rfl (by decide) rfl (.s (.s (.s .z))) (q_sliceL (a := i + ys.length) (b := (List.take i (List.take i x ++ List.replicate (x.length + ys.length - i) (⟨⟨#[]⟩, 0⟩ : DEnt)) ++ ys ++ List.drop (i + ys.length) (List.take i x ++ List.replicate (x.length + ys.length - i) (⟨⟨#[]⟩, 0⟩ : DEnt))).length) rfl u_64 sz_68 (.t (.s (.s (.s .z)))) hAs17 (.inr ⟨_, _, rfl, (.t .z)⟩) (.inl ⟨rfl, rfl⟩) (by omega) (by omega) (by omega)) ?_
 refine FJ.dq rfl rfl rfl (by decide) rfl (.s (.s (.s .z))) (q_move rfl (.t (.s16 (.s16 (.s4 (.s4 (.s .z))))))) (FJ.dq rfl rfl rfl (by decide) rfl (.s (.s (.s .z))) (q_move rfl (.t (.s16 (.s16 (.s4 (.s4 (.s (.s (.s .z))))))))) ?_)
 obtain ⟨As19, hAs19⟩ : ∃ A' : Option Addr, A' = (if co1 = i then (some ad9) else Option.map (fun z => Addr.add z (i * 2)) (some ad9)) := ⟨_, rfl⟩
 have ls19 := subL_len (xs := x) (a := i) (b := x.length) (by omega)
 have hk20 : True := trivial
 refine FJ.dq rfl rfl rfl (by decide) rfl (.s (.s (.s .z))) (q_sliceL (a := i) (b := x.length) rfl u_64 sz_68 (.t (.s .z)) hAs19 (.inr ⟨_, _, rfl, (.t .z)⟩) (.inl ⟨rfl, rfl⟩) (by omega) (by omega) (by omega)) ?_
 refine FJ.e (goes_sch rfl rfl) rfl (by decide) rfl (e_copyF (i := i + ys.length) (xs := List.take i (List.take i x ++ List.replicate (x.length + ys.length - i) (⟨⟨#[]⟩, 0⟩ : DEnt)) ++ ys ++ List.drop (i + ys.length) (List.take i x ++ List.replicate (x.length + ys.length - i) (⟨⟨#[]⟩, 0⟩ : DEnt))) (ys := (subL x i x.length)) (flat_iso _ (flat_pair (flat_scalar _ _ _) (flat_scalar _ _ _))) rfl u_64 sz_68 (cpy_len (.t (.s (.s (.s .z))))) (hAs17.trans (by split <;> rfl)) (.t .z) (.c .z .n) (fun w1 S1 tr => (ro_sub (a := i) (b := x.length) hAs19 (tr.own .z) (by omega) (by omega))) (by first | omega | (simp only [List.length_append, List.length_take, List.length_drop, List.length_replicate]; omega)) (by omega)) ?_
 rintro _ _ ⟨rfl, rfl⟩
 have hXl21 : (List.take (i + ys.length) (List.take i (List.take i x ++ List.replicate (x.length + ys.length - i) (⟨⟨#[]⟩, 0⟩ : DEnt)) ++ ys ++ List.drop (i + ys.length) (List.take i x ++ List.replicate (x.length + ys.length - i) (⟨⟨#[]⟩, 0⟩ : DEnt))) ++ (subL x i x.length) ++ List.drop (i + ys.length + (subL x i x.length).length) (List.take i (List.take i x ++ List.replicate (x.length + ys.length - i) (⟨⟨#[]⟩, 0⟩ : DEnt)) ++ ys ++ List.drop (i + ys.length) (List.take i x ++ List.replicate (x.length + ys.length - i) (⟨⟨#[]⟩, 0⟩ : DEnt)))).length = (List.take i (List.take i x ++ List.replicate (x.length + ys.length - i) (⟨⟨#[]⟩, 0⟩ : DEnt)) ++ ys ++ List.drop (i + ys.length) (List.take i x ++ List.replicate (x.length + ys.length - i) (⟨⟨#[]⟩, 0⟩ : DEnt))).length := by simp only [List.length_append, List.length_take, List.length_drop, List.length_replicate]; omega
 refine FJ.chEq .z (show (ownA kSl_68 (List.take (i + ys.length) (List.take i (List.take i x ++ List.replicate (x.length + ys.length - i) (⟨⟨#[]⟩, 0⟩ : DEnt)) ++ ys ++ List.drop (i + ys.length) (List.take i x ++ List.replicate (x.length + ys.length - i) (⟨⟨#[]⟩, 0⟩ : DEnt))) ++ (subL x i x.length) ++ List.drop (i + ys.length + (subL x i x.length).length) (List.take i (List.take i x ++ List.replicate (x.length + ys.length - i) (⟨⟨#[]⟩, 0⟩ : DEnt)) ++ ys ++ List.drop (i + ys.length) (List.take i x ++ List.replicate (x.length + ys.length - i) (⟨⟨#[]⟩, 0⟩ : DEnt)))) [.slice (some ad13) (List.take i (List.take i x ++ List.replicate (x.length + ys.length - i) (⟨⟨#[]⟩, 0⟩ : DEnt)) ++ ys ++ List.drop (i + ys.length) (List.take i x ++ List.replicate (x.length + ys.length - i) (⟨⟨#[]⟩, 0⟩ : DEnt))).length co12] : Asn) = ownA kSl_68 (List.take (i + ys.length) (List.take i (List.take i x ++ List.replicate (x.length + ys.length - i) (⟨⟨#[]⟩, 0⟩ : DEnt)) ++ ys ++ List.drop (i + ys.length) (List.take i x ++ List.replicate (x.length + ys.length - i) (⟨⟨#[]⟩, 0⟩ : DEnt))) ++ (subL x i x.length) ++ List.drop (i + ys.length + (subL x i x.length).length) (List.take i (List.take i x ++ List.replicate (x.length + ys.length - i) (⟨⟨#[]⟩, 0⟩ : DEnt)) ++ ys ++ List.drop (i + ys.length) (List.take i x ++ List.replicate (x.length + ys.length - i) (⟨⟨#[]⟩, 0⟩ : DEnt)))) [.slice (some ad13) (List.take (i + ys.length) (List.take i (List.take i x ++ List.replicate (x.length + ys.length - i) (⟨⟨#[]⟩, 0⟩ : DEnt)) ++ ys ++ List.drop (i + ys.length) (List.take i x ++ List.replicate (x.length + ys.length - i) (⟨⟨#[]⟩, 0⟩ : DEnt))) ++ (subL x i x.length) ++ List.drop (i + ys.length + (subL x i x.length).length) (List.take i (List.take i x ++ List.replicate (x.length + ys.length - i) (⟨⟨#[]⟩, 0⟩ : DEnt)) ++ ys ++ List.drop (i + ys.length) (List.take i x ++ List.replicate (x.length + ys.length - i) (⟨⟨#[]⟩, 0⟩ : DEnt)))).length co12] by rw [← hXl21]) ?_
 refine FJ.eq (.s4 (.s4 .z)) (show (.slice (some ad13) (List.take i (List.take i x ++ List.replicate (x.length + ys.length - i) (⟨⟨#[]⟩, 0⟩ : DEnt)) ++ ys ++ List.drop (i + ys.length) (List.take i x ++ List.replicate (x.length + ys.length - i) (⟨⟨#[]⟩, 0⟩ : DEnt))).length co12 : Value) = .slice (some ad13) (List.take (i + ys.length) (List.take i (List.take i x ++ List.replicate (x.length + ys.length - i) (⟨⟨#[]⟩, 0⟩ : DEnt)) ++ ys ++ List.drop (i + ys.length) (List.take i x ++ List.replicate (x.length + ys.length - i) (⟨⟨#[]⟩, 0⟩ : DEnt))) ++ (subL x i x.length) ++ List.drop (i + ys.length + (subL x i x.length).length) (List.take i (List.take i x ++ List.replicate (x.length + ys.length - i) (⟨⟨#[]⟩, 0⟩ : DEnt)) ++ ys ++ List.drop (i + ys.length) (List.take i x ++ List.replicate (x.length + ys.length - i) (⟨⟨#[]⟩, 0⟩ : DEnt)))).length co12 by rw [← hXl21]) ?_
 refine FJ.eq (.s4 (.s4 (.s .z))) (show (.slice (some ad13) (List.take i (List.take i x ++ List.replicate (x.length + ys.length - i) (⟨⟨#[]⟩, 0⟩ : DEnt)) ++ ys ++ List.drop (i + ys.length) (List.take i x ++ List.replicate (x.length + ys.length - i) (⟨⟨#[]⟩, 0⟩ : DEnt))).length co12 : Value) = .slice (some ad13) (List.take (i + ys.length) (List.take i (List.take i x ++ List.replicate (x.length + ys.length - i) (⟨⟨#[]⟩, 0⟩ : DEnt)) ++ ys ++ List.drop (i + ys.length) (List.take i x ++ List.replicate (x.length + ys.length - i) (⟨⟨#[]⟩, 0⟩ : DEnt))) ++ (subL x i x.length) ++ List.drop (i + ys.length + (subL x i x.length).length) (List.take i (List.take i x ++ List.replicate (x.length + ys.length - i) (⟨⟨#[]⟩, 0⟩ : DEnt)) ++ ys ++ List.drop (i + ys.length) (List.take i x ++ List.replicate (x.length + ys.length - i) (⟨⟨#[]⟩, 0⟩ : DEnt)))).length co12 by rw [← hXl21]) ?_
 refine FJ.eq (.s4 (.s4 (.s (.s .z)))) (show (.slice (some ad13) (List.take i (List.take i x ++ List.replicate (x.length + ys.length - i) (⟨⟨#[]⟩, 0⟩ : DEnt)) ++ ys ++ List.drop (i + ys.length) (List.take i x ++ List.replicate (x.length + ys.length - i) (⟨⟨#[]⟩, 0⟩ : DEnt))).length co12 : Value) = .slice (some ad13) (List.take (i + ys.length) (List.take i (List.take i x ++ List.replicate (x.length + ys.length - i) (⟨⟨#[]⟩, 0⟩ : DEnt)) ++ ys ++ List.drop (i + ys.length) (List.take i x ++ List.replicate (x.length + ys.length - i) (⟨⟨#[]⟩, 0⟩ : DEnt))) ++ (subL x i x.length) ++ List.drop (i + ys.length + (subL x i x.length).length) (List.take i (List.take i x ++ List.replicate (x.length + ys.length - i) (⟨⟨#[]⟩, 0⟩ : DEnt)) ++ ys ++ List.drop (i + ys.length) (List.take i x ++ List.replicate (x.length + ys.length - i) (⟨⟨#[]⟩, 0⟩ : DEnt)))).length co12 by rw [← hXl21]) ?_
 refine FJ.eq (.s4 (.s4 (.s (.s (.s .z))))) (show (.slice (some ad13) (List.take i (List.take i x ++ List.replicate (x.length + ys.length - i) (⟨⟨#[]⟩, 0⟩ : DEnt)) ++ ys ++ List.drop (i + ys.length) (List.take i x ++ List.replicate (x.length + ys.length - i) (⟨⟨#[]⟩, 0⟩ : DEnt))).length co12 : Value) = .slice (some ad13) (List.take (i + ys.length) (List.take i (List.take i x ++ List.replicate (x.length + ys.length - i) (⟨⟨#[]⟩, 0⟩ : DEnt)) ++ ys ++ List.drop (i + ys.length) (List.take i x ++ List.replicate (x.length + ys.length - i) (⟨⟨#[]⟩, 0⟩ : DEnt))) ++ (subL x i x.length) ++ List.drop (i + ys.length + (subL x i x.length).length) (List.take i (List.take i x ++ List.replicate (x.length + ys.length - i) (⟨⟨#[]⟩, 0⟩ : DEnt)) ++ ys ++ List.drop (i + ys.length) (List.take i x ++ List.replicate (x.length + ys.length - i) (⟨⟨#[]⟩, 0⟩ : DEnt)))).length co12 by rw [← hXl21]) ?_
 refine FJ.sk (.s (.s (.s .z))) ?_
 refine FJ.schN ?_
 refine FJ.drawN (by kernel_rfl) ?_
 refine FJ.then_ (FJ.seq (FJ.region (FJ.ql rfl (q_move rfl (.t (.s .z))) (FJ.er (.s16 (.s16 (.s4 (.s4 (.s4 (.s .z)))))) ?_))))
 refine FJ.ql rfl (q_assign rfl (.t .z)) (FJ.nil (FJ.then_ (FJ.ret (FJ.thenR ?_))))
 refine FJ.ceq (x' := List.take i x ++ ys ++ List.drop i x) .z (ins_grow (by omega) rfl) ?_
 refine FJ.doneS (res1 rfl .z) (.c .z .n) ?_
 rfl
 refine FJ.skip (FJ.then_ (FJ.seq (FJ.region (FJ.ql rfl (q_move rfl (.t (.s16 (.s4 (.s .z))))) ?_))))
 refine FJ.ql rfl (q_move rfl (.t (.s4 (.s4 (.s (.s .z)))))) (FJ.ql rfl (q_move rfl (.t (.s16 .z))) ?_)
 refine FJ.ql rfl (q_add (c := ((x.length + ys.length : Nat) : Int)) rfl (.t (.s .z)) (.t .z) (wr (by omega) (by omega) (by omega))) ?_
 refine FJ.ql rfl (q_sliceHi (b := x.length + ys.length) rfl u_64 sz_68 (.t (.s (.s (.s .z)))) (.t .z) (by omega)) ?_
 refine FJ.er (.s16 (.s4 (.s4 (.s (.s .z))))) (FJ.ql rfl (q_assign rfl (.t .z)) (FJ.nil (FJ.then_ (FJ.seq ?_))))
 refine FJ.seq (FJ.region (FJ.ql rfl (q_move rfl (.t (.s16 (.s4 (.s4 (.s4 .z)))))) (FJ.ql rfl (q_move rfl (.t (.s .z))) (FJ.ql rfl (q_move rfl (.t (.s16 (.s4 (.s4 (.s4 (.s .z))))))) ?_))))
 refine FJ.ql rfl (q_move rfl (.t (.s16 (.s4 (.s (.s (.s .z))))))) ?_
 refine FJ.ql rfl (q_add (c := ((i + ys.length : Nat) : Int)) rfl (.t (.s .z)) (.t .z) (wr (by omega) (by omega) (by omega))) ?_
 refine FJ.ql rfl (q_slice (a := i + ys.length) (b := x.length + ys.length) rfl u_64 sz_68 (.t (.s (.s (.s .z)))) (.inr ⟨_, _, rfl, (.t .z)⟩) (.inl ⟨rfl, rfl⟩) (by omega) (by omega)) ?_
 refine FJ.e (goes_list rfl) rfl (by decide) rfl (e_overlaps (tS := 64) (tR := 4) (i := i + ys.length) rfl Tryz.func164 rfl rfl (by kernel_rfl) (by kernel_rfl) u_64 sz_68 (.t (.s4 (.s .z))) (.t .z) rfl (.c .z (.c .z .n)) (by omega) (by omega)) ?_
 rintro _ _ ⟨rfl, rfl⟩
 refine FJ.ql rfl (q_not rfl (.t .z)) (FJ.nil (FJ.then_ ?_))
 refine FJ.condT (.t .z) ?_
 refine FJ.seq ?_
 refine FJ.draw [] 9 (by kernel_rfl) ?_
 refine FJ.sch [(0, true), (1, true), (2, true), (3, true), (4, true), (5, true), (6, true), (7, true), (8, false)] 0 #[true, true, true, true, true, true, true, true, true] (by rfl) (by kernel_rfl) ?_
 refine FJ.dq rfl rfl rfl (by decide) rfl (.s (.s .z)) (q_move rfl (.t (.s4 (.s4 .z)))) (FJ.dq rfl rfl rfl (by decide) rfl (.s (.s .z)) (q_move rfl (.t (.s16 (.s16 (.s4 .z))))) (FJ.dq rfl rfl rfl (by decide) rfl (.s (.s .z)) (q_move rfl (.t (.s16 (.s4 (.s4 (.s4 (.s (.s .z)))))))) ?_))
 refine FJ.dq rfl rfl rfl (by decide) rfl (.s (.s .z)) (q_add (c := ((i + ys.length : Nat) : Int)) rfl (.t (.s .z)) (.t .z) (wr (by omega) (by omega) (by omega))) ?_
 refine FJ.dq rfl rfl rfl (by decide) rfl (.s (.s .z)) (q_slice (a := i + ys.length) (b := x.length + ys.length) rfl u_64 sz_68 (.t (.s (.s (.s .z)))) (.inr ⟨_, _, rfl, (.t .z)⟩) (.inl ⟨rfl, rfl⟩) (by omega) (by omega)) ?_
 refine FJ.dq rfl rfl rfl (by decide) rfl (.s (.s .z)) (q_move rfl (.t (.s4 (.s4 (.s4 (.s .z)))))) (FJ.dq rfl rfl rfl (by decide) rfl (.s (.s .z)) (q_move rfl (.t (.s16 (.s16 (.s4 (.s4 (.s .z))))))) ?_)
 refine FJ.dq rfl rfl rfl (by decide) rfl (.s (.s .z)) (q_slice (a := i) (b := x.length + ys.length) rfl u_64 sz_68 (.t (.s .z)) (.inr ⟨_, _, rfl, (.t .z)⟩) (.inl ⟨rfl, rfl⟩) (by omega) (by omega)) ?_
 refine FJ.e (goes_sch rfl rfl) rfl (by decide) rfl (e_copyGap (i := i) (m := ys.length) (flat_iso _ (flat_pair (flat_scalar _ _ _) (flat_scalar _ _ _))) rfl u_64 sz_68 (cpy_n (.t (.s (.s (.s .z)))) (by omega)) rfl (.t .z) rfl (.c .z .n) (by omega) (by omega) (by omega)) ?_
 rintro _ _ ⟨g22, rfl, rfl, rfl⟩
 refine FJ.sk (.s (.s .z)) ?_
 refine FJ.schN ?_
 refine FJ.drawN (by kernel_rfl) ?_
 refine FJ.then_ (FJ.seq (FJ.region (FJ.ql rfl (q_move rfl (.t (.s16 (.s .z)))) (FJ.ql rfl (q_move rfl (.t (.s16 (.s16 (.s4 (.s4 (.s4 (.s .z)))))))) ?_))))
 refine FJ.ql rfl (q_slice (a := i) (b := x.length + ys.length) rfl u_64 sz_68 (.t (.s .z)) (.inr ⟨_, _, rfl, (.t .z)⟩) (.inl ⟨rfl, rfl⟩) (by omega) (by omega)) ?_
 refine FJ.ql rfl (q_move rfl (.t (.s16 (.s16 (.s16 .z))))) ?_
 refine FJ.e (goes_list rfl) rfl (by decide) rfl (e_copyFill (by_ := 24) (flat_iso _ (flat_pair (flat_scalar _ _ _) (flat_scalar _ _ _))) rfl u_64 sz_68 (.t (.s .z)) rfl (.t .z) (.c .z .n) (fun w1 S1 tr => (tr.own .z)) (by omega) rfl (by omega) (by omega) (by omega) (by omega)) ?_
 rintro _ _ ⟨rfl, rfl⟩
 refine FJ.nil (FJ.then_ (FJ.seq (FJ.region (FJ.ql rfl (q_move rfl (.t (.s16 (.s4 (.s (.s .z)))))) ?_))))
 refine FJ.er (.s16 (.s16 (.s16 (.s .z)))) (FJ.ql rfl (q_assign rfl (.t .z)) (FJ.nil (FJ.then_ (FJ.ret ?_))))
 refine FJ.thenR ?_
 refine FJ.doneS (res1 rfl .z) (.c .z .n) ?_
 rfl

end Go.Proofs.YtbcdcakcmdcafaaGreat

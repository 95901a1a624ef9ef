/- What is proved: contracts of functions, one a function. No condition. -/
import Derived.Test.YtbcdcakcmdcafaaGreatW24
import Derived.Test.YtbcdcakcmdcafaaGreatBase2
namespace Go.Proofs.YtbcdcakcmdcafaaGreat
open Go Go.RowKit
set_option linter.unusedVariables false
set_option linter.unusedSimpArgs false
set_option maxHeartbeats 1000000 in
set_option maxRecDepth 20000 in
theorem c_92 {w0 : World} {S0 : Bs} {x : (List UInt8)} {v0 : Value} (h0 : kSl_5.ro w0 (FF w0 S0) x [v0])  :
    Calls Tryz.prog 92 #[v0] w0 (TriPost w0 S0 (fun r l => l = [ownA kSl_5 x [r]])) := by
 obtain ⟨A0, c0, rfl, hl0, hm0, hb0, he0⟩ := ro_form h0
 refine FJ.enter (N := 8) Tryz.func92 rfl rfl (by simp) [(0, .slice A0 x.length c0)] (by simp) (l0 := []) trivial ?_
 refine FJ.seq (FJ.region (FJ.ql rfl (q_assign rfl .c) (FJ.nil (FJ.then_ ?_))))
 refine FJ.seq (FJ.seq (FJ.region (FJ.ql rfl (q_move rfl (.t (.s .z))) (FJ.ql rfl (q_eqnil rfl u_39 (.t .z) .c) ?_))))
 refine FJ.nil (FJ.then_ ?_)
 refine FJ.cond (.t .z) (fun b2 => ?_) (fun b2 => ?_)
 refine FJ.seq (FJ.region (FJ.er (.s (.s .z)) (FJ.ql rfl (q_assign rfl .c) (FJ.nil ?_))))
 refine FJ.then_ (FJ.ret (FJ.thenR ?_))
 refine FJ.add (c := ownA kSl_5 [] [.slice none 0 0]) (fun w S => own_nil w S none) ?_
 refine FJ.ceq .z (nil_of he0 (by assumption)) ?_
 refine FJ.doneS (res1 rfl .z) (.c .z .n) ?_
 rfl
 refine FJ.skip (FJ.then_ (FJ.seq (FJ.region ?_)))
 refine FJ.e (goes_list rfl) rfl (by decide) rfl (e_buildNil rfl u_39 (inz inf_5)) ?_
 rintro _ _ ⟨g4, rfl, rfl⟩
 refine FJ.ql rfl (q_move rfl (.t (.s4 .z))) ?_
 refine FJ.add (c := ownA kSl_5 ([] : (List UInt8)) [.slice (some ⟨g4, 0, none⟩) 0 0]) (fun w S => own_nil w S _) ?_
 refine FJ.e (goes_list rfl) rfl (by decide) rfl (e_appendF (flat_scalar _ _ _) rfl u_39 inf_5 rfl (.t (.s .z)) (.t .z) (.c .z .n) (fun w1 S1 tr => tr.ctx h0) (by first | omega | (simp only [List.length_append, List.length_take, List.length_nil, List.length_cons]; omega)) (by first | omega | (simp only [List.length_append, List.length_take, List.length_nil, List.length_cons]; omega))) ?_
 rintro _ _ rfl
 refine FJ.ceq .z (List.nil_append _) ?_
 refine FJ.know (WS.oform .z) ?_
 rintro ⟨Ao6, co6, rfl, hlo6, hmo6, hbo6⟩
 refine FJ.er (.s4 (.s .z)) (FJ.ql rfl (q_assign rfl (.t .z)) (FJ.nil (FJ.then_ (FJ.ret ?_))))
 refine FJ.doneS (res1 rfl .z) (.c .z .n) ?_
 rfl

set_option maxHeartbeats 1000000 in
set_option maxRecDepth 20000 in
theorem c_112 {w0 : World} {S0 : Bs} {x : (List DEnt)} {v0 : Value} (h0 : kSl_68.ro w0 (FF w0 S0) x [v0])  :
    Calls Tryz.prog 112 #[v0] w0 (TriPost w0 S0 (fun r l => l = [ownA kSl_68 x [r]])) := by
 obtain ⟨A0, c0, rfl, hl0, hm0, hb0, he0⟩ := ro_form h0
 refine FJ.enter (N := 8) Tryz.func112 rfl rfl (by simp) [(0, .slice A0 x.length c0)] (by simp) (l0 := []) trivial ?_
 refine FJ.seq (FJ.region (FJ.ql rfl (q_assign rfl .c) (FJ.nil (FJ.then_ ?_))))
 refine FJ.seq (FJ.seq (FJ.region (FJ.ql rfl (q_move rfl (.t (.s .z))) (FJ.ql rfl (q_eqnil rfl u_64 (.t .z) .c) ?_))))
 refine FJ.nil (FJ.then_ ?_)
 refine FJ.cond (.t .z) (fun b2 => ?_) (fun b2 => ?_)
 refine FJ.seq (FJ.region (FJ.er (.s (.s .z)) (FJ.ql rfl (q_assign rfl .c) (FJ.nil ?_))))
 refine FJ.then_ (FJ.ret (FJ.thenR ?_))
 refine FJ.add (c := ownA kSl_68 [] [.slice none 0 0]) (fun w S => own_nil w S none) ?_
 refine FJ.ceq .z (nil_of he0 (by assumption)) ?_
 refine FJ.doneS (res1 rfl .z) (.c .z .n) ?_
 rfl
 refine FJ.skip (FJ.then_ (FJ.seq (FJ.region ?_)))
 refine FJ.e (goes_list rfl) rfl (by decide) rfl (e_buildNil rfl u_64 (inz inf_68)) ?_
 rintro _ _ ⟨g4, rfl, rfl⟩
 refine FJ.ql rfl (q_move rfl (.t (.s4 .z))) ?_
 refine FJ.add (c := ownA kSl_68 ([] : (List DEnt)) [.slice (some ⟨g4, 0, none⟩) 0 0]) (fun w S => own_nil w S _) ?_
 refine FJ.e (goes_list rfl) rfl (by decide) rfl (e_appendF (flat_iso _ (flat_pair (flat_scalar _ _ _) (flat_scalar _ _ _))) rfl u_64 inf_68 rfl (.t (.s .z)) (.t .z) (.c .z .n) (fun w1 S1 tr => tr.ctx h0) (by first | omega | (simp only [List.length_append, List.length_take, List.length_nil, List.length_cons]; omega)) (by first | omega | (simp only [List.length_append, List.length_take, List.length_nil, List.length_cons]; omega))) ?_
 rintro _ _ rfl
 refine FJ.ceq .z (List.nil_append _) ?_
 refine FJ.know (WS.oform .z) ?_
 rintro ⟨Ao6, co6, rfl, hlo6, hmo6, hbo6⟩
 refine FJ.er (.s4 (.s .z)) (FJ.ql rfl (q_assign rfl (.t .z)) (FJ.nil (FJ.then_ (FJ.ret ?_))))
 refine FJ.doneS (res1 rfl .z) (.c .z .n) ?_
 rfl

set_option maxHeartbeats 1000000 in
set_option maxRecDepth 20000 in
theorem c_48 {w0 : World} {S0 : Bs} {x : (List (List UInt8))} {v0 : Value} (h0 : kSl_39.ro w0 (FF w0 S0) x [v0])  :
    Calls Tryz.prog 48 #[v0] w0 (TriPost w0 S0 (fun r l => l = [ownA kSl_39 x [r]])) := by
 obtain ⟨A0, c0, rfl, hl0, hm0, hb0, he0⟩ := ro_form h0
 refine FJ.enter (N := 19) Tryz.func48 rfl rfl (by simp) [(0, .slice A0 x.length c0)] (by simp) (l0 := []) trivial ?_
 refine FJ.seq (FJ.region (FJ.ql rfl (q_assign rfl .c) (FJ.nil (FJ.then_ ?_))))
 refine FJ.seq (FJ.region (FJ.ql rfl (q_assign rfl .c) (FJ.nil (FJ.then_ ?_))))
 refine FJ.seq (FJ.seq (FJ.region (FJ.ql rfl (q_move rfl (.t (.s (.s .z)))) (FJ.ql rfl (q_len rfl u_22 (.t .z)) ?_))))
 refine FJ.ql rfl (q_move rfl .c) (FJ.nil (FJ.then_ (FJ.block ?_)))
 refine FJ.add (c := ownA kSl_39 [] [.slice none 0 0]) (fun w S => own_nil w S none) ?_
 refine FJ.loopi (γ := Nat × (Option Addr) × Nat) (fun ⟨k, Agk0, cgk0⟩ => [(8, .int .i64 (k : Int)), (7, .int .i64 (x.length : Int)), (6, .slice A0 x.length c0), (3, .slice Agk0 (List.take k x).length cgk0), (2, .slice none 0 0)]) (fun ⟨k, Agk0, cgk0⟩ => [ownA kSl_39 (List.take k x) [.slice Agk0 (List.take k x).length cgk0]]) (fun ⟨k, Agk0, cgk0⟩ => k ≤ x.length) (fun ⟨k, Agk0, cgk0⟩ => x.length - k) (0, none, 0) (Nat.zero_le _) (.c .z (.c (.s .z) (.c (.s (.s .z)) (.c (.s (.s (.s .z))) (.c (.s4 .z) .n))))) (fun _ h => h.sel (.c .z .n)) ?_
 rintro ⟨k, Agk0, cgk0⟩ hk
 refine FJ.seq (FJ.region (FJ.ql rfl (q_lss rfl (.t .z) (.t (.s .z))) (FJ.nil (FJ.then_ ?_))))
 refine FJ.seq ?_
 refine FJ.condP (.t .z) (fun b3 => ?_) (fun b3 => ?_)
 refine FJ.skip (FJ.then_ (FJ.seq (FJ.block (FJ.seq ?_))))
 refine FJ.region ?_
 obtain ⟨ad4, hAad4, hrad4⟩ := he0 (by omega)
 subst hAad4
 obtain ⟨x5, hx5⟩ := get_ex (xs := x) (j := k) (by omega)
 obtain ⟨ece6, hre6, hFe6, hce6⟩ := hrad4.elem hx5
 obtain ⟨ue6, rfl⟩ := sl_one hre6
 obtain ⟨Ae6, ce6, rfl, hle6, hme6, hbe6, hee6⟩ := ro_form hre6
 refine FJ.ql rfl (q_indexAddr (j := k) rfl u_22 sz_39 (.t (.s (.s (.s .z)))) (.t (.s .z)) rfl (by omega)) ?_
 refine FJ.ql rfl (q_load rfl ag_39 (.t .z) (WS.el0 hFe6 hce6 rfl)) (FJ.ql rfl (q_assign rfl (.t .z)) (FJ.nil (FJ.then_ (FJ.region ?_))))
 refine FJ.ql rfl (q_move rfl (.t (.s4 (.s (.s (.s .z)))))) (FJ.ql rfl (q_move rfl (.t (.s .z))) ?_)
 refine FJ.call (goes_list rfl) rfl (by decide) rfl (c_call rfl Tryz.func92 rfl rfl (args1 (.t .z))) .n (fun w1 S1 hs tr => c_92 (tr.ctx hre6)) ?_
 rintro _ _ rfl
 refine FJ.cat (.c .n) ?_
 refine FJ.know (WS.oform .z) ?_
 rintro ⟨Ao9, co9, rfl, hlo9, hmo9, hbo9⟩
 refine FJ.e (goes_list rfl) rfl (by decide) rfl (e_buildSliceL (ps := [(0, .slice Ao9 x5.length co9)]) (cs := [.slice Ao9 x5.length co9]) rfl u_22 (inz inf_39) (by decide) (by intro act hact; simp only [List.map_toArray, List.map_cons, List.map_nil, (show Val _ _ _ from (.t .z)) act hact]) rfl rfl (by decide) rfl rfl) ?_
 rintro _ _ ⟨g10, rfl, rfl⟩
 refine FJ.e (goes_list rfl) rfl (by decide) rfl (e_append1 rfl u_22 inf_39 rfl (.t (.s (.s (.s .z)))) (.t .z) (.c (.s (.s .z)) (.c .z (.c .z .n))) (by first | omega | (simp only [List.length_take, List.length_cons, List.length_nil]; omega) | (simp only [List.length_append, List.length_replicate, List.length_cons, List.length_nil]; omega)) (by first | omega | (simp only [List.length_take, List.length_cons, List.length_nil]; omega) | (simp only [List.length_append, List.length_replicate, List.length_cons, List.length_nil]; omega))) ?_
 rintro _ _ rfl
 refine FJ.ceq .z (take_get hx5).symm ?_
 refine FJ.know (WS.oform .z) ?_
 rintro ⟨Ao11, co11, rfl, hlo11, hmo11, hbo11⟩
 refine FJ.er (.s4 (.s4 (.s4 .z))) (FJ.ql rfl (q_assign rfl (.t .z)) (FJ.nil (FJ.inBN (FJ.then_ ?_))))
 refine FJ.region ?_
 refine FJ.ql rfl (q_add (c := ((k + 1 : Nat) : Int)) rfl (.t (.s4 (.s4 (.s (.s .z))))) .c (wr (by omega) (by omega) (by omega))) ?_
 refine FJ.er (.s4 (.s4 (.s (.s (.s .z))))) (FJ.ql rfl (q_move rfl (.t .z)) (FJ.nil ?_))
 refine FJ.again ((k + 1), Ao11, co11) (by omega) (by first | omega | (dsimp only; omega)) (.c .z (.c (.s4 (.s4 (.s4 .z))) (.c (.s4 (.s4 (.s4 (.s .z)))) (.c (.s (.s .z)) (.c (.s4 (.s4 (.s4 (.s (.s .z))))) .n))))) (fun _ h => h.sel (.c .z .n))
 refine FJ.exit (FJ.thenE (FJ.thenE (FJ.inB (FJ.then_ ?_))))
 refine FJ.seq (FJ.region (FJ.ql rfl (q_move rfl (.t (.s4 .z))) (FJ.er (.s4 (.s (.s .z))) (FJ.ql rfl (q_assign rfl (.t .z)) ?_))))
 refine FJ.nil (FJ.then_ (FJ.ret ?_))
 have he12 : List.take k x = x := (List.take_of_length_le (by omega))
 refine FJ.eq .z (congrArg (fun z_ => (.slice Agk0 (z_).length cgk0 : Value)) he12) ?_
 refine FJ.eq (.s .z) (congrArg (fun z_ => (.slice Agk0 (z_).length cgk0 : Value)) he12) ?_
 refine FJ.eq (.s4 (.s (.s .z))) (congrArg (fun z_ => (.slice Agk0 (z_).length cgk0 : Value)) he12) ?_
 refine FJ.chEq .z (congrArg (fun z_ => (ownA kSl_39 (z_) [.slice Agk0 (z_).length cgk0] : Asn)) he12) ?_
 refine FJ.doneS (res1 rfl (.s (.s .z))) (.c .z .n) ?_
 rfl

set_option maxHeartbeats 1000000 in
set_option maxRecDepth 20000 in
theorem c_13 {w0 : World} {S0 : Bs} {x : (List (List UInt8))} {v0 : Value} (h0 : kSl_39.ro w0 (FF w0 S0) x [v0])  :
    Calls Tryz.prog 13 #[v0] w0 (TriPost w0 S0 (RA_28 (newR x))) := by
 obtain ⟨A0, c0, rfl, hl0, hm0, hb0, he0⟩ := ro_form h0
 refine FJ.enter (N := 27) Tryz.func13 rfl rfl (by simp) [(0, .slice A0 x.length c0)] (by simp) (l0 := []) trivial ?_
 refine FJ.seq (FJ.region ?_)
 refine FJ.e (goes_list rfl) rfl (by decide) rfl (e_alloc rfl z_28 rfl rfl) ?_
 rintro _ _ ⟨g2, rfl, rfl⟩
 refine FJ.nil (FJ.then_ (FJ.seq (FJ.region ?_)))
 refine FJ.ql rfl (q_build (ps := [(0, .int .i64 2)]) (cs := [.int .i64 2, .int .i64 0, .int .i64 0, .slice none 0 0, .slice none 0 0]) rfl bl_66 (by intro act hact; simp only [List.map_toArray, List.map_cons, List.map_nil, (show Val _ _ _ from .c) act hact]) rfl) ?_
 refine FJ.e (goes_list rfl) rfl (by decide) rfl (e_buildSliceL (ps := [(0, .agg #[.int .i64 2, .int .i64 0, .int .i64 0, .slice none 0 0, .slice none 0 0])]) (cs := [.int .i64 2, .int .i64 0, .int .i64 0, .slice none 0 0, .slice none 0 0]) rfl u_24 (inz inf_66) (by decide) (by intro act hact; simp only [List.map_toArray, List.map_cons, List.map_nil, (show Val _ _ _ from (.t .z)) act hact]) rfl rfl (by decide) rfl rfl) ?_
 rintro _ _ ⟨g3, rfl, rfl⟩
 refine FJ.ql rfl (q_move rfl (.t (.s (.s (.s .z))))) ?_
 refine FJ.call (goes_list rfl) rfl (by decide) rfl (c_call rfl Tryz.func48 rfl rfl (args1 (.t .z))) .n (fun w1 S1 hs tr => c_48 (tr.ctx h0)) ?_
 rintro _ _ rfl
 refine FJ.cat (.c .n) ?_
 refine FJ.know (WS.oform .z) ?_
 rintro ⟨Ao5, co5, rfl, hlo5, hmo5, hbo5⟩
 refine FJ.ql rfl (q_build (ps := [(0, .slice (some ⟨g3, 0, none⟩) 1 1), (1, .slice Ao5 x.length co5)]) (cs := [.slice (some ⟨g3, 0, none⟩) 1 1, .slice Ao5 x.length co5]) rfl bl_26 (by intro act hact; simp only [List.map_toArray, List.map_cons, List.map_nil, (show Val _ _ _ from (.t (.s (.s .z)))) act hact, (show Val _ _ _ from (.t .z)) act hact]) rfl) ?_
 refine FJ.e (goes_list rfl) rfl (by decide) rfl (e_alloc rfl z_26 rfl rfl) ?_
 rintro _ _ ⟨g6, rfl, rfl⟩
 refine FJ.es (goes_list rfl) rfl (es_store (off := 0) (cs := [.slice (some ⟨g3, 0, none⟩) 1 1, .slice Ao5 x.length co5]) rfl sz_26 (.t .z) (.t (.s .z)) rfl (ones rfl) .z (Nat.le_of_ble_eq_true rfl) (.c .z (.c (.s .z) .n))) ?_
 refine FJ.nil (FJ.then_ (FJ.seq (FJ.block ?_)))
 refine FJ.add (c := ownA kSl_2 [] [.slice none 0 0]) (fun w S => own_nil w S none) ?_
 refine FJ.add (c := ownA kSl_68 [] [.slice none 0 0]) (fun w S => own_nil w S none) ?_
 refine FJ.turns (c := ownA kT_66 (⟨2, 0, 0, [], []⟩ : DInode) [.int .i64 2, .int .i64 0, .int .i64 0, .slice none 0 0, .slice none 0 0]) (.c (.s .z) (.c .z .n)) (fun w S h => kT_66_omk (⟨2, 0, 0, [], []⟩ : DInode) h) ?_
 refine FJ.turns (c := ownA kSl_66 [(⟨2, 0, 0, [], []⟩ : DInode)] [.slice (some ⟨g3, 0, none⟩) 1 1]) (.c (.s (.s (.s .z))) (.c .z .n)) (lit1_own rfl rfl (by decide)) ?_
 have he11 : x = x ++ List.replicate 0 [] := pad_0 _
 refine FJ.ceq (.s (.s .z)) he11 ?_
 refine FJ.chEq .z (congrArg (fun z_ => (ownA kSl_39 (x ++ List.replicate 0 []) [.slice Ao5 z_ co5] : Asn)) (congrArg List.length he11)) ?_
 refine FJ.eq (.s (.s .z)) (congrArg (fun z_ => (.slice Ao5 z_ co5 : Value)) (congrArg List.length he11)) ?_
 refine FJ.chEq (.s (.s .z)) (congrArg (fun z_ => (rowA g6 26 2 1 [.slice (some ⟨g3, 0, none⟩) 1 1, .slice Ao5 z_ co5] : Asn)) (congrArg List.length he11)) ?_
 refine FJ.loopi (γ := Nat × (Option Addr) × Nat) (fun ⟨k, Agk0, cgk0⟩ => [(3, .pointer (some ⟨g6, 0, none⟩)), (2, .pointer (some ⟨g2, 0, none⟩))]) (fun ⟨k, Agk0, cgk0⟩ => [rowA g6 26 2 1 [.slice (some ⟨g3, 0, none⟩) 1 1, .slice Agk0 (x ++ List.replicate k []).length cgk0], ownA kSl_39 (x ++ List.replicate k []) [.slice Agk0 (x ++ List.replicate k []).length cgk0], ownA kSl_66 ([(⟨2, 0, 0, [], []⟩ : DInode)]) [.slice (some ⟨g3, 0, none⟩) 1 1], rowA g2 28 3 1 [.int .i64 0, .slice none 0 0, .slice none 0 0]]) (fun ⟨k, Agk0, cgk0⟩ => k ≤ 20 - x.length) (fun ⟨k, Agk0, cgk0⟩ => 20 - x.length - k) (0, Ao5, co5) (Nat.zero_le _) (.c (.s .z) (.c (.s4 (.s (.s .z))) .n)) (fun _ h => h.sel (.c .z (.c .z (.c .z (.c .z .n))))) ?_
 rintro ⟨k, Agk0, cgk0⟩ hk
 have hpl := pad_len (data := x) (k := k)
 refine FJ.seq (FJ.seq (FJ.region (FJ.ql rfl (q_fieldAddr rfl (.t .z) (fun _ => fa_26_1 _ _)) (FJ.ql rfl (q_load rfl ag_22 (.t .z) (WS.row .z rfl)) ?_))))
 refine FJ.ql rfl (q_len rfl u_22 (.t .z)) (FJ.ql rfl (q_lss rfl (.t .z) .c) (FJ.nil (FJ.then_ ?_)))
 refine FJ.condP (.t .z) (fun b12 => ?_) (fun b12 => ?_)
 refine FJ.skip (FJ.then_ (FJ.block (FJ.region (FJ.ql rfl (q_fieldAddr rfl (.t (.s4 .z)) (fun _ => fa_26_1 _ _)) ?_))))
 refine FJ.ql rfl (q_load rfl ag_22 (.t .z) (WS.row .z rfl)) ?_
 refine FJ.e (goes_list rfl) rfl (by decide) rfl (e_buildSliceL (ps := [(0, .slice none 0 0)]) (cs := [.slice none 0 0]) rfl u_22 (inz inf_39) (by decide) (by intro act hact; simp only [List.map_toArray, List.map_cons, List.map_nil, (show Val _ _ _ from .c) act hact]) rfl rfl (by decide) rfl rfl) ?_
 rintro _ _ ⟨g13, rfl, rfl⟩
 refine FJ.add (c := ownA kSl_5 [] [.slice none 0 0]) (fun w S => own_nil w S none) ?_
 refine FJ.e (goes_list rfl) rfl (by decide) rfl (e_append1 rfl u_22 inf_39 rfl (.t (.s .z)) (.t .z) (.c (.s (.s (.s .z))) (.c (.s .z) (.c .z .n))) (by first | omega | (simp only [List.length_take, List.length_cons, List.length_nil]; omega) | (simp only [List.length_append, List.length_replicate, List.length_cons, List.length_nil]; omega)) (by first | omega | (simp only [List.length_take, List.length_cons, List.length_nil]; omega) | (simp only [List.length_append, List.length_replicate, List.length_cons, List.length_nil]; omega))) ?_
 rintro _ _ rfl
 refine FJ.ceq .z pad_s ?_
 refine FJ.know (WS.oform .z) ?_
 rintro ⟨Ao15, co15, rfl, hlo15, hmo15, hbo15⟩
 refine FJ.ql rfl (q_fieldAddr rfl (.t (.s4 (.s4 .z))) (fun _ => fa_26_1 _ _)) ?_
 refine FJ.es (goes_list rfl) rfl (es_store (off := 1) (cs := [.slice Ao15 (x ++ List.replicate (k + 1) []).length co15]) rfl sz_22 (.t .z) (.t (.s .z)) rfl (ones rfl) (.s .z) (Nat.le_of_ble_eq_true rfl) (.c (.s .z) .n)) ?_
 refine FJ.nil (FJ.inBN ?_)
 refine FJ.again ((k + 1), Ao15, co15) (by omega) (by first | omega | (dsimp only; omega)) (.c (.s4 (.s4 (.s .z))) (.c (.s4 (.s4 (.s (.s .z)))) .n)) (fun _ h => h.sel (.c .z (.c .z (.c .z (.c .z .n)))))
 refine FJ.exit (FJ.thenE (FJ.thenE (FJ.inB (FJ.then_ ?_))))
 refine FJ.seq (FJ.seq (FJ.region ?_))
 refine FJ.ql rfl (q_loadA (cs := [.slice (some ⟨g3, 0, none⟩) 1 1, .slice Agk0 (x ++ List.replicate k []).length cgk0]) rfl ag_26 sz_26 (.t (.s4 .z)) (WS.rows0 .z (fun i u h => by exact h))) ?_
 have he16 : x ++ List.replicate k [] = padD x := (pad_all (by omega) (by omega))
 refine FJ.eq .z (congrArg (fun z_ => (.agg #[.slice (some ⟨g3, 0, none⟩) 1 1, .slice Agk0 (z_).length cgk0] : Value)) he16) ?_
 refine FJ.eq (.s .z) (congrArg (fun z_ => (.bool (decide (((z_).length : Int) < 20)) : Value)) he16) ?_
 refine FJ.eq (.s (.s .z)) (congrArg (fun z_ => (.int .i64 ((z_).length : Int) : Value)) he16) ?_
 refine FJ.eq (.s (.s (.s .z))) (congrArg (fun z_ => (.slice Agk0 (z_).length cgk0 : Value)) he16) ?_
 refine FJ.chEq .z (congrArg (fun z_ => (rowA g6 26 2 1 [.slice (some ⟨g3, 0, none⟩) 1 1, .slice Agk0 (z_).length cgk0] : Asn)) he16) ?_
 refine FJ.chEq (.s .z) (congrArg (fun z_ => (ownA kSl_39 (z_) [.slice Agk0 (z_).length cgk0] : Asn)) he16) ?_
 refine FJ.call (goes_list rfl) rfl (by decide) rfl (c_call rfl Tryz.func49 rfl rfl (args1 (.t (.s (.s (.s .z)))))) .n (fun w1 S1 hs tr => c_49 (kT_26_mk (⟨[(⟨2, 0, 0, [], []⟩ : DInode)], padD x⟩ : DFs) (tr.own (.s (.s .z))) (tr.own .z))) ?_
 rintro _ _ ⟨rfl, rfl⟩
 refine FJ.cat .n ?_
 refine FJ.ql rfl (q_assign rfl (.t .z)) (FJ.nil (FJ.then_ (FJ.seq (FJ.region ?_))))
 refine FJ.ql rfl (q_move rfl (.t .z)) (FJ.ql rfl (q_neq rfl (.t .z) .c) (FJ.nil (FJ.then_ ?_)))
 refine FJ.condN (.t .z) (fun b17 => ?_) (fun b17 => ?_)
 refine FJ.seq (FJ.region (FJ.ql rfl (q_move rfl (.t (.s (.s .z)))) ?_))
 refine FJ.ql rfl (q_build (ps := [(0, .int .i64 (fsFault (⟨[(⟨2, 0, 0, [], []⟩ : DInode)], padD x⟩ : DFs)))]) (cs := [.int .i64 (fsFault (⟨[(⟨2, 0, 0, [], []⟩ : DInode)], padD x⟩ : DFs)), .slice none 0 0, .slice none 0 0]) rfl bl_28 (by intro act hact; simp only [List.map_toArray, List.map_cons, List.map_nil, (show Val _ _ _ from (.t .z)) act hact]) rfl) ?_
 refine FJ.es (goes_list rfl) rfl (es_store (off := 0) (cs := [.int .i64 (fsFault (⟨[(⟨2, 0, 0, [], []⟩ : DInode)], padD x⟩ : DFs)), .slice none 0 0, .slice none 0 0]) rfl sz_28 (.t (.s4 (.s4 (.s4 .z)))) (.t .z) rfl (ones rfl) (.s (.s (.s .z))) (Nat.le_of_ble_eq_true rfl) (.c .z (.c (.s .z) (.c (.s (.s .z)) .n)))) ?_
 refine FJ.nil (FJ.then_ (FJ.ret (FJ.thenR ?_)))
 refine FJ.add (c := ownA kSl_66 [] [.slice none 0 0]) (fun w S => own_nil w S none) ?_
 refine FJ.add (c := ownA kSl_39 [] [.slice none 0 0]) (fun w S => own_nil w S none) ?_
 refine FJ.doneS (resC (cs := [.int .i64 (fsFault (⟨[(⟨2, 0, 0, [], []⟩ : DInode)], padD x⟩ : DFs)), .slice none 0 0, .slice none 0 0]) rfl (.s4 (.s4 (.s4 .z))) ag_28 sz_28 (WS.rows0 (cs := [.int .i64 (fsFault (⟨[(⟨2, 0, 0, [], []⟩ : DInode)], padD x⟩ : DFs)), .slice none 0 0, .slice none 0 0]) (.s (.s .z)) (fun _ _ h => h))) (.c (.s .z) (.c .z .n)) ?_
 first | (rw [newR_f (by assumption)]; exact ⟨_, _, rfl, rfl⟩) | (rw [newR_0 (by assumption)]; exact ⟨_, _, rfl, rfl⟩)
 refine FJ.skip (FJ.then_ (FJ.seq (FJ.region ?_)))
 refine FJ.ql rfl (q_loadA (cs := [.slice (some ⟨g3, 0, none⟩) 1 1, .slice Agk0 (padD x).length cgk0]) rfl ag_26 sz_26 (.t (.s4 (.s4 (.s .z)))) (WS.rows0 (.s .z) (fun i u h => by exact h))) ?_
 refine FJ.ql rfl (q_build (ps := [(1, .agg #[.slice (some ⟨g3, 0, none⟩) 1 1, .slice Agk0 (padD x).length cgk0])]) (cs := [.int .i64 0, .slice (some ⟨g3, 0, none⟩) 1 1, .slice Agk0 (padD x).length cgk0]) rfl bl_28 (by intro act hact; simp only [List.map_toArray, List.map_cons, List.map_nil, (show Val _ _ _ from (.t .z)) act hact]) rfl) ?_
 refine FJ.es (goes_list rfl) rfl (es_store (off := 0) (cs := [.int .i64 0, .slice (some ⟨g3, 0, none⟩) 1 1, .slice Agk0 (padD x).length cgk0]) rfl sz_28 (.t (.s4 (.s4 (.s4 .z)))) (.t .z) rfl (ones rfl) (.s (.s (.s .z))) (Nat.le_of_ble_eq_true rfl) (.c .z (.c (.s .z) (.c (.s (.s .z)) .n)))) ?_
 refine FJ.nil (FJ.then_ (FJ.ret ?_))
 refine FJ.doneS (resC (cs := [.int .i64 0, .slice (some ⟨g3, 0, none⟩) 1 1, .slice Agk0 (padD x).length cgk0]) rfl (.s4 (.s4 (.s4 .z))) ag_28 sz_28 (WS.rows0 (cs := [.int .i64 0, .slice (some ⟨g3, 0, none⟩) 1 1, .slice Agk0 (padD x).length cgk0]) .z (fun _ _ h => h))) (.c (.s (.s (.s .z))) (.c (.s .z) .n)) ?_
 first | (rw [newR_f (by assumption)]; exact ⟨_, _, rfl, rfl⟩) | (rw [newR_0 (by assumption)]; exact ⟨_, _, rfl, rfl⟩)

set_option maxHeartbeats 1000000 in
set_option maxRecDepth 20000 in
theorem c_11 {w0 : World} {S0 : Bs} {x : (List (List UInt8))} {v0 : Value} (h0 : kSl_39.ro w0 (FF w0 S0) x [v0])  :
    Calls Tryz.prog 11 #[v0] w0 (TriPost w0 S0 (RA_28 (newR x))) := by
 obtain ⟨A0, c0, rfl, hl0, hm0, hb0, he0⟩ := ro_form h0
 refine FJ.enter (N := 42) Tryz.func11 rfl rfl (by simp) [(0, .slice A0 x.length c0)] (by simp) (l0 := []) trivial ?_
 refine FJ.seq (FJ.region ?_)
 refine FJ.e (goes_list rfl) rfl (by decide) rfl (e_alloc rfl z_28 rfl rfl) ?_
 rintro _ _ ⟨g2, rfl, rfl⟩
 refine FJ.nil (FJ.then_ (FJ.seq (FJ.region ?_)))
 refine FJ.ql rfl (q_build (ps := [(0, .int .i64 2)]) (cs := [.int .i64 2, .int .i64 0, .int .i64 0, .slice none 0 0, .slice none 0 0]) rfl bl_66 (by intro act hact; simp only [List.map_toArray, List.map_cons, List.map_nil, (show Val _ _ _ from .c) act hact]) rfl) ?_
 refine FJ.e (goes_list rfl) rfl (by decide) rfl (e_buildSliceL (ps := [(0, .agg #[.int .i64 2, .int .i64 0, .int .i64 0, .slice none 0 0, .slice none 0 0])]) (cs := [.int .i64 2, .int .i64 0, .int .i64 0, .slice none 0 0, .slice none 0 0]) rfl u_24 (inz inf_66) (by decide) (by intro act hact; simp only [List.map_toArray, List.map_cons, List.map_nil, (show Val _ _ _ from (.t .z)) act hact]) rfl rfl (by decide) rfl rfl) ?_
 rintro _ _ ⟨g3, rfl, rfl⟩
 refine FJ.ql rfl (q_build (ps := [(0, .slice (some ⟨g3, 0, none⟩) 1 1)]) (cs := [.slice (some ⟨g3, 0, none⟩) 1 1, .slice none 0 0]) rfl bl_26 (by intro act hact; simp only [List.map_toArray, List.map_cons, List.map_nil, (show Val _ _ _ from (.t .z)) act hact]) rfl) ?_
 refine FJ.e (goes_list rfl) rfl (by decide) rfl (e_alloc rfl z_26 rfl rfl) ?_
 rintro _ _ ⟨g4, rfl, rfl⟩
 refine FJ.es (goes_list rfl) rfl (es_store (off := 0) (cs := [.slice (some ⟨g3, 0, none⟩) 1 1, .slice none 0 0]) rfl sz_26 (.t .z) (.t (.s .z)) rfl (ones rfl) .z (Nat.le_of_ble_eq_true rfl) (.c .z (.c (.s .z) .n))) ?_
 refine FJ.nil (FJ.then_ (FJ.seq (FJ.seq (FJ.region ?_))))
 refine FJ.ql rfl (q_assign rfl .c) (FJ.nil (FJ.then_ (FJ.block ?_)))
 refine FJ.add (c := ownA kSl_39 [] [.slice none 0 0]) (fun w S => own_nil w S none) ?_
 refine FJ.loopi (γ := Nat × (Option Addr) × Nat) (fun ⟨k, Agk0, cgk0⟩ => [(4, .int .i64 (k : Int)), (3, .pointer (some ⟨g4, 0, none⟩)), (2, .pointer (some ⟨g2, 0, none⟩)), (0, .slice A0 x.length c0)]) (fun ⟨k, Agk0, cgk0⟩ => [ownA kSl_39 (List.take k x) [.slice Agk0 (List.take k x).length cgk0], rowA g4 26 2 1 [.slice (some ⟨g3, 0, none⟩) 1 1, .slice Agk0 (List.take k x).length cgk0], rowA g3 66 5 1 [.int .i64 2, .int .i64 0, .int .i64 0, .slice none 0 0, .slice none 0 0], rowA g2 28 3 1 [.int .i64 0, .slice none 0 0, .slice none 0 0]]) (fun ⟨k, Agk0, cgk0⟩ => k ≤ x.length) (fun ⟨k, Agk0, cgk0⟩ => x.length - k) (0, none, 0) (Nat.zero_le _) (.c .z (.c (.s .z) (.c (.s4 (.s .z)) (.c (.s4 (.s (.s .z))) .n)))) (fun _ h => h.sel (.c .z (.c .z (.c .z (.c .z .n))))) ?_
 rintro ⟨k, Agk0, cgk0⟩ hk
 refine FJ.seq (FJ.seq (FJ.region (FJ.ql rfl (q_move rfl (.t .z)) (FJ.ql rfl (q_move rfl (.t (.s4 .z))) ?_))))
 refine FJ.ql rfl (q_len rfl u_22 (.t .z)) (FJ.ql rfl (q_lss rfl (.t (.s (.s .z))) (.t .z)) (FJ.nil (FJ.then_ ?_)))
 refine FJ.condP (.t .z) (fun b6 => ?_) (fun b6 => ?_)
 refine FJ.skip (FJ.then_ (FJ.seq (FJ.block ?_)))
 refine FJ.draw [rowA g4 26 2 1 [.slice (some ⟨g3, 0, none⟩) 1 1, .slice Agk0 (List.take k x).length cgk0], rowA g3 66 5 1 [.int .i64 2, .int .i64 0, .int .i64 0, .slice none 0 0, .slice none 0 0], rowA g2 28 3 1 [.int .i64 0, .slice none 0 0, .slice none 0 0]] 11 (by kernel_rfl) ?_
 refine FJ.sch [(0, true), (1, true), (3, true), (4, true), (5, true), (6, true), (2, false), (7, false), (8, false), (9, false), (10, true), (11, false)] 0 #[true, true, true, true, true, true, true, true, true, true, true, true] (by rfl) (by kernel_rfl) ?_
 refine FJ.dq rfl rfl rfl (by decide) rfl (.s .z) (q_fieldAddr rfl (.t (.s4 (.s .z))) (fun _ => fa_26_1 _ _)) (FJ.dq rfl rfl rfl (by decide) rfl (.s .z) (q_load rfl ag_22 (.t .z) (WS.row .z rfl)) (FJ.dq rfl rfl rfl (by decide) rfl (.s .z) (q_move rfl (.t (.s4 (.s4 (.s .z))))) (FJ.dq rfl rfl rfl (by decide) rfl (.s .z) (q_move rfl (.t (.s4 (.s (.s (.s .z)))))) ?_)))
 obtain ⟨ad7, hAad7, hrad7⟩ := he0 (by omega)
 subst hAad7
 obtain ⟨x8, hx8⟩ := get_ex (xs := x) (j := k) (by omega)
 obtain ⟨ece9, hre9, hFe9, hce9⟩ := hrad7.elem hx8
 obtain ⟨ue9, rfl⟩ := sl_one hre9
 obtain ⟨Ae9, ce9, rfl, hle9, hme9, hbe9, hee9⟩ := ro_form hre9
 refine FJ.dq rfl rfl rfl (by decide) rfl (.s .z) (q_indexAddr (j := k) rfl u_22 sz_39 (.t (.s .z)) (.t .z) rfl (by omega)) ?_
 refine FJ.dq rfl rfl rfl (by decide) rfl (.s .z) (q_load rfl ag_39 (.t .z) (WS.el0 hFe9 hce9 rfl)) ?_
 refine FJ.e (goes_sch rfl rfl) rfl (by decide) rfl (e_buildNil rfl u_39 (inz inf_5)) ?_
 rintro _ _ ⟨g11, rfl, rfl⟩
 refine FJ.sk (.s (.s .z)) ?_
 refine FJ.add (c := ownA kSl_5 ([] : (List UInt8)) [.slice (some ⟨g11, 0, none⟩) 0 0]) (fun w S => own_nil w S _) ?_
 refine FJ.e (goes_sch rfl rfl) rfl (by decide) rfl (e_appendF (flat_scalar _ _ _) rfl u_39 inf_5 rfl (.t .z) (.t (.s .z)) (.c .z .n) (fun w1 S1 tr => tr.ctx hre9) (by first | omega | (simp only [List.length_take, List.length_cons, List.length_nil]; omega) | (simp only [List.length_append, List.length_replicate, List.length_cons, List.length_nil]; omega)) (by first | omega | (simp only [List.length_take, List.length_cons, List.length_nil]; omega) | (simp only [List.length_append, List.length_replicate, List.length_cons, List.length_nil]; omega))) ?_
 rintro _ _ rfl
 refine FJ.know (WS.oform .z) ?_
 rintro ⟨Ao13, co13, rfl, hlo13, hmo13, hbo13⟩
 refine FJ.sk (.s (.s (.s .z))) ?_
 refine FJ.e (goes_sch rfl rfl) rfl (by decide) rfl (e_buildSliceL (ps := [(0, .slice Ao13 (([] : (List UInt8)) ++ x8).length co13)]) (cs := [.slice Ao13 (([] : (List UInt8)) ++ x8).length co13]) rfl u_22 (inz inf_39) (by decide) (by intro act hact; simp only [List.map_toArray, List.map_cons, List.map_nil, (show Val _ _ _ from (.t .z)) act hact]) rfl rfl (by decide) rfl rfl) ?_
 rintro _ _ ⟨g14, rfl, rfl⟩
 refine FJ.sk (.s4 .z) ?_
 refine FJ.e (goes_sch rfl rfl) rfl (by decide) rfl (e_append1 rfl u_22 inf_39 rfl (.t (.s4 (.s (.s (.s .z))))) (.t .z) (.c (.s (.s (.s .z))) (.c .z (.c .z .n))) (by first | omega | (simp only [List.length_take, List.length_cons, List.length_nil]; omega) | (simp only [List.length_append, List.length_replicate, List.length_cons, List.length_nil]; omega)) (by first | omega | (simp only [List.length_take, List.length_cons, List.length_nil]; omega) | (simp only [List.length_append, List.length_replicate, List.length_cons, List.length_nil]; omega))) ?_
 rintro _ _ rfl
 refine FJ.ceq .z (take_get hx8).symm ?_
 refine FJ.know (WS.oform .z) ?_
 rintro ⟨Ao15, co15, rfl, hlo15, hmo15, hbo15⟩
 refine FJ.sk (.s (.s .z)) ?_
 refine FJ.dq rfl rfl rfl (by decide) rfl (.s (.s .z)) (q_fieldAddr rfl (.t (.s4 (.s4 (.s4 (.s (.s (.s .z))))))) (fun _ => fa_26_1 _ _)) ?_
 refine FJ.es (goes_sch rfl rfl) rfl (es_store (off := 1) (cs := [.slice Ao15 (List.take (k + 1) x).length co15]) rfl sz_22 (.t .z) (.t (.s .z)) rfl (ones rfl) (.s (.s .z)) (Nat.le_of_ble_eq_true rfl) (.c (.s .z) .n)) ?_
 refine FJ.sl rfl ?_
 refine FJ.schN ?_
 refine FJ.drawN (by kernel_rfl) ?_
 refine FJ.inBN (FJ.then_ (FJ.region (FJ.ql rfl (q_move rfl (.t (.s4 (.s4 (.s4 (.s (.s (.s .z)))))))) ?_)))
 refine FJ.ql rfl (q_add (c := ((k + 1 : Nat) : Int)) rfl (.t .z) .c (wr (by omega) (by omega) (by omega))) ?_
 refine FJ.er (.s16 (.s .z)) (FJ.ql rfl (q_assign rfl (.t .z)) (FJ.nil ?_))
 refine FJ.again ((k + 1), Ao15, co15) (by omega) (by first | omega | (dsimp only; omega)) (.c .z (.c (.s16 (.s (.s .z))) (.c (.s16 (.s (.s (.s .z)))) (.c (.s16 (.s4 .z)) .n)))) (fun _ h => h.sel (.c (.s .z) (.c .z (.c (.s .z) (.c (.s .z) .n)))))
 refine FJ.exit (FJ.thenE (FJ.thenE (FJ.inB (FJ.then_ ?_))))
 refine FJ.seq (FJ.block ?_)
 refine FJ.add (c := ownA kSl_2 [] [.slice none 0 0]) (fun w S => own_nil w S none) ?_
 refine FJ.add (c := ownA kSl_68 [] [.slice none 0 0]) (fun w S => own_nil w S none) ?_
 refine FJ.turns (c := ownA kT_66 (⟨2, 0, 0, [], []⟩ : DInode) [.int .i64 2, .int .i64 0, .int .i64 0, .slice none 0 0, .slice none 0 0]) (.c (.s .z) (.c .z .n)) (fun w S h => kT_66_omk (⟨2, 0, 0, [], []⟩ : DInode) h) ?_
 refine FJ.turns (c := ownA kSl_66 [(⟨2, 0, 0, [], []⟩ : DInode)] [.slice (some ⟨g3, 0, none⟩) 1 1]) (.c (.s (.s (.s .z))) (.c .z .n)) (lit1_own rfl rfl (by decide)) ?_
 have he20 : List.take k x = x := (List.take_of_length_le (by omega))
 refine FJ.chEq (.s .z) (congrArg (fun z_ => (ownA kSl_39 (z_) [.slice Agk0 (z_).length cgk0] : Asn)) he20) ?_
 refine FJ.chEq (.s (.s .z)) (congrArg (fun z_ => (rowA g4 26 2 1 [.slice (some ⟨g3, 0, none⟩) 1 1, .slice Agk0 (z_).length cgk0] : Asn)) he20) ?_
 have he21 : x = x ++ List.replicate 0 [] := pad_0 _
 refine FJ.ceq (.s .z) he21 ?_
 refine FJ.chEq .z (congrArg (fun z_ => (ownA kSl_39 (x ++ List.replicate 0 []) [.slice Agk0 z_ cgk0] : Asn)) (congrArg List.length he21)) ?_
 refine FJ.chEq (.s .z) (congrArg (fun z_ => (rowA g4 26 2 1 [.slice (some ⟨g3, 0, none⟩) 1 1, .slice Agk0 z_ cgk0] : Asn)) (congrArg List.length he21)) ?_
 refine FJ.loopi (γ := Nat × (Option Addr) × Nat) (fun ⟨q, Agq0, cgq0⟩ => [(3, .pointer (some ⟨g4, 0, none⟩)), (2, .pointer (some ⟨g2, 0, none⟩))]) (fun ⟨q, Agq0, cgq0⟩ => [rowA g4 26 2 1 [.slice (some ⟨g3, 0, none⟩) 1 1, .slice Agq0 (x ++ List.replicate q []).length cgq0], ownA kSl_39 (x ++ List.replicate q []) [.slice Agq0 (x ++ List.replicate q []).length cgq0], ownA kSl_66 ([(⟨2, 0, 0, [], []⟩ : DInode)]) [.slice (some ⟨g3, 0, none⟩) 1 1], rowA g2 28 3 1 [.int .i64 0, .slice none 0 0, .slice none 0 0]]) (fun ⟨q, Agq0, cgq0⟩ => q ≤ 20 - x.length) (fun ⟨q, Agq0, cgq0⟩ => 20 - x.length - q) (0, Agk0, cgk0) (Nat.zero_le _) (.c (.s4 (.s .z)) (.c (.s4 (.s (.s .z))) .n)) (fun _ h => h.sel (.c .z (.c .z (.c .z (.c .z .n))))) ?_
 rintro ⟨q, Agq0, cgq0⟩ hq
 have hpl := pad_len (data := x) (k := q)
 refine FJ.seq (FJ.seq (FJ.region (FJ.ql rfl (q_fieldAddr rfl (.t .z) (fun _ => fa_26_1 _ _)) (FJ.ql rfl (q_load rfl ag_22 (.t .z) (WS.row .z rfl)) ?_))))
 refine FJ.ql rfl (q_len rfl u_22 (.t .z)) (FJ.ql rfl (q_lss rfl (.t .z) .c) (FJ.nil (FJ.then_ ?_)))
 refine FJ.condP (.t .z) (fun b22 => ?_) (fun b22 => ?_)
 refine FJ.skip (FJ.then_ (FJ.block (FJ.region (FJ.ql rfl (q_fieldAddr rfl (.t (.s4 .z)) (fun _ => fa_26_1 _ _)) ?_))))
 refine FJ.ql rfl (q_load rfl ag_22 (.t .z) (WS.row .z rfl)) ?_
 refine FJ.e (goes_list rfl) rfl (by decide) rfl (e_buildSliceL (ps := [(0, .slice none 0 0)]) (cs := [.slice none 0 0]) rfl u_22 (inz inf_39) (by decide) (by intro act hact; simp only [List.map_toArray, List.map_cons, List.map_nil, (show Val _ _ _ from .c) act hact]) rfl rfl (by decide) rfl rfl) ?_
 rintro _ _ ⟨g23, rfl, rfl⟩
 refine FJ.add (c := ownA kSl_5 [] [.slice none 0 0]) (fun w S => own_nil w S none) ?_
 refine FJ.e (goes_list rfl) rfl (by decide) rfl (e_append1 rfl u_22 inf_39 rfl (.t (.s .z)) (.t .z) (.c (.s (.s (.s .z))) (.c (.s .z) (.c .z .n))) (by first | omega | (simp only [List.length_take, List.length_cons, List.length_nil]; omega) | (simp only [List.length_append, List.length_replicate, List.length_cons, List.length_nil]; omega)) (by first | omega | (simp only [List.length_take, List.length_cons, List.length_nil]; omega) | (simp only [List.length_append, List.length_replicate, List.length_cons, List.length_nil]; omega))) ?_
 rintro _ _ rfl
 refine FJ.ceq .z pad_s ?_
 refine FJ.know (WS.oform .z) ?_
 rintro ⟨Ao25, co25, rfl, hlo25, hmo25, hbo25⟩
 refine FJ.ql rfl (q_fieldAddr rfl (.t (.s4 (.s4 .z))) (fun _ => fa_26_1 _ _)) ?_
 refine FJ.es (goes_list rfl) rfl (es_store (off := 1) (cs := [.slice Ao25 (x ++ List.replicate (q + 1) []).length co25]) rfl sz_22 (.t .z) (.t (.s .z)) rfl (ones rfl) (.s .z) (Nat.le_of_ble_eq_true rfl) (.c (.s .z) .n)) ?_
 refine FJ.nil (FJ.inBN ?_)
 refine FJ.again ((q + 1), Ao25, co25) (by omega) (by first | omega | (dsimp only; omega)) (.c (.s4 (.s4 (.s .z))) (.c (.s4 (.s4 (.s (.s .z)))) .n)) (fun _ h => h.sel (.c .z (.c .z (.c .z (.c .z .n)))))
 refine FJ.exit (FJ.thenE (FJ.thenE (FJ.inB (FJ.then_ ?_))))
 refine FJ.seq (FJ.seq (FJ.region ?_))
 have he26 : x ++ List.replicate q [] = padD x := (pad_all (by omega) (by omega))
 refine FJ.eq .z (congrArg (fun z_ => (.bool (decide (((z_).length : Int) < 20)) : Value)) he26) ?_
 refine FJ.eq (.s .z) (congrArg (fun z_ => (.int .i64 ((z_).length : Int) : Value)) he26) ?_
 refine FJ.eq (.s (.s .z)) (congrArg (fun z_ => (.slice Agq0 (z_).length cgq0 : Value)) he26) ?_
 refine FJ.chEq .z (congrArg (fun z_ => (rowA g4 26 2 1 [.slice (some ⟨g3, 0, none⟩) 1 1, .slice Agq0 (z_).length cgq0] : Asn)) he26) ?_
 refine FJ.chEq (.s .z) (congrArg (fun z_ => (ownA kSl_39 (z_) [.slice Agq0 (z_).length cgq0] : Asn)) he26) ?_
 refine FJ.call (goes_list rfl) rfl (by decide) rfl (c_call rfl Tryz.func46 rfl rfl (args1 (.t (.s4 .z)))) .n (fun w1 S1 hs tr => c_46 (tr.ptr (.s .z) (kT_26_mk (⟨[(⟨2, 0, 0, [], []⟩ : DInode)], padD x⟩ : DFs) (tr.own (.s (.s .z))) (tr.own .z)))) ?_
 rintro _ _ ⟨rfl, rfl⟩
 refine FJ.cat .n ?_
 refine FJ.ql rfl (q_assign rfl (.t .z)) (FJ.nil (FJ.then_ (FJ.seq (FJ.region ?_))))
 refine FJ.ql rfl (q_move rfl (.t .z)) (FJ.ql rfl (q_neq rfl (.t .z) .c) (FJ.nil (FJ.then_ ?_)))
 refine FJ.condN (.t .z) (fun b27 => ?_) (fun b27 => ?_)
 refine FJ.seq (FJ.region (FJ.ql rfl (q_move rfl (.t (.s (.s .z)))) ?_))
 refine FJ.ql rfl (q_build (ps := [(0, .int .i64 (fsFault (⟨[(⟨2, 0, 0, [], []⟩ : DInode)], padD x⟩ : DFs)))]) (cs := [.int .i64 (fsFault (⟨[(⟨2, 0, 0, [], []⟩ : DInode)], padD x⟩ : DFs)), .slice none 0 0, .slice none 0 0]) rfl bl_28 (by intro act hact; simp only [List.map_toArray, List.map_cons, List.map_nil, (show Val _ _ _ from (.t .z)) act hact]) rfl) ?_
 refine FJ.es (goes_list rfl) rfl (es_store (off := 0) (cs := [.int .i64 (fsFault (⟨[(⟨2, 0, 0, [], []⟩ : DInode)], padD x⟩ : DFs)), .slice none 0 0, .slice none 0 0]) rfl sz_28 (.t (.s4 (.s4 (.s (.s (.s .z)))))) (.t .z) rfl (ones rfl) (.s (.s (.s .z))) (Nat.le_of_ble_eq_true rfl) (.c .z (.c (.s .z) (.c (.s (.s .z)) .n)))) ?_
 refine FJ.nil (FJ.then_ (FJ.ret (FJ.thenR ?_)))
 refine FJ.add (c := ownA kSl_66 [] [.slice none 0 0]) (fun w S => own_nil w S none) ?_
 refine FJ.add (c := ownA kSl_39 [] [.slice none 0 0]) (fun w S => own_nil w S none) ?_
 refine FJ.doneS (resC (cs := [.int .i64 (fsFault (⟨[(⟨2, 0, 0, [], []⟩ : DInode)], padD x⟩ : DFs)), .slice none 0 0, .slice none 0 0]) rfl (.s4 (.s4 (.s (.s (.s .z))))) ag_28 sz_28 (WS.rows0 (cs := [.int .i64 (fsFault (⟨[(⟨2, 0, 0, [], []⟩ : DInode)], padD x⟩ : DFs)), .slice none 0 0, .slice none 0 0]) (.s (.s .z)) (fun _ _ h => h))) (.c (.s .z) (.c .z .n)) ?_
 first | (rw [newR_f (by assumption)]; exact ⟨_, _, rfl, rfl⟩) | (rw [newR_0 (by assumption)]; exact ⟨_, _, rfl, rfl⟩)
 refine FJ.skip (FJ.then_ (FJ.seq (FJ.region ?_)))
 refine FJ.ql rfl (q_loadA (cs := [.slice (some ⟨g3, 0, none⟩) 1 1, .slice Agq0 (padD x).length cgq0]) rfl ag_26 sz_26 (.t (.s4 (.s4 .z))) (WS.rows0 (.s .z) (fun i u h => by exact h))) ?_
 refine FJ.ql rfl (q_build (ps := [(1, .agg #[.slice (some ⟨g3, 0, none⟩) 1 1, .slice Agq0 (padD x).length cgq0])]) (cs := [.int .i64 0, .slice (some ⟨g3, 0, none⟩) 1 1, .slice Agq0 (padD x).length cgq0]) rfl bl_28 (by intro act hact; simp only [List.map_toArray, List.map_cons, List.map_nil, (show Val _ _ _ from (.t .z)) act hact]) rfl) ?_
 refine FJ.es (goes_list rfl) rfl (es_store (off := 0) (cs := [.int .i64 0, .slice (some ⟨g3, 0, none⟩) 1 1, .slice Agq0 (padD x).length cgq0]) rfl sz_28 (.t (.s4 (.s4 (.s (.s (.s .z)))))) (.t .z) rfl (ones rfl) (.s (.s (.s .z))) (Nat.le_of_ble_eq_true rfl) (.c .z (.c (.s .z) (.c (.s (.s .z)) .n)))) ?_
 refine FJ.nil (FJ.then_ (FJ.ret ?_))
 refine FJ.doneS (resC (cs := [.int .i64 0, .slice (some ⟨g3, 0, none⟩) 1 1, .slice Agq0 (padD x).length cgq0]) rfl (.s4 (.s4 (.s (.s (.s .z))))) ag_28 sz_28 (WS.rows0 (cs := [.int .i64 0, .slice (some ⟨g3, 0, none⟩) 1 1, .slice Agq0 (padD x).length cgq0]) .z (fun _ _ h => h))) (.c (.s (.s (.s .z))) (.c (.s .z) .n)) ?_
 first | (rw [newR_f (by assumption)]; exact ⟨_, _, rfl, rfl⟩) | (rw [newR_0 (by assumption)]; exact ⟨_, _, rfl, rfl⟩)

end Go.Proofs.YtbcdcakcmdcafaaGreat

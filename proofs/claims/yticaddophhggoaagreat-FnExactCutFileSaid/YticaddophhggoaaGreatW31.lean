/- What is proved: contracts of functions, one a function. No condition. -/
import Derived.Test.YticaddophhggoaaGreatW24
import Derived.Test.YticaddophhggoaaGreatBase2
namespace Go.Proofs.YticaddophhggoaaGreat
open Go Go.RowKit
set_option linter.unusedVariables false
set_option linter.unusedSimpArgs false
set_option maxHeartbeats 1000000 in
set_option maxRecDepth 20000 in
theorem c_127 {w0 : World} {S0 : Bs} {x : (List UInt8)} {v0 : Value} (h0 : kSl_5.ro w0 (FF w0 S0) x [v0])  :
    Calls Tryz.prog 127 #[v0] w0 (TriPost w0 S0 (fun r l => l = [ownA kSl_5 x [r]])) := by
 obtain ⟨A0, c0, rfl, hl0, hm0, hb0, he0⟩ := ro_form h0
 refine FJ.enter (N := 8) Tryz.func127 rfl rfl (by simp) [(0, .slice A0 x.length c0)] (by simp) (l0 := []) trivial ?_
 refine FJ.seq (FJ.region (FJ.ql rfl (q_assign rfl .c) (FJ.nil (FJ.then_ ?_))))
 refine FJ.seq (FJ.seq (FJ.region (FJ.ql rfl (q_move rfl (.t (.s .z))) (FJ.ql rfl (q_eqnil rfl u_26 (.t .z) .c) ?_))))
 refine FJ.nil (FJ.then_ ?_)
 refine FJ.cond (.t .z) (fun b2 => ?_) (fun b2 => ?_)
 refine FJ.seq (FJ.region (FJ.er (.s (.s .z)) (FJ.ql rfl (q_assign rfl .c) (FJ.nil ?_))))
 refine FJ.then_ (FJ.ret (FJ.thenR ?_))
 refine FJ.add (c := ownA kSl_5 [] [.slice none 0 0]) (fun w S => own_nil w S none) ?_
 refine FJ.ceq .z (nil_of he0 (by assumption)) ?_
 refine FJ.doneS (res1 rfl .z) (.c .z .n) ?_
 rfl
 refine FJ.skip (FJ.then_ (FJ.seq (FJ.region ?_)))
 refine FJ.e (goes_list rfl) rfl (by decide) rfl (e_buildNil rfl u_26 (inz inf_5)) ?_
 rintro _ _ ⟨g4, rfl, rfl⟩
 refine FJ.ql rfl (q_move rfl (.t (.s4 .z))) ?_
 refine FJ.add (c := ownA kSl_5 ([] : (List UInt8)) [.slice (some ⟨g4, 0, none⟩) 0 0]) (fun w S => own_nil w S _) ?_
 refine FJ.e (goes_list rfl) rfl (by decide) rfl (e_appendF (flat_scalar _ _ _) rfl u_26 inf_5 rfl (.t (.s .z)) (.t .z) (.c .z .n) (fun w1 S1 tr => tr.ctx h0) (by first | omega | (simp only [List.length_append, List.length_take, List.length_nil, List.length_cons]; omega)) (by first | omega | (simp only [List.length_append, List.length_take, List.length_nil, List.length_cons]; omega))) ?_
 rintro _ _ rfl
 refine FJ.ceq .z (List.nil_append _) ?_
 refine FJ.know (WS.oform .z) ?_
 rintro ⟨Ao6, co6, rfl, hlo6, hmo6, hbo6⟩
 refine FJ.er (.s4 (.s .z)) (FJ.ql rfl (q_assign rfl (.t .z)) (FJ.nil (FJ.then_ (FJ.ret ?_))))
 refine FJ.doneS (res1 rfl .z) (.c .z .n) ?_
 rfl

set_option maxHeartbeats 1000000 in
set_option maxRecDepth 20000 in
theorem c_122 {w0 : World} {S0 : Bs} {x : (List DEnt)} {v0 : Value} (h0 : kSl_151.ro w0 (FF w0 S0) x [v0])  :
    Calls Tryz.prog 122 #[v0] w0 (TriPost w0 S0 (fun r l => l = [ownA kSl_151 x [r]])) := by
 obtain ⟨A0, c0, rfl, hl0, hm0, hb0, he0⟩ := ro_form h0
 refine FJ.enter (N := 8) Tryz.func122 rfl rfl (by simp) [(0, .slice A0 x.length c0)] (by simp) (l0 := []) trivial ?_
 refine FJ.seq (FJ.region (FJ.ql rfl (q_assign rfl .c) (FJ.nil (FJ.then_ ?_))))
 refine FJ.seq (FJ.seq (FJ.region (FJ.ql rfl (q_move rfl (.t (.s .z))) (FJ.ql rfl (q_eqnil rfl u_71 (.t .z) .c) ?_))))
 refine FJ.nil (FJ.then_ ?_)
 refine FJ.cond (.t .z) (fun b2 => ?_) (fun b2 => ?_)
 refine FJ.seq (FJ.region (FJ.er (.s (.s .z)) (FJ.ql rfl (q_assign rfl .c) (FJ.nil ?_))))
 refine FJ.then_ (FJ.ret (FJ.thenR ?_))
 refine FJ.add (c := ownA kSl_151 [] [.slice none 0 0]) (fun w S => own_nil w S none) ?_
 refine FJ.ceq .z (nil_of he0 (by assumption)) ?_
 refine FJ.doneS (res1 rfl .z) (.c .z .n) ?_
 rfl
 refine FJ.skip (FJ.then_ (FJ.seq (FJ.region ?_)))
 refine FJ.e (goes_list rfl) rfl (by decide) rfl (e_buildNil rfl u_71 (inz inf_151)) ?_
 rintro _ _ ⟨g4, rfl, rfl⟩
 refine FJ.ql rfl (q_move rfl (.t (.s4 .z))) ?_
 refine FJ.add (c := ownA kSl_151 ([] : (List DEnt)) [.slice (some ⟨g4, 0, none⟩) 0 0]) (fun w S => own_nil w S _) ?_
 refine FJ.e (goes_list rfl) rfl (by decide) rfl (e_appendF (flat_iso _ (flat_pair (flat_scalar _ _ _) (flat_scalar _ _ _))) rfl u_71 inf_151 rfl (.t (.s .z)) (.t .z) (.c .z .n) (fun w1 S1 tr => tr.ctx h0) (by first | omega | (simp only [List.length_append, List.length_take, List.length_nil, List.length_cons]; omega)) (by first | omega | (simp only [List.length_append, List.length_take, List.length_nil, List.length_cons]; omega))) ?_
 rintro _ _ rfl
 refine FJ.ceq .z (List.nil_append _) ?_
 refine FJ.know (WS.oform .z) ?_
 rintro ⟨Ao6, co6, rfl, hlo6, hmo6, hbo6⟩
 refine FJ.er (.s4 (.s .z)) (FJ.ql rfl (q_assign rfl (.t .z)) (FJ.nil (FJ.then_ (FJ.ret ?_))))
 refine FJ.doneS (res1 rfl .z) (.c .z .n) ?_
 rfl

set_option maxHeartbeats 1000000 in
set_option maxRecDepth 20000 in
theorem c_120 {w0 : World} {S0 : Bs} {x : (List (List UInt8))} {v0 : Value} (h0 : kSl_26.ro w0 (FF w0 S0) x [v0])  :
    Calls Tryz.prog 120 #[v0] w0 (TriPost w0 S0 (fun r l => l = [ownA kSl_26 x [r]])) := by
 obtain ⟨A0, c0, rfl, hl0, hm0, hb0, he0⟩ := ro_form h0
 refine FJ.enter (N := 19) Tryz.func120 rfl rfl (by simp) [(0, .slice A0 x.length c0)] (by simp) (l0 := []) trivial ?_
 refine FJ.seq (FJ.region (FJ.ql rfl (q_assign rfl .c) (FJ.nil (FJ.then_ ?_))))
 refine FJ.seq (FJ.region (FJ.ql rfl (q_assign rfl .c) (FJ.nil (FJ.then_ ?_))))
 refine FJ.seq (FJ.seq (FJ.region (FJ.ql rfl (q_move rfl (.t (.s (.s .z)))) (FJ.ql rfl (q_len rfl u_23 (.t .z)) ?_))))
 refine FJ.ql rfl (q_move rfl .c) (FJ.nil (FJ.then_ (FJ.block ?_)))
 refine FJ.add (c := ownA kSl_26 [] [.slice none 0 0]) (fun w S => own_nil w S none) ?_
 refine FJ.loopi (γ := Nat × (Option Addr) × Nat) (fun ⟨k, Agk0, cgk0⟩ => [(8, .int .i64 (k : Int)), (7, .int .i64 (x.length : Int)), (6, .slice A0 x.length c0), (3, .slice Agk0 (List.take k x).length cgk0), (2, .slice none 0 0)]) (fun ⟨k, Agk0, cgk0⟩ => [ownA kSl_26 (List.take k x) [.slice Agk0 (List.take k x).length cgk0]]) (fun ⟨k, Agk0, cgk0⟩ => k ≤ x.length) (fun ⟨k, Agk0, cgk0⟩ => x.length - k) (0, none, 0) (Nat.zero_le _) (.c .z (.c (.s .z) (.c (.s (.s .z)) (.c (.s (.s (.s .z))) (.c (.s4 .z) .n))))) (fun _ h => h.sel (.c .z .n)) ?_
 rintro ⟨k, Agk0, cgk0⟩ hk
 refine FJ.seq (FJ.region (FJ.ql rfl (q_lss rfl (.t .z) (.t (.s .z))) (FJ.nil (FJ.then_ ?_))))
 refine FJ.seq ?_
 refine FJ.condP (.t .z) (fun b3 => ?_) (fun b3 => ?_)
 refine FJ.skip (FJ.then_ (FJ.seq (FJ.block (FJ.seq ?_))))
 refine FJ.region ?_
 obtain ⟨ad4, hAad4, hrad4⟩ := he0 (by omega)
 subst hAad4
 obtain ⟨x5, hx5⟩ := get_ex (xs := x) (j := k) (by omega)
 obtain ⟨ece6, hre6, hFe6, hce6⟩ := hrad4.elem hx5
 obtain ⟨ue6, rfl⟩ := sl_one hre6
 obtain ⟨Ae6, ce6, rfl, hle6, hme6, hbe6, hee6⟩ := ro_form hre6
 refine FJ.ql rfl (q_indexAddr (j := k) rfl u_23 sz_26 (.t (.s (.s (.s .z)))) (.t (.s .z)) rfl (by omega)) ?_
 refine FJ.ql rfl (q_load rfl ag_26 (.t .z) (WS.el0 hFe6 hce6 rfl)) (FJ.ql rfl (q_assign rfl (.t .z)) (FJ.nil (FJ.then_ (FJ.region ?_))))
 refine FJ.ql rfl (q_move rfl (.t (.s4 (.s (.s (.s .z)))))) (FJ.ql rfl (q_move rfl (.t (.s .z))) ?_)
 refine FJ.call (goes_list rfl) rfl (by decide) rfl (c_call rfl Tryz.func127 rfl rfl (args1 (.t .z))) .n (fun w1 S1 hs tr => c_127 (tr.ctx hre6)) ?_
 rintro _ _ rfl
 refine FJ.cat (.c .n) ?_
 refine FJ.know (WS.oform .z) ?_
 rintro ⟨Ao9, co9, rfl, hlo9, hmo9, hbo9⟩
 refine FJ.e (goes_list rfl) rfl (by decide) rfl (e_buildSliceL (ps := [(0, .slice Ao9 x5.length co9)]) (cs := [.slice Ao9 x5.length co9]) rfl u_23 (inz inf_26) (by decide) (by intro act hact; simp only [List.map_toArray, List.map_cons, List.map_nil, (show Val _ _ _ from (.t .z)) act hact]) rfl rfl (by decide) rfl rfl) ?_
 rintro _ _ ⟨g10, rfl, rfl⟩
 refine FJ.e (goes_list rfl) rfl (by decide) rfl (e_append1 rfl u_23 inf_26 rfl (.t (.s (.s (.s .z)))) (.t .z) (.c (.s (.s .z)) (.c .z (.c .z .n))) (by first | omega | (simp only [List.length_take, List.length_cons, List.length_nil]; omega) | (simp only [List.length_append, List.length_replicate, List.length_cons, List.length_nil]; omega)) (by first | omega | (simp only [List.length_take, List.length_cons, List.length_nil]; omega) | (simp only [List.length_append, List.length_replicate, List.length_cons, List.length_nil]; omega))) ?_
 rintro _ _ rfl
 refine FJ.ceq .z (take_get hx5).symm ?_
 refine FJ.know (WS.oform .z) ?_
 rintro ⟨Ao11, co11, rfl, hlo11, hmo11, hbo11⟩
 refine FJ.er (.s4 (.s4 (.s4 .z))) (FJ.ql rfl (q_assign rfl (.t .z)) (FJ.nil (FJ.inBN (FJ.then_ ?_))))
 refine FJ.region ?_
 refine FJ.ql rfl (q_add (c := ((k + 1 : Nat) : Int)) rfl (.t (.s4 (.s4 (.s (.s .z))))) .c (wr (by omega) (by omega) (by omega))) ?_
 refine FJ.er (.s4 (.s4 (.s (.s (.s .z))))) (FJ.ql rfl (q_move rfl (.t .z)) (FJ.nil ?_))
 refine FJ.again ((k + 1), Ao11, co11) (by omega) (by first | omega | (dsimp only; omega)) (.c .z (.c (.s4 (.s4 (.s4 .z))) (.c (.s4 (.s4 (.s4 (.s .z)))) (.c (.s (.s .z)) (.c (.s4 (.s4 (.s4 (.s (.s .z))))) .n))))) (fun _ h => h.sel (.c .z .n))
 refine FJ.exit (FJ.thenE (FJ.thenE (FJ.inB (FJ.then_ ?_))))
 refine FJ.seq (FJ.region (FJ.ql rfl (q_move rfl (.t (.s4 .z))) (FJ.er (.s4 (.s (.s .z))) (FJ.ql rfl (q_assign rfl (.t .z)) ?_))))
 refine FJ.nil (FJ.then_ (FJ.ret ?_))
 have he12 : List.take k x = x := (List.take_of_length_le (by omega))
 refine FJ.eq .z (congrArg (fun z_ => (.slice Agk0 (z_).length cgk0 : Value)) he12) ?_
 refine FJ.eq (.s .z) (congrArg (fun z_ => (.slice Agk0 (z_).length cgk0 : Value)) he12) ?_
 refine FJ.eq (.s4 (.s (.s .z))) (congrArg (fun z_ => (.slice Agk0 (z_).length cgk0 : Value)) he12) ?_
 refine FJ.chEq .z (congrArg (fun z_ => (ownA kSl_26 (z_) [.slice Agk0 (z_).length cgk0] : Asn)) he12) ?_
 refine FJ.doneS (res1 rfl (.s (.s .z))) (.c .z .n) ?_
 rfl

set_option maxHeartbeats 1000000 in
set_option maxRecDepth 20000 in
theorem c_62 {w0 : World} {S0 : Bs} {f : DFs} {cs0 : List Value} (h0 : kT_31.ro w0 (FF w0 S0) f cs0) (a : Int)  :
    Calls Tryz.prog 62 #[.agg cs0.toArray, .int .i64 a] w0 (TriPost w0 S0 (fun r l => r = .int .i64 (bytesCode f a) ∧ l = [])) := by
 obtain ⟨u0_0, u0_1, rfl, h0_0, h0_1⟩ := kT_31_ro h0
 obtain ⟨A0_0, c0_0, rfl, hl0_0, hm0_0, hb0_0, he0_0⟩ := ro_form h0_0
 obtain ⟨A0_1, c0_1, rfl, hl0_1, hm0_1, hb0_1, he0_1⟩ := ro_form h0_1
 refine FJ.enter (N := 36) Tryz.func62 rfl rfl (by simp) [(0, .agg #[.slice A0_0 f.inodes.length c0_0, .slice A0_1 f.data.length c0_1]), (1, .int .i64 a)] (by simp) (l0 := []) trivial ?_
 refine FJ.seq (FJ.region ?_)
 refine FJ.e (goes_list rfl) rfl (by decide) rfl (e_box (cs := [.slice A0_0 f.inodes.length c0_0, .slice A0_1 f.data.length c0_1]) (n := 2) rfl (.t .z) rfl rfl) ?_
 rintro _ _ ⟨g3, rfl, rfl⟩
 refine FJ.ql rfl (q_assign rfl .c) (FJ.nil (FJ.then_ (FJ.seq (FJ.region ?_))))
 refine FJ.ql rfl (q_loadA (cs := [.slice A0_0 f.inodes.length c0_0, .slice A0_1 f.data.length c0_1]) rfl ag_31 sz_31 (.t (.s .z)) (WS.rows0 .z (fun i u h => by exact h))) ?_
 refine FJ.call (goes_list rfl) rfl (by decide) rfl (c_call rfl Tryz.func79 rfl rfl (args1 (.t .z))) .n (fun w1 S1 hs tr => c_79 (kT_31_mk f (tr.ctx h0_0) (tr.ctx h0_1))) ?_
 rintro _ _ ⟨rfl, rfl⟩
 refine FJ.cat .n ?_
 refine FJ.ql rfl (q_assign rfl (.t .z)) (FJ.nil (FJ.then_ (FJ.seq (FJ.block ?_))))
 refine FJ.seq (FJ.region (FJ.ql rfl (q_move rfl (.t .z)) (FJ.ql rfl (q_neq rfl (.t .z) .c) (FJ.ql rfl (q_assign rfl (.t .z)) ?_))))
 refine FJ.nil (FJ.then_ ?_)
 refine FJ.condN (.t .z) (fun b4 => ?_) (fun b4 => ?_)
 refine FJ.seq (FJ.region (FJ.ql rfl (q_move rfl (.t (.s (.s (.s .z))))) (FJ.er (.s4 (.s (.s (.s .z)))) (FJ.ql rfl (q_assign rfl (.t .z)) ?_))))
 refine FJ.nil (FJ.then_ (FJ.ret (FJ.inBR (FJ.thenR ?_))))
 refine FJ.doneS (res1 rfl .z) .n ?_
 exact ⟨by first | (rw [bytesCode_f (by assumption)]; done) | (rw [bytesCode_3 (by assumption) (by assumption)]; done) | (rw [bytesCode_9 (by assumption) (by assumption) (by omega)]; done) | (rw [bytesCode_4 (by assumption) (by assumption) (by omega) (by omega)]; done) | (rw [bytesCode_0 (by assumption) (by assumption) (by omega) (by omega)]; done), rfl⟩
 have htd5 := fsTree b4
 have hId5 := treeI htd5
 refine FJ.seq (FJ.region (FJ.ql rfl (q_move rfl (.t (.s4 (.s4 (.s .z))))) (FJ.ql rfl (q_fieldAddr rfl (.t (.s4 (.s4 .z))) (fun _ => fa_31_0 _ _)) (FJ.ql rfl (q_load rfl ag_29 (.t .z) (WS.row .z rfl)) ?_))))
 refine FJ.call (goes_list rfl) rfl (by decide) rfl (c_call rfl Tryz.func109 rfl rfl (args1 (.t .z))) .n (fun w1 S1 hs tr => c_109 (tr.ctx h0_0)) ?_
 rintro _ _ ⟨rfl, rfl⟩
 refine FJ.cat .n ?_
 refine FJ.ql rfl (q_sub (c := (f.inodes.length : Int) - 1) rfl (.t .z) .c (wr (by omega) (by omega) (by omega))) ?_
 refine FJ.call (goes_list rfl) rfl (by decide) rfl (c_call rfl Tryz.func108 rfl rfl (args3 (.t (.s4 .z)) .c (.t .z))) .n (fun w1 S1 hs tr => c_108 _ _ _) ?_
 rintro _ _ ⟨rfl, rfl⟩
 refine FJ.cat .n ?_
 refine FJ.ql rfl (q_not rfl (.t .z)) (FJ.ql rfl (q_assign rfl (.t .z)) (FJ.nil (FJ.then_ ?_)))
 refine FJ.condN (.t .z) (fun b6 => ?_) (fun b6 => ?_)
 refine FJ.seq (FJ.region (FJ.er (.s4 (.s4 (.s4 (.s (.s .z))))) (FJ.ql rfl (q_assign rfl .c) (FJ.nil ?_))))
 refine FJ.then_ (FJ.ret (FJ.inBR (FJ.thenR ?_)))
 refine FJ.doneS (res1 rfl .z) .n ?_
 exact ⟨by first | (rw [bytesCode_f (by assumption)]; done) | (rw [bytesCode_3 (by assumption) (by assumption)]; done) | (rw [bytesCode_9 (by assumption) (by assumption) (by omega)]; done) | (rw [bytesCode_4 (by assumption) (by assumption) (by omega) (by omega)]; done) | (rw [bytesCode_0 (by assumption) (by assumption) (by omega) (by omega)]; done), rfl⟩
 refine FJ.seq (FJ.region (FJ.ql rfl (q_fieldAddr rfl (.t (.s4 (.s4 (.s4 (.s (.s (.s .z))))))) (fun _ => fa_31_0 _ _)) (FJ.ql rfl (q_load rfl ag_29 (.t .z) (WS.row .z rfl)) (FJ.ql rfl (q_move rfl (.t (.s16 (.s (.s (.s .z)))))) ?_))))
 obtain ⟨ad7, hAad7, hrad7⟩ := he0_0 (by omega)
 subst hAad7
 obtain ⟨x8, hx8⟩ := get_ex (xs := f.inodes) (j := Int.toNat a) (by omega)
 obtain ⟨ece9, hre9, hFe9, hce9⟩ := hrad7.elem hx8
 obtain ⟨ue9_3, ue9_4, rfl, he9_3, he9_4⟩ := kT_73_ro hre9
 obtain ⟨Ae9_3, ce9_3, rfl, hle9_3, hme9_3, hbe9_3, hee9_3⟩ := ro_form he9_3
 obtain ⟨Ae9_4, ce9_4, rfl, hle9_4, hme9_4, hbe9_4, hee9_4⟩ := ro_form he9_4
 have kx8 := kind_at (i := a) hx8 (by omega)
 have nx8 := ents_at (a := a) hx8 (by omega)
 have iox8 := inodes_all hId5 _ (List.mem_of_getElem? hx8)
 refine FJ.ql rfl (q_indexAddr (j := Int.toNat a) rfl u_29 sz_73 (.t (.s .z)) (.t .z) (by omega) (by omega)) ?_
 refine FJ.ql rfl (q_fieldAddr rfl (.t .z) (fun _ => fa_73_0 _ _)) (FJ.ql rfl (q_load rfl ag_2 (.t .z) (WS.el hFe9 hce9 rfl)) (FJ.ql rfl (q_eql rfl (.t .z) .c) (FJ.ql rfl (q_assign rfl (.t .z)) (FJ.nil ?_))))
 refine FJ.then_ ?_
 refine FJ.condP (.t .z) (fun b12 => ?_) (fun b12 => ?_)
 refine FJ.seq (FJ.region (FJ.er (.s16 (.s4 (.s (.s .z)))) (FJ.ql rfl (q_assign rfl .c) (FJ.nil ?_))))
 refine FJ.then_ (FJ.ret (FJ.inBR (FJ.thenR ?_)))
 refine FJ.doneS (res1 rfl .z) .n ?_
 exact ⟨by first | (rw [bytesCode_f (by assumption)]; done) | (rw [bytesCode_3 (by assumption) (by assumption)]; done) | (rw [bytesCode_9 (by assumption) (by assumption) (by omega)]; done) | (rw [bytesCode_4 (by assumption) (by assumption) (by omega) (by omega)]; done) | (rw [bytesCode_0 (by assumption) (by assumption) (by omega) (by omega)]; done), rfl⟩
 refine FJ.seq (FJ.region (FJ.ql rfl (q_fieldAddr rfl (.t (.s16 (.s4 (.s (.s (.s .z)))))) (fun _ => fa_31_0 _ _)) (FJ.ql rfl (q_load rfl ag_29 (.t .z) (WS.row .z rfl)) (FJ.ql rfl (q_move rfl (.t (.s16 (.s4 (.s4 (.s (.s (.s .z)))))))) ?_))))
 refine FJ.ql rfl (q_indexAddr (j := Int.toNat a) rfl u_29 sz_73 (.t (.s .z)) (.t .z) (by omega) (by omega)) ?_
 refine FJ.ql rfl (q_fieldAddr rfl (.t .z) (fun _ => fa_73_0 _ _)) (FJ.ql rfl (q_load rfl ag_2 (.t .z) (WS.el hFe9 hce9 rfl)) (FJ.ql rfl (q_eql rfl (.t .z) .c) (FJ.ql rfl (q_assign rfl (.t .z)) (FJ.nil ?_))))
 refine FJ.then_ ?_
 refine FJ.condP (.t .z) (fun b13 => ?_) (fun b13 => ?_)
 refine FJ.seq (FJ.region (FJ.er (.s16 (.s4 (.s4 (.s4 (.s (.s .z)))))) (FJ.ql rfl (q_assign rfl .c) (FJ.nil ?_))))
 refine FJ.then_ (FJ.ret (FJ.inBR (FJ.thenR ?_)))
 refine FJ.doneS (res1 rfl .z) .n ?_
 exact ⟨by first | (rw [bytesCode_f (by assumption)]; done) | (rw [bytesCode_3 (by assumption) (by assumption)]; done) | (rw [bytesCode_9 (by assumption) (by assumption) (by omega)]; done) | (rw [bytesCode_4 (by assumption) (by assumption) (by omega) (by omega)]; done) | (rw [bytesCode_0 (by assumption) (by assumption) (by omega) (by omega)]; done), rfl⟩
 refine FJ.skip (FJ.inBN (FJ.then_ (FJ.seq (FJ.region ?_))))
 refine FJ.er (.s16 (.s4 (.s4 (.s4 (.s (.s .z)))))) (FJ.ql rfl (q_assign rfl .c) (FJ.nil (FJ.then_ (FJ.ret ?_))))
 refine FJ.doneS (res1 rfl .z) .n ?_
 exact ⟨by first | (rw [bytesCode_f (by assumption)]; done) | (rw [bytesCode_3 (by assumption) (by assumption)]; done) | (rw [bytesCode_9 (by assumption) (by assumption) (by omega)]; done) | (rw [bytesCode_4 (by assumption) (by assumption) (by omega) (by omega)]; done) | (rw [bytesCode_0 (by assumption) (by assumption) (by omega) (by omega)]; done), rfl⟩

set_option maxHeartbeats 1000000 in
set_option maxRecDepth 20000 in
theorem c_91 {w0 : World} {S0 : Bs} {f : DFs} {ad0 : Addr} (h0 : PtrRo kT_31 w0 (FF w0 S0) ad0 f) (a : Int) (ht : treeFault f = 0) (hp : placeIn f.inodes.length a) :
    Calls Tryz.prog 91 #[.pointer (some ad0), .int .i64 a] w0 (TriPost w0 S0 (fun r l => l = [ownA kSl_5 (fileB f a) [r]])) := by
 obtain ⟨ec0, hF0, hr0, hc0⟩ := id h0
 obtain ⟨u0_0, u0_1, rfl, h0_0, h0_1⟩ := kT_31_ro hr0
 obtain ⟨A0_0, c0_0, rfl, hl0_0, hm0_0, hb0_0, he0_0⟩ := ro_form h0_0
 obtain ⟨A0_1, c0_1, rfl, hl0_1, hm0_1, hb0_1, he0_1⟩ := ro_form h0_1
 have hI := treeI ht
 have hd20 := data_20 ht
 obtain ⟨hp1, hp2⟩ := hp
 refine FJ.enter (N := 32) Tryz.func91 rfl rfl (by simp) [(0, .pointer (some ad0)), (1, .int .i64 a)] (by simp) (l0 := []) trivial ?_
 refine FJ.seq (FJ.region (FJ.ql rfl (q_assign rfl .c) (FJ.nil (FJ.then_ ?_))))
 refine FJ.seq (FJ.region (FJ.ql rfl (q_assign rfl .c) (FJ.nil (FJ.then_ ?_))))
 refine FJ.seq (FJ.seq (FJ.region (FJ.ql rfl (q_move rfl (.t (.s (.s .z)))) (FJ.ql rfl (q_nilCheck rfl (.t .z)) ?_))))
 refine FJ.ql rfl (q_fieldAddr rfl (.t .z) (fun _ => fa_31_0 _ _)) (FJ.ql rfl (q_load rfl ag_29 (.t .z) (WS.el hF0 hc0 rfl)) (FJ.ql rfl (q_move rfl (.t (.s4 (.s (.s (.s .z)))))) ?_))
 obtain ⟨ad3, hAad3, hrad3⟩ := he0_0 (by omega)
 subst hAad3
 obtain ⟨x4, hx4⟩ := get_ex (xs := f.inodes) (j := Int.toNat a) (by omega)
 obtain ⟨ece5, hre5, hFe5, hce5⟩ := hrad3.elem hx4
 obtain ⟨ue5_3, ue5_4, rfl, he5_3, he5_4⟩ := kT_73_ro hre5
 obtain ⟨Ae5_3, ce5_3, rfl, hle5_3, hme5_3, hbe5_3, hee5_3⟩ := ro_form he5_3
 obtain ⟨Ae5_4, ce5_4, rfl, hle5_4, hme5_4, hbe5_4, hee5_4⟩ := ro_form he5_4
 have kx4 := kind_at (i := a) hx4 (by omega)
 have nx4 := ents_at (a := a) hx4 (by omega)
 have iox4 := inodes_all hI _ (List.mem_of_getElem? hx4)
 have nbx4 := blocks_at (a := a) hx4 (by omega)
 have b4x4 := blocks_4 iox4
 refine FJ.ql rfl (q_indexAddr (j := Int.toNat a) rfl u_29 sz_73 (.t (.s .z)) (.t .z) (by omega) (by omega)) ?_
 refine FJ.ql rfl (q_fieldAddr rfl (.t .z) (fun _ => fa_73_3 _ _)) (FJ.ql rfl (q_load rfl ag_27 (.t .z) (WS.el hFe5 hce5 rfl)) (FJ.ql rfl (q_len rfl u_27 (.t .z)) (FJ.ql rfl (q_move rfl .c) (FJ.nil ?_))))
 refine FJ.then_ (FJ.block ?_)
 refine FJ.add (c := ownA kSl_5 [] [.slice none 0 0]) (fun w S => own_nil w S none) ?_
 refine FJ.loopi (γ := Nat × (Option Addr) × Nat) (fun ⟨k, Agk0, cgk0⟩ => [(17, .int .i64 (k : Int)), (16, .int .i64 (x4.blocks.length : Int)), (15, .slice Ae5_3 x4.blocks.length ce5_3), (5, .slice Agk0 (bytesTo f.data x4.blocks k).length cgk0), (4, .slice none 0 0), (0, .pointer (some ad0))]) (fun ⟨k, Agk0, cgk0⟩ => [ownA kSl_5 (bytesTo f.data x4.blocks k) [.slice Agk0 (bytesTo f.data x4.blocks k).length cgk0]]) (fun ⟨k, Agk0, cgk0⟩ => k ≤ x4.blocks.length) (fun ⟨k, Agk0, cgk0⟩ => x4.blocks.length - k) (0, none, 0) (Nat.zero_le _) (.c .z (.c (.s .z) (.c (.s (.s .z)) (.c (.s4 (.s4 (.s (.s .z)))) (.c (.s4 (.s4 (.s (.s (.s .z))))) (.c (.s4 (.s4 (.s4 .z))) .n)))))) (fun _ h => h.sel (.c .z .n)) ?_
 rintro ⟨k, Agk0, cgk0⟩ hk
 have hbl := bytesTo_len (data := f.data) (bs := x4.blocks) k b4x4.1 (data_8 ht)
 refine FJ.seq (FJ.region (FJ.ql rfl (q_lss rfl (.t .z) (.t (.s .z))) (FJ.nil (FJ.then_ ?_))))
 refine FJ.seq ?_
 refine FJ.condP (.t .z) (fun b9 => ?_) (fun b9 => ?_)
 refine FJ.skip (FJ.then_ (FJ.seq (FJ.block (FJ.seq ?_))))
 refine FJ.region ?_
 obtain ⟨ad10, hAad10, hrad10⟩ := hee5_3 (by omega)
 subst hAad10
 obtain ⟨x11, hx11⟩ := get_ex (xs := x4.blocks) (j := k) (by omega)
 obtain ⟨ece12, hre12, hFe12, hce12⟩ := hrad10.elem hx11
 obtain ⟨rfl, se12⟩ := hre12
 have pbx11 := b4x4.2 _ (List.mem_of_getElem? hx11)
 refine FJ.ql rfl (q_indexAddr (j := k) rfl u_27 sz_2 (.t (.s (.s (.s .z)))) (.t (.s .z)) rfl (by omega)) ?_
 refine FJ.ql rfl (q_load rfl ag_2 (.t .z) (WS.el0 hFe12 hce12 rfl)) (FJ.ql rfl (q_assign rfl (.t .z)) (FJ.nil (FJ.then_ (FJ.region ?_))))
 refine FJ.ql rfl (q_move rfl (.t (.s4 (.s (.s (.s .z)))))) (FJ.ql rfl (q_move rfl (.t (.s4 (.s4 (.s (.s .z)))))) (FJ.ql rfl (q_nilCheck rfl (.t .z)) (FJ.ql rfl (q_fieldAddr rfl (.t .z) (fun _ => fa_31_1 _ _)) (FJ.ql rfl (q_load rfl ag_23 (.t .z) (WS.el hF0 hc0 rfl)) ?_))))
 refine FJ.ql rfl (q_move rfl (.t (.s4 (.s .z)))) ?_
 obtain ⟨ad13, hAad13, hrad13⟩ := he0_1 (by omega)
 subst hAad13
 obtain ⟨x14, hx14⟩ := get_ex (xs := f.data) (j := Int.toNat x11) (by omega)
 obtain ⟨ece15, hre15, hFe15, hce15⟩ := hrad13.elem hx14
 obtain ⟨ue15, rfl⟩ := sl_one hre15
 obtain ⟨Ae15, ce15, rfl, hle15, hme15, hbe15, hee15⟩ := ro_form hre15
 have p8x14 := data_8 ht _ (List.mem_of_getElem? hx14)
 refine FJ.ql rfl (q_indexAddr (j := Int.toNat x11) rfl u_23 sz_26 (.t (.s .z)) (.t .z) (by omega) (by omega)) ?_
 refine FJ.ql rfl (q_load rfl ag_26 (.t .z) (WS.el0 hFe15 hce15 rfl)) ?_
 refine FJ.e (goes_list rfl) rfl (by decide) rfl (e_appendF (flat_scalar _ _ _) rfl u_26 inf_5 rfl (.t (.s4 (.s (.s (.s .z))))) (.t .z) (.c .z .n) (fun w1 S1 tr => tr.ctx hre15) (by first | omega | (simp only [List.length_append, List.length_take, List.length_nil, List.length_cons]; omega)) (by first | omega | (simp only [List.length_append, List.length_take, List.length_nil, List.length_cons]; omega))) ?_
 rintro _ _ rfl
 refine FJ.ceq .z (bytesTo_s hx11 hx14) ?_
 refine FJ.know (WS.oform .z) ?_
 rintro ⟨Ao17, co17, rfl, hlo17, hmo17, hbo17⟩
 refine FJ.er (.s16 .z) (FJ.ql rfl (q_assign rfl (.t .z)) (FJ.nil (FJ.inBN (FJ.then_ ?_))))
 refine FJ.region ?_
 refine FJ.ql rfl (q_add (c := ((k + 1 : Nat) : Int)) rfl (.t (.s4 (.s4 (.s4 (.s (.s .z)))))) .c (wr (by omega) (by omega) (by omega))) ?_
 refine FJ.er (.s4 (.s4 (.s4 (.s (.s (.s .z)))))) (FJ.ql rfl (q_move rfl (.t .z)) (FJ.nil ?_))
 refine FJ.again ((k + 1), Ao17, co17) (by omega) (by first | omega | (dsimp only; omega)) (.c .z (.c (.s16 .z) (.c (.s16 (.s .z)) (.c (.s (.s .z)) (.c (.s16 (.s (.s .z))) (.c (.s16 (.s (.s (.s .z)))) .n)))))) (fun _ h => h.sel (.c .z .n))
 refine FJ.exit (FJ.thenE (FJ.thenE (FJ.inB (FJ.then_ ?_))))
 refine FJ.seq (FJ.region (FJ.ql rfl (q_move rfl (.t (.s4 .z))) (FJ.er (.s4 (.s (.s .z))) (FJ.ql rfl (q_assign rfl (.t .z)) ?_))))
 refine FJ.nil (FJ.then_ (FJ.ret ?_))
 have he18 : bytesTo f.data x4.blocks k = fileB f a := (by unfold fileB; rw [nbx4]; exact bytesTo_all (by omega))
 refine FJ.eq .z (congrArg (fun z_ => (.slice Agk0 (z_).length cgk0 : Value)) he18) ?_
 refine FJ.eq (.s .z) (congrArg (fun z_ => (.slice Agk0 (z_).length cgk0 : Value)) he18) ?_
 refine FJ.eq (.s4 (.s (.s .z))) (congrArg (fun z_ => (.slice Agk0 (z_).length cgk0 : Value)) he18) ?_
 refine FJ.chEq .z (congrArg (fun z_ => (ownA kSl_5 (z_) [.slice Agk0 (z_).length cgk0] : Asn)) he18) ?_
 refine FJ.doneS (res1 rfl (.s (.s .z))) (.c .z .n) ?_
 rfl

set_option maxHeartbeats 1000000 in
set_option maxRecDepth 20000 in
theorem c_145 {w0 : World} {S0 : Bs} {f : DFs} {ad0 : Addr} (h0 : PtrRo kT_31 w0 (FF w0 S0) ad0 f) (a : Int)  :
    Calls Tryz.prog 145 #[.pointer (some ad0), .int .i64 a] w0 (TriPost w0 S0 (fun r l => r = .bool (decide (placeIn f.inodes.length a)) ∧ l = [])) := by
 obtain ⟨ec0, hF0, hr0, hc0⟩ := id h0
 obtain ⟨u0_0, u0_1, rfl, h0_0, h0_1⟩ := kT_31_ro hr0
 obtain ⟨A0_0, c0_0, rfl, hl0_0, hm0_0, hb0_0, he0_0⟩ := ro_form h0_0
 obtain ⟨A0_1, c0_1, rfl, hl0_1, hm0_1, hb0_1, he0_1⟩ := ro_form h0_1
 refine FJ.enter (N := 13) Tryz.func145 rfl rfl (by simp) [(0, .pointer (some ad0)), (1, .int .i64 a)] (by simp) (l0 := []) trivial ?_
 refine FJ.seq (FJ.region (FJ.ql rfl (q_assign rfl .c) (FJ.nil (FJ.then_ ?_))))
 refine FJ.seq (FJ.region (FJ.ql rfl (q_move rfl (.t (.s (.s .z)))) (FJ.ql rfl (q_move rfl (.t (.s (.s .z)))) (FJ.ql rfl (q_nilCheck rfl (.t .z)) ?_))))
 refine FJ.ql rfl (q_fieldAddr rfl (.t .z) (fun _ => fa_31_0 _ _)) (FJ.ql rfl (q_load rfl ag_29 (.t .z) (WS.el hF0 hc0 rfl)) (FJ.ql rfl (q_len rfl u_29 (.t .z)) ?_))
 refine FJ.ql rfl (q_sub (c := (f.inodes.length : Int) - 1) rfl (.t .z) .c (wr (by omega) (by omega) (by omega))) ?_
 refine FJ.call (goes_list rfl) rfl (by decide) rfl (c_call rfl Tryz.func71 rfl rfl (args3 (.t (.s4 (.s (.s .z)))) .c (.t .z))) .n (fun w1 S1 hs tr => c_71 _ _ _) ?_
 rintro _ _ ⟨rfl, rfl⟩
 refine FJ.cat .n ?_
 refine FJ.er (.s4 (.s4 .z)) (FJ.ql rfl (q_assign rfl (.t .z)) (FJ.nil (FJ.then_ (FJ.ret ?_))))
 refine FJ.doneS (res1 rfl .z) .n ?_
 exact ⟨rfl, rfl⟩

set_option maxHeartbeats 1000000 in
set_option maxRecDepth 20000 in
theorem c_73 {w0 : World} {S0 : Bs} {f : DFs} {ad0 : Addr} (h0 : PtrRo kT_31 w0 (FF w0 S0) ad0 f) (a : Int) (ht : treeFault f = 0) (hp : placeIn f.inodes.length a) :
    Calls Tryz.prog 73 #[.pointer (some ad0), .int .i64 a] w0 (TriPost w0 S0 (fun r l => l = [ownA kSl_5 (fileB f a) [r]])) := by
 obtain ⟨ec0, hF0, hr0, hc0⟩ := id h0
 obtain ⟨u0_0, u0_1, rfl, h0_0, h0_1⟩ := kT_31_ro hr0
 obtain ⟨A0_0, c0_0, rfl, hl0_0, hm0_0, hb0_0, he0_0⟩ := ro_form h0_0
 obtain ⟨A0_1, c0_1, rfl, hl0_1, hm0_1, hb0_1, he0_1⟩ := ro_form h0_1
 have hI := treeI ht
 have hd20 := data_20 ht
 obtain ⟨hp1, hp2⟩ := hp
 refine FJ.enter (N := 40) Tryz.func73 rfl rfl (by simp) [(0, .pointer (some ad0)), (1, .int .i64 a)] (by simp) (l0 := []) trivial ?_
 refine FJ.seq (FJ.region (FJ.ql rfl (q_assign rfl .c) (FJ.nil (FJ.then_ ?_))))
 refine FJ.seq (FJ.region ?_)
 refine FJ.e (goes_list rfl) rfl (by decide) rfl (e_buildNil rfl u_26 (inz inf_5)) ?_
 rintro _ _ ⟨g3, rfl, rfl⟩
 refine FJ.ql rfl (q_assign rfl (.t .z)) (FJ.nil (FJ.then_ (FJ.seq (FJ.region ?_))))
 refine FJ.ql rfl (q_move rfl (.t (.s (.s (.s .z))))) (FJ.ql rfl (q_nilCheck rfl (.t .z)) (FJ.ql rfl (q_fieldAddr rfl (.t .z) (fun _ => fa_31_0 _ _)) (FJ.ql rfl (q_load rfl ag_29 (.t .z) (WS.el hF0 hc0 rfl)) (FJ.ql rfl (q_move rfl (.t (.s4 (.s4 .z)))) ?_))))
 obtain ⟨ad4, hAad4, hrad4⟩ := he0_0 (by omega)
 subst hAad4
 obtain ⟨x5, hx5⟩ := get_ex (xs := f.inodes) (j := Int.toNat a) (by omega)
 obtain ⟨ece6, hre6, hFe6, hce6⟩ := hrad4.elem hx5
 obtain ⟨ue6_3, ue6_4, rfl, he6_3, he6_4⟩ := kT_73_ro hre6
 obtain ⟨Ae6_3, ce6_3, rfl, hle6_3, hme6_3, hbe6_3, hee6_3⟩ := ro_form he6_3
 obtain ⟨Ae6_4, ce6_4, rfl, hle6_4, hme6_4, hbe6_4, hee6_4⟩ := ro_form he6_4
 have kx5 := kind_at (i := a) hx5 (by omega)
 have nx5 := ents_at (a := a) hx5 (by omega)
 have iox5 := inodes_all hI _ (List.mem_of_getElem? hx5)
 have nbx5 := blocks_at (a := a) hx5 (by omega)
 have b4x5 := blocks_4 iox5
 refine FJ.ql rfl (q_indexAddr (j := Int.toNat a) rfl u_29 sz_73 (.t (.s .z)) (.t .z) (by omega) (by omega)) ?_
 refine FJ.ql rfl (q_assign rfl (.t .z)) (FJ.nil (FJ.then_ (FJ.seq (FJ.seq ?_))))
 refine FJ.region (FJ.ql rfl (q_assign rfl .c) (FJ.nil (FJ.then_ (FJ.block ?_))))
 refine FJ.add (c := ownA kSl_5 ([] : (List UInt8)) [.slice (some ⟨g3, 0, none⟩) 0 0]) (fun w S => own_nil w S _) ?_
 refine FJ.loopi (γ := Nat × (Option Addr) × Nat) (fun ⟨k, Agk0, cgk0⟩ => [(7, .int .i64 (k : Int)), (6, .pointer (some (Addr.add ad4 ((Int.toNat a) * 5)))), (5, .slice Agk0 (bytesTo f.data x5.blocks k).length cgk0), (4, .slice none 0 0), (0, .pointer (some ad0))]) (fun ⟨k, Agk0, cgk0⟩ => [ownA kSl_5 (bytesTo f.data x5.blocks k) [.slice Agk0 (bytesTo f.data x5.blocks k).length cgk0], rowA g3 5 1 0 []]) (fun ⟨k, Agk0, cgk0⟩ => k ≤ x5.blocks.length) (fun ⟨k, Agk0, cgk0⟩ => x5.blocks.length - k) (0, (some ⟨g3, 0, none⟩), 0) (Nat.zero_le _) (.c .z (.c (.s .z) (.c (.s4 (.s4 .z)) (.c (.s4 (.s4 (.s (.s .z)))) (.c (.s4 (.s4 (.s (.s (.s .z))))) .n))))) (fun _ h => h.sel (.c .z (.c .z .n))) ?_
 rintro ⟨k, Agk0, cgk0⟩ hk
 have hbl := bytesTo_len (data := f.data) (bs := x5.blocks) k b4x5.1 (data_8 ht)
 refine FJ.seq (FJ.seq (FJ.region (FJ.ql rfl (q_move rfl (.t .z)) (FJ.ql rfl (q_move rfl (.t (.s (.s .z)))) ?_))))
 refine FJ.ql rfl (q_nilCheck rfl (.t .z)) (FJ.ql rfl (q_fieldAddr rfl (.t .z) (fun _ => fa_73_3 _ _)) (FJ.ql rfl (q_load rfl ag_27 (.t .z) (WS.el hFe6 hce6 rfl)) (FJ.ql rfl (q_len rfl u_27 (.t .z)) (FJ.ql rfl (q_lss rfl (.t (.s4 (.s .z))) (.t .z)) ?_))))
 refine FJ.nil (FJ.then_ ?_)
 refine FJ.condP (.t .z) (fun b10 => ?_) (fun b10 => ?_)
 refine FJ.skip (FJ.then_ (FJ.seq (FJ.block ?_)))
 refine FJ.draw [rowA g3 5 1 0 []] 15 (by kernel_rfl) ?_
 refine FJ.sch [(0, true), (1, true), (2, true), (3, true), (4, true), (5, true), (6, true), (7, true), (8, true), (9, true), (10, true), (11, true), (12, true), (13, true), (14, false), (15, false)] 0 #[true, true, true, true, true, true, true, true, true, true, true, true, true, true, true, true] (by rfl) (by kernel_rfl) ?_
 refine FJ.dq rfl rfl rfl (by decide) rfl (.s .z) (q_move rfl (.t (.s4 (.s4 (.s .z))))) (FJ.dq rfl rfl rfl (by decide) rfl (.s .z) (q_move rfl (.t (.s4 (.s4 (.s4 .z))))) (FJ.dq rfl rfl rfl (by decide) rfl (.s .z) (q_nilCheck rfl (.t .z)) (FJ.dq rfl rfl rfl (by decide) rfl (.s .z) (q_fieldAddr rfl (.t .z) (fun _ => fa_31_1 _ _)) (FJ.dq rfl rfl rfl (by decide) rfl (.s .z) (q_load rfl ag_23 (.t .z) (WS.el hF0 hc0 rfl)) ?_))))
 refine FJ.dq rfl rfl rfl (by decide) rfl (.s .z) (q_move rfl (.t (.s4 (.s4 (.s4 (.s .z)))))) (FJ.dq rfl rfl rfl (by decide) rfl (.s .z) (q_nilCheck rfl (.t .z)) (FJ.dq rfl rfl rfl (by decide) rfl (.s .z) (q_fieldAddr rfl (.t .z) (fun _ => fa_73_3 _ _)) (FJ.dq rfl rfl rfl (by decide) rfl (.s .z) (q_load rfl ag_27 (.t .z) (WS.el hFe6 hce6 rfl)) (FJ.dq rfl rfl rfl (by decide) rfl (.s .z) (q_move rfl (.t (.s16 .z))) ?_))))
 obtain ⟨ad11, hAad11, hrad11⟩ := hee6_3 (by omega)
 subst hAad11
 obtain ⟨x12, hx12⟩ := get_ex (xs := x5.blocks) (j := k) (by omega)
 obtain ⟨ece13, hre13, hFe13, hce13⟩ := hrad11.elem hx12
 obtain ⟨rfl, se13⟩ := hre13
 have pbx12 := b4x5.2 _ (List.mem_of_getElem? hx12)
 refine FJ.dq rfl rfl rfl (by decide) rfl (.s .z) (q_indexAddr (j := k) rfl u_27 sz_2 (.t (.s .z)) (.t .z) rfl (by omega)) ?_
 refine FJ.dq rfl rfl rfl (by decide) rfl (.s .z) (q_load rfl ag_2 (.t .z) (WS.el0 hFe13 hce13 rfl)) ?_
 obtain ⟨ad14, hAad14, hrad14⟩ := he0_1 (by omega)
 subst hAad14
 obtain ⟨x15, hx15⟩ := get_ex (xs := f.data) (j := Int.toNat x12) (by omega)
 obtain ⟨ece16, hre16, hFe16, hce16⟩ := hrad14.elem hx15
 obtain ⟨ue16, rfl⟩ := sl_one hre16
 obtain ⟨Ae16, ce16, rfl, hle16, hme16, hbe16, hee16⟩ := ro_form hre16
 have p8x15 := data_8 ht _ (List.mem_of_getElem? hx15)
 refine FJ.dq rfl rfl rfl (by decide) rfl (.s .z) (q_indexAddr (j := Int.toNat x12) rfl u_23 sz_26 (.t (.s4 (.s (.s (.s .z))))) (.t .z) (by omega) (by omega)) ?_
 refine FJ.dq rfl rfl rfl (by decide) rfl (.s .z) (q_load rfl ag_26 (.t .z) (WS.el0 hFe16 hce16 rfl)) ?_
 refine FJ.e (goes_sch rfl rfl) rfl (by decide) rfl (e_appendF (flat_scalar _ _ _) rfl u_26 inf_5 rfl (.t (.s4 (.s4 (.s4 (.s .z))))) (.t .z) (.c .z .n) (fun w1 S1 tr => tr.ctx hre16) (by first | omega | (simp only [List.length_append, List.length_take, List.length_nil, List.length_cons]; omega)) (by first | omega | (simp only [List.length_append, List.length_take, List.length_nil, List.length_cons]; omega))) ?_
 rintro _ _ rfl
 refine FJ.ceq .z (bytesTo_s hx12 hx15) ?_
 refine FJ.know (WS.oform .z) ?_
 rintro ⟨Ao18, co18, rfl, hlo18, hmo18, hbo18⟩
 refine FJ.sk (.s .z) ?_
 refine FJ.er (.s16 (.s4 (.s4 .z))) ?_
 refine FJ.q (goes_sch rfl rfl) rfl (by decide) rfl (q_assign rfl (.t .z)) ?_
 refine FJ.sl rfl ?_
 refine FJ.schN ?_
 refine FJ.drawN (by kernel_rfl) ?_
 refine FJ.inBN (FJ.then_ (FJ.region (FJ.ql rfl (q_move rfl (.t (.s16 (.s4 (.s (.s (.s .z))))))) ?_)))
 refine FJ.ql rfl (q_add (c := ((k + 1 : Nat) : Int)) rfl (.t .z) .c (wr (by omega) (by omega) (by omega))) ?_
 refine FJ.er (.s16 (.s4 (.s4 (.s .z)))) (FJ.ql rfl (q_assign rfl (.t .z)) (FJ.nil ?_))
 refine FJ.again ((k + 1), Ao18, co18) (by omega) (by first | omega | (dsimp only; omega)) (.c .z (.c (.s16 (.s4 (.s4 (.s (.s .z))))) (.c (.s (.s (.s .z))) (.c (.s16 (.s4 (.s4 (.s (.s (.s .z)))))) (.c (.s16 (.s4 (.s4 (.s4 .z)))) .n))))) (fun _ h => h.sel (.c .z (.c .z .n)))
 refine FJ.exit (FJ.thenE (FJ.thenE (FJ.inB (FJ.then_ ?_))))
 refine FJ.seq (FJ.region (FJ.ql rfl (q_move rfl (.t (.s4 (.s4 (.s .z))))) (FJ.er (.s4 (.s4 (.s (.s (.s .z))))) (FJ.ql rfl (q_assign rfl (.t .z)) ?_))))
 refine FJ.nil (FJ.then_ (FJ.ret ?_))
 have he19 : bytesTo f.data x5.blocks k = fileB f a := (by unfold fileB; rw [nbx5]; exact bytesTo_all (by omega))
 refine FJ.eq .z (congrArg (fun z_ => (.slice Agk0 (z_).length cgk0 : Value)) he19) ?_
 refine FJ.eq (.s .z) (congrArg (fun z_ => (.slice Agk0 (z_).length cgk0 : Value)) he19) ?_
 refine FJ.eq (.s4 (.s4 (.s (.s (.s .z))))) (congrArg (fun z_ => (.slice Agk0 (z_).length cgk0 : Value)) he19) ?_
 refine FJ.chEq .z (congrArg (fun z_ => (ownA kSl_5 (z_) [.slice Agk0 (z_).length cgk0] : Asn)) he19) ?_
 refine FJ.doneS (res1 rfl (.s (.s .z))) (.c .z .n) ?_
 rfl

set_option maxHeartbeats 1000000 in
set_option maxRecDepth 20000 in
theorem c_89 {w0 : World} {S0 : Bs} {f : DFs} {cs0 : List Value} (h0 : kT_31.ro w0 (FF w0 S0) f cs0) (a : Int)  :
    Calls Tryz.prog 89 #[.agg cs0.toArray, .int .i64 a] w0 (TriPost w0 S0 (RA_62 (bytesR f a))) := by
 obtain ⟨u0_0, u0_1, rfl, h0_0, h0_1⟩ := kT_31_ro h0
 obtain ⟨A0_0, c0_0, rfl, hl0_0, hm0_0, hb0_0, he0_0⟩ := ro_form h0_0
 obtain ⟨A0_1, c0_1, rfl, hl0_1, hm0_1, hb0_1, he0_1⟩ := ro_form h0_1
 refine FJ.enter (N := 30) Tryz.func89 rfl rfl (by simp) [(0, .agg #[.slice A0_0 f.inodes.length c0_0, .slice A0_1 f.data.length c0_1]), (1, .int .i64 a)] (by simp) (l0 := []) trivial ?_
 refine FJ.seq (FJ.region ?_)
 refine FJ.e (goes_list rfl) rfl (by decide) rfl (e_box (cs := [.slice A0_0 f.inodes.length c0_0, .slice A0_1 f.data.length c0_1]) (n := 2) rfl (.t .z) rfl rfl) ?_
 rintro _ _ ⟨g3, rfl, rfl⟩
 refine FJ.e (goes_list rfl) rfl (by decide) rfl (e_alloc rfl z_62 rfl rfl) ?_
 rintro _ _ ⟨g4, rfl, rfl⟩
 refine FJ.nil (FJ.then_ (FJ.seq (FJ.seq (FJ.region ?_))))
 refine FJ.call (goes_list rfl) rfl (by decide) rfl (c_call rfl Tryz.func77 rfl rfl (args1 (.t (.s .z)))) .n (fun w1 S1 hs tr => c_77 (tr.ptr (.s .z) (kT_31_mk f (tr.ctx h0_0) (tr.ctx h0_1)))) ?_
 rintro _ _ ⟨rfl, rfl⟩
 refine FJ.cat .n ?_
 refine FJ.ql rfl (q_assign rfl (.t .z)) (FJ.nil (FJ.then_ (FJ.seq (FJ.region ?_))))
 refine FJ.ql rfl (q_move rfl (.t .z)) (FJ.ql rfl (q_neq rfl (.t .z) .c) (FJ.nil (FJ.then_ ?_)))
 refine FJ.condN (.t .z) (fun b5 => ?_) (fun b5 => ?_)
 refine FJ.seq (FJ.region (FJ.ql rfl (q_move rfl (.t (.s (.s .z)))) ?_))
 refine FJ.ql rfl (q_build (ps := [(0, .int .i64 (fsFault f))]) (cs := [.int .i64 (fsFault f), .slice none 0 0]) rfl bl_62 (by intro act hact; simp only [List.map_toArray, List.map_cons, List.map_nil, (show Val _ _ _ from (.t .z)) act hact]) rfl) ?_
 refine FJ.es (goes_list rfl) rfl (es_store (off := 0) (cs := [.int .i64 (fsFault f), .slice none 0 0]) rfl sz_62 (.t (.s4 (.s (.s .z)))) (.t .z) rfl (ones rfl) .z (Nat.le_of_ble_eq_true rfl) (.c .z (.c (.s .z) .n))) ?_
 refine FJ.nil (FJ.then_ (FJ.ret (FJ.thenR ?_)))
 refine FJ.add (c := ownA kSl_5 [] [.slice none 0 0]) (fun w S => own_nil w S none) ?_
 refine FJ.doneS (resC (cs := [.int .i64 (fsFault f), .slice none 0 0]) rfl (.s4 (.s (.s .z))) ag_62 sz_62 (WS.rows0 (cs := [.int .i64 (fsFault f), .slice none 0 0]) (.s .z) (fun _ _ h => h))) (.c .z .n) ?_
 first | (rw [bytesR_f (by assumption)]; exact ⟨_, rfl, rfl⟩) | (rw [bytesR_0 (by assumption)]; exact ⟨_, rfl, rfl⟩) | (rw [bytesR_0 (bytesCode_0 (by assumption) (by assumption) (by omega) (by omega))]; exact ⟨_, rfl, rfl⟩) | (rw [bytesR_f (by rw [bytesCode_f (by assumption)]; first | assumption | decide), bytesCode_f (by assumption)]; exact ⟨_, rfl, rfl⟩) | (rw [bytesR_f (by rw [bytesCode_3 (by assumption) (by assumption)]; first | assumption | decide), bytesCode_3 (by assumption) (by assumption)]; exact ⟨_, rfl, rfl⟩) | (rw [bytesR_f (by rw [bytesCode_9 (by assumption) (by assumption) (by omega)]; first | assumption | decide), bytesCode_9 (by assumption) (by assumption) (by omega)]; exact ⟨_, rfl, rfl⟩) | (rw [bytesR_f (by rw [bytesCode_4 (by assumption) (by assumption) (by omega) (by omega)]; first | assumption | decide), bytesCode_4 (by assumption) (by assumption) (by omega) (by omega)]; exact ⟨_, rfl, rfl⟩)
 have htd7 := fsTree b5
 have hId7 := treeI htd7
 refine FJ.skip (FJ.then_ (FJ.seq (FJ.seq (FJ.region ?_))))
 refine FJ.ql rfl (q_move rfl (.t (.s4 (.s (.s (.s .z)))))) ?_
 refine FJ.call (goes_list rfl) rfl (by decide) rfl (c_call rfl Tryz.func145 rfl rfl (args2 (.t (.s4 (.s (.s .z)))) (.t .z))) .n (fun w1 S1 hs tr => c_145 (tr.ptr (.s .z) (kT_31_mk f (tr.ctx h0_0) (tr.ctx h0_1))) _) ?_
 rintro _ _ ⟨rfl, rfl⟩
 refine FJ.cat .n ?_
 refine FJ.ql rfl (q_not rfl (.t .z)) (FJ.nil (FJ.then_ ?_))
 refine FJ.condN (.t .z) (fun b8 => ?_) (fun b8 => ?_)
 refine FJ.seq (FJ.region ?_)
 refine FJ.ql rfl (q_build (ps := [(0, .int .i64 3)]) (cs := [.int .i64 3, .slice none 0 0]) rfl bl_62 (by intro act hact; simp only [List.map_toArray, List.map_cons, List.map_nil, (show Val _ _ _ from .c) act hact]) rfl) ?_
 refine FJ.es (goes_list rfl) rfl (es_store (off := 0) (cs := [.int .i64 3, .slice none 0 0]) rfl sz_62 (.t (.s4 (.s4 .z))) (.t .z) rfl (ones rfl) .z (Nat.le_of_ble_eq_true rfl) (.c .z (.c (.s .z) .n))) ?_
 refine FJ.nil (FJ.then_ (FJ.ret (FJ.thenR ?_)))
 refine FJ.add (c := ownA kSl_5 [] [.slice none 0 0]) (fun w S => own_nil w S none) ?_
 refine FJ.doneS (resC (cs := [.int .i64 3, .slice none 0 0]) rfl (.s4 (.s4 .z)) ag_62 sz_62 (WS.rows0 (cs := [.int .i64 3, .slice none 0 0]) (.s .z) (fun _ _ h => h))) (.c .z .n) ?_
 first | (rw [bytesR_f (by assumption)]; exact ⟨_, rfl, rfl⟩) | (rw [bytesR_0 (by assumption)]; exact ⟨_, rfl, rfl⟩) | (rw [bytesR_0 (bytesCode_0 (by assumption) (by assumption) (by omega) (by omega))]; exact ⟨_, rfl, rfl⟩) | (rw [bytesR_f (by rw [bytesCode_f (by assumption)]; first | assumption | decide), bytesCode_f (by assumption)]; exact ⟨_, rfl, rfl⟩) | (rw [bytesR_f (by rw [bytesCode_3 (by assumption) (by assumption)]; first | assumption | decide), bytesCode_3 (by assumption) (by assumption)]; exact ⟨_, rfl, rfl⟩) | (rw [bytesR_f (by rw [bytesCode_9 (by assumption) (by assumption) (by omega)]; first | assumption | decide), bytesCode_9 (by assumption) (by assumption) (by omega)]; exact ⟨_, rfl, rfl⟩) | (rw [bytesR_f (by rw [bytesCode_4 (by assumption) (by assumption) (by omega) (by omega)]; first | assumption | decide), bytesCode_4 (by assumption) (by assumption) (by omega) (by omega)]; exact ⟨_, rfl, rfl⟩)
 refine FJ.skip (FJ.then_ (FJ.seq (FJ.seq (FJ.region ?_))))
 refine FJ.ql rfl (q_fieldAddr rfl (.t (.s4 (.s4 .z))) (fun _ => fa_31_0 _ _)) (FJ.ql rfl (q_load rfl ag_29 (.t .z) (WS.row (.s .z) rfl)) (FJ.ql rfl (q_move rfl (.t (.s4 (.s4 (.s4 .z))))) ?_))
 obtain ⟨ad10, hAad10, hrad10⟩ := he0_0 (by omega)
 subst hAad10
 obtain ⟨x11, hx11⟩ := get_ex (xs := f.inodes) (j := Int.toNat a) (by omega)
 obtain ⟨ece12, hre12, hFe12, hce12⟩ := hrad10.elem hx11
 obtain ⟨ue12_3, ue12_4, rfl, he12_3, he12_4⟩ := kT_73_ro hre12
 obtain ⟨Ae12_3, ce12_3, rfl, hle12_3, hme12_3, hbe12_3, hee12_3⟩ := ro_form he12_3
 obtain ⟨Ae12_4, ce12_4, rfl, hle12_4, hme12_4, hbe12_4, hee12_4⟩ := ro_form he12_4
 have kx11 := kind_at (i := a) hx11 (by omega)
 have nx11 := ents_at (a := a) hx11 (by omega)
 have iox11 := inodes_all hId7 _ (List.mem_of_getElem? hx11)
 refine FJ.ql rfl (q_indexAddr (j := Int.toNat a) rfl u_29 sz_73 (.t (.s .z)) (.t .z) (by omega) (by omega)) ?_
 refine FJ.ql rfl (q_fieldAddr rfl (.t .z) (fun _ => fa_73_0 _ _)) (FJ.ql rfl (q_load rfl ag_2 (.t .z) (WS.el hFe12 hce12 rfl)) (FJ.nil (FJ.then_ (FJ.block ?_))))
 refine FJ.seq (FJ.region (FJ.ql rfl (q_eql rfl (.t .z) .c) (FJ.ql rfl (q_assign rfl (.t .z)) (FJ.nil ?_))))
 refine FJ.then_ ?_
 refine FJ.condP (.t .z) (fun b15 => ?_) (fun b15 => ?_)
 refine FJ.seq (FJ.region ?_)
 refine FJ.ql rfl (q_build (ps := [(0, .int .i64 9)]) (cs := [.int .i64 9, .slice none 0 0]) rfl bl_62 (by intro act hact; simp only [List.map_toArray, List.map_cons, List.map_nil, (show Val _ _ _ from .c) act hact]) rfl) ?_
 refine FJ.es (goes_list rfl) rfl (es_store (off := 0) (cs := [.int .i64 9, .slice none 0 0]) rfl sz_62 (.t (.s16 .z)) (.t .z) rfl (ones rfl) .z (Nat.le_of_ble_eq_true rfl) (.c .z (.c (.s .z) .n))) ?_
 refine FJ.nil (FJ.then_ (FJ.ret (FJ.inBR (FJ.thenR ?_))))
 refine FJ.add (c := ownA kSl_5 [] [.slice none 0 0]) (fun w S => own_nil w S none) ?_
 refine FJ.doneS (resC (cs := [.int .i64 9, .slice none 0 0]) rfl (.s16 .z) ag_62 sz_62 (WS.rows0 (cs := [.int .i64 9, .slice none 0 0]) (.s .z) (fun _ _ h => h))) (.c .z .n) ?_
 first | (rw [bytesR_f (by assumption)]; exact ⟨_, rfl, rfl⟩) | (rw [bytesR_0 (by assumption)]; exact ⟨_, rfl, rfl⟩) | (rw [bytesR_0 (bytesCode_0 (by assumption) (by assumption) (by omega) (by omega))]; exact ⟨_, rfl, rfl⟩) | (rw [bytesR_f (by rw [bytesCode_f (by assumption)]; first | assumption | decide), bytesCode_f (by assumption)]; exact ⟨_, rfl, rfl⟩) | (rw [bytesR_f (by rw [bytesCode_3 (by assumption) (by assumption)]; first | assumption | decide), bytesCode_3 (by assumption) (by assumption)]; exact ⟨_, rfl, rfl⟩) | (rw [bytesR_f (by rw [bytesCode_9 (by assumption) (by assumption) (by omega)]; first | assumption | decide), bytesCode_9 (by assumption) (by assumption) (by omega)]; exact ⟨_, rfl, rfl⟩) | (rw [bytesR_f (by rw [bytesCode_4 (by assumption) (by assumption) (by omega) (by omega)]; first | assumption | decide), bytesCode_4 (by assumption) (by assumption) (by omega) (by omega)]; exact ⟨_, rfl, rfl⟩)
 refine FJ.seq (FJ.region (FJ.ql rfl (q_eql rfl (.t (.s (.s .z))) .c) (FJ.ql rfl (q_assign rfl (.t .z)) (FJ.nil ?_))))
 refine FJ.then_ ?_
 refine FJ.condP (.t .z) (fun b17 => ?_) (fun b17 => ?_)
 refine FJ.seq (FJ.region ?_)
 refine FJ.ql rfl (q_build (ps := [(0, .int .i64 4)]) (cs := [.int .i64 4, .slice none 0 0]) rfl bl_62 (by intro act hact; simp only [List.map_toArray, List.map_cons, List.map_nil, (show Val _ _ _ from .c) act hact]) rfl) ?_
 refine FJ.es (goes_list rfl) rfl (es_store (off := 0) (cs := [.int .i64 4, .slice none 0 0]) rfl sz_62 (.t (.s16 (.s (.s .z)))) (.t .z) rfl (ones rfl) .z (Nat.le_of_ble_eq_true rfl) (.c .z (.c (.s .z) .n))) ?_
 refine FJ.nil (FJ.then_ (FJ.ret (FJ.inBR (FJ.thenR ?_))))
 refine FJ.add (c := ownA kSl_5 [] [.slice none 0 0]) (fun w S => own_nil w S none) ?_
 refine FJ.doneS (resC (cs := [.int .i64 4, .slice none 0 0]) rfl (.s16 (.s (.s .z))) ag_62 sz_62 (WS.rows0 (cs := [.int .i64 4, .slice none 0 0]) (.s .z) (fun _ _ h => h))) (.c .z .n) ?_
 first | (rw [bytesR_f (by assumption)]; exact ⟨_, rfl, rfl⟩) | (rw [bytesR_0 (by assumption)]; exact ⟨_, rfl, rfl⟩) | (rw [bytesR_0 (bytesCode_0 (by assumption) (by assumption) (by omega) (by omega))]; exact ⟨_, rfl, rfl⟩) | (rw [bytesR_f (by rw [bytesCode_f (by assumption)]; first | assumption | decide), bytesCode_f (by assumption)]; exact ⟨_, rfl, rfl⟩) | (rw [bytesR_f (by rw [bytesCode_3 (by assumption) (by assumption)]; first | assumption | decide), bytesCode_3 (by assumption) (by assumption)]; exact ⟨_, rfl, rfl⟩) | (rw [bytesR_f (by rw [bytesCode_9 (by assumption) (by assumption) (by omega)]; first | assumption | decide), bytesCode_9 (by assumption) (by assumption) (by omega)]; exact ⟨_, rfl, rfl⟩) | (rw [bytesR_f (by rw [bytesCode_4 (by assumption) (by assumption) (by omega) (by omega)]; first | assumption | decide), bytesCode_4 (by assumption) (by assumption) (by omega) (by omega)]; exact ⟨_, rfl, rfl⟩)
 refine FJ.skip (FJ.inBN (FJ.then_ (FJ.seq (FJ.region ?_))))
 refine FJ.ql rfl (q_move rfl (.t (.s16 (.s4 .z)))) ?_
 refine FJ.call (goes_list rfl) rfl (by decide) rfl (c_call rfl Tryz.func73 rfl rfl (args2 (.t (.s16 (.s (.s (.s .z))))) (.t .z))) .n (fun w1 S1 hs tr => c_73 (tr.ptr (.s .z) (kT_31_mk f (tr.ctx h0_0) (tr.ctx h0_1))) _ (by assumption) (by first | assumption | (constructor <;> omega))) ?_
 rintro _ _ rfl
 refine FJ.cat (.c .n) ?_
 refine FJ.know (WS.oform .z) ?_
 rintro ⟨Ao20, co20, rfl, hlo20, hmo20, hbo20⟩
 refine FJ.ql rfl (q_build (ps := [(1, .slice Ao20 (fileB f a).length co20)]) (cs := [.int .i64 0, .slice Ao20 (fileB f a).length co20]) rfl bl_62 (by intro act hact; simp only [List.map_toArray, List.map_cons, List.map_nil, (show Val _ _ _ from (.t .z)) act hact]) rfl) ?_
 refine FJ.es (goes_list rfl) rfl (es_store (off := 0) (cs := [.int .i64 0, .slice Ao20 (fileB f a).length co20]) rfl sz_62 (.t (.s16 (.s4 .z))) (.t .z) rfl (ones rfl) (.s .z) (Nat.le_of_ble_eq_true rfl) (.c .z (.c (.s .z) .n))) ?_
 refine FJ.nil (FJ.then_ (FJ.ret ?_))
 refine FJ.doneS (resC (cs := [.int .i64 0, .slice Ao20 (fileB f a).length co20]) rfl (.s16 (.s4 .z)) ag_62 sz_62 (WS.rows0 (cs := [.int .i64 0, .slice Ao20 (fileB f a).length co20]) .z (fun _ _ h => h))) (.c (.s .z) .n) ?_
 first | (rw [bytesR_f (by assumption)]; exact ⟨_, rfl, rfl⟩) | (rw [bytesR_0 (by assumption)]; exact ⟨_, rfl, rfl⟩) | (rw [bytesR_0 (bytesCode_0 (by assumption) (by assumption) (by omega) (by omega))]; exact ⟨_, rfl, rfl⟩) | (rw [bytesR_f (by rw [bytesCode_f (by assumption)]; first | assumption | decide), bytesCode_f (by assumption)]; exact ⟨_, rfl, rfl⟩) | (rw [bytesR_f (by rw [bytesCode_3 (by assumption) (by assumption)]; first | assumption | decide), bytesCode_3 (by assumption) (by assumption)]; exact ⟨_, rfl, rfl⟩) | (rw [bytesR_f (by rw [bytesCode_9 (by assumption) (by assumption) (by omega)]; first | assumption | decide), bytesCode_9 (by assumption) (by assumption) (by omega)]; exact ⟨_, rfl, rfl⟩) | (rw [bytesR_f (by rw [bytesCode_4 (by assumption) (by assumption) (by omega) (by omega)]; first | assumption | decide), bytesCode_4 (by assumption) (by assumption) (by omega) (by omega)]; exact ⟨_, rfl, rfl⟩)

end Go.Proofs.YticaddophhggoaaGreat

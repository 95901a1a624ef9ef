/- What is proved: contracts of functions, one a function. No condition. -/
import Derived.Test.YticaddophhggoaaGreatW31
namespace Go.Proofs.YticaddophhggoaaGreat
open Go Go.RowKit
set_option linter.unusedVariables false
set_option linter.unusedSimpArgs false
set_option maxHeartbeats 1000000 in
set_option maxRecDepth 20000 in
theorem c_172 {w0 : World} {S0 : Bs} {x : (List Int)} {v0 : Value} (h0 : kSl_2.ro w0 (FF w0 S0) x [v0])  :
    Calls Tryz.prog 172 #[v0] w0 (TriPost w0 S0 (fun r l => l = [ownA kSl_2 x [r]])) := by
 obtain ⟨A0, c0, rfl, hl0, hm0, hb0, he0⟩ := ro_form h0
 refine FJ.enter (N := 6) Tryz.func172 rfl rfl (by simp) [(0, .slice A0 x.length c0)] (by simp) (l0 := []) trivial ?_
 refine FJ.seq (FJ.region (FJ.ql rfl (q_assign rfl .c) (FJ.nil (FJ.then_ ?_))))
 refine FJ.seq (FJ.region ?_)
 refine FJ.e (goes_list rfl) rfl (by decide) rfl (e_buildNil rfl u_27 (inz inf_2)) ?_
 rintro _ _ ⟨g2, rfl, rfl⟩
 refine FJ.ql rfl (q_move rfl (.t (.s (.s .z)))) ?_
 refine FJ.add (c := ownA kSl_2 ([] : (List Int)) [.slice (some ⟨g2, 0, none⟩) 0 0]) (fun w S => own_nil w S _) ?_
 refine FJ.e (goes_list rfl) rfl (by decide) rfl (e_appendF (flat_scalar _ _ _) rfl u_27 inf_2 rfl (.t (.s .z)) (.t .z) (.c .z .n) (fun w1 S1 tr => tr.ctx h0) (by first | omega | (simp only [List.length_append, List.length_take, List.length_nil, List.length_cons]; omega)) (by first | omega | (simp only [List.length_append, List.length_take, List.length_nil, List.length_cons]; omega))) ?_
 rintro _ _ rfl
 refine FJ.ceq .z (List.nil_append _) ?_
 refine FJ.know (WS.oform .z) ?_
 rintro ⟨Ao4, co4, rfl, hlo4, hmo4, hbo4⟩
 refine FJ.er (.s (.s (.s .z))) (FJ.ql rfl (q_assign rfl (.t .z)) (FJ.nil (FJ.then_ (FJ.ret ?_))))
 refine FJ.doneS (res1 rfl .z) (.c .z .n) ?_
 rfl

set_option maxHeartbeats 1000000 in
set_option maxRecDepth 20000 in
theorem c_132 {w0 : World} {S0 : Bs} {x : DInode} {cs0 : List Value} (h0 : kT_73.ro w0 (FF w0 S0) x cs0)  :
    Calls Tryz.prog 132 #[.agg cs0.toArray] w0 (TriPost w0 S0 (RA_73 x)) := by
 obtain ⟨u0_3, u0_4, rfl, h0_3, h0_4⟩ := kT_73_ro h0
 obtain ⟨A0_3, c0_3, rfl, hl0_3, hm0_3, hb0_3, he0_3⟩ := ro_form h0_3
 obtain ⟨A0_4, c0_4, rfl, hl0_4, hm0_4, hb0_4, he0_4⟩ := ro_form h0_4
 refine FJ.enter (N := 13) Tryz.func132 rfl rfl (by simp) [(0, .agg #[.int .i64 x.kind, .int .i64 x.links, .int .i64 x.size, .slice A0_3 x.blocks.length c0_3, .slice A0_4 x.ents.length c0_4])] (by simp) (l0 := []) trivial ?_
 refine FJ.seq (FJ.region ?_)
 refine FJ.e (goes_list rfl) rfl (by decide) rfl (e_box (cs := [.int .i64 x.kind, .int .i64 x.links, .int .i64 x.size, .slice A0_3 x.blocks.length c0_3, .slice A0_4 x.ents.length c0_4]) (n := 5) rfl (.t .z) rfl rfl) ?_
 rintro _ _ ⟨g3, rfl, rfl⟩
 refine FJ.e (goes_list rfl) rfl (by decide) rfl (e_alloc rfl z_73 rfl rfl) ?_
 rintro _ _ ⟨g4, rfl, rfl⟩
 refine FJ.nil (FJ.then_ (FJ.seq (FJ.region (FJ.ql rfl (q_fieldAddr rfl (.t (.s .z)) (fun _ => fa_73_3 _ _)) ?_))))
 refine FJ.ql rfl (q_load rfl ag_27 (.t .z) (WS.row (.s .z) rfl)) ?_
 refine FJ.call (goes_list rfl) rfl (by decide) rfl (c_call rfl Tryz.func172 rfl rfl (args1 (.t .z))) .n (fun w1 S1 hs tr => c_172 (tr.ctx h0_3)) ?_
 rintro _ _ rfl
 refine FJ.cat (.c .n) ?_
 refine FJ.know (WS.oform .z) ?_
 rintro ⟨Ao6, co6, rfl, hlo6, hmo6, hbo6⟩
 refine FJ.ql rfl (q_fieldAddr rfl (.t (.s4 .z)) (fun _ => fa_73_3 _ _)) ?_
 refine FJ.es (goes_list rfl) rfl (es_store (off := 3) (cs := [.slice Ao6 x.blocks.length co6]) rfl sz_27 (.t .z) (.t (.s .z)) rfl (ones rfl) (.s (.s .z)) (Nat.le_of_ble_eq_true rfl) (.c (.s (.s (.s .z))) .n)) ?_
 refine FJ.nil (FJ.then_ (FJ.seq (FJ.region ?_)))
 refine FJ.e (goes_list rfl) rfl (by decide) rfl (e_buildNil rfl u_71 (inz inf_151)) ?_
 rintro _ _ ⟨g7, rfl, rfl⟩
 refine FJ.ql rfl (q_fieldAddr rfl (.t (.s4 (.s (.s .z)))) (fun _ => fa_73_4 _ _)) (FJ.ql rfl (q_load rfl ag_71 (.t .z) (WS.row (.s .z) rfl)) ?_)
 refine FJ.add (c := ownA kSl_151 ([] : (List DEnt)) [.slice (some ⟨g7, 0, none⟩) 0 0]) (fun w S => own_nil w S _) ?_
 refine FJ.e (goes_list rfl) rfl (by decide) rfl (e_appendF (flat_iso _ (flat_pair (flat_scalar _ _ _) (flat_scalar _ _ _))) rfl u_71 inf_151 rfl (.t (.s (.s .z))) (.t .z) (.c .z .n) (fun w1 S1 tr => tr.ctx h0_4) (by first | omega | (simp only [List.length_append, List.length_take, List.length_nil, List.length_cons]; omega)) (by first | omega | (simp only [List.length_append, List.length_take, List.length_nil, List.length_cons]; omega))) ?_
 rintro _ _ rfl
 refine FJ.ceq .z (List.nil_append _) ?_
 refine FJ.know (WS.oform .z) ?_
 rintro ⟨Ao9, co9, rfl, hlo9, hmo9, hbo9⟩
 refine FJ.ql rfl (q_fieldAddr rfl (.t (.s4 (.s4 (.s .z)))) (fun _ => fa_73_4 _ _)) ?_
 refine FJ.es (goes_list rfl) rfl (es_store (off := 4) (cs := [.slice Ao9 x.ents.length co9]) rfl sz_71 (.t .z) (.t (.s .z)) rfl (ones rfl) (.s (.s .z)) (Nat.le_of_ble_eq_true rfl) (.c (.s (.s (.s (.s .z)))) .n)) ?_
 refine FJ.nil (FJ.then_ (FJ.seq (FJ.region ?_)))
 refine FJ.ql rfl (q_loadA (cs := [.int .i64 x.kind, .int .i64 x.links, .int .i64 x.size, .slice Ao6 x.blocks.length co6, .slice Ao9 x.ents.length co9]) rfl ag_73 sz_73 (.t (.s4 (.s4 (.s (.s .z))))) (WS.rows0 .z (fun i u h => by exact h))) ?_
 refine FJ.es (goes_list rfl) rfl (es_store (off := 0) (cs := [.int .i64 x.kind, .int .i64 x.links, .int .i64 x.size, .slice Ao6 x.blocks.length co6, .slice Ao9 x.ents.length co9]) rfl sz_73 (.t (.s4 (.s4 (.s (.s .z))))) (.t .z) rfl (ones rfl) (.s4 .z) (Nat.le_of_ble_eq_true rfl) (.c .z (.c (.s .z) (.c (.s (.s .z)) (.c (.s (.s (.s .z))) (.c (.s (.s (.s (.s .z)))) .n)))))) ?_
 refine FJ.nil (FJ.then_ (FJ.ret ?_))
 refine FJ.doneS (resC (cs := [.int .i64 x.kind, .int .i64 x.links, .int .i64 x.size, .slice Ao6 x.blocks.length co6, .slice Ao9 x.ents.length co9]) rfl (.s4 (.s4 (.s (.s .z)))) ag_73 sz_73 (WS.rows0 (cs := [.int .i64 x.kind, .int .i64 x.links, .int .i64 x.size, .slice Ao6 x.blocks.length co6, .slice Ao9 x.ents.length co9]) .z (fun _ _ h => h))) (.c (.s4 .z) (.c (.s (.s .z)) .n)) ?_
 exact ⟨_, _, rfl, rfl⟩

set_option maxHeartbeats 1000000 in
set_option maxRecDepth 20000 in
theorem c_72 {w0 : World} {S0 : Bs} {f : DFs} {cs0 : List Value} (h0 : kT_31.ro w0 (FF w0 S0) f cs0)  :
    Calls Tryz.prog 72 #[.agg cs0.toArray] w0 (TriPost w0 S0 (RA_31 f)) := by
 obtain ⟨u0_0, u0_1, rfl, h0_0, h0_1⟩ := kT_31_ro h0
 obtain ⟨A0_0, c0_0, rfl, hl0_0, hm0_0, hb0_0, he0_0⟩ := ro_form h0_0
 obtain ⟨A0_1, c0_1, rfl, hl0_1, hm0_1, hb0_1, he0_1⟩ := ro_form h0_1
 refine FJ.enter (N := 45) Tryz.func72 rfl rfl (by simp) [(0, .agg #[.slice A0_0 f.inodes.length c0_0, .slice A0_1 f.data.length c0_1])] (by simp) (l0 := []) trivial ?_
 refine FJ.seq (FJ.region ?_)
 refine FJ.e (goes_list rfl) rfl (by decide) rfl (e_box (cs := [.slice A0_0 f.inodes.length c0_0, .slice A0_1 f.data.length c0_1]) (n := 2) rfl (.t .z) rfl rfl) ?_
 rintro _ _ ⟨g3, rfl, rfl⟩
 refine FJ.e (goes_list rfl) rfl (by decide) rfl (e_alloc rfl z_31 rfl rfl) ?_
 rintro _ _ ⟨g4, rfl, rfl⟩
 refine FJ.nil (FJ.then_ (FJ.seq (FJ.region ?_)))
 refine FJ.ql rfl (q_build (ps := []) (cs := [.slice none 0 0, .slice none 0 0]) rfl bl_31 (by intro act hact; simp only [List.map_toArray, List.map_cons, List.map_nil]) rfl) ?_
 refine FJ.e (goes_list rfl) rfl (by decide) rfl (e_alloc rfl z_31 rfl rfl) ?_
 rintro _ _ ⟨g5, rfl, rfl⟩
 refine FJ.es (goes_list rfl) rfl (es_store (off := 0) (cs := [.slice none 0 0, .slice none 0 0]) rfl sz_31 (.t .z) (.t (.s .z)) rfl (ones rfl) .z (Nat.le_of_ble_eq_true rfl) (.c .z (.c (.s .z) .n))) ?_
 refine FJ.nil (FJ.then_ (FJ.seq (FJ.seq (FJ.region ?_))))
 refine FJ.ql rfl (q_assign rfl .c) (FJ.nil (FJ.then_ (FJ.block ?_)))
 refine FJ.add (c := ownA kSl_73 [] [.slice none 0 0]) (fun w S => own_nil w S none) ?_
 refine FJ.loopi (γ := Nat × (Option Addr) × Nat) (fun ⟨k, Agk0, cgk0⟩ => [(4, .int .i64 (k : Int)), (3, .pointer (some ⟨g5, 0, none⟩)), (2, .pointer (some ⟨g4, 0, none⟩)), (1, .pointer (some ⟨g3, 0, none⟩))]) (fun ⟨k, Agk0, cgk0⟩ => [ownA kSl_73 (List.take k f.inodes) [.slice Agk0 (List.take k f.inodes).length cgk0], rowA g5 31 2 1 [.slice Agk0 (List.take k f.inodes).length cgk0, .slice none 0 0], rowA g4 31 2 1 [.slice none 0 0, .slice none 0 0], rowA g3 31 2 1 [.slice A0_0 f.inodes.length c0_0, .slice A0_1 f.data.length c0_1]]) (fun ⟨k, Agk0, cgk0⟩ => k ≤ f.inodes.length) (fun ⟨k, Agk0, cgk0⟩ => f.inodes.length - k) (0, none, 0) (Nat.zero_le _) (.c .z (.c (.s .z) (.c (.s (.s (.s .z))) (.c (.s4 .z) .n)))) (fun _ h => h.sel (.c .z (.c .z (.c .z (.c .z .n))))) ?_
 rintro ⟨k, Agk0, cgk0⟩ hk
 refine FJ.seq (FJ.seq (FJ.region (FJ.ql rfl (q_move rfl (.t .z)) (FJ.ql rfl (q_fieldAddr rfl (.t (.s4 .z)) (fun _ => fa_31_0 _ _)) ?_))))
 refine FJ.ql rfl (q_load rfl ag_29 (.t .z) (WS.row (.s (.s (.s .z))) rfl)) (FJ.ql rfl (q_len rfl u_29 (.t .z)) (FJ.ql rfl (q_lss rfl (.t (.s (.s (.s .z)))) (.t .z)) (FJ.nil (FJ.then_ ?_))))
 refine FJ.condP (.t .z) (fun b7 => ?_) (fun b7 => ?_)
 refine FJ.skip (FJ.then_ (FJ.seq (FJ.block ?_)))
 refine FJ.draw [rowA g5 31 2 1 [.slice Agk0 (List.take k f.inodes).length cgk0, .slice none 0 0], rowA g4 31 2 1 [.slice none 0 0, .slice none 0 0], rowA g3 31 2 1 [.slice A0_0 f.inodes.length c0_0, .slice A0_1 f.data.length c0_1]] 11 (by kernel_rfl) ?_
 refine FJ.sch [(0, true), (1, true), (2, true), (3, true), (4, true), (5, true), (6, true), (7, false), (8, false), (9, false), (10, true), (11, false)] 0 #[true, true, true, true, true, true, true, true, true, true, true, true] (by rfl) (by kernel_rfl) ?_
 refine FJ.dq rfl rfl rfl (by decide) rfl (.s .z) (q_fieldAddr rfl (.t (.s4 (.s (.s .z)))) (fun _ => fa_31_0 _ _)) (FJ.dq rfl rfl rfl (by decide) rfl (.s .z) (q_load rfl ag_29 (.t .z) (WS.row .z rfl)) (FJ.dq rfl rfl rfl (by decide) rfl (.s .z) (q_fieldAddr rfl (.t (.s4 (.s4 (.s (.s .z))))) (fun _ => fa_31_0 _ _)) (FJ.dq rfl rfl rfl (by decide) rfl (.s .z) (q_load rfl ag_29 (.t .z) (WS.row (.s (.s .z)) rfl)) (FJ.dq rfl rfl rfl (by decide) rfl (.s .z) (q_move rfl (.t (.s4 (.s4 (.s .z))))) ?_))))
 obtain ⟨ad8, hAad8, hrad8⟩ := he0_0 (by omega)
 subst hAad8
 obtain ⟨x9, hx9⟩ := get_ex (xs := f.inodes) (j := k) (by omega)
 obtain ⟨ece10, hre10, hFe10, hce10⟩ := hrad8.elem hx9
 obtain ⟨ue10_3, ue10_4, rfl, he10_3, he10_4⟩ := kT_73_ro hre10
 obtain ⟨Ae10_3, ce10_3, rfl, hle10_3, hme10_3, hbe10_3, hee10_3⟩ := ro_form he10_3
 obtain ⟨Ae10_4, ce10_4, rfl, hle10_4, hme10_4, hbe10_4, hee10_4⟩ := ro_form he10_4
 refine FJ.dq rfl rfl rfl (by decide) rfl (.s .z) (q_indexAddr (j := k) rfl u_29 sz_73 (.t (.s .z)) (.t .z) rfl (by omega)) ?_
 refine FJ.dq rfl rfl rfl (by decide) rfl (.s .z) (q_loadA (cs := [.int .i64 x9.kind, .int .i64 x9.links, .int .i64 x9.size, .slice Ae10_3 x9.blocks.length ce10_3, .slice Ae10_4 x9.ents.length ce10_4]) rfl ag_73 sz_73 (.t .z) (WS.els hFe10 hce10)) ?_
 refine FJ.call (goes_sch rfl rfl) rfl (by decide) rfl (c_call rfl Tryz.func132 rfl rfl (args1 (.t .z))) .n (fun w1 S1 hs tr => c_132 (tr.ctx hre10)) ?_
 rintro _ _ ⟨v13, v15, rfl, rfl⟩
 refine FJ.cat (.c (.c .n)) ?_
 refine FJ.know (WS.oform .z) ?_
 rintro ⟨Ao17, co17, rfl, hlo17, hmo17, hbo17⟩
 refine FJ.know (WS.oform (.s .z)) ?_
 rintro ⟨Ao18, co18, rfl, hlo18, hmo18, hbo18⟩
 refine FJ.sk (.s (.s (.s .z))) ?_
 refine FJ.e (goes_sch rfl rfl) rfl (by decide) rfl (e_buildSliceL (ps := [(0, .agg #[.int .i64 x9.kind, .int .i64 x9.links, .int .i64 x9.size, .slice Ao17 x9.blocks.length co17, .slice Ao18 x9.ents.length co18])]) (cs := [.int .i64 x9.kind, .int .i64 x9.links, .int .i64 x9.size, .slice Ao17 x9.blocks.length co17, .slice Ao18 x9.ents.length co18]) rfl u_29 (inz inf_73) (by decide) (by intro act hact; simp only [List.map_toArray, List.map_cons, List.map_nil, (show Val _ _ _ from (.t .z)) act hact]) rfl rfl (by decide) rfl rfl) ?_
 rintro _ _ ⟨g19, rfl, rfl⟩
 refine FJ.sk (.s4 .z) ?_
 refine FJ.turns (c := ownA kT_73 (⟨x9.kind, x9.links, x9.size, x9.blocks, x9.ents⟩ : DInode) [.int .i64 x9.kind, .int .i64 x9.links, .int .i64 x9.size, .slice Ao17 x9.blocks.length co17, .slice Ao18 x9.ents.length co18]) (.c (.s .z) (.c (.s .z) .n)) (fun w S h => kT_73_omk (⟨x9.kind, x9.links, x9.size, x9.blocks, x9.ents⟩ : DInode) h) ?_
 refine FJ.e (goes_sch rfl rfl) rfl (by decide) rfl (e_append1 rfl u_29 inf_73 rfl (.t (.s4 (.s (.s (.s .z))))) (.t .z) (.c (.s (.s .z)) (.c (.s .z) (.c .z .n))) (by first | omega | (simp only [List.length_take, List.length_cons, List.length_nil]; omega)) (by first | omega | (simp only [List.length_take, List.length_cons, List.length_nil]; omega))) ?_
 rintro _ _ rfl
 refine FJ.ceq .z (take_get hx9).symm ?_
 refine FJ.know (WS.oform .z) ?_
 rintro ⟨Ao21, co21, rfl, hlo21, hmo21, hbo21⟩
 refine FJ.sk (.s .z) ?_
 refine FJ.dq rfl rfl rfl (by decide) rfl (.s .z) (q_fieldAddr rfl (.t (.s16 .z)) (fun _ => fa_31_0 _ _)) ?_
 refine FJ.es (goes_sch rfl rfl) rfl (es_store (off := 0) (cs := [.slice Ao21 (List.take (k + 1) f.inodes).length co21]) rfl sz_29 (.t .z) (.t (.s .z)) rfl (ones rfl) (.s .z) (Nat.le_of_ble_eq_true rfl) (.c .z .n)) ?_
 refine FJ.sl rfl ?_
 refine FJ.schN ?_
 refine FJ.drawN (by kernel_rfl) ?_
 refine FJ.inBN (FJ.then_ (FJ.region (FJ.ql rfl (q_move rfl (.t (.s16 .z))) ?_)))
 refine FJ.ql rfl (q_add (c := ((k + 1 : Nat) : Int)) rfl (.t .z) .c (wr (by omega) (by omega) (by omega))) ?_
 refine FJ.er (.s16 (.s (.s .z))) (FJ.ql rfl (q_assign rfl (.t .z)) (FJ.nil ?_))
 refine FJ.again ((k + 1), Ao21, co21) (by omega) (by first | omega | (dsimp only; omega)) (.c .z (.c (.s16 (.s (.s (.s .z)))) (.c (.s16 (.s4 .z)) (.c (.s16 (.s4 (.s .z))) .n)))) (fun _ h => h.sel (.c (.s .z) (.c .z (.c .z (.c .z .n)))))
 refine FJ.exit (FJ.thenE (FJ.thenE (FJ.inB (FJ.then_ ?_))))
 refine FJ.seq (FJ.seq (FJ.region (FJ.ql rfl (q_assign rfl .c) (FJ.nil ?_))))
 refine FJ.then_ (FJ.block ?_)
 have he22 : List.take k f.inodes = f.inodes := (List.take_of_length_le (by omega))
 refine FJ.chEq .z (congrArg (fun z_ => (ownA kSl_73 (z_) [.slice Agk0 (z_).length cgk0] : Asn)) he22) ?_
 refine FJ.chEq (.s .z) (congrArg (fun z_ => (rowA g5 31 2 1 [.slice Agk0 (z_).length cgk0, .slice none 0 0] : Asn)) he22) ?_
 refine FJ.add (c := ownA kSl_26 [] [.slice none 0 0]) (fun w S => own_nil w S none) ?_
 refine FJ.loopi (γ := Nat × (Option Addr) × Nat) (fun ⟨q, Agq0, cgq0⟩ => [(5, .int .i64 (q : Int)), (3, .pointer (some ⟨g5, 0, none⟩)), (2, .pointer (some ⟨g4, 0, none⟩)), (1, .pointer (some ⟨g3, 0, none⟩))]) (fun ⟨q, Agq0, cgq0⟩ => [ownA kSl_26 (List.take q f.data) [.slice Agq0 (List.take q f.data).length cgq0], rowA g5 31 2 1 [.slice Agk0 (f.inodes).length cgk0, .slice Agq0 (List.take q f.data).length cgq0], ownA kSl_73 f.inodes [.slice Agk0 (f.inodes).length cgk0], rowA g4 31 2 1 [.slice none 0 0, .slice none 0 0], rowA g3 31 2 1 [.slice A0_0 f.inodes.length c0_0, .slice A0_1 f.data.length c0_1]]) (fun ⟨q, Agq0, cgq0⟩ => q ≤ f.data.length) (fun ⟨q, Agq0, cgq0⟩ => f.data.length - q) (0, none, 0) (Nat.zero_le _) (.c .z (.c (.s4 (.s (.s (.s .z)))) (.c (.s4 (.s4 .z)) (.c (.s4 (.s4 (.s .z))) .n)))) (fun _ h => h.sel (.c .z (.c .z (.c .z (.c .z (.c .z .n)))))) ?_
 rintro ⟨q, Agq0, cgq0⟩ hq
 refine FJ.seq (FJ.seq (FJ.region (FJ.ql rfl (q_move rfl (.t .z)) (FJ.ql rfl (q_fieldAddr rfl (.t (.s4 .z)) (fun _ => fa_31_1 _ _)) ?_))))
 refine FJ.ql rfl (q_load rfl ag_23 (.t .z) (WS.row (.s4 .z) rfl)) (FJ.ql rfl (q_len rfl u_23 (.t .z)) (FJ.ql rfl (q_lss rfl (.t (.s (.s (.s .z)))) (.t .z)) (FJ.nil (FJ.then_ ?_))))
 refine FJ.condP (.t .z) (fun b24 => ?_) (fun b24 => ?_)
 refine FJ.skip (FJ.then_ (FJ.seq (FJ.block ?_)))
 refine FJ.sel (.c .z (.c (.s .z) (.c .z (.c .z (.c .z .n))))) ?_
 refine FJ.draw [rowA g5 31 2 1 [.slice Agk0 (f.inodes).length cgk0, .slice Agq0 (List.take q f.data).length cgq0], rowA g4 31 2 1 [.slice none 0 0, .slice none 0 0], rowA g3 31 2 1 [.slice A0_0 f.inodes.length c0_0, .slice A0_1 f.data.length c0_1]] 12 (by kernel_rfl) ?_
 refine FJ.sch [(0, true), (1, true), (3, true), (4, true), (5, true), (6, true), (7, true), (2, false), (8, false), (9, false), (10, false), (11, true), (12, false)] 0 #[true, true, true, true, true, true, true, true, true, true, true, true, true] (by rfl) (by kernel_rfl) ?_
 refine FJ.dq rfl rfl rfl (by decide) rfl (.s (.s .z)) (q_fieldAddr rfl (.t (.s4 (.s (.s .z)))) (fun _ => fa_31_1 _ _)) (FJ.dq rfl rfl rfl (by decide) rfl (.s (.s .z)) (q_load rfl ag_23 (.t .z) (WS.row .z rfl)) (FJ.dq rfl rfl rfl (by decide) rfl (.s (.s .z)) (q_fieldAddr rfl (.t (.s4 (.s4 (.s (.s .z))))) (fun _ => fa_31_1 _ _)) (FJ.dq rfl rfl rfl (by decide) rfl (.s (.s .z)) (q_load rfl ag_23 (.t .z) (WS.row (.s (.s .z)) rfl)) (FJ.dq rfl rfl rfl (by decide) rfl (.s (.s .z)) (q_move rfl (.t (.s4 (.s4 (.s .z))))) ?_))))
 obtain ⟨ad25, hAad25, hrad25⟩ := he0_1 (by omega)
 subst hAad25
 obtain ⟨x26, hx26⟩ := get_ex (xs := f.data) (j := q) (by omega)
 obtain ⟨ece27, hre27, hFe27, hce27⟩ := hrad25.elem hx26
 obtain ⟨ue27, rfl⟩ := sl_one hre27
 obtain ⟨Ae27, ce27, rfl, hle27, hme27, hbe27, hee27⟩ := ro_form hre27
 refine FJ.dq rfl rfl rfl (by decide) rfl (.s (.s .z)) (q_indexAddr (j := q) rfl u_23 sz_26 (.t (.s .z)) (.t .z) rfl (by omega)) ?_
 refine FJ.dq rfl rfl rfl (by decide) rfl (.s (.s .z)) (q_load rfl ag_26 (.t .z) (WS.el0 hFe27 hce27 rfl)) ?_
 refine FJ.e (goes_sch rfl rfl) rfl (by decide) rfl (e_buildNil rfl u_26 (inz inf_5)) ?_
 rintro _ _ ⟨g29, rfl, rfl⟩
 refine FJ.sk (.s (.s (.s .z))) ?_
 refine FJ.add (c := ownA kSl_5 ([] : (List UInt8)) [.slice (some ⟨g29, 0, none⟩) 0 0]) (fun w S => own_nil w S _) ?_
 refine FJ.e (goes_sch rfl rfl) rfl (by decide) rfl (e_appendF (flat_scalar _ _ _) rfl u_26 inf_5 rfl (.t .z) (.t (.s .z)) (.c .z .n) (fun w1 S1 tr => tr.ctx hre27) (by first | omega | (simp only [List.length_take, List.length_cons, List.length_nil]; omega)) (by first | omega | (simp only [List.length_take, List.length_cons, List.length_nil]; omega))) ?_
 rintro _ _ rfl
 refine FJ.ceq .z (List.nil_append _) ?_
 refine FJ.know (WS.oform .z) ?_
 rintro ⟨Ao31, co31, rfl, hlo31, hmo31, hbo31⟩
 refine FJ.sk (.s4 .z) ?_
 refine FJ.e (goes_sch rfl rfl) rfl (by decide) rfl (e_buildSliceL (ps := [(0, .slice Ao31 x26.length co31)]) (cs := [.slice Ao31 x26.length co31]) rfl u_23 (inz inf_26) (by decide) (by intro act hact; simp only [List.map_toArray, List.map_cons, List.map_nil, (show Val _ _ _ from (.t .z)) act hact]) rfl rfl (by decide) rfl rfl) ?_
 rintro _ _ ⟨g32, rfl, rfl⟩
 refine FJ.sk (.s4 (.s .z)) ?_
 refine FJ.e (goes_sch rfl rfl) rfl (by decide) rfl (e_append1 rfl u_23 inf_26 rfl (.t (.s4 (.s4 .z))) (.t .z) (.c (.s (.s (.s .z))) (.c .z (.c .z .n))) (by first | omega | (simp only [List.length_take, List.length_cons, List.length_nil]; omega)) (by first | omega | (simp only [List.length_take, List.length_cons, List.length_nil]; omega))) ?_
 rintro _ _ rfl
 refine FJ.ceq .z (take_get hx26).symm ?_
 refine FJ.know (WS.oform .z) ?_
 rintro ⟨Ao33, co33, rfl, hlo33, hmo33, hbo33⟩
 refine FJ.sk (.s (.s (.s .z))) ?_
 refine FJ.dq rfl rfl rfl (by decide) rfl (.s (.s (.s .z))) (q_fieldAddr rfl (.t (.s16 (.s .z))) (fun _ => fa_31_1 _ _)) ?_
 refine FJ.es (goes_sch rfl rfl) rfl (es_store (off := 1) (cs := [.slice Ao33 (List.take (q + 1) f.data).length co33]) rfl sz_23 (.t .z) (.t (.s .z)) rfl (ones rfl) (.s (.s (.s .z))) (Nat.le_of_ble_eq_true rfl) (.c (.s .z) .n)) ?_
 refine FJ.sl rfl ?_
 refine FJ.schN ?_
 refine FJ.drawN (by kernel_rfl) ?_
 refine FJ.inBN (FJ.then_ (FJ.region (FJ.ql rfl (q_move rfl (.t (.s16 (.s .z)))) ?_)))
 refine FJ.ql rfl (q_add (c := ((q + 1 : Nat) : Int)) rfl (.t .z) .c (wr (by omega) (by omega) (by omega))) ?_
 refine FJ.er (.s16 (.s (.s (.s .z)))) (FJ.ql rfl (q_assign rfl (.t .z)) (FJ.nil ?_))
 refine FJ.again ((q + 1), Ao33, co33) (by omega) (by first | omega | (dsimp only; omega)) (.c .z (.c (.s16 (.s4 .z)) (.c (.s16 (.s4 (.s .z))) (.c (.s16 (.s4 (.s (.s .z)))) .n)))) (fun _ h => h.sel (.c (.s .z) (.c .z (.c (.s .z) (.c (.s .z) (.c (.s .z) .n))))))
 refine FJ.exit (FJ.thenE (FJ.thenE (FJ.inB (FJ.then_ ?_))))
 refine FJ.seq (FJ.region ?_)
 refine FJ.ql rfl (q_loadA (cs := [.slice Agk0 (f.inodes).length cgk0, .slice Agq0 (List.take q f.data).length cgq0]) rfl ag_31 sz_31 (.t (.s4 (.s (.s .z)))) (WS.rows0 (.s .z) (fun i u h => by exact h))) ?_
 refine FJ.es (goes_list rfl) rfl (es_store (off := 0) (cs := [.slice Agk0 (f.inodes).length cgk0, .slice Agq0 (List.take q f.data).length cgq0]) rfl sz_31 (.t (.s4 (.s4 .z))) (.t .z) rfl (ones rfl) (.s (.s (.s .z))) (Nat.le_of_ble_eq_true rfl) (.c .z (.c (.s .z) .n))) ?_
 refine FJ.nil (FJ.then_ (FJ.ret ?_))
 have he34 : List.take q f.data = f.data := (List.take_of_length_le (by omega))
 refine FJ.eq .z (congrArg (fun z_ => (.agg #[.slice Agk0 (f.inodes).length cgk0, .slice Agq0 (z_).length cgq0] : Value)) he34) ?_
 refine FJ.chEq .z (congrArg (fun z_ => (rowA g4 31 2 1 [.slice Agk0 (f.inodes).length cgk0, .slice Agq0 (z_).length cgq0] : Asn)) he34) ?_
 refine FJ.chEq (.s .z) (congrArg (fun z_ => (ownA kSl_26 (z_) [.slice Agq0 (z_).length cgq0] : Asn)) he34) ?_
 refine FJ.chEq (.s (.s .z)) (congrArg (fun z_ => (rowA g5 31 2 1 [.slice Agk0 (f.inodes).length cgk0, .slice Agq0 (z_).length cgq0] : Asn)) he34) ?_
 refine FJ.doneS (resC (cs := [.slice Agk0 (f.inodes).length cgk0, .slice Agq0 (f.data).length cgq0]) rfl (.s4 (.s4 .z)) ag_31 sz_31 (WS.rows0 (cs := [.slice Agk0 (f.inodes).length cgk0, .slice Agq0 (f.data).length cgq0]) (.s (.s .z)) (fun _ _ h => h))) (.c (.s (.s (.s .z))) (.c (.s .z) .n)) ?_
 exact ⟨_, _, rfl, rfl⟩

set_option maxHeartbeats 1000000 in
set_option maxRecDepth 20000 in
theorem c_63 {w0 : World} {S0 : Bs} {f : DFs} {cs0 : List Value} (h0 : kT_31.ro w0 (FF w0 S0) f cs0)  :
    Calls Tryz.prog 63 #[.agg cs0.toArray] w0 (TriPost w0 S0 (RA_31 f)) := by
 obtain ⟨u0_0, u0_1, rfl, h0_0, h0_1⟩ := kT_31_ro h0
 obtain ⟨A0_0, c0_0, rfl, hl0_0, hm0_0, hb0_0, he0_0⟩ := ro_form h0_0
 obtain ⟨A0_1, c0_1, rfl, hl0_1, hm0_1, hb0_1, he0_1⟩ := ro_form h0_1
 refine FJ.enter (N := 33) Tryz.func63 rfl rfl (by simp) [(0, .agg #[.slice A0_0 f.inodes.length c0_0, .slice A0_1 f.data.length c0_1])] (by simp) (l0 := []) trivial ?_
 refine FJ.seq (FJ.region ?_)
 refine FJ.e (goes_list rfl) rfl (by decide) rfl (e_box (cs := [.slice A0_0 f.inodes.length c0_0, .slice A0_1 f.data.length c0_1]) (n := 2) rfl (.t .z) rfl rfl) ?_
 rintro _ _ ⟨g3, rfl, rfl⟩
 refine FJ.e (goes_list rfl) rfl (by decide) rfl (e_alloc rfl z_31 rfl rfl) ?_
 rintro _ _ ⟨g4, rfl, rfl⟩
 refine FJ.nil (FJ.then_ (FJ.seq (FJ.region (FJ.ql rfl (q_fieldAddr rfl (.t (.s .z)) (fun _ => fa_31_1 _ _)) ?_))))
 refine FJ.ql rfl (q_load rfl ag_23 (.t .z) (WS.row (.s .z) rfl)) ?_
 refine FJ.call (goes_list rfl) rfl (by decide) rfl (c_call rfl Tryz.func120 rfl rfl (args1 (.t .z))) .n (fun w1 S1 hs tr => c_120 (tr.ctx h0_1)) ?_
 rintro _ _ rfl
 refine FJ.cat (.c .n) ?_
 refine FJ.know (WS.oform .z) ?_
 rintro ⟨Ao6, co6, rfl, hlo6, hmo6, hbo6⟩
 refine FJ.ql rfl (q_build (ps := [(1, .slice Ao6 f.data.length co6)]) (cs := [.slice none 0 0, .slice Ao6 f.data.length co6]) rfl bl_31 (by intro act hact; simp only [List.map_toArray, List.map_cons, List.map_nil, (show Val _ _ _ from (.t .z)) act hact]) rfl) ?_
 refine FJ.e (goes_list rfl) rfl (by decide) rfl (e_alloc rfl z_31 rfl rfl) ?_
 rintro _ _ ⟨g7, rfl, rfl⟩
 refine FJ.es (goes_list rfl) rfl (es_store (off := 0) (cs := [.slice none 0 0, .slice Ao6 f.data.length co6]) rfl sz_31 (.t .z) (.t (.s .z)) rfl (ones rfl) .z (Nat.le_of_ble_eq_true rfl) (.c .z (.c (.s .z) .n))) ?_
 refine FJ.nil (FJ.then_ (FJ.seq (FJ.seq (FJ.region ?_))))
 refine FJ.ql rfl (q_fieldAddr rfl (.t (.s4 (.s (.s .z)))) (fun _ => fa_31_0 _ _)) (FJ.ql rfl (q_load rfl ag_29 (.t .z) (WS.row (.s (.s (.s .z))) rfl)) (FJ.ql rfl (q_len rfl u_29 (.t .z)) (FJ.ql rfl (q_move rfl .c) (FJ.nil ?_))))
 refine FJ.then_ (FJ.block ?_)
 refine FJ.add (c := ownA kSl_73 [] [.slice none 0 0]) (fun w S => own_nil w S none) ?_
 refine FJ.loopi (γ := Nat × (Option Addr) × Nat) (fun ⟨k, Agk0, cgk0⟩ => [(13, .int .i64 (k : Int)), (12, .int .i64 (f.inodes.length : Int)), (11, .slice A0_0 f.inodes.length c0_0), (3, .pointer (some ⟨g7, 0, none⟩)), (2, .pointer (some ⟨g4, 0, none⟩))]) (fun ⟨k, Agk0, cgk0⟩ => [ownA kSl_73 (List.take k f.inodes) [.slice Agk0 (List.take k f.inodes).length cgk0], rowA g7 31 2 1 [.slice Agk0 (List.take k f.inodes).length cgk0, .slice Ao6 f.data.length co6], ownA kSl_26 f.data [.slice Ao6 f.data.length co6], rowA g4 31 2 1 [.slice none 0 0, .slice none 0 0], rowA g3 31 2 1 [.slice A0_0 f.inodes.length c0_0, .slice A0_1 f.data.length c0_1]]) (fun ⟨k, Agk0, cgk0⟩ => k ≤ f.inodes.length) (fun ⟨k, Agk0, cgk0⟩ => f.inodes.length - k) (0, none, 0) (Nat.zero_le _) (.c .z (.c (.s .z) (.c (.s (.s .z)) (.c (.s4 .z) (.c (.s4 (.s4 (.s .z))) .n))))) (fun _ h => h.sel (.c .z (.c .z (.c .z (.c .z (.c .z .n)))))) ?_
 rintro ⟨k, Agk0, cgk0⟩ hk
 refine FJ.seq (FJ.region (FJ.ql rfl (q_lss rfl (.t .z) (.t (.s .z))) (FJ.nil (FJ.then_ ?_))))
 refine FJ.seq ?_
 refine FJ.condP (.t .z) (fun b9 => ?_) (fun b9 => ?_)
 refine FJ.skip (FJ.then_ (FJ.seq (FJ.block (FJ.seq ?_))))
 refine FJ.region ?_
 obtain ⟨ad10, hAad10, hrad10⟩ := he0_0 (by omega)
 subst hAad10
 obtain ⟨x11, hx11⟩ := get_ex (xs := f.inodes) (j := k) (by omega)
 obtain ⟨ece12, hre12, hFe12, hce12⟩ := hrad10.elem hx11
 obtain ⟨ue12_3, ue12_4, rfl, he12_3, he12_4⟩ := kT_73_ro hre12
 obtain ⟨Ae12_3, ce12_3, rfl, hle12_3, hme12_3, hbe12_3, hee12_3⟩ := ro_form he12_3
 obtain ⟨Ae12_4, ce12_4, rfl, hle12_4, hme12_4, hbe12_4, hee12_4⟩ := ro_form he12_4
 refine FJ.ql rfl (q_indexAddr (j := k) rfl u_29 sz_73 (.t (.s (.s (.s .z)))) (.t (.s .z)) rfl (by omega)) ?_
 refine FJ.ql rfl (q_loadA (cs := [.int .i64 x11.kind, .int .i64 x11.links, .int .i64 x11.size, .slice Ae12_3 x11.blocks.length ce12_3, .slice Ae12_4 x11.ents.length ce12_4]) rfl ag_73 sz_73 (.t .z) (WS.els hFe12 hce12)) ?_
 refine FJ.e (goes_list rfl) rfl (by decide) rfl (e_alloc rfl z_73 rfl rfl) ?_
 rintro _ _ ⟨g15, rfl, rfl⟩
 refine FJ.es (goes_list rfl) rfl (es_store (off := 0) (cs := [.int .i64 x11.kind, .int .i64 x11.links, .int .i64 x11.size, .slice Ae12_3 x11.blocks.length ce12_3, .slice Ae12_4 x11.ents.length ce12_4]) rfl sz_73 (.t .z) (.t (.s .z)) rfl (ones rfl) .z (Nat.le_of_ble_eq_true rfl) (.c .z (.c (.s .z) (.c (.s (.s .z)) (.c (.s (.s (.s .z))) (.c (.s (.s (.s (.s .z)))) .n)))))) ?_
 refine FJ.nil (FJ.then_ (FJ.seq ?_))
 refine FJ.sel (.c (.s .z) (.c (.s (.s .z)) (.c .z (.c .z (.c .z (.c .z .n)))))) ?_
 refine FJ.draw [rowA g15 73 5 1 [.int .i64 x11.kind, .int .i64 x11.links, .int .i64 x11.size, .slice Ae12_3 x11.blocks.length ce12_3, .slice Ae12_4 x11.ents.length ce12_4], rowA g7 31 2 1 [.slice Agk0 (List.take k f.inodes).length cgk0, .slice Ao6 f.data.length co6], rowA g4 31 2 1 [.slice none 0 0, .slice none 0 0], rowA g3 31 2 1 [.slice (some ad10) f.inodes.length c0_0, .slice A0_1 f.data.length c0_1]] 7 (by kernel_rfl) ?_
 refine FJ.sch [(0, true), (1, true), (3, true), (4, true), (2, false), (6, true), (5, false), (7, false), (8, false), (9, false)] 0 #[true, true, true, true, true, true, true, true, true, true] (by rfl) (by kernel_rfl) ?_
 refine FJ.dq rfl rfl rfl (by decide) rfl (.s (.s .z)) (q_fieldAddr rfl (.t .z) (fun _ => fa_73_3 _ _)) (FJ.dq rfl rfl rfl (by decide) rfl (.s (.s .z)) (q_load rfl ag_27 (.t .z) (WS.row .z rfl)) (FJ.dq rfl rfl rfl (by decide) rfl (.s (.s .z)) (q_fieldAddr rfl (.t (.s (.s .z))) (fun _ => fa_73_4 _ _)) (FJ.dq rfl rfl rfl (by decide) rfl (.s (.s .z)) (q_load rfl ag_71 (.t .z) (WS.row .z rfl)) ?_)))
 refine FJ.call (goes_sch rfl rfl) rfl (by decide) rfl (c_call rfl Tryz.func121 rfl rfl (args1 (.t (.s (.s .z))))) .n (fun w1 S1 hs tr => c_121 (tr.ctx he12_3)) ?_
 rintro _ _ rfl
 refine FJ.cat (.c .n) ?_
 refine FJ.know (WS.oform .z) ?_
 rintro ⟨Ao17, co17, rfl, hlo17, hmo17, hbo17⟩
 refine FJ.sk (.s (.s (.s .z))) ?_
 refine FJ.dq rfl rfl rfl (by decide) rfl (.s (.s (.s .z))) (q_fieldAddr rfl (.t (.s4 (.s .z))) (fun _ => fa_73_3 _ _)) ?_
 refine FJ.call (goes_sch rfl rfl) rfl (by decide) rfl (c_call rfl Tryz.func122 rfl rfl (args1 (.t (.s (.s .z))))) .n (fun w1 S1 hs tr => c_122 (tr.ctx he12_4)) ?_
 rintro _ _ rfl
 refine FJ.cat (.c .n) ?_
 refine FJ.know (WS.oform .z) ?_
 rintro ⟨Ao19, co19, rfl, hlo19, hmo19, hbo19⟩
 refine FJ.sk (.s4 .z) ?_
 refine FJ.es (goes_sch rfl rfl) rfl (es_store (off := 3) (cs := [.slice Ao17 x11.blocks.length co17]) rfl sz_27 (.t (.s .z)) (.t (.s (.s .z))) rfl (ones rfl) (.s4 .z) (Nat.le_of_ble_eq_true rfl) (.c (.s (.s (.s .z))) .n)) ?_
 refine FJ.sl rfl ?_
 refine FJ.q (goes_sch rfl rfl) rfl (by decide) rfl (q_fieldAddr rfl (.t (.s4 (.s (.s (.s .z))))) (fun _ => fa_73_4 _ _)) ?_
 refine FJ.sl rfl ?_
 refine FJ.es (goes_sch rfl rfl) rfl (es_store (off := 4) (cs := [.slice Ao19 x11.ents.length co19]) rfl sz_71 (.t .z) (.t (.s .z)) rfl (ones rfl) .z (Nat.le_of_ble_eq_true rfl) (.c (.s (.s (.s (.s .z)))) .n)) ?_
 refine FJ.sl rfl ?_
 refine FJ.schN ?_
 refine FJ.drawN (by kernel_rfl) ?_
 refine FJ.then_ (FJ.region (FJ.ql rfl (q_fieldAddr rfl (.t (.s4 (.s4 (.s4 (.s (.s (.s .z))))))) (fun _ => fa_31_0 _ _)) (FJ.ql rfl (q_load rfl ag_29 (.t .z) (WS.row (.s4 (.s .z)) rfl)) ?_)))
 refine FJ.ql rfl (q_loadA (cs := [.int .i64 x11.kind, .int .i64 x11.links, .int .i64 x11.size, .slice Ao17 x11.blocks.length co17, .slice Ao19 x11.ents.length co19]) rfl ag_73 sz_73 (.t (.s4 (.s4 (.s (.s .z))))) (WS.rows0 .z (fun i u h => by exact h))) ?_
 refine FJ.e (goes_list rfl) rfl (by decide) rfl (e_buildSliceL (ps := [(0, .agg #[.int .i64 x11.kind, .int .i64 x11.links, .int .i64 x11.size, .slice Ao17 x11.blocks.length co17, .slice Ao19 x11.ents.length co19])]) (cs := [.int .i64 x11.kind, .int .i64 x11.links, .int .i64 x11.size, .slice Ao17 x11.blocks.length co17, .slice Ao19 x11.ents.length co19]) rfl u_29 (inz inf_73) (by decide) (by intro act hact; simp only [List.map_toArray, List.map_cons, List.map_nil, (show Val _ _ _ from (.t .z)) act hact]) rfl rfl (by decide) rfl rfl) ?_
 rintro _ _ ⟨g20, rfl, rfl⟩
 refine FJ.turns (c := ownA kT_73 (⟨x11.kind, x11.links, x11.size, x11.blocks, x11.ents⟩ : DInode) [.int .i64 x11.kind, .int .i64 x11.links, .int .i64 x11.size, .slice Ao17 x11.blocks.length co17, .slice Ao19 x11.ents.length co19]) (.c (.s (.s (.s .z))) (.c (.s (.s .z)) .n)) (fun w S h => kT_73_omk (⟨x11.kind, x11.links, x11.size, x11.blocks, x11.ents⟩ : DInode) h) ?_
 refine FJ.e (goes_list rfl) rfl (by decide) rfl (e_append1 rfl u_29 inf_73 rfl (.t (.s (.s .z))) (.t .z) (.c (.s (.s (.s .z))) (.c (.s .z) (.c .z .n))) (by first | omega | (simp only [List.length_take, List.length_cons, List.length_nil]; omega)) (by first | omega | (simp only [List.length_take, List.length_cons, List.length_nil]; omega))) ?_
 rintro _ _ rfl
 refine FJ.ceq .z (take_get hx11).symm ?_
 refine FJ.know (WS.oform .z) ?_
 rintro ⟨Ao22, co22, rfl, hlo22, hmo22, hbo22⟩
 refine FJ.ql rfl (q_fieldAddr rfl (.t (.s16 (.s4 .z))) (fun _ => fa_31_0 _ _)) ?_
 refine FJ.es (goes_list rfl) rfl (es_store (off := 0) (cs := [.slice Ao22 (List.take (k + 1) f.inodes).length co22]) rfl sz_29 (.t .z) (.t (.s .z)) rfl (ones rfl) (.s (.s (.s .z))) (Nat.le_of_ble_eq_true rfl) (.c .z .n)) ?_
 refine FJ.nil (FJ.inBN (FJ.then_ (FJ.region ?_)))
 refine FJ.ql rfl (q_add (c := ((k + 1 : Nat) : Int)) rfl (.t (.s16 (.s (.s .z)))) .c (wr (by omega) (by omega) (by omega))) ?_
 refine FJ.er (.s16 (.s (.s (.s .z)))) (FJ.ql rfl (q_move rfl (.t .z)) (FJ.nil ?_))
 refine FJ.again ((k + 1), Ao22, co22) (by omega) (by first | omega | (dsimp only; omega)) (.c .z (.c (.s16 (.s4 .z)) (.c (.s16 (.s4 (.s .z))) (.c (.s16 (.s4 (.s (.s .z)))) (.c (.s16 (.s4 (.s (.s (.s .z))))) .n))))) (fun _ h => h.sel (.c (.s .z) (.c .z (.c (.s .z) (.c (.s .z) (.c (.s .z) .n))))))
 refine FJ.exit (FJ.thenE (FJ.thenE (FJ.inB (FJ.then_ ?_))))
 refine FJ.seq (FJ.region ?_)
 refine FJ.ql rfl (q_loadA (cs := [.slice Agk0 (List.take k f.inodes).length cgk0, .slice Ao6 f.data.length co6]) rfl ag_31 sz_31 (.t (.s4 .z)) (WS.rows0 (.s .z) (fun i u h => by exact h))) ?_
 refine FJ.es (goes_list rfl) rfl (es_store (off := 0) (cs := [.slice Agk0 (List.take k f.inodes).length cgk0, .slice Ao6 f.data.length co6]) rfl sz_31 (.t (.s4 (.s (.s .z)))) (.t .z) rfl (ones rfl) (.s (.s (.s .z))) (Nat.le_of_ble_eq_true rfl) (.c .z (.c (.s .z) .n))) ?_
 refine FJ.nil (FJ.then_ (FJ.ret ?_))
 have he23 : List.take k f.inodes = f.inodes := (List.take_of_length_le (by omega))
 refine FJ.eq .z (congrArg (fun z_ => (.agg #[.slice Agk0 (z_).length cgk0, .slice Ao6 f.data.length co6] : Value)) he23) ?_
 refine FJ.chEq .z (congrArg (fun z_ => (rowA g4 31 2 1 [.slice Agk0 (z_).length cgk0, .slice Ao6 f.data.length co6] : Asn)) he23) ?_
 refine FJ.chEq (.s .z) (congrArg (fun z_ => (ownA kSl_73 (z_) [.slice Agk0 (z_).length cgk0] : Asn)) he23) ?_
 refine FJ.chEq (.s (.s .z)) (congrArg (fun z_ => (rowA g7 31 2 1 [.slice Agk0 (z_).length cgk0, .slice Ao6 f.data.length co6] : Asn)) he23) ?_
 refine FJ.doneS (resC (cs := [.slice Agk0 (f.inodes).length cgk0, .slice Ao6 f.data.length co6]) rfl (.s4 (.s (.s .z))) ag_31 sz_31 (WS.rows0 (cs := [.slice Agk0 (f.inodes).length cgk0, .slice Ao6 f.data.length co6]) (.s (.s .z)) (fun _ _ h => h))) (.c (.s .z) (.c (.s (.s .z)) .n)) ?_
 exact ⟨_, _, rfl, rfl⟩

set_option maxHeartbeats 1000000 in
set_option maxRecDepth 20000 in
theorem c_126 {w0 : World} {S0 : Bs} {f : DFs} {ad0 : Addr} {v0_0 : Value} {v0_1 : Value} (h0 : PtrRo (kraw 2 (by decide)) w0 (FF w0 S0) ad0 [v0_0, v0_1]) (a : Int) (hs : Star [ownA kSl_73 f.inodes [v0_0], ownA kSl_26 f.data [v0_1]] w0 S0) (hp : placeIn f.inodes.length a) (hd : f.data.length = 20) (hb : ∀ b, b ∈ blocksAt f.inodes a → 0 ≤ b ∧ b ≤ 19) :
    Calls Tryz.prog 126 #[.pointer (some ad0), .int .i64 a] w0 (TriPost w0 S0 (fun r l => r = .tuple #[] ∧ l = [ownA kSl_73 f.inodes [v0_0], ownA kSl_26 (dropAll f a) [v0_1]])) := by
 obtain ⟨ec0, hF0, ⟨rfl, -, -⟩, hc0⟩ := id h0
 obtain ⟨hp1, hp2⟩ := hp
 refine FJ.enter (N := 26) Tryz.func126 rfl rfl (by simp) [(0, .pointer (some ad0)), (1, .int .i64 a)] (by simp) hs ?_
 refine FJ.know (WS.oform .z) ?_
 rintro ⟨Ao1, co1, rfl, hlo1, hmo1, hbo1⟩
 refine FJ.know (WS.oform (.s .z)) ?_
 rintro ⟨Ao2, co2, rfl, hlo2, hmo2, hbo2⟩
 refine FJ.seq (FJ.region (FJ.ql rfl (q_move rfl (.t .z)) (FJ.ql rfl (q_nilCheck rfl (.t .z)) (FJ.ql rfl (q_fieldAddr rfl (.t .z) (fun _ => fa_31_0 _ _)) ?_))))
 refine FJ.ql rfl (q_load rfl ag_29 (.t .z) (WS.el hF0 hc0 rfl)) (FJ.ql rfl (q_move rfl (.t (.s4 (.s .z)))) ?_)
 refine FJ.open (.c .z .n) own_raw ?_
 rintro fc3 hlfc3
 obtain ⟨y4, hy4⟩ := get_ex (xs := f.inodes) (j := Int.toNat a) (by first | omega | (rw [hdl]; omega))
 obtain ⟨c5, hc5⟩ := get_ex (xs := fc3) (j := Int.toNat a) (by rw [hlfc3]; exact (List.getElem?_eq_some_iff.1 hy4).1)
 refine FJ.turn (.s .z) (seq_split hy4 hc5) ?_
 refine FJ.open (.c .z .n) kT_73_op ?_
 rintro ⟨v6, v7⟩ rfl
 refine FJ.know (WS.oform .z) ?_
 rintro ⟨Ao10, co10, rfl, hlo10, hmo10, hbo10⟩
 refine FJ.know (WS.oform (.s .z)) ?_
 rintro ⟨Ao11, co11, rfl, hlo11, hmo11, hbo11⟩
 have nby4 := blocks_at (a := a) hy4 (by omega)
 have hby4 : ∀ b, b ∈ y4.blocks → 0 ≤ b ∧ b ≤ 19 := by rw [← nby4]; exact hb
 refine FJ.know (WS.oad (.s4 .z) (by omega)) ?_
 rintro ⟨ad12, rfl⟩
 refine FJ.ql rfl (q_indexAddr (j := Int.toNat a) rfl u_29 sz_73 (.t (.s .z)) (.t .z) (by omega) (by first | omega | (rw [hdl]; omega))) ?_
 refine FJ.ql rfl (q_fieldAddr rfl (.t .z) (fun _ => fa_73_3 _ _)) (FJ.ql rfl (q_load rfl ag_27 (.t .z) (WS.raw (.s4 .z) hc5 rfl)) (FJ.ql rfl (q_len rfl u_27 (.t .z)) (FJ.ql rfl (q_move rfl .c) (FJ.nil ?_))))
 refine FJ.then_ (FJ.block ?_)
 refine FJ.ceq (x' := dropB f.data y4.blocks 0) (.s4 (.s .z)) rfl ?_
 refine FJ.loopi (γ := Nat) (fun k => [(15, .int .i64 (k : Int)), (14, .int .i64 (y4.blocks.length : Int)), (13, .slice Ao10 y4.blocks.length co10), (0, .pointer (some ad0))]) (fun k => [ownA kSl_26 (dropB f.data y4.blocks k) [.slice Ao2 f.data.length co2], ownA kSl_2 y4.blocks [.slice Ao10 y4.blocks.length co10], ownA kSl_151 y4.ents [.slice Ao11 y4.ents.length co11], seqC kT_73 (List.take (Int.toNat a) f.inodes) (List.take (Int.toNat a) fc3), seqC kT_73 (List.drop (Int.toNat a + 1) f.inodes) (List.drop (Int.toNat a + 1) fc3), ownA (kslice 73 72 (kraw kT_73.sz kT_73.pos)) fc3 [.slice (some ad12) f.inodes.length co1]]) (fun k => k ≤ y4.blocks.length) (fun k => y4.blocks.length - k) 0 (Nat.zero_le _) (.c .z (.c (.s .z) (.c (.s (.s .z)) (.c (.s4 (.s4 (.s (.s .z)))) .n)))) (fun _ h => h.sel (.c .z (.c .z (.c .z (.c .z (.c .z (.c .z .n))))))) ?_
 rintro k hk
 have hdl := dropB_len (data := f.data) (bs := y4.blocks) k
 refine FJ.seq (FJ.region (FJ.ql rfl (q_lss rfl (.t .z) (.t (.s .z))) (FJ.nil (FJ.then_ ?_))))
 refine FJ.seq ?_
 refine FJ.condP (.t .z) (fun b14 => ?_) (fun b14 => ?_)
 refine FJ.skip (FJ.then_ (FJ.seq (FJ.block (FJ.seq ?_))))
 refine FJ.region ?_
 refine FJ.know (WS.oad (.s .z) (by omega)) ?_
 rintro ⟨ad15, rfl⟩
 refine FJ.ql rfl (q_indexAddr (j := k) rfl u_27 sz_2 (.t (.s (.s (.s .z)))) (.t (.s .z)) rfl (by first | omega | (rw [hdl]; omega))) ?_
 obtain ⟨x16, hx16⟩ := get_ex (xs := y4.blocks) (j := k) (by first | omega | (rw [hdl]; omega))
 have pbx16 := hby4 _ (List.mem_of_getElem? hx16)
 refine FJ.ql rfl (q_load rfl ag_2 (.t .z) (WS.oel (.s .z) hx16)) (FJ.ql rfl (q_assign rfl (.t .z)) (FJ.nil (FJ.then_ (FJ.region ?_))))
 refine FJ.ql rfl (q_move rfl (.t (.s4 (.s (.s (.s .z)))))) (FJ.ql rfl (q_nilCheck rfl (.t .z)) (FJ.ql rfl (q_fieldAddr rfl (.t .z) (fun _ => fa_31_1 _ _)) (FJ.ql rfl (q_load rfl ag_23 (.t .z) (WS.el hF0 hc0 rfl)) (FJ.ql rfl (q_move rfl (.t (.s4 .z))) ?_))))
 refine FJ.know (WS.oad .z (by omega)) ?_
 rintro ⟨ad17, rfl⟩
 refine FJ.ql rfl (q_indexAddr (j := Int.toNat x16) rfl u_23 sz_26 (.t (.s .z)) (.t .z) (by omega) (by first | omega | (rw [hdl]; omega))) ?_
 refine FJ.add (c := ownA kSl_5 [] [.slice none 0 0]) (fun w S => own_nil w S none) ?_
 refine FJ.es (goes_list rfl) rfl (es_set (j := Int.toNat x16) rfl sz_26 (.t .z) .c rfl (.c (.s .z) (.c .z .n)) (by first | omega | (rw [hdl]; omega))) ?_
 refine FJ.ceq .z (dropB_s hx16) ?_
 refine FJ.nil (FJ.inBN (FJ.then_ (FJ.region ?_)))
 refine FJ.ql rfl (q_add (c := ((k + 1 : Nat) : Int)) rfl (.t (.s4 (.s4 (.s (.s .z))))) .c (wr (by omega) (by omega) (by omega))) ?_
 refine FJ.er (.s4 (.s4 (.s (.s (.s .z))))) (FJ.ql rfl (q_move rfl (.t .z)) (FJ.nil ?_))
 refine FJ.again (k + 1) (by omega) (by first | omega | (dsimp only; omega)) (.c .z (.c (.s4 (.s4 (.s4 .z))) (.c (.s4 (.s4 (.s4 (.s .z)))) (.c (.s4 (.s4 (.s4 (.s (.s .z))))) .n)))) (fun _ h => h.sel (.c .z (.c .z (.c .z (.c .z (.c .z (.c .z .n)))))))
 refine FJ.exit (FJ.thenE (FJ.thenE (FJ.inB ?_)))
 refine FJ.turns (c := ownA kT_73 y4 [.int .i64 y4.kind, .int .i64 y4.links, .int .i64 y4.size, .slice Ao10 y4.blocks.length co10, .slice Ao11 y4.ents.length co11]) (.c (.s .z) (.c (.s .z) .n)) (fun w S h => kT_73_omk y4 h) ?_
 refine FJ.turns (c := ownA kSl_73 f.inodes [.slice (some ad12) f.inodes.length co1]) (.c (.s4 .z) (.c .z (.c (.s .z) (.c (.s .z) .n)))) (own_unfocus0 (K := kT_73) hlfc3 hy4 hc5) ?_
 refine FJ.ceq (x' := dropAll f a) (.s .z) (by unfold dropAll; rw [nby4, show k = y4.blocks.length by omega]) ?_
 refine FJ.doneSN (res0 rfl) (.c (.s .z) (.c .z .n)) ?_
 exact ⟨rfl, rfl⟩

set_option maxHeartbeats 1000000 in
set_option maxRecDepth 20000 in
theorem c_113 {w0 : World} {S0 : Bs} {f : DFs} {ad0 : Addr} (h0 : PtrRo kT_31 w0 (FF w0 S0) ad0 f) (a : Int)  :
    Calls Tryz.prog 113 #[.pointer (some ad0), .int .i64 a] w0 (TriPost w0 S0 (fun r l => r = .int .i64 (bytesCode f a) ∧ l = [])) := by
 obtain ⟨ec0, hF0, hr0, hc0⟩ := id h0
 obtain ⟨u0_0, u0_1, rfl, h0_0, h0_1⟩ := kT_31_ro hr0
 obtain ⟨A0_0, c0_0, rfl, hl0_0, hm0_0, hb0_0, he0_0⟩ := ro_form h0_0
 obtain ⟨A0_1, c0_1, rfl, hl0_1, hm0_1, hb0_1, he0_1⟩ := ro_form h0_1
 refine FJ.enter (N := 11) Tryz.func113 rfl rfl (by simp) [(0, .pointer (some ad0)), (1, .int .i64 a)] (by simp) (l0 := []) trivial ?_
 refine FJ.seq (FJ.region (FJ.ql rfl (q_assign rfl .c) (FJ.nil (FJ.then_ ?_))))
 refine FJ.seq (FJ.region (FJ.ql rfl (q_move rfl (.t (.s .z))) (FJ.ql rfl (q_nilCheck rfl (.t .z)) (FJ.ql rfl (q_loadA (cs := [.slice A0_0 f.inodes.length c0_0, .slice A0_1 f.data.length c0_1]) rfl ag_31 sz_31 (.t .z) (WS.els hF0 hc0)) ?_))))
 refine FJ.ql rfl (q_move rfl (.t (.s4 (.s .z)))) ?_
 refine FJ.call (goes_list rfl) rfl (by decide) rfl (c_call rfl Tryz.func89 rfl rfl (args2 (.t (.s .z)) (.t .z))) .n (fun w1 S1 hs tr => c_89 (kT_31_mk f (tr.ctx h0_0) (tr.ctx h0_1)) _) ?_
 rintro _ _ ⟨v3, rfl, rfl⟩
 refine FJ.cat (.c .n) ?_
 refine FJ.know (WS.oform .z) ?_
 rintro ⟨Ao5, co5, rfl, hlo5, hmo5, hbo5⟩
 refine FJ.ql rfl (q_field rfl (.t .z) (fun w => fv_62_0 w (.int .i64 ((bytesR f a).code)) (.slice Ao5 ((bytesR f a).bytes).length co5))) ?_
 refine FJ.er (.s4 (.s (.s .z))) (FJ.ql rfl (q_assign rfl (.t .z)) (FJ.nil (FJ.then_ (FJ.ret ?_))))
 refine FJ.doneS (res1 rfl .z) .n ?_
 exact ⟨by rw [bytesR_code], rfl⟩

end Go.Proofs.YticaddophhggoaaGreat

/- What is proved: contracts of functions, one a function. No condition. -/
import Derived.Test.YtbcdcakcmdcafaaGreatW31
import Derived.Test.YtbcdcakcmdcafaaGreatW30
namespace Go.Proofs.YtbcdcakcmdcafaaGreat
open Go Go.RowKit
set_option linter.unusedVariables false
set_option linter.unusedSimpArgs false
set_option maxHeartbeats 1000000 in
set_option maxRecDepth 20000 in
theorem c_142 {w0 : World} {S0 : Bs} {x : (List Int)} {v0 : Value} (h0 : kSl_2.ro w0 (FF w0 S0) x [v0])  :
    Calls Tryz.prog 142 #[v0] w0 (TriPost w0 S0 (fun r l => l = [ownA kSl_2 x [r]])) := by
 obtain ⟨A0, c0, rfl, hl0, hm0, hb0, he0⟩ := ro_form h0
 refine FJ.enter (N := 6) Tryz.func142 rfl rfl (by simp) [(0, .slice A0 x.length c0)] (by simp) (l0 := []) trivial ?_
 refine FJ.seq (FJ.region (FJ.ql rfl (q_assign rfl .c) (FJ.nil (FJ.then_ ?_))))
 refine FJ.seq (FJ.region ?_)
 refine FJ.e (goes_list rfl) rfl (by decide) rfl (e_buildNil rfl u_58 (inz inf_2)) ?_
 rintro _ _ ⟨g2, rfl, rfl⟩
 refine FJ.ql rfl (q_move rfl (.t (.s (.s .z)))) ?_
 refine FJ.add (c := ownA kSl_2 ([] : (List Int)) [.slice (some ⟨g2, 0, none⟩) 0 0]) (fun w S => own_nil w S _) ?_
 refine FJ.e (goes_list rfl) rfl (by decide) rfl (e_appendF (flat_scalar _ _ _) rfl u_58 inf_2 rfl (.t (.s .z)) (.t .z) (.c .z .n) (fun w1 S1 tr => tr.ctx h0) (by first | omega | (simp only [List.length_append, List.length_take, List.length_nil, List.length_cons]; omega)) (by first | omega | (simp only [List.length_append, List.length_take, List.length_nil, List.length_cons]; omega))) ?_
 rintro _ _ rfl
 refine FJ.ceq .z (List.nil_append _) ?_
 refine FJ.know (WS.oform .z) ?_
 rintro ⟨Ao4, co4, rfl, hlo4, hmo4, hbo4⟩
 refine FJ.er (.s (.s (.s .z))) (FJ.ql rfl (q_assign rfl (.t .z)) (FJ.nil (FJ.then_ (FJ.ret ?_))))
 refine FJ.doneS (res1 rfl .z) (.c .z .n) ?_
 rfl

set_option maxHeartbeats 1000000 in
set_option maxRecDepth 20000 in
theorem c_107 {w0 : World} {S0 : Bs} {x : DInode} {cs0 : List Value} (h0 : kT_66.ro w0 (FF w0 S0) x cs0)  :
    Calls Tryz.prog 107 #[.agg cs0.toArray] w0 (TriPost w0 S0 (RA_66 x)) := by
 obtain ⟨u0_3, u0_4, rfl, h0_3, h0_4⟩ := kT_66_ro h0
 obtain ⟨A0_3, c0_3, rfl, hl0_3, hm0_3, hb0_3, he0_3⟩ := ro_form h0_3
 obtain ⟨A0_4, c0_4, rfl, hl0_4, hm0_4, hb0_4, he0_4⟩ := ro_form h0_4
 refine FJ.enter (N := 13) Tryz.func107 rfl rfl (by simp) [(0, .agg #[.int .i64 x.kind, .int .i64 x.links, .int .i64 x.size, .slice A0_3 x.blocks.length c0_3, .slice A0_4 x.ents.length c0_4])] (by simp) (l0 := []) trivial ?_
 refine FJ.seq (FJ.region ?_)
 refine FJ.e (goes_list rfl) rfl (by decide) rfl (e_box (cs := [.int .i64 x.kind, .int .i64 x.links, .int .i64 x.size, .slice A0_3 x.blocks.length c0_3, .slice A0_4 x.ents.length c0_4]) (n := 5) rfl (.t .z) rfl rfl) ?_
 rintro _ _ ⟨g3, rfl, rfl⟩
 refine FJ.e (goes_list rfl) rfl (by decide) rfl (e_alloc rfl z_66 rfl rfl) ?_
 rintro _ _ ⟨g4, rfl, rfl⟩
 refine FJ.nil (FJ.then_ (FJ.seq (FJ.region (FJ.ql rfl (q_fieldAddr rfl (.t (.s .z)) (fun _ => fa_66_3 _ _)) ?_))))
 refine FJ.ql rfl (q_load rfl ag_58 (.t .z) (WS.row (.s .z) rfl)) ?_
 refine FJ.call (goes_list rfl) rfl (by decide) rfl (c_call rfl Tryz.func142 rfl rfl (args1 (.t .z))) .n (fun w1 S1 hs tr => c_142 (tr.ctx h0_3)) ?_
 rintro _ _ rfl
 refine FJ.cat (.c .n) ?_
 refine FJ.know (WS.oform .z) ?_
 rintro ⟨Ao6, co6, rfl, hlo6, hmo6, hbo6⟩
 refine FJ.ql rfl (q_fieldAddr rfl (.t (.s4 .z)) (fun _ => fa_66_3 _ _)) ?_
 refine FJ.es (goes_list rfl) rfl (es_store (off := 3) (cs := [.slice Ao6 x.blocks.length co6]) rfl sz_58 (.t .z) (.t (.s .z)) rfl (ones rfl) (.s (.s .z)) (Nat.le_of_ble_eq_true rfl) (.c (.s (.s (.s .z))) .n)) ?_
 refine FJ.nil (FJ.then_ (FJ.seq (FJ.region ?_)))
 refine FJ.e (goes_list rfl) rfl (by decide) rfl (e_buildNil rfl u_64 (inz inf_68)) ?_
 rintro _ _ ⟨g7, rfl, rfl⟩
 refine FJ.ql rfl (q_fieldAddr rfl (.t (.s4 (.s (.s .z)))) (fun _ => fa_66_4 _ _)) (FJ.ql rfl (q_load rfl ag_64 (.t .z) (WS.row (.s .z) rfl)) ?_)
 refine FJ.add (c := ownA kSl_68 ([] : (List DEnt)) [.slice (some ⟨g7, 0, none⟩) 0 0]) (fun w S => own_nil w S _) ?_
 refine FJ.e (goes_list rfl) rfl (by decide) rfl (e_appendF (flat_iso _ (flat_pair (flat_scalar _ _ _) (flat_scalar _ _ _))) rfl u_64 inf_68 rfl (.t (.s (.s .z))) (.t .z) (.c .z .n) (fun w1 S1 tr => tr.ctx h0_4) (by first | omega | (simp only [List.length_append, List.length_take, List.length_nil, List.length_cons]; omega)) (by first | omega | (simp only [List.length_append, List.length_take, List.length_nil, List.length_cons]; omega))) ?_
 rintro _ _ rfl
 refine FJ.ceq .z (List.nil_append _) ?_
 refine FJ.know (WS.oform .z) ?_
 rintro ⟨Ao9, co9, rfl, hlo9, hmo9, hbo9⟩
 refine FJ.ql rfl (q_fieldAddr rfl (.t (.s4 (.s4 (.s .z)))) (fun _ => fa_66_4 _ _)) ?_
 refine FJ.es (goes_list rfl) rfl (es_store (off := 4) (cs := [.slice Ao9 x.ents.length co9]) rfl sz_64 (.t .z) (.t (.s .z)) rfl (ones rfl) (.s (.s .z)) (Nat.le_of_ble_eq_true rfl) (.c (.s (.s (.s (.s .z)))) .n)) ?_
 refine FJ.nil (FJ.then_ (FJ.seq (FJ.region ?_)))
 refine FJ.ql rfl (q_loadA (cs := [.int .i64 x.kind, .int .i64 x.links, .int .i64 x.size, .slice Ao6 x.blocks.length co6, .slice Ao9 x.ents.length co9]) rfl ag_66 sz_66 (.t (.s4 (.s4 (.s (.s .z))))) (WS.rows0 .z (fun i u h => by exact h))) ?_
 refine FJ.es (goes_list rfl) rfl (es_store (off := 0) (cs := [.int .i64 x.kind, .int .i64 x.links, .int .i64 x.size, .slice Ao6 x.blocks.length co6, .slice Ao9 x.ents.length co9]) rfl sz_66 (.t (.s4 (.s4 (.s (.s .z))))) (.t .z) rfl (ones rfl) (.s4 .z) (Nat.le_of_ble_eq_true rfl) (.c .z (.c (.s .z) (.c (.s (.s .z)) (.c (.s (.s (.s .z))) (.c (.s (.s (.s (.s .z)))) .n)))))) ?_
 refine FJ.nil (FJ.then_ (FJ.ret ?_))
 refine FJ.doneS (resC (cs := [.int .i64 x.kind, .int .i64 x.links, .int .i64 x.size, .slice Ao6 x.blocks.length co6, .slice Ao9 x.ents.length co9]) rfl (.s4 (.s4 (.s (.s .z)))) ag_66 sz_66 (WS.rows0 (cs := [.int .i64 x.kind, .int .i64 x.links, .int .i64 x.size, .slice Ao6 x.blocks.length co6, .slice Ao9 x.ents.length co9]) .z (fun _ _ h => h))) (.c (.s4 .z) (.c (.s (.s .z)) .n)) ?_
 exact ⟨_, _, rfl, rfl⟩

set_option maxHeartbeats 1000000 in
set_option maxRecDepth 20000 in
theorem c_67 {w0 : World} {S0 : Bs} {f : DFs} {cs0 : List Value} (h0 : kT_26.ro w0 (FF w0 S0) f cs0)  :
    Calls Tryz.prog 67 #[.agg cs0.toArray] w0 (TriPost w0 S0 (RA_26 f)) := by
 obtain ⟨u0_0, u0_1, rfl, h0_0, h0_1⟩ := kT_26_ro h0
 obtain ⟨A0_0, c0_0, rfl, hl0_0, hm0_0, hb0_0, he0_0⟩ := ro_form h0_0
 obtain ⟨A0_1, c0_1, rfl, hl0_1, hm0_1, hb0_1, he0_1⟩ := ro_form h0_1
 refine FJ.enter (N := 45) Tryz.func67 rfl rfl (by simp) [(0, .agg #[.slice A0_0 f.inodes.length c0_0, .slice A0_1 f.data.length c0_1])] (by simp) (l0 := []) trivial ?_
 refine FJ.seq (FJ.region ?_)
 refine FJ.e (goes_list rfl) rfl (by decide) rfl (e_box (cs := [.slice A0_0 f.inodes.length c0_0, .slice A0_1 f.data.length c0_1]) (n := 2) rfl (.t .z) rfl rfl) ?_
 rintro _ _ ⟨g3, rfl, rfl⟩
 refine FJ.e (goes_list rfl) rfl (by decide) rfl (e_alloc rfl z_26 rfl rfl) ?_
 rintro _ _ ⟨g4, rfl, rfl⟩
 refine FJ.nil (FJ.then_ (FJ.seq (FJ.region ?_)))
 refine FJ.ql rfl (q_build (ps := []) (cs := [.slice none 0 0, .slice none 0 0]) rfl bl_26 (by intro act hact; simp only [List.map_toArray, List.map_cons, List.map_nil]) rfl) ?_
 refine FJ.e (goes_list rfl) rfl (by decide) rfl (e_alloc rfl z_26 rfl rfl) ?_
 rintro _ _ ⟨g5, rfl, rfl⟩
 refine FJ.es (goes_list rfl) rfl (es_store (off := 0) (cs := [.slice none 0 0, .slice none 0 0]) rfl sz_26 (.t .z) (.t (.s .z)) rfl (ones rfl) .z (Nat.le_of_ble_eq_true rfl) (.c .z (.c (.s .z) .n))) ?_
 refine FJ.nil (FJ.then_ (FJ.seq (FJ.seq (FJ.region ?_))))
 refine FJ.ql rfl (q_assign rfl .c) (FJ.nil (FJ.then_ (FJ.block ?_)))
 refine FJ.add (c := ownA kSl_66 [] [.slice none 0 0]) (fun w S => own_nil w S none) ?_
 refine FJ.loopi (γ := Nat × (Option Addr) × Nat) (fun ⟨k, Agk0, cgk0⟩ => [(4, .int .i64 (k : Int)), (3, .pointer (some ⟨g5, 0, none⟩)), (2, .pointer (some ⟨g4, 0, none⟩)), (1, .pointer (some ⟨g3, 0, none⟩))]) (fun ⟨k, Agk0, cgk0⟩ => [ownA kSl_66 (List.take k f.inodes) [.slice Agk0 (List.take k f.inodes).length cgk0], rowA g5 26 2 1 [.slice Agk0 (List.take k f.inodes).length cgk0, .slice none 0 0], rowA g4 26 2 1 [.slice none 0 0, .slice none 0 0], rowA g3 26 2 1 [.slice A0_0 f.inodes.length c0_0, .slice A0_1 f.data.length c0_1]]) (fun ⟨k, Agk0, cgk0⟩ => k ≤ f.inodes.length) (fun ⟨k, Agk0, cgk0⟩ => f.inodes.length - k) (0, none, 0) (Nat.zero_le _) (.c .z (.c (.s .z) (.c (.s (.s (.s .z))) (.c (.s4 .z) .n)))) (fun _ h => h.sel (.c .z (.c .z (.c .z (.c .z .n))))) ?_
 rintro ⟨k, Agk0, cgk0⟩ hk
 refine FJ.seq (FJ.seq (FJ.region (FJ.ql rfl (q_move rfl (.t .z)) (FJ.ql rfl (q_fieldAddr rfl (.t (.s4 .z)) (fun _ => fa_26_0 _ _)) ?_))))
 refine FJ.ql rfl (q_load rfl ag_24 (.t .z) (WS.row (.s (.s (.s .z))) rfl)) (FJ.ql rfl (q_len rfl u_24 (.t .z)) (FJ.ql rfl (q_lss rfl (.t (.s (.s (.s .z)))) (.t .z)) (FJ.nil (FJ.then_ ?_))))
 refine FJ.condP (.t .z) (fun b7 => ?_) (fun b7 => ?_)
 refine FJ.skip (FJ.then_ (FJ.seq (FJ.block ?_)))
 refine FJ.draw [rowA g5 26 2 1 [.slice Agk0 (List.take k f.inodes).length cgk0, .slice none 0 0], rowA g4 26 2 1 [.slice none 0 0, .slice none 0 0], rowA g3 26 2 1 [.slice A0_0 f.inodes.length c0_0, .slice A0_1 f.data.length c0_1]] 11 (by kernel_rfl) ?_
 refine FJ.sch [(0, true), (1, true), (2, true), (3, true), (4, true), (5, true), (6, true), (7, false), (8, false), (9, false), (10, true), (11, false)] 0 #[true, true, true, true, true, true, true, true, true, true, true, true] (by rfl) (by kernel_rfl) ?_
 refine FJ.dq rfl rfl rfl (by decide) rfl (.s .z) (q_fieldAddr rfl (.t (.s4 (.s (.s .z)))) (fun _ => fa_26_0 _ _)) (FJ.dq rfl rfl rfl (by decide) rfl (.s .z) (q_load rfl ag_24 (.t .z) (WS.row .z rfl)) (FJ.dq rfl rfl rfl (by decide) rfl (.s .z) (q_fieldAddr rfl (.t (.s4 (.s4 (.s (.s .z))))) (fun _ => fa_26_0 _ _)) (FJ.dq rfl rfl rfl (by decide) rfl (.s .z) (q_load rfl ag_24 (.t .z) (WS.row (.s (.s .z)) rfl)) (FJ.dq rfl rfl rfl (by decide) rfl (.s .z) (q_move rfl (.t (.s4 (.s4 (.s .z))))) ?_))))
 obtain ⟨ad8, hAad8, hrad8⟩ := he0_0 (by omega)
 subst hAad8
 obtain ⟨x9, hx9⟩ := get_ex (xs := f.inodes) (j := k) (by omega)
 obtain ⟨ece10, hre10, hFe10, hce10⟩ := hrad8.elem hx9
 obtain ⟨ue10_3, ue10_4, rfl, he10_3, he10_4⟩ := kT_66_ro hre10
 obtain ⟨Ae10_3, ce10_3, rfl, hle10_3, hme10_3, hbe10_3, hee10_3⟩ := ro_form he10_3
 obtain ⟨Ae10_4, ce10_4, rfl, hle10_4, hme10_4, hbe10_4, hee10_4⟩ := ro_form he10_4
 refine FJ.dq rfl rfl rfl (by decide) rfl (.s .z) (q_indexAddr (j := k) rfl u_24 sz_66 (.t (.s .z)) (.t .z) rfl (by omega)) ?_
 refine FJ.dq rfl rfl rfl (by decide) rfl (.s .z) (q_loadA (cs := [.int .i64 x9.kind, .int .i64 x9.links, .int .i64 x9.size, .slice Ae10_3 x9.blocks.length ce10_3, .slice Ae10_4 x9.ents.length ce10_4]) rfl ag_66 sz_66 (.t .z) (WS.els hFe10 hce10)) ?_
 refine FJ.call (goes_sch rfl rfl) rfl (by decide) rfl (c_call rfl Tryz.func107 rfl rfl (args1 (.t .z))) .n (fun w1 S1 hs tr => c_107 (tr.ctx hre10)) ?_
 rintro _ _ ⟨v13, v15, rfl, rfl⟩
 refine FJ.cat (.c (.c .n)) ?_
 refine FJ.know (WS.oform .z) ?_
 rintro ⟨Ao17, co17, rfl, hlo17, hmo17, hbo17⟩
 refine FJ.know (WS.oform (.s .z)) ?_
 rintro ⟨Ao18, co18, rfl, hlo18, hmo18, hbo18⟩
 refine FJ.sk (.s (.s (.s .z))) ?_
 refine FJ.e (goes_sch rfl rfl) rfl (by decide) rfl (e_buildSliceL (ps := [(0, .agg #[.int .i64 x9.kind, .int .i64 x9.links, .int .i64 x9.size, .slice Ao17 x9.blocks.length co17, .slice Ao18 x9.ents.length co18])]) (cs := [.int .i64 x9.kind, .int .i64 x9.links, .int .i64 x9.size, .slice Ao17 x9.blocks.length co17, .slice Ao18 x9.ents.length co18]) rfl u_24 (inz inf_66) (by decide) (by intro act hact; simp only [List.map_toArray, List.map_cons, List.map_nil, (show Val _ _ _ from (.t .z)) act hact]) rfl rfl (by decide) rfl rfl) ?_
 rintro _ _ ⟨g19, rfl, rfl⟩
 refine FJ.sk (.s4 .z) ?_
 refine FJ.turns (c := ownA kT_66 (⟨x9.kind, x9.links, x9.size, x9.blocks, x9.ents⟩ : DInode) [.int .i64 x9.kind, .int .i64 x9.links, .int .i64 x9.size, .slice Ao17 x9.blocks.length co17, .slice Ao18 x9.ents.length co18]) (.c (.s .z) (.c (.s .z) .n)) (fun w S h => kT_66_omk (⟨x9.kind, x9.links, x9.size, x9.blocks, x9.ents⟩ : DInode) h) ?_
 refine FJ.e (goes_sch rfl rfl) rfl (by decide) rfl (e_append1 rfl u_24 inf_66 rfl (.t (.s4 (.s (.s (.s .z))))) (.t .z) (.c (.s (.s .z)) (.c (.s .z) (.c .z .n))) (by first | omega | (simp only [List.length_take, List.length_cons, List.length_nil]; omega)) (by first | omega | (simp only [List.length_take, List.length_cons, List.length_nil]; omega))) ?_
 rintro _ _ rfl
 refine FJ.ceq .z (take_get hx9).symm ?_
 refine FJ.know (WS.oform .z) ?_
 rintro ⟨Ao21, co21, rfl, hlo21, hmo21, hbo21⟩
 refine FJ.sk (.s .z) ?_
 refine FJ.dq rfl rfl rfl (by decide) rfl (.s .z) (q_fieldAddr rfl (.t (.s16 .z)) (fun _ => fa_26_0 _ _)) ?_
 refine FJ.es (goes_sch rfl rfl) rfl (es_store (off := 0) (cs := [.slice Ao21 (List.take (k + 1) f.inodes).length co21]) rfl sz_24 (.t .z) (.t (.s .z)) rfl (ones rfl) (.s .z) (Nat.le_of_ble_eq_true rfl) (.c .z .n)) ?_
 refine FJ.sl rfl ?_
 refine FJ.schN ?_
 refine FJ.drawN (by kernel_rfl) ?_
 refine FJ.inBN (FJ.then_ (FJ.region (FJ.ql rfl (q_move rfl (.t (.s16 .z))) ?_)))
 refine FJ.ql rfl (q_add (c := ((k + 1 : Nat) : Int)) rfl (.t .z) .c (wr (by omega) (by omega) (by omega))) ?_
 refine FJ.er (.s16 (.s (.s .z))) (FJ.ql rfl (q_assign rfl (.t .z)) (FJ.nil ?_))
 refine FJ.again ((k + 1), Ao21, co21) (by omega) (by first | omega | (dsimp only; omega)) (.c .z (.c (.s16 (.s (.s (.s .z)))) (.c (.s16 (.s4 .z)) (.c (.s16 (.s4 (.s .z))) .n)))) (fun _ h => h.sel (.c (.s .z) (.c .z (.c .z (.c .z .n)))))
 refine FJ.exit (FJ.thenE (FJ.thenE (FJ.inB (FJ.then_ ?_))))
 refine FJ.seq (FJ.seq (FJ.region (FJ.ql rfl (q_assign rfl .c) (FJ.nil ?_))))
 refine FJ.then_ (FJ.block ?_)
 have he22 : List.take k f.inodes = f.inodes := (List.take_of_length_le (by omega))
 refine FJ.chEq .z (congrArg (fun z_ => (ownA kSl_66 (z_) [.slice Agk0 (z_).length cgk0] : Asn)) he22) ?_
 refine FJ.chEq (.s .z) (congrArg (fun z_ => (rowA g5 26 2 1 [.slice Agk0 (z_).length cgk0, .slice none 0 0] : Asn)) he22) ?_
 refine FJ.add (c := ownA kSl_39 [] [.slice none 0 0]) (fun w S => own_nil w S none) ?_
 refine FJ.loopi (γ := Nat × (Option Addr) × Nat) (fun ⟨q, Agq0, cgq0⟩ => [(5, .int .i64 (q : Int)), (3, .pointer (some ⟨g5, 0, none⟩)), (2, .pointer (some ⟨g4, 0, none⟩)), (1, .pointer (some ⟨g3, 0, none⟩))]) (fun ⟨q, Agq0, cgq0⟩ => [ownA kSl_39 (List.take q f.data) [.slice Agq0 (List.take q f.data).length cgq0], rowA g5 26 2 1 [.slice Agk0 (f.inodes).length cgk0, .slice Agq0 (List.take q f.data).length cgq0], ownA kSl_66 f.inodes [.slice Agk0 (f.inodes).length cgk0], rowA g4 26 2 1 [.slice none 0 0, .slice none 0 0], rowA g3 26 2 1 [.slice A0_0 f.inodes.length c0_0, .slice A0_1 f.data.length c0_1]]) (fun ⟨q, Agq0, cgq0⟩ => q ≤ f.data.length) (fun ⟨q, Agq0, cgq0⟩ => f.data.length - q) (0, none, 0) (Nat.zero_le _) (.c .z (.c (.s4 (.s (.s (.s .z)))) (.c (.s4 (.s4 .z)) (.c (.s4 (.s4 (.s .z))) .n)))) (fun _ h => h.sel (.c .z (.c .z (.c .z (.c .z (.c .z .n)))))) ?_
 rintro ⟨q, Agq0, cgq0⟩ hq
 refine FJ.seq (FJ.seq (FJ.region (FJ.ql rfl (q_move rfl (.t .z)) (FJ.ql rfl (q_fieldAddr rfl (.t (.s4 .z)) (fun _ => fa_26_1 _ _)) ?_))))
 refine FJ.ql rfl (q_load rfl ag_22 (.t .z) (WS.row (.s4 .z) rfl)) (FJ.ql rfl (q_len rfl u_22 (.t .z)) (FJ.ql rfl (q_lss rfl (.t (.s (.s (.s .z)))) (.t .z)) (FJ.nil (FJ.then_ ?_))))
 refine FJ.condP (.t .z) (fun b24 => ?_) (fun b24 => ?_)
 refine FJ.skip (FJ.then_ (FJ.seq (FJ.block ?_)))
 refine FJ.sel (.c .z (.c (.s .z) (.c .z (.c .z (.c .z .n))))) ?_
 refine FJ.draw [rowA g5 26 2 1 [.slice Agk0 (f.inodes).length cgk0, .slice Agq0 (List.take q f.data).length cgq0], rowA g4 26 2 1 [.slice none 0 0, .slice none 0 0], rowA g3 26 2 1 [.slice A0_0 f.inodes.length c0_0, .slice A0_1 f.data.length c0_1]] 12 (by kernel_rfl) ?_
 refine FJ.sch [(0, true), (1, true), (3, true), (4, true), (5, true), (6, true), (7, true), (2, false), (8, false), (9, false), (10, false), (11, true), (12, false)] 0 #[true, true, true, true, true, true, true, true, true, true, true, true, true] (by rfl) (by kernel_rfl) ?_
 refine FJ.dq rfl rfl rfl (by decide) rfl (.s (.s .z)) (q_fieldAddr rfl (.t (.s4 (.s (.s .z)))) (fun _ => fa_26_1 _ _)) (FJ.dq rfl rfl rfl (by decide) rfl (.s (.s .z)) (q_load rfl ag_22 (.t .z) (WS.row .z rfl)) (FJ.dq rfl rfl rfl (by decide) rfl (.s (.s .z)) (q_fieldAddr rfl (.t (.s4 (.s4 (.s (.s .z))))) (fun _ => fa_26_1 _ _)) (FJ.dq rfl rfl rfl (by decide) rfl (.s (.s .z)) (q_load rfl ag_22 (.t .z) (WS.row (.s (.s .z)) rfl)) (FJ.dq rfl rfl rfl (by decide) rfl (.s (.s .z)) (q_move rfl (.t (.s4 (.s4 (.s .z))))) ?_))))
 obtain ⟨ad25, hAad25, hrad25⟩ := he0_1 (by omega)
 subst hAad25
 obtain ⟨x26, hx26⟩ := get_ex (xs := f.data) (j := q) (by omega)
 obtain ⟨ece27, hre27, hFe27, hce27⟩ := hrad25.elem hx26
 obtain ⟨ue27, rfl⟩ := sl_one hre27
 obtain ⟨Ae27, ce27, rfl, hle27, hme27, hbe27, hee27⟩ := ro_form hre27
 refine FJ.dq rfl rfl rfl (by decide) rfl (.s (.s .z)) (q_indexAddr (j := q) rfl u_22 sz_39 (.t (.s .z)) (.t .z) rfl (by omega)) ?_
 refine FJ.dq rfl rfl rfl (by decide) rfl (.s (.s .z)) (q_load rfl ag_39 (.t .z) (WS.el0 hFe27 hce27 rfl)) ?_
 refine FJ.e (goes_sch rfl rfl) rfl (by decide) rfl (e_buildNil rfl u_39 (inz inf_5)) ?_
 rintro _ _ ⟨g29, rfl, rfl⟩
 refine FJ.sk (.s (.s (.s .z))) ?_
 refine FJ.add (c := ownA kSl_5 ([] : (List UInt8)) [.slice (some ⟨g29, 0, none⟩) 0 0]) (fun w S => own_nil w S _) ?_
 refine FJ.e (goes_sch rfl rfl) rfl (by decide) rfl (e_appendF (flat_scalar _ _ _) rfl u_39 inf_5 rfl (.t .z) (.t (.s .z)) (.c .z .n) (fun w1 S1 tr => tr.ctx hre27) (by first | omega | (simp only [List.length_take, List.length_cons, List.length_nil]; omega)) (by first | omega | (simp only [List.length_take, List.length_cons, List.length_nil]; omega))) ?_
 rintro _ _ rfl
 refine FJ.ceq .z (List.nil_append _) ?_
 refine FJ.know (WS.oform .z) ?_
 rintro ⟨Ao31, co31, rfl, hlo31, hmo31, hbo31⟩
 refine FJ.sk (.s4 .z) ?_
 refine FJ.e (goes_sch rfl rfl) rfl (by decide) rfl (e_buildSliceL (ps := [(0, .slice Ao31 x26.length co31)]) (cs := [.slice Ao31 x26.length co31]) rfl u_22 (inz inf_39) (by decide) (by intro act hact; simp only [List.map_toArray, List.map_cons, List.map_nil, (show Val _ _ _ from (.t .z)) act hact]) rfl rfl (by decide) rfl rfl) ?_
 rintro _ _ ⟨g32, rfl, rfl⟩
 refine FJ.sk (.s4 (.s .z)) ?_
 refine FJ.e (goes_sch rfl rfl) rfl (by decide) rfl (e_append1 rfl u_22 inf_39 rfl (.t (.s4 (.s4 .z))) (.t .z) (.c (.s (.s (.s .z))) (.c .z (.c .z .n))) (by first | omega | (simp only [List.length_take, List.length_cons, List.length_nil]; omega)) (by first | omega | (simp only [List.length_take, List.length_cons, List.length_nil]; omega))) ?_
 rintro _ _ rfl
 refine FJ.ceq .z (take_get hx26).symm ?_
 refine FJ.know (WS.oform .z) ?_
 rintro ⟨Ao33, co33, rfl, hlo33, hmo33, hbo33⟩
 refine FJ.sk (.s (.s (.s .z))) ?_
 refine FJ.dq rfl rfl rfl (by decide) rfl (.s (.s (.s .z))) (q_fieldAddr rfl (.t (.s16 (.s .z))) (fun _ => fa_26_1 _ _)) ?_
 refine FJ.es (goes_sch rfl rfl) rfl (es_store (off := 1) (cs := [.slice Ao33 (List.take (q + 1) f.data).length co33]) rfl sz_22 (.t .z) (.t (.s .z)) rfl (ones rfl) (.s (.s (.s .z))) (Nat.le_of_ble_eq_true rfl) (.c (.s .z) .n)) ?_
 refine FJ.sl rfl ?_
 refine FJ.schN ?_
 refine FJ.drawN (by kernel_rfl) ?_
 refine FJ.inBN (FJ.then_ (FJ.region (FJ.ql rfl (q_move rfl (.t (.s16 (.s .z)))) ?_)))
 refine FJ.ql rfl (q_add (c := ((q + 1 : Nat) : Int)) rfl (.t .z) .c (wr (by omega) (by omega) (by omega))) ?_
 refine FJ.er (.s16 (.s (.s (.s .z)))) (FJ.ql rfl (q_assign rfl (.t .z)) (FJ.nil ?_))
 refine FJ.again ((q + 1), Ao33, co33) (by omega) (by first | omega | (dsimp only; omega)) (.c .z (.c (.s16 (.s4 .z)) (.c (.s16 (.s4 (.s .z))) (.c (.s16 (.s4 (.s (.s .z)))) .n)))) (fun _ h => h.sel (.c (.s .z) (.c .z (.c (.s .z) (.c (.s .z) (.c (.s .z) .n))))))
 refine FJ.exit (FJ.thenE (FJ.thenE (FJ.inB (FJ.then_ ?_))))
 refine FJ.seq (FJ.region ?_)
 refine FJ.ql rfl (q_loadA (cs := [.slice Agk0 (f.inodes).length cgk0, .slice Agq0 (List.take q f.data).length cgq0]) rfl ag_26 sz_26 (.t (.s4 (.s (.s .z)))) (WS.rows0 (.s .z) (fun i u h => by exact h))) ?_
 refine FJ.es (goes_list rfl) rfl (es_store (off := 0) (cs := [.slice Agk0 (f.inodes).length cgk0, .slice Agq0 (List.take q f.data).length cgq0]) rfl sz_26 (.t (.s4 (.s4 .z))) (.t .z) rfl (ones rfl) (.s (.s (.s .z))) (Nat.le_of_ble_eq_true rfl) (.c .z (.c (.s .z) .n))) ?_
 refine FJ.nil (FJ.then_ (FJ.ret ?_))
 have he34 : List.take q f.data = f.data := (List.take_of_length_le (by omega))
 refine FJ.eq .z (congrArg (fun z_ => (.agg #[.slice Agk0 (f.inodes).length cgk0, .slice Agq0 (z_).length cgq0] : Value)) he34) ?_
 refine FJ.chEq .z (congrArg (fun z_ => (rowA g4 26 2 1 [.slice Agk0 (f.inodes).length cgk0, .slice Agq0 (z_).length cgq0] : Asn)) he34) ?_
 refine FJ.chEq (.s .z) (congrArg (fun z_ => (ownA kSl_39 (z_) [.slice Agq0 (z_).length cgq0] : Asn)) he34) ?_
 refine FJ.chEq (.s (.s .z)) (congrArg (fun z_ => (rowA g5 26 2 1 [.slice Agk0 (f.inodes).length cgk0, .slice Agq0 (z_).length cgq0] : Asn)) he34) ?_
 refine FJ.doneS (resC (cs := [.slice Agk0 (f.inodes).length cgk0, .slice Agq0 (f.data).length cgq0]) rfl (.s4 (.s4 .z)) ag_26 sz_26 (WS.rows0 (cs := [.slice Agk0 (f.inodes).length cgk0, .slice Agq0 (f.data).length cgq0]) (.s (.s .z)) (fun _ _ h => h))) (.c (.s (.s (.s .z))) (.c (.s .z) .n)) ?_
 exact ⟨_, _, rfl, rfl⟩

set_option maxHeartbeats 1000000 in
set_option maxRecDepth 20000 in
theorem c_71 {w0 : World} {S0 : Bs} {f : DFs} {cs0 : List Value} (h0 : kT_26.ro w0 (FF w0 S0) f cs0)  :
    Calls Tryz.prog 71 #[.agg cs0.toArray] w0 (TriPost w0 S0 (RA_26 f)) := by
 obtain ⟨u0_0, u0_1, rfl, h0_0, h0_1⟩ := kT_26_ro h0
 obtain ⟨A0_0, c0_0, rfl, hl0_0, hm0_0, hb0_0, he0_0⟩ := ro_form h0_0
 obtain ⟨A0_1, c0_1, rfl, hl0_1, hm0_1, hb0_1, he0_1⟩ := ro_form h0_1
 refine FJ.enter (N := 33) Tryz.func71 rfl rfl (by simp) [(0, .agg #[.slice A0_0 f.inodes.length c0_0, .slice A0_1 f.data.length c0_1])] (by simp) (l0 := []) trivial ?_
 refine FJ.seq (FJ.region ?_)
 refine FJ.e (goes_list rfl) rfl (by decide) rfl (e_box (cs := [.slice A0_0 f.inodes.length c0_0, .slice A0_1 f.data.length c0_1]) (n := 2) rfl (.t .z) rfl rfl) ?_
 rintro _ _ ⟨g3, rfl, rfl⟩
 refine FJ.e (goes_list rfl) rfl (by decide) rfl (e_alloc rfl z_26 rfl rfl) ?_
 rintro _ _ ⟨g4, rfl, rfl⟩
 refine FJ.nil (FJ.then_ (FJ.seq (FJ.region (FJ.ql rfl (q_fieldAddr rfl (.t (.s .z)) (fun _ => fa_26_1 _ _)) ?_))))
 refine FJ.ql rfl (q_load rfl ag_22 (.t .z) (WS.row (.s .z) rfl)) ?_
 refine FJ.call (goes_list rfl) rfl (by decide) rfl (c_call rfl Tryz.func48 rfl rfl (args1 (.t .z))) .n (fun w1 S1 hs tr => c_48 (tr.ctx h0_1)) ?_
 rintro _ _ rfl
 refine FJ.cat (.c .n) ?_
 refine FJ.know (WS.oform .z) ?_
 rintro ⟨Ao6, co6, rfl, hlo6, hmo6, hbo6⟩
 refine FJ.ql rfl (q_build (ps := [(1, .slice Ao6 f.data.length co6)]) (cs := [.slice none 0 0, .slice Ao6 f.data.length co6]) rfl bl_26 (by intro act hact; simp only [List.map_toArray, List.map_cons, List.map_nil, (show Val _ _ _ from (.t .z)) act hact]) rfl) ?_
 refine FJ.e (goes_list rfl) rfl (by decide) rfl (e_alloc rfl z_26 rfl rfl) ?_
 rintro _ _ ⟨g7, rfl, rfl⟩
 refine FJ.es (goes_list rfl) rfl (es_store (off := 0) (cs := [.slice none 0 0, .slice Ao6 f.data.length co6]) rfl sz_26 (.t .z) (.t (.s .z)) rfl (ones rfl) .z (Nat.le_of_ble_eq_true rfl) (.c .z (.c (.s .z) .n))) ?_
 refine FJ.nil (FJ.then_ (FJ.seq (FJ.seq (FJ.region ?_))))
 refine FJ.ql rfl (q_fieldAddr rfl (.t (.s4 (.s (.s .z)))) (fun _ => fa_26_0 _ _)) (FJ.ql rfl (q_load rfl ag_24 (.t .z) (WS.row (.s (.s (.s .z))) rfl)) (FJ.ql rfl (q_len rfl u_24 (.t .z)) (FJ.ql rfl (q_move rfl .c) (FJ.nil ?_))))
 refine FJ.then_ (FJ.block ?_)
 refine FJ.add (c := ownA kSl_66 [] [.slice none 0 0]) (fun w S => own_nil w S none) ?_
 refine FJ.loopi (γ := Nat × (Option Addr) × Nat) (fun ⟨k, Agk0, cgk0⟩ => [(13, .int .i64 (k : Int)), (12, .int .i64 (f.inodes.length : Int)), (11, .slice A0_0 f.inodes.length c0_0), (3, .pointer (some ⟨g7, 0, none⟩)), (2, .pointer (some ⟨g4, 0, none⟩))]) (fun ⟨k, Agk0, cgk0⟩ => [ownA kSl_66 (List.take k f.inodes) [.slice Agk0 (List.take k f.inodes).length cgk0], rowA g7 26 2 1 [.slice Agk0 (List.take k f.inodes).length cgk0, .slice Ao6 f.data.length co6], ownA kSl_39 f.data [.slice Ao6 f.data.length co6], rowA g4 26 2 1 [.slice none 0 0, .slice none 0 0], rowA g3 26 2 1 [.slice A0_0 f.inodes.length c0_0, .slice A0_1 f.data.length c0_1]]) (fun ⟨k, Agk0, cgk0⟩ => k ≤ f.inodes.length) (fun ⟨k, Agk0, cgk0⟩ => f.inodes.length - k) (0, none, 0) (Nat.zero_le _) (.c .z (.c (.s .z) (.c (.s (.s .z)) (.c (.s4 .z) (.c (.s4 (.s4 (.s .z))) .n))))) (fun _ h => h.sel (.c .z (.c .z (.c .z (.c .z (.c .z .n)))))) ?_
 rintro ⟨k, Agk0, cgk0⟩ hk
 refine FJ.seq (FJ.region (FJ.ql rfl (q_lss rfl (.t .z) (.t (.s .z))) (FJ.nil (FJ.then_ ?_))))
 refine FJ.seq ?_
 refine FJ.condP (.t .z) (fun b9 => ?_) (fun b9 => ?_)
 refine FJ.skip (FJ.then_ (FJ.seq (FJ.block (FJ.seq ?_))))
 refine FJ.region ?_
 obtain ⟨ad10, hAad10, hrad10⟩ := he0_0 (by omega)
 subst hAad10
 obtain ⟨x11, hx11⟩ := get_ex (xs := f.inodes) (j := k) (by omega)
 obtain ⟨ece12, hre12, hFe12, hce12⟩ := hrad10.elem hx11
 obtain ⟨ue12_3, ue12_4, rfl, he12_3, he12_4⟩ := kT_66_ro hre12
 obtain ⟨Ae12_3, ce12_3, rfl, hle12_3, hme12_3, hbe12_3, hee12_3⟩ := ro_form he12_3
 obtain ⟨Ae12_4, ce12_4, rfl, hle12_4, hme12_4, hbe12_4, hee12_4⟩ := ro_form he12_4
 refine FJ.ql rfl (q_indexAddr (j := k) rfl u_24 sz_66 (.t (.s (.s (.s .z)))) (.t (.s .z)) rfl (by omega)) ?_
 refine FJ.ql rfl (q_loadA (cs := [.int .i64 x11.kind, .int .i64 x11.links, .int .i64 x11.size, .slice Ae12_3 x11.blocks.length ce12_3, .slice Ae12_4 x11.ents.length ce12_4]) rfl ag_66 sz_66 (.t .z) (WS.els hFe12 hce12)) ?_
 refine FJ.e (goes_list rfl) rfl (by decide) rfl (e_alloc rfl z_66 rfl rfl) ?_
 rintro _ _ ⟨g15, rfl, rfl⟩
 refine FJ.es (goes_list rfl) rfl (es_store (off := 0) (cs := [.int .i64 x11.kind, .int .i64 x11.links, .int .i64 x11.size, .slice Ae12_3 x11.blocks.length ce12_3, .slice Ae12_4 x11.ents.length ce12_4]) rfl sz_66 (.t .z) (.t (.s .z)) rfl (ones rfl) .z (Nat.le_of_ble_eq_true rfl) (.c .z (.c (.s .z) (.c (.s (.s .z)) (.c (.s (.s (.s .z))) (.c (.s (.s (.s (.s .z)))) .n)))))) ?_
 refine FJ.nil (FJ.then_ (FJ.seq ?_))
 refine FJ.sel (.c (.s .z) (.c (.s (.s .z)) (.c .z (.c .z (.c .z (.c .z .n)))))) ?_
 refine FJ.draw [rowA g15 66 5 1 [.int .i64 x11.kind, .int .i64 x11.links, .int .i64 x11.size, .slice Ae12_3 x11.blocks.length ce12_3, .slice Ae12_4 x11.ents.length ce12_4], rowA g7 26 2 1 [.slice Agk0 (List.take k f.inodes).length cgk0, .slice Ao6 f.data.length co6], rowA g4 26 2 1 [.slice none 0 0, .slice none 0 0], rowA g3 26 2 1 [.slice (some ad10) f.inodes.length c0_0, .slice A0_1 f.data.length c0_1]] 7 (by kernel_rfl) ?_
 refine FJ.sch [(0, true), (1, true), (3, true), (4, true), (2, false), (6, true), (5, false), (7, false), (8, false), (9, false)] 0 #[true, true, true, true, true, true, true, true, true, true] (by rfl) (by kernel_rfl) ?_
 refine FJ.dq rfl rfl rfl (by decide) rfl (.s (.s .z)) (q_fieldAddr rfl (.t .z) (fun _ => fa_66_3 _ _)) (FJ.dq rfl rfl rfl (by decide) rfl (.s (.s .z)) (q_load rfl ag_58 (.t .z) (WS.row .z rfl)) (FJ.dq rfl rfl rfl (by decide) rfl (.s (.s .z)) (q_fieldAddr rfl (.t (.s (.s .z))) (fun _ => fa_66_4 _ _)) (FJ.dq rfl rfl rfl (by decide) rfl (.s (.s .z)) (q_load rfl ag_64 (.t .z) (WS.row .z rfl)) ?_)))
 refine FJ.call (goes_sch rfl rfl) rfl (by decide) rfl (c_call rfl Tryz.func111 rfl rfl (args1 (.t (.s (.s .z))))) .n (fun w1 S1 hs tr => c_111 (tr.ctx he12_3)) ?_
 rintro _ _ rfl
 refine FJ.cat (.c .n) ?_
 refine FJ.know (WS.oform .z) ?_
 rintro ⟨Ao17, co17, rfl, hlo17, hmo17, hbo17⟩
 refine FJ.sk (.s (.s (.s .z))) ?_
 refine FJ.dq rfl rfl rfl (by decide) rfl (.s (.s (.s .z))) (q_fieldAddr rfl (.t (.s4 (.s .z))) (fun _ => fa_66_3 _ _)) ?_
 refine FJ.call (goes_sch rfl rfl) rfl (by decide) rfl (c_call rfl Tryz.func112 rfl rfl (args1 (.t (.s (.s .z))))) .n (fun w1 S1 hs tr => c_112 (tr.ctx he12_4)) ?_
 rintro _ _ rfl
 refine FJ.cat (.c .n) ?_
 refine FJ.know (WS.oform .z) ?_
 rintro ⟨Ao19, co19, rfl, hlo19, hmo19, hbo19⟩
 refine FJ.sk (.s4 .z) ?_
 refine FJ.es (goes_sch rfl rfl) rfl (es_store (off := 3) (cs := [.slice Ao17 x11.blocks.length co17]) rfl sz_58 (.t (.s .z)) (.t (.s (.s .z))) rfl (ones rfl) (.s4 .z) (Nat.le_of_ble_eq_true rfl) (.c (.s (.s (.s .z))) .n)) ?_
 refine FJ.sl rfl ?_
 refine FJ.q (goes_sch rfl rfl) rfl (by decide) rfl (q_fieldAddr rfl (.t (.s4 (.s (.s (.s .z))))) (fun _ => fa_66_4 _ _)) ?_
 refine FJ.sl rfl ?_
 refine FJ.es (goes_sch rfl rfl) rfl (es_store (off := 4) (cs := [.slice Ao19 x11.ents.length co19]) rfl sz_64 (.t .z) (.t (.s .z)) rfl (ones rfl) .z (Nat.le_of_ble_eq_true rfl) (.c (.s (.s (.s (.s .z)))) .n)) ?_
 refine FJ.sl rfl ?_
 refine FJ.schN ?_
 refine FJ.drawN (by kernel_rfl) ?_
 refine FJ.then_ (FJ.region (FJ.ql rfl (q_fieldAddr rfl (.t (.s4 (.s4 (.s4 (.s (.s (.s .z))))))) (fun _ => fa_26_0 _ _)) (FJ.ql rfl (q_load rfl ag_24 (.t .z) (WS.row (.s4 (.s .z)) rfl)) ?_)))
 refine FJ.ql rfl (q_loadA (cs := [.int .i64 x11.kind, .int .i64 x11.links, .int .i64 x11.size, .slice Ao17 x11.blocks.length co17, .slice Ao19 x11.ents.length co19]) rfl ag_66 sz_66 (.t (.s4 (.s4 (.s (.s .z))))) (WS.rows0 .z (fun i u h => by exact h))) ?_
 refine FJ.e (goes_list rfl) rfl (by decide) rfl (e_buildSliceL (ps := [(0, .agg #[.int .i64 x11.kind, .int .i64 x11.links, .int .i64 x11.size, .slice Ao17 x11.blocks.length co17, .slice Ao19 x11.ents.length co19])]) (cs := [.int .i64 x11.kind, .int .i64 x11.links, .int .i64 x11.size, .slice Ao17 x11.blocks.length co17, .slice Ao19 x11.ents.length co19]) rfl u_24 (inz inf_66) (by decide) (by intro act hact; simp only [List.map_toArray, List.map_cons, List.map_nil, (show Val _ _ _ from (.t .z)) act hact]) rfl rfl (by decide) rfl rfl) ?_
 rintro _ _ ⟨g20, rfl, rfl⟩
 refine FJ.turns (c := ownA kT_66 (⟨x11.kind, x11.links, x11.size, x11.blocks, x11.ents⟩ : DInode) [.int .i64 x11.kind, .int .i64 x11.links, .int .i64 x11.size, .slice Ao17 x11.blocks.length co17, .slice Ao19 x11.ents.length co19]) (.c (.s (.s (.s .z))) (.c (.s (.s .z)) .n)) (fun w S h => kT_66_omk (⟨x11.kind, x11.links, x11.size, x11.blocks, x11.ents⟩ : DInode) h) ?_
 refine FJ.e (goes_list rfl) rfl (by decide) rfl (e_append1 rfl u_24 inf_66 rfl (.t (.s (.s .z))) (.t .z) (.c (.s (.s (.s .z))) (.c (.s .z) (.c .z .n))) (by first | omega | (simp only [List.length_take, List.length_cons, List.length_nil]; omega)) (by first | omega | (simp only [List.length_take, List.length_cons, List.length_nil]; omega))) ?_
 rintro _ _ rfl
 refine FJ.ceq .z (take_get hx11).symm ?_
 refine FJ.know (WS.oform .z) ?_
 rintro ⟨Ao22, co22, rfl, hlo22, hmo22, hbo22⟩
 refine FJ.ql rfl (q_fieldAddr rfl (.t (.s16 (.s4 .z))) (fun _ => fa_26_0 _ _)) ?_
 refine FJ.es (goes_list rfl) rfl (es_store (off := 0) (cs := [.slice Ao22 (List.take (k + 1) f.inodes).length co22]) rfl sz_24 (.t .z) (.t (.s .z)) rfl (ones rfl) (.s (.s (.s .z))) (Nat.le_of_ble_eq_true rfl) (.c .z .n)) ?_
 refine FJ.nil (FJ.inBN (FJ.then_ (FJ.region ?_)))
 refine FJ.ql rfl (q_add (c := ((k + 1 : Nat) : Int)) rfl (.t (.s16 (.s (.s .z)))) .c (wr (by omega) (by omega) (by omega))) ?_
 refine FJ.er (.s16 (.s (.s (.s .z)))) (FJ.ql rfl (q_move rfl (.t .z)) (FJ.nil ?_))
 refine FJ.again ((k + 1), Ao22, co22) (by omega) (by first | omega | (dsimp only; omega)) (.c .z (.c (.s16 (.s4 .z)) (.c (.s16 (.s4 (.s .z))) (.c (.s16 (.s4 (.s (.s .z)))) (.c (.s16 (.s4 (.s (.s (.s .z))))) .n))))) (fun _ h => h.sel (.c (.s .z) (.c .z (.c (.s .z) (.c (.s .z) (.c (.s .z) .n))))))
 refine FJ.exit (FJ.thenE (FJ.thenE (FJ.inB (FJ.then_ ?_))))
 refine FJ.seq (FJ.region ?_)
 refine FJ.ql rfl (q_loadA (cs := [.slice Agk0 (List.take k f.inodes).length cgk0, .slice Ao6 f.data.length co6]) rfl ag_26 sz_26 (.t (.s4 .z)) (WS.rows0 (.s .z) (fun i u h => by exact h))) ?_
 refine FJ.es (goes_list rfl) rfl (es_store (off := 0) (cs := [.slice Agk0 (List.take k f.inodes).length cgk0, .slice Ao6 f.data.length co6]) rfl sz_26 (.t (.s4 (.s (.s .z)))) (.t .z) rfl (ones rfl) (.s (.s (.s .z))) (Nat.le_of_ble_eq_true rfl) (.c .z (.c (.s .z) .n))) ?_
 refine FJ.nil (FJ.then_ (FJ.ret ?_))
 have he23 : List.take k f.inodes = f.inodes := (List.take_of_length_le (by omega))
 refine FJ.eq .z (congrArg (fun z_ => (.agg #[.slice Agk0 (z_).length cgk0, .slice Ao6 f.data.length co6] : Value)) he23) ?_
 refine FJ.chEq .z (congrArg (fun z_ => (rowA g4 26 2 1 [.slice Agk0 (z_).length cgk0, .slice Ao6 f.data.length co6] : Asn)) he23) ?_
 refine FJ.chEq (.s .z) (congrArg (fun z_ => (ownA kSl_66 (z_) [.slice Agk0 (z_).length cgk0] : Asn)) he23) ?_
 refine FJ.chEq (.s (.s .z)) (congrArg (fun z_ => (rowA g7 26 2 1 [.slice Agk0 (z_).length cgk0, .slice Ao6 f.data.length co6] : Asn)) he23) ?_
 refine FJ.doneS (resC (cs := [.slice Agk0 (f.inodes).length cgk0, .slice Ao6 f.data.length co6]) rfl (.s4 (.s (.s .z))) ag_26 sz_26 (WS.rows0 (cs := [.slice Agk0 (f.inodes).length cgk0, .slice Ao6 f.data.length co6]) (.s (.s .z)) (fun _ _ h => h))) (.c (.s .z) (.c (.s (.s .z)) .n)) ?_
 exact ⟨_, _, rfl, rfl⟩
end Go.Proofs.YtbcdcakcmdcafaaGreat

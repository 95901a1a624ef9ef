/- What is proved: contracts of functions, one a function. No condition. -/
import Derived.Test.YtkmcpcahbfdohaaW19
import Derived.Test.YtkmcpcahbfdohaaBase1
namespace Go.Proofs.Ytkmcpcahbfdohaa
open Go Go.RowKit
set_option linter.unusedVariables false
set_option linter.unusedSimpArgs false
set_option maxHeartbeats 1000000 in
set_option maxRecDepth 20000 in
theorem c_130 {w0 : World} {S0 : Bs} {x : (List DExt)} {v0 : Value} (i : Nat) (j : Nat) (hs : Star [ownA kSl_135 x [v0]] w0 S0) (hij : i < j) (hj : j ≤ x.length) :
    Calls Try.prog 130 #[v0, .int .i64 (i : Int), .int .i64 (j : Int)] w0 (TriPost w0 S0 (fun r l => l = [ownA kSl_135 (List.take i x ++ List.drop j x) [r]])) := by
 refine FJ.enter (N := 33) Try.func130 rfl rfl (by simp) [(0, v0), (1, .int .i64 (i : Int)), (2, .int .i64 (j : Int))] (by simp) hs ?_
 refine FJ.know (WS.oform .z) ?_
 rintro ⟨Ao1, co1, rfl, hlo1, hmo1, hbo1⟩
 refine FJ.know (WS.oad .z (by omega)) ?_
 rintro ⟨ad, rfl⟩
 have hm : (List.take i x ++ List.drop j x).length = i + (x.length - j) := by simp; omega
 refine FJ.seq (FJ.region (FJ.ql rfl (q_assign rfl .c) (FJ.nil (FJ.then_ ?_))))
 refine FJ.seq (FJ.region (FJ.ql rfl (q_move rfl (.t (.s .z))) (FJ.ql rfl (q_move rfl (.t (.s (.s (.s .z))))) (FJ.ql rfl (q_move rfl (.t (.s4 (.s .z)))) ?_))))
 refine FJ.ql rfl (q_move rfl (.t (.s4 .z))) (FJ.ql rfl (q_len rfl u_41 (.t .z)) ?_)
 refine FJ.ql rfl (q_slice3 (a := i) (b := j) (m := x.length) rfl u_41 sz_135 (.t (.s4 .z)) (.t (.s (.s (.s .z)))) (.t (.s (.s .z))) (.t .z) (by omega) (by omega) (by omega)) ?_
 refine FJ.nil (FJ.then_ (FJ.seq (FJ.seq (FJ.region ?_))))
 refine FJ.ql rfl (q_move rfl (.t (.s4 (.s4 .z)))) (FJ.ql rfl (q_move rfl (.t (.s4 (.s4 (.s (.s .z)))))) (FJ.ql rfl (q_eql rfl (.t (.s .z)) (.t .z)) (FJ.nil (FJ.then_ ?_))))
 refine FJ.condP (.t .z) (fun b2 => ?_) (fun b2 => ?_)
 refine FJ.seq (FJ.region (FJ.ql rfl (q_move rfl (.t (.s4 (.s4 (.s (.s .z)))))) (FJ.er (.s4 (.s4 (.s (.s .z)))) (FJ.ql rfl (q_assign rfl (.t .z)) ?_))))
 refine FJ.nil (FJ.then_ (FJ.ret (FJ.thenR ?_)))
 refine FJ.doneS (res1 rfl .z) (.c .z .n) ?_
 exfalso; omega
 refine FJ.skip (FJ.then_ (FJ.seq (FJ.region (FJ.ql rfl (q_move rfl (.t (.s4 (.s4 (.s (.s .z)))))) ?_))))
 refine FJ.ql rfl (q_len rfl u_41 (.t .z)) (FJ.ql rfl (q_assign rfl (.t .z)) (FJ.nil (FJ.then_ (FJ.seq ?_))))
 refine FJ.draw [] 7 (by kernel_rfl) ?_
 refine FJ.sch [(0, true), (1, true), (2, true), (3, true), (4, true), (5, true), (6, false), (7, false)] 0 #[true, true, true, true, true, true, true, true] (by rfl) (by kernel_rfl) ?_
 refine FJ.dq rfl rfl rfl (by decide) rfl (.s .z) (q_move rfl (.t (.s4 (.s4 (.s4 (.s .z)))))) (FJ.dq rfl rfl rfl (by decide) rfl (.s .z) (q_move rfl (.t (.s4 (.s4 (.s4 (.s (.s (.s .z)))))))) ?_)
 refine FJ.dq rfl rfl rfl (by decide) rfl (.s .z) (q_sliceHi (b := i) rfl u_41 sz_135 (.t (.s .z)) (.t .z) (by omega)) ?_
 refine FJ.dq rfl rfl rfl (by decide) rfl (.s .z) (q_move rfl (.t (.s16 .z))) (FJ.dq rfl rfl rfl (by decide) rfl (.s .z) (q_move rfl (.t (.s16 (.s (.s (.s .z)))))) ?_)
 refine FJ.dq rfl rfl rfl (by decide) rfl (.s .z) (q_slice (a := j) (b := x.length) rfl u_41 sz_135 (.t (.s .z)) (.inr ⟨_, _, rfl, (.t .z)⟩) (.inl ⟨rfl, rfl⟩) (by omega) (by omega)) ?_
 refine FJ.e (goes_sch rfl rfl) rfl (by decide) rfl (e_appendSelf (i := i) (j := j) rfl u_41 inf_135 (.t (.s (.s (.s .z)))) (.t .z) rfl (.c .z .n) (by omega) (by omega)) ?_
 rintro _ _ ⟨rfl, rfl⟩
 refine FJ.sk (.s .z) ?_
 refine FJ.er (.s16 (.s4 .z)) ?_
 refine FJ.q (goes_sch rfl rfl) rfl (by decide) rfl (q_assign rfl (.t .z)) ?_
 refine FJ.sl rfl ?_
 refine FJ.schN ?_
 refine FJ.drawN (by kernel_rfl) ?_
 refine FJ.then_ (FJ.seq (FJ.region (FJ.ql rfl (q_move rfl (.t .z)) (FJ.ql rfl (q_move rfl (.t (.s .z))) ?_))))
 refine FJ.ql rfl (q_len rfl u_41 (.t .z)) (FJ.ql rfl (q_move rfl (.t (.s4 (.s4 (.s (.s (.s .z))))))) ?_)
 refine FJ.ql rfl (q_slice (a := (List.take i x ++ List.drop j x).length) (b := x.length) rfl u_41 sz_135 (.t (.s (.s (.s .z)))) (.inr ⟨_, _, rfl, (.t (.s .z))⟩) (.inr ⟨_, _, rfl, (.t .z)⟩) (by omega) (by omega)) ?_
 refine FJ.ev (goes_list rfl) rfl (e_clearTail (k := x.length - (List.take i x ++ List.drop j x).length) rfl u_41 inf_135 rfl (ones rfl) (.t .z) rfl (.c .z .n) (by omega)) ?_
 rintro _ _ rfl
 refine FJ.nil (FJ.then_ (FJ.seq (FJ.region (FJ.ql rfl (q_move rfl (.t (.s4 (.s .z)))) ?_))))
 refine FJ.er (.s16 (.s4 (.s4 (.s (.s .z))))) (FJ.ql rfl (q_assign rfl (.t .z)) (FJ.nil (FJ.then_ (FJ.ret ?_))))
 refine FJ.doneS (res1 rfl .z) (.c .z .n) ?_
 rfl

set_option maxHeartbeats 1000000 in
set_option maxRecDepth 20000 in
theorem c_67 {w0 : World} {S0 : Bs} {k : DKern} {cs0 : List Value} (h0 : kT_43.ro w0 (FF w0 S0) k cs0) (a : Int) (key : Int)  :
    Calls Try.prog 67 #[.agg cs0.toArray, .int .i64 a, .int .i64 key] w0 (TriPost w0 S0 (RA_45 (revoke k a key))) := by
 obtain ⟨u0_0, u0_1, u0_2, rfl, h0_0, h0_1, h0_2⟩ := kT_43_ro h0
 obtain ⟨A0_0, c0_0, rfl, hl0_0, hm0_0, hb0_0, he0_0⟩ := ro_form h0_0
 obtain ⟨A0_1, c0_1, rfl, hl0_1, hm0_1, hb0_1, he0_1⟩ := ro_form h0_1
 obtain ⟨A0_2, c0_2, rfl, hl0_2, hm0_2, hb0_2, he0_2⟩ := ro_form h0_2
 refine FJ.enter (N := 45) Try.func67 rfl rfl (by simp) [(0, .agg #[.slice A0_0 k.disk.blocks.length c0_0, .slice A0_1 k.disk.cache.length c0_1, .slice A0_2 k.exts.length c0_2]), (1, .int .i64 a), (2, .int .i64 key)] (by simp) (l0 := []) trivial ?_
 refine FJ.seq (FJ.region ?_)
 refine FJ.e (goes_list rfl) rfl (by decide) rfl (e_box (cs := [.slice A0_0 k.disk.blocks.length c0_0, .slice A0_1 k.disk.cache.length c0_1, .slice A0_2 k.exts.length c0_2]) (n := 3) rfl (.t .z) rfl rfl) ?_
 rintro _ _ ⟨g4, rfl, rfl⟩
 refine FJ.e (goes_list rfl) rfl (by decide) rfl (e_box (cs := [.int .i64 a]) (n := 1) rfl (.t (.s (.s .z))) rfl rfl) ?_
 rintro _ _ ⟨g5, rfl, rfl⟩
 refine FJ.e (goes_list rfl) rfl (by decide) rfl (e_alloc rfl z_45 rfl rfl) ?_
 rintro _ _ ⟨g6, rfl, rfl⟩
 refine FJ.nil (FJ.then_ (FJ.seq (FJ.seq (FJ.region ?_))))
 refine FJ.ql rfl (q_loadA (cs := [.slice A0_0 k.disk.blocks.length c0_0, .slice A0_1 k.disk.cache.length c0_1, .slice A0_2 k.exts.length c0_2]) rfl ag_43 sz_43 (.t (.s (.s .z))) (WS.rows0 (.s (.s .z)) (fun i u h => by exact h))) ?_
 refine FJ.call (goes_list rfl) rfl (by decide) rfl (c_call rfl Try.func112 rfl rfl (args1 (.t .z))) .n (fun w1 S1 hs tr => c_112 (kT_43_mk k (tr.ctx h0_0) (tr.ctx h0_1) (tr.ctx h0_2))) ?_
 rintro _ _ ⟨rfl, rfl⟩
 refine FJ.cat .n ?_
 refine FJ.ql rfl (q_assign rfl (.t .z)) (FJ.nil (FJ.then_ (FJ.seq (FJ.region ?_))))
 refine FJ.ql rfl (q_move rfl (.t .z)) (FJ.ql rfl (q_neq rfl (.t .z) .c) (FJ.nil (FJ.then_ ?_)))
 refine FJ.condN (.t .z) (fun b7 => ?_) (fun b7 => ?_)
 refine FJ.seq (FJ.region (FJ.ql rfl (q_move rfl (.t (.s (.s .z)))) ?_))
 refine FJ.ql rfl (q_build (ps := [(0, .int .i64 (kernFault k))]) (cs := [.int .i64 (kernFault k), .slice none 0 0, .slice none 0 0, .slice none 0 0, .slice none 0 0]) rfl bl_45 (by intro act hact; simp only [List.map_toArray, List.map_cons, List.map_nil, (show Val _ _ _ from (.t .z)) act hact]) rfl) ?_
 refine FJ.es (goes_list rfl) rfl (es_store (off := 0) (cs := [.int .i64 (kernFault k), .slice none 0 0, .slice none 0 0, .slice none 0 0, .slice none 0 0]) rfl sz_45 (.t (.s4 (.s (.s (.s .z))))) (.t .z) rfl (ones rfl) .z (Nat.le_of_ble_eq_true rfl) (.c .z (.c (.s .z) (.c (.s (.s .z)) (.c (.s (.s (.s .z))) (.c (.s (.s (.s (.s .z)))) .n)))))) ?_
 refine FJ.nil (FJ.then_ (FJ.ret (FJ.thenR ?_)))
 refine FJ.add (c := ownA kSl_2 [] [.slice none 0 0]) (fun w S => own_nil w S none) ?_
 refine FJ.add (c := ownA kSl_40 [] [.slice none 0 0]) (fun w S => own_nil w S none) ?_
 refine FJ.add (c := ownA kSl_57 [] [.slice none 0 0]) (fun w S => own_nil w S none) ?_
 refine FJ.add (c := ownA kSl_135 [] [.slice none 0 0]) (fun w S => own_nil w S none) ?_
 refine FJ.doneS (resC (cs := [.int .i64 (kernFault k), .slice none 0 0, .slice none 0 0, .slice none 0 0, .slice none 0 0]) rfl (.s4 (.s (.s (.s .z)))) ag_45 sz_45 (WS.rows0 (cs := [.int .i64 (kernFault k), .slice none 0 0, .slice none 0 0, .slice none 0 0, .slice none 0 0]) (.s4 .z) (fun _ _ h => h))) (.c (.s (.s (.s .z))) (.c (.s (.s .z)) (.c (.s .z) (.c .z .n)))) ?_
 rw [revoke_f (by assumption)]
 exact ⟨_, _, _, _, rfl, rfl⟩
 refine FJ.skip (FJ.then_ (FJ.seq (FJ.region (FJ.ql rfl (q_fieldAddr rfl (.t (.s4 (.s (.s (.s .z))))) (fun _ => fa_43_1 _ _)) ?_))))
 refine FJ.ql rfl (q_load rfl ag_41 (.t .z) (WS.row (.s (.s .z)) rfl)) (FJ.ql rfl (q_makeFunc rfl args0 (args1 (.t (.s4 (.s4 .z))))) ?_)
 refine FJ.call (goes_list rfl) rfl (by decide) rfl (c_call rfl Try.func128 rfl rfl (args2 (.t (.s .z)) (.t .z))) .n (fun w1 S1 hs tr => c_128 (tr.ctx h0_2) Try.func129 rfl rfl (fun w2 S2 h2 x => c_129 (kT_135_mk x) (PtrRo.wide (tr.ptr (.s .z) ⟨rfl, trivial⟩) h2))) ?_
 rintro _ _ ⟨rfl, rfl⟩
 refine FJ.cat .n ?_
 refine FJ.ql rfl (q_assign rfl (.t .z)) (FJ.nil (FJ.then_ (FJ.seq (FJ.block ?_))))
 refine FJ.seq (FJ.region (FJ.ql rfl (q_move rfl (.t .z)) (FJ.ql rfl (q_lss rfl (.t .z) .c) (FJ.ql rfl (q_assign rfl (.t .z)) ?_))))
 refine FJ.nil (FJ.then_ ?_)
 refine FJ.condP (.t .z) (fun b12 => ?_) (fun b12 => ?_)
 refine FJ.seq (FJ.region ?_)
 refine FJ.ql rfl (q_build (ps := [(0, .int .i64 4)]) (cs := [.int .i64 4, .slice none 0 0, .slice none 0 0, .slice none 0 0, .slice none 0 0]) rfl bl_45 (by intro act hact; simp only [List.map_toArray, List.map_cons, List.map_nil, (show Val _ _ _ from .c) act hact]) rfl) ?_
 refine FJ.es (goes_list rfl) rfl (es_store (off := 0) (cs := [.int .i64 4, .slice none 0 0, .slice none 0 0, .slice none 0 0, .slice none 0 0]) rfl sz_45 (.t (.s4 (.s4 (.s4 (.s (.s .z)))))) (.t .z) rfl (ones rfl) .z (Nat.le_of_ble_eq_true rfl) (.c .z (.c (.s .z) (.c (.s (.s .z)) (.c (.s (.s (.s .z))) (.c (.s (.s (.s (.s .z)))) .n)))))) ?_
 refine FJ.nil (FJ.then_ (FJ.ret (FJ.inBR (FJ.thenR ?_))))
 refine FJ.add (c := ownA kSl_2 [] [.slice none 0 0]) (fun w S => own_nil w S none) ?_
 refine FJ.add (c := ownA kSl_40 [] [.slice none 0 0]) (fun w S => own_nil w S none) ?_
 refine FJ.add (c := ownA kSl_57 [] [.slice none 0 0]) (fun w S => own_nil w S none) ?_
 refine FJ.add (c := ownA kSl_135 [] [.slice none 0 0]) (fun w S => own_nil w S none) ?_
 refine FJ.doneS (resC (cs := [.int .i64 4, .slice none 0 0, .slice none 0 0, .slice none 0 0, .slice none 0 0]) rfl (.s4 (.s4 (.s4 (.s (.s .z))))) ag_45 sz_45 (WS.rows0 (cs := [.int .i64 4, .slice none 0 0, .slice none 0 0, .slice none 0 0, .slice none 0 0]) (.s4 .z) (fun _ _ h => h))) (.c (.s (.s (.s .z))) (.c (.s (.s .z)) (.c (.s .z) (.c .z .n)))) ?_
 rw [revoke_4 (by assumption) (idx_none (by assumption))]
 exact ⟨_, _, _, _, rfl, rfl⟩
 obtain ⟨ix, ex, hix, hfi, hex, hlx⟩ := idx_frm b12
 refine FJ.eq (.s (.s (.s .z))) (congrArg (Value.int .i64) hix) ?_
 refine FJ.seq (FJ.region (FJ.ql rfl (q_fieldAddr rfl (.t (.s4 (.s4 (.s4 (.s (.s (.s .z))))))) (fun _ => fa_43_1 _ _)) (FJ.ql rfl (q_load rfl ag_41 (.t .z) (WS.row (.s (.s .z)) rfl)) (FJ.ql rfl (q_move rfl (.t (.s (.s .z)))) ?_))))
 obtain ⟨ad17, hAad17, hrad17⟩ := he0_2 (by omega)
 subst hAad17
 obtain ⟨x18, hx18⟩ := get_ex (xs := k.exts) (j := ix) (by omega)
 obtain ⟨ece19, hre19, hFe19, hce19⟩ := hrad17.elem hx18
 obtain rfl := kT_135_ro hre19
 refine FJ.ql rfl (q_indexAddr (j := ix) rfl u_41 sz_135 (.t (.s .z)) (.t .z) rfl (by omega)) ?_
 refine FJ.ql rfl (q_fieldAddr rfl (.t .z) (fun _ => fa_135_2 _ _)) (FJ.ql rfl (q_load rfl ag_2 (.t .z) (WS.el hFe19 hce19 rfl)) (FJ.ql rfl (q_move rfl (.t (.s16 (.s4 (.s4 .z))))) (FJ.ql rfl (q_neq rfl (.t (.s .z)) (.t .z)) (FJ.ql rfl (q_assign rfl (.t .z)) ?_))))
 refine FJ.nil (FJ.then_ ?_)
 refine FJ.condN (.t .z) (fun b20 => ?_) (fun b20 => ?_)
 refine FJ.seq (FJ.region ?_)
 refine FJ.ql rfl (q_build (ps := [(0, .int .i64 6)]) (cs := [.int .i64 6, .slice none 0 0, .slice none 0 0, .slice none 0 0, .slice none 0 0]) rfl bl_45 (by intro act hact; simp only [List.map_toArray, List.map_cons, List.map_nil, (show Val _ _ _ from .c) act hact]) rfl) ?_
 refine FJ.es (goes_list rfl) rfl (es_store (off := 0) (cs := [.int .i64 6, .slice none 0 0, .slice none 0 0, .slice none 0 0, .slice none 0 0]) rfl sz_45 (.t (.s16 (.s4 (.s (.s (.s .z)))))) (.t .z) rfl (ones rfl) .z (Nat.le_of_ble_eq_true rfl) (.c .z (.c (.s .z) (.c (.s (.s .z)) (.c (.s (.s (.s .z))) (.c (.s (.s (.s (.s .z)))) .n)))))) ?_
 refine FJ.nil (FJ.then_ (FJ.ret (FJ.inBR (FJ.thenR ?_))))
 refine FJ.add (c := ownA kSl_2 [] [.slice none 0 0]) (fun w S => own_nil w S none) ?_
 refine FJ.add (c := ownA kSl_40 [] [.slice none 0 0]) (fun w S => own_nil w S none) ?_
 refine FJ.add (c := ownA kSl_57 [] [.slice none 0 0]) (fun w S => own_nil w S none) ?_
 refine FJ.add (c := ownA kSl_135 [] [.slice none 0 0]) (fun w S => own_nil w S none) ?_
 refine FJ.doneS (resC (cs := [.int .i64 6, .slice none 0 0, .slice none 0 0, .slice none 0 0, .slice none 0 0]) rfl (.s16 (.s4 (.s (.s (.s .z))))) ag_45 sz_45 (WS.rows0 (cs := [.int .i64 6, .slice none 0 0, .slice none 0 0, .slice none 0 0, .slice none 0 0]) (.s4 .z) (fun _ _ h => h))) (.c (.s (.s (.s .z))) (.c (.s (.s .z)) (.c (.s .z) (.c .z .n)))) ?_
 rw [revoke_6 (by assumption) hfi hx18 (by assumption)]
 exact ⟨_, _, _, _, rfl, rfl⟩
 refine FJ.skip (FJ.inBN (FJ.then_ (FJ.seq (FJ.region ?_))))
 refine FJ.ql rfl (q_loadA (cs := [.slice A0_0 k.disk.blocks.length c0_0, .slice A0_1 k.disk.cache.length c0_1, .slice (some ad17) k.exts.length c0_2]) rfl ag_43 sz_43 (.t (.s16 (.s4 (.s4 .z)))) (WS.rows0 (.s (.s .z)) (fun i u h => by exact h))) ?_
 refine FJ.call (goes_list rfl) rfl (by decide) rfl (c_call rfl Try.func124 rfl rfl (args1 (.t .z))) .n (fun w1 S1 hs tr => c_124 (kT_43_mk k (tr.ctx h0_0) (tr.ctx h0_1) (tr.ctx h0_2))) ?_
 rintro _ _ ⟨v25, v27, v29, rfl, rfl⟩
 refine FJ.cat (.c (.c (.c .n))) ?_
 refine FJ.know (WS.oform .z) ?_
 rintro ⟨Ao31, co31, rfl, hlo31, hmo31, hbo31⟩
 refine FJ.know (WS.oform (.s .z)) ?_
 rintro ⟨Ao32, co32, rfl, hlo32, hmo32, hbo32⟩
 refine FJ.know (WS.oform (.s (.s .z))) ?_
 rintro ⟨Ao33, co33, rfl, hlo33, hmo33, hbo33⟩
 refine FJ.e (goes_list rfl) rfl (by decide) rfl (e_alloc rfl z_43 rfl rfl) ?_
 rintro _ _ ⟨g34, rfl, rfl⟩
 refine FJ.es (goes_list rfl) rfl (es_store (off := 0) (cs := [.slice Ao31 k.disk.blocks.length co31, .slice Ao32 k.disk.cache.length co32, .slice Ao33 k.exts.length co33]) rfl sz_43 (.t .z) (.t (.s .z)) rfl (ones rfl) .z (Nat.le_of_ble_eq_true rfl) (.c .z (.c (.s .z) (.c (.s (.s .z)) .n)))) ?_
 refine FJ.nil (FJ.then_ (FJ.seq (FJ.region (FJ.ql rfl (q_fieldAddr rfl (.t .z) (fun _ => fa_43_1 _ _)) ?_))))
 refine FJ.ql rfl (q_load rfl ag_41 (.t .z) (WS.row .z rfl)) (FJ.ql rfl (q_move rfl (.t (.s4 (.s4 (.s4 (.s (.s .z))))))) (FJ.ql rfl (q_move rfl (.t (.s4 (.s4 (.s4 (.s (.s (.s .z)))))))) ?_))
 refine FJ.ql rfl (q_add (c := ((ix + 1 : Nat) : Int)) rfl (.t .z) .c (wr (by omega) (by omega) (by omega))) ?_
 refine FJ.call (goes_list rfl) rfl (by decide) rfl (c_call rfl Try.func130 rfl rfl (args3 (.t (.s (.s (.s .z)))) (.t (.s (.s .z))) (.t .z))) (.c (.s (.s (.s .z))) .n) (fun w1 S1 hs tr => c_130 _ _ hs (by omega) (by omega)) ?_
 rintro _ _ rfl
 refine FJ.cat (.c .n) ?_
 refine FJ.know (WS.oform .z) ?_
 rintro ⟨Ao36, co36, rfl, hlo36, hmo36, hbo36⟩
 refine FJ.ql rfl (q_fieldAddr rfl (.t (.s4 (.s (.s .z)))) (fun _ => fa_43_1 _ _)) ?_
 refine FJ.es (goes_list rfl) rfl (es_store (off := 2) (cs := [.slice Ao36 (List.take ix k.exts ++ List.drop (ix + 1) k.exts).length co36]) rfl sz_41 (.t .z) (.t (.s .z)) rfl (ones rfl) (.s .z) (Nat.le_of_ble_eq_true rfl) (.c (.s (.s .z)) .n)) ?_
 refine FJ.nil (FJ.then_ (FJ.seq (FJ.region ?_)))
 refine FJ.ql rfl (q_loadA (cs := [.slice Ao31 k.disk.blocks.length co31, .slice Ao32 k.disk.cache.length co32, .slice Ao36 (List.take ix k.exts ++ List.drop (ix + 1) k.exts).length co36]) rfl ag_43 sz_43 (.t (.s4 (.s (.s (.s .z))))) (WS.rows0 .z (fun i u h => by exact h))) ?_
 refine FJ.ql rfl (q_build (ps := [(2, .agg #[.slice Ao31 k.disk.blocks.length co31, .slice Ao32 k.disk.cache.length co32, .slice Ao36 (List.take ix k.exts ++ List.drop (ix + 1) k.exts).length co36])]) (cs := [.int .i64 0, .slice none 0 0, .slice Ao31 k.disk.blocks.length co31, .slice Ao32 k.disk.cache.length co32, .slice Ao36 (List.take ix k.exts ++ List.drop (ix + 1) k.exts).length co36]) rfl bl_45 (by intro act hact; simp only [List.map_toArray, List.map_cons, List.map_nil, (show Val _ _ _ from (.t .z)) act hact]) rfl) ?_
 refine FJ.es (goes_list rfl) rfl (es_store (off := 0) (cs := [.int .i64 0, .slice none 0 0, .slice Ao31 k.disk.blocks.length co31, .slice Ao32 k.disk.cache.length co32, .slice Ao36 (List.take ix k.exts ++ List.drop (ix + 1) k.exts).length co36]) rfl sz_45 (.t (.s16 (.s16 (.s (.s .z))))) (.t .z) rfl (ones rfl) (.s4 .z) (Nat.le_of_ble_eq_true rfl) (.c .z (.c (.s .z) (.c (.s (.s .z)) (.c (.s (.s (.s .z))) (.c (.s (.s (.s (.s .z)))) .n)))))) ?_
 refine FJ.nil (FJ.then_ (FJ.ret ?_))
 refine FJ.ceq (.s (.s .z)) (List.eraseIdx_eq_take_drop_succ ..).symm ?_
 refine FJ.add (c := ownA kSl_2 [] [.slice none 0 0]) (fun w S => own_nil w S none) ?_
 refine FJ.doneS (resC (cs := [.int .i64 0, .slice none 0 0, .slice Ao31 k.disk.blocks.length co31, .slice Ao32 k.disk.cache.length co32, .slice Ao36 (List.take ix k.exts ++ List.drop (ix + 1) k.exts).length co36]) rfl (.s16 (.s16 (.s (.s .z)))) ag_45 sz_45 (WS.rows0 (cs := [.int .i64 0, .slice none 0 0, .slice Ao31 k.disk.blocks.length co31, .slice Ao32 k.disk.cache.length co32, .slice Ao36 (List.take ix k.exts ++ List.drop (ix + 1) k.exts).length co36]) (.s (.s .z)) (fun _ _ h => h))) (.c .z (.c (.s (.s (.s .z))) (.c (.s (.s (.s .z))) (.c .z .n)))) ?_
 rw [revoke_0 (by assumption) hfi hx18 (by assumption)]
 exact ⟨_, _, _, _, rfl, rfl⟩

end Go.Proofs.Ytkmcpcahbfdohaa

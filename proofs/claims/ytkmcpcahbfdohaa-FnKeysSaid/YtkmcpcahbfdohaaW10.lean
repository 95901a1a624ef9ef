/- What is proved: contracts of functions, one a function. No condition. -/
import Derived.Test.YtkmcpcahbfdohaaW9
namespace Go.Proofs.Ytkmcpcahbfdohaa
open Go Go.RowKit
set_option linter.unusedVariables false
set_option linter.unusedSimpArgs false
set_option maxHeartbeats 1000000 in
set_option maxRecDepth 20000 in
theorem c_104 {w0 : World} {S0 : Bs} {d : DDisk} {ad0 : Addr} (h0 : PtrRo kT_25 w0 (FF w0 S0) ad0 d) (a : Int)  :
    Calls Try.prog 104 #[.pointer (some ad0), .int .i64 a] w0 (TriPost w0 S0 (fun r l => r = .bool (decide (placeIn d.blocks.length a)) ∧ l = [])) := by
 obtain ⟨ec0, hF0, hr0, hc0⟩ := id h0
 obtain ⟨u0_0, u0_1, rfl, h0_0, h0_1⟩ := kT_25_ro hr0
 obtain ⟨A0_0, c0_0, rfl, hl0_0, hm0_0, hb0_0, he0_0⟩ := ro_form h0_0
 obtain ⟨A0_1, c0_1, rfl, hl0_1, hm0_1, hb0_1, he0_1⟩ := ro_form h0_1
 refine FJ.enter (N := 13) Try.func104 rfl rfl (by simp) [(0, .pointer (some ad0)), (1, .int .i64 a)] (by simp) (l0 := []) trivial ?_
 refine FJ.seq (FJ.region (FJ.ql rfl (q_assign rfl .c) (FJ.nil (FJ.then_ ?_))))
 refine FJ.seq (FJ.region (FJ.ql rfl (q_move rfl (.t (.s (.s .z)))) (FJ.ql rfl (q_move rfl (.t (.s (.s .z)))) (FJ.ql rfl (q_nilCheck rfl (.t .z)) ?_))))
 refine FJ.ql rfl (q_fieldAddr rfl (.t .z) (fun _ => fa_25_0 _ _)) (FJ.ql rfl (q_load rfl ag_22 (.t .z) (WS.el hF0 hc0 rfl)) (FJ.ql rfl (q_len rfl u_22 (.t .z)) ?_))
 refine FJ.ql rfl (q_sub (c := (d.blocks.length : Int) - 1) rfl (.t .z) .c (wr (by omega) (by omega) (by omega))) ?_
 refine FJ.call (goes_list rfl) rfl (by decide) rfl (c_call rfl Try.func77 rfl rfl (args3 (.t (.s4 (.s (.s .z)))) .c (.t .z))) .n (fun w1 S1 hs tr => c_77 _ _ _) ?_
 rintro _ _ ⟨rfl, rfl⟩
 refine FJ.cat .n ?_
 refine FJ.er (.s4 (.s4 .z)) (FJ.ql rfl (q_assign rfl (.t .z)) (FJ.nil (FJ.then_ (FJ.ret ?_))))
 refine FJ.doneS (res1 rfl .z) .n ?_
 exact ⟨rfl, rfl⟩

set_option maxHeartbeats 1000000 in
set_option maxRecDepth 20000 in
theorem c_115 {w0 : World} {S0 : Bs} {k : DKern} {ad0 : Addr} (h0 : PtrRo kT_43 w0 (FF w0 S0) ad0 k) (a : Int) (hk : kernFault k = 0) :
    Calls Try.prog 115 #[.pointer (some ad0), .int .i64 a] w0 (TriPost w0 S0 (fun r l => r = .int .i64 (ownKey a k.exts) ∧ l = [])) := by
 obtain ⟨ec0, hF0, hr0, hc0⟩ := id h0
 obtain ⟨u0_0, u0_1, u0_2, rfl, h0_0, h0_1, h0_2⟩ := kT_43_ro hr0
 obtain ⟨A0_0, c0_0, rfl, hl0_0, hm0_0, hb0_0, he0_0⟩ := ro_form h0_0
 obtain ⟨A0_1, c0_1, rfl, hl0_1, hm0_1, hb0_1, he0_1⟩ := ro_form h0_1
 obtain ⟨A0_2, c0_2, rfl, hl0_2, hm0_2, hb0_2, he0_2⟩ := ro_form h0_2
 have h60 := (kernOk hk).2.2.2
 refine FJ.enter (N := 51) Try.func115 rfl rfl (by simp) [(0, .pointer (some ad0)), (1, .int .i64 a)] (by simp) (l0 := []) trivial ?_
 refine FJ.seq (FJ.region (FJ.ql rfl (q_assign rfl .c) (FJ.nil (FJ.then_ ?_))))
 refine FJ.seq (FJ.seq (FJ.region (FJ.ql rfl (q_assign rfl .c) (FJ.nil ?_))))
 refine FJ.then_ (FJ.block ?_)
 refine FJ.loopi (γ := Nat) (fun q => [(5, .int .i64 (q : Int)), (0, .pointer (some ad0)), (1, .int .i64 a)]) (fun q => []) (fun q => q ≤ k.exts.length ∧ ∀ j e, j < q → k.exts[j]? = some e → ¬ owns a e) (fun q => k.exts.length - q) 0 ⟨Nat.zero_le _, all_zero (q := fun _ e => ¬ owns a e)⟩ (.c .z (.c (.s (.s .z)) (.c (.s (.s (.s .z))) .n))) (fun _ h => h) ?_
 rintro q ⟨hq, hallq⟩
 refine FJ.seq (FJ.seq (FJ.region (FJ.ql rfl (q_move rfl (.t .z)) (FJ.ql rfl (q_move rfl (.t (.s (.s .z)))) ?_))))
 refine FJ.ql rfl (q_nilCheck rfl (.t .z)) (FJ.ql rfl (q_fieldAddr rfl (.t .z) (fun _ => fa_43_1 _ _)) (FJ.ql rfl (q_load rfl ag_41 (.t .z) (WS.el hF0 hc0 rfl)) (FJ.ql rfl (q_len rfl u_41 (.t .z)) (FJ.ql rfl (q_lss rfl (.t (.s4 (.s .z))) (.t .z)) ?_))))
 refine FJ.nil (FJ.then_ ?_)
 refine FJ.condP (.t .z) (fun b4 => ?_) (fun b4 => ?_)
 refine FJ.skip (FJ.then_ (FJ.seq (FJ.block (FJ.seq ?_))))
 refine FJ.draw [] 28 (by kernel_rfl) ?_
 refine FJ.sch [(0, true), (1, true), (2, true), (3, true), (4, true), (5, true), (6, true), (7, true), (8, true), (9, true), (10, true), (11, true), (12, true), (13, true), (14, true), (15, true), (16, true), (17, true), (18, true), (19, true), (20, true), (21, true), (22, true), (23, true), (24, true), (25, true), (26, true), (27, false)] 0 #[true, true, true, true, true, true, true, true, true, true, true, true, true, true, true, true, true, true, true, true, true, true, true, true, true, true, true, true] (by rfl) (by kernel_rfl) ?_
 refine FJ.dq rfl rfl rfl (by decide) rfl .z (q_move rfl (.t (.s4 (.s4 (.s .z))))) (FJ.dq rfl rfl rfl (by decide) rfl .z (q_move rfl (.t (.s4 (.s4 (.s .z))))) (FJ.dq rfl rfl rfl (by decide) rfl .z (q_nilCheck rfl (.t .z)) (FJ.dq rfl rfl rfl (by decide) rfl .z (q_fieldAddr rfl (.t .z) (fun _ => fa_43_1 _ _)) (FJ.dq rfl rfl rfl (by decide) rfl .z (q_load rfl ag_41 (.t .z) (WS.el hF0 hc0 rfl)) ?_))))
 refine FJ.dq rfl rfl rfl (by decide) rfl .z (q_move rfl (.t (.s4 (.s4 (.s4 .z))))) ?_
 obtain ⟨ad5, hAad5, hrad5⟩ := he0_2 (by omega)
 subst hAad5
 obtain ⟨x6, hx6⟩ := get_ex (xs := k.exts) (j := q) (by omega)
 obtain ⟨ece7, hre7, hFe7, hce7⟩ := hrad5.elem hx6
 obtain rfl := kT_135_ro hre7
 have px6 := (kernOk hk).2.2.1 _ _ hx6; unfold isExt at px6
 refine FJ.dq rfl rfl rfl (by decide) rfl .z (q_indexAddr (j := q) rfl u_41 sz_135 (.t (.s .z)) (.t .z) rfl (by omega)) ?_
 refine FJ.dq rfl rfl rfl (by decide) rfl .z (q_fieldAddr rfl (.t .z) (fun _ => fa_135_0 _ _)) (FJ.dq rfl rfl rfl (by decide) rfl .z (q_load rfl ag_2 (.t .z) (WS.el hFe7 hce7 rfl)) (FJ.dq rfl rfl rfl (by decide) rfl .z (q_move rfl (.t (.s16 (.s .z)))) (FJ.dq rfl rfl rfl (by decide) rfl .z (q_nilCheck rfl (.t .z)) (FJ.dq rfl rfl rfl (by decide) rfl .z (q_fieldAddr rfl (.t .z) (fun _ => fa_43_1 _ _)) ?_))))
 refine FJ.dq rfl rfl rfl (by decide) rfl .z (q_load rfl ag_41 (.t .z) (WS.el hF0 hc0 rfl)) (FJ.dq rfl rfl rfl (by decide) rfl .z (q_move rfl (.t (.s16 (.s4 .z)))) ?_)
 refine FJ.dq rfl rfl rfl (by decide) rfl .z (q_indexAddr (j := q) rfl u_41 sz_135 (.t (.s .z)) (.t .z) rfl (by omega)) ?_
 refine FJ.dq rfl rfl rfl (by decide) rfl .z (q_fieldAddr rfl (.t .z) (fun _ => fa_135_0 _ _)) (FJ.dq rfl rfl rfl (by decide) rfl .z (q_load rfl ag_2 (.t .z) (WS.el hFe7 hce7 rfl)) (FJ.dq rfl rfl rfl (by decide) rfl .z (q_move rfl (.t (.s16 (.s4 (.s4 (.s .z)))))) (FJ.dq rfl rfl rfl (by decide) rfl .z (q_nilCheck rfl (.t .z)) (FJ.dq rfl rfl rfl (by decide) rfl .z (q_fieldAddr rfl (.t .z) (fun _ => fa_43_1 _ _)) ?_))))
 refine FJ.dq rfl rfl rfl (by decide) rfl .z (q_load rfl ag_41 (.t .z) (WS.el hF0 hc0 rfl)) (FJ.dq rfl rfl rfl (by decide) rfl .z (q_move rfl (.t (.s16 (.s4 (.s4 (.s4 .z)))))) ?_)
 refine FJ.dq rfl rfl rfl (by decide) rfl .z (q_indexAddr (j := q) rfl u_41 sz_135 (.t (.s .z)) (.t .z) rfl (by omega)) ?_
 refine FJ.dq rfl rfl rfl (by decide) rfl .z (q_fieldAddr rfl (.t .z) (fun _ => fa_135_1 _ _)) (FJ.dq rfl rfl rfl (by decide) rfl .z (q_load rfl ag_2 (.t .z) (WS.el hFe7 hce7 rfl)) ?_)
 refine FJ.dq rfl rfl rfl (by decide) rfl .z (q_add (c := x6.frm + x6.cnt) rfl (.t (.s4 (.s4 .z))) (.t .z) (wr (by omega) (by omega) (by omega))) ?_
 refine FJ.dq rfl rfl rfl (by decide) rfl .z (q_sub (c := (x6.frm + x6.cnt) - 1) rfl (.t .z) .c (wr (by omega) (by omega) (by omega))) ?_
 refine FJ.call (goes_sch rfl rfl) rfl (by decide) rfl (c_call rfl Try.func77 rfl rfl (args3 (.t (.s16 (.s4 (.s4 (.s (.s .z)))))) (.t (.s16 (.s (.s .z)))) (.t .z))) .n (fun w1 S1 hs tr => c_77 _ _ _) ?_
 rintro _ _ ⟨rfl, rfl⟩
 refine FJ.cat .n ?_
 refine FJ.sk .z ?_
 refine FJ.schN ?_
 refine FJ.drawN (by kernel_rfl) ?_
 refine FJ.then_ ?_
 refine FJ.condP (.t .z) (fun b8 => ?_) (fun b8 => ?_)
 refine FJ.seq (FJ.region (FJ.ql rfl (q_move rfl (.t (.s16 (.s16 (.s4 .z))))) (FJ.ql rfl (q_nilCheck rfl (.t .z)) (FJ.ql rfl (q_fieldAddr rfl (.t .z) (fun _ => fa_43_1 _ _)) ?_))))
 refine FJ.ql rfl (q_load rfl ag_41 (.t .z) (WS.el hF0 hc0 rfl)) (FJ.ql rfl (q_move rfl (.t (.s16 (.s16 (.s4 (.s (.s (.s .z)))))))) ?_)
 refine FJ.ql rfl (q_indexAddr (j := q) rfl u_41 sz_135 (.t (.s .z)) (.t .z) rfl (by omega)) ?_
 refine FJ.ql rfl (q_fieldAddr rfl (.t .z) (fun _ => fa_135_2 _ _)) (FJ.ql rfl (q_load rfl ag_2 (.t .z) (WS.el hFe7 hce7 rfl)) (FJ.ql rfl (q_assign rfl (.t .z)) (FJ.nil (FJ.then_ ?_))))
 refine FJ.ret (FJ.inBR (FJ.thenR (FJ.thenR (FJ.inBR ?_))))
 refine FJ.thenR ?_
 refine FJ.doneS (res1 rfl .z) .n ?_
 exact ⟨by rw [ownKey_some hx6 (by assumption) hallq], rfl⟩
 refine FJ.skip (FJ.inBN (FJ.then_ (FJ.region (FJ.ql rfl (q_move rfl (.t (.s16 (.s16 (.s (.s (.s .z))))))) ?_))))
 refine FJ.ql rfl (q_add (c := ((q + 1 : Nat) : Int)) rfl (.t .z) .c (wr (by omega) (by omega) (by omega))) ?_
 refine FJ.er (.s16 (.s16 (.s4 (.s .z)))) (FJ.ql rfl (q_assign rfl (.t .z)) (FJ.nil ?_))
 refine FJ.again (q + 1) ⟨by omega, all_succ (q := fun _ e => ¬ owns a e) hallq hx6 (by assumption)⟩ (by first | omega | (dsimp only; omega)) (.c .z (.c (.s16 (.s16 (.s4 (.s (.s .z))))) (.c (.s16 (.s16 (.s4 (.s (.s (.s .z)))))) .n))) (fun _ h => h)
 refine FJ.exit (FJ.thenE (FJ.thenE (FJ.inB (FJ.then_ ?_))))
 refine FJ.seq (FJ.region (FJ.ql rfl (q_assign rfl .c) (FJ.nil (FJ.then_ ?_))))
 refine FJ.ret ?_
 refine FJ.doneS (res1 rfl .z) .n ?_
 exact ⟨by rw [ownKey_none (fun j x hx => hallq j x (by have := (List.getElem?_eq_some_iff.1 hx).1; omega) hx)], rfl⟩

set_option maxHeartbeats 1000000 in
set_option maxRecDepth 20000 in
theorem c_53 {w0 : World} {S0 : Bs} {k : DKern} {cs0 : List Value} (h0 : kT_43.ro w0 (FF w0 S0) k cs0) (a : Int)  :
    Calls Try.prog 53 #[.agg cs0.toArray, .int .i64 a] w0 (TriPost w0 S0 (RA_76 (ownerOf k a))) := by
 obtain ⟨u0_0, u0_1, u0_2, rfl, h0_0, h0_1, h0_2⟩ := kT_43_ro h0
 obtain ⟨A0_0, c0_0, rfl, hl0_0, hm0_0, hb0_0, he0_0⟩ := ro_form h0_0
 obtain ⟨A0_1, c0_1, rfl, hl0_1, hm0_1, hb0_1, he0_1⟩ := ro_form h0_1
 obtain ⟨A0_2, c0_2, rfl, hl0_2, hm0_2, hb0_2, he0_2⟩ := ro_form h0_2
 refine FJ.enter (N := 24) Try.func53 rfl rfl (by simp) [(0, .agg #[.slice A0_0 k.disk.blocks.length c0_0, .slice A0_1 k.disk.cache.length c0_1, .slice A0_2 k.exts.length c0_2]), (1, .int .i64 a)] (by simp) (l0 := []) trivial ?_
 refine FJ.seq (FJ.region ?_)
 refine FJ.e (goes_list rfl) rfl (by decide) rfl (e_box (cs := [.slice A0_0 k.disk.blocks.length c0_0, .slice A0_1 k.disk.cache.length c0_1, .slice A0_2 k.exts.length c0_2]) (n := 3) rfl (.t .z) rfl rfl) ?_
 rintro _ _ ⟨g4, rfl, rfl⟩
 refine FJ.e (goes_list rfl) rfl (by decide) rfl (e_alloc rfl z_76 rfl rfl) ?_
 rintro _ _ ⟨g5, rfl, rfl⟩
 refine FJ.nil (FJ.then_ (FJ.seq (FJ.seq (FJ.region ?_))))
 refine FJ.call (goes_list rfl) rfl (by decide) rfl (c_call rfl Try.func110 rfl rfl (args1 (.t (.s .z)))) .n (fun w1 S1 hs tr => c_110 (tr.ptr (.s .z) (kT_43_mk k (tr.ctx h0_0) (tr.ctx h0_1) (tr.ctx h0_2)))) ?_
 rintro _ _ ⟨rfl, rfl⟩
 refine FJ.cat .n ?_
 refine FJ.ql rfl (q_assign rfl (.t .z)) (FJ.nil (FJ.then_ (FJ.seq (FJ.region ?_))))
 refine FJ.ql rfl (q_move rfl (.t .z)) (FJ.ql rfl (q_neq rfl (.t .z) .c) (FJ.nil (FJ.then_ ?_)))
 refine FJ.condN (.t .z) (fun b6 => ?_) (fun b6 => ?_)
 refine FJ.seq (FJ.region (FJ.ql rfl (q_move rfl (.t (.s (.s .z)))) ?_))
 refine FJ.ql rfl (q_build (ps := [(0, .int .i64 (kernFault k))]) (cs := [.int .i64 (kernFault k), .int .i64 0]) rfl bl_76 (by intro act hact; simp only [List.map_toArray, List.map_cons, List.map_nil, (show Val _ _ _ from (.t .z)) act hact]) rfl) ?_
 refine FJ.es (goes_list rfl) rfl (es_store (off := 0) (cs := [.int .i64 (kernFault k), .int .i64 0]) rfl sz_76 (.t (.s4 (.s (.s .z)))) (.t .z) rfl (ones rfl) .z (Nat.le_of_ble_eq_true rfl) (.c .z (.c (.s .z) .n))) ?_
 refine FJ.nil (FJ.then_ (FJ.ret (FJ.thenR ?_)))
 refine FJ.doneS (resC (cs := [.int .i64 (kernFault k), .int .i64 0]) rfl (.s4 (.s (.s .z))) ag_76 sz_76 (WS.rows0 (cs := [.int .i64 (kernFault k), .int .i64 0]) .z (fun _ _ h => h))) .n ?_
 rw [ownerOf_f (by assumption)]; exact ⟨rfl, rfl⟩
 refine FJ.skip (FJ.then_ (FJ.seq (FJ.seq (FJ.region ?_))))
 refine FJ.ql rfl (q_fieldAddr rfl (.t (.s4 (.s .z))) (fun _ => fa_43_0 _ _)) (FJ.ql rfl (q_move rfl (.t (.s4 (.s4 .z)))) ?_)
 refine FJ.call (goes_list rfl) rfl (by decide) rfl (c_call rfl Try.func104 rfl rfl (args2 (.t (.s .z)) (.t .z))) .n (fun w1 S1 hs tr => c_104 (tr.ptrsub (.s .z) (kT_25_mk k.disk (tr.ctx h0_0) (tr.ctx h0_1)) (sub_at (cs := [.slice A0_0 k.disk.blocks.length c0_0, .slice A0_1 k.disk.cache.length c0_1]) rfl)) _) ?_
 rintro _ _ ⟨rfl, rfl⟩
 refine FJ.cat .n ?_
 refine FJ.ql rfl (q_not rfl (.t .z)) (FJ.nil (FJ.then_ ?_))
 refine FJ.condN (.t .z) (fun b7 => ?_) (fun b7 => ?_)
 refine FJ.seq (FJ.region ?_)
 refine FJ.ql rfl (q_build (ps := [(0, .int .i64 3)]) (cs := [.int .i64 3, .int .i64 0]) rfl bl_76 (by intro act hact; simp only [List.map_toArray, List.map_cons, List.map_nil, (show Val _ _ _ from .c) act hact]) rfl) ?_
 refine FJ.es (goes_list rfl) rfl (es_store (off := 0) (cs := [.int .i64 3, .int .i64 0]) rfl sz_76 (.t (.s4 (.s4 (.s .z)))) (.t .z) rfl (ones rfl) .z (Nat.le_of_ble_eq_true rfl) (.c .z (.c (.s .z) .n))) ?_
 refine FJ.nil (FJ.then_ (FJ.ret (FJ.thenR ?_)))
 refine FJ.doneS (resC (cs := [.int .i64 3, .int .i64 0]) rfl (.s4 (.s4 (.s .z))) ag_76 sz_76 (WS.rows0 (cs := [.int .i64 3, .int .i64 0]) .z (fun _ _ h => h))) .n ?_
 rw [ownerOf_3 (by assumption) (by assumption)]; exact ⟨rfl, rfl⟩
 refine FJ.skip (FJ.then_ (FJ.seq (FJ.region (FJ.ql rfl (q_move rfl (.t (.s4 (.s4 (.s (.s (.s .z))))))) ?_))))
 refine FJ.call (goes_list rfl) rfl (by decide) rfl (c_call rfl Try.func115 rfl rfl (args2 (.t (.s4 (.s4 (.s (.s .z))))) (.t .z))) .n (fun w1 S1 hs tr => c_115 (tr.ptr (.s .z) (kT_43_mk k (tr.ctx h0_0) (tr.ctx h0_1) (tr.ctx h0_2))) _ (by assumption)) ?_
 rintro _ _ ⟨rfl, rfl⟩
 refine FJ.cat .n ?_
 refine FJ.ql rfl (q_assign rfl (.t .z)) (FJ.nil (FJ.then_ (FJ.seq (FJ.seq ?_))))
 refine FJ.region (FJ.ql rfl (q_move rfl (.t .z)) (FJ.ql rfl (q_eql rfl (.t .z) .c) (FJ.nil (FJ.then_ ?_))))
 refine FJ.condP (.t .z) (fun b8 => ?_) (fun b8 => ?_)
 refine FJ.seq (FJ.region ?_)
 refine FJ.ql rfl (q_build (ps := [(0, .int .i64 4)]) (cs := [.int .i64 4, .int .i64 0]) rfl bl_76 (by intro act hact; simp only [List.map_toArray, List.map_cons, List.map_nil, (show Val _ _ _ from .c) act hact]) rfl) ?_
 refine FJ.es (goes_list rfl) rfl (es_store (off := 0) (cs := [.int .i64 4, .int .i64 0]) rfl sz_76 (.t (.s4 (.s4 (.s4 (.s (.s .z)))))) (.t .z) rfl (ones rfl) .z (Nat.le_of_ble_eq_true rfl) (.c .z (.c (.s .z) .n))) ?_
 refine FJ.nil (FJ.then_ (FJ.ret (FJ.thenR ?_)))
 refine FJ.doneS (resC (cs := [.int .i64 4, .int .i64 0]) rfl (.s4 (.s4 (.s4 (.s (.s .z))))) ag_76 sz_76 (WS.rows0 (cs := [.int .i64 4, .int .i64 0]) .z (fun _ _ h => h))) .n ?_
 rw [ownerOf_4 (by assumption) (by assumption) (by assumption)]; exact ⟨rfl, rfl⟩
 refine FJ.skip (FJ.then_ (FJ.seq (FJ.region (FJ.ql rfl (q_move rfl (.t (.s (.s .z)))) ?_))))
 refine FJ.ql rfl (q_build (ps := [(1, .int .i64 (ownKey a (k).exts))]) (cs := [.int .i64 0, .int .i64 (ownKey a (k).exts)]) rfl bl_76 (by intro act hact; simp only [List.map_toArray, List.map_cons, List.map_nil, (show Val _ _ _ from (.t .z)) act hact]) rfl) ?_
 refine FJ.es (goes_list rfl) rfl (es_store (off := 0) (cs := [.int .i64 0, .int .i64 (ownKey a (k).exts)]) rfl sz_76 (.t (.s4 (.s4 (.s4 (.s (.s (.s .z))))))) (.t .z) rfl (ones rfl) .z (Nat.le_of_ble_eq_true rfl) (.c .z (.c (.s .z) .n))) ?_
 refine FJ.nil (FJ.then_ (FJ.ret ?_))
 refine FJ.doneS (resC (cs := [.int .i64 0, .int .i64 (ownKey a (k).exts)]) rfl (.s4 (.s4 (.s4 (.s (.s (.s .z)))))) ag_76 sz_76 (WS.rows0 (cs := [.int .i64 0, .int .i64 (ownKey a (k).exts)]) .z (fun _ _ h => h))) .n ?_
 rw [ownerOf_0 (by assumption) (by assumption) (by assumption)]; exact ⟨rfl, rfl⟩

set_option maxHeartbeats 1000000 in
set_option maxRecDepth 20000 in
theorem c_116 {w0 : World} {S0 : Bs} {k : DKern} {cs0 : List Value} (h0 : kT_43.ro w0 (FF w0 S0) k cs0) (a : Int)  :
    Calls Try.prog 116 #[.agg cs0.toArray, .int .i64 a] w0 (TriPost w0 S0 (fun r l => r = .tuple #[.int .i64 (ownerOf k a).val, .int .i64 (ownerOf k a).code] ∧ l = [])) := by
 obtain ⟨u0_0, u0_1, u0_2, rfl, h0_0, h0_1, h0_2⟩ := kT_43_ro h0
 obtain ⟨A0_0, c0_0, rfl, hl0_0, hm0_0, hb0_0, he0_0⟩ := ro_form h0_0
 obtain ⟨A0_1, c0_1, rfl, hl0_1, hm0_1, hb0_1, he0_1⟩ := ro_form h0_1
 obtain ⟨A0_2, c0_2, rfl, hl0_2, hm0_2, hb0_2, he0_2⟩ := ro_form h0_2
 refine FJ.enter (N := 42) Try.func116 rfl rfl (by simp) [(0, .agg #[.slice A0_0 k.disk.blocks.length c0_0, .slice A0_1 k.disk.cache.length c0_1, .slice A0_2 k.exts.length c0_2]), (1, .int .i64 a)] (by simp) (l0 := []) trivial ?_
 refine FJ.seq (FJ.region ?_)
 refine FJ.e (goes_list rfl) rfl (by decide) rfl (e_box (cs := [.slice A0_0 k.disk.blocks.length c0_0, .slice A0_1 k.disk.cache.length c0_1, .slice A0_2 k.exts.length c0_2]) (n := 3) rfl (.t .z) rfl rfl) ?_
 rintro _ _ ⟨g4, rfl, rfl⟩
 refine FJ.ql rfl (q_assign rfl .c) (FJ.ql rfl (q_assign rfl .c) (FJ.nil (FJ.then_ (FJ.seq ?_))))
 refine FJ.seq (FJ.region ?_)
 refine FJ.ql rfl (q_loadA (cs := [.slice A0_0 k.disk.blocks.length c0_0, .slice A0_1 k.disk.cache.length c0_1, .slice A0_2 k.exts.length c0_2]) rfl ag_43 sz_43 (.t (.s (.s .z))) (WS.rows0 .z (fun i u h => by exact h))) ?_
 refine FJ.call (goes_list rfl) rfl (by decide) rfl (c_call rfl Try.func112 rfl rfl (args1 (.t .z))) .n (fun w1 S1 hs tr => c_112 (kT_43_mk k (tr.ctx h0_0) (tr.ctx h0_1) (tr.ctx h0_2))) ?_
 rintro _ _ ⟨rfl, rfl⟩
 refine FJ.cat .n ?_
 refine FJ.ql rfl (q_assign rfl (.t .z)) (FJ.nil (FJ.then_ (FJ.seq (FJ.region ?_))))
 refine FJ.ql rfl (q_move rfl (.t .z)) (FJ.ql rfl (q_neq rfl (.t .z) .c) (FJ.nil (FJ.then_ ?_)))
 refine FJ.condN (.t .z) (fun b5 => ?_) (fun b5 => ?_)
 refine FJ.seq (FJ.region (FJ.ql rfl (q_move rfl (.t (.s (.s .z)))) (FJ.er (.s4 (.s (.s (.s .z)))) (FJ.ql rfl (q_assign rfl .c) ?_))))
 refine FJ.er (.s4 (.s (.s (.s .z)))) (FJ.ql rfl (q_assign rfl (.t (.s .z))) (FJ.nil (FJ.then_ (FJ.ret ?_))))
 refine FJ.thenR ?_
 refine FJ.doneS (res2 rfl (.s .z) .z) .n ?_
 rw [ownerOf_f (by assumption)]; exact ⟨rfl, rfl⟩
 refine FJ.skip (FJ.then_ (FJ.seq (FJ.seq (FJ.region ?_))))
 refine FJ.ql rfl (q_move rfl (.t (.s4 (.s4 (.s .z))))) (FJ.ql rfl (q_fieldAddr rfl (.t (.s4 (.s4 .z))) (fun _ => fa_43_0 _ _)) (FJ.ql rfl (q_fieldAddrA (k := 0) rfl (.t .z) (fun _ => fa_25_0 _ _) rfl) (FJ.ql rfl (q_load rfl ag_22 (.t .z) (WS.row .z rfl)) ?_)))
 refine FJ.call (goes_list rfl) rfl (by decide) rfl (c_call rfl Try.func143 rfl rfl (args1 (.t .z))) .n (fun w1 S1 hs tr => c_143 (tr.ctx h0_0)) ?_
 rintro _ _ ⟨rfl, rfl⟩
 refine FJ.cat .n ?_
 refine FJ.ql rfl (q_sub (c := (k.disk.blocks.length : Int) - 1) rfl (.t .z) .c (wr (by omega) (by omega) (by omega))) ?_
 refine FJ.call (goes_list rfl) rfl (by decide) rfl (c_call rfl Try.func79 rfl rfl (args3 (.t (.s4 (.s .z))) .c (.t .z))) .n (fun w1 S1 hs tr => c_79 _ _ _) ?_
 rintro _ _ ⟨rfl, rfl⟩
 refine FJ.cat .n ?_
 refine FJ.ql rfl (q_not rfl (.t .z)) (FJ.nil (FJ.then_ ?_))
 refine FJ.condN (.t .z) (fun b6 => ?_) (fun b6 => ?_)
 refine FJ.seq (FJ.region (FJ.er (.s4 (.s4 (.s4 (.s (.s .z))))) (FJ.ql rfl (q_assign rfl .c) (FJ.er (.s4 (.s4 (.s4 (.s (.s .z))))) ?_))))
 refine FJ.ql rfl (q_assign rfl .c) (FJ.nil (FJ.then_ (FJ.ret (FJ.thenR ?_))))
 refine FJ.doneS (res2 rfl (.s .z) .z) .n ?_
 rw [ownerOf_3 (by assumption) (by assumption)]; exact ⟨rfl, rfl⟩
 refine FJ.skip (FJ.then_ (FJ.seq (FJ.seq (FJ.region ?_))))
 refine FJ.ql rfl (q_fieldAddr rfl (.t (.s4 (.s4 (.s4 (.s (.s (.s .z))))))) (fun _ => fa_43_1 _ _)) (FJ.ql rfl (q_load rfl ag_41 (.t .z) (WS.row .z rfl)) (FJ.ql rfl (q_len rfl u_41 (.t .z)) (FJ.ql rfl (q_move rfl .c) (FJ.nil ?_))))
 refine FJ.then_ (FJ.block ?_)
 have hk : kernFault k = 0 := by assumption
 have h60 := (kernOk hk).2.2.2
 refine FJ.loopi (γ := Nat) (fun q => [(25, .int .i64 (q : Int)), (24, .int .i64 (k.exts.length : Int)), (23, .slice A0_2 k.exts.length c0_2), (1, .int .i64 a)]) (fun q => [rowA g4 43 3 1 [.slice A0_0 k.disk.blocks.length c0_0, .slice A0_1 k.disk.cache.length c0_1, .slice A0_2 k.exts.length c0_2]]) (fun q => q ≤ k.exts.length ∧ ∀ j e, j < q → k.exts[j]? = some e → ¬ owns a e) (fun q => k.exts.length - q) 0 ⟨Nat.zero_le _, all_zero (q := fun _ e => ¬ owns a e)⟩ (.c .z (.c (.s .z) (.c (.s (.s .z)) (.c (.s16 (.s4 (.s .z))) .n)))) (fun _ h => h.sel (.c .z .n)) ?_
 rintro q ⟨hq, hallq⟩
 refine FJ.seq (FJ.region (FJ.ql rfl (q_lss rfl (.t .z) (.t (.s .z))) (FJ.nil (FJ.then_ ?_))))
 refine FJ.seq ?_
 refine FJ.condP (.t .z) (fun b7 => ?_) (fun b7 => ?_)
 refine FJ.skip (FJ.then_ (FJ.seq (FJ.block (FJ.seq ?_))))
 refine FJ.region ?_
 obtain ⟨ad8, hAad8, hrad8⟩ := he0_2 (by omega)
 subst hAad8
 obtain ⟨x9, hx9⟩ := get_ex (xs := k.exts) (j := q) (by omega)
 obtain ⟨ece10, hre10, hFe10, hce10⟩ := hrad8.elem hx9
 obtain rfl := kT_135_ro hre10
 have px9 := (kernOk hk).2.2.1 _ _ hx9; unfold isExt at px9
 refine FJ.ql rfl (q_indexAddr (j := q) rfl u_41 sz_135 (.t (.s (.s (.s .z)))) (.t (.s .z)) rfl (by omega)) ?_
 refine FJ.ql rfl (q_loadA (cs := [.int .i64 x9.frm, .int .i64 x9.cnt, .int .i64 x9.key]) rfl ag_135 sz_135 (.t .z) (WS.els hFe10 hce10)) ?_
 refine FJ.e (goes_list rfl) rfl (by decide) rfl (e_alloc rfl z_135 rfl rfl) ?_
 rintro _ _ ⟨g11, rfl, rfl⟩
 refine FJ.es (goes_list rfl) rfl (es_store (off := 0) (cs := [.int .i64 x9.frm, .int .i64 x9.cnt, .int .i64 x9.key]) rfl sz_135 (.t .z) (.t (.s .z)) rfl (ones rfl) .z (Nat.le_of_ble_eq_true rfl) (.c .z (.c (.s .z) (.c (.s (.s .z)) .n)))) ?_
 refine FJ.nil (FJ.then_ (FJ.seq (FJ.region (FJ.ql rfl (q_move rfl (.t (.s4 (.s (.s (.s .z)))))) ?_))))
 refine FJ.ql rfl (q_fieldAddr rfl (.t (.s .z)) (fun _ => fa_135_0 _ _)) (FJ.ql rfl (q_load rfl ag_2 (.t .z) (WS.row .z rfl)) (FJ.ql rfl (q_fieldAddr rfl (.t (.s (.s (.s .z)))) (fun _ => fa_135_0 _ _)) (FJ.ql rfl (q_load rfl ag_2 (.t .z) (WS.row .z rfl)) (FJ.ql rfl (q_fieldAddr rfl (.t (.s4 (.s .z))) (fun _ => fa_135_1 _ _)) ?_))))
 refine FJ.ql rfl (q_load rfl ag_2 (.t .z) (WS.row .z rfl)) ?_
 refine FJ.ql rfl (q_add (c := x9.frm + x9.cnt) rfl (.t (.s (.s .z))) (.t .z) (wr (by omega) (by omega) (by omega))) ?_
 refine FJ.ql rfl (q_sub (c := (x9.frm + x9.cnt) - 1) rfl (.t .z) .c (wr (by omega) (by omega) (by omega))) ?_
 refine FJ.call (goes_list rfl) rfl (by decide) rfl (c_call rfl Try.func79 rfl rfl (args3 (.t (.s4 (.s4 .z))) (.t (.s4 (.s (.s .z)))) (.t .z))) .n (fun w1 S1 hs tr => c_79 _ _ _) ?_
 rintro _ _ ⟨rfl, rfl⟩
 refine FJ.cat .n ?_
 refine FJ.nil (FJ.then_ ?_)
 refine FJ.condP (.t .z) (fun b12 => ?_) (fun b12 => ?_)
 refine FJ.seq (FJ.region (FJ.ql rfl (q_fieldAddr rfl (.t (.s4 (.s4 (.s (.s .z))))) (fun _ => fa_135_2 _ _)) (FJ.ql rfl (q_load rfl ag_2 (.t .z) (WS.row .z rfl)) (FJ.ql rfl (q_assign rfl (.t .z)) ?_))))
 refine FJ.ql rfl (q_assign rfl .c) (FJ.nil (FJ.then_ (FJ.ret (FJ.inBR ?_))))
 refine FJ.thenR (FJ.thenR (FJ.inBR (FJ.thenR ?_)))
 refine FJ.doneS (res2 rfl (.s .z) .z) .n ?_
 rw [ownerOf_hit (by assumption) (by assumption) hx9 (by assumption) hallq]; exact ⟨rfl, rfl⟩
 refine FJ.skip (FJ.inBN (FJ.then_ (FJ.region ?_)))
 refine FJ.ql rfl (q_add (c := ((q + 1 : Nat) : Int)) rfl (.t (.s4 (.s4 (.s4 (.s (.s .z)))))) .c (wr (by omega) (by omega) (by omega))) ?_
 refine FJ.er (.s4 (.s4 (.s4 (.s (.s (.s .z)))))) (FJ.ql rfl (q_move rfl (.t .z)) (FJ.nil ?_))
 refine FJ.again (q + 1) ⟨by omega, all_succ (q := fun _ e => ¬ owns a e) hallq hx9 (by assumption)⟩ (by first | omega | (dsimp only; omega)) (.c .z (.c (.s16 .z) (.c (.s16 (.s .z)) (.c (.s16 (.s (.s .z))) .n)))) (fun _ h => h.sel (.c (.s .z) .n))
 refine FJ.exit (FJ.thenE (FJ.thenE (FJ.inB (FJ.then_ ?_))))
 refine FJ.seq (FJ.region (FJ.ql rfl (q_assign rfl .c) (FJ.ql rfl (q_assign rfl .c) (FJ.nil ?_))))
 refine FJ.then_ (FJ.ret ?_)
 refine FJ.doneS (res2 rfl (.s .z) .z) .n ?_
 rw [ownerOf_none (q := q) (by assumption) (by assumption) (by omega) hallq]; exact ⟨rfl, rfl⟩

set_option maxHeartbeats 1000000 in
set_option maxRecDepth 20000 in
theorem c_54 {w0 : World} {S0 : Bs} {k : DKern} {cs0 : List Value} (h0 : kT_43.ro w0 (FF w0 S0) k cs0) (a : Int)  :
    Calls Try.prog 54 #[.agg cs0.toArray, .int .i64 a] w0 (TriPost w0 S0 (RA_76 (ownerOf k a))) := by
 obtain ⟨u0_0, u0_1, u0_2, rfl, h0_0, h0_1, h0_2⟩ := kT_43_ro h0
 obtain ⟨A0_0, c0_0, rfl, hl0_0, hm0_0, hb0_0, he0_0⟩ := ro_form h0_0
 obtain ⟨A0_1, c0_1, rfl, hl0_1, hm0_1, hb0_1, he0_1⟩ := ro_form h0_1
 obtain ⟨A0_2, c0_2, rfl, hl0_2, hm0_2, hb0_2, he0_2⟩ := ro_form h0_2
 refine FJ.enter (N := 16) Try.func54 rfl rfl (by simp) [(0, .agg #[.slice A0_0 k.disk.blocks.length c0_0, .slice A0_1 k.disk.cache.length c0_1, .slice A0_2 k.exts.length c0_2]), (1, .int .i64 a)] (by simp) (l0 := []) trivial ?_
 refine FJ.seq (FJ.region ?_)
 refine FJ.e (goes_list rfl) rfl (by decide) rfl (e_box (cs := [.slice A0_0 k.disk.blocks.length c0_0, .slice A0_1 k.disk.cache.length c0_1, .slice A0_2 k.exts.length c0_2]) (n := 3) rfl (.t .z) rfl rfl) ?_
 rintro _ _ ⟨g4, rfl, rfl⟩
 refine FJ.e (goes_list rfl) rfl (by decide) rfl (e_alloc rfl z_76 rfl rfl) ?_
 rintro _ _ ⟨g5, rfl, rfl⟩
 refine FJ.nil (FJ.then_ (FJ.seq (FJ.region ?_)))
 refine FJ.ql rfl (q_loadA (cs := [.slice A0_0 k.disk.blocks.length c0_0, .slice A0_1 k.disk.cache.length c0_1, .slice A0_2 k.exts.length c0_2]) rfl ag_43 sz_43 (.t (.s .z)) (WS.rows0 (.s .z) (fun i u h => by exact h))) ?_
 refine FJ.ql rfl (q_move rfl (.t (.s4 .z))) ?_
 refine FJ.call (goes_list rfl) rfl (by decide) rfl (c_call rfl Try.func116 rfl rfl (args2 (.t (.s .z)) (.t .z))) .n (fun w1 S1 hs tr => c_116 (kT_43_mk k (tr.ctx h0_0) (tr.ctx h0_1) (tr.ctx h0_2)) _) ?_
 rintro _ _ ⟨rfl, rfl⟩
 refine FJ.cat .n ?_
 refine FJ.ql rfl (q_move rfl (.t .z)) (FJ.ql rfl (q_extract (v := .int .i64 ((ownerOf k a).val)) rfl (.t .z) rfl) (FJ.ql rfl (q_extract (v := .int .i64 ((ownerOf k a).code)) rfl (.t (.s .z)) rfl) (FJ.ql rfl (q_assign rfl (.t (.s .z))) (FJ.ql rfl (q_assign rfl (.t (.s .z))) ?_))))
 refine FJ.nil (FJ.then_ (FJ.seq (FJ.region (FJ.ql rfl (q_move rfl (.t .z)) ?_))))
 refine FJ.ql rfl (q_move rfl (.t (.s (.s .z)))) ?_
 refine FJ.ql rfl (q_build (ps := [(0, .int .i64 ((ownerOf k a).code)), (1, .int .i64 ((ownerOf k a).val))]) (cs := [.int .i64 ((ownerOf k a).code), .int .i64 ((ownerOf k a).val)]) rfl bl_76 (by intro act hact; simp only [List.map_toArray, List.map_cons, List.map_nil, (show Val _ _ _ from (.t (.s .z))) act hact, (show Val _ _ _ from (.t .z)) act hact]) rfl) ?_
 refine FJ.es (goes_list rfl) rfl (es_store (off := 0) (cs := [.int .i64 ((ownerOf k a).code), .int .i64 ((ownerOf k a).val)]) rfl sz_76 (.t (.s4 (.s4 (.s (.s (.s .z)))))) (.t .z) rfl (ones rfl) .z (Nat.le_of_ble_eq_true rfl) (.c .z (.c (.s .z) .n))) ?_
 refine FJ.nil (FJ.then_ (FJ.ret ?_))
 refine FJ.doneS (resC (cs := [.int .i64 ((ownerOf k a).code), .int .i64 ((ownerOf k a).val)]) rfl (.s4 (.s4 (.s (.s (.s .z))))) ag_76 sz_76 (WS.rows0 (cs := [.int .i64 ((ownerOf k a).code), .int .i64 ((ownerOf k a).val)]) .z (fun _ _ h => h))) .n ?_
 exact ⟨rfl, rfl⟩
end Go.Proofs.Ytkmcpcahbfdohaa

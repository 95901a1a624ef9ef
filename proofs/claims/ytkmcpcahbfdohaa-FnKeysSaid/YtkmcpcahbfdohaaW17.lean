/- What is proved: contracts of functions, one a function. No condition. -/
import Derived.Test.YtkmcpcahbfdohaaW15
namespace Go.Proofs.Ytkmcpcahbfdohaa
open Go Go.RowKit
set_option linter.unusedVariables false
set_option linter.unusedSimpArgs false
set_option maxHeartbeats 1000000 in
set_option maxRecDepth 20000 in
theorem c_133 {w0 : World} {S0 : Bs} {k : DKern} {cs0 : List Value} (h0 : kT_43.ro w0 (FF w0 S0) k cs0) (key : Int) (a : Int)  :
    Calls Try.prog 133 #[.agg cs0.toArray, .int .i64 key, .int .i64 a] w0 (TriPost w0 S0 (fun r l => r = .int .i64 (mayFault k key a) ∧ l = [])) := by
 obtain ⟨u0_0, u0_1, u0_2, rfl, h0_0, h0_1, h0_2⟩ := kT_43_ro h0
 obtain ⟨A0_0, c0_0, rfl, hl0_0, hm0_0, hb0_0, he0_0⟩ := ro_form h0_0
 obtain ⟨A0_1, c0_1, rfl, hl0_1, hm0_1, hb0_1, he0_1⟩ := ro_form h0_1
 obtain ⟨A0_2, c0_2, rfl, hl0_2, hm0_2, hb0_2, he0_2⟩ := ro_form h0_2
 refine FJ.enter (N := 23) Try.func133 rfl rfl (by simp) [(0, .agg #[.slice A0_0 k.disk.blocks.length c0_0, .slice A0_1 k.disk.cache.length c0_1, .slice A0_2 k.exts.length c0_2]), (1, .int .i64 key), (2, .int .i64 a)] (by simp) (l0 := []) trivial ?_
 refine FJ.seq (FJ.region ?_)
 refine FJ.e (goes_list rfl) rfl (by decide) rfl (e_box (cs := [.slice A0_0 k.disk.blocks.length c0_0, .slice A0_1 k.disk.cache.length c0_1, .slice A0_2 k.exts.length c0_2]) (n := 3) rfl (.t .z) rfl rfl) ?_
 rintro _ _ ⟨g4, rfl, rfl⟩
 refine FJ.ql rfl (q_assign rfl .c) (FJ.nil (FJ.then_ (FJ.seq (FJ.region ?_))))
 refine FJ.ql rfl (q_loadA (cs := [.slice A0_0 k.disk.blocks.length c0_0, .slice A0_1 k.disk.cache.length c0_1, .slice A0_2 k.exts.length c0_2]) rfl ag_43 sz_43 (.t (.s .z)) (WS.rows0 .z (fun i u h => by exact h))) ?_
 refine FJ.ql rfl (q_move rfl (.t (.s4 (.s .z)))) ?_
 refine FJ.call (goes_list rfl) rfl (by decide) rfl (c_call rfl Try.func116 rfl rfl (args2 (.t (.s .z)) (.t .z))) .n (fun w1 S1 hs tr => c_116 (kT_43_mk k (tr.ctx h0_0) (tr.ctx h0_1) (tr.ctx h0_2)) _) ?_
 rintro _ _ ⟨rfl, rfl⟩
 refine FJ.cat .n ?_
 refine FJ.ql rfl (q_move rfl (.t .z)) (FJ.ql rfl (q_extract (v := .int .i64 ((ownerOf k a).val)) rfl (.t .z) rfl) (FJ.ql rfl (q_extract (v := .int .i64 ((ownerOf k a).code)) rfl (.t (.s .z)) rfl) (FJ.ql rfl (q_assign rfl (.t (.s .z))) (FJ.ql rfl (q_assign rfl (.t (.s .z))) ?_))))
 refine FJ.nil (FJ.then_ (FJ.seq (FJ.seq (FJ.region ?_))))
 refine FJ.ql rfl (q_move rfl (.t .z)) (FJ.ql rfl (q_eql rfl (.t .z) .c) (FJ.ql rfl (q_move rfl (.t .z)) ?_))
 refine FJ.caseP .z (fun g5 => ?_) (fun g5 => ?_)
 refine FJ.q (goes_listg rfl rfl .z) rfl (by decide) rfl (q_move rfl (.t (.s4 .z))) ?_
 refine FJ.q (goes_listg rfl rfl (.s .z)) rfl (by decide) rfl (q_move rfl (.t (.s4 (.s4 (.s4 (.s (.s (.s .z)))))))) ?_
 refine FJ.q (goes_listg rfl rfl (.s (.s .z))) rfl (by decide) rfl (q_neq rfl (.t (.s .z)) (.t .z)) ?_
 refine FJ.ql rfl (q_pickT rfl (.t (.s (.s (.s .z)))) (.t .z)) (FJ.nil (FJ.then_ ?_))
 refine FJ.condN (.t .z) (fun b6 => ?_) (fun b6 => ?_)
 refine FJ.seq (FJ.region (FJ.er (.s4 (.s4 (.s4 (.s (.s (.s .z)))))) (FJ.ql rfl (q_assign rfl .c) (FJ.nil ?_))))
 refine FJ.then_ (FJ.ret (FJ.thenR ?_))
 refine FJ.doneS (res1 rfl .z) .n ?_
 exact ⟨by first | rw [mayFault_n (by assumption)] | rw [mayFault_6 (by assumption) (by assumption)] | rw [mayFault_k (by assumption) (by assumption)], rfl⟩
 refine FJ.skip (FJ.then_ (FJ.seq (FJ.region (FJ.ql rfl (q_move rfl (.t (.s4 (.s (.s (.s .z)))))) ?_))))
 refine FJ.er (.s16 .z) (FJ.ql rfl (q_assign rfl (.t .z)) (FJ.nil (FJ.then_ (FJ.ret ?_))))
 refine FJ.doneS (res1 rfl .z) .n ?_
 exact ⟨by first | rw [mayFault_n (by assumption)] | rw [mayFault_6 (by assumption) (by assumption)] | rw [mayFault_k (by assumption) (by assumption)], rfl⟩
 refine FJ.skipl rfl rfl .z rfl rfl (by decide) rfl ?_
 refine FJ.skipl rfl rfl (.s .z) rfl rfl (by decide) rfl ?_
 refine FJ.skipl rfl rfl (.s (.s .z)) rfl rfl (by decide) rfl ?_
 refine FJ.ql rfl (q_pickF rfl (.t (.s (.s (.s .z)))) .c) (FJ.nil (FJ.then_ ?_))
 refine FJ.condF (.t .z) ?_
 refine FJ.skip (FJ.then_ (FJ.seq (FJ.region (FJ.ql rfl (q_move rfl (.t (.s4 (.s (.s (.s .z)))))) ?_))))
 refine FJ.er (.s16 .z) (FJ.ql rfl (q_assign rfl (.t .z)) (FJ.nil (FJ.then_ (FJ.ret ?_))))
 refine FJ.doneS (res1 rfl .z) .n ?_
 exact ⟨by first | rw [mayFault_n (by assumption)] | rw [mayFault_6 (by assumption) (by assumption)] | rw [mayFault_k (by assumption) (by assumption)], rfl⟩

set_option maxHeartbeats 1000000 in
set_option maxRecDepth 20000 in
theorem c_135 {w0 : World} {S0 : Bs} {k : DKern} {ad0 : Addr} (h0 : PtrRo kT_43 w0 (FF w0 S0) ad0 k) (key : Int) (a : Int)  :
    Calls Try.prog 135 #[.pointer (some ad0), .int .i64 key, .int .i64 a] w0 (TriPost w0 S0 (fun r l => r = .int .i64 (mayFault k key a) ∧ l = [])) := by
 obtain ⟨ec0, hF0, hr0, hc0⟩ := id h0
 obtain ⟨u0_0, u0_1, u0_2, rfl, h0_0, h0_1, h0_2⟩ := kT_43_ro hr0
 obtain ⟨A0_0, c0_0, rfl, hl0_0, hm0_0, hb0_0, he0_0⟩ := ro_form h0_0
 obtain ⟨A0_1, c0_1, rfl, hl0_1, hm0_1, hb0_1, he0_1⟩ := ro_form h0_1
 obtain ⟨A0_2, c0_2, rfl, hl0_2, hm0_2, hb0_2, he0_2⟩ := ro_form h0_2
 refine FJ.enter (N := 22) Try.func135 rfl rfl (by simp) [(0, .pointer (some ad0)), (1, .int .i64 key), (2, .int .i64 a)] (by simp) (l0 := []) trivial ?_
 refine FJ.seq (FJ.region (FJ.ql rfl (q_assign rfl .c) (FJ.nil (FJ.then_ ?_))))
 refine FJ.seq (FJ.region (FJ.ql rfl (q_move rfl (.t (.s .z))) (FJ.ql rfl (q_nilCheck rfl (.t .z)) (FJ.ql rfl (q_loadA (cs := [.slice A0_0 k.disk.blocks.length c0_0, .slice A0_1 k.disk.cache.length c0_1, .slice A0_2 k.exts.length c0_2]) rfl ag_43 sz_43 (.t .z) (WS.els hF0 hc0)) ?_))))
 refine FJ.ql rfl (q_move rfl (.t (.s4 (.s (.s .z))))) ?_
 refine FJ.call (goes_list rfl) rfl (by decide) rfl (c_call rfl Try.func53 rfl rfl (args2 (.t (.s .z)) (.t .z))) .n (fun w1 S1 hs tr => c_53 (kT_43_mk k (tr.ctx h0_0) (tr.ctx h0_1) (tr.ctx h0_2)) _) ?_
 rintro _ _ ⟨rfl, rfl⟩
 refine FJ.cat .n ?_
 refine FJ.e (goes_list rfl) rfl (by decide) rfl (e_alloc rfl z_76 rfl rfl) ?_
 rintro _ _ ⟨g4, rfl, rfl⟩
 refine FJ.es (goes_list rfl) rfl (es_store (off := 0) (cs := [.int .i64 ((ownerOf k a).code), .int .i64 ((ownerOf k a).val)]) rfl sz_76 (.t .z) (.t (.s .z)) rfl (ones rfl) .z (Nat.le_of_ble_eq_true rfl) (.c .z (.c (.s .z) .n))) ?_
 refine FJ.nil (FJ.then_ (FJ.seq (FJ.seq (FJ.region ?_))))
 refine FJ.ql rfl (q_fieldAddr rfl (.t .z) (fun _ => fa_76_0 _ _)) (FJ.ql rfl (q_load rfl ag_2 (.t .z) (WS.row .z rfl)) (FJ.ql rfl (q_neq rfl (.t .z) .c) (FJ.nil (FJ.then_ ?_))))
 refine FJ.condN (.t .z) (fun b5 => ?_) (fun b5 => ?_)
 refine FJ.seq (FJ.region (FJ.ql rfl (q_fieldAddr rfl (.t (.s (.s (.s .z)))) (fun _ => fa_76_0 _ _)) (FJ.ql rfl (q_load rfl ag_2 (.t .z) (WS.row .z rfl)) (FJ.er (.s4 (.s4 (.s (.s (.s .z))))) ?_))))
 refine FJ.ql rfl (q_assign rfl (.t .z)) (FJ.nil (FJ.then_ (FJ.ret (FJ.thenR ?_))))
 refine FJ.doneS (res1 rfl .z) .n ?_
 exact ⟨by first | rw [mayFault_n (by assumption)] | rw [mayFault_6 (by assumption) (by assumption)] | rw [mayFault_0 (by assumption) (by assumption)], rfl⟩
 refine FJ.skip (FJ.then_ (FJ.seq (FJ.seq (FJ.region ?_))))
 refine FJ.ql rfl (q_fieldAddr rfl (.t (.s (.s (.s .z)))) (fun _ => fa_76_1 _ _)) (FJ.ql rfl (q_load rfl ag_2 (.t .z) (WS.row .z rfl)) (FJ.ql rfl (q_move rfl (.t (.s4 (.s4 (.s4 (.s .z)))))) (FJ.ql rfl (q_neq rfl (.t (.s .z)) (.t .z)) (FJ.nil ?_))))
 refine FJ.then_ ?_
 refine FJ.condN (.t .z) (fun b6 => ?_) (fun b6 => ?_)
 refine FJ.seq (FJ.region (FJ.er (.s4 (.s4 (.s4 (.s .z)))) (FJ.ql rfl (q_assign rfl .c) (FJ.nil ?_))))
 refine FJ.then_ (FJ.ret (FJ.thenR ?_))
 refine FJ.doneS (res1 rfl .z) .n ?_
 exact ⟨by first | rw [mayFault_n (by assumption)] | rw [mayFault_6 (by assumption) (by assumption)] | rw [mayFault_0 (by assumption) (by assumption)], rfl⟩
 refine FJ.skip (FJ.then_ (FJ.seq (FJ.region (FJ.er (.s4 (.s4 (.s4 (.s .z)))) ?_))))
 refine FJ.ql rfl (q_assign rfl .c) (FJ.nil (FJ.then_ (FJ.ret ?_)))
 refine FJ.doneS (res1 rfl .z) .n ?_
 exact ⟨by first | rw [mayFault_n (by assumption)] | rw [mayFault_6 (by assumption) (by assumption)] | rw [mayFault_0 (by assumption) (by assumption)], rfl⟩

set_option maxHeartbeats 1000000 in
set_option maxRecDepth 20000 in
theorem c_71 {w0 : World} {S0 : Bs} {k : DKern} {cs0 : List Value} (h0 : kT_43.ro w0 (FF w0 S0) k cs0) (key : Int) (a : Int) {ws : (List Int)} {v3 : Value} (h3 : kSl_2.ro w0 (FF w0 S0) ws [v3])  :
    Calls Try.prog 71 #[.agg cs0.toArray, .int .i64 key, .int .i64 a, v3] w0 (TriPost w0 S0 (RA_45 (writeKern k key a ws))) := by
 obtain ⟨u0_0, u0_1, u0_2, rfl, h0_0, h0_1, h0_2⟩ := kT_43_ro h0
 obtain ⟨A0_0, c0_0, rfl, hl0_0, hm0_0, hb0_0, he0_0⟩ := ro_form h0_0
 obtain ⟨A0_1, c0_1, rfl, hl0_1, hm0_1, hb0_1, he0_1⟩ := ro_form h0_1
 obtain ⟨A0_2, c0_2, rfl, hl0_2, hm0_2, hb0_2, he0_2⟩ := ro_form h0_2
 obtain ⟨A3, c3, rfl, hl3, hm3, hb3, he3⟩ := ro_form h3
 refine FJ.enter (N := 37) Try.func71 rfl rfl (by simp) [(0, .agg #[.slice A0_0 k.disk.blocks.length c0_0, .slice A0_1 k.disk.cache.length c0_1, .slice A0_2 k.exts.length c0_2]), (1, .int .i64 key), (2, .int .i64 a), (3, .slice A3 ws.length c3)] (by simp) (l0 := []) trivial ?_
 refine FJ.seq (FJ.region ?_)
 refine FJ.e (goes_list rfl) rfl (by decide) rfl (e_box (cs := [.slice A0_0 k.disk.blocks.length c0_0, .slice A0_1 k.disk.cache.length c0_1, .slice A0_2 k.exts.length c0_2]) (n := 3) rfl (.t .z) rfl rfl) ?_
 rintro _ _ ⟨g5, rfl, rfl⟩
 refine FJ.e (goes_list rfl) rfl (by decide) rfl (e_alloc rfl z_45 rfl rfl) ?_
 rintro _ _ ⟨g6, rfl, rfl⟩
 refine FJ.nil (FJ.then_ (FJ.seq (FJ.seq (FJ.region ?_))))
 refine FJ.ql rfl (q_move rfl (.t (.s (.s (.s .z))))) (FJ.ql rfl (q_move rfl (.t (.s4 (.s .z)))) ?_)
 refine FJ.call (goes_list rfl) rfl (by decide) rfl (c_call rfl Try.func135 rfl rfl (args3 (.t (.s (.s (.s .z)))) (.t (.s .z)) (.t .z))) .n (fun w1 S1 hs tr => c_135 (tr.ptr (.s .z) (kT_43_mk k (tr.ctx h0_0) (tr.ctx h0_1) (tr.ctx h0_2))) _ _) ?_
 rintro _ _ ⟨rfl, rfl⟩
 refine FJ.cat .n ?_
 refine FJ.ql rfl (q_assign rfl (.t .z)) (FJ.nil (FJ.then_ (FJ.seq (FJ.region ?_))))
 refine FJ.ql rfl (q_move rfl (.t .z)) (FJ.ql rfl (q_neq rfl (.t .z) .c) (FJ.nil (FJ.then_ ?_)))
 refine FJ.condN (.t .z) (fun b7 => ?_) (fun b7 => ?_)
 refine FJ.seq (FJ.region (FJ.ql rfl (q_move rfl (.t (.s (.s .z)))) ?_))
 refine FJ.call (goes_list rfl) rfl (by decide) rfl (c_call rfl Try.func89 rfl rfl (args1 (.t .z))) .n (fun w1 S1 hs tr => c_89 _) ?_
 rintro _ _ ⟨v8, v10, v12, v14, rfl, rfl⟩
 refine FJ.cat (.c (.c (.c (.c .n)))) ?_
 refine FJ.know (WS.oform .z) ?_
 rintro ⟨Ao16, co16, rfl, hlo16, hmo16, hbo16⟩
 refine FJ.know (WS.oform (.s .z)) ?_
 rintro ⟨Ao17, co17, rfl, hlo17, hmo17, hbo17⟩
 refine FJ.know (WS.oform (.s (.s .z))) ?_
 rintro ⟨Ao18, co18, rfl, hlo18, hmo18, hbo18⟩
 refine FJ.know (WS.oform (.s (.s (.s .z)))) ?_
 rintro ⟨Ao19, co19, rfl, hlo19, hmo19, hbo19⟩
 refine FJ.es (goes_list rfl) rfl (es_store (off := 0) (cs := [.int .i64 ((badKern (mayFault k key a)).code), .slice Ao16 ((badKern (mayFault k key a)).words).length co16, .slice Ao17 ((badKern (mayFault k key a)).kern.disk.blocks).length co17, .slice Ao18 ((badKern (mayFault k key a)).kern.disk.cache).length co18, .slice Ao19 ((badKern (mayFault k key a)).kern.exts).length co19]) rfl sz_45 (.t (.s4 (.s4 .z))) (.t .z) rfl (ones rfl) (.s4 .z) (Nat.le_of_ble_eq_true rfl) (.c .z (.c (.s .z) (.c (.s (.s .z)) (.c (.s (.s (.s .z))) (.c (.s (.s (.s (.s .z)))) .n)))))) ?_
 refine FJ.nil (FJ.then_ (FJ.ret (FJ.thenR ?_)))
 refine FJ.doneS (resC (cs := [.int .i64 ((badKern (mayFault k key a)).code), .slice Ao16 ((badKern (mayFault k key a)).words).length co16, .slice Ao17 ((badKern (mayFault k key a)).kern.disk.blocks).length co17, .slice Ao18 ((badKern (mayFault k key a)).kern.disk.cache).length co18, .slice Ao19 ((badKern (mayFault k key a)).kern.exts).length co19]) rfl (.s4 (.s4 .z)) ag_45 sz_45 (WS.rows0 (cs := [.int .i64 ((badKern (mayFault k key a)).code), .slice Ao16 ((badKern (mayFault k key a)).words).length co16, .slice Ao17 ((badKern (mayFault k key a)).kern.disk.blocks).length co17, .slice Ao18 ((badKern (mayFault k key a)).kern.disk.cache).length co18, .slice Ao19 ((badKern (mayFault k key a)).kern.exts).length co19]) .z (fun _ _ h => h))) (.c (.s .z) (.c (.s .z) (.c (.s .z) (.c (.s .z) .n)))) ?_
 rw [writeKern_f (by assumption)]
 exact ⟨_, _, _, _, rfl, rfl⟩
 refine FJ.skip (FJ.then_ (FJ.seq (FJ.region (FJ.ql rfl (q_fieldAddr rfl (.t (.s4 (.s (.s (.s .z))))) (fun _ => fa_43_0 _ _)) ?_))))
 refine FJ.ql rfl (q_loadA (cs := [.slice A0_0 k.disk.blocks.length c0_0, .slice A0_1 k.disk.cache.length c0_1]) rfl ag_25 sz_25 (.t .z) (WS.rows (.s .z) (sub_at rfl))) (FJ.ql rfl (q_move rfl (.t (.s4 (.s4 (.s4 .z))))) (FJ.ql rfl (q_move rfl (.t (.s4 (.s4 (.s4 (.s (.s .z))))))) ?_))
 refine FJ.call (goes_list rfl) rfl (by decide) rfl (c_call rfl Try.func56 rfl rfl (args3 (.t (.s (.s .z))) (.t (.s .z)) (.t .z))) .n (fun w1 S1 hs tr => c_56 (kT_25_mk k.disk (tr.ctx h0_0) (tr.ctx h0_1)) _ (tr.ctx h3)) ?_
 rintro _ _ ⟨v20, v22, rfl, rfl⟩
 refine FJ.cat (.c (.c .n)) ?_
 refine FJ.know (WS.oform .z) ?_
 rintro ⟨Ao24, co24, rfl, hlo24, hmo24, hbo24⟩
 refine FJ.know (WS.oform (.s .z)) ?_
 rintro ⟨Ao25, co25, rfl, hlo25, hmo25, hbo25⟩
 refine FJ.e (goes_list rfl) rfl (by decide) rfl (e_alloc rfl z_27 rfl rfl) ?_
 rintro _ _ ⟨g26, rfl, rfl⟩
 refine FJ.es (goes_list rfl) rfl (es_store (off := 0) (cs := [.int .i64 ((putBlock k.disk a ws).code), .slice Ao24 ((putBlock k.disk a ws).disk.blocks).length co24, .slice Ao25 ((putBlock k.disk a ws).disk.cache).length co25]) rfl sz_27 (.t .z) (.t (.s .z)) rfl (ones rfl) .z (Nat.le_of_ble_eq_true rfl) (.c .z (.c (.s .z) (.c (.s (.s .z)) .n)))) ?_
 refine FJ.nil (FJ.then_ (FJ.seq (FJ.seq (FJ.region ?_))))
 refine FJ.ql rfl (q_fieldAddr rfl (.t .z) (fun _ => fa_27_0 _ _)) (FJ.ql rfl (q_load rfl ag_2 (.t .z) (WS.row .z rfl)) (FJ.ql rfl (q_neq rfl (.t .z) .c) (FJ.nil (FJ.then_ ?_))))
 refine FJ.condN (.t .z) (fun b27 => ?_) (fun b27 => ?_)
 refine FJ.seq (FJ.region (FJ.ql rfl (q_fieldAddr rfl (.t (.s (.s (.s .z)))) (fun _ => fa_27_0 _ _)) (FJ.ql rfl (q_load rfl ag_2 (.t .z) (WS.row .z rfl)) ?_)))
 refine FJ.call (goes_list rfl) rfl (by decide) rfl (c_call rfl Try.func89 rfl rfl (args1 (.t .z))) .n (fun w1 S1 hs tr => c_89 _) ?_
 rintro _ _ ⟨v28, v30, v32, v34, rfl, rfl⟩
 refine FJ.cat (.c (.c (.c (.c .n)))) ?_
 refine FJ.know (WS.oform .z) ?_
 rintro ⟨Ao36, co36, rfl, hlo36, hmo36, hbo36⟩
 refine FJ.know (WS.oform (.s .z)) ?_
 rintro ⟨Ao37, co37, rfl, hlo37, hmo37, hbo37⟩
 refine FJ.know (WS.oform (.s (.s .z))) ?_
 rintro ⟨Ao38, co38, rfl, hlo38, hmo38, hbo38⟩
 refine FJ.know (WS.oform (.s (.s (.s .z)))) ?_
 rintro ⟨Ao39, co39, rfl, hlo39, hmo39, hbo39⟩
 refine FJ.es (goes_list rfl) rfl (es_store (off := 0) (cs := [.int .i64 ((badKern ((putBlock k.disk a ws).code)).code), .slice Ao36 ((badKern ((putBlock k.disk a ws).code)).words).length co36, .slice Ao37 ((badKern ((putBlock k.disk a ws).code)).kern.disk.blocks).length co37, .slice Ao38 ((badKern ((putBlock k.disk a ws).code)).kern.disk.cache).length co38, .slice Ao39 ((badKern ((putBlock k.disk a ws).code)).kern.exts).length co39]) rfl sz_45 (.t (.s16 (.s (.s .z)))) (.t .z) rfl (ones rfl) (.s4 (.s (.s (.s .z)))) (Nat.le_of_ble_eq_true rfl) (.c .z (.c (.s .z) (.c (.s (.s .z)) (.c (.s (.s (.s .z))) (.c (.s (.s (.s (.s .z)))) .n)))))) ?_
 refine FJ.nil (FJ.then_ (FJ.ret (FJ.thenR ?_)))
 refine FJ.doneS (resC (cs := [.int .i64 ((badKern ((putBlock k.disk a ws).code)).code), .slice Ao36 ((badKern ((putBlock k.disk a ws).code)).words).length co36, .slice Ao37 ((badKern ((putBlock k.disk a ws).code)).kern.disk.blocks).length co37, .slice Ao38 ((badKern ((putBlock k.disk a ws).code)).kern.disk.cache).length co38, .slice Ao39 ((badKern ((putBlock k.disk a ws).code)).kern.exts).length co39]) rfl (.s16 (.s (.s .z))) ag_45 sz_45 (WS.rows0 (cs := [.int .i64 ((badKern ((putBlock k.disk a ws).code)).code), .slice Ao36 ((badKern ((putBlock k.disk a ws).code)).words).length co36, .slice Ao37 ((badKern ((putBlock k.disk a ws).code)).kern.disk.blocks).length co37, .slice Ao38 ((badKern ((putBlock k.disk a ws).code)).kern.disk.cache).length co38, .slice Ao39 ((badKern ((putBlock k.disk a ws).code)).kern.exts).length co39]) .z (fun _ _ h => h))) (.c (.s .z) (.c (.s .z) (.c (.s .z) (.c (.s .z) .n)))) ?_
 rw [writeKern_p (by assumption) (by assumption)]
 exact ⟨_, _, _, _, rfl, rfl⟩
 refine FJ.skip (FJ.then_ (FJ.seq (FJ.region ?_)))
 refine FJ.ql rfl (q_loadA (cs := [.slice A0_0 k.disk.blocks.length c0_0, .slice A0_1 k.disk.cache.length c0_1, .slice A0_2 k.exts.length c0_2]) rfl ag_43 sz_43 (.t (.s16 .z)) (WS.rows0 (.s4 .z) (fun i u h => by exact h))) ?_
 refine FJ.call (goes_list rfl) rfl (by decide) rfl (c_call rfl Try.func127 rfl rfl (args1 (.t .z))) .n (fun w1 S1 hs tr => c_127 (kT_43_mk k (tr.ctx h0_0) (tr.ctx h0_1) (tr.ctx h0_2))) ?_
 rintro _ _ ⟨v40, v42, v44, rfl, rfl⟩
 refine FJ.cat (.c (.c (.c .n))) ?_
 refine FJ.know (WS.oform .z) ?_
 rintro ⟨Ao46, co46, rfl, hlo46, hmo46, hbo46⟩
 refine FJ.know (WS.oform (.s .z)) ?_
 rintro ⟨Ao47, co47, rfl, hlo47, hmo47, hbo47⟩
 refine FJ.know (WS.oform (.s (.s .z))) ?_
 rintro ⟨Ao48, co48, rfl, hlo48, hmo48, hbo48⟩
 refine FJ.e (goes_list rfl) rfl (by decide) rfl (e_alloc rfl z_43 rfl rfl) ?_
 rintro _ _ ⟨g49, rfl, rfl⟩
 refine FJ.es (goes_list rfl) rfl (es_store (off := 0) (cs := [.slice Ao46 k.disk.blocks.length co46, .slice Ao47 k.disk.cache.length co47, .slice Ao48 k.exts.length co48]) rfl sz_43 (.t .z) (.t (.s .z)) rfl (ones rfl) .z (Nat.le_of_ble_eq_true rfl) (.c .z (.c (.s .z) (.c (.s (.s .z)) .n)))) ?_
 refine FJ.nil (FJ.then_ (FJ.seq (FJ.region (FJ.ql rfl (q_fieldAddr rfl (.t (.s4 (.s (.s .z)))) (fun _ => fa_27_1 _ _)) ?_))))
 refine FJ.ql rfl (q_loadA (cs := [.slice Ao24 ((putBlock k.disk a ws).disk.blocks).length co24, .slice Ao25 ((putBlock k.disk a ws).disk.cache).length co25]) rfl ag_25 sz_25 (.t .z) (WS.rows (.s4 .z) (sub_at rfl))) (FJ.ql rfl (q_fieldAddr rfl (.t (.s (.s .z))) (fun _ => fa_43_0 _ _)) ?_)
 refine FJ.es (goes_list rfl) rfl (es_store (off := 0) (cs := [.slice Ao24 ((putBlock k.disk a ws).disk.blocks).length co24, .slice Ao25 ((putBlock k.disk a ws).disk.cache).length co25]) rfl sz_25 (.t .z) (.t (.s .z)) rfl (ones rfl) .z (Nat.le_of_ble_eq_true rfl) (.c .z (.c (.s .z) .n))) ?_
 refine FJ.nil (FJ.then_ (FJ.seq (FJ.region ?_)))
 refine FJ.ql rfl (q_loadA (cs := [.slice Ao24 ((putBlock k.disk a ws).disk.blocks).length co24, .slice Ao25 ((putBlock k.disk a ws).disk.cache).length co25, .slice Ao48 k.exts.length co48]) rfl ag_43 sz_43 (.t (.s (.s (.s .z)))) (WS.rows0 .z (fun i u h => by exact h))) ?_
 refine FJ.ql rfl (q_build (ps := [(2, .agg #[.slice Ao24 ((putBlock k.disk a ws).disk.blocks).length co24, .slice Ao25 ((putBlock k.disk a ws).disk.cache).length co25, .slice Ao48 k.exts.length co48])]) (cs := [.int .i64 0, .slice none 0 0, .slice Ao24 ((putBlock k.disk a ws).disk.blocks).length co24, .slice Ao25 ((putBlock k.disk a ws).disk.cache).length co25, .slice Ao48 k.exts.length co48]) rfl bl_45 (by intro act hact; simp only [List.map_toArray, List.map_cons, List.map_nil, (show Val _ _ _ from (.t .z)) act hact]) rfl) ?_
 refine FJ.es (goes_list rfl) rfl (es_store (off := 0) (cs := [.int .i64 0, .slice none 0 0, .slice Ao24 ((putBlock k.disk a ws).disk.blocks).length co24, .slice Ao25 ((putBlock k.disk a ws).disk.cache).length co25, .slice Ao48 k.exts.length co48]) rfl sz_45 (.t (.s16 (.s4 (.s (.s (.s .z)))))) (.t .z) rfl (ones rfl) (.s4 (.s (.s (.s .z)))) (Nat.le_of_ble_eq_true rfl) (.c .z (.c (.s .z) (.c (.s (.s .z)) (.c (.s (.s (.s .z))) (.c (.s (.s (.s (.s .z)))) .n)))))) ?_
 refine FJ.nil (FJ.then_ (FJ.ret ?_))
 refine FJ.add (c := ownA kSl_2 [] [.slice none 0 0]) (fun w S => own_nil w S none) ?_
 refine FJ.doneS (resC (cs := [.int .i64 0, .slice none 0 0, .slice Ao24 ((putBlock k.disk a ws).disk.blocks).length co24, .slice Ao25 ((putBlock k.disk a ws).disk.cache).length co25, .slice Ao48 k.exts.length co48]) rfl (.s16 (.s4 (.s (.s (.s .z))))) ag_45 sz_45 (WS.rows0 (cs := [.int .i64 0, .slice none 0 0, .slice Ao24 ((putBlock k.disk a ws).disk.blocks).length co24, .slice Ao25 ((putBlock k.disk a ws).disk.cache).length co25, .slice Ao48 k.exts.length co48]) (.s .z) (fun _ _ h => h))) (.c .z (.c (.s4 (.s (.s .z))) (.c (.s4 (.s (.s .z))) (.c (.s4 .z) .n)))) ?_
 rw [writeKern_0 (by assumption) (by assumption)]
 exact ⟨_, _, _, _, rfl, rfl⟩

set_option maxHeartbeats 1000000 in
set_option maxRecDepth 20000 in
theorem c_69 {w0 : World} {S0 : Bs} {k : DKern} {cs0 : List Value} (h0 : kT_43.ro w0 (FF w0 S0) k cs0) (key : Int) (a : Int) {ws : (List Int)} {v3 : Value} (h3 : kSl_2.ro w0 (FF w0 S0) ws [v3])  :
    Calls Try.prog 69 #[.agg cs0.toArray, .int .i64 key, .int .i64 a, v3] w0 (TriPost w0 S0 (RA_45 (writeKern k key a ws))) := by
 obtain ⟨u0_0, u0_1, u0_2, rfl, h0_0, h0_1, h0_2⟩ := kT_43_ro h0
 obtain ⟨A0_0, c0_0, rfl, hl0_0, hm0_0, hb0_0, he0_0⟩ := ro_form h0_0
 obtain ⟨A0_1, c0_1, rfl, hl0_1, hm0_1, hb0_1, he0_1⟩ := ro_form h0_1
 obtain ⟨A0_2, c0_2, rfl, hl0_2, hm0_2, hb0_2, he0_2⟩ := ro_form h0_2
 obtain ⟨A3, c3, rfl, hl3, hm3, hb3, he3⟩ := ro_form h3
 refine FJ.enter (N := 37) Try.func69 rfl rfl (by simp) [(0, .agg #[.slice A0_0 k.disk.blocks.length c0_0, .slice A0_1 k.disk.cache.length c0_1, .slice A0_2 k.exts.length c0_2]), (1, .int .i64 key), (2, .int .i64 a), (3, .slice A3 ws.length c3)] (by simp) (l0 := []) trivial ?_
 refine FJ.seq (FJ.region ?_)
 refine FJ.e (goes_list rfl) rfl (by decide) rfl (e_box (cs := [.slice A0_0 k.disk.blocks.length c0_0, .slice A0_1 k.disk.cache.length c0_1, .slice A0_2 k.exts.length c0_2]) (n := 3) rfl (.t .z) rfl rfl) ?_
 rintro _ _ ⟨g5, rfl, rfl⟩
 refine FJ.e (goes_list rfl) rfl (by decide) rfl (e_alloc rfl z_45 rfl rfl) ?_
 rintro _ _ ⟨g6, rfl, rfl⟩
 refine FJ.nil (FJ.then_ (FJ.seq (FJ.seq (FJ.region ?_))))
 refine FJ.ql rfl (q_loadA (cs := [.slice A0_0 k.disk.blocks.length c0_0, .slice A0_1 k.disk.cache.length c0_1, .slice A0_2 k.exts.length c0_2]) rfl ag_43 sz_43 (.t (.s .z)) (WS.rows0 (.s .z) (fun i u h => by exact h))) ?_
 refine FJ.ql rfl (q_move rfl (.t (.s4 .z))) (FJ.ql rfl (q_move rfl (.t (.s4 (.s (.s .z))))) ?_)
 refine FJ.call (goes_list rfl) rfl (by decide) rfl (c_call rfl Try.func133 rfl rfl (args3 (.t (.s (.s .z))) (.t (.s .z)) (.t .z))) .n (fun w1 S1 hs tr => c_133 (kT_43_mk k (tr.ctx h0_0) (tr.ctx h0_1) (tr.ctx h0_2)) _ _) ?_
 rintro _ _ ⟨rfl, rfl⟩
 refine FJ.cat .n ?_
 refine FJ.ql rfl (q_assign rfl (.t .z)) (FJ.nil (FJ.then_ (FJ.seq (FJ.region ?_))))
 refine FJ.ql rfl (q_move rfl (.t .z)) (FJ.ql rfl (q_neq rfl (.t .z) .c) (FJ.nil (FJ.then_ ?_)))
 refine FJ.condN (.t .z) (fun b7 => ?_) (fun b7 => ?_)
 refine FJ.seq (FJ.region (FJ.ql rfl (q_move rfl (.t (.s (.s .z)))) ?_))
 refine FJ.ql rfl (q_build (ps := [(0, .int .i64 (mayFault k key a))]) (cs := [.int .i64 (mayFault k key a), .slice none 0 0, .slice none 0 0, .slice none 0 0, .slice none 0 0]) rfl bl_45 (by intro act hact; simp only [List.map_toArray, List.map_cons, List.map_nil, (show Val _ _ _ from (.t .z)) act hact]) rfl) ?_
 refine FJ.es (goes_list rfl) rfl (es_store (off := 0) (cs := [.int .i64 (mayFault k key a), .slice none 0 0, .slice none 0 0, .slice none 0 0, .slice none 0 0]) rfl sz_45 (.t (.s4 (.s4 (.s .z)))) (.t .z) rfl (ones rfl) .z (Nat.le_of_ble_eq_true rfl) (.c .z (.c (.s .z) (.c (.s (.s .z)) (.c (.s (.s (.s .z))) (.c (.s (.s (.s (.s .z)))) .n)))))) ?_
 refine FJ.nil (FJ.then_ (FJ.ret (FJ.thenR ?_)))
 refine FJ.add (c := ownA kSl_2 [] [.slice none 0 0]) (fun w S => own_nil w S none) ?_
 refine FJ.add (c := ownA kSl_40 [] [.slice none 0 0]) (fun w S => own_nil w S none) ?_
 refine FJ.add (c := ownA kSl_57 [] [.slice none 0 0]) (fun w S => own_nil w S none) ?_
 refine FJ.add (c := ownA kSl_135 [] [.slice none 0 0]) (fun w S => own_nil w S none) ?_
 refine FJ.doneS (resC (cs := [.int .i64 (mayFault k key a), .slice none 0 0, .slice none 0 0, .slice none 0 0, .slice none 0 0]) rfl (.s4 (.s4 (.s .z))) ag_45 sz_45 (WS.rows0 (cs := [.int .i64 (mayFault k key a), .slice none 0 0, .slice none 0 0, .slice none 0 0, .slice none 0 0]) (.s4 .z) (fun _ _ h => h))) (.c (.s (.s (.s .z))) (.c (.s (.s .z)) (.c (.s .z) (.c .z .n)))) ?_
 rw [writeKern_f (by assumption)]
 exact ⟨_, _, _, _, rfl, rfl⟩
 refine FJ.skip (FJ.then_ (FJ.seq (FJ.region (FJ.ql rfl (q_fieldAddr rfl (.t (.s4 (.s4 .z))) (fun _ => fa_43_0 _ _)) ?_))))
 refine FJ.ql rfl (q_loadA (cs := [.slice A0_0 k.disk.blocks.length c0_0, .slice A0_1 k.disk.cache.length c0_1]) rfl ag_25 sz_25 (.t .z) (WS.rows (.s .z) (sub_at rfl))) (FJ.ql rfl (q_move rfl (.t (.s4 (.s4 (.s4 (.s .z)))))) (FJ.ql rfl (q_move rfl (.t (.s4 (.s4 (.s4 (.s (.s (.s .z)))))))) ?_))
 refine FJ.call (goes_list rfl) rfl (by decide) rfl (c_call rfl Try.func41 rfl rfl (args3 (.t (.s (.s .z))) (.t (.s .z)) (.t .z))) .n (fun w1 S1 hs tr => c_41 (kT_25_mk k.disk (tr.ctx h0_0) (tr.ctx h0_1)) _ (tr.ctx h3)) ?_
 rintro _ _ ⟨v12, v14, rfl, rfl⟩
 refine FJ.cat (.c (.c .n)) ?_
 refine FJ.know (WS.oform .z) ?_
 rintro ⟨Ao16, co16, rfl, hlo16, hmo16, hbo16⟩
 refine FJ.know (WS.oform (.s .z)) ?_
 rintro ⟨Ao17, co17, rfl, hlo17, hmo17, hbo17⟩
 refine FJ.e (goes_list rfl) rfl (by decide) rfl (e_alloc rfl z_27 rfl rfl) ?_
 rintro _ _ ⟨g18, rfl, rfl⟩
 refine FJ.es (goes_list rfl) rfl (es_store (off := 0) (cs := [.int .i64 ((putBlock k.disk a ws).code), .slice Ao16 ((putBlock k.disk a ws).disk.blocks).length co16, .slice Ao17 ((putBlock k.disk a ws).disk.cache).length co17]) rfl sz_27 (.t .z) (.t (.s .z)) rfl (ones rfl) .z (Nat.le_of_ble_eq_true rfl) (.c .z (.c (.s .z) (.c (.s (.s .z)) .n)))) ?_
 refine FJ.nil (FJ.then_ (FJ.seq (FJ.seq (FJ.region ?_))))
 refine FJ.ql rfl (q_fieldAddr rfl (.t .z) (fun _ => fa_27_0 _ _)) (FJ.ql rfl (q_load rfl ag_2 (.t .z) (WS.row .z rfl)) (FJ.ql rfl (q_neq rfl (.t .z) .c) (FJ.nil (FJ.then_ ?_))))
 refine FJ.condN (.t .z) (fun b19 => ?_) (fun b19 => ?_)
 refine FJ.seq (FJ.region (FJ.ql rfl (q_fieldAddr rfl (.t (.s (.s (.s .z)))) (fun _ => fa_27_0 _ _)) (FJ.ql rfl (q_load rfl ag_2 (.t .z) (WS.row .z rfl)) ?_)))
 refine FJ.ql rfl (q_build (ps := [(0, .int .i64 ((putBlock k.disk a ws).code))]) (cs := [.int .i64 ((putBlock k.disk a ws).code), .slice none 0 0, .slice none 0 0, .slice none 0 0, .slice none 0 0]) rfl bl_45 (by intro act hact; simp only [List.map_toArray, List.map_cons, List.map_nil, (show Val _ _ _ from (.t .z)) act hact]) rfl) ?_
 refine FJ.es (goes_list rfl) rfl (es_store (off := 0) (cs := [.int .i64 ((putBlock k.disk a ws).code), .slice none 0 0, .slice none 0 0, .slice none 0 0, .slice none 0 0]) rfl sz_45 (.t (.s16 (.s (.s (.s .z))))) (.t .z) rfl (ones rfl) (.s (.s (.s .z))) (Nat.le_of_ble_eq_true rfl) (.c .z (.c (.s .z) (.c (.s (.s .z)) (.c (.s (.s (.s .z))) (.c (.s (.s (.s (.s .z)))) .n)))))) ?_
 refine FJ.nil (FJ.then_ (FJ.ret (FJ.thenR ?_)))
 refine FJ.add (c := ownA kSl_2 [] [.slice none 0 0]) (fun w S => own_nil w S none) ?_
 refine FJ.add (c := ownA kSl_40 [] [.slice none 0 0]) (fun w S => own_nil w S none) ?_
 refine FJ.add (c := ownA kSl_57 [] [.slice none 0 0]) (fun w S => own_nil w S none) ?_
 refine FJ.add (c := ownA kSl_135 [] [.slice none 0 0]) (fun w S => own_nil w S none) ?_
 refine FJ.doneS (resC (cs := [.int .i64 ((putBlock k.disk a ws).code), .slice none 0 0, .slice none 0 0, .slice none 0 0, .slice none 0 0]) rfl (.s16 (.s (.s (.s .z)))) ag_45 sz_45 (WS.rows0 (cs := [.int .i64 ((putBlock k.disk a ws).code), .slice none 0 0, .slice none 0 0, .slice none 0 0, .slice none 0 0]) (.s4 .z) (fun _ _ h => h))) (.c (.s (.s (.s .z))) (.c (.s (.s .z)) (.c (.s .z) (.c .z .n)))) ?_
 rw [writeKern_p (by assumption) (by assumption)]
 exact ⟨_, _, _, _, rfl, rfl⟩
 refine FJ.skip (FJ.then_ (FJ.seq ?_))
 refine FJ.sel (.c (.s .z) (.c (.s .z) (.c .z (.c .z (.c .z .n))))) ?_
 refine FJ.draw [rowA g18 27 3 1 [.int .i64 ((putBlock k.disk a ws).code), .slice Ao16 ((putBlock k.disk a ws).disk.blocks).length co16, .slice Ao17 ((putBlock k.disk a ws).disk.cache).length co17], rowA g6 45 5 1 [.int .i64 0, .slice none 0 0, .slice none 0 0, .slice none 0 0, .slice none 0 0], rowA g5 43 3 1 [.slice A0_0 k.disk.blocks.length c0_0, .slice A0_1 k.disk.cache.length c0_1, .slice A0_2 k.exts.length c0_2]] 7 (by kernel_rfl) ?_
 refine FJ.sch [(0, true), (1, true), (2, true), (3, true), (4, false), (5, true), (6, true), (7, false)] 0 #[true, true, true, true, true, true, true, true] (by rfl) (by kernel_rfl) ?_
 refine FJ.dq rfl rfl rfl (by decide) rfl (.s (.s .z)) (q_fieldAddr rfl (.t (.s (.s (.s .z)))) (fun _ => fa_27_1 _ _)) (FJ.dq rfl rfl rfl (by decide) rfl (.s (.s .z)) (q_loadA (cs := [.slice Ao16 ((putBlock k.disk a ws).disk.blocks).length co16, .slice Ao17 ((putBlock k.disk a ws).disk.cache).length co17]) rfl ag_25 sz_25 (.t .z) (WS.rows .z (sub_at rfl))) (FJ.dq rfl rfl rfl (by decide) rfl (.s (.s .z)) (q_fieldAddr rfl (.t (.s16 (.s (.s (.s .z))))) (fun _ => fa_43_1 _ _)) (FJ.dq rfl rfl rfl (by decide) rfl (.s (.s .z)) (q_load rfl ag_41 (.t .z) (WS.row (.s (.s .z)) rfl)) ?_)))
 refine FJ.call (goes_sch rfl rfl) rfl (by decide) rfl (c_call rfl Try.func134 rfl rfl (args1 (.t .z))) .n (fun w1 S1 hs tr => c_134 (tr.ctx h0_2)) ?_
 rintro _ _ rfl
 refine FJ.cat (.c .n) ?_
 refine FJ.know (WS.oform .z) ?_
 rintro ⟨Ao25, co25, rfl, hlo25, hmo25, hbo25⟩
 refine FJ.sk (.s (.s (.s .z))) ?_
 refine FJ.dq rfl rfl rfl (by decide) rfl (.s (.s (.s .z))) (q_build (ps := [(0, .agg #[.slice Ao16 ((putBlock k.disk a ws).disk.blocks).length co16, .slice Ao17 ((putBlock k.disk a ws).disk.cache).length co17]), (1, .slice Ao25 k.exts.length co25)]) (cs := [.slice Ao16 ((putBlock k.disk a ws).disk.blocks).length co16, .slice Ao17 ((putBlock k.disk a ws).disk.cache).length co17, .slice Ao25 k.exts.length co25]) rfl bl_43 (by intro act hact; simp only [List.map_toArray, List.map_cons, List.map_nil, (show Val _ _ _ from (.t (.s (.s (.s .z))))) act hact, (show Val _ _ _ from (.t .z)) act hact]) rfl) ?_
 refine FJ.dq rfl rfl rfl (by decide) rfl (.s (.s (.s .z))) (q_build (ps := [(2, .agg #[.slice Ao16 ((putBlock k.disk a ws).disk.blocks).length co16, .slice Ao17 ((putBlock k.disk a ws).disk.cache).length co17, .slice Ao25 k.exts.length co25])]) (cs := [.int .i64 0, .slice none 0 0, .slice Ao16 ((putBlock k.disk a ws).disk.blocks).length co16, .slice Ao17 ((putBlock k.disk a ws).disk.cache).length co17, .slice Ao25 k.exts.length co25]) rfl bl_45 (by intro act hact; simp only [List.map_toArray, List.map_cons, List.map_nil, (show Val _ _ _ from (.t .z)) act hact]) rfl) ?_
 refine FJ.es (goes_sch rfl rfl) rfl (es_store (off := 0) (cs := [.int .i64 0, .slice none 0 0, .slice Ao16 ((putBlock k.disk a ws).disk.blocks).length co16, .slice Ao17 ((putBlock k.disk a ws).disk.cache).length co17, .slice Ao25 k.exts.length co25]) rfl sz_45 (.t (.s16 (.s4 (.s (.s (.s .z)))))) (.t .z) rfl (ones rfl) (.s4 .z) (Nat.le_of_ble_eq_true rfl) (.c .z (.c (.s .z) (.c (.s (.s .z)) (.c (.s (.s (.s .z))) (.c (.s (.s (.s (.s .z)))) .n)))))) ?_
 refine FJ.sl rfl ?_
 refine FJ.schN ?_
 refine FJ.drawN (by kernel_rfl) ?_
 refine FJ.then_ (FJ.ret ?_)
 refine FJ.add (c := ownA kSl_2 [] [.slice none 0 0]) (fun w S => own_nil w S none) ?_
 refine FJ.doneS (resC (cs := [.int .i64 0, .slice none 0 0, .slice Ao16 ((putBlock k.disk a ws).disk.blocks).length co16, .slice Ao17 ((putBlock k.disk a ws).disk.cache).length co17, .slice Ao25 k.exts.length co25]) rfl (.s16 (.s4 (.s (.s (.s .z))))) ag_45 sz_45 (WS.rows0 (cs := [.int .i64 0, .slice none 0 0, .slice Ao16 ((putBlock k.disk a ws).disk.blocks).length co16, .slice Ao17 ((putBlock k.disk a ws).disk.cache).length co17, .slice Ao25 k.exts.length co25]) (.s .z) (fun _ _ h => h))) (.c .z (.c (.s (.s .z)) (.c (.s (.s .z)) (.c (.s .z) .n)))) ?_
 rw [writeKern_0 (by assumption) (by assumption)]
 exact ⟨_, _, _, _, rfl, rfl⟩

end Go.Proofs.Ytkmcpcahbfdohaa

/- What is proved: contracts of functions, one a function. No condition. -/
import Derived.Test.YtkmcpcahbfdohaaW15
import Derived.Test.YtkmcpcahbfdohaaBase2
namespace Go.Proofs.Ytkmcpcahbfdohaa
open Go Go.RowKit
set_option linter.unusedVariables false
set_option linter.unusedSimpArgs false
set_option maxHeartbeats 1000000 in
set_option maxRecDepth 20000 in
theorem c_66 {w0 : World} {S0 : Bs} {k : DKern} {cs0 : List Value} (h0 : kT_43.ro w0 (FF w0 S0) k cs0) (f : Int) (c : Int) (key : Int)  :
    Calls Try.prog 66 #[.agg cs0.toArray, .int .i64 f, .int .i64 c, .int .i64 key] w0 (TriPost w0 S0 (RA_45 (grant k ⟨f, c, key⟩))) := by
 obtain ⟨u0_0, u0_1, u0_2, rfl, h0_0, h0_1, h0_2⟩ := kT_43_ro h0
 obtain ⟨A0_0, c0_0, rfl, hl0_0, hm0_0, hb0_0, he0_0⟩ := ro_form h0_0
 obtain ⟨A0_1, c0_1, rfl, hl0_1, hm0_1, hb0_1, he0_1⟩ := ro_form h0_1
 obtain ⟨A0_2, c0_2, rfl, hl0_2, hm0_2, hb0_2, he0_2⟩ := ro_form h0_2
 refine FJ.enter (N := 96) Try.func66 rfl rfl (by simp) [(0, .agg #[.slice A0_0 k.disk.blocks.length c0_0, .slice A0_1 k.disk.cache.length c0_1, .slice A0_2 k.exts.length c0_2]), (1, .int .i64 f), (2, .int .i64 c), (3, .int .i64 key)] (by simp) (l0 := []) trivial ?_
 refine FJ.seq (FJ.region ?_)
 refine FJ.e (goes_list rfl) rfl (by decide) rfl (e_box (cs := [.slice A0_0 k.disk.blocks.length c0_0, .slice A0_1 k.disk.cache.length c0_1, .slice A0_2 k.exts.length c0_2]) (n := 3) rfl (.t .z) rfl rfl) ?_
 rintro _ _ ⟨g4, rfl, rfl⟩
 refine FJ.e (goes_list rfl) rfl (by decide) rfl (e_alloc rfl z_45 rfl rfl) ?_
 rintro _ _ ⟨g5, rfl, rfl⟩
 refine FJ.nil (FJ.then_ (FJ.seq (FJ.seq (FJ.region ?_))))
 refine FJ.call (goes_list rfl) rfl (by decide) rfl (c_call rfl Try.func110 rfl rfl (args1 (.t (.s .z)))) .n (fun w1 S1 hs tr => c_110 (tr.ptr (.s .z) (kT_43_mk k (tr.ctx h0_0) (tr.ctx h0_1) (tr.ctx h0_2)))) ?_
 rintro _ _ ⟨rfl, rfl⟩
 refine FJ.cat .n ?_
 refine FJ.ql rfl (q_assign rfl (.t .z)) (FJ.nil (FJ.then_ (FJ.seq (FJ.region ?_))))
 refine FJ.ql rfl (q_move rfl (.t .z)) (FJ.ql rfl (q_neq rfl (.t .z) .c) (FJ.nil (FJ.then_ ?_)))
 refine FJ.condN (.t .z) (fun b6 => ?_) (fun b6 => ?_)
 refine FJ.seq (FJ.region (FJ.ql rfl (q_move rfl (.t (.s (.s .z)))) ?_))
 refine FJ.call (goes_list rfl) rfl (by decide) rfl (c_call rfl Try.func89 rfl rfl (args1 (.t .z))) .n (fun w1 S1 hs tr => c_89 _) ?_
 rintro _ _ ⟨v7, v9, v11, v13, rfl, rfl⟩
 refine FJ.cat (.c (.c (.c (.c .n)))) ?_
 refine FJ.know (WS.oform .z) ?_
 rintro ⟨Ao15, co15, rfl, hlo15, hmo15, hbo15⟩
 refine FJ.know (WS.oform (.s .z)) ?_
 rintro ⟨Ao16, co16, rfl, hlo16, hmo16, hbo16⟩
 refine FJ.know (WS.oform (.s (.s .z))) ?_
 rintro ⟨Ao17, co17, rfl, hlo17, hmo17, hbo17⟩
 refine FJ.know (WS.oform (.s (.s (.s .z)))) ?_
 rintro ⟨Ao18, co18, rfl, hlo18, hmo18, hbo18⟩
 refine FJ.es (goes_list rfl) rfl (es_store (off := 0) (cs := [.int .i64 ((badKern (kernFault k)).code), .slice Ao15 ((badKern (kernFault k)).words).length co15, .slice Ao16 ((badKern (kernFault k)).kern.disk.blocks).length co16, .slice Ao17 ((badKern (kernFault k)).kern.disk.cache).length co17, .slice Ao18 ((badKern (kernFault k)).kern.exts).length co18]) rfl sz_45 (.t (.s4 (.s (.s .z)))) (.t .z) rfl (ones rfl) (.s4 .z) (Nat.le_of_ble_eq_true rfl) (.c .z (.c (.s .z) (.c (.s (.s .z)) (.c (.s (.s (.s .z))) (.c (.s (.s (.s (.s .z)))) .n)))))) ?_
 refine FJ.nil (FJ.then_ (FJ.ret (FJ.thenR ?_)))
 refine FJ.doneS (resC (cs := [.int .i64 ((badKern (kernFault k)).code), .slice Ao15 ((badKern (kernFault k)).words).length co15, .slice Ao16 ((badKern (kernFault k)).kern.disk.blocks).length co16, .slice Ao17 ((badKern (kernFault k)).kern.disk.cache).length co17, .slice Ao18 ((badKern (kernFault k)).kern.exts).length co18]) rfl (.s4 (.s (.s .z))) ag_45 sz_45 (WS.rows0 (cs := [.int .i64 ((badKern (kernFault k)).code), .slice Ao15 ((badKern (kernFault k)).words).length co15, .slice Ao16 ((badKern (kernFault k)).kern.disk.blocks).length co16, .slice Ao17 ((badKern (kernFault k)).kern.disk.cache).length co17, .slice Ao18 ((badKern (kernFault k)).kern.exts).length co18]) .z (fun _ _ h => h))) (.c (.s .z) (.c (.s .z) (.c (.s .z) (.c (.s .z) .n)))) ?_
 first | (rw [grant_f (by assumption)]; exact ⟨_, _, _, _, rfl, rfl⟩) | (rw [grant_3 hkf (by assumption)]; exact ⟨_, _, _, _, rfl, rfl⟩) | (rw [grant_2 hkf hie (ov_no (by omega) hallq) (by omega)]; exact ⟨_, _, _, _, rfl, rfl⟩) | (rw [grant_0 (i := m) hkf hie (ov_no (by omega) hallq) (by omega) (GI_end hG (by omega) hq)]; exact ⟨_, _, _, _, rfl, rfl⟩)
 have hkf : kernFault k = 0 := b6
 obtain ⟨hkd, hk8, hkx, hk60⟩ := kernOk hkf
 have hks := kernFault_exts hkf
 refine FJ.skip (FJ.then_ (FJ.seq (FJ.region (FJ.ql rfl (q_move rfl (.t (.s4 (.s (.s (.s .z)))))) ?_))))
 refine FJ.ql rfl (q_move rfl (.t (.s4 (.s4 (.s .z))))) (FJ.ql rfl (q_move rfl (.t (.s4 (.s4 (.s (.s (.s .z))))))) ?_)
 refine FJ.ql rfl (q_build (ps := [(0, .int .i64 f), (1, .int .i64 c), (2, .int .i64 key)]) (cs := [.int .i64 f, .int .i64 c, .int .i64 key]) rfl bl_135 (by intro act hact; simp only [List.map_toArray, List.map_cons, List.map_nil, (show Val _ _ _ from (.t (.s (.s .z)))) act hact, (show Val _ _ _ from (.t (.s .z))) act hact, (show Val _ _ _ from (.t .z)) act hact]) rfl) ?_
 refine FJ.e (goes_list rfl) rfl (by decide) rfl (e_alloc rfl z_135 rfl rfl) ?_
 rintro _ _ ⟨g19, rfl, rfl⟩
 refine FJ.es (goes_list rfl) rfl (es_store (off := 0) (cs := [.int .i64 f, .int .i64 c, .int .i64 key]) rfl sz_135 (.t .z) (.t (.s .z)) rfl (ones rfl) .z (Nat.le_of_ble_eq_true rfl) (.c .z (.c (.s .z) (.c (.s (.s .z)) .n)))) ?_
 refine FJ.nil (FJ.then_ (FJ.seq (FJ.seq (FJ.region ?_))))
 refine FJ.ql rfl (q_loadA (cs := [.int .i64 f, .int .i64 c, .int .i64 key]) rfl ag_135 sz_135 (.t .z) (WS.rows0 .z (fun i u h => by exact h))) ?_
 refine FJ.ql rfl (q_fieldAddr rfl (.t (.s4 (.s4 (.s (.s (.s .z)))))) (fun _ => fa_43_0 _ _)) (FJ.ql rfl (q_fieldAddrA (k := 0) rfl (.t .z) (fun _ => fa_25_0 _ _) rfl) (FJ.ql rfl (q_load rfl ag_22 (.t .z) (WS.row (.s (.s .z)) rfl)) (FJ.ql rfl (q_len rfl u_22 (.t .z)) ?_)))
 refine FJ.call (goes_list rfl) rfl (by decide) rfl (c_call rfl Try.func126 rfl rfl (args2 (.t (.s4 .z)) (.t .z))) .n (fun w1 S1 hs tr => c_126 (kT_135_mk (⟨f, c, key⟩ : DExt)) _ (by omega)) ?_
 rintro _ _ ⟨rfl, rfl⟩
 refine FJ.cat .n ?_
 refine FJ.ql rfl (q_not rfl (.t .z)) (FJ.nil (FJ.then_ ?_))
 refine FJ.condN (.t .z) (fun b20 => ?_) (fun b20 => ?_)
 refine FJ.seq (FJ.region ?_)
 refine FJ.call (goes_list rfl) rfl (by decide) rfl (c_call rfl Try.func89 rfl rfl (args1 .c)) .n (fun w1 S1 hs tr => c_89 _) ?_
 rintro _ _ ⟨v21, v23, v25, v27, rfl, rfl⟩
 refine FJ.cat (.c (.c (.c (.c .n)))) ?_
 refine FJ.know (WS.oform .z) ?_
 rintro ⟨Ao29, co29, rfl, hlo29, hmo29, hbo29⟩
 refine FJ.know (WS.oform (.s .z)) ?_
 rintro ⟨Ao30, co30, rfl, hlo30, hmo30, hbo30⟩
 refine FJ.know (WS.oform (.s (.s .z))) ?_
 rintro ⟨Ao31, co31, rfl, hlo31, hmo31, hbo31⟩
 refine FJ.know (WS.oform (.s (.s (.s .z)))) ?_
 rintro ⟨Ao32, co32, rfl, hlo32, hmo32, hbo32⟩
 refine FJ.es (goes_list rfl) rfl (es_store (off := 0) (cs := [.int .i64 ((badKern 3).code), .slice Ao29 ((badKern 3).words).length co29, .slice Ao30 ((badKern 3).kern.disk.blocks).length co30, .slice Ao31 ((badKern 3).kern.disk.cache).length co31, .slice Ao32 ((badKern 3).kern.exts).length co32]) rfl sz_45 (.t (.s16 (.s .z))) (.t .z) rfl (ones rfl) (.s4 (.s .z)) (Nat.le_of_ble_eq_true rfl) (.c .z (.c (.s .z) (.c (.s (.s .z)) (.c (.s (.s (.s .z))) (.c (.s (.s (.s (.s .z)))) .n)))))) ?_
 refine FJ.nil (FJ.then_ (FJ.ret (FJ.thenR ?_)))
 refine FJ.doneS (resC (cs := [.int .i64 ((badKern 3).code), .slice Ao29 ((badKern 3).words).length co29, .slice Ao30 ((badKern 3).kern.disk.blocks).length co30, .slice Ao31 ((badKern 3).kern.disk.cache).length co31, .slice Ao32 ((badKern 3).kern.exts).length co32]) rfl (.s16 (.s .z)) ag_45 sz_45 (WS.rows0 (cs := [.int .i64 ((badKern 3).code), .slice Ao29 ((badKern 3).words).length co29, .slice Ao30 ((badKern 3).kern.disk.blocks).length co30, .slice Ao31 ((badKern 3).kern.disk.cache).length co31, .slice Ao32 ((badKern 3).kern.exts).length co32]) .z (fun _ _ h => h))) (.c (.s .z) (.c (.s .z) (.c (.s .z) (.c (.s .z) .n)))) ?_
 first | (rw [grant_f (by assumption)]; exact ⟨_, _, _, _, rfl, rfl⟩) | (rw [grant_3 hkf (by assumption)]; exact ⟨_, _, _, _, rfl, rfl⟩) | (rw [grant_2 hkf hie (ov_no (by omega) hallq) (by omega)]; exact ⟨_, _, _, _, rfl, rfl⟩) | (rw [grant_0 (i := m) hkf hie (ov_no (by omega) hallq) (by omega) (GI_end hG (by omega) hq)]; exact ⟨_, _, _, _, rfl, rfl⟩)
 have hie : isExt k.disk.blocks.length (⟨f, c, key⟩ : DExt) := b20
 have hif : (1 ≤ key ∧ key ≤ 9999) ∧ (0 ≤ f ∧ f ≤ (k.disk.blocks.length : Int)) ∧ (1 ≤ c ∧ c ≤ (k.disk.blocks.length : Int)) ∧ f + c ≤ (k.disk.blocks.length : Int) := hie
 obtain ⟨⟨hn1, hn2⟩, ⟨hn3, hn4⟩, ⟨hn5, hn6⟩, hn7⟩ := hif
 refine FJ.skip (FJ.then_ (FJ.seq (FJ.region (FJ.ql rfl (q_assign rfl .c) ?_))))
 refine FJ.nil (FJ.then_ (FJ.seq (FJ.seq (FJ.region ?_))))
 refine FJ.ql rfl (q_assign rfl .c) (FJ.nil (FJ.then_ (FJ.block ?_)))
 refine FJ.loopi (γ := Nat × Nat) (fun ⟨q, m⟩ => [(12, .int .i64 (q : Int)), (11, .int .i64 (m : Int)), (10, .pointer (some ⟨g19, 0, none⟩)), (8, .pointer (some ⟨g5, 0, none⟩)), (4, .pointer (some ⟨g4, 0, none⟩))]) (fun ⟨q, m⟩ => [rowA g19 135 3 1 [.int .i64 f, .int .i64 c, .int .i64 key], rowA g5 45 5 1 [.int .i64 0, .slice none 0 0, .slice none 0 0, .slice none 0 0, .slice none 0 0], rowA g4 43 3 1 [.slice A0_0 k.disk.blocks.length c0_0, .slice A0_1 k.disk.cache.length c0_1, .slice A0_2 k.exts.length c0_2]]) (fun ⟨q, m⟩ => q ≤ k.exts.length ∧ (∀ (j : Nat) (e : DExt), j < q → k.exts[j]? = some e → ovP (⟨f, c, key⟩ : DExt) e = false) ∧ GI k.exts f q m) (fun ⟨q, m⟩ => k.exts.length - q) (0, 0) ⟨Nat.zero_le _, all_zero (q := fun _ (e : DExt) => ovP (⟨f, c, key⟩ : DExt) e = false), GI_0⟩ (.c .z (.c (.s .z) (.c (.s4 (.s4 (.s .z))) (.c (.s16 (.s (.s .z))) (.c (.s16 (.s (.s (.s .z)))) .n))))) (fun _ h => h.sel (.c .z (.c .z (.c .z .n)))) ?_
 rintro ⟨q, m⟩ ⟨hq, hallq, hG⟩
 have hml := hG.le
 refine FJ.seq (FJ.seq (FJ.region (FJ.ql rfl (q_move rfl (.t .z)) (FJ.ql rfl (q_fieldAddr rfl (.t (.s4 (.s .z))) (fun _ => fa_43_1 _ _)) ?_))))
 refine FJ.ql rfl (q_load rfl ag_41 (.t .z) (WS.row (.s (.s .z)) rfl)) (FJ.ql rfl (q_len rfl u_41 (.t .z)) (FJ.ql rfl (q_lss rfl (.t (.s (.s (.s .z)))) (.t .z)) (FJ.nil (FJ.then_ ?_))))
 refine FJ.condP (.t .z) (fun b33 => ?_) (fun b33 => ?_)
 refine FJ.skip (FJ.then_ (FJ.seq (FJ.block (FJ.seq ?_))))
 refine FJ.region (FJ.ql rfl (q_fieldAddr rfl (.t (.s4 (.s4 (.s .z)))) (fun _ => fa_43_1 _ _)) (FJ.ql rfl (q_load rfl ag_41 (.t .z) (WS.row (.s (.s .z)) rfl)) (FJ.ql rfl (q_move rfl (.t (.s4 (.s (.s (.s .z)))))) ?_)))
 obtain ⟨ad34, hAad34, hrad34⟩ := he0_2 (by omega)
 subst hAad34
 obtain ⟨x35, hx35⟩ := get_ex (xs := k.exts) (j := q) (by omega)
 obtain ⟨ece36, hre36, hFe36, hce36⟩ := hrad34.elem hx35
 obtain rfl := kT_135_ro hre36
 obtain ⟨-, ⟨hx1, hx2⟩, ⟨hx3, hx4⟩, hx5⟩ := hkx _ _ hx35
 refine FJ.ql rfl (q_indexAddr (j := q) rfl u_41 sz_135 (.t (.s .z)) (.t .z) rfl (by omega)) ?_
 refine FJ.ql rfl (q_loadA (cs := [.int .i64 x35.frm, .int .i64 x35.cnt, .int .i64 x35.key]) rfl ag_135 sz_135 (.t .z) (WS.els hFe36 hce36)) ?_
 refine FJ.e (goes_list rfl) rfl (by decide) rfl (e_alloc rfl z_135 rfl rfl) ?_
 rintro _ _ ⟨g37, rfl, rfl⟩
 refine FJ.es (goes_list rfl) rfl (es_store (off := 0) (cs := [.int .i64 x35.frm, .int .i64 x35.cnt, .int .i64 x35.key]) rfl sz_135 (.t .z) (.t (.s .z)) rfl (ones rfl) .z (Nat.le_of_ble_eq_true rfl) (.c .z (.c (.s .z) (.c (.s (.s .z)) .n)))) ?_
 refine FJ.nil (FJ.then_ (FJ.seq (FJ.seq (FJ.region ?_))))
 refine FJ.ql rfl (q_fieldAddr rfl (.t (.s4 (.s4 (.s4 (.s .z))))) (fun _ => fa_135_0 _ _)) (FJ.ql rfl (q_load rfl ag_2 (.t .z) (WS.row (.s .z) rfl)) (FJ.ql rfl (q_fieldAddr rfl (.t (.s (.s .z))) (fun _ => fa_135_0 _ _)) (FJ.ql rfl (q_load rfl ag_2 (.t .z) (WS.row .z rfl)) (FJ.ql rfl (q_fieldAddr rfl (.t (.s4 .z)) (fun _ => fa_135_1 _ _)) ?_))))
 refine FJ.ql rfl (q_load rfl ag_2 (.t .z) (WS.row .z rfl)) ?_
 refine FJ.ql rfl (q_add (c := x35.frm + x35.cnt) rfl (.t (.s (.s .z))) (.t .z) (wr (by omega) (by omega) (by omega))) ?_
 refine FJ.ql rfl (q_lss rfl (.t (.s4 (.s .z))) (.t .z)) (FJ.ql rfl (q_move rfl (.t .z)) ?_)
 refine FJ.caseP .z (fun g38 => ?_) (fun g38 => ?_)
 refine FJ.q (goes_listg rfl rfl .z) rfl (by decide) rfl (q_fieldAddr rfl (.t (.s4 (.s4 (.s .z)))) (fun _ => fa_135_0 _ _)) ?_
 refine FJ.q (goes_listg rfl rfl (.s .z)) rfl (by decide) rfl (q_load rfl ag_2 (.t .z) (WS.row .z rfl)) ?_
 refine FJ.q (goes_listg rfl rfl (.s (.s .z))) rfl (by decide) rfl (q_fieldAddr rfl (.t (.s16 (.s4 (.s4 .z)))) (fun _ => fa_135_0 _ _)) ?_
 refine FJ.q (goes_listg rfl rfl (.s (.s (.s .z)))) rfl (by decide) rfl (q_load rfl ag_2 (.t .z) (WS.row (.s .z) rfl)) ?_
 refine FJ.q (goes_listg rfl rfl (.s4 .z)) rfl (by decide) rfl (q_fieldAddr rfl (.t (.s16 (.s4 (.s4 (.s (.s .z)))))) (fun _ => fa_135_1 _ _)) ?_
 refine FJ.q (goes_listg rfl rfl (.s4 (.s .z))) rfl (by decide) rfl (q_load rfl ag_2 (.t .z) (WS.row (.s .z) rfl)) ?_
 refine FJ.q (goes_listg rfl rfl (.s4 (.s (.s .z)))) rfl (by decide) rfl (q_add (c := f + c) rfl (.t (.s (.s .z))) (.t .z) (wr (by omega) (by omega) (by omega))) ?_
 refine FJ.q (goes_listg rfl rfl (.s4 (.s (.s (.s .z))))) rfl (by decide) rfl (q_lss rfl (.t (.s4 (.s .z))) (.t .z)) ?_
 refine FJ.ql rfl (q_pickT rfl (.t (.s4 (.s4 .z))) (.t .z)) (FJ.nil (FJ.then_ ?_))
 refine FJ.condP (.t .z) (fun b39 => ?_) (fun b39 => ?_)
 refine FJ.seq (FJ.region ?_)
 refine FJ.call (goes_list rfl) rfl (by decide) rfl (c_call rfl Try.func89 rfl rfl (args1 .c)) .n (fun w1 S1 hs tr => c_89 _) ?_
 rintro _ _ ⟨v40, v42, v44, v46, rfl, rfl⟩
 refine FJ.cat (.c (.c (.c (.c .n)))) ?_
 refine FJ.know (WS.oform .z) ?_
 rintro ⟨Ao48, co48, rfl, hlo48, hmo48, hbo48⟩
 refine FJ.know (WS.oform (.s .z)) ?_
 rintro ⟨Ao49, co49, rfl, hlo49, hmo49, hbo49⟩
 refine FJ.know (WS.oform (.s (.s .z))) ?_
 rintro ⟨Ao50, co50, rfl, hlo50, hmo50, hbo50⟩
 refine FJ.know (WS.oform (.s (.s (.s .z)))) ?_
 rintro ⟨Ao51, co51, rfl, hlo51, hmo51, hbo51⟩
 refine FJ.es (goes_list rfl) rfl (es_store (off := 0) (cs := [.int .i64 ((badKern 7).code), .slice Ao48 ((badKern 7).words).length co48, .slice Ao49 ((badKern 7).kern.disk.blocks).length co49, .slice Ao50 ((badKern 7).kern.disk.cache).length co50, .slice Ao51 ((badKern 7).kern.exts).length co51]) rfl sz_45 (.t (.s16 (.s16 (.s .z)))) (.t .z) rfl (ones rfl) (.s4 (.s (.s .z))) (Nat.le_of_ble_eq_true rfl) (.c .z (.c (.s .z) (.c (.s (.s .z)) (.c (.s (.s (.s .z))) (.c (.s (.s (.s (.s .z)))) .n)))))) ?_
 refine FJ.nil (FJ.then_ (FJ.ret (FJ.thenR (FJ.inBR ?_))))
 refine FJ.thenR (FJ.thenR (FJ.inBR (FJ.thenR ?_)))
 refine FJ.doneS (resC (cs := [.int .i64 ((badKern 7).code), .slice Ao48 ((badKern 7).words).length co48, .slice Ao49 ((badKern 7).kern.disk.blocks).length co49, .slice Ao50 ((badKern 7).kern.disk.cache).length co50, .slice Ao51 ((badKern 7).kern.exts).length co51]) rfl (.s16 (.s16 (.s .z))) ag_45 sz_45 (WS.rows0 (cs := [.int .i64 ((badKern 7).code), .slice Ao48 ((badKern 7).words).length co48, .slice Ao49 ((badKern 7).kern.disk.blocks).length co49, .slice Ao50 ((badKern 7).kern.disk.cache).length co50, .slice Ao51 ((badKern 7).kern.exts).length co51]) .z (fun _ _ h => h))) (.c (.s .z) (.c (.s .z) (.c (.s .z) (.c (.s .z) .n)))) ?_
 first | (rw [grant_f (by assumption)]; exact ⟨_, _, _, _, rfl, rfl⟩) | (rw [grant_3 hkf (by assumption)]; exact ⟨_, _, _, _, rfl, rfl⟩) | (rw [grant_7 hkf hie (List.any_eq_true.2 ⟨_, List.mem_of_getElem? hx35, ov_t hk60 hie (hkx _ _ hx35) (by assumption) (by assumption)⟩)]; exact ⟨_, _, _, _, rfl, rfl⟩) | (rw [grant_2 hkf hie (ov_no (by omega) hallq) (by omega)]; exact ⟨_, _, _, _, rfl, rfl⟩) | (rw [grant_0 (i := m) hkf hie (ov_no (by omega) hallq) (by omega) (GI_end hG (by omega) hq)]; exact ⟨_, _, _, _, rfl, rfl⟩)
 refine FJ.skip (FJ.then_ (FJ.seq (FJ.region (FJ.ql rfl (q_fieldAddr rfl (.t (.s16 (.s (.s .z)))) (fun _ => fa_135_0 _ _)) ?_))))
 refine FJ.ql rfl (q_load rfl ag_2 (.t .z) (WS.row .z rfl)) (FJ.ql rfl (q_fieldAddr rfl (.t (.s16 (.s16 (.s .z)))) (fun _ => fa_135_0 _ _)) (FJ.ql rfl (q_load rfl ag_2 (.t .z) (WS.row (.s .z) rfl)) (FJ.ql rfl (q_lss rfl (.t (.s (.s .z))) (.t .z)) (FJ.nil ?_))))
 refine FJ.then_ ?_
 refine FJ.condP (.t .z) (fun b52 => ?_) (fun b52 => ?_)
 refine FJ.region (FJ.ql rfl (q_move rfl (.t (.s16 (.s16 (.s (.s .z)))))) ?_)
 refine FJ.ql rfl (q_add (c := ((q + 1 : Nat) : Int)) rfl (.t .z) .c (wr (by omega) (by omega) (by omega))) ?_
 refine FJ.er (.s16 (.s16 (.s4 (.s .z)))) (FJ.ql rfl (q_assign rfl (.t .z)) (FJ.nil (FJ.inBN (FJ.then_ ?_))))
 refine FJ.region (FJ.ql rfl (q_move rfl (.t (.s16 (.s16 (.s4 (.s .z)))))) ?_)
 refine FJ.ql rfl (q_add (c := ((q + 1 : Nat) : Int)) rfl (.t .z) .c (wr (by omega) (by omega) (by omega))) ?_
 refine FJ.er (.s16 (.s16 (.s4 (.s (.s (.s .z)))))) (FJ.ql rfl (q_assign rfl (.t .z)) (FJ.nil ?_))
 refine FJ.again ((q + 1), q + 1) ⟨by omega, all_succ (q := fun _ (e : DExt) => ovP (⟨f, c, key⟩ : DExt) e = false) hallq hx35 (by first | exact ov_f1 hk60 hie (hkx _ _ hx35) (by assumption) | exact ov_f2 hk60 hie (hkx _ _ hx35) (by assumption)), GI_y hks hG hx35 (by assumption)⟩ (by first | omega | (dsimp only; omega)) (.c .z (.c (.s (.s (.s .z))) (.c (.s16 (.s16 (.s4 (.s4 .z)))) (.c (.s16 (.s16 (.s4 (.s4 (.s .z))))) (.c (.s16 (.s16 (.s4 (.s4 (.s (.s .z)))))) .n))))) (fun _ h => h.sel (.c (.s .z) (.c (.s .z) (.c (.s .z) .n))))
 refine FJ.skip (FJ.inBN (FJ.then_ (FJ.region (FJ.ql rfl (q_move rfl (.t (.s16 (.s16 (.s (.s .z)))))) ?_))))
 refine FJ.ql rfl (q_add (c := ((q + 1 : Nat) : Int)) rfl (.t .z) .c (wr (by omega) (by omega) (by omega))) ?_
 refine FJ.er (.s16 (.s16 (.s4 .z))) (FJ.ql rfl (q_assign rfl (.t .z)) (FJ.nil ?_))
 refine FJ.again ((q + 1), m) ⟨by omega, all_succ (q := fun _ (e : DExt) => ovP (⟨f, c, key⟩ : DExt) e = false) hallq hx35 (by first | exact ov_f1 hk60 hie (hkx _ _ hx35) (by assumption) | exact ov_f2 hk60 hie (hkx _ _ hx35) (by assumption)), GI_n hG hx35 (by assumption)⟩ (by first | omega | (dsimp only; omega)) (.c .z (.c (.s16 (.s16 (.s4 (.s .z)))) (.c (.s16 (.s16 (.s4 (.s (.s .z))))) (.c (.s16 (.s16 (.s4 (.s (.s (.s .z)))))) (.c (.s16 (.s16 (.s4 (.s4 .z)))) .n))))) (fun _ h => h.sel (.c (.s .z) (.c (.s .z) (.c (.s .z) .n))))
 refine FJ.skipl rfl rfl .z rfl rfl (by decide) rfl ?_
 refine FJ.skipl rfl rfl (.s .z) rfl rfl (by decide) rfl ?_
 refine FJ.skipl rfl rfl (.s (.s .z)) rfl rfl (by decide) rfl ?_
 refine FJ.skipl rfl rfl (.s (.s (.s .z))) rfl rfl (by decide) rfl ?_
 refine FJ.skipl rfl rfl (.s4 .z) rfl rfl (by decide) rfl ?_
 refine FJ.skipl rfl rfl (.s4 (.s .z)) rfl rfl (by decide) rfl ?_
 refine FJ.skipl rfl rfl (.s4 (.s (.s .z))) rfl rfl (by decide) rfl ?_
 refine FJ.skipl rfl rfl (.s4 (.s (.s (.s .z)))) rfl rfl (by decide) rfl ?_
 refine FJ.ql rfl (q_pickF rfl (.t (.s4 (.s4 .z))) .c) (FJ.nil (FJ.then_ ?_))
 refine FJ.condF (.t .z) ?_
 refine FJ.skip (FJ.then_ (FJ.seq (FJ.region (FJ.ql rfl (q_fieldAddr rfl (.t (.s16 (.s (.s .z)))) (fun _ => fa_135_0 _ _)) ?_))))
 refine FJ.ql rfl (q_load rfl ag_2 (.t .z) (WS.row .z rfl)) (FJ.ql rfl (q_fieldAddr rfl (.t (.s16 (.s16 (.s .z)))) (fun _ => fa_135_0 _ _)) (FJ.ql rfl (q_load rfl ag_2 (.t .z) (WS.row (.s .z) rfl)) (FJ.ql rfl (q_lss rfl (.t (.s (.s .z))) (.t .z)) (FJ.nil ?_))))
 refine FJ.then_ ?_
 refine FJ.condP (.t .z) (fun b53 => ?_) (fun b53 => ?_)
 refine FJ.region (FJ.ql rfl (q_move rfl (.t (.s16 (.s16 (.s (.s .z)))))) ?_)
 refine FJ.ql rfl (q_add (c := ((q + 1 : Nat) : Int)) rfl (.t .z) .c (wr (by omega) (by omega) (by omega))) ?_
 refine FJ.er (.s16 (.s16 (.s4 (.s .z)))) (FJ.ql rfl (q_assign rfl (.t .z)) (FJ.nil (FJ.inBN (FJ.then_ ?_))))
 refine FJ.region (FJ.ql rfl (q_move rfl (.t (.s16 (.s16 (.s4 (.s .z)))))) ?_)
 refine FJ.ql rfl (q_add (c := ((q + 1 : Nat) : Int)) rfl (.t .z) .c (wr (by omega) (by omega) (by omega))) ?_
 refine FJ.er (.s16 (.s16 (.s4 (.s (.s (.s .z)))))) (FJ.ql rfl (q_assign rfl (.t .z)) (FJ.nil ?_))
 refine FJ.again ((q + 1), q + 1) ⟨by omega, all_succ (q := fun _ (e : DExt) => ovP (⟨f, c, key⟩ : DExt) e = false) hallq hx35 (by first | exact ov_f1 hk60 hie (hkx _ _ hx35) (by assumption) | exact ov_f2 hk60 hie (hkx _ _ hx35) (by assumption)), GI_y hks hG hx35 (by assumption)⟩ (by first | omega | (dsimp only; omega)) (.c .z (.c (.s (.s (.s .z))) (.c (.s16 (.s16 (.s4 (.s4 .z)))) (.c (.s16 (.s16 (.s4 (.s4 (.s .z))))) (.c (.s16 (.s16 (.s4 (.s4 (.s (.s .z)))))) .n))))) (fun _ h => h.sel (.c (.s .z) (.c (.s .z) (.c (.s .z) .n))))
 refine FJ.skip (FJ.inBN (FJ.then_ (FJ.region (FJ.ql rfl (q_move rfl (.t (.s16 (.s16 (.s (.s .z)))))) ?_))))
 refine FJ.ql rfl (q_add (c := ((q + 1 : Nat) : Int)) rfl (.t .z) .c (wr (by omega) (by omega) (by omega))) ?_
 refine FJ.er (.s16 (.s16 (.s4 .z))) (FJ.ql rfl (q_assign rfl (.t .z)) (FJ.nil ?_))
 refine FJ.again ((q + 1), m) ⟨by omega, all_succ (q := fun _ (e : DExt) => ovP (⟨f, c, key⟩ : DExt) e = false) hallq hx35 (by first | exact ov_f1 hk60 hie (hkx _ _ hx35) (by assumption) | exact ov_f2 hk60 hie (hkx _ _ hx35) (by assumption)), GI_n hG hx35 (by assumption)⟩ (by first | omega | (dsimp only; omega)) (.c .z (.c (.s16 (.s16 (.s4 (.s .z)))) (.c (.s16 (.s16 (.s4 (.s (.s .z))))) (.c (.s16 (.s16 (.s4 (.s (.s (.s .z)))))) (.c (.s16 (.s16 (.s4 (.s4 .z)))) .n))))) (fun _ h => h.sel (.c (.s .z) (.c (.s .z) (.c (.s .z) .n))))
 refine FJ.exit (FJ.thenE (FJ.thenE (FJ.inB (FJ.then_ ?_))))
 refine FJ.seq (FJ.seq (FJ.region (FJ.ql rfl (q_fieldAddr rfl (.t (.s4 (.s4 (.s .z)))) (fun _ => fa_43_1 _ _)) (FJ.ql rfl (q_load rfl ag_41 (.t .z) (WS.row (.s (.s .z)) rfl)) ?_))))
 refine FJ.ql rfl (q_len rfl u_41 (.t .z)) (FJ.ql rfl (q_geq rfl (.t .z) .c) (FJ.nil (FJ.then_ ?_)))
 refine FJ.condP (.t .z) (fun b54 => ?_) (fun b54 => ?_)
 refine FJ.seq (FJ.region ?_)
 refine FJ.call (goes_list rfl) rfl (by decide) rfl (c_call rfl Try.func89 rfl rfl (args1 .c)) .n (fun w1 S1 hs tr => c_89 _) ?_
 rintro _ _ ⟨v55, v57, v59, v61, rfl, rfl⟩
 refine FJ.cat (.c (.c (.c (.c .n)))) ?_
 refine FJ.know (WS.oform .z) ?_
 rintro ⟨Ao63, co63, rfl, hlo63, hmo63, hbo63⟩
 refine FJ.know (WS.oform (.s .z)) ?_
 rintro ⟨Ao64, co64, rfl, hlo64, hmo64, hbo64⟩
 refine FJ.know (WS.oform (.s (.s .z))) ?_
 rintro ⟨Ao65, co65, rfl, hlo65, hmo65, hbo65⟩
 refine FJ.know (WS.oform (.s (.s (.s .z)))) ?_
 rintro ⟨Ao66, co66, rfl, hlo66, hmo66, hbo66⟩
 refine FJ.es (goes_list rfl) rfl (es_store (off := 0) (cs := [.int .i64 ((badKern 2).code), .slice Ao63 ((badKern 2).words).length co63, .slice Ao64 ((badKern 2).kern.disk.blocks).length co64, .slice Ao65 ((badKern 2).kern.disk.cache).length co65, .slice Ao66 ((badKern 2).kern.exts).length co66]) rfl sz_45 (.t (.s4 (.s4 (.s4 (.s .z))))) (.t .z) rfl (ones rfl) (.s4 (.s .z)) (Nat.le_of_ble_eq_true rfl) (.c .z (.c (.s .z) (.c (.s (.s .z)) (.c (.s (.s (.s .z))) (.c (.s (.s (.s (.s .z)))) .n)))))) ?_
 refine FJ.nil (FJ.then_ (FJ.ret (FJ.thenR ?_)))
 refine FJ.doneS (resC (cs := [.int .i64 ((badKern 2).code), .slice Ao63 ((badKern 2).words).length co63, .slice Ao64 ((badKern 2).kern.disk.blocks).length co64, .slice Ao65 ((badKern 2).kern.disk.cache).length co65, .slice Ao66 ((badKern 2).kern.exts).length co66]) rfl (.s4 (.s4 (.s4 (.s .z)))) ag_45 sz_45 (WS.rows0 (cs := [.int .i64 ((badKern 2).code), .slice Ao63 ((badKern 2).words).length co63, .slice Ao64 ((badKern 2).kern.disk.blocks).length co64, .slice Ao65 ((badKern 2).kern.disk.cache).length co65, .slice Ao66 ((badKern 2).kern.exts).length co66]) .z (fun _ _ h => h))) (.c (.s .z) (.c (.s .z) (.c (.s .z) (.c (.s .z) .n)))) ?_
 first | (rw [grant_f (by assumption)]; exact ⟨_, _, _, _, rfl, rfl⟩) | (rw [grant_3 hkf (by assumption)]; exact ⟨_, _, _, _, rfl, rfl⟩) | (rw [grant_2 hkf hie (ov_no (by omega) hallq) (by omega)]; exact ⟨_, _, _, _, rfl, rfl⟩) | (rw [grant_0 (i := m) hkf hie (ov_no (by omega) hallq) (by omega) (GI_end hG (by omega) hq)]; exact ⟨_, _, _, _, rfl, rfl⟩)
 refine FJ.skip (FJ.then_ (FJ.seq (FJ.region ?_)))
 refine FJ.ql rfl (q_loadA (cs := [.slice A0_0 k.disk.blocks.length c0_0, .slice A0_1 k.disk.cache.length c0_1, .slice A0_2 k.exts.length c0_2]) rfl ag_43 sz_43 (.t (.s4 (.s4 (.s4 (.s .z))))) (WS.rows0 (.s (.s .z)) (fun i u h => by exact h))) ?_
 refine FJ.call (goes_list rfl) rfl (by decide) rfl (c_call rfl Try.func127 rfl rfl (args1 (.t .z))) .n (fun w1 S1 hs tr => c_127 (kT_43_mk k (tr.ctx h0_0) (tr.ctx h0_1) (tr.ctx h0_2))) ?_
 rintro _ _ ⟨v67, v69, v71, rfl, rfl⟩
 refine FJ.cat (.c (.c (.c .n))) ?_
 refine FJ.know (WS.oform .z) ?_
 rintro ⟨Ao73, co73, rfl, hlo73, hmo73, hbo73⟩
 refine FJ.know (WS.oform (.s .z)) ?_
 rintro ⟨Ao74, co74, rfl, hlo74, hmo74, hbo74⟩
 refine FJ.know (WS.oform (.s (.s .z))) ?_
 rintro ⟨Ao75, co75, rfl, hlo75, hmo75, hbo75⟩
 refine FJ.e (goes_list rfl) rfl (by decide) rfl (e_alloc rfl z_43 rfl rfl) ?_
 rintro _ _ ⟨g76, rfl, rfl⟩
 refine FJ.es (goes_list rfl) rfl (es_store (off := 0) (cs := [.slice Ao73 k.disk.blocks.length co73, .slice Ao74 k.disk.cache.length co74, .slice Ao75 k.exts.length co75]) rfl sz_43 (.t .z) (.t (.s .z)) rfl (ones rfl) .z (Nat.le_of_ble_eq_true rfl) (.c .z (.c (.s .z) (.c (.s (.s .z)) .n)))) ?_
 refine FJ.nil (FJ.then_ (FJ.seq (FJ.region ?_)))
 refine FJ.e (goes_list rfl) rfl (by decide) rfl (e_buildNil rfl u_41 (inz inf_135)) ?_
 rintro _ _ ⟨g77, rfl, rfl⟩
 refine FJ.ql rfl (q_fieldAddr rfl (.t (.s16 (.s .z))) (fun _ => fa_43_1 _ _)) (FJ.ql rfl (q_load rfl ag_41 (.t .z) (WS.row (.s4 (.s (.s (.s .z)))) rfl)) (FJ.ql rfl (q_move rfl (.t (.s16 .z))) ?_))
 obtain ⟨As78, hAs78⟩ : ∃ A' : Option Addr, A' = (if c0_2 = 0 then A0_2 else Option.map (fun z => Addr.add z (0 * 3)) A0_2) := ⟨_, rfl⟩
 have hs78 := ro_sub (a := 0) (b := m) hAs78 h0_2 (by omega) (by omega)
 have ls78 := subL_len (xs := k.exts) (a := 0) (b := m) (by omega)
 refine FJ.ql rfl (q_sliceL (a := 0) (b := m) rfl u_41 sz_135 (.t (.s .z)) hAs78 (.inl ⟨rfl, rfl⟩) (.inr ⟨_, _, rfl, (.t .z)⟩) (by omega) (by omega) (by omega)) ?_
 refine FJ.add (c := ownA kSl_135 ([] : (List DExt)) [.slice (some ⟨g77, 0, none⟩) 0 0]) (fun w S => own_nil w S _) ?_
 refine FJ.e (goes_list rfl) rfl (by decide) rfl (e_appendF (flat_iso _ (flat_pair (flat_scalar _ _ _) (flat_pair (flat_scalar _ _ _) (flat_scalar _ _ _)))) rfl u_41 inf_135 rfl (.t (.s4 .z)) (.t .z) (.c .z .n) (fun w1 S1 tr => tr.ctx hs78) (by first | omega | (simp only [List.length_append, List.length_take, List.length_nil, List.length_cons]; omega)) (by first | omega | (simp only [List.length_append, List.length_take, List.length_nil, List.length_cons]; omega))) ?_
 rintro _ _ rfl
 refine FJ.ceq .z (List.nil_append _) ?_
 refine FJ.know (WS.oform .z) ?_
 rintro ⟨Ao81, co81, rfl, hlo81, hmo81, hbo81⟩
 refine FJ.ql rfl (q_assign rfl (.t .z)) (FJ.nil (FJ.then_ (FJ.seq ?_)))
 refine FJ.sel (.c .z (.c (.s (.s .z)) (.c (.s (.s .z)) (.c (.s (.s .z)) (.c .z (.c .z (.c .z (.c .z (.c .z .n))))))))) ?_
 refine FJ.draw [rowA g77 135 3 0 [], rowA g76 43 3 1 [.slice Ao73 k.disk.blocks.length co73, .slice Ao74 k.disk.cache.length co74, .slice Ao75 k.exts.length co75], rowA g19 135 3 1 [.int .i64 f, .int .i64 c, .int .i64 key], rowA g5 45 5 1 [.int .i64 0, .slice none 0 0, .slice none 0 0, .slice none 0 0, .slice none 0 0], rowA g4 43 3 1 [.slice A0_0 k.disk.blocks.length c0_0, .slice A0_1 k.disk.cache.length c0_1, .slice A0_2 k.exts.length c0_2]] 10 (by kernel_rfl) ?_
 refine FJ.sch [(0, true), (1, true), (4, true), (5, true), (6, true), (7, true), (2, false), (3, false), (8, false), (9, true), (10, false)] 0 #[true, true, true, true, true, true, true, true, true, true, true] (by rfl) (by kernel_rfl) ?_
 refine FJ.dq rfl rfl rfl (by decide) rfl (.s4 .z) (q_move rfl (.t .z)) ?_
 refine FJ.dq rfl rfl rfl (by decide) rfl (.s4 .z) (q_loadA (cs := [.int .i64 f, .int .i64 c, .int .i64 key]) rfl ag_135 sz_135 (.t (.s16 (.s4 (.s (.s .z))))) (WS.rows0 (.s (.s .z)) (fun i u h => by exact h))) ?_
 refine FJ.dq rfl rfl rfl (by decide) rfl (.s4 .z) (q_fieldAddr rfl (.t (.s16 (.s4 (.s4 (.s .z))))) (fun _ => fa_43_1 _ _)) (FJ.dq rfl rfl rfl (by decide) rfl (.s4 .z) (q_load rfl ag_41 (.t .z) (WS.row (.s4 .z) rfl)) (FJ.dq rfl rfl rfl (by decide) rfl (.s4 .z) (q_move rfl (.t (.s16 (.s4 (.s4 .z))))) ?_))
 obtain ⟨As82, hAs82⟩ : ∃ A' : Option Addr, A' = (if c0_2 = m then A0_2 else Option.map (fun z => Addr.add z (m * 3)) A0_2) := ⟨_, rfl⟩
 have hs82 := ro_sub (a := m) (b := k.exts.length) hAs82 h0_2 (by omega) (by omega)
 have ls82 := subL_len (xs := k.exts) (a := m) (b := k.exts.length) (by omega)
 refine FJ.dq rfl rfl rfl (by decide) rfl (.s4 .z) (q_sliceL (a := m) (b := k.exts.length) rfl u_41 sz_135 (.t (.s .z)) hAs82 (.inr ⟨_, _, rfl, (.t .z)⟩) (.inl ⟨rfl, rfl⟩) (by omega) (by omega) (by omega)) ?_
 refine FJ.e (goes_sch rfl rfl) rfl (by decide) rfl (e_buildSliceL (ps := [(0, .agg #[.int .i64 f, .int .i64 c, .int .i64 key])]) (cs := [.int .i64 f, .int .i64 c, .int .i64 key]) rfl u_41 (inz inf_135) (by decide) (by intro act hact; simp only [List.map_toArray, List.map_cons, List.map_nil, (show Val _ _ _ from (.t (.s4 .z))) act hact]) rfl rfl (by decide) rfl rfl) ?_
 rintro _ _ ⟨g84, rfl, rfl⟩
 refine FJ.sk (.s4 (.s .z)) ?_
 refine FJ.turns (c := ownA kT_135 (⟨f, c, key⟩ : DExt) [.int .i64 f, .int .i64 c, .int .i64 key]) .n (fun w S h => kT_135_omk (⟨f, c, key⟩ : DExt) h) ?_
 refine FJ.e (goes_sch rfl rfl) rfl (by decide) rfl (e_append1 rfl u_41 inf_135 rfl (.t (.s4 (.s (.s .z)))) (.t .z) (.c (.s (.s .z)) (.c (.s .z) (.c .z .n))) (by first | omega | (simp only [List.length_append, List.length_take, List.length_nil, List.length_cons]; omega)) (by first | omega | (simp only [List.length_append, List.length_take, List.length_nil, List.length_cons]; omega))) ?_
 rintro _ _ rfl
 refine FJ.know (WS.oform .z) ?_
 rintro ⟨Ao86, co86, rfl, hlo86, hmo86, hbo86⟩
 refine FJ.sk (.s4 .z) ?_
 refine FJ.e (goes_sch rfl rfl) rfl (by decide) rfl (e_appendF (flat_iso _ (flat_pair (flat_scalar _ _ _) (flat_pair (flat_scalar _ _ _) (flat_scalar _ _ _)))) rfl u_41 inf_135 rfl (.t .z) (.t (.s (.s .z))) (.c .z .n) (fun w1 S1 tr => tr.ctx hs82) (by first | omega | (simp only [List.length_append, List.length_take, List.length_nil, List.length_cons]; omega)) (by first | omega | (simp only [List.length_append, List.length_take, List.length_nil, List.length_cons]; omega))) ?_
 rintro _ _ rfl
 refine FJ.know (WS.oform .z) ?_
 rintro ⟨Ao87, co87, rfl, hlo87, hmo87, hbo87⟩
 refine FJ.sk (.s4 .z) ?_
 refine FJ.dq rfl rfl rfl (by decide) rfl (.s4 .z) (q_fieldAddr rfl (.t (.s16 .z)) (fun _ => fa_43_1 _ _)) ?_
 refine FJ.es (goes_sch rfl rfl) rfl (es_store (off := 2) (cs := [.slice Ao87 (((subL k.exts 0 m) ++ [(⟨f, c, key⟩ : DExt)]) ++ (subL k.exts m k.exts.length)).length co87]) rfl sz_41 (.t .z) (.t (.s .z)) rfl (ones rfl) (.s4 (.s .z)) (Nat.le_of_ble_eq_true rfl) (.c (.s (.s .z)) .n)) ?_
 refine FJ.sl rfl ?_
 refine FJ.schN ?_
 refine FJ.drawN (by kernel_rfl) ?_
 refine FJ.then_ (FJ.seq (FJ.region ?_))
 refine FJ.ql rfl (q_loadA (cs := [.slice Ao73 k.disk.blocks.length co73, .slice Ao74 k.disk.cache.length co74, .slice Ao87 (((subL k.exts 0 m) ++ [(⟨f, c, key⟩ : DExt)]) ++ (subL k.exts m k.exts.length)).length co87]) rfl ag_43 sz_43 (.t (.s16 (.s .z))) (WS.rows0 .z (fun i u h => by exact h))) ?_
 refine FJ.ql rfl (q_build (ps := [(2, .agg #[.slice Ao73 k.disk.blocks.length co73, .slice Ao74 k.disk.cache.length co74, .slice Ao87 (((subL k.exts 0 m) ++ [(⟨f, c, key⟩ : DExt)]) ++ (subL k.exts m k.exts.length)).length co87])]) (cs := [.int .i64 0, .slice none 0 0, .slice Ao73 k.disk.blocks.length co73, .slice Ao74 k.disk.cache.length co74, .slice Ao87 (((subL k.exts 0 m) ++ [(⟨f, c, key⟩ : DExt)]) ++ (subL k.exts m k.exts.length)).length co87]) rfl bl_45 (by intro act hact; simp only [List.map_toArray, List.map_cons, List.map_nil, (show Val _ _ _ from (.t .z)) act hact]) rfl) ?_
 refine FJ.es (goes_list rfl) rfl (es_store (off := 0) (cs := [.int .i64 0, .slice none 0 0, .slice Ao73 k.disk.blocks.length co73, .slice Ao74 k.disk.cache.length co74, .slice Ao87 (((subL k.exts 0 m) ++ [(⟨f, c, key⟩ : DExt)]) ++ (subL k.exts m k.exts.length)).length co87]) rfl sz_45 (.t (.s16 (.s16 (.s (.s .z))))) (.t .z) rfl (ones rfl) (.s4 (.s (.s (.s .z)))) (Nat.le_of_ble_eq_true rfl) (.c .z (.c (.s .z) (.c (.s (.s .z)) (.c (.s (.s (.s .z))) (.c (.s (.s (.s (.s .z)))) .n)))))) ?_
 refine FJ.nil (FJ.then_ (FJ.ret ?_))
 refine FJ.ceq (x' := List.take m k.exts ++ [(⟨f, c, key⟩ : DExt)] ++ List.drop m k.exts) (.s (.s .z)) (by simp [subL]) ?_
 refine FJ.add (c := ownA kSl_2 [] [.slice none 0 0]) (fun w S => own_nil w S none) ?_
 refine FJ.doneS (resC (cs := [.int .i64 0, .slice none 0 0, .slice Ao73 k.disk.blocks.length co73, .slice Ao74 k.disk.cache.length co74, .slice Ao87 (((subL k.exts 0 m) ++ [(⟨f, c, key⟩ : DExt)]) ++ (subL k.exts m k.exts.length)).length co87]) rfl (.s16 (.s16 (.s (.s .z)))) ag_45 sz_45 (WS.rows0 (cs := [.int .i64 0, .slice none 0 0, .slice Ao73 k.disk.blocks.length co73, .slice Ao74 k.disk.cache.length co74, .slice Ao87 (((subL k.exts 0 m) ++ [(⟨f, c, key⟩ : DExt)]) ++ (subL k.exts m k.exts.length)).length co87]) (.s (.s .z)) (fun _ _ h => h))) (.c .z (.c (.s (.s (.s .z))) (.c (.s (.s (.s .z))) (.c .z .n)))) ?_
 first | (rw [grant_f (by assumption)]; exact ⟨_, _, _, _, rfl, rfl⟩) | (rw [grant_3 hkf (by assumption)]; exact ⟨_, _, _, _, rfl, rfl⟩) | (rw [grant_2 hkf hie (ov_no (by omega) hallq) (by omega)]; exact ⟨_, _, _, _, rfl, rfl⟩) | (rw [grant_0 (i := m) hkf hie (ov_no (by omega) hallq) (by omega) (GI_end hG (by omega) hq)]; exact ⟨_, _, _, _, rfl, rfl⟩)

end Go.Proofs.Ytkmcpcahbfdohaa

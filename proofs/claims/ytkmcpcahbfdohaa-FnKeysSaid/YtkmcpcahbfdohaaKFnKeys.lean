/- What is proved: contracts of functions, one a function. No condition. -/
import Derived.Test.YtkmcpcahbfdohaaW47
import Derived.Test.YtkmcpcahbfdohaaW32
import Derived.Test.YtkmcpcahbfdohaaW31
import Derived.Test.YtkmcpcahbfdohaaW43
import Derived.Test.YtkmcpcahbfdohaaW10
import Derived.Test.YtkmcpcahbfdohaaW9
import Derived.Test.YtkmcpcahbfdohaaTypesA
import Derived.Test.YtkmcpcahbfdohaaBase1
import Derived.Test.YtkmcpcahbfdohaaBase2
namespace Go.Proofs.Ytkmcpcahbfdohaa
open Go Go.RowKit
set_option linter.unusedVariables false
set_option linter.unusedSimpArgs false
set_option maxHeartbeats 1000000 in
set_option maxRecDepth 20000 in
theorem c_14 {w0 : World} {S0 : Bs} {cd : (List UInt8)} {v0 : Value} (h0 : kSl_5.ro w0 (FF w0 S0) cd [v0])  :
    Calls Try.prog 14 #[v0] w0 (TriPost w0 S0 (fun r l => r = .bool true ∧ l = [])) := by
 obtain ⟨A0, c0, rfl, hl0, hm0, hb0, he0⟩ := ro_form h0
 refine FJ.enter (N := 162) Try.func14 rfl rfl (by simp) [(0, .slice A0 cd.length c0)] (by simp) (l0 := []) trivial ?_
 refine FJ.seq (FJ.region (FJ.ql rfl (q_assign rfl .c) (FJ.nil (FJ.then_ ?_))))
 refine FJ.seq (FJ.seq (FJ.region (FJ.ql rfl (q_move rfl (.t (.s .z))) ?_)))
 refine FJ.call (goes_list rfl) rfl (by decide) rfl (c_call rfl Try.func35 rfl rfl (args1 (.t .z))) .n (fun w1 S1 hs tr => c_35 (tr.ctx h0)) ?_
 rintro _ _ ⟨rfl, rfl⟩
 refine FJ.cat .n ?_
 refine FJ.nil (FJ.then_ ?_)
 refine FJ.condP (.t .z) (fun b2 => ?_) (fun b2 => ?_)
 refine FJ.seq (FJ.region (FJ.er (.s (.s .z)) (FJ.ql rfl (q_assign rfl .c) (FJ.nil ?_))))
 refine FJ.then_ (FJ.ret (FJ.thenR ?_))
 refine FJ.doneS (res1 rfl .z) .n ?_
 exact ⟨rfl, rfl⟩
 refine FJ.skip (FJ.then_ (FJ.seq (FJ.region (FJ.ql rfl (q_move rfl (.t (.s (.s (.s .z))))) ?_))))
 refine FJ.call (goes_list rfl) rfl (by decide) rfl (c_call rfl Try.func68 rfl rfl (args1 (.t .z))) .n (fun w1 S1 hs tr => c_68 (tr.ctx h0) (by omega)) ?_
 rintro _ _ ⟨kn3, v4, v6, v8, m10, m11, ws14, v13, hzkn3, rfl, rfl⟩
 refine FJ.cat (.c (.c (.c (.c .n)))) ?_
 obtain ⟨LA, LB, LC, LD⟩ := @keys_law kn3 m10 m11 ws14
 refine FJ.know (WS.oform .z) ?_
 rintro ⟨Ao15, co15, rfl, hlo15, hmo15, hbo15⟩
 refine FJ.know (WS.oform (.s .z)) ?_
 rintro ⟨Ao16, co16, rfl, hlo16, hmo16, hbo16⟩
 refine FJ.know (WS.oform (.s (.s .z))) ?_
 rintro ⟨Ao17, co17, rfl, hlo17, hmo17, hbo17⟩
 refine FJ.know (WS.oform (.s (.s (.s .z)))) ?_
 rintro ⟨Ao18, co18, rfl, hlo18, hmo18, hbo18⟩
 refine FJ.freeze .z ?_
 intro w0 S0 trz19 hrz19 hupz19
 replace h0 := trz19 h0
 refine FJ.freeze .z ?_
 intro w0 S0 trz24 hrz24 hupz24
 replace hrz19 := trz24 hrz19
 replace h0 := trz24 h0
 refine FJ.freeze .z ?_
 intro w0 S0 trz30 hrz30 hupz30
 replace hrz19 := trz30 hrz19
 replace hrz24 := trz30 hrz24
 replace h0 := trz30 h0
 refine FJ.freeze .z ?_
 intro w0 S0 trz37 hrz37 hupz37
 replace hrz19 := trz37 hrz19
 replace hrz24 := trz37 hrz24
 replace hrz30 := trz37 hrz30
 replace h0 := trz37 h0
 refine FJ.ql rfl (q_move rfl (.t .z)) (FJ.ql rfl (q_extract (v := .agg #[.slice Ao15 kn3.disk.blocks.length co15, .slice Ao16 kn3.disk.cache.length co16, .slice Ao17 kn3.exts.length co17]) rfl (.t .z) rfl) (FJ.ql rfl (q_extract (v := .int .i64 m10) rfl (.t (.s .z)) rfl) (FJ.ql rfl (q_extract (v := .int .i64 m11) rfl (.t (.s (.s .z))) rfl) (FJ.ql rfl (q_extract (v := .slice Ao18 ws14.length co18) rfl (.t (.s (.s (.s .z)))) rfl) ?_))))
 refine FJ.e (goes_list rfl) rfl (by decide) rfl (e_alloc rfl z_43 rfl rfl) ?_
 rintro _ _ ⟨g45, rfl, rfl⟩
 refine FJ.es (goes_list rfl) rfl (es_store (off := 0) (cs := [.slice Ao15 kn3.disk.blocks.length co15, .slice Ao16 kn3.disk.cache.length co16, .slice Ao17 kn3.exts.length co17]) rfl sz_43 (.t .z) (.t (.s4 .z)) rfl (ones rfl) .z (Nat.le_of_ble_eq_true rfl) (.c .z (.c (.s .z) (.c (.s (.s .z)) .n)))) ?_
 refine FJ.ql rfl (q_assign rfl (.t (.s (.s (.s .z))))) (FJ.ql rfl (q_assign rfl (.t (.s (.s (.s .z))))) (FJ.ql rfl (q_assign rfl (.t (.s (.s (.s .z))))) (FJ.nil (FJ.then_ ?_))))
 refine FJ.seq (FJ.region ?_)
 refine FJ.ql rfl (q_loadA (cs := [.slice Ao15 kn3.disk.blocks.length co15, .slice Ao16 kn3.disk.cache.length co16, .slice Ao17 kn3.exts.length co17]) rfl ag_43 sz_43 (.t (.s (.s (.s .z)))) (WS.rows0 .z (fun i u h => by exact h))) ?_
 refine FJ.ql rfl (q_move rfl (.t (.s (.s .z)))) ?_
 refine FJ.call (goes_list rfl) rfl (by decide) rfl (c_call rfl Try.func54 rfl rfl (args2 (.t (.s .z)) (.t .z))) .n (fun w1 S1 hs tr => c_54 (kT_43_mk kn3 (tr.ctx hrz19) (tr.ctx hrz24) (tr.ctx hrz30)) _) ?_
 rintro _ _ ⟨rfl, rfl⟩
 refine FJ.cat .n ?_
 refine FJ.e (goes_list rfl) rfl (by decide) rfl (e_alloc rfl z_76 rfl rfl) ?_
 rintro _ _ ⟨g46, rfl, rfl⟩
 refine FJ.es (goes_list rfl) rfl (es_store (off := 0) (cs := [.int .i64 ((ownerOf kn3 m11).code), .int .i64 ((ownerOf kn3 m11).val)]) rfl sz_76 (.t .z) (.t (.s .z)) rfl (ones rfl) .z (Nat.le_of_ble_eq_true rfl) (.c .z (.c (.s .z) .n))) ?_
 refine FJ.nil (FJ.then_ (FJ.seq (FJ.region ?_)))
 refine FJ.ql rfl (q_loadA (cs := [.slice Ao15 kn3.disk.blocks.length co15, .slice Ao16 kn3.disk.cache.length co16, .slice Ao17 kn3.exts.length co17]) rfl ag_43 sz_43 (.t (.s4 (.s (.s (.s .z))))) (WS.rows0 (.s .z) (fun i u h => by exact h))) ?_
 refine FJ.ql rfl (q_move rfl (.t (.s4 (.s (.s (.s .z)))))) (FJ.ql rfl (q_move rfl (.t (.s4 (.s (.s (.s .z)))))) (FJ.ql rfl (q_move rfl (.t (.s4 (.s (.s (.s .z)))))) ?_))
 refine FJ.call (goes_list rfl) rfl (by decide) rfl (c_call rfl Try.func69 rfl rfl (args4 (.t (.s (.s (.s .z)))) (.t (.s (.s .z))) (.t (.s .z)) (.t .z))) .n (fun w1 S1 hs tr => c_69 (kT_43_mk kn3 (tr.ctx hrz19) (tr.ctx hrz24) (tr.ctx hrz30)) _ _ (tr.ctx hrz37)) ?_
 rintro _ _ ⟨v47, v49, v51, v53, rfl, rfl⟩
 refine FJ.cat (.c (.c (.c (.c .n)))) ?_
 refine FJ.know (WS.oform .z) ?_
 rintro ⟨Ao55, co55, rfl, hlo55, hmo55, hbo55⟩
 refine FJ.know (WS.oform (.s .z)) ?_
 rintro ⟨Ao56, co56, rfl, hlo56, hmo56, hbo56⟩
 refine FJ.know (WS.oform (.s (.s .z))) ?_
 rintro ⟨Ao57, co57, rfl, hlo57, hmo57, hbo57⟩
 refine FJ.know (WS.oform (.s (.s (.s .z)))) ?_
 rintro ⟨Ao58, co58, rfl, hlo58, hmo58, hbo58⟩
 refine FJ.freeze .z ?_
 intro w0 S0 trz59 hrz59 hupz59
 replace hrz37 := trz59 hrz37
 replace hrz19 := trz59 hrz19
 replace hrz24 := trz59 hrz24
 replace hrz30 := trz59 hrz30
 replace h0 := trz59 h0
 refine FJ.freeze .z ?_
 intro w0 S0 trz87 hrz87 hupz87
 replace hrz59 := trz87 hrz59
 replace hrz37 := trz87 hrz37
 replace hrz19 := trz87 hrz19
 replace hrz24 := trz87 hrz24
 replace hrz30 := trz87 hrz30
 replace h0 := trz87 h0
 refine FJ.freeze .z ?_
 intro w0 S0 trz116 hrz116 hupz116
 replace hrz59 := trz116 hrz59
 replace hrz87 := trz116 hrz87
 replace hrz37 := trz116 hrz37
 replace hrz19 := trz116 hrz19
 replace hrz24 := trz116 hrz24
 replace hrz30 := trz116 hrz30
 replace h0 := trz116 h0
 refine FJ.freeze .z ?_
 intro w0 S0 trz146 hrz146 hupz146
 replace hrz59 := trz146 hrz59
 replace hrz87 := trz146 hrz87
 replace hrz116 := trz146 hrz116
 replace hrz37 := trz146 hrz37
 replace hrz19 := trz146 hrz19
 replace hrz24 := trz146 hrz24
 replace hrz30 := trz146 hrz30
 replace h0 := trz146 h0
 refine FJ.e (goes_list rfl) rfl (by decide) rfl (e_alloc rfl z_45 rfl rfl) ?_
 rintro _ _ ⟨g177, rfl, rfl⟩
 refine FJ.es (goes_list rfl) rfl (es_store (off := 0) (cs := [.int .i64 ((writeKern kn3 m10 m11 ws14).code), .slice Ao55 ((writeKern kn3 m10 m11 ws14).words).length co55, .slice Ao56 ((writeKern kn3 m10 m11 ws14).kern.disk.blocks).length co56, .slice Ao57 ((writeKern kn3 m10 m11 ws14).kern.disk.cache).length co57, .slice Ao58 ((writeKern kn3 m10 m11 ws14).kern.exts).length co58]) rfl sz_45 (.t .z) (.t (.s .z)) rfl (ones rfl) .z (Nat.le_of_ble_eq_true rfl) (.c .z (.c (.s .z) (.c (.s (.s .z)) (.c (.s (.s (.s .z))) (.c (.s (.s (.s (.s .z)))) .n)))))) ?_
 refine FJ.nil (FJ.then_ (FJ.seq (FJ.region ?_)))
 refine FJ.ql rfl (q_loadA (cs := [.slice Ao15 kn3.disk.blocks.length co15, .slice Ao16 kn3.disk.cache.length co16, .slice Ao17 kn3.exts.length co17]) rfl ag_43 sz_43 (.t (.s4 (.s4 (.s4 (.s .z))))) (WS.rows0 (.s (.s .z)) (fun i u h => by exact h))) ?_
 refine FJ.ql rfl (q_move rfl (.t (.s4 (.s4 (.s4 (.s .z)))))) (FJ.ql rfl (q_move rfl (.t (.s4 (.s4 (.s4 (.s .z)))))) ?_)
 refine FJ.call (goes_list rfl) rfl (by decide) rfl (c_call rfl Try.func70 rfl rfl (args3 (.t (.s (.s .z))) (.t (.s .z)) (.t .z))) .n (fun w1 S1 hs tr => c_70 (kT_43_mk kn3 (tr.ctx hrz19) (tr.ctx hrz24) (tr.ctx hrz30)) _ _) ?_
 rintro _ _ ⟨v178, v180, v182, v184, rfl, rfl⟩
 refine FJ.cat (.c (.c (.c (.c .n)))) ?_
 refine FJ.know (WS.oform .z) ?_
 rintro ⟨Ao186, co186, rfl, hlo186, hmo186, hbo186⟩
 refine FJ.know (WS.oform (.s .z)) ?_
 rintro ⟨Ao187, co187, rfl, hlo187, hmo187, hbo187⟩
 refine FJ.know (WS.oform (.s (.s .z))) ?_
 rintro ⟨Ao188, co188, rfl, hlo188, hmo188, hbo188⟩
 refine FJ.know (WS.oform (.s (.s (.s .z)))) ?_
 rintro ⟨Ao189, co189, rfl, hlo189, hmo189, hbo189⟩
 refine FJ.freeze .z ?_
 intro w0 S0 trz190 hrz190 hupz190
 replace hrz19 := trz190 hrz19
 replace hrz24 := trz190 hrz24
 replace hrz30 := trz190 hrz30
 replace hrz59 := trz190 hrz59
 replace hrz87 := trz190 hrz87
 replace hrz116 := trz190 hrz116
 replace hrz146 := trz190 hrz146
 replace hrz37 := trz190 hrz37
 replace h0 := trz190 h0
 refine FJ.freeze .z ?_
 intro w0 S0 trz229 hrz229 hupz229
 replace hrz190 := trz229 hrz190
 replace hrz19 := trz229 hrz19
 replace hrz24 := trz229 hrz24
 replace hrz30 := trz229 hrz30
 replace hrz59 := trz229 hrz59
 replace hrz87 := trz229 hrz87
 replace hrz116 := trz229 hrz116
 replace hrz146 := trz229 hrz146
 replace hrz37 := trz229 hrz37
 replace h0 := trz229 h0
 refine FJ.freeze .z ?_
 intro w0 S0 trz269 hrz269 hupz269
 replace hrz190 := trz269 hrz190
 replace hrz229 := trz269 hrz229
 replace hrz19 := trz269 hrz19
 replace hrz24 := trz269 hrz24
 replace hrz30 := trz269 hrz30
 replace hrz59 := trz269 hrz59
 replace hrz87 := trz269 hrz87
 replace hrz116 := trz269 hrz116
 replace hrz146 := trz269 hrz146
 replace hrz37 := trz269 hrz37
 replace h0 := trz269 h0
 refine FJ.freeze .z ?_
 intro w0 S0 trz310 hrz310 hupz310
 replace hrz190 := trz310 hrz190
 replace hrz229 := trz310 hrz229
 replace hrz269 := trz310 hrz269
 replace hrz19 := trz310 hrz19
 replace hrz24 := trz310 hrz24
 replace hrz30 := trz310 hrz30
 replace hrz59 := trz310 hrz59
 replace hrz87 := trz310 hrz87
 replace hrz116 := trz310 hrz116
 replace hrz146 := trz310 hrz146
 replace hrz37 := trz310 hrz37
 replace h0 := trz310 h0
 refine FJ.e (goes_list rfl) rfl (by decide) rfl (e_alloc rfl z_45 rfl rfl) ?_
 rintro _ _ ⟨g352, rfl, rfl⟩
 refine FJ.es (goes_list rfl) rfl (es_store (off := 0) (cs := [.int .i64 ((readKern kn3 m10 m11).code), .slice Ao186 ((readKern kn3 m10 m11).words).length co186, .slice Ao187 ((readKern kn3 m10 m11).kern.disk.blocks).length co187, .slice Ao188 ((readKern kn3 m10 m11).kern.disk.cache).length co188, .slice Ao189 ((readKern kn3 m10 m11).kern.exts).length co189]) rfl sz_45 (.t .z) (.t (.s .z)) rfl (ones rfl) .z (Nat.le_of_ble_eq_true rfl) (.c .z (.c (.s .z) (.c (.s (.s .z)) (.c (.s (.s (.s .z))) (.c (.s (.s (.s (.s .z)))) .n)))))) ?_
 refine FJ.nil (FJ.then_ (FJ.seq (FJ.seq (FJ.region ?_))))
 refine FJ.ql rfl (q_fieldAddr rfl (.t (.s4 (.s4 (.s (.s (.s .z)))))) (fun _ => fa_76_0 _ _)) (FJ.ql rfl (q_load rfl ag_2 (.t .z) (WS.row (.s (.s .z)) rfl)) (FJ.ql rfl (q_neq rfl (.t .z) .c) (FJ.nil (FJ.then_ ?_))))
 refine FJ.condN (.t .z) (fun b353 => ?_) (fun b353 => ?_)
 refine FJ.seq ?_
 refine FJ.draw [rowA g352 45 5 1 [.int .i64 ((readKern kn3 m10 m11).code), .slice Ao186 ((readKern kn3 m10 m11).words).length co186, .slice Ao187 ((readKern kn3 m10 m11).kern.disk.blocks).length co187, .slice Ao188 ((readKern kn3 m10 m11).kern.disk.cache).length co188, .slice Ao189 ((readKern kn3 m10 m11).kern.exts).length co189], rowA g177 45 5 1 [.int .i64 ((writeKern kn3 m10 m11 ws14).code), .slice Ao55 ((writeKern kn3 m10 m11 ws14).words).length co55, .slice Ao56 ((writeKern kn3 m10 m11 ws14).kern.disk.blocks).length co56, .slice Ao57 ((writeKern kn3 m10 m11 ws14).kern.disk.cache).length co57, .slice Ao58 ((writeKern kn3 m10 m11 ws14).kern.exts).length co58], rowA g46 76 2 1 [.int .i64 ((ownerOf kn3 m11).code), .int .i64 ((ownerOf kn3 m11).val)], rowA g45 43 3 1 [.slice Ao15 kn3.disk.blocks.length co15, .slice Ao16 kn3.disk.cache.length co16, .slice Ao17 kn3.exts.length co17]] 21 (by kernel_rfl) ?_
 refine FJ.sch [(0, true), (1, true), (4, true), (5, true), (2, false), (3, true), (6, true), (7, true)] 14 #[true, true, true, true, true, true, true, true, false, false, false, false, false, false, false, false, false, false, false, false, false, false] (by rfl) (by kernel_rfl) ?_
 refine FJ.dq rfl rfl rfl (by decide) rfl .z (q_loadA (cs := [.slice Ao15 kn3.disk.blocks.length co15, .slice Ao16 kn3.disk.cache.length co16, .slice Ao17 kn3.exts.length co17]) rfl ag_43 sz_43 (.t (.s16 (.s4 (.s .z)))) (WS.rows0 (.s (.s (.s .z))) (fun i u h => by exact h))) ?_
 refine FJ.dq rfl rfl rfl (by decide) rfl .z (q_move rfl (.t (.s16 (.s4 .z)))) (FJ.dq rfl rfl rfl (by decide) rfl .z (q_fieldAddr rfl (.t (.s16 .z)) (fun _ => fa_76_0 _ _)) (FJ.dq rfl rfl rfl (by decide) rfl .z (q_load rfl ag_2 (.t .z) (WS.row (.s (.s .z)) rfl)) ?_))
 refine FJ.call (goes_sch rfl rfl) rfl (by decide) rfl (c_call rfl Try.func53 rfl rfl (args2 (.t (.s (.s (.s .z)))) (.t (.s (.s .z))))) .n (fun w1 S1 hs tr => c_53 (kT_43_mk kn3 (tr.ctx hrz19) (tr.ctx hrz24) (tr.ctx hrz30)) _) ?_
 rintro _ _ ⟨rfl, rfl⟩
 refine FJ.cat .n ?_
 refine FJ.sk .z ?_
 refine FJ.dq rfl rfl rfl (by decide) rfl .z (q_field rfl (.t .z) (fun w => fv_76_0 w (.int .i64 ((ownerOf kn3 m11).code)) (.int .i64 ((ownerOf kn3 m11).val)))) (FJ.dq rfl rfl rfl (by decide) rfl .z (q_eql rfl (.t .z) (.t (.s (.s .z)))) (FJ.dq rfl rfl rfl (by decide) rfl .z (q_move rfl (.t .z)) (FJ.schN ?_)))
 refine FJ.caseP .z (fun g354 => ?_) (fun g354 => ?_)
 refine FJ.sch [(8, true), (9, true), (10, true), (11, true), (12, true), (13, true), (14, true)] 7 #[true, true, true, true, true, true, true, true, true, true, true, true, true, true, true, false, false, false, false, false, false, false] (by rfl) (by kernel_rfl) ?_
 refine FJ.dqg rfl rfl rfl .z rfl (by decide) rfl .z (q_fieldAddr rfl (.t (.s16 .z)) (fun _ => fa_45_0 _ _)) ?_
 refine FJ.dqg rfl rfl rfl (.s .z) rfl (by decide) rfl .z (q_load rfl ag_2 (.t .z) (WS.row (.s .z) rfl)) ?_
 refine FJ.dqg rfl rfl rfl (.s (.s .z)) rfl (by decide) rfl .z (q_fieldAddr rfl (.t (.s16 (.s4 (.s4 .z)))) (fun _ => fa_76_0 _ _)) ?_
 refine FJ.dqg rfl rfl rfl (.s (.s (.s .z))) rfl (by decide) rfl .z (q_load rfl ag_2 (.t .z) (WS.row (.s (.s .z)) rfl)) ?_
 refine FJ.dqg rfl rfl rfl (.s4 .z) rfl (by decide) rfl .z (q_eql rfl (.t (.s (.s .z))) (.t .z)) ?_
 refine FJ.dq rfl rfl rfl (by decide) rfl .z (q_pickT rfl (.t (.s4 (.s .z))) (.t .z)) (FJ.dq rfl rfl rfl (by decide) rfl .z (q_move rfl (.t .z)) (FJ.schN ?_))
 refine FJ.caseP .z (fun g355 => ?_) (fun g355 => ?_)
 refine FJ.sch [(15, true), (16, true), (17, true), (18, true), (19, true), (20, true), (21, false)] 0 #[true, true, true, true, true, true, true, true, true, true, true, true, true, true, true, true, true, true, true, true, true, true] (by rfl) (by kernel_rfl) ?_
 refine FJ.dqg rfl rfl rfl .z rfl (by decide) rfl .z (q_fieldAddr rfl (.t (.s16 (.s (.s .z)))) (fun _ => fa_45_0 _ _)) ?_
 refine FJ.dqg rfl rfl rfl (.s .z) rfl (by decide) rfl .z (q_load rfl ag_2 (.t .z) (WS.row .z rfl)) ?_
 refine FJ.dqg rfl rfl rfl (.s (.s .z)) rfl (by decide) rfl .z (q_fieldAddr rfl (.t (.s16 (.s4 (.s4 (.s4 (.s (.s (.s .z)))))))) (fun _ => fa_76_0 _ _)) ?_
 refine FJ.dqg rfl rfl rfl (.s (.s (.s .z))) rfl (by decide) rfl .z (q_load rfl ag_2 (.t .z) (WS.row (.s (.s .z)) rfl)) ?_
 refine FJ.dqg rfl rfl rfl (.s4 .z) rfl (by decide) rfl .z (q_eql rfl (.t (.s (.s .z))) (.t .z)) ?_
 refine FJ.dq rfl rfl rfl (by decide) rfl .z (q_pickT rfl (.t (.s4 (.s .z))) (.t .z)) (FJ.er (.s16 (.s16 (.s16 (.s4 .z)))) ?_)
 refine FJ.q (goes_sch rfl rfl) rfl (by decide) rfl (q_assign rfl (.t .z)) ?_
 refine FJ.sl rfl ?_
 refine FJ.schN ?_
 refine FJ.drawN (by kernel_rfl) ?_
 refine FJ.then_ (FJ.ret (FJ.thenR ?_))
 refine FJ.upR (fun l w h => hupz19 _ _ (hupz24 _ _ (hupz30 _ _ (hupz37 _ _ (hupz59 _ _ (hupz87 _ _ (hupz116 _ _ (hupz146 _ _ (hupz190 _ _ (hupz229 _ _ (hupz269 _ _ (hupz310 _ _ (h))))))))))))) ?_
 refine FJ.doneS (res1 rfl .z) .n ?_
 first | exact ⟨rfl, rfl⟩ | (focus (exfalso; omega)) | (focus (exfalso; simp_all; done)) | (focus (refine ⟨congrArg Value.bool ?_, rfl⟩; simp_all; done)) | (focus (refine ⟨congrArg Value.bool ?_, rfl⟩; simp_all; omega)) -- 1
 refine FJ.sch [(15, true), (16, true), (17, true), (18, true), (19, true), (20, true), (21, false)] 0 #[true, true, true, true, true, true, true, true, true, true, true, true, true, true, true, true, true, true, true, true, true, true] (by rfl) (by kernel_rfl) ?_
 refine FJ.dskip rfl rfl rfl .z rfl rfl (by decide) rfl .z ?_
 refine FJ.dskip rfl rfl rfl (.s .z) rfl rfl (by decide) rfl .z ?_
 refine FJ.dskip rfl rfl rfl (.s (.s .z)) rfl rfl (by decide) rfl .z ?_
 refine FJ.dskip rfl rfl rfl (.s (.s (.s .z))) rfl rfl (by decide) rfl .z ?_
 refine FJ.dskip rfl rfl rfl (.s4 .z) rfl rfl (by decide) rfl .z ?_
 refine FJ.dq rfl rfl rfl (by decide) rfl .z (q_pickF rfl (.t (.s4 (.s .z))) .c) (FJ.er (.s16 (.s16 (.s16 (.s4 .z)))) ?_)
 refine FJ.q (goes_sch rfl rfl) rfl (by decide) rfl (q_assign rfl (.t .z)) ?_
 refine FJ.sl rfl ?_
 refine FJ.schN ?_
 refine FJ.drawN (by kernel_rfl) ?_
 refine FJ.then_ (FJ.ret (FJ.thenR ?_))
 refine FJ.upR (fun l w h => hupz19 _ _ (hupz24 _ _ (hupz30 _ _ (hupz37 _ _ (hupz59 _ _ (hupz87 _ _ (hupz116 _ _ (hupz146 _ _ (hupz190 _ _ (hupz229 _ _ (hupz269 _ _ (hupz310 _ _ (h))))))))))))) ?_
 refine FJ.doneS (res1 rfl .z) .n ?_
 first | exact ⟨rfl, rfl⟩ | (focus (exfalso; omega)) | (focus (exfalso; simp_all; done)) | (focus (refine ⟨congrArg Value.bool ?_, rfl⟩; simp_all; done)) | (focus (refine ⟨congrArg Value.bool ?_, rfl⟩; simp_all; omega)) -- 1
 refine FJ.sch [(8, true), (9, true), (10, true), (11, true), (12, true), (13, true), (14, true), (15, true), (16, true), (17, true), (18, true), (19, true), (20, true), (21, false)] 0 #[true, true, true, true, true, true, true, true, true, true, true, true, true, true, true, true, true, true, true, true, true, true] (by rfl) (by kernel_rfl) ?_
 refine FJ.dskip rfl rfl rfl .z rfl rfl (by decide) rfl .z ?_
 refine FJ.dskip rfl rfl rfl (.s .z) rfl rfl (by decide) rfl .z ?_
 refine FJ.dskip rfl rfl rfl (.s (.s .z)) rfl rfl (by decide) rfl .z ?_
 refine FJ.dskip rfl rfl rfl (.s (.s (.s .z))) rfl rfl (by decide) rfl .z ?_
 refine FJ.dskip rfl rfl rfl (.s4 .z) rfl rfl (by decide) rfl .z ?_
 refine FJ.dq rfl rfl rfl (by decide) rfl .z (q_pickF rfl (.t (.s4 (.s .z))) .c) (FJ.dq rfl rfl rfl (by decide) rfl .z (q_move rfl (.t .z)) ?_)
 refine FJ.dskip rfl rfl rfl .z rfl rfl (by decide) rfl .z ?_
 refine FJ.dskip rfl rfl rfl (.s .z) rfl rfl (by decide) rfl .z ?_
 refine FJ.dskip rfl rfl rfl (.s (.s .z)) rfl rfl (by decide) rfl .z ?_
 refine FJ.dskip rfl rfl rfl (.s (.s (.s .z))) rfl rfl (by decide) rfl .z ?_
 refine FJ.dskip rfl rfl rfl (.s4 .z) rfl rfl (by decide) rfl .z ?_
 refine FJ.dq rfl rfl rfl (by decide) rfl .z (q_pickF rfl (.t (.s4 (.s .z))) .c) (FJ.er (.s16 (.s16 (.s16 (.s4 .z)))) ?_)
 refine FJ.q (goes_sch rfl rfl) rfl (by decide) rfl (q_assign rfl (.t .z)) ?_
 refine FJ.sl rfl ?_
 refine FJ.schN ?_
 refine FJ.drawN (by kernel_rfl) ?_
 refine FJ.then_ (FJ.ret (FJ.thenR ?_))
 refine FJ.upR (fun l w h => hupz19 _ _ (hupz24 _ _ (hupz30 _ _ (hupz37 _ _ (hupz59 _ _ (hupz87 _ _ (hupz116 _ _ (hupz146 _ _ (hupz190 _ _ (hupz229 _ _ (hupz269 _ _ (hupz310 _ _ (h))))))))))))) ?_
 refine FJ.doneS (res1 rfl .z) .n ?_
 first | exact ⟨rfl, rfl⟩ | (focus (exfalso; omega)) | (focus (exfalso; simp_all; done)) | (focus (refine ⟨congrArg Value.bool ?_, rfl⟩; simp_all; done)) | (focus (refine ⟨congrArg Value.bool ?_, rfl⟩; simp_all; omega)) -- 1
 refine FJ.skip (FJ.then_ (FJ.seq (FJ.seq (FJ.region ?_))))
 refine FJ.ql rfl (q_fieldAddr rfl (.t (.s4 (.s4 (.s4 (.s (.s .z)))))) (fun _ => fa_76_1 _ _)) (FJ.ql rfl (q_load rfl ag_2 (.t .z) (WS.row (.s (.s .z)) rfl)) (FJ.ql rfl (q_move rfl (.t (.s16 (.s4 (.s (.s .z)))))) (FJ.ql rfl (q_neq rfl (.t (.s .z)) (.t .z)) (FJ.nil ?_))))
 refine FJ.then_ ?_
 refine FJ.condN (.t .z) (fun b356 => ?_) (fun b356 => ?_)
 refine FJ.seq ?_
 refine FJ.draw [rowA g352 45 5 1 [.int .i64 ((readKern kn3 m10 m11).code), .slice Ao186 ((readKern kn3 m10 m11).words).length co186, .slice Ao187 ((readKern kn3 m10 m11).kern.disk.blocks).length co187, .slice Ao188 ((readKern kn3 m10 m11).kern.disk.cache).length co188, .slice Ao189 ((readKern kn3 m10 m11).kern.exts).length co189], rowA g177 45 5 1 [.int .i64 ((writeKern kn3 m10 m11 ws14).code), .slice Ao55 ((writeKern kn3 m10 m11 ws14).words).length co55, .slice Ao56 ((writeKern kn3 m10 m11 ws14).kern.disk.blocks).length co56, .slice Ao57 ((writeKern kn3 m10 m11 ws14).kern.disk.cache).length co57, .slice Ao58 ((writeKern kn3 m10 m11 ws14).kern.exts).length co58], rowA g46 76 2 1 [.int .i64 ((ownerOf kn3 m11).code), .int .i64 ((ownerOf kn3 m11).val)], rowA g45 43 3 1 [.slice Ao15 kn3.disk.blocks.length co15, .slice Ao16 kn3.disk.cache.length co16, .slice Ao17 kn3.exts.length co17]] 17 (by kernel_rfl) ?_
 refine FJ.sch [(0, true), (1, true), (2, true), (3, true)] 14 #[true, true, true, true, false, false, false, false, false, false, false, false, false, false, false, false, false, false] (by rfl) (by kernel_rfl) ?_
 refine FJ.dq rfl rfl rfl (by decide) rfl .z (q_fieldAddr rfl (.t (.s4 (.s4 (.s4 .z)))) (fun _ => fa_45_0 _ _)) (FJ.dq rfl rfl rfl (by decide) rfl .z (q_load rfl ag_2 (.t .z) (WS.row (.s .z) rfl)) (FJ.dq rfl rfl rfl (by decide) rfl .z (q_eql rfl (.t .z) .c) (FJ.dq rfl rfl rfl (by decide) rfl .z (q_move rfl (.t .z)) (FJ.schN ?_))))
 refine FJ.caseP .z (fun g357 => ?_) (fun g357 => ?_)
 refine FJ.sch [(4, true), (5, true), (6, true), (7, true), (8, true)] 9 #[true, true, true, true, true, true, true, true, true, false, false, false, false, false, false, false, false, false] (by rfl) (by kernel_rfl) ?_
 refine FJ.dqg rfl rfl rfl .z rfl (by decide) rfl .z (q_fieldAddr rfl (.t (.s4 (.s4 (.s (.s (.s .z)))))) (fun _ => fa_45_0 _ _)) ?_
 refine FJ.dqg rfl rfl rfl (.s .z) rfl (by decide) rfl .z (q_load rfl ag_2 (.t .z) (WS.row .z rfl)) ?_
 refine FJ.dqg rfl rfl rfl (.s (.s .z)) rfl (by decide) rfl .z (q_eql rfl (.t .z) .c) ?_
 refine FJ.dq rfl rfl rfl (by decide) rfl .z (q_pickT rfl (.t (.s (.s (.s .z)))) (.t .z)) (FJ.dq rfl rfl rfl (by decide) rfl .z (q_move rfl (.t .z)) (FJ.schN ?_))
 refine FJ.caseP .z (fun g358 => ?_) (fun g358 => ?_)
 refine FJ.sch [(9, true), (10, true), (13, true), (14, true), (11, false), (12, true), (15, true), (16, true), (17, false)] 0 #[true, true, true, true, true, true, true, true, true, true, true, true, true, true, true, true, true, true] (by rfl) (by kernel_rfl) ?_
 refine FJ.dqg rfl rfl rfl .z rfl (by decide) rfl .z (q_loadA (cs := [.slice Ao15 kn3.disk.blocks.length co15, .slice Ao16 kn3.disk.cache.length co16, .slice Ao17 kn3.exts.length co17]) rfl ag_43 sz_43 (.t (.s16 (.s16 (.s (.s .z))))) (WS.rows0 (.s (.s (.s .z))) (fun i u h => by exact h))) ?_
 refine FJ.dqg rfl rfl rfl (.s .z) rfl (by decide) rfl .z (q_move rfl (.t (.s16 (.s16 (.s .z))))) ?_
 refine FJ.dqg rfl rfl rfl (.s (.s .z)) rfl (by decide) rfl .z (q_fieldAddr rfl (.t (.s16 (.s4 (.s4 (.s4 (.s .z)))))) (fun _ => fa_76_1 _ _)) ?_
 refine FJ.dqg rfl rfl rfl (.s (.s (.s .z))) rfl (by decide) rfl .z (q_load rfl ag_2 (.t .z) (WS.row (.s (.s .z)) rfl)) ?_
 refine FJ.call (goes_schg rfl rfl rfl (.s4 .z)) rfl (by decide) rfl (c_call rfl Try.func53 rfl rfl (args2 (.t (.s (.s (.s .z)))) (.t (.s (.s .z))))) .n (fun w1 S1 hs tr => c_53 (kT_43_mk kn3 (tr.ctx hrz19) (tr.ctx hrz24) (tr.ctx hrz30)) _) ?_
 rintro _ _ ⟨rfl, rfl⟩
 refine FJ.cat .n ?_
 refine FJ.sk .z ?_
 refine FJ.dqg rfl rfl rfl (.s4 (.s .z)) rfl (by decide) rfl .z (q_field rfl (.t .z) (fun w => fv_76_1 w (.int .i64 ((ownerOf kn3 m11).code)) (.int .i64 ((ownerOf kn3 m11).val)))) ?_
 refine FJ.dqg rfl rfl rfl (.s4 (.s (.s .z))) rfl (by decide) rfl .z (q_eql rfl (.t .z) (.t (.s (.s .z)))) ?_
 refine FJ.dq rfl rfl rfl (by decide) rfl .z (q_pickT rfl (.t (.s4 (.s (.s (.s .z))))) (.t .z)) (FJ.er (.s16 (.s16 (.s16 (.s4 .z)))) ?_)
 refine FJ.q (goes_sch rfl rfl) rfl (by decide) rfl (q_assign rfl (.t .z)) ?_
 refine FJ.sl rfl ?_
 refine FJ.schN ?_
 refine FJ.drawN (by kernel_rfl) ?_
 refine FJ.then_ (FJ.ret (FJ.thenR ?_))
 refine FJ.upR (fun l w h => hupz19 _ _ (hupz24 _ _ (hupz30 _ _ (hupz37 _ _ (hupz59 _ _ (hupz87 _ _ (hupz116 _ _ (hupz146 _ _ (hupz190 _ _ (hupz229 _ _ (hupz269 _ _ (hupz310 _ _ (h))))))))))))) ?_
 refine FJ.doneS (res1 rfl .z) .n ?_
 first | exact ⟨rfl, rfl⟩ | (focus (exfalso; omega)) | (focus (exfalso; simp_all; done)) | (focus (refine ⟨congrArg Value.bool ?_, rfl⟩; simp_all; done)) | (focus (refine ⟨congrArg Value.bool ?_, rfl⟩; simp_all; omega)) -- 2
 refine FJ.sch [(9, true), (10, true), (11, true), (12, true), (13, true), (14, true), (15, true), (16, true), (17, false)] 0 #[true, true, true, true, true, true, true, true, true, true, true, true, true, true, true, true, true, true] (by rfl) (by kernel_rfl) ?_
 refine FJ.dskip rfl rfl rfl .z rfl rfl (by decide) rfl .z ?_
 refine FJ.dskip rfl rfl rfl (.s .z) rfl rfl (by decide) rfl .z ?_
 refine FJ.dskip rfl rfl rfl (.s (.s .z)) rfl rfl (by decide) rfl .z ?_
 refine FJ.dskip rfl rfl rfl (.s (.s (.s .z))) rfl rfl (by decide) rfl .z ?_
 refine FJ.dskip rfl rfl rfl (.s4 .z) rfl rfl (by decide) rfl .z ?_
 refine FJ.dskip rfl rfl rfl (.s4 (.s .z)) rfl rfl (by decide) rfl .z ?_
 refine FJ.dskip rfl rfl rfl (.s4 (.s (.s .z))) rfl rfl (by decide) rfl .z ?_
 refine FJ.dq rfl rfl rfl (by decide) rfl .z (q_pickF rfl (.t (.s4 (.s (.s (.s .z))))) .c) (FJ.er (.s16 (.s16 (.s16 (.s4 .z)))) ?_)
 refine FJ.q (goes_sch rfl rfl) rfl (by decide) rfl (q_assign rfl (.t .z)) ?_
 refine FJ.sl rfl ?_
 refine FJ.schN ?_
 refine FJ.drawN (by kernel_rfl) ?_
 refine FJ.then_ (FJ.ret (FJ.thenR ?_))
 refine FJ.upR (fun l w h => hupz19 _ _ (hupz24 _ _ (hupz30 _ _ (hupz37 _ _ (hupz59 _ _ (hupz87 _ _ (hupz116 _ _ (hupz146 _ _ (hupz190 _ _ (hupz229 _ _ (hupz269 _ _ (hupz310 _ _ (h))))))))))))) ?_
 refine FJ.doneS (res1 rfl .z) .n ?_
 first | exact ⟨rfl, rfl⟩ | (focus (exfalso; omega)) | (focus (exfalso; simp_all; done)) | (focus (refine ⟨congrArg Value.bool ?_, rfl⟩; simp_all; done)) | (focus (refine ⟨congrArg Value.bool ?_, rfl⟩; simp_all; omega)) -- 2
 refine FJ.sch [(4, true), (5, true), (6, true), (7, true), (8, true), (9, true), (10, true), (11, true), (12, true), (13, true), (14, true), (15, true), (16, true), (17, false)] 0 #[true, true, true, true, true, true, true, true, true, true, true, true, true, true, true, true, true, true] (by rfl) (by kernel_rfl) ?_
 refine FJ.dskip rfl rfl rfl .z rfl rfl (by decide) rfl .z ?_
 refine FJ.dskip rfl rfl rfl (.s .z) rfl rfl (by decide) rfl .z ?_
 refine FJ.dskip rfl rfl rfl (.s (.s .z)) rfl rfl (by decide) rfl .z ?_
 refine FJ.dq rfl rfl rfl (by decide) rfl .z (q_pickF rfl (.t (.s (.s (.s .z)))) .c) (FJ.dq rfl rfl rfl (by decide) rfl .z (q_move rfl (.t .z)) ?_)
 refine FJ.dskip rfl rfl rfl .z rfl rfl (by decide) rfl .z ?_
 refine FJ.dskip rfl rfl rfl (.s .z) rfl rfl (by decide) rfl .z ?_
 refine FJ.dskip rfl rfl rfl (.s (.s .z)) rfl rfl (by decide) rfl .z ?_
 refine FJ.dskip rfl rfl rfl (.s (.s (.s .z))) rfl rfl (by decide) rfl .z ?_
 refine FJ.dskip rfl rfl rfl (.s4 .z) rfl rfl (by decide) rfl .z ?_
 refine FJ.dskip rfl rfl rfl (.s4 (.s .z)) rfl rfl (by decide) rfl .z ?_
 refine FJ.dskip rfl rfl rfl (.s4 (.s (.s .z))) rfl rfl (by decide) rfl .z ?_
 refine FJ.dq rfl rfl rfl (by decide) rfl .z (q_pickF rfl (.t (.s4 (.s (.s (.s .z))))) .c) (FJ.er (.s16 (.s16 (.s16 (.s4 .z)))) ?_)
 refine FJ.q (goes_sch rfl rfl) rfl (by decide) rfl (q_assign rfl (.t .z)) ?_
 refine FJ.sl rfl ?_
 refine FJ.schN ?_
 refine FJ.drawN (by kernel_rfl) ?_
 refine FJ.then_ (FJ.ret (FJ.thenR ?_))
 refine FJ.upR (fun l w h => hupz19 _ _ (hupz24 _ _ (hupz30 _ _ (hupz37 _ _ (hupz59 _ _ (hupz87 _ _ (hupz116 _ _ (hupz146 _ _ (hupz190 _ _ (hupz229 _ _ (hupz269 _ _ (hupz310 _ _ (h))))))))))))) ?_
 refine FJ.doneS (res1 rfl .z) .n ?_
 first | exact ⟨rfl, rfl⟩ | (focus (exfalso; omega)) | (focus (exfalso; simp_all; done)) | (focus (refine ⟨congrArg Value.bool ?_, rfl⟩; simp_all; done)) | (focus (refine ⟨congrArg Value.bool ?_, rfl⟩; simp_all; omega)) -- 2
 refine FJ.skip (FJ.then_ (FJ.seq (FJ.seq ?_)))
 refine FJ.draw [rowA g352 45 5 1 [.int .i64 ((readKern kn3 m10 m11).code), .slice Ao186 ((readKern kn3 m10 m11).words).length co186, .slice Ao187 ((readKern kn3 m10 m11).kern.disk.blocks).length co187, .slice Ao188 ((readKern kn3 m10 m11).kern.disk.cache).length co188, .slice Ao189 ((readKern kn3 m10 m11).kern.exts).length co189], rowA g177 45 5 1 [.int .i64 ((writeKern kn3 m10 m11 ws14).code), .slice Ao55 ((writeKern kn3 m10 m11 ws14).words).length co55, .slice Ao56 ((writeKern kn3 m10 m11 ws14).kern.disk.blocks).length co56, .slice Ao57 ((writeKern kn3 m10 m11 ws14).kern.disk.cache).length co57, .slice Ao58 ((writeKern kn3 m10 m11 ws14).kern.exts).length co58], rowA g46 76 2 1 [.int .i64 ((ownerOf kn3 m11).code), .int .i64 ((ownerOf kn3 m11).val)], rowA g45 43 3 1 [.slice Ao15 kn3.disk.blocks.length co15, .slice Ao16 kn3.disk.cache.length co16, .slice Ao17 kn3.exts.length co17]] 14 (by kernel_rfl) ?_
 refine FJ.sch [(0, true), (1, true), (2, true), (3, true)] 10 #[true, true, true, true, false, false, false, false, false, false, false, false, false, false] (by rfl) (by kernel_rfl) ?_
 refine FJ.dq rfl rfl rfl (by decide) rfl .z (q_fieldAddr rfl (.t (.s4 (.s (.s (.s .z))))) (fun _ => fa_45_0 _ _)) (FJ.dq rfl rfl rfl (by decide) rfl .z (q_load rfl ag_2 (.t .z) (WS.row .z rfl)) (FJ.dq rfl rfl rfl (by decide) rfl .z (q_neq rfl (.t .z) .c) (FJ.dq rfl rfl rfl (by decide) rfl .z (q_move rfl (.t .z)) (FJ.schN ?_))))
 refine FJ.caseN .z (fun g359 => ?_) (fun g359 => ?_)
 refine FJ.sch [(4, true), (5, true), (6, true), (7, true), (8, true), (9, true), (10, true), (11, true), (12, true), (13, true)] 0 #[true, true, true, true, true, true, true, true, true, true, true, true, true, true] (by rfl) (by kernel_rfl) ?_
 refine FJ.dskip rfl rfl rfl .z rfl rfl (by decide) rfl .z ?_
 refine FJ.dskip rfl rfl rfl (.s .z) rfl rfl (by decide) rfl .z ?_
 refine FJ.dskip rfl rfl rfl (.s (.s .z)) rfl rfl (by decide) rfl .z ?_
 refine FJ.dskip rfl rfl rfl (.s (.s (.s .z))) rfl rfl (by decide) rfl .z ?_
 refine FJ.dskip rfl rfl rfl (.s4 .z) rfl rfl (by decide) rfl .z ?_
 refine FJ.dskip rfl rfl rfl (.s4 (.s .z)) rfl rfl (by decide) rfl .z ?_
 refine FJ.dskip rfl rfl rfl (.s4 (.s (.s .z))) rfl rfl (by decide) rfl .z ?_
 refine FJ.dskip rfl rfl rfl (.s4 (.s (.s (.s .z)))) rfl rfl (by decide) rfl .z ?_
 refine FJ.dskip rfl rfl rfl (.s4 (.s4 .z)) rfl rfl (by decide) rfl .z ?_
 refine FJ.dq rfl rfl rfl (by decide) rfl .z (q_pickT rfl (.t (.s4 (.s4 (.s .z)))) .c) (FJ.schN ?_)
 refine FJ.drawN (by kernel_rfl) ?_
 refine FJ.then_ ?_
 refine FJ.condT (.t .z) ?_
 refine FJ.seq (FJ.region (FJ.er (.s16 (.s16 (.s16 (.s .z)))) (FJ.ql rfl (q_assign rfl .c) (FJ.nil ?_))))
 refine FJ.then_ (FJ.ret (FJ.thenR ?_))
 refine FJ.upR (fun l w h => hupz19 _ _ (hupz24 _ _ (hupz30 _ _ (hupz37 _ _ (hupz59 _ _ (hupz87 _ _ (hupz116 _ _ (hupz146 _ _ (hupz190 _ _ (hupz229 _ _ (hupz269 _ _ (hupz310 _ _ (h))))))))))))) ?_
 refine FJ.doneS (res1 rfl .z) .n ?_
 first | exact ⟨rfl, rfl⟩ | (focus (exfalso; omega)) | (focus (exfalso; simp_all; done)) | (focus (refine ⟨congrArg Value.bool ?_, rfl⟩; simp_all; done)) | (focus (refine ⟨congrArg Value.bool ?_, rfl⟩; simp_all; omega)) -- 3
 refine FJ.sch [(4, true), (5, true), (6, true), (7, true), (8, true), (9, false), (10, true), (11, false), (12, true), (13, true)] 0 #[true, true, true, true, true, true, true, true, true, true, true, true, true, true] (by rfl) (by kernel_rfl) ?_
 refine FJ.dqg rfl rfl rfl .z rfl (by decide) rfl .z (q_fieldAddr rfl (.t (.s4 (.s4 (.s (.s (.s .z)))))) (fun _ => fa_45_1 _ _)) ?_
 refine FJ.dqg rfl rfl rfl (.s .z) rfl (by decide) rfl .z (q_load rfl ag_40 (.t .z) (WS.row .z rfl)) ?_
 refine FJ.dqg rfl rfl rfl (.s (.s .z)) rfl (by decide) rfl .z (q_fieldAddr rfl (.t (.s16 (.s4 (.s4 (.s4 (.s (.s (.s .z)))))))) (fun _ => fa_43_0 _ _)) ?_
 refine FJ.dqg rfl rfl rfl (.s (.s (.s .z))) rfl (by decide) rfl .z (q_loadA (cs := [.slice Ao15 kn3.disk.blocks.length co15, .slice Ao16 kn3.disk.cache.length co16]) rfl ag_25 sz_25 (.t .z) (WS.rows (.s (.s (.s .z))) (sub_at rfl))) ?_
 refine FJ.dqg rfl rfl rfl (.s4 .z) rfl (by decide) rfl .z (q_move rfl (.t (.s16 (.s4 (.s4 (.s4 (.s (.s (.s .z))))))))) ?_
 refine FJ.call (goes_schg rfl rfl rfl (.s4 (.s .z))) rfl (by decide) rfl (c_call rfl Try.func40 rfl rfl (args2 (.t (.s .z)) (.t .z))) .n (fun w1 S1 hs tr => c_40 (kT_25_mk kn3.disk (tr.ctx hrz19) (tr.ctx hrz24)) _) ?_
 rintro _ _ ⟨v360, rfl, rfl⟩
 refine FJ.cat (.c .n) ?_
 refine FJ.know (WS.oform .z) ?_
 rintro ⟨Ao362, co362, rfl, hlo362, hmo362, hbo362⟩
 refine FJ.sk (.s .z) ?_
 refine FJ.dqg rfl rfl rfl (.s4 (.s (.s .z))) rfl (by decide) rfl (.s .z) (q_field rfl (.t .z) (fun w => fv_60_1 w (.int .i64 ((blockAt kn3.disk m11).code)) (.slice Ao362 ((blockAt kn3.disk m11).list).length co362))) ?_
 refine FJ.call (goes_schg rfl rfl rfl (.s4 (.s (.s (.s .z))))) rfl (by decide) rfl (c_call rfl Try.func39 rfl rfl (args2 (.t (.s4 (.s .z))) (.t .z))) .n (fun w1 S1 hs tr => c_39 (tr.ctx hrz190) (tr.own .z)) ?_
 rintro _ _ ⟨rfl, rfl⟩
 refine FJ.cat .n ?_
 refine FJ.sk (.s .z) ?_
 refine FJ.dqg rfl rfl rfl (.s4 (.s4 .z)) rfl (by decide) rfl (.s .z) (q_not rfl (.t .z)) ?_
 refine FJ.dq rfl rfl rfl (by decide) rfl (.s .z) (q_pickF rfl (.t (.s4 (.s4 (.s .z)))) (.t .z)) (FJ.schN ?_)
 refine FJ.drawN (by kernel_rfl) ?_
 refine FJ.then_ ?_
 refine FJ.condN (.t .z) (fun b363 => ?_) (fun b363 => ?_)
 refine FJ.seq (FJ.region (FJ.er (.s16 (.s16 (.s16 (.s .z)))) (FJ.ql rfl (q_assign rfl .c) (FJ.nil ?_))))
 refine FJ.then_ (FJ.ret (FJ.thenR ?_))
 refine FJ.upR (fun l w h => hupz19 _ _ (hupz24 _ _ (hupz30 _ _ (hupz37 _ _ (hupz59 _ _ (hupz87 _ _ (hupz116 _ _ (hupz146 _ _ (hupz190 _ _ (hupz229 _ _ (hupz269 _ _ (hupz310 _ _ (h))))))))))))) ?_
 refine FJ.doneS (res1 rfl .z) .n ?_
 first | exact ⟨rfl, rfl⟩ | (focus (exfalso; omega)) | (focus (exfalso; simp_all; done)) | (focus (refine ⟨congrArg Value.bool ?_, rfl⟩; simp_all; done)) | (focus (refine ⟨congrArg Value.bool ?_, rfl⟩; simp_all; omega)) -- 3
 refine FJ.skip (FJ.then_ (FJ.seq (FJ.seq (FJ.region ?_))))
 refine FJ.ql rfl (q_fieldAddr rfl (.t (.s16 (.s4 (.s4 (.s (.s .z)))))) (fun _ => fa_45_0 _ _)) (FJ.ql rfl (q_load rfl ag_2 (.t .z) (WS.row (.s (.s .z)) rfl)) (FJ.ql rfl (q_neq rfl (.t .z) .c) (FJ.nil (FJ.then_ ?_))))
 refine FJ.condN (.t .z) (fun b364 => ?_) (fun b364 => ?_)
 refine FJ.seq ?_
 refine FJ.draw [ownA kSl_2 ((blockAt kn3.disk m11).list) [.slice Ao362 ((blockAt kn3.disk m11).list).length co362], rowA g352 45 5 1 [.int .i64 ((readKern kn3 m10 m11).code), .slice Ao186 ((readKern kn3 m10 m11).words).length co186, .slice Ao187 ((readKern kn3 m10 m11).kern.disk.blocks).length co187, .slice Ao188 ((readKern kn3 m10 m11).kern.disk.cache).length co188, .slice Ao189 ((readKern kn3 m10 m11).kern.exts).length co189], rowA g177 45 5 1 [.int .i64 ((writeKern kn3 m10 m11 ws14).code), .slice Ao55 ((writeKern kn3 m10 m11 ws14).words).length co55, .slice Ao56 ((writeKern kn3 m10 m11 ws14).kern.disk.blocks).length co56, .slice Ao57 ((writeKern kn3 m10 m11 ws14).kern.disk.cache).length co57, .slice Ao58 ((writeKern kn3 m10 m11 ws14).kern.exts).length co58], rowA g46 76 2 1 [.int .i64 ((ownerOf kn3 m11).code), .int .i64 ((ownerOf kn3 m11).val)], rowA g45 43 3 1 [.slice Ao15 kn3.disk.blocks.length co15, .slice Ao16 kn3.disk.cache.length co16, .slice Ao17 kn3.exts.length co17]] 9 (by kernel_rfl) ?_
 refine FJ.sch [(0, true), (1, true), (2, true), (3, true), (6, true), (7, true), (4, false), (5, true), (8, true), (9, false)] 0 #[true, true, true, true, true, true, true, true, true, true] (by rfl) (by kernel_rfl) ?_
 refine FJ.dq rfl rfl rfl (by decide) rfl .z (q_loadA (cs := [.slice Ao15 kn3.disk.blocks.length co15, .slice Ao16 kn3.disk.cache.length co16, .slice Ao17 kn3.exts.length co17]) rfl ag_43 sz_43 (.t (.s16 (.s16 (.s4 (.s4 (.s (.s .z))))))) (WS.rows0 (.s4 .z) (fun i u h => by exact h))) ?_
 refine FJ.dq rfl rfl rfl (by decide) rfl .z (q_move rfl (.t (.s16 (.s16 (.s4 (.s4 (.s (.s .z)))))))) (FJ.dq rfl rfl rfl (by decide) rfl .z (q_move rfl (.t (.s16 (.s16 (.s4 (.s4 (.s (.s .z)))))))) (FJ.dq rfl rfl rfl (by decide) rfl .z (q_move rfl (.t (.s16 (.s16 (.s4 (.s4 (.s (.s .z)))))))) (FJ.dq rfl rfl rfl (by decide) rfl .z (q_fieldAddr rfl (.t (.s16 (.s16 (.s .z)))) (fun _ => fa_45_0 _ _)) (FJ.dq rfl rfl rfl (by decide) rfl .z (q_load rfl ag_2 (.t .z) (WS.row (.s (.s .z)) rfl)) ?_))))
 refine FJ.call (goes_sch rfl rfl) rfl (by decide) rfl (c_call rfl Try.func71 rfl rfl (args4 (.t (.s4 (.s .z))) (.t (.s4 .z)) (.t (.s (.s (.s .z)))) (.t (.s (.s .z))))) .n (fun w1 S1 hs tr => c_71 (kT_43_mk kn3 (tr.ctx hrz19) (tr.ctx hrz24) (tr.ctx hrz30)) _ _ (tr.ctx hrz37)) ?_
 rintro _ _ ⟨v365, v367, v369, v371, rfl, rfl⟩
 refine FJ.cat (.c (.c (.c (.c .n)))) ?_
 refine FJ.know (WS.oform .z) ?_
 rintro ⟨Ao373, co373, rfl, hlo373, hmo373, hbo373⟩
 refine FJ.know (WS.oform (.s .z)) ?_
 rintro ⟨Ao374, co374, rfl, hlo374, hmo374, hbo374⟩
 refine FJ.know (WS.oform (.s (.s .z))) ?_
 rintro ⟨Ao375, co375, rfl, hlo375, hmo375, hbo375⟩
 refine FJ.know (WS.oform (.s (.s (.s .z)))) ?_
 rintro ⟨Ao376, co376, rfl, hlo376, hmo376, hbo376⟩
 refine FJ.sk (.s4 .z) ?_
 refine FJ.dq rfl rfl rfl (by decide) rfl (.s4 .z) (q_field rfl (.t .z) (fun w => fv_45_0 w (.int .i64 ((writeKern kn3 m10 m11 ws14).code)) (.slice Ao373 ((writeKern kn3 m10 m11 ws14).words).length co373) (.slice Ao374 ((writeKern kn3 m10 m11 ws14).kern.disk.blocks).length co374) (.slice Ao375 ((writeKern kn3 m10 m11 ws14).kern.disk.cache).length co375) (.slice Ao376 ((writeKern kn3 m10 m11 ws14).kern.exts).length co376))) (FJ.dq rfl rfl rfl (by decide) rfl (.s4 .z) (q_eql rfl (.t .z) (.t (.s (.s .z)))) (FJ.er (.s16 (.s16 (.s16 (.s4 (.s4 (.s4 (.s .z))))))) ?_))
 refine FJ.q (goes_sch rfl rfl) rfl (by decide) rfl (q_assign rfl (.t .z)) ?_
 refine FJ.sl rfl ?_
 refine FJ.schN ?_
 refine FJ.drawN (by kernel_rfl) ?_
 refine FJ.then_ (FJ.ret (FJ.thenR ?_))
 refine FJ.upR (fun l w h => hupz19 _ _ (hupz24 _ _ (hupz30 _ _ (hupz37 _ _ (hupz59 _ _ (hupz87 _ _ (hupz116 _ _ (hupz146 _ _ (hupz190 _ _ (hupz229 _ _ (hupz269 _ _ (hupz310 _ _ (h))))))))))))) ?_
 refine FJ.doneS (res1 rfl .z) .n ?_
 first | exact ⟨rfl, rfl⟩ | (focus (exfalso; omega)) | (focus (exfalso; simp_all; done)) | (focus (refine ⟨congrArg Value.bool ?_, rfl⟩; simp_all; done)) | (focus (refine ⟨congrArg Value.bool ?_, rfl⟩; simp_all; omega)) -- 4
 refine FJ.skip (FJ.then_ (FJ.seq (FJ.region (FJ.ql rfl (q_fieldAddr rfl (.t (.s16 (.s4 (.s4 (.s4 (.s .z)))))) (fun _ => fa_45_2 _ _)) ?_))))
 refine FJ.ql rfl (q_loadA (cs := [.slice Ao56 ((writeKern kn3 m10 m11 ws14).kern.disk.blocks).length co56, .slice Ao57 ((writeKern kn3 m10 m11 ws14).kern.disk.cache).length co57, .slice Ao58 ((writeKern kn3 m10 m11 ws14).kern.exts).length co58]) rfl ag_43 sz_43 (.t .z) (WS.rows (.s (.s .z)) (sub_at rfl))) (FJ.ql rfl (q_move rfl (.t (.s16 (.s16 (.s4 (.s4 (.s (.s (.s .z))))))))) ?_)
 refine FJ.call (goes_list rfl) rfl (by decide) rfl (c_call rfl Try.func72 rfl rfl (args2 (.t (.s .z)) (.t .z))) .n (fun w1 S1 hs tr => c_72 (kT_43_mk ((writeKern kn3 m10 m11 ws14).kern) (tr.ctx hrz87) (tr.ctx hrz116) (tr.ctx hrz146)) _) ?_
 rintro _ _ ⟨v377, v379, v381, v383, rfl, rfl⟩
 refine FJ.cat (.c (.c (.c (.c .n)))) ?_
 refine FJ.know (WS.oform .z) ?_
 rintro ⟨Ao385, co385, rfl, hlo385, hmo385, hbo385⟩
 refine FJ.know (WS.oform (.s .z)) ?_
 rintro ⟨Ao386, co386, rfl, hlo386, hmo386, hbo386⟩
 refine FJ.know (WS.oform (.s (.s .z))) ?_
 rintro ⟨Ao387, co387, rfl, hlo387, hmo387, hbo387⟩
 refine FJ.know (WS.oform (.s (.s (.s .z)))) ?_
 rintro ⟨Ao388, co388, rfl, hlo388, hmo388, hbo388⟩
 refine FJ.freeze .z ?_
 intro w0 S0 trz389 hrz389 hupz389
 replace hrz87 := trz389 hrz87
 replace hrz116 := trz389 hrz116
 replace hrz146 := trz389 hrz146
 replace hrz19 := trz389 hrz19
 replace hrz24 := trz389 hrz24
 replace hrz190 := trz389 hrz190
 replace hrz229 := trz389 hrz229
 replace hrz269 := trz389 hrz269
 replace hrz310 := trz389 hrz310
 replace hrz30 := trz389 hrz30
 replace hrz59 := trz389 hrz59
 replace hrz37 := trz389 hrz37
 replace h0 := trz389 h0
 refine FJ.freeze .z ?_
 intro w0 S0 trz442 hrz442 hupz442
 replace hrz389 := trz442 hrz389
 replace hrz87 := trz442 hrz87
 replace hrz116 := trz442 hrz116
 replace hrz146 := trz442 hrz146
 replace hrz19 := trz442 hrz19
 replace hrz24 := trz442 hrz24
 replace hrz190 := trz442 hrz190
 replace hrz229 := trz442 hrz229
 replace hrz269 := trz442 hrz269
 replace hrz310 := trz442 hrz310
 replace hrz30 := trz442 hrz30
 replace hrz59 := trz442 hrz59
 replace hrz37 := trz442 hrz37
 replace h0 := trz442 h0
 refine FJ.freeze .z ?_
 intro w0 S0 trz496 hrz496 hupz496
 replace hrz389 := trz496 hrz389
 replace hrz442 := trz496 hrz442
 replace hrz87 := trz496 hrz87
 replace hrz116 := trz496 hrz116
 replace hrz146 := trz496 hrz146
 replace hrz19 := trz496 hrz19
 replace hrz24 := trz496 hrz24
 replace hrz190 := trz496 hrz190
 replace hrz229 := trz496 hrz229
 replace hrz269 := trz496 hrz269
 replace hrz310 := trz496 hrz310
 replace hrz30 := trz496 hrz30
 replace hrz59 := trz496 hrz59
 replace hrz37 := trz496 hrz37
 replace h0 := trz496 h0
 refine FJ.freeze .z ?_
 intro w0 S0 trz551 hrz551 hupz551
 replace hrz389 := trz551 hrz389
 replace hrz442 := trz551 hrz442
 replace hrz496 := trz551 hrz496
 replace hrz87 := trz551 hrz87
 replace hrz116 := trz551 hrz116
 replace hrz146 := trz551 hrz146
 replace hrz19 := trz551 hrz19
 replace hrz24 := trz551 hrz24
 replace hrz190 := trz551 hrz190
 replace hrz229 := trz551 hrz229
 replace hrz269 := trz551 hrz269
 replace hrz310 := trz551 hrz310
 replace hrz30 := trz551 hrz30
 replace hrz59 := trz551 hrz59
 replace hrz37 := trz551 hrz37
 replace h0 := trz551 h0
 refine FJ.e (goes_list rfl) rfl (by decide) rfl (e_alloc rfl z_45 rfl rfl) ?_
 rintro _ _ ⟨g607, rfl, rfl⟩
 refine FJ.es (goes_list rfl) rfl (es_store (off := 0) (cs := [.int .i64 ((flushKern ((writeKern kn3 m10 m11 ws14).kern) m10).code), .slice Ao385 ((flushKern ((writeKern kn3 m10 m11 ws14).kern) m10).words).length co385, .slice Ao386 ((flushKern ((writeKern kn3 m10 m11 ws14).kern) m10).kern.disk.blocks).length co386, .slice Ao387 ((flushKern ((writeKern kn3 m10 m11 ws14).kern) m10).kern.disk.cache).length co387, .slice Ao388 ((flushKern ((writeKern kn3 m10 m11 ws14).kern) m10).kern.exts).length co388]) rfl sz_45 (.t .z) (.t (.s .z)) rfl (ones rfl) .z (Nat.le_of_ble_eq_true rfl) (.c .z (.c (.s .z) (.c (.s (.s .z)) (.c (.s (.s (.s .z))) (.c (.s (.s (.s (.s .z)))) .n)))))) ?_
 refine FJ.nil (FJ.then_ (FJ.seq (FJ.seq (FJ.region ?_))))
 refine FJ.ql rfl (q_assign rfl .c) (FJ.nil (FJ.then_ (FJ.block ?_)))
 refine FJ.loopi (γ := Nat) (fun i => [(11, .int .i64 (i : Int)), (10, .pointer (some ⟨g607, 0, none⟩)), (7, .pointer (some ⟨g46, 0, none⟩)), (6, .slice Ao18 ws14.length co18), (5, .int .i64 m11), (3, .pointer (some ⟨g45, 0, none⟩))]) (fun i => [rowA g607 45 5 1 [.int .i64 ((flushKern ((writeKern kn3 m10 m11 ws14).kern) m10).code), .slice Ao385 ((flushKern ((writeKern kn3 m10 m11 ws14).kern) m10).words).length co385, .slice Ao386 ((flushKern ((writeKern kn3 m10 m11 ws14).kern) m10).kern.disk.blocks).length co386, .slice Ao387 ((flushKern ((writeKern kn3 m10 m11 ws14).kern) m10).kern.disk.cache).length co387, .slice Ao388 ((flushKern ((writeKern kn3 m10 m11 ws14).kern) m10).kern.exts).length co388], ownA kSl_2 ((blockAt kn3.disk m11).list) [.slice Ao362 ((blockAt kn3.disk m11).list).length co362], rowA g352 45 5 1 [.int .i64 ((readKern kn3 m10 m11).code), .slice Ao186 ((readKern kn3 m10 m11).words).length co186, .slice Ao187 ((readKern kn3 m10 m11).kern.disk.blocks).length co187, .slice Ao188 ((readKern kn3 m10 m11).kern.disk.cache).length co188, .slice Ao189 ((readKern kn3 m10 m11).kern.exts).length co189], rowA g177 45 5 1 [.int .i64 ((writeKern kn3 m10 m11 ws14).code), .slice Ao55 ((writeKern kn3 m10 m11 ws14).words).length co55, .slice Ao56 ((writeKern kn3 m10 m11 ws14).kern.disk.blocks).length co56, .slice Ao57 ((writeKern kn3 m10 m11 ws14).kern.disk.cache).length co57, .slice Ao58 ((writeKern kn3 m10 m11 ws14).kern.exts).length co58], rowA g46 76 2 1 [.int .i64 ((ownerOf kn3 m11).code), .int .i64 ((ownerOf kn3 m11).val)], rowA g45 43 3 1 [.slice Ao15 kn3.disk.blocks.length co15, .slice Ao16 kn3.disk.cache.length co16, .slice Ao17 kn3.exts.length co17]]) (fun i => i ≤ kn3.disk.blocks.length) (fun i => kn3.disk.blocks.length - i) 0 (Nat.zero_le _) (.c .z (.c (.s .z) (.c (.s16 (.s16 (.s4 (.s4 (.s .z))))) (.c (.s16 (.s16 (.s4 (.s4 (.s4 (.s .z)))))) (.c (.s16 (.s16 (.s4 (.s4 (.s4 (.s (.s .z))))))) (.c (.s16 (.s16 (.s16 .z))) .n)))))) (fun _ h => h.sel (.c .z (.c .z (.c .z (.c .z (.c .z (.c .z .n))))))) ?_
 rintro i hi
 refine FJ.seq (FJ.seq (FJ.region (FJ.ql rfl (q_move rfl (.t .z)) (FJ.ql rfl (q_fieldAddr rfl (.t (.s4 (.s (.s .z)))) (fun _ => fa_43_0 _ _)) ?_))))
 refine FJ.ql rfl (q_fieldAddrA (k := 0) rfl (.t .z) (fun _ => fa_25_0 _ _) rfl) (FJ.ql rfl (q_load rfl ag_22 (.t .z) (WS.row (.s4 (.s .z)) rfl)) (FJ.ql rfl (q_len rfl u_22 (.t .z)) (FJ.ql rfl (q_lss rfl (.t (.s4 .z)) (.t .z)) (FJ.nil ?_))))
 refine FJ.then_ ?_
 refine FJ.condP (.t .z) (fun b608 => ?_) (fun b608 => ?_)
 refine FJ.skip (FJ.then_ (FJ.seq (FJ.block (FJ.seq ?_))))
 refine FJ.draw [rowA g607 45 5 1 [.int .i64 ((flushKern ((writeKern kn3 m10 m11 ws14).kern) m10).code), .slice Ao385 ((flushKern ((writeKern kn3 m10 m11 ws14).kern) m10).words).length co385, .slice Ao386 ((flushKern ((writeKern kn3 m10 m11 ws14).kern) m10).kern.disk.blocks).length co386, .slice Ao387 ((flushKern ((writeKern kn3 m10 m11 ws14).kern) m10).kern.disk.cache).length co387, .slice Ao388 ((flushKern ((writeKern kn3 m10 m11 ws14).kern) m10).kern.exts).length co388], ownA kSl_2 ((blockAt kn3.disk m11).list) [.slice Ao362 ((blockAt kn3.disk m11).list).length co362], rowA g352 45 5 1 [.int .i64 ((readKern kn3 m10 m11).code), .slice Ao186 ((readKern kn3 m10 m11).words).length co186, .slice Ao187 ((readKern kn3 m10 m11).kern.disk.blocks).length co187, .slice Ao188 ((readKern kn3 m10 m11).kern.disk.cache).length co188, .slice Ao189 ((readKern kn3 m10 m11).kern.exts).length co189], rowA g177 45 5 1 [.int .i64 ((writeKern kn3 m10 m11 ws14).code), .slice Ao55 ((writeKern kn3 m10 m11 ws14).words).length co55, .slice Ao56 ((writeKern kn3 m10 m11 ws14).kern.disk.blocks).length co56, .slice Ao57 ((writeKern kn3 m10 m11 ws14).kern.disk.cache).length co57, .slice Ao58 ((writeKern kn3 m10 m11 ws14).kern.exts).length co58], rowA g46 76 2 1 [.int .i64 ((ownerOf kn3 m11).code), .int .i64 ((ownerOf kn3 m11).val)], rowA g45 43 3 1 [.slice Ao15 kn3.disk.blocks.length co15, .slice Ao16 kn3.disk.cache.length co16, .slice Ao17 kn3.exts.length co17]] 18 (by kernel_rfl) ?_
 refine FJ.sch [(0, true), (1, true), (2, true), (3, true)] 14 #[true, true, true, true, false, false, false, false, false, false, false, false, false, false, false, false, false, false] (by rfl) (by kernel_rfl) ?_
 refine FJ.dq rfl rfl rfl (by decide) rfl .z (q_move rfl (.t (.s4 (.s (.s .z))))) (FJ.dq rfl rfl rfl (by decide) rfl .z (q_move rfl (.t (.s4 (.s4 (.s (.s (.s .z))))))) (FJ.dq rfl rfl rfl (by decide) rfl .z (q_neq rfl (.t (.s .z)) (.t .z)) (FJ.dq rfl rfl rfl (by decide) rfl .z (q_move rfl (.t .z)) (FJ.schN ?_))))
 refine FJ.caseN .z (fun g609 => ?_) (fun g609 => ?_)
 refine FJ.sch [(4, true), (5, true), (6, true), (7, true), (10, true), (11, true), (12, true), (8, false), (9, true), (13, false), (14, true), (15, false), (16, true), (17, true)] 0 #[true, true, true, true, true, true, true, true, true, true, true, true, true, true, true, true, true, true] (by rfl) (by kernel_rfl) ?_
 refine FJ.dqg rfl rfl rfl .z rfl (by decide) rfl .z (q_fieldAddr rfl (.t (.s4 (.s4 (.s (.s (.s .z)))))) (fun _ => fa_45_2 _ _)) ?_
 refine FJ.dqg rfl rfl rfl (.s .z) rfl (by decide) rfl .z (q_fieldAddrA (k := 2) rfl (.t .z) (fun _ => fa_43_0 _ _) rfl) ?_
 refine FJ.dqg rfl rfl rfl (.s (.s .z)) rfl (by decide) rfl .z (q_loadA (cs := [.slice Ao386 ((flushKern ((writeKern kn3 m10 m11 ws14).kern) m10).kern.disk.blocks).length co386, .slice Ao387 ((flushKern ((writeKern kn3 m10 m11 ws14).kern) m10).kern.disk.cache).length co387]) rfl ag_25 sz_25 (.t .z) (WS.rows .z (sub_at rfl))) ?_
 refine FJ.dqg rfl rfl rfl (.s (.s (.s .z))) rfl (by decide) rfl .z (q_move rfl (.t (.s4 (.s4 (.s4 (.s .z)))))) ?_
 refine FJ.dqg rfl rfl rfl (.s4 .z) rfl (by decide) rfl .z (q_fieldAddr rfl (.t (.s16 (.s (.s (.s .z))))) (fun _ => fa_43_0 _ _)) ?_
 refine FJ.dqg rfl rfl rfl (.s4 (.s .z)) rfl (by decide) rfl .z (q_loadA (cs := [.slice Ao15 kn3.disk.blocks.length co15, .slice Ao16 kn3.disk.cache.length co16]) rfl ag_25 sz_25 (.t .z) (WS.rows (.s4 (.s .z)) (sub_at rfl))) ?_
 refine FJ.dqg rfl rfl rfl (.s4 (.s (.s .z))) rfl (by decide) rfl .z (q_move rfl (.t (.s16 .z))) ?_
 refine FJ.call (goes_schg rfl rfl rfl (.s4 (.s (.s (.s .z))))) rfl (by decide) rfl (c_call rfl Try.func40 rfl rfl (args2 (.t (.s4 .z)) (.t (.s (.s (.s .z)))))) .n (fun w1 S1 hs tr => c_40 (kT_25_mk ((flushKern ((writeKern kn3 m10 m11 ws14).kern) m10).kern.disk) (tr.ctx hrz442) (tr.ctx hrz496)) _) ?_
 rintro _ _ ⟨v610, rfl, rfl⟩
 refine FJ.cat (.c .n) ?_
 refine FJ.know (WS.oform .z) ?_
 rintro ⟨Ao612, co612, rfl, hlo612, hmo612, hbo612⟩
 refine FJ.sk (.s .z) ?_
 refine FJ.dqg rfl rfl rfl (.s4 (.s4 .z)) rfl (by decide) rfl (.s .z) (q_field rfl (.t .z) (fun w => fv_60_1 w (.int .i64 ((blockAt ((flushKern ((writeKern kn3 m10 m11 ws14).kern) m10).kern.disk) (i : Int)).code)) (.slice Ao612 ((blockAt ((flushKern ((writeKern kn3 m10 m11 ws14).kern) m10).kern.disk) (i : Int)).list).length co612))) ?_
 refine FJ.call (goes_schg rfl rfl rfl (.s4 (.s4 (.s .z)))) rfl (by decide) rfl (c_call rfl Try.func40 rfl rfl (args2 (.t (.s (.s (.s .z)))) (.t (.s (.s .z))))) .n (fun w1 S1 hs tr => c_40 (kT_25_mk kn3.disk (tr.ctx hrz19) (tr.ctx hrz24)) _) ?_
 rintro _ _ ⟨v613, rfl, rfl⟩
 refine FJ.cat (.c .n) ?_
 refine FJ.know (WS.oform .z) ?_
 rintro ⟨Ao615, co615, rfl, hlo615, hmo615, hbo615⟩
 refine FJ.sk (.s (.s .z)) ?_
 refine FJ.dqg rfl rfl rfl (.s4 (.s4 (.s (.s .z)))) rfl (by decide) rfl (.s (.s .z)) (q_field rfl (.t .z) (fun w => fv_60_1 w (.int .i64 ((blockAt kn3.disk (i : Int)).code)) (.slice Ao615 ((blockAt kn3.disk (i : Int)).list).length co615))) ?_
 refine FJ.call (goes_schg rfl rfl rfl (.s4 (.s4 (.s (.s (.s .z)))))) rfl (by decide) rfl (c_call rfl Try.func39 rfl rfl (args2 (.t (.s (.s .z))) (.t .z))) .n (fun w1 S1 hs tr => c_39 (tr.own (.s .z)) (tr.own .z)) ?_
 rintro _ _ ⟨rfl, rfl⟩
 refine FJ.cat .n ?_
 refine FJ.sk (.s (.s .z)) ?_
 refine FJ.dqg rfl rfl rfl (.s4 (.s4 (.s4 .z))) rfl (by decide) rfl (.s (.s .z)) (q_not rfl (.t .z)) ?_
 refine FJ.dq rfl rfl rfl (by decide) rfl (.s (.s .z)) (q_pickT rfl (.t (.s4 (.s4 (.s4 (.s .z))))) (.t .z)) (FJ.schN ?_)
 refine FJ.drawN (by kernel_rfl) ?_
 refine FJ.then_ ?_
 refine FJ.condN (.t .z) (fun b616 => ?_) (fun b616 => ?_)
 refine FJ.seq (FJ.region (FJ.ql rfl (q_assign rfl .c) (FJ.nil (FJ.then_ ?_))))
 refine FJ.ret (FJ.inBR (FJ.thenR (FJ.thenR (FJ.inBR ?_))))
 refine FJ.thenR ?_
 refine FJ.upR (fun l w h => hupz19 _ _ (hupz24 _ _ (hupz30 _ _ (hupz37 _ _ (hupz59 _ _ (hupz87 _ _ (hupz116 _ _ (hupz146 _ _ (hupz190 _ _ (hupz229 _ _ (hupz269 _ _ (hupz310 _ _ (hupz389 _ _ (hupz442 _ _ (hupz496 _ _ (hupz551 _ _ (h))))))))))))))))) ?_
 refine FJ.doneS (res1 rfl .z) .n ?_
 first | exact ⟨rfl, rfl⟩ | (focus (exfalso; omega)) | (focus (exfalso; simp_all; done)) | (focus (refine ⟨congrArg Value.bool ?_, rfl⟩; simp_all; done)) | (focus (refine ⟨congrArg Value.bool ?_, rfl⟩; simp_all; omega)) -- 5
 refine FJ.skip (FJ.inBN (FJ.then_ (FJ.region (FJ.ql rfl (q_move rfl (.t (.s16 (.s4 (.s4 .z))))) ?_))))
 refine FJ.ql rfl (q_add (c := ((i + 1 : Nat) : Int)) rfl (.t .z) .c (wr (by omega) (by omega) (by omega))) ?_
 refine FJ.er (.s16 (.s4 (.s4 (.s (.s .z))))) (FJ.ql rfl (q_assign rfl (.t .z)) (FJ.nil ?_))
 refine FJ.again (i + 1) (by omega) (by first | omega | (dsimp only; omega)) (.c .z (.c (.s16 (.s4 (.s4 (.s (.s (.s .z)))))) (.c (.s16 (.s4 (.s4 (.s4 .z)))) (.c (.s16 (.s4 (.s4 (.s4 (.s .z))))) (.c (.s16 (.s4 (.s4 (.s4 (.s (.s .z)))))) (.c (.s16 (.s4 (.s4 (.s4 (.s (.s (.s .z))))))) .n)))))) (fun _ h => h.sel (.c (.s (.s .z)) (.c (.s (.s .z)) (.c (.s (.s .z)) (.c (.s (.s .z)) (.c (.s (.s .z)) (.c (.s (.s .z)) .n)))))))
 refine FJ.sch [(4, true), (5, true), (6, true), (7, true), (8, true), (9, true), (10, true), (11, true), (12, true), (13, true), (14, true), (15, true), (16, true), (17, true)] 0 #[true, true, true, true, true, true, true, true, true, true, true, true, true, true, true, true, true, true] (by rfl) (by kernel_rfl) ?_
 refine FJ.dskip rfl rfl rfl .z rfl rfl (by decide) rfl .z ?_
 refine FJ.dskip rfl rfl rfl (.s .z) rfl rfl (by decide) rfl .z ?_
 refine FJ.dskip rfl rfl rfl (.s (.s .z)) rfl rfl (by decide) rfl .z ?_
 refine FJ.dskip rfl rfl rfl (.s (.s (.s .z))) rfl rfl (by decide) rfl .z ?_
 refine FJ.dskip rfl rfl rfl (.s4 .z) rfl rfl (by decide) rfl .z ?_
 refine FJ.dskip rfl rfl rfl (.s4 (.s .z)) rfl rfl (by decide) rfl .z ?_
 refine FJ.dskip rfl rfl rfl (.s4 (.s (.s .z))) rfl rfl (by decide) rfl .z ?_
 refine FJ.dskip rfl rfl rfl (.s4 (.s (.s (.s .z)))) rfl rfl (by decide) rfl .z ?_
 refine FJ.dskip rfl rfl rfl (.s4 (.s4 .z)) rfl rfl (by decide) rfl .z ?_
 refine FJ.dskip rfl rfl rfl (.s4 (.s4 (.s .z))) rfl rfl (by decide) rfl .z ?_
 refine FJ.dskip rfl rfl rfl (.s4 (.s4 (.s (.s .z)))) rfl rfl (by decide) rfl .z ?_
 refine FJ.dskip rfl rfl rfl (.s4 (.s4 (.s (.s (.s .z))))) rfl rfl (by decide) rfl .z ?_
 refine FJ.dskip rfl rfl rfl (.s4 (.s4 (.s4 .z))) rfl rfl (by decide) rfl .z ?_
 refine FJ.dq rfl rfl rfl (by decide) rfl .z (q_pickF rfl (.t (.s4 (.s4 (.s4 (.s .z))))) .c) (FJ.schN ?_)
 refine FJ.drawN (by kernel_rfl) ?_
 refine FJ.then_ ?_
 refine FJ.condF (.t .z) ?_
 refine FJ.skip (FJ.inBN (FJ.then_ (FJ.region (FJ.ql rfl (q_move rfl (.t (.s16 (.s4 (.s4 .z))))) ?_))))
 refine FJ.ql rfl (q_add (c := ((i + 1 : Nat) : Int)) rfl (.t .z) .c (wr (by omega) (by omega) (by omega))) ?_
 refine FJ.er (.s16 (.s4 (.s4 (.s (.s .z))))) (FJ.ql rfl (q_assign rfl (.t .z)) (FJ.nil ?_))
 refine FJ.again (i + 1) (by omega) (by first | omega | (dsimp only; omega)) (.c .z (.c (.s16 (.s4 (.s4 (.s (.s (.s .z)))))) (.c (.s16 (.s4 (.s4 (.s4 .z)))) (.c (.s16 (.s4 (.s4 (.s4 (.s .z))))) (.c (.s16 (.s4 (.s4 (.s4 (.s (.s .z)))))) (.c (.s16 (.s4 (.s4 (.s4 (.s (.s (.s .z))))))) .n)))))) (fun _ h => h.sel (.c .z (.c .z (.c .z (.c .z (.c .z (.c .z .n)))))))
 refine FJ.exit (FJ.thenE (FJ.thenE (FJ.inB (FJ.then_ ?_))))
 refine FJ.seq ?_
 refine FJ.draw [rowA g607 45 5 1 [.int .i64 ((flushKern ((writeKern kn3 m10 m11 ws14).kern) m10).code), .slice Ao385 ((flushKern ((writeKern kn3 m10 m11 ws14).kern) m10).words).length co385, .slice Ao386 ((flushKern ((writeKern kn3 m10 m11 ws14).kern) m10).kern.disk.blocks).length co386, .slice Ao387 ((flushKern ((writeKern kn3 m10 m11 ws14).kern) m10).kern.disk.cache).length co387, .slice Ao388 ((flushKern ((writeKern kn3 m10 m11 ws14).kern) m10).kern.exts).length co388], ownA kSl_2 ((blockAt kn3.disk m11).list) [.slice Ao362 ((blockAt kn3.disk m11).list).length co362], rowA g352 45 5 1 [.int .i64 ((readKern kn3 m10 m11).code), .slice Ao186 ((readKern kn3 m10 m11).words).length co186, .slice Ao187 ((readKern kn3 m10 m11).kern.disk.blocks).length co187, .slice Ao188 ((readKern kn3 m10 m11).kern.disk.cache).length co188, .slice Ao189 ((readKern kn3 m10 m11).kern.exts).length co189], rowA g177 45 5 1 [.int .i64 ((writeKern kn3 m10 m11 ws14).code), .slice Ao55 ((writeKern kn3 m10 m11 ws14).words).length co55, .slice Ao56 ((writeKern kn3 m10 m11 ws14).kern.disk.blocks).length co56, .slice Ao57 ((writeKern kn3 m10 m11 ws14).kern.disk.cache).length co57, .slice Ao58 ((writeKern kn3 m10 m11 ws14).kern.exts).length co58], rowA g46 76 2 1 [.int .i64 ((ownerOf kn3 m11).code), .int .i64 ((ownerOf kn3 m11).val)], rowA g45 43 3 1 [.slice Ao15 kn3.disk.blocks.length co15, .slice Ao16 kn3.disk.cache.length co16, .slice Ao17 kn3.exts.length co17]] 28 (by kernel_rfl) ?_
 refine FJ.sch [(0, true), (1, true), (2, true), (3, true)] 25 #[true, true, true, true, false, false, false, false, false, false, false, false, false, false, false, false, false, false, false, false, false, false, false, false, false, false, false, false, false] (by rfl) (by kernel_rfl) ?_
 refine FJ.dq rfl rfl rfl (by decide) rfl .z (q_fieldAddr rfl (.t (.s4 (.s (.s (.s .z))))) (fun _ => fa_45_0 _ _)) (FJ.dq rfl rfl rfl (by decide) rfl .z (q_load rfl ag_2 (.t .z) (WS.row .z rfl)) (FJ.dq rfl rfl rfl (by decide) rfl .z (q_eql rfl (.t .z) .c) (FJ.dq rfl rfl rfl (by decide) rfl .z (q_move rfl (.t .z)) (FJ.schN ?_))))
 refine FJ.caseP .z (fun g617 => ?_) (fun g617 => ?_)
 refine FJ.sch [(4, true), (5, true), (6, true), (7, true), (10, true), (8, false), (9, true), (11, false), (12, true), (13, true)] 15 #[true, true, true, true, true, true, true, true, true, true, true, true, true, true, false, false, false, false, false, false, false, false, false, false, false, false, false, false, false] (by rfl) (by kernel_rfl) ?_
 refine FJ.dqg rfl rfl rfl .z rfl (by decide) rfl .z (q_fieldAddr rfl (.t (.s4 (.s4 (.s (.s (.s .z)))))) (fun _ => fa_45_2 _ _)) ?_
 refine FJ.dqg rfl rfl rfl (.s .z) rfl (by decide) rfl .z (q_fieldAddrA (k := 2) rfl (.t .z) (fun _ => fa_43_0 _ _) rfl) ?_
 refine FJ.dqg rfl rfl rfl (.s (.s .z)) rfl (by decide) rfl .z (q_loadA (cs := [.slice Ao386 ((flushKern ((writeKern kn3 m10 m11 ws14).kern) m10).kern.disk.blocks).length co386, .slice Ao387 ((flushKern ((writeKern kn3 m10 m11 ws14).kern) m10).kern.disk.cache).length co387]) rfl ag_25 sz_25 (.t .z) (WS.rows .z (sub_at rfl))) ?_
 refine FJ.dqg rfl rfl rfl (.s (.s (.s .z))) rfl (by decide) rfl .z (q_move rfl (.t (.s16 (.s .z)))) ?_
 refine FJ.dqg rfl rfl rfl (.s4 .z) rfl (by decide) rfl .z (q_move rfl (.t (.s16 (.s .z)))) ?_
 refine FJ.call (goes_schg rfl rfl rfl (.s4 (.s .z))) rfl (by decide) rfl (c_call rfl Try.func40 rfl rfl (args2 (.t (.s (.s .z))) (.t (.s .z)))) .n (fun w1 S1 hs tr => c_40 (kT_25_mk ((flushKern ((writeKern kn3 m10 m11 ws14).kern) m10).kern.disk) (tr.ctx hrz442) (tr.ctx hrz496)) _) ?_
 rintro _ _ ⟨v618, rfl, rfl⟩
 refine FJ.cat (.c .n) ?_
 refine FJ.know (WS.oform .z) ?_
 rintro ⟨Ao620, co620, rfl, hlo620, hmo620, hbo620⟩
 refine FJ.sk (.s .z) ?_
 refine FJ.dqg rfl rfl rfl (.s4 (.s (.s .z))) rfl (by decide) rfl (.s .z) (q_field rfl (.t .z) (fun w => fv_60_1 w (.int .i64 ((blockAt ((flushKern ((writeKern kn3 m10 m11 ws14).kern) m10).kern.disk) m11).code)) (.slice Ao620 ((blockAt ((flushKern ((writeKern kn3 m10 m11 ws14).kern) m10).kern.disk) m11).list).length co620))) ?_
 refine FJ.call (goes_schg rfl rfl rfl (.s4 (.s (.s (.s .z))))) rfl (by decide) rfl (c_call rfl Try.func39 rfl rfl (args2 (.t .z) (.t (.s (.s .z))))) .n (fun w1 S1 hs tr => c_39 (tr.own .z) (tr.ctx hrz37)) ?_
 rintro _ _ ⟨rfl, rfl⟩
 refine FJ.cat .n ?_
 refine FJ.sk (.s .z) ?_
 refine FJ.dq rfl rfl rfl (by decide) rfl (.s .z) (q_pickT rfl (.t (.s4 (.s4 .z))) (.t .z)) (FJ.dq rfl rfl rfl (by decide) rfl (.s .z) (q_move rfl (.t .z)) (FJ.schN ?_))
 refine FJ.caseP .z (fun g621 => ?_) (fun g621 => ?_)
 refine FJ.sch [(14, true), (15, true), (16, false), (17, true), (18, true), (19, true)] 9 #[true, true, true, true, true, true, true, true, true, true, true, true, true, true, true, true, true, true, true, true, false, false, false, false, false, false, false, false, false] (by rfl) (by kernel_rfl) ?_
 refine FJ.dqg rfl rfl rfl .z rfl (by decide) rfl (.s .z) (q_fieldAddr rfl (.t (.s16 (.s4 (.s .z)))) (fun _ => fa_45_2 _ _)) ?_
 refine FJ.dqg rfl rfl rfl (.s .z) rfl (by decide) rfl (.s .z) (q_loadA (cs := [.slice Ao386 ((flushKern ((writeKern kn3 m10 m11 ws14).kern) m10).kern.disk.blocks).length co386, .slice Ao387 ((flushKern ((writeKern kn3 m10 m11 ws14).kern) m10).kern.disk.cache).length co387, .slice Ao388 ((flushKern ((writeKern kn3 m10 m11 ws14).kern) m10).kern.exts).length co388]) rfl ag_43 sz_43 (.t .z) (WS.rows .z (sub_at rfl))) ?_
 refine FJ.call (goes_schg rfl rfl rfl (.s (.s .z))) rfl (by decide) rfl (c_call rfl Try.func50 rfl rfl (args1 (.t .z))) .n (fun w1 S1 hs tr => c_50 (kT_43_mk ((flushKern ((writeKern kn3 m10 m11 ws14).kern) m10).kern) (tr.ctx hrz442) (tr.ctx hrz496) (tr.ctx hrz551))) ?_
 rintro _ _ ⟨rfl, rfl⟩
 refine FJ.cat .n ?_
 refine FJ.sk (.s .z) ?_
 refine FJ.dqg rfl rfl rfl (.s (.s (.s .z))) rfl (by decide) rfl (.s .z) (q_eql rfl (.t .z) .c) ?_
 refine FJ.dq rfl rfl rfl (by decide) rfl (.s .z) (q_pickT rfl (.t (.s4 .z)) (.t .z)) (FJ.dq rfl rfl rfl (by decide) rfl (.s .z) (q_move rfl (.t .z)) (FJ.schN ?_))
 refine FJ.caseP .z (fun g622 => ?_) (fun g622 => ?_)
 refine FJ.sch [(20, true), (21, true), (22, true), (23, true), (24, false), (25, true), (26, true), (27, true), (28, false)] 0 #[true, true, true, true, true, true, true, true, true, true, true, true, true, true, true, true, true, true, true, true, true, true, true, true, true, true, true, true, true] (by rfl) (by kernel_rfl) ?_
 refine FJ.dqg rfl rfl rfl .z rfl (by decide) rfl (.s .z) (q_fieldAddr rfl (.t (.s16 (.s4 (.s4 (.s4 .z))))) (fun _ => fa_76_1 _ _)) ?_
 refine FJ.dqg rfl rfl rfl (.s .z) rfl (by decide) rfl (.s .z) (q_load rfl ag_2 (.t .z) (WS.row (.s4 .z) rfl)) ?_
 refine FJ.dqg rfl rfl rfl (.s (.s .z)) rfl (by decide) rfl (.s .z) (q_loadA (cs := [.slice Ao15 kn3.disk.blocks.length co15, .slice Ao16 kn3.disk.cache.length co16, .slice Ao17 kn3.exts.length co17]) rfl ag_43 sz_43 (.t (.s16 (.s16 (.s .z)))) (WS.rows0 (.s4 (.s .z)) (fun i u h => by exact h))) ?_
 refine FJ.dqg rfl rfl rfl (.s (.s (.s .z))) rfl (by decide) rfl (.s .z) (q_move rfl (.t (.s16 (.s16 (.s .z))))) ?_
 refine FJ.call (goes_schg rfl rfl rfl (.s4 .z)) rfl (by decide) rfl (c_call rfl Try.func53 rfl rfl (args2 (.t (.s .z)) (.t .z))) .n (fun w1 S1 hs tr => c_53 (kT_43_mk kn3 (tr.ctx hrz19) (tr.ctx hrz24) (tr.ctx hrz30)) _) ?_
 rintro _ _ ⟨rfl, rfl⟩
 refine FJ.cat .n ?_
 refine FJ.sk (.s .z) ?_
 refine FJ.dqg rfl rfl rfl (.s4 (.s .z)) rfl (by decide) rfl (.s .z) (q_field rfl (.t .z) (fun w => fv_76_1 w (.int .i64 ((ownerOf kn3 m11).code)) (.int .i64 ((ownerOf kn3 m11).val)))) ?_
 refine FJ.dqg rfl rfl rfl (.s4 (.s (.s .z))) rfl (by decide) rfl (.s .z) (q_eql rfl (.t (.s4 .z)) (.t .z)) ?_
 refine FJ.dq rfl rfl rfl (by decide) rfl (.s .z) (q_pickT rfl (.t (.s4 (.s (.s (.s .z))))) (.t .z)) ?_
 refine FJ.q (goes_sch rfl rfl) rfl (by decide) rfl (q_assign rfl (.t .z)) ?_
 refine FJ.sl rfl ?_
 refine FJ.schN ?_
 refine FJ.drawN (by kernel_rfl) ?_
 refine FJ.then_ (FJ.ret ?_)
 refine FJ.upR (fun l w h => hupz19 _ _ (hupz24 _ _ (hupz30 _ _ (hupz37 _ _ (hupz59 _ _ (hupz87 _ _ (hupz116 _ _ (hupz146 _ _ (hupz190 _ _ (hupz229 _ _ (hupz269 _ _ (hupz310 _ _ (hupz389 _ _ (hupz442 _ _ (hupz496 _ _ (hupz551 _ _ (h))))))))))))))))) ?_
 refine FJ.doneS (res1 rfl .z) .n ?_
 first | exact ⟨rfl, rfl⟩ | (focus (exfalso; omega)) | (focus (exfalso; simp_all; done)) | (focus (refine ⟨congrArg Value.bool ?_, rfl⟩; simp_all; done)) | (focus (refine ⟨congrArg Value.bool ?_, rfl⟩; simp_all; omega)) -- 6
 refine FJ.sch [(20, true), (21, true), (22, true), (23, true), (24, true), (25, true), (26, true), (27, true), (28, false)] 0 #[true, true, true, true, true, true, true, true, true, true, true, true, true, true, true, true, true, true, true, true, true, true, true, true, true, true, true, true, true] (by rfl) (by kernel_rfl) ?_
 refine FJ.dskip rfl rfl rfl .z rfl rfl (by decide) rfl (.s .z) ?_
 refine FJ.dskip rfl rfl rfl (.s .z) rfl rfl (by decide) rfl (.s .z) ?_
 refine FJ.dskip rfl rfl rfl (.s (.s .z)) rfl rfl (by decide) rfl (.s .z) ?_
 refine FJ.dskip rfl rfl rfl (.s (.s (.s .z))) rfl rfl (by decide) rfl (.s .z) ?_
 refine FJ.dskip rfl rfl rfl (.s4 .z) rfl rfl (by decide) rfl (.s .z) ?_
 refine FJ.dskip rfl rfl rfl (.s4 (.s .z)) rfl rfl (by decide) rfl (.s .z) ?_
 refine FJ.dskip rfl rfl rfl (.s4 (.s (.s .z))) rfl rfl (by decide) rfl (.s .z) ?_
 refine FJ.dq rfl rfl rfl (by decide) rfl (.s .z) (q_pickF rfl (.t (.s4 (.s (.s (.s .z))))) .c) ?_
 refine FJ.q (goes_sch rfl rfl) rfl (by decide) rfl (q_assign rfl (.t .z)) ?_
 refine FJ.sl rfl ?_
 refine FJ.schN ?_
 refine FJ.drawN (by kernel_rfl) ?_
 refine FJ.then_ (FJ.ret ?_)
 refine FJ.upR (fun l w h => hupz19 _ _ (hupz24 _ _ (hupz30 _ _ (hupz37 _ _ (hupz59 _ _ (hupz87 _ _ (hupz116 _ _ (hupz146 _ _ (hupz190 _ _ (hupz229 _ _ (hupz269 _ _ (hupz310 _ _ (hupz389 _ _ (hupz442 _ _ (hupz496 _ _ (hupz551 _ _ (h))))))))))))))))) ?_
 refine FJ.doneS (res1 rfl .z) .n ?_
 first | exact ⟨rfl, rfl⟩ | (focus (exfalso; omega)) | (focus (exfalso; simp_all; done)) | (focus (refine ⟨congrArg Value.bool ?_, rfl⟩; simp_all; done)) | (focus (refine ⟨congrArg Value.bool ?_, rfl⟩; simp_all; omega)) -- 6
 refine FJ.sch [(14, true), (15, true), (16, true), (17, true), (18, true), (19, true), (20, true), (21, true), (22, true), (23, true), (24, true), (25, true), (26, true), (27, true), (28, false)] 0 #[true, true, true, true, true, true, true, true, true, true, true, true, true, true, true, true, true, true, true, true, true, true, true, true, true, true, true, true, true] (by rfl) (by kernel_rfl) ?_
 refine FJ.dskip rfl rfl rfl .z rfl rfl (by decide) rfl (.s .z) ?_
 refine FJ.dskip rfl rfl rfl (.s .z) rfl rfl (by decide) rfl (.s .z) ?_
 refine FJ.dskip rfl rfl rfl (.s (.s .z)) rfl rfl (by decide) rfl (.s .z) ?_
 refine FJ.dskip rfl rfl rfl (.s (.s (.s .z))) rfl rfl (by decide) rfl (.s .z) ?_
 refine FJ.dq rfl rfl rfl (by decide) rfl (.s .z) (q_pickF rfl (.t (.s4 .z)) .c) (FJ.dq rfl rfl rfl (by decide) rfl (.s .z) (q_move rfl (.t .z)) ?_)
 refine FJ.dskip rfl rfl rfl .z rfl rfl (by decide) rfl (.s .z) ?_
 refine FJ.dskip rfl rfl rfl (.s .z) rfl rfl (by decide) rfl (.s .z) ?_
 refine FJ.dskip rfl rfl rfl (.s (.s .z)) rfl rfl (by decide) rfl (.s .z) ?_
 refine FJ.dskip rfl rfl rfl (.s (.s (.s .z))) rfl rfl (by decide) rfl (.s .z) ?_
 refine FJ.dskip rfl rfl rfl (.s4 .z) rfl rfl (by decide) rfl (.s .z) ?_
 refine FJ.dskip rfl rfl rfl (.s4 (.s .z)) rfl rfl (by decide) rfl (.s .z) ?_
 refine FJ.dskip rfl rfl rfl (.s4 (.s (.s .z))) rfl rfl (by decide) rfl (.s .z) ?_
 refine FJ.dq rfl rfl rfl (by decide) rfl (.s .z) (q_pickF rfl (.t (.s4 (.s (.s (.s .z))))) .c) ?_
 refine FJ.q (goes_sch rfl rfl) rfl (by decide) rfl (q_assign rfl (.t .z)) ?_
 refine FJ.sl rfl ?_
 refine FJ.schN ?_
 refine FJ.drawN (by kernel_rfl) ?_
 refine FJ.then_ (FJ.ret ?_)
 refine FJ.upR (fun l w h => hupz19 _ _ (hupz24 _ _ (hupz30 _ _ (hupz37 _ _ (hupz59 _ _ (hupz87 _ _ (hupz116 _ _ (hupz146 _ _ (hupz190 _ _ (hupz229 _ _ (hupz269 _ _ (hupz310 _ _ (hupz389 _ _ (hupz442 _ _ (hupz496 _ _ (hupz551 _ _ (h))))))))))))))))) ?_
 refine FJ.doneS (res1 rfl .z) .n ?_
 first | exact ⟨rfl, rfl⟩ | (focus (exfalso; omega)) | (focus (exfalso; simp_all; done)) | (focus (refine ⟨congrArg Value.bool ?_, rfl⟩; simp_all; done)) | (focus (refine ⟨congrArg Value.bool ?_, rfl⟩; simp_all; omega)) -- 6
 refine FJ.sch [(4, true), (5, true), (6, true), (7, true), (8, true), (9, true), (10, true), (11, true), (12, true), (13, true), (14, true), (15, true), (16, true), (17, true), (18, true), (19, true), (20, true), (21, true), (22, true), (23, true), (24, true), (25, true), (26, true), (27, true), (28, false)] 0 #[true, true, true, true, true, true, true, true, true, true, true, true, true, true, true, true, true, true, true, true, true, true, true, true, true, true, true, true, true] (by rfl) (by kernel_rfl) ?_
 refine FJ.dskip rfl rfl rfl .z rfl rfl (by decide) rfl .z ?_
 refine FJ.dskip rfl rfl rfl (.s .z) rfl rfl (by decide) rfl .z ?_
 refine FJ.dskip rfl rfl rfl (.s (.s .z)) rfl rfl (by decide) rfl .z ?_
 refine FJ.dskip rfl rfl rfl (.s (.s (.s .z))) rfl rfl (by decide) rfl .z ?_
 refine FJ.dskip rfl rfl rfl (.s4 .z) rfl rfl (by decide) rfl .z ?_
 refine FJ.dskip rfl rfl rfl (.s4 (.s .z)) rfl rfl (by decide) rfl .z ?_
 refine FJ.dskip rfl rfl rfl (.s4 (.s (.s .z))) rfl rfl (by decide) rfl .z ?_
 refine FJ.dskip rfl rfl rfl (.s4 (.s (.s (.s .z)))) rfl rfl (by decide) rfl .z ?_
 refine FJ.dq rfl rfl rfl (by decide) rfl .z (q_pickF rfl (.t (.s4 (.s4 .z))) .c) (FJ.dq rfl rfl rfl (by decide) rfl .z (q_move rfl (.t .z)) ?_)
 refine FJ.dskip rfl rfl rfl .z rfl rfl (by decide) rfl .z ?_
 refine FJ.dskip rfl rfl rfl (.s .z) rfl rfl (by decide) rfl .z ?_
 refine FJ.dskip rfl rfl rfl (.s (.s .z)) rfl rfl (by decide) rfl .z ?_
 refine FJ.dskip rfl rfl rfl (.s (.s (.s .z))) rfl rfl (by decide) rfl .z ?_
 refine FJ.dq rfl rfl rfl (by decide) rfl .z (q_pickF rfl (.t (.s4 .z)) .c) (FJ.dq rfl rfl rfl (by decide) rfl .z (q_move rfl (.t .z)) ?_)
 refine FJ.dskip rfl rfl rfl .z rfl rfl (by decide) rfl .z ?_
 refine FJ.dskip rfl rfl rfl (.s .z) rfl rfl (by decide) rfl .z ?_
 refine FJ.dskip rfl rfl rfl (.s (.s .z)) rfl rfl (by decide) rfl .z ?_
 refine FJ.dskip rfl rfl rfl (.s (.s (.s .z))) rfl rfl (by decide) rfl .z ?_
 refine FJ.dskip rfl rfl rfl (.s4 .z) rfl rfl (by decide) rfl .z ?_
 refine FJ.dskip rfl rfl rfl (.s4 (.s .z)) rfl rfl (by decide) rfl .z ?_
 refine FJ.dskip rfl rfl rfl (.s4 (.s (.s .z))) rfl rfl (by decide) rfl .z ?_
 refine FJ.dq rfl rfl rfl (by decide) rfl .z (q_pickF rfl (.t (.s4 (.s (.s (.s .z))))) .c) ?_
 refine FJ.q (goes_sch rfl rfl) rfl (by decide) rfl (q_assign rfl (.t .z)) ?_
 refine FJ.sl rfl ?_
 refine FJ.schN ?_
 refine FJ.drawN (by kernel_rfl) ?_
 refine FJ.then_ (FJ.ret ?_)
 refine FJ.upR (fun l w h => hupz19 _ _ (hupz24 _ _ (hupz30 _ _ (hupz37 _ _ (hupz59 _ _ (hupz87 _ _ (hupz116 _ _ (hupz146 _ _ (hupz190 _ _ (hupz229 _ _ (hupz269 _ _ (hupz310 _ _ (hupz389 _ _ (hupz442 _ _ (hupz496 _ _ (hupz551 _ _ (h))))))))))))))))) ?_
 refine FJ.doneS (res1 rfl .z) .n ?_
 first | exact ⟨rfl, rfl⟩ | (focus (exfalso; omega)) | (focus (exfalso; simp_all; done)) | (focus (refine ⟨congrArg Value.bool ?_, rfl⟩; simp_all; done)) | (focus (refine ⟨congrArg Value.bool ?_, rfl⟩; simp_all; omega)) -- 6

end Go.Proofs.Ytkmcpcahbfdohaa

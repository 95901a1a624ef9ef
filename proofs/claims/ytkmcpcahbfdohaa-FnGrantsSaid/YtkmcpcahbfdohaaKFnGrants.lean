/- What is proved: contracts of functions, one a function. No condition. -/
import Derived.Test.YtkmcpcahbfdohaaW45
import Derived.Test.YtkmcpcahbfdohaaW20
import Derived.Test.YtkmcpcahbfdohaaW10
import Derived.Test.YtkmcpcahbfdohaaW9
import Derived.Test.YtkmcpcahbfdohaaTypesA
import Derived.Test.YtkmcpcahbfdohaaBase1
import Derived.Test.YtkmcpcahbfdohaaBase2
namespace Go.Proofs.Ytkmcpcahbfdohaa
open Go Go.RowKit
set_option linter.unusedVariables false
set_option linter.unusedSimpArgs false
set_option maxHeartbeats 1000000 in
set_option maxRecDepth 20000 in
theorem c_13 {w0 : World} {S0 : Bs} {cd : (List UInt8)} {v0 : Value} (h0 : kSl_5.ro w0 (FF w0 S0) cd [v0])  :
    Calls Try.prog 13 #[v0] w0 (TriPost w0 S0 (fun r l => r = .bool true ∧ l = [])) := by
 obtain ⟨A0, c0, rfl, hl0, hm0, hb0, he0⟩ := ro_form h0
 refine FJ.enter (N := 140) Try.func13 rfl rfl (by simp) [(0, .slice A0 cd.length c0)] (by simp) (l0 := []) trivial ?_
 refine FJ.seq (FJ.region (FJ.ql rfl (q_assign rfl .c) (FJ.nil (FJ.then_ ?_))))
 refine FJ.seq (FJ.seq (FJ.region (FJ.ql rfl (q_move rfl (.t (.s .z))) ?_)))
 refine FJ.call (goes_list rfl) rfl (by decide) rfl (c_call rfl Try.func35 rfl rfl (args1 (.t .z))) .n (fun w1 S1 hs tr => c_35 (tr.ctx h0)) ?_
 rintro _ _ ⟨rfl, rfl⟩
 refine FJ.cat .n ?_
 refine FJ.nil (FJ.then_ ?_)
 refine FJ.condP (.t .z) (fun b2 => ?_) (fun b2 => ?_)
 refine FJ.seq (FJ.region (FJ.er (.s (.s .z)) (FJ.ql rfl (q_assign rfl .c) (FJ.nil ?_))))
 refine FJ.then_ (FJ.ret (FJ.thenR ?_))
 refine FJ.doneS (res1 rfl .z) .n ?_
 exact ⟨rfl, rfl⟩
 refine FJ.skip (FJ.then_ (FJ.seq (FJ.region (FJ.ql rfl (q_move rfl (.t (.s (.s (.s .z))))) ?_))))
 refine FJ.call (goes_list rfl) rfl (by decide) rfl (c_call rfl Try.func64 rfl rfl (args1 (.t .z))) .n (fun w1 S1 hs tr => c_64 (tr.ctx h0)) ?_
 rintro _ _ ⟨kn3, v4, v6, v8, m10, m11, m12, hzkn3, rfl, rfl⟩
 refine FJ.cat (.c (.c (.c .n))) ?_
 have LG := @grant_law kn3 (⟨m10, m11, m12⟩ : DExt)
 refine FJ.know (WS.oform .z) ?_
 rintro ⟨Ao13, co13, rfl, hlo13, hmo13, hbo13⟩
 refine FJ.know (WS.oform (.s .z)) ?_
 rintro ⟨Ao14, co14, rfl, hlo14, hmo14, hbo14⟩
 refine FJ.know (WS.oform (.s (.s .z))) ?_
 rintro ⟨Ao15, co15, rfl, hlo15, hmo15, hbo15⟩
 refine FJ.freeze .z ?_
 intro w0 S0 trz16 hrz16 hupz16
 replace h0 := trz16 h0
 refine FJ.freeze .z ?_
 intro w0 S0 trz21 hrz21 hupz21
 replace hrz16 := trz21 hrz16
 replace h0 := trz21 h0
 refine FJ.freeze .z ?_
 intro w0 S0 trz27 hrz27 hupz27
 replace hrz16 := trz27 hrz16
 replace hrz21 := trz27 hrz21
 replace h0 := trz27 h0
 refine FJ.ql rfl (q_move rfl (.t .z)) (FJ.ql rfl (q_extract (v := .agg #[.slice Ao13 kn3.disk.blocks.length co13, .slice Ao14 kn3.disk.cache.length co14, .slice Ao15 kn3.exts.length co15]) rfl (.t .z) rfl) (FJ.ql rfl (q_extract (v := .int .i64 m10) rfl (.t (.s .z)) rfl) (FJ.ql rfl (q_extract (v := .int .i64 m11) rfl (.t (.s (.s .z))) rfl) (FJ.ql rfl (q_extract (v := .int .i64 m12) rfl (.t (.s (.s (.s .z)))) rfl) ?_))))
 refine FJ.e (goes_list rfl) rfl (by decide) rfl (e_alloc rfl z_43 rfl rfl) ?_
 rintro _ _ ⟨g34, rfl, rfl⟩
 refine FJ.es (goes_list rfl) rfl (es_store (off := 0) (cs := [.slice Ao13 kn3.disk.blocks.length co13, .slice Ao14 kn3.disk.cache.length co14, .slice Ao15 kn3.exts.length co15]) rfl sz_43 (.t .z) (.t (.s4 .z)) rfl (ones rfl) .z (Nat.le_of_ble_eq_true rfl) (.c .z (.c (.s .z) (.c (.s (.s .z)) .n)))) ?_
 refine FJ.ql rfl (q_assign rfl (.t (.s (.s (.s .z))))) (FJ.ql rfl (q_assign rfl (.t (.s (.s (.s .z))))) (FJ.ql rfl (q_assign rfl (.t (.s (.s (.s .z))))) (FJ.nil (FJ.then_ ?_))))
 refine FJ.seq (FJ.region ?_)
 refine FJ.ql rfl (q_loadA (cs := [.slice Ao13 kn3.disk.blocks.length co13, .slice Ao14 kn3.disk.cache.length co14, .slice Ao15 kn3.exts.length co15]) rfl ag_43 sz_43 (.t (.s (.s (.s .z)))) (WS.rows0 .z (fun i u h => by exact h))) ?_
 refine FJ.ql rfl (q_move rfl (.t (.s (.s (.s .z))))) (FJ.ql rfl (q_move rfl (.t (.s (.s (.s .z))))) (FJ.ql rfl (q_move rfl (.t (.s (.s (.s .z))))) ?_))
 refine FJ.call (goes_list rfl) rfl (by decide) rfl (c_call rfl Try.func65 rfl rfl (args4 (.t (.s (.s (.s .z)))) (.t (.s (.s .z))) (.t (.s .z)) (.t .z))) .n (fun w1 S1 hs tr => c_65 (kT_43_mk kn3 (tr.ctx hrz16) (tr.ctx hrz21) (tr.ctx hrz27)) _ _ _) ?_
 rintro _ _ ⟨v35, v37, v39, v41, rfl, rfl⟩
 refine FJ.cat (.c (.c (.c (.c .n)))) ?_
 refine FJ.know (WS.oform .z) ?_
 rintro ⟨Ao43, co43, rfl, hlo43, hmo43, hbo43⟩
 refine FJ.know (WS.oform (.s .z)) ?_
 rintro ⟨Ao44, co44, rfl, hlo44, hmo44, hbo44⟩
 refine FJ.know (WS.oform (.s (.s .z))) ?_
 rintro ⟨Ao45, co45, rfl, hlo45, hmo45, hbo45⟩
 refine FJ.know (WS.oform (.s (.s (.s .z)))) ?_
 rintro ⟨Ao46, co46, rfl, hlo46, hmo46, hbo46⟩
 refine FJ.freeze .z ?_
 intro w0 S0 trz47 hrz47 hupz47
 replace hrz16 := trz47 hrz16
 replace hrz21 := trz47 hrz21
 replace hrz27 := trz47 hrz27
 replace h0 := trz47 h0
 refine FJ.freeze .z ?_
 intro w0 S0 trz67 hrz67 hupz67
 replace hrz47 := trz67 hrz47
 replace hrz16 := trz67 hrz16
 replace hrz21 := trz67 hrz21
 replace hrz27 := trz67 hrz27
 replace h0 := trz67 h0
 refine FJ.freeze .z ?_
 intro w0 S0 trz88 hrz88 hupz88
 replace hrz47 := trz88 hrz47
 replace hrz67 := trz88 hrz67
 replace hrz16 := trz88 hrz16
 replace hrz21 := trz88 hrz21
 replace hrz27 := trz88 hrz27
 replace h0 := trz88 h0
 refine FJ.freeze .z ?_
 intro w0 S0 trz110 hrz110 hupz110
 replace hrz47 := trz110 hrz47
 replace hrz67 := trz110 hrz67
 replace hrz88 := trz110 hrz88
 replace hrz16 := trz110 hrz16
 replace hrz21 := trz110 hrz21
 replace hrz27 := trz110 hrz27
 replace h0 := trz110 h0
 refine FJ.e (goes_list rfl) rfl (by decide) rfl (e_alloc rfl z_45 rfl rfl) ?_
 rintro _ _ ⟨g133, rfl, rfl⟩
 refine FJ.es (goes_list rfl) rfl (es_store (off := 0) (cs := [.int .i64 ((grant kn3 ⟨m10, m11, m12⟩).code), .slice Ao43 ((grant kn3 ⟨m10, m11, m12⟩).words).length co43, .slice Ao44 ((grant kn3 ⟨m10, m11, m12⟩).kern.disk.blocks).length co44, .slice Ao45 ((grant kn3 ⟨m10, m11, m12⟩).kern.disk.cache).length co45, .slice Ao46 ((grant kn3 ⟨m10, m11, m12⟩).kern.exts).length co46]) rfl sz_45 (.t .z) (.t (.s .z)) rfl (ones rfl) .z (Nat.le_of_ble_eq_true rfl) (.c .z (.c (.s .z) (.c (.s (.s .z)) (.c (.s (.s (.s .z))) (.c (.s (.s (.s (.s .z)))) .n)))))) ?_
 refine FJ.nil (FJ.then_ (FJ.seq (FJ.seq (FJ.region ?_))))
 refine FJ.ql rfl (q_fieldAddr rfl (.t .z) (fun _ => fa_45_0 _ _)) (FJ.ql rfl (q_load rfl ag_2 (.t .z) (WS.row .z rfl)) (FJ.ql rfl (q_neq rfl (.t .z) .c) (FJ.nil (FJ.then_ ?_))))
 refine FJ.condN (.t .z) (fun b134 => ?_) (fun b134 => ?_)
 refine FJ.seq ?_
 refine FJ.draw [rowA g133 45 5 1 [.int .i64 ((grant kn3 ⟨m10, m11, m12⟩).code), .slice Ao43 ((grant kn3 ⟨m10, m11, m12⟩).words).length co43, .slice Ao44 ((grant kn3 ⟨m10, m11, m12⟩).kern.disk.blocks).length co44, .slice Ao45 ((grant kn3 ⟨m10, m11, m12⟩).kern.disk.cache).length co45, .slice Ao46 ((grant kn3 ⟨m10, m11, m12⟩).kern.exts).length co46], rowA g34 43 3 1 [.slice Ao13 kn3.disk.blocks.length co13, .slice Ao14 kn3.disk.cache.length co14, .slice Ao15 kn3.exts.length co15]] 9 (by kernel_rfl) ?_
 refine FJ.sch [(0, true), (1, true), (2, true), (3, true), (6, true), (7, true), (4, false), (5, true), (8, true), (9, false)] 0 #[true, true, true, true, true, true, true, true, true, true] (by rfl) (by kernel_rfl) ?_
 refine FJ.dq rfl rfl rfl (by decide) rfl .z (q_loadA (cs := [.slice Ao13 kn3.disk.blocks.length co13, .slice Ao14 kn3.disk.cache.length co14, .slice Ao15 kn3.exts.length co15]) rfl ag_43 sz_43 (.t (.s4 (.s4 (.s4 .z)))) (WS.rows0 (.s .z) (fun i u h => by exact h))) ?_
 refine FJ.dq rfl rfl rfl (by decide) rfl .z (q_move rfl (.t (.s4 (.s4 (.s4 .z))))) (FJ.dq rfl rfl rfl (by decide) rfl .z (q_move rfl (.t (.s4 (.s4 (.s4 .z))))) (FJ.dq rfl rfl rfl (by decide) rfl .z (q_move rfl (.t (.s4 (.s4 (.s4 .z))))) (FJ.dq rfl rfl rfl (by decide) rfl .z (q_fieldAddr rfl (.t (.s4 (.s (.s (.s .z))))) (fun _ => fa_45_0 _ _)) (FJ.dq rfl rfl rfl (by decide) rfl .z (q_load rfl ag_2 (.t .z) (WS.row .z rfl)) ?_))))
 refine FJ.call (goes_sch rfl rfl) rfl (by decide) rfl (c_call rfl Try.func66 rfl rfl (args4 (.t (.s4 (.s .z))) (.t (.s4 .z)) (.t (.s (.s (.s .z)))) (.t (.s (.s .z))))) .n (fun w1 S1 hs tr => c_66 (kT_43_mk kn3 (tr.ctx hrz16) (tr.ctx hrz21) (tr.ctx hrz27)) _ _ _) ?_
 rintro _ _ ⟨v135, v137, v139, v141, rfl, rfl⟩
 refine FJ.cat (.c (.c (.c (.c .n)))) ?_
 refine FJ.know (WS.oform .z) ?_
 rintro ⟨Ao143, co143, rfl, hlo143, hmo143, hbo143⟩
 refine FJ.know (WS.oform (.s .z)) ?_
 rintro ⟨Ao144, co144, rfl, hlo144, hmo144, hbo144⟩
 refine FJ.know (WS.oform (.s (.s .z))) ?_
 rintro ⟨Ao145, co145, rfl, hlo145, hmo145, hbo145⟩
 refine FJ.know (WS.oform (.s (.s (.s .z)))) ?_
 rintro ⟨Ao146, co146, rfl, hlo146, hmo146, hbo146⟩
 refine FJ.sk (.s4 .z) ?_
 refine FJ.dq rfl rfl rfl (by decide) rfl (.s4 .z) (q_field rfl (.t .z) (fun w => fv_45_0 w (.int .i64 ((grant kn3 ⟨m10, m11, m12⟩).code)) (.slice Ao143 ((grant kn3 ⟨m10, m11, m12⟩).words).length co143) (.slice Ao144 ((grant kn3 ⟨m10, m11, m12⟩).kern.disk.blocks).length co144) (.slice Ao145 ((grant kn3 ⟨m10, m11, m12⟩).kern.disk.cache).length co145) (.slice Ao146 ((grant kn3 ⟨m10, m11, m12⟩).kern.exts).length co146))) (FJ.dq rfl rfl rfl (by decide) rfl (.s4 .z) (q_eql rfl (.t .z) (.t (.s (.s .z)))) (FJ.er (.s16 (.s4 (.s4 (.s4 (.s (.s (.s .z))))))) ?_))
 refine FJ.q (goes_sch rfl rfl) rfl (by decide) rfl (q_assign rfl (.t .z)) ?_
 refine FJ.sl rfl ?_
 refine FJ.schN ?_
 refine FJ.drawN (by kernel_rfl) ?_
 refine FJ.then_ (FJ.ret (FJ.thenR ?_))
 refine FJ.upR (fun l w h => hupz16 _ _ (hupz21 _ _ (hupz27 _ _ (hupz47 _ _ (hupz67 _ _ (hupz88 _ _ (hupz110 _ _ (h)))))))) ?_
 refine FJ.doneS (res1 rfl .z) .n ?_
 first | (focus (simp_all; done)) | (focus (obtain ⟨L0, L1, L2, L3, L4, L5, L6, L7, L8⟩ := LG (by omega); have LI := L2 i (by omega); dsimp only at LI; first | (focus (exfalso; obtain ⟨a1, a2⟩ := LI.1 (by omega); omega)) | (focus (exfalso; have a3 := LI.2 (by omega); contradiction)) | (focus (exfalso; have a3 := LI.2 (by omega); exact absurd a3 (by assumption))))) | first | exact ⟨rfl, rfl⟩ | (focus (exfalso; omega)) | (focus (exfalso; simp_all; done)) | (focus (refine ⟨congrArg Value.bool ?_, rfl⟩; simp_all; done)) | (focus (refine ⟨congrArg Value.bool ?_, rfl⟩; simp_all; omega))
 refine FJ.skip (FJ.then_ (FJ.seq (FJ.seq (FJ.region ?_))))
 refine FJ.ql rfl (q_assign rfl .c) (FJ.nil (FJ.then_ (FJ.block ?_)))
 refine FJ.loopi (γ := Nat) (fun i => [(8, .int .i64 (i : Int)), (7, .pointer (some ⟨g133, 0, none⟩)), (6, .int .i64 m12), (5, .int .i64 m11), (4, .int .i64 m10), (3, .pointer (some ⟨g34, 0, none⟩))]) (fun i => [rowA g133 45 5 1 [.int .i64 ((grant kn3 ⟨m10, m11, m12⟩).code), .slice Ao43 ((grant kn3 ⟨m10, m11, m12⟩).words).length co43, .slice Ao44 ((grant kn3 ⟨m10, m11, m12⟩).kern.disk.blocks).length co44, .slice Ao45 ((grant kn3 ⟨m10, m11, m12⟩).kern.disk.cache).length co45, .slice Ao46 ((grant kn3 ⟨m10, m11, m12⟩).kern.exts).length co46], rowA g34 43 3 1 [.slice Ao13 kn3.disk.blocks.length co13, .slice Ao14 kn3.disk.cache.length co14, .slice Ao15 kn3.exts.length co15]]) (fun i => i ≤ kn3.disk.blocks.length) (fun i => kn3.disk.blocks.length - i) 0 (Nat.zero_le _) (.c .z (.c (.s4 .z) (.c (.s4 (.s4 (.s (.s .z)))) (.c (.s4 (.s4 (.s (.s (.s .z))))) (.c (.s4 (.s4 (.s4 .z))) (.c (.s4 (.s4 (.s4 (.s .z)))) .n)))))) (fun _ h => h.sel (.c .z (.c .z .n))) ?_
 rintro i hi
 refine FJ.seq (FJ.seq (FJ.region (FJ.ql rfl (q_move rfl (.t .z)) (FJ.ql rfl (q_fieldAddr rfl (.t (.s4 (.s (.s .z)))) (fun _ => fa_43_0 _ _)) ?_))))
 refine FJ.ql rfl (q_fieldAddrA (k := 0) rfl (.t .z) (fun _ => fa_25_0 _ _) rfl) (FJ.ql rfl (q_load rfl ag_22 (.t .z) (WS.row (.s .z) rfl)) (FJ.ql rfl (q_len rfl u_22 (.t .z)) (FJ.ql rfl (q_lss rfl (.t (.s4 .z)) (.t .z)) (FJ.nil ?_))))
 refine FJ.then_ ?_
 refine FJ.condP (.t .z) (fun b147 => ?_) (fun b147 => ?_)
 refine FJ.skip (FJ.then_ (FJ.seq (FJ.block (FJ.seq ?_))))
 refine FJ.region ?_
 refine FJ.ql rfl (q_loadA (cs := [.slice Ao13 kn3.disk.blocks.length co13, .slice Ao14 kn3.disk.cache.length co14, .slice Ao15 kn3.exts.length co15]) rfl ag_43 sz_43 (.t (.s4 (.s4 (.s (.s (.s .z)))))) (WS.rows0 (.s .z) (fun i u h => by exact h))) ?_
 refine FJ.ql rfl (q_move rfl (.t (.s4 (.s (.s (.s .z)))))) ?_
 refine FJ.call (goes_list rfl) rfl (by decide) rfl (c_call rfl Try.func54 rfl rfl (args2 (.t (.s .z)) (.t .z))) .n (fun w1 S1 hs tr => c_54 (kT_43_mk kn3 (tr.ctx hrz16) (tr.ctx hrz21) (tr.ctx hrz27)) _) ?_
 rintro _ _ ⟨rfl, rfl⟩
 refine FJ.cat .n ?_
 refine FJ.e (goes_list rfl) rfl (by decide) rfl (e_alloc rfl z_76 rfl rfl) ?_
 rintro _ _ ⟨g148, rfl, rfl⟩
 refine FJ.es (goes_list rfl) rfl (es_store (off := 0) (cs := [.int .i64 ((ownerOf kn3 (i : Int)).code), .int .i64 ((ownerOf kn3 (i : Int)).val)]) rfl sz_76 (.t .z) (.t (.s .z)) rfl (ones rfl) .z (Nat.le_of_ble_eq_true rfl) (.c .z (.c (.s .z) .n))) ?_
 refine FJ.nil (FJ.then_ (FJ.seq (FJ.region (FJ.ql rfl (q_fieldAddr rfl (.t (.s4 (.s4 (.s (.s (.s .z)))))) (fun _ => fa_45_2 _ _)) ?_))))
 refine FJ.ql rfl (q_loadA (cs := [.slice Ao44 ((grant kn3 ⟨m10, m11, m12⟩).kern.disk.blocks).length co44, .slice Ao45 ((grant kn3 ⟨m10, m11, m12⟩).kern.disk.cache).length co45, .slice Ao46 ((grant kn3 ⟨m10, m11, m12⟩).kern.exts).length co46]) rfl ag_43 sz_43 (.t .z) (WS.rows (.s .z) (sub_at rfl))) (FJ.ql rfl (q_move rfl (.t (.s4 (.s4 (.s4 .z))))) ?_)
 refine FJ.call (goes_list rfl) rfl (by decide) rfl (c_call rfl Try.func54 rfl rfl (args2 (.t (.s .z)) (.t .z))) .n (fun w1 S1 hs tr => c_54 (kT_43_mk ((grant kn3 ⟨m10, m11, m12⟩).kern) (tr.ctx hrz67) (tr.ctx hrz88) (tr.ctx hrz110)) _) ?_
 rintro _ _ ⟨rfl, rfl⟩
 refine FJ.cat .n ?_
 refine FJ.e (goes_list rfl) rfl (by decide) rfl (e_alloc rfl z_76 rfl rfl) ?_
 rintro _ _ ⟨g149, rfl, rfl⟩
 refine FJ.es (goes_list rfl) rfl (es_store (off := 0) (cs := [.int .i64 ((ownerOf ((grant kn3 ⟨m10, m11, m12⟩).kern) (i : Int)).code), .int .i64 ((ownerOf ((grant kn3 ⟨m10, m11, m12⟩).kern) (i : Int)).val)]) rfl sz_76 (.t .z) (.t (.s .z)) rfl (ones rfl) .z (Nat.le_of_ble_eq_true rfl) (.c .z (.c (.s .z) .n))) ?_
 refine FJ.nil (FJ.then_ (FJ.seq (FJ.region (FJ.ql rfl (q_move rfl (.t (.s4 (.s4 (.s4 (.s (.s (.s .z)))))))) ?_))))
 refine FJ.ql rfl (q_move rfl (.t (.s16 (.s4 .z)))) (FJ.ql rfl (q_geq rfl (.t (.s .z)) (.t .z)) (FJ.ql rfl (q_move rfl (.t .z)) ?_))
 refine FJ.caseP .z (fun g150 => ?_) (fun g150 => ?_)
 refine FJ.q (goes_listg rfl rfl .z) rfl (by decide) rfl (q_move rfl (.t (.s16 (.s (.s (.s .z)))))) ?_
 refine FJ.q (goes_listg rfl rfl (.s .z)) rfl (by decide) rfl (q_move rfl (.t (.s16 (.s4 (.s4 .z))))) ?_
 refine FJ.q (goes_listg rfl rfl (.s (.s .z))) rfl (by decide) rfl (q_move rfl (.t (.s16 (.s4 (.s4 .z))))) ?_
 refine FJ.q (goes_listg rfl rfl (.s (.s (.s .z)))) rfl (by decide) rfl (q_add (c := m10 + m11) rfl (.t (.s .z)) (.t .z) (wr (by omega) (by omega) (by omega))) ?_
 refine FJ.q (goes_listg rfl rfl (.s4 .z)) rfl (by decide) rfl (q_lss rfl (.t (.s (.s (.s .z)))) (.t .z)) ?_
 refine FJ.ql rfl (q_pickT rfl (.t (.s4 (.s .z))) (.t .z)) (FJ.ql rfl (q_assign rfl (.t .z)) (FJ.nil (FJ.then_ (FJ.seq ?_))))
 refine FJ.region (FJ.ql rfl (q_move rfl (.t .z)) (FJ.ql rfl (q_move rfl (.t .z)) ?_))
 refine FJ.caseP .z (fun g151 => ?_) (fun g151 => ?_)
 refine FJ.q (goes_listg rfl rfl .z) rfl (by decide) rfl (q_fieldAddr rfl (.t (.s16 (.s (.s .z)))) (fun _ => fa_76_0 _ _)) ?_
 refine FJ.q (goes_listg rfl rfl (.s .z)) rfl (by decide) rfl (q_load rfl ag_2 (.t .z) (WS.row (.s .z) rfl)) ?_
 refine FJ.q (goes_listg rfl rfl (.s (.s .z))) rfl (by decide) rfl (q_neq rfl (.t .z) .c) ?_
 refine FJ.q (goes_listg rfl rfl (.s (.s (.s .z)))) rfl (by decide) rfl (q_move rfl (.t .z)) ?_
 refine FJ.caseN .z (fun g152 => ?_) (fun g152 => ?_)
 refine FJ.skipl rfl rfl .z rfl rfl (by decide) rfl ?_
 refine FJ.skipl rfl rfl (.s .z) rfl rfl (by decide) rfl ?_
 refine FJ.skipl rfl rfl (.s (.s .z)) rfl rfl (by decide) rfl ?_
 refine FJ.skipl rfl rfl (.s (.s (.s .z))) rfl rfl (by decide) rfl ?_
 refine FJ.q (goes_listg rfl rfl (.s4 (.s4 .z))) rfl (by decide) rfl (q_pickT rfl (.t (.s4 .z)) .c) ?_
 refine FJ.ql rfl (q_pickT rfl (.t (.s4 (.s4 (.s .z)))) (.t .z)) (FJ.ql rfl (q_move rfl (.t .z)) ?_)
 refine FJ.skipl rfl rfl .z rfl rfl (by decide) rfl ?_
 refine FJ.skipl rfl rfl (.s .z) rfl rfl (by decide) rfl ?_
 refine FJ.skipl rfl rfl (.s (.s .z)) rfl rfl (by decide) rfl ?_
 refine FJ.skipl rfl rfl .z rfl rfl (by decide) rfl ?_
 refine FJ.skipl rfl rfl (.s .z) rfl rfl (by decide) rfl ?_
 refine FJ.skipl rfl rfl (.s (.s .z)) rfl rfl (by decide) rfl ?_
 refine FJ.skipl rfl rfl (.s4 (.s (.s .z))) rfl rfl (by decide) rfl ?_
 refine FJ.ql rfl (q_pickT rfl (.t (.s4 (.s (.s (.s .z))))) .c) (FJ.nil (FJ.then_ ?_))
 refine FJ.condT (.t .z) ?_
 refine FJ.seq (FJ.region (FJ.ql rfl (q_assign rfl .c) (FJ.nil (FJ.then_ ?_))))
 refine FJ.ret (FJ.inBR (FJ.thenR (FJ.thenR (FJ.inBR ?_))))
 refine FJ.thenR ?_
 refine FJ.upR (fun l w h => hupz16 _ _ (hupz21 _ _ (hupz27 _ _ (hupz47 _ _ (hupz67 _ _ (hupz88 _ _ (hupz110 _ _ (h)))))))) ?_
 refine FJ.doneS (res1 rfl .z) .n ?_
 first | (focus (simp_all; done)) | (focus (obtain ⟨L0, L1, L2, L3, L4, L5, L6, L7, L8⟩ := LG (by omega); have LI := L2 i (by omega); dsimp only at LI; first | (focus (exfalso; obtain ⟨a1, a2⟩ := LI.1 (by omega); omega)) | (focus (exfalso; have a3 := LI.2 (by omega); contradiction)) | (focus (exfalso; have a3 := LI.2 (by omega); exact absurd a3 (by assumption))))) | first | exact ⟨rfl, rfl⟩ | (focus (exfalso; omega)) | (focus (exfalso; simp_all; done)) | (focus (refine ⟨congrArg Value.bool ?_, rfl⟩; simp_all; done)) | (focus (refine ⟨congrArg Value.bool ?_, rfl⟩; simp_all; omega))
 refine FJ.q (goes_listg rfl rfl .z) rfl (by decide) rfl (q_fieldAddr rfl (.t (.s16 (.s .z))) (fun _ => fa_76_1 _ _)) ?_
 refine FJ.q (goes_listg rfl rfl (.s .z)) rfl (by decide) rfl (q_load rfl ag_2 (.t .z) (WS.row .z rfl)) ?_
 refine FJ.q (goes_listg rfl rfl (.s (.s .z))) rfl (by decide) rfl (q_move rfl (.t (.s16 (.s16 (.s4 .z))))) ?_
 refine FJ.q (goes_listg rfl rfl (.s (.s (.s .z)))) rfl (by decide) rfl (q_neq rfl (.t (.s .z)) (.t .z)) ?_
 refine FJ.q (goes_listg rfl rfl (.s4 (.s4 .z))) rfl (by decide) rfl (q_pickF rfl (.t (.s4 .z)) (.t .z)) ?_
 refine FJ.ql rfl (q_pickT rfl (.t (.s4 (.s4 (.s .z)))) (.t .z)) (FJ.ql rfl (q_move rfl (.t .z)) ?_)
 refine FJ.caseN .z (fun g153 => ?_) (fun g153 => ?_)
 refine FJ.skipl rfl rfl .z rfl rfl (by decide) rfl ?_
 refine FJ.skipl rfl rfl (.s .z) rfl rfl (by decide) rfl ?_
 refine FJ.skipl rfl rfl (.s (.s .z)) rfl rfl (by decide) rfl ?_
 refine FJ.skipl rfl rfl .z rfl rfl (by decide) rfl ?_
 refine FJ.skipl rfl rfl (.s .z) rfl rfl (by decide) rfl ?_
 refine FJ.skipl rfl rfl (.s (.s .z)) rfl rfl (by decide) rfl ?_
 refine FJ.skipl rfl rfl (.s4 (.s (.s .z))) rfl rfl (by decide) rfl ?_
 refine FJ.ql rfl (q_pickT rfl (.t (.s4 (.s (.s (.s .z))))) .c) (FJ.nil (FJ.then_ ?_))
 refine FJ.condT (.t .z) ?_
 refine FJ.seq (FJ.region (FJ.ql rfl (q_assign rfl .c) (FJ.nil (FJ.then_ ?_))))
 refine FJ.ret (FJ.inBR (FJ.thenR (FJ.thenR (FJ.inBR ?_))))
 refine FJ.thenR ?_
 refine FJ.upR (fun l w h => hupz16 _ _ (hupz21 _ _ (hupz27 _ _ (hupz47 _ _ (hupz67 _ _ (hupz88 _ _ (hupz110 _ _ (h)))))))) ?_
 refine FJ.doneS (res1 rfl .z) .n ?_
 first | (focus (simp_all; done)) | (focus (obtain ⟨L0, L1, L2, L3, L4, L5, L6, L7, L8⟩ := LG (by omega); have LI := L2 i (by omega); dsimp only at LI; first | (focus (exfalso; obtain ⟨a1, a2⟩ := LI.1 (by omega); omega)) | (focus (exfalso; have a3 := LI.2 (by omega); contradiction)) | (focus (exfalso; have a3 := LI.2 (by omega); exact absurd a3 (by assumption))))) | first | exact ⟨rfl, rfl⟩ | (focus (exfalso; omega)) | (focus (exfalso; simp_all; done)) | (focus (refine ⟨congrArg Value.bool ?_, rfl⟩; simp_all; done)) | (focus (refine ⟨congrArg Value.bool ?_, rfl⟩; simp_all; omega))
 refine FJ.q (goes_listg rfl rfl .z) rfl (by decide) rfl (q_move rfl (.t (.s4 (.s4 (.s4 (.s .z)))))) ?_
 refine FJ.q (goes_listg rfl rfl (.s .z)) rfl (by decide) rfl (q_not rfl (.t .z)) ?_
 refine FJ.q (goes_listg rfl rfl (.s (.s .z))) rfl (by decide) rfl (q_move rfl (.t .z)) ?_
 refine FJ.caseN .z (fun g154 => ?_) (fun g154 => ?_)
 refine FJ.q (goes_listg rfl rfl .z) rfl (by decide) rfl (q_loadA (cs := [.int .i64 ((ownerOf kn3 (i : Int)).code), .int .i64 ((ownerOf kn3 (i : Int)).val)]) rfl ag_76 sz_76 (.t (.s16 (.s16 .z))) (WS.rows0 (.s .z) (fun i u h => by exact h))) ?_
 refine FJ.q (goes_listg rfl rfl (.s .z)) rfl (by decide) rfl (q_loadA (cs := [.int .i64 ((ownerOf ((grant kn3 ⟨m10, m11, m12⟩).kern) (i : Int)).code), .int .i64 ((ownerOf ((grant kn3 ⟨m10, m11, m12⟩).kern) (i : Int)).val)]) rfl ag_76 sz_76 (.t (.s16 (.s4 (.s4 (.s4 .z))))) (WS.rows0 .z (fun i u h => by exact h))) ?_
 refine FJ.q (goes_listg rfl rfl (.s (.s .z))) rfl (by decide) rfl (q_entneq rfl (ent_eq_76 (ownerOf kn3 (i : Int)) (ownerOf ((grant kn3 ⟨m10, m11, m12⟩).kern) (i : Int))) ent_gd_76 (.t (.s .z)) (.t .z)) ?_
 refine FJ.q (goes_listg rfl rfl (.s4 (.s (.s .z)))) rfl (by decide) rfl (q_pickT rfl (.t (.s (.s (.s .z)))) (.t .z)) ?_
 refine FJ.ql rfl (q_pickF rfl (.t (.s4 (.s (.s (.s .z))))) (.t .z)) (FJ.nil (FJ.then_ ?_))
 refine FJ.condN (.t .z) (fun b155 => ?_) (fun b155 => ?_)
 refine FJ.seq (FJ.region (FJ.ql rfl (q_assign rfl .c) (FJ.nil (FJ.then_ ?_))))
 refine FJ.ret (FJ.inBR (FJ.thenR (FJ.thenR (FJ.inBR ?_))))
 refine FJ.thenR ?_
 refine FJ.upR (fun l w h => hupz16 _ _ (hupz21 _ _ (hupz27 _ _ (hupz47 _ _ (hupz67 _ _ (hupz88 _ _ (hupz110 _ _ (h)))))))) ?_
 refine FJ.doneS (res1 rfl .z) .n ?_
 first | (focus (simp_all; done)) | (focus (obtain ⟨L0, L1, L2, L3, L4, L5, L6, L7, L8⟩ := LG (by omega); have LI := L2 i (by omega); dsimp only at LI; first | (focus (exfalso; obtain ⟨a1, a2⟩ := LI.1 (by omega); omega)) | (focus (exfalso; have a3 := LI.2 (by omega); contradiction)) | (focus (exfalso; have a3 := LI.2 (by omega); exact absurd a3 (by assumption))))) | first | exact ⟨rfl, rfl⟩ | (focus (exfalso; omega)) | (focus (exfalso; simp_all; done)) | (focus (refine ⟨congrArg Value.bool ?_, rfl⟩; simp_all; done)) | (focus (refine ⟨congrArg Value.bool ?_, rfl⟩; simp_all; omega))
 refine FJ.skip (FJ.inBN (FJ.then_ (FJ.region (FJ.ql rfl (q_move rfl (.t (.s16 (.s16 (.s4 (.s4 (.s4 (.s (.s (.s .z)))))))))) ?_))))
 refine FJ.ql rfl (q_add (c := ((i + 1 : Nat) : Int)) rfl (.t .z) .c (wr (by omega) (by omega) (by omega))) ?_
 refine FJ.er (.s16 (.s16 (.s16 (.s .z)))) (FJ.ql rfl (q_assign rfl (.t .z)) (FJ.nil ?_))
 refine FJ.again (i + 1) (by omega) (by first | omega | (dsimp only; omega)) (.c .z (.c (.s16 (.s16 (.s16 (.s (.s .z))))) (.c (.s16 (.s16 (.s16 (.s (.s (.s .z)))))) (.c (.s16 (.s16 (.s16 (.s4 .z)))) (.c (.s16 (.s16 (.s16 (.s4 (.s .z))))) (.c (.s16 (.s16 (.s16 (.s4 (.s (.s .z)))))) .n)))))) (fun _ h => h.sel (.c (.s (.s .z)) (.c (.s (.s .z)) .n)))
 refine FJ.skipl rfl rfl .z rfl rfl (by decide) rfl ?_
 refine FJ.skipl rfl rfl (.s .z) rfl rfl (by decide) rfl ?_
 refine FJ.skipl rfl rfl (.s (.s .z)) rfl rfl (by decide) rfl ?_
 refine FJ.q (goes_listg rfl rfl (.s4 (.s (.s .z)))) rfl (by decide) rfl (q_pickF rfl (.t (.s (.s (.s .z)))) .c) ?_
 refine FJ.ql rfl (q_pickF rfl (.t (.s4 (.s (.s (.s .z))))) (.t .z)) (FJ.nil (FJ.then_ ?_))
 refine FJ.condF (.t .z) ?_
 refine FJ.skip (FJ.inBN (FJ.then_ (FJ.region (FJ.ql rfl (q_move rfl (.t (.s16 (.s16 (.s4 (.s4 (.s4 (.s (.s (.s .z)))))))))) ?_))))
 refine FJ.ql rfl (q_add (c := ((i + 1 : Nat) : Int)) rfl (.t .z) .c (wr (by omega) (by omega) (by omega))) ?_
 refine FJ.er (.s16 (.s16 (.s16 (.s .z)))) (FJ.ql rfl (q_assign rfl (.t .z)) (FJ.nil ?_))
 refine FJ.again (i + 1) (by omega) (by first | omega | (dsimp only; omega)) (.c .z (.c (.s16 (.s16 (.s16 (.s (.s .z))))) (.c (.s16 (.s16 (.s16 (.s (.s (.s .z)))))) (.c (.s16 (.s16 (.s16 (.s4 .z)))) (.c (.s16 (.s16 (.s16 (.s4 (.s .z))))) (.c (.s16 (.s16 (.s16 (.s4 (.s (.s .z)))))) .n)))))) (fun _ h => h.sel (.c (.s (.s .z)) (.c (.s (.s .z)) .n)))
 refine FJ.skipl rfl rfl .z rfl rfl (by decide) rfl ?_
 refine FJ.skipl rfl rfl (.s .z) rfl rfl (by decide) rfl ?_
 refine FJ.skipl rfl rfl (.s (.s .z)) rfl rfl (by decide) rfl ?_
 refine FJ.skipl rfl rfl (.s (.s (.s .z))) rfl rfl (by decide) rfl ?_
 refine FJ.skipl rfl rfl .z rfl rfl (by decide) rfl ?_
 refine FJ.skipl rfl rfl (.s .z) rfl rfl (by decide) rfl ?_
 refine FJ.skipl rfl rfl (.s (.s .z)) rfl rfl (by decide) rfl ?_
 refine FJ.skipl rfl rfl (.s (.s (.s .z))) rfl rfl (by decide) rfl ?_
 refine FJ.skipl rfl rfl (.s4 (.s4 .z)) rfl rfl (by decide) rfl ?_
 refine FJ.ql rfl (q_pickF rfl (.t (.s4 (.s4 (.s .z)))) .c) (FJ.ql rfl (q_move rfl (.t .z)) ?_)
 refine FJ.q (goes_listg rfl rfl .z) rfl (by decide) rfl (q_move rfl (.t (.s4 (.s4 (.s4 (.s .z)))))) ?_
 refine FJ.q (goes_listg rfl rfl (.s .z)) rfl (by decide) rfl (q_not rfl (.t .z)) ?_
 refine FJ.q (goes_listg rfl rfl (.s (.s .z))) rfl (by decide) rfl (q_move rfl (.t .z)) ?_
 refine FJ.caseN .z (fun g156 => ?_) (fun g156 => ?_)
 refine FJ.q (goes_listg rfl rfl .z) rfl (by decide) rfl (q_loadA (cs := [.int .i64 ((ownerOf kn3 (i : Int)).code), .int .i64 ((ownerOf kn3 (i : Int)).val)]) rfl ag_76 sz_76 (.t (.s16 (.s16 .z))) (WS.rows0 (.s .z) (fun i u h => by exact h))) ?_
 refine FJ.q (goes_listg rfl rfl (.s .z)) rfl (by decide) rfl (q_loadA (cs := [.int .i64 ((ownerOf ((grant kn3 ⟨m10, m11, m12⟩).kern) (i : Int)).code), .int .i64 ((ownerOf ((grant kn3 ⟨m10, m11, m12⟩).kern) (i : Int)).val)]) rfl ag_76 sz_76 (.t (.s16 (.s4 (.s4 (.s4 .z))))) (WS.rows0 .z (fun i u h => by exact h))) ?_
 refine FJ.q (goes_listg rfl rfl (.s (.s .z))) rfl (by decide) rfl (q_entneq rfl (ent_eq_76 (ownerOf kn3 (i : Int)) (ownerOf ((grant kn3 ⟨m10, m11, m12⟩).kern) (i : Int))) ent_gd_76 (.t (.s .z)) (.t .z)) ?_
 refine FJ.q (goes_listg rfl rfl (.s4 (.s (.s .z)))) rfl (by decide) rfl (q_pickT rfl (.t (.s (.s (.s .z)))) (.t .z)) ?_
 refine FJ.ql rfl (q_pickF rfl (.t (.s4 (.s (.s (.s .z))))) (.t .z)) (FJ.nil (FJ.then_ ?_))
 refine FJ.condN (.t .z) (fun b157 => ?_) (fun b157 => ?_)
 refine FJ.seq (FJ.region (FJ.ql rfl (q_assign rfl .c) (FJ.nil (FJ.then_ ?_))))
 refine FJ.ret (FJ.inBR (FJ.thenR (FJ.thenR (FJ.inBR ?_))))
 refine FJ.thenR ?_
 refine FJ.upR (fun l w h => hupz16 _ _ (hupz21 _ _ (hupz27 _ _ (hupz47 _ _ (hupz67 _ _ (hupz88 _ _ (hupz110 _ _ (h)))))))) ?_
 refine FJ.doneS (res1 rfl .z) .n ?_
 first | (focus (simp_all; done)) | (focus (obtain ⟨L0, L1, L2, L3, L4, L5, L6, L7, L8⟩ := LG (by omega); have LI := L2 i (by omega); dsimp only at LI; first | (focus (exfalso; obtain ⟨a1, a2⟩ := LI.1 (by omega); omega)) | (focus (exfalso; have a3 := LI.2 (by omega); contradiction)) | (focus (exfalso; have a3 := LI.2 (by omega); exact absurd a3 (by assumption))))) | first | exact ⟨rfl, rfl⟩ | (focus (exfalso; omega)) | (focus (exfalso; simp_all; done)) | (focus (refine ⟨congrArg Value.bool ?_, rfl⟩; simp_all; done)) | (focus (refine ⟨congrArg Value.bool ?_, rfl⟩; simp_all; omega))
 refine FJ.skip (FJ.inBN (FJ.then_ (FJ.region (FJ.ql rfl (q_move rfl (.t (.s16 (.s16 (.s4 (.s4 (.s4 (.s (.s (.s .z)))))))))) ?_))))
 refine FJ.ql rfl (q_add (c := ((i + 1 : Nat) : Int)) rfl (.t .z) .c (wr (by omega) (by omega) (by omega))) ?_
 refine FJ.er (.s16 (.s16 (.s16 (.s .z)))) (FJ.ql rfl (q_assign rfl (.t .z)) (FJ.nil ?_))
 refine FJ.again (i + 1) (by omega) (by first | omega | (dsimp only; omega)) (.c .z (.c (.s16 (.s16 (.s16 (.s (.s .z))))) (.c (.s16 (.s16 (.s16 (.s (.s (.s .z)))))) (.c (.s16 (.s16 (.s16 (.s4 .z)))) (.c (.s16 (.s16 (.s16 (.s4 (.s .z))))) (.c (.s16 (.s16 (.s16 (.s4 (.s (.s .z)))))) .n)))))) (fun _ h => h.sel (.c (.s (.s .z)) (.c (.s (.s .z)) .n)))
 refine FJ.skipl rfl rfl .z rfl rfl (by decide) rfl ?_
 refine FJ.skipl rfl rfl (.s .z) rfl rfl (by decide) rfl ?_
 refine FJ.skipl rfl rfl (.s (.s .z)) rfl rfl (by decide) rfl ?_
 refine FJ.q (goes_listg rfl rfl (.s4 (.s (.s .z)))) rfl (by decide) rfl (q_pickF rfl (.t (.s (.s (.s .z)))) .c) ?_
 refine FJ.ql rfl (q_pickF rfl (.t (.s4 (.s (.s (.s .z))))) (.t .z)) (FJ.nil (FJ.then_ ?_))
 refine FJ.condF (.t .z) ?_
 refine FJ.skip (FJ.inBN (FJ.then_ (FJ.region (FJ.ql rfl (q_move rfl (.t (.s16 (.s16 (.s4 (.s4 (.s4 (.s (.s (.s .z)))))))))) ?_))))
 refine FJ.ql rfl (q_add (c := ((i + 1 : Nat) : Int)) rfl (.t .z) .c (wr (by omega) (by omega) (by omega))) ?_
 refine FJ.er (.s16 (.s16 (.s16 (.s .z)))) (FJ.ql rfl (q_assign rfl (.t .z)) (FJ.nil ?_))
 refine FJ.again (i + 1) (by omega) (by first | omega | (dsimp only; omega)) (.c .z (.c (.s16 (.s16 (.s16 (.s (.s .z))))) (.c (.s16 (.s16 (.s16 (.s (.s (.s .z)))))) (.c (.s16 (.s16 (.s16 (.s4 .z)))) (.c (.s16 (.s16 (.s16 (.s4 (.s .z))))) (.c (.s16 (.s16 (.s16 (.s4 (.s (.s .z)))))) .n)))))) (fun _ h => h.sel (.c (.s (.s .z)) (.c (.s (.s .z)) .n)))
 refine FJ.skipl rfl rfl .z rfl rfl (by decide) rfl ?_
 refine FJ.skipl rfl rfl (.s .z) rfl rfl (by decide) rfl ?_
 refine FJ.skipl rfl rfl (.s (.s .z)) rfl rfl (by decide) rfl ?_
 refine FJ.skipl rfl rfl (.s (.s (.s .z))) rfl rfl (by decide) rfl ?_
 refine FJ.skipl rfl rfl (.s4 .z) rfl rfl (by decide) rfl ?_
 refine FJ.ql rfl (q_pickF rfl (.t (.s4 (.s .z))) .c) (FJ.ql rfl (q_assign rfl (.t .z)) (FJ.nil (FJ.then_ (FJ.seq ?_))))
 refine FJ.region (FJ.ql rfl (q_move rfl (.t .z)) (FJ.ql rfl (q_move rfl (.t .z)) ?_))
 refine FJ.skipl rfl rfl .z rfl rfl (by decide) rfl ?_
 refine FJ.skipl rfl rfl (.s .z) rfl rfl (by decide) rfl ?_
 refine FJ.skipl rfl rfl (.s (.s .z)) rfl rfl (by decide) rfl ?_
 refine FJ.skipl rfl rfl (.s (.s (.s .z))) rfl rfl (by decide) rfl ?_
 refine FJ.skipl rfl rfl .z rfl rfl (by decide) rfl ?_
 refine FJ.skipl rfl rfl (.s .z) rfl rfl (by decide) rfl ?_
 refine FJ.skipl rfl rfl (.s (.s .z)) rfl rfl (by decide) rfl ?_
 refine FJ.skipl rfl rfl (.s (.s (.s .z))) rfl rfl (by decide) rfl ?_
 refine FJ.skipl rfl rfl (.s4 (.s4 .z)) rfl rfl (by decide) rfl ?_
 refine FJ.ql rfl (q_pickF rfl (.t (.s4 (.s4 (.s .z)))) .c) (FJ.ql rfl (q_move rfl (.t .z)) ?_)
 refine FJ.q (goes_listg rfl rfl .z) rfl (by decide) rfl (q_move rfl (.t (.s4 (.s4 (.s4 (.s .z)))))) ?_
 refine FJ.q (goes_listg rfl rfl (.s .z)) rfl (by decide) rfl (q_not rfl (.t .z)) ?_
 refine FJ.q (goes_listg rfl rfl (.s (.s .z))) rfl (by decide) rfl (q_move rfl (.t .z)) ?_
 refine FJ.q (goes_listg rfl rfl .z) rfl (by decide) rfl (q_loadA (cs := [.int .i64 ((ownerOf kn3 (i : Int)).code), .int .i64 ((ownerOf kn3 (i : Int)).val)]) rfl ag_76 sz_76 (.t (.s16 (.s16 .z))) (WS.rows0 (.s .z) (fun i u h => by exact h))) ?_
 refine FJ.q (goes_listg rfl rfl (.s .z)) rfl (by decide) rfl (q_loadA (cs := [.int .i64 ((ownerOf ((grant kn3 ⟨m10, m11, m12⟩).kern) (i : Int)).code), .int .i64 ((ownerOf ((grant kn3 ⟨m10, m11, m12⟩).kern) (i : Int)).val)]) rfl ag_76 sz_76 (.t (.s16 (.s4 (.s4 (.s4 .z))))) (WS.rows0 .z (fun i u h => by exact h))) ?_
 refine FJ.q (goes_listg rfl rfl (.s (.s .z))) rfl (by decide) rfl (q_entneq rfl (ent_eq_76 (ownerOf kn3 (i : Int)) (ownerOf ((grant kn3 ⟨m10, m11, m12⟩).kern) (i : Int))) ent_gd_76 (.t (.s .z)) (.t .z)) ?_
 refine FJ.q (goes_listg rfl rfl (.s4 (.s (.s .z)))) rfl (by decide) rfl (q_pickT rfl (.t (.s (.s (.s .z)))) (.t .z)) ?_
 refine FJ.ql rfl (q_pickF rfl (.t (.s4 (.s (.s (.s .z))))) (.t .z)) (FJ.nil (FJ.then_ ?_))
 refine FJ.condN (.t .z) (fun b158 => ?_) (fun b158 => ?_)
 refine FJ.seq (FJ.region (FJ.ql rfl (q_assign rfl .c) (FJ.nil (FJ.then_ ?_))))
 refine FJ.ret (FJ.inBR (FJ.thenR (FJ.thenR (FJ.inBR ?_))))
 refine FJ.thenR ?_
 refine FJ.upR (fun l w h => hupz16 _ _ (hupz21 _ _ (hupz27 _ _ (hupz47 _ _ (hupz67 _ _ (hupz88 _ _ (hupz110 _ _ (h)))))))) ?_
 refine FJ.doneS (res1 rfl .z) .n ?_
 first | (focus (simp_all; done)) | (focus (obtain ⟨L0, L1, L2, L3, L4, L5, L6, L7, L8⟩ := LG (by omega); have LI := L2 i (by omega); dsimp only at LI; first | (focus (exfalso; obtain ⟨a1, a2⟩ := LI.1 (by omega); omega)) | (focus (exfalso; have a3 := LI.2 (by omega); contradiction)) | (focus (exfalso; have a3 := LI.2 (by omega); exact absurd a3 (by assumption))))) | first | exact ⟨rfl, rfl⟩ | (focus (exfalso; omega)) | (focus (exfalso; simp_all; done)) | (focus (refine ⟨congrArg Value.bool ?_, rfl⟩; simp_all; done)) | (focus (refine ⟨congrArg Value.bool ?_, rfl⟩; simp_all; omega))
 refine FJ.skip (FJ.inBN (FJ.then_ (FJ.region (FJ.ql rfl (q_move rfl (.t (.s16 (.s16 (.s4 (.s4 (.s4 (.s (.s (.s .z)))))))))) ?_))))
 refine FJ.ql rfl (q_add (c := ((i + 1 : Nat) : Int)) rfl (.t .z) .c (wr (by omega) (by omega) (by omega))) ?_
 refine FJ.er (.s16 (.s16 (.s16 (.s .z)))) (FJ.ql rfl (q_assign rfl (.t .z)) (FJ.nil ?_))
 refine FJ.again (i + 1) (by omega) (by first | omega | (dsimp only; omega)) (.c .z (.c (.s16 (.s16 (.s16 (.s (.s .z))))) (.c (.s16 (.s16 (.s16 (.s (.s (.s .z)))))) (.c (.s16 (.s16 (.s16 (.s4 .z)))) (.c (.s16 (.s16 (.s16 (.s4 (.s .z))))) (.c (.s16 (.s16 (.s16 (.s4 (.s (.s .z)))))) .n)))))) (fun _ h => h.sel (.c (.s (.s .z)) (.c (.s (.s .z)) .n)))
 refine FJ.exit (FJ.thenE (FJ.thenE (FJ.inB (FJ.then_ ?_))))
 refine FJ.seq (FJ.region (FJ.ql rfl (q_fieldAddr rfl (.t (.s4 (.s (.s (.s .z))))) (fun _ => fa_45_2 _ _)) (FJ.ql rfl (q_loadA (cs := [.slice Ao44 ((grant kn3 ⟨m10, m11, m12⟩).kern.disk.blocks).length co44, .slice Ao45 ((grant kn3 ⟨m10, m11, m12⟩).kern.disk.cache).length co45, .slice Ao46 ((grant kn3 ⟨m10, m11, m12⟩).kern.exts).length co46]) rfl ag_43 sz_43 (.t .z) (WS.rows .z (sub_at rfl))) (FJ.ql rfl (q_move rfl (.t (.s4 (.s4 (.s4 .z))))) ?_))))
 refine FJ.ql rfl (q_move rfl (.t (.s4 (.s4 (.s (.s (.s .z))))))) ?_
 refine FJ.call (goes_list rfl) rfl (by decide) rfl (c_call rfl Try.func67 rfl rfl (args3 (.t (.s (.s .z))) (.t (.s .z)) (.t .z))) .n (fun w1 S1 hs tr => c_67 (kT_43_mk ((grant kn3 ⟨m10, m11, m12⟩).kern) (tr.ctx hrz67) (tr.ctx hrz88) (tr.ctx hrz110)) _ _) ?_
 rintro _ _ ⟨v159, v161, v163, v165, rfl, rfl⟩
 refine FJ.cat (.c (.c (.c (.c .n)))) ?_
 refine FJ.know (WS.oform .z) ?_
 rintro ⟨Ao167, co167, rfl, hlo167, hmo167, hbo167⟩
 refine FJ.know (WS.oform (.s .z)) ?_
 rintro ⟨Ao168, co168, rfl, hlo168, hmo168, hbo168⟩
 refine FJ.know (WS.oform (.s (.s .z))) ?_
 rintro ⟨Ao169, co169, rfl, hlo169, hmo169, hbo169⟩
 refine FJ.know (WS.oform (.s (.s (.s .z)))) ?_
 rintro ⟨Ao170, co170, rfl, hlo170, hmo170, hbo170⟩
 refine FJ.e (goes_list rfl) rfl (by decide) rfl (e_alloc rfl z_45 rfl rfl) ?_
 rintro _ _ ⟨g171, rfl, rfl⟩
 refine FJ.es (goes_list rfl) rfl (es_store (off := 0) (cs := [.int .i64 ((revoke ((grant kn3 ⟨m10, m11, m12⟩).kern) m10 m12).code), .slice Ao167 ((revoke ((grant kn3 ⟨m10, m11, m12⟩).kern) m10 m12).words).length co167, .slice Ao168 ((revoke ((grant kn3 ⟨m10, m11, m12⟩).kern) m10 m12).kern.disk.blocks).length co168, .slice Ao169 ((revoke ((grant kn3 ⟨m10, m11, m12⟩).kern) m10 m12).kern.disk.cache).length co169, .slice Ao170 ((revoke ((grant kn3 ⟨m10, m11, m12⟩).kern) m10 m12).kern.exts).length co170]) rfl sz_45 (.t .z) (.t (.s .z)) rfl (ones rfl) .z (Nat.le_of_ble_eq_true rfl) (.c .z (.c (.s .z) (.c (.s (.s .z)) (.c (.s (.s (.s .z))) (.c (.s (.s (.s (.s .z)))) .n)))))) ?_
 refine FJ.nil (FJ.then_ (FJ.seq (FJ.region (FJ.ql rfl (q_fieldAddr rfl (.t (.s4 (.s4 (.s4 (.s .z))))) (fun _ => fa_45_2 _ _)) ?_))))
 refine FJ.ql rfl (q_loadA (cs := [.slice Ao44 ((grant kn3 ⟨m10, m11, m12⟩).kern.disk.blocks).length co44, .slice Ao45 ((grant kn3 ⟨m10, m11, m12⟩).kern.disk.cache).length co45, .slice Ao46 ((grant kn3 ⟨m10, m11, m12⟩).kern.exts).length co46]) rfl ag_43 sz_43 (.t .z) (WS.rows (.s4 (.s .z)) (sub_at rfl))) (FJ.ql rfl (q_move rfl (.t (.s16 (.s (.s .z))))) (FJ.ql rfl (q_move rfl (.t (.s16 (.s .z)))) ?_))
 refine FJ.ql rfl (q_add (c := m12 + 1) rfl (.t .z) .c (wr (by omega) (by omega) (by omega))) ?_
 refine FJ.call (goes_list rfl) rfl (by decide) rfl (c_call rfl Try.func67 rfl rfl (args3 (.t (.s (.s (.s .z)))) (.t (.s (.s .z))) (.t .z))) .n (fun w1 S1 hs tr => c_67 (kT_43_mk ((grant kn3 ⟨m10, m11, m12⟩).kern) (tr.ctx hrz67) (tr.ctx hrz88) (tr.ctx hrz110)) _ _) ?_
 rintro _ _ ⟨v172, v174, v176, v178, rfl, rfl⟩
 refine FJ.cat (.c (.c (.c (.c .n)))) ?_
 refine FJ.know (WS.oform .z) ?_
 rintro ⟨Ao180, co180, rfl, hlo180, hmo180, hbo180⟩
 refine FJ.know (WS.oform (.s .z)) ?_
 rintro ⟨Ao181, co181, rfl, hlo181, hmo181, hbo181⟩
 refine FJ.know (WS.oform (.s (.s .z))) ?_
 rintro ⟨Ao182, co182, rfl, hlo182, hmo182, hbo182⟩
 refine FJ.know (WS.oform (.s (.s (.s .z)))) ?_
 rintro ⟨Ao183, co183, rfl, hlo183, hmo183, hbo183⟩
 refine FJ.e (goes_list rfl) rfl (by decide) rfl (e_alloc rfl z_45 rfl rfl) ?_
 rintro _ _ ⟨g184, rfl, rfl⟩
 refine FJ.es (goes_list rfl) rfl (es_store (off := 0) (cs := [.int .i64 ((revoke ((grant kn3 ⟨m10, m11, m12⟩).kern) m10 (m12 + 1)).code), .slice Ao180 ((revoke ((grant kn3 ⟨m10, m11, m12⟩).kern) m10 (m12 + 1)).words).length co180, .slice Ao181 ((revoke ((grant kn3 ⟨m10, m11, m12⟩).kern) m10 (m12 + 1)).kern.disk.blocks).length co181, .slice Ao182 ((revoke ((grant kn3 ⟨m10, m11, m12⟩).kern) m10 (m12 + 1)).kern.disk.cache).length co182, .slice Ao183 ((revoke ((grant kn3 ⟨m10, m11, m12⟩).kern) m10 (m12 + 1)).kern.exts).length co183]) rfl sz_45 (.t .z) (.t (.s .z)) rfl (ones rfl) .z (Nat.le_of_ble_eq_true rfl) (.c .z (.c (.s .z) (.c (.s (.s .z)) (.c (.s (.s (.s .z))) (.c (.s (.s (.s (.s .z)))) .n)))))) ?_
 refine FJ.nil (FJ.then_ (FJ.seq (FJ.region (FJ.ql rfl (q_fieldAddr rfl (.t (.s16 (.s4 (.s4 .z)))) (fun _ => fa_43_0 _ _)) ?_))))
 refine FJ.ql rfl (q_fieldAddrA (k := 0) rfl (.t .z) (fun _ => fa_25_0 _ _) rfl) (FJ.ql rfl (q_load rfl ag_22 (.t .z) (WS.row (.s4 (.s4 (.s (.s (.s .z))))) rfl)) (FJ.ql rfl (q_len rfl u_22 (.t .z)) ?_))
 refine FJ.call (goes_list rfl) rfl (by decide) rfl (c_call rfl Try.func31 rfl rfl (args1 (.t .z))) .n (fun w1 S1 hs tr => c_31 _) ?_
 rintro _ _ ⟨v185, v187, v189, v191, rfl, rfl⟩
 refine FJ.cat (.c (.c (.c (.c .n)))) ?_
 refine FJ.know (WS.oform .z) ?_
 rintro ⟨Ao193, co193, rfl, hlo193, hmo193, hbo193⟩
 refine FJ.know (WS.oform (.s .z)) ?_
 rintro ⟨Ao194, co194, rfl, hlo194, hmo194, hbo194⟩
 refine FJ.know (WS.oform (.s (.s .z))) ?_
 rintro ⟨Ao195, co195, rfl, hlo195, hmo195, hbo195⟩
 refine FJ.know (WS.oform (.s (.s (.s .z)))) ?_
 rintro ⟨Ao196, co196, rfl, hlo196, hmo196, hbo196⟩
 refine FJ.e (goes_list rfl) rfl (by decide) rfl (e_alloc rfl z_45 rfl rfl) ?_
 rintro _ _ ⟨g197, rfl, rfl⟩
 refine FJ.es (goes_list rfl) rfl (es_store (off := 0) (cs := [.int .i64 ((newKern (kn3.disk.blocks.length : Int)).code), .slice Ao193 ((newKern (kn3.disk.blocks.length : Int)).words).length co193, .slice Ao194 ((newKern (kn3.disk.blocks.length : Int)).kern.disk.blocks).length co194, .slice Ao195 ((newKern (kn3.disk.blocks.length : Int)).kern.disk.cache).length co195, .slice Ao196 ((newKern (kn3.disk.blocks.length : Int)).kern.exts).length co196]) rfl sz_45 (.t .z) (.t (.s .z)) rfl (ones rfl) .z (Nat.le_of_ble_eq_true rfl) (.c .z (.c (.s .z) (.c (.s (.s .z)) (.c (.s (.s (.s .z))) (.c (.s (.s (.s (.s .z)))) .n)))))) ?_
 refine FJ.nil (FJ.then_ (FJ.seq (FJ.region (FJ.ql rfl (q_fieldAddr rfl (.t (.s16 (.s4 (.s4 (.s (.s .z)))))) (fun _ => fa_45_2 _ _)) ?_))))
 refine FJ.ql rfl (q_loadA (cs := [.slice Ao44 ((grant kn3 ⟨m10, m11, m12⟩).kern.disk.blocks).length co44, .slice Ao45 ((grant kn3 ⟨m10, m11, m12⟩).kern.disk.cache).length co45, .slice Ao46 ((grant kn3 ⟨m10, m11, m12⟩).kern.exts).length co46]) rfl ag_43 sz_43 (.t .z) (WS.rows (.s4 (.s4 (.s4 (.s (.s (.s .z)))))) (sub_at rfl))) ?_
 refine FJ.call (goes_list rfl) rfl (by decide) rfl (c_call rfl Try.func50 rfl rfl (args1 (.t .z))) .n (fun w1 S1 hs tr => c_50 (kT_43_mk ((grant kn3 ⟨m10, m11, m12⟩).kern) (tr.ctx hrz67) (tr.ctx hrz88) (tr.ctx hrz110))) ?_
 rintro _ _ ⟨rfl, rfl⟩
 refine FJ.cat .n ?_
 refine FJ.ql rfl (q_eql rfl (.t .z) .c) (FJ.ql rfl (q_move rfl (.t .z)) ?_)
 refine FJ.caseP .z (fun g198 => ?_) (fun g198 => ?_)
 refine FJ.q (goes_listg rfl rfl .z) rfl (by decide) rfl (q_fieldAddr rfl (.t (.s16 (.s (.s .z)))) (fun _ => fa_45_0 _ _)) ?_
 refine FJ.q (goes_listg rfl rfl (.s .z)) rfl (by decide) rfl (q_load rfl ag_2 (.t .z) (WS.row (.s4 (.s4 (.s (.s .z)))) rfl)) ?_
 refine FJ.q (goes_listg rfl rfl (.s (.s .z))) rfl (by decide) rfl (q_eql rfl (.t .z) .c) ?_
 refine FJ.ql rfl (q_pickT rfl (.t (.s (.s (.s .z)))) (.t .z)) (FJ.ql rfl (q_move rfl (.t .z)) ?_)
 refine FJ.caseP .z (fun g199 => ?_) (fun g199 => ?_)
 refine FJ.q (goes_listg rfl rfl .z) rfl (by decide) rfl (q_fieldAddr rfl (.t (.s16 .z)) (fun _ => fa_45_0 _ _)) ?_
 refine FJ.q (goes_listg rfl rfl (.s .z)) rfl (by decide) rfl (q_load rfl ag_2 (.t .z) (WS.row (.s4 (.s .z)) rfl)) ?_
 refine FJ.q (goes_listg rfl rfl (.s (.s .z))) rfl (by decide) rfl (q_eql rfl (.t .z) .c) ?_
 refine FJ.ql rfl (q_pickT rfl (.t (.s (.s (.s .z)))) (.t .z)) (FJ.ql rfl (q_move rfl (.t .z)) ?_)
 refine FJ.caseP .z (fun g200 => ?_) (fun g200 => ?_)
 refine FJ.q (goes_listg rfl rfl .z) rfl (by decide) rfl (q_fieldAddr rfl (.t (.s16 (.s4 (.s4 (.s4 .z))))) (fun _ => fa_45_2 _ _)) ?_
 refine FJ.q (goes_listg rfl rfl (.s .z)) rfl (by decide) rfl (q_loadA (cs := [.slice Ao168 ((revoke ((grant kn3 ⟨m10, m11, m12⟩).kern) m10 m12).kern.disk.blocks).length co168, .slice Ao169 ((revoke ((grant kn3 ⟨m10, m11, m12⟩).kern) m10 m12).kern.disk.cache).length co169, .slice Ao170 ((revoke ((grant kn3 ⟨m10, m11, m12⟩).kern) m10 m12).kern.exts).length co170]) rfl ag_43 sz_43 (.t .z) (WS.rows (.s4 (.s4 (.s (.s .z)))) (sub_at rfl))) ?_
 refine FJ.q (goes_listg rfl rfl (.s (.s .z))) rfl (by decide) rfl (q_move rfl (.t (.s16 (.s16 (.s4 (.s4 (.s4 (.s (.s .z))))))))) ?_
 refine FJ.call (goes_listg rfl rfl (.s (.s (.s .z)))) rfl (by decide) rfl (c_call rfl Try.func54 rfl rfl (args2 (.t (.s .z)) (.t .z))) .n (fun w1 S1 hs tr => c_54 (kT_43_mk ((revoke ((grant kn3 ⟨m10, m11, m12⟩).kern) m10 m12).kern) (tr.own (.s4 (.s4 (.s4 .z)))) (tr.own (.s4 (.s4 (.s4 (.s .z))))) (tr.own (.s4 (.s4 (.s4 (.s (.s .z))))))) _) ?_
 rintro _ _ ⟨rfl, rfl⟩
 refine FJ.cat .n ?_
 refine FJ.q (goes_listg rfl rfl (.s4 .z)) rfl (by decide) rfl (q_field rfl (.t .z) (fun w => fv_76_0 w (.int .i64 ((ownerOf ((revoke ((grant kn3 ⟨m10, m11, m12⟩).kern) m10 m12).kern) m10).code)) (.int .i64 ((ownerOf ((revoke ((grant kn3 ⟨m10, m11, m12⟩).kern) m10 m12).kern) m10).val)))) ?_
 refine FJ.q (goes_listg rfl rfl (.s4 (.s .z))) rfl (by decide) rfl (q_eql rfl (.t .z) .c) ?_
 refine FJ.ql rfl (q_pickT rfl (.t (.s4 (.s (.s .z)))) (.t .z)) (FJ.ql rfl (q_move rfl (.t .z)) ?_)
 refine FJ.caseP .z (fun g201 => ?_) (fun g201 => ?_)
 refine FJ.q (goes_listg rfl rfl .z) rfl (by decide) rfl (q_fieldAddr rfl (.t (.s16 (.s16 (.s4 .z)))) (fun _ => fa_45_2 _ _)) ?_
 refine FJ.q (goes_listg rfl rfl (.s .z)) rfl (by decide) rfl (q_fieldAddrA (k := 4) rfl (.t .z) (fun _ => fa_43_1 _ _) rfl) ?_
 refine FJ.q (goes_listg rfl rfl (.s (.s .z))) rfl (by decide) rfl (q_load rfl ag_41 (.t .z) (WS.row (.s4 (.s4 (.s (.s .z)))) rfl)) ?_
 refine FJ.q (goes_listg rfl rfl (.s (.s (.s .z)))) rfl (by decide) rfl (q_len rfl u_41 (.t .z)) ?_
 refine FJ.q (goes_listg rfl rfl (.s4 .z)) rfl (by decide) rfl (q_fieldAddr rfl (.t (.s16 (.s16 (.s16 (.s4 (.s4 (.s .z))))))) (fun _ => fa_43_1 _ _)) ?_
 refine FJ.q (goes_listg rfl rfl (.s4 (.s .z))) rfl (by decide) rfl (q_load rfl ag_41 (.t .z) (WS.row (.s16 .z) rfl)) ?_
 refine FJ.q (goes_listg rfl rfl (.s4 (.s (.s .z)))) rfl (by decide) rfl (q_len rfl u_41 (.t .z)) ?_
 refine FJ.q (goes_listg rfl rfl (.s4 (.s (.s (.s .z))))) rfl (by decide) rfl (q_eql rfl (.t (.s (.s (.s .z)))) (.t .z)) ?_
 refine FJ.ql rfl (q_pickT rfl (.t (.s4 (.s4 .z))) (.t .z)) (FJ.ql rfl (q_move rfl (.t .z)) ?_)
 refine FJ.caseP .z (fun g202 => ?_) (fun g202 => ?_)
 refine FJ.q (goes_listg rfl rfl .z) rfl (by decide) rfl (q_fieldAddr rfl (.t (.s16 (.s16 (.s .z)))) (fun _ => fa_45_0 _ _)) ?_
 refine FJ.q (goes_listg rfl rfl (.s .z)) rfl (by decide) rfl (q_load rfl ag_2 (.t .z) (WS.row .z rfl)) ?_
 refine FJ.q (goes_listg rfl rfl (.s (.s .z))) rfl (by decide) rfl (q_eql rfl (.t .z) .c) ?_
 refine FJ.ql rfl (q_pickT rfl (.t (.s (.s (.s .z)))) (.t .z)) (FJ.ql rfl (q_assign rfl (.t .z)) (FJ.nil (FJ.then_ (FJ.ret ?_))))
 refine FJ.upR (fun l w h => hupz16 _ _ (hupz21 _ _ (hupz27 _ _ (hupz47 _ _ (hupz67 _ _ (hupz88 _ _ (hupz110 _ _ (h)))))))) ?_
 refine FJ.doneS (res1 rfl .z) .n ?_
 first | (focus (simp_all; done)) | (focus (obtain ⟨L0, L1, L2, L3, L4, L5, L6, L7, L8⟩ := LG (by omega); have LI := L2 i (by omega); dsimp only at LI; first | (focus (exfalso; obtain ⟨a1, a2⟩ := LI.1 (by omega); omega)) | (focus (exfalso; have a3 := LI.2 (by omega); contradiction)) | (focus (exfalso; have a3 := LI.2 (by omega); exact absurd a3 (by assumption))))) | first | exact ⟨rfl, rfl⟩ | (focus (exfalso; omega)) | (focus (exfalso; simp_all; done)) | (focus (refine ⟨congrArg Value.bool ?_, rfl⟩; simp_all; done)) | (focus (refine ⟨congrArg Value.bool ?_, rfl⟩; simp_all; omega))
 refine FJ.skipl rfl rfl .z rfl rfl (by decide) rfl ?_
 refine FJ.skipl rfl rfl (.s .z) rfl rfl (by decide) rfl ?_
 refine FJ.skipl rfl rfl (.s (.s .z)) rfl rfl (by decide) rfl ?_
 refine FJ.ql rfl (q_pickF rfl (.t (.s (.s (.s .z)))) .c) (FJ.ql rfl (q_assign rfl (.t .z)) (FJ.nil (FJ.then_ (FJ.ret ?_))))
 refine FJ.upR (fun l w h => hupz16 _ _ (hupz21 _ _ (hupz27 _ _ (hupz47 _ _ (hupz67 _ _ (hupz88 _ _ (hupz110 _ _ (h)))))))) ?_
 refine FJ.doneS (res1 rfl .z) .n ?_
 first | (focus (simp_all; done)) | (focus (obtain ⟨L0, L1, L2, L3, L4, L5, L6, L7, L8⟩ := LG (by omega); have LI := L2 i (by omega); dsimp only at LI; first | (focus (exfalso; obtain ⟨a1, a2⟩ := LI.1 (by omega); omega)) | (focus (exfalso; have a3 := LI.2 (by omega); contradiction)) | (focus (exfalso; have a3 := LI.2 (by omega); exact absurd a3 (by assumption))))) | first | exact ⟨rfl, rfl⟩ | (focus (exfalso; omega)) | (focus (exfalso; simp_all; done)) | (focus (refine ⟨congrArg Value.bool ?_, rfl⟩; simp_all; done)) | (focus (refine ⟨congrArg Value.bool ?_, rfl⟩; simp_all; omega))
 refine FJ.skipl rfl rfl .z rfl rfl (by decide) rfl ?_
 refine FJ.skipl rfl rfl (.s .z) rfl rfl (by decide) rfl ?_
 refine FJ.skipl rfl rfl (.s (.s .z)) rfl rfl (by decide) rfl ?_
 refine FJ.skipl rfl rfl (.s (.s (.s .z))) rfl rfl (by decide) rfl ?_
 refine FJ.skipl rfl rfl (.s4 .z) rfl rfl (by decide) rfl ?_
 refine FJ.skipl rfl rfl (.s4 (.s .z)) rfl rfl (by decide) rfl ?_
 refine FJ.skipl rfl rfl (.s4 (.s (.s .z))) rfl rfl (by decide) rfl ?_
 refine FJ.skipl rfl rfl (.s4 (.s (.s (.s .z)))) rfl rfl (by decide) rfl ?_
 refine FJ.ql rfl (q_pickF rfl (.t (.s4 (.s4 .z))) .c) (FJ.ql rfl (q_move rfl (.t .z)) ?_)
 refine FJ.skipl rfl rfl .z rfl rfl (by decide) rfl ?_
 refine FJ.skipl rfl rfl (.s .z) rfl rfl (by decide) rfl ?_
 refine FJ.skipl rfl rfl (.s (.s .z)) rfl rfl (by decide) rfl ?_
 refine FJ.ql rfl (q_pickF rfl (.t (.s (.s (.s .z)))) .c) (FJ.ql rfl (q_assign rfl (.t .z)) (FJ.nil (FJ.then_ (FJ.ret ?_))))
 refine FJ.upR (fun l w h => hupz16 _ _ (hupz21 _ _ (hupz27 _ _ (hupz47 _ _ (hupz67 _ _ (hupz88 _ _ (hupz110 _ _ (h)))))))) ?_
 refine FJ.doneS (res1 rfl .z) .n ?_
 first | (focus (simp_all; done)) | (focus (obtain ⟨L0, L1, L2, L3, L4, L5, L6, L7, L8⟩ := LG (by omega); have LI := L2 i (by omega); dsimp only at LI; first | (focus (exfalso; obtain ⟨a1, a2⟩ := LI.1 (by omega); omega)) | (focus (exfalso; have a3 := LI.2 (by omega); contradiction)) | (focus (exfalso; have a3 := LI.2 (by omega); exact absurd a3 (by assumption))))) | first | exact ⟨rfl, rfl⟩ | (focus (exfalso; omega)) | (focus (exfalso; simp_all; done)) | (focus (refine ⟨congrArg Value.bool ?_, rfl⟩; simp_all; done)) | (focus (refine ⟨congrArg Value.bool ?_, rfl⟩; simp_all; omega))
 refine FJ.skipl rfl rfl .z rfl rfl (by decide) rfl ?_
 refine FJ.skipl rfl rfl (.s .z) rfl rfl (by decide) rfl ?_
 refine FJ.skipl rfl rfl (.s (.s .z)) rfl rfl (by decide) rfl ?_
 refine FJ.skipl rfl rfl (.s (.s (.s .z))) rfl rfl (by decide) rfl ?_
 refine FJ.skipl rfl rfl (.s4 .z) rfl rfl (by decide) rfl ?_
 refine FJ.skipl rfl rfl (.s4 (.s .z)) rfl rfl (by decide) rfl ?_
 refine FJ.ql rfl (q_pickF rfl (.t (.s4 (.s (.s .z)))) .c) (FJ.ql rfl (q_move rfl (.t .z)) ?_)
 refine FJ.skipl rfl rfl .z rfl rfl (by decide) rfl ?_
 refine FJ.skipl rfl rfl (.s .z) rfl rfl (by decide) rfl ?_
 refine FJ.skipl rfl rfl (.s (.s .z)) rfl rfl (by decide) rfl ?_
 refine FJ.skipl rfl rfl (.s (.s (.s .z))) rfl rfl (by decide) rfl ?_
 refine FJ.skipl rfl rfl (.s4 .z) rfl rfl (by decide) rfl ?_
 refine FJ.skipl rfl rfl (.s4 (.s .z)) rfl rfl (by decide) rfl ?_
 refine FJ.skipl rfl rfl (.s4 (.s (.s .z))) rfl rfl (by decide) rfl ?_
 refine FJ.skipl rfl rfl (.s4 (.s (.s (.s .z)))) rfl rfl (by decide) rfl ?_
 refine FJ.ql rfl (q_pickF rfl (.t (.s4 (.s4 .z))) .c) (FJ.ql rfl (q_move rfl (.t .z)) ?_)
 refine FJ.skipl rfl rfl .z rfl rfl (by decide) rfl ?_
 refine FJ.skipl rfl rfl (.s .z) rfl rfl (by decide) rfl ?_
 refine FJ.skipl rfl rfl (.s (.s .z)) rfl rfl (by decide) rfl ?_
 refine FJ.ql rfl (q_pickF rfl (.t (.s (.s (.s .z)))) .c) (FJ.ql rfl (q_assign rfl (.t .z)) (FJ.nil (FJ.then_ (FJ.ret ?_))))
 refine FJ.upR (fun l w h => hupz16 _ _ (hupz21 _ _ (hupz27 _ _ (hupz47 _ _ (hupz67 _ _ (hupz88 _ _ (hupz110 _ _ (h)))))))) ?_
 refine FJ.doneS (res1 rfl .z) .n ?_
 first | (focus (simp_all; done)) | (focus (obtain ⟨L0, L1, L2, L3, L4, L5, L6, L7, L8⟩ := LG (by omega); have LI := L2 i (by omega); dsimp only at LI; first | (focus (exfalso; obtain ⟨a1, a2⟩ := LI.1 (by omega); omega)) | (focus (exfalso; have a3 := LI.2 (by omega); contradiction)) | (focus (exfalso; have a3 := LI.2 (by omega); exact absurd a3 (by assumption))))) | first | exact ⟨rfl, rfl⟩ | (focus (exfalso; omega)) | (focus (exfalso; simp_all; done)) | (focus (refine ⟨congrArg Value.bool ?_, rfl⟩; simp_all; done)) | (focus (refine ⟨congrArg Value.bool ?_, rfl⟩; simp_all; omega))
 refine FJ.skipl rfl rfl .z rfl rfl (by decide) rfl ?_
 refine FJ.skipl rfl rfl (.s .z) rfl rfl (by decide) rfl ?_
 refine FJ.skipl rfl rfl (.s (.s .z)) rfl rfl (by decide) rfl ?_
 refine FJ.ql rfl (q_pickF rfl (.t (.s (.s (.s .z)))) .c) (FJ.ql rfl (q_move rfl (.t .z)) ?_)
 refine FJ.skipl rfl rfl .z rfl rfl (by decide) rfl ?_
 refine FJ.skipl rfl rfl (.s .z) rfl rfl (by decide) rfl ?_
 refine FJ.skipl rfl rfl (.s (.s .z)) rfl rfl (by decide) rfl ?_
 refine FJ.skipl rfl rfl (.s (.s (.s .z))) rfl rfl (by decide) rfl ?_
 refine FJ.skipl rfl rfl (.s4 .z) rfl rfl (by decide) rfl ?_
 refine FJ.skipl rfl rfl (.s4 (.s .z)) rfl rfl (by decide) rfl ?_
 refine FJ.ql rfl (q_pickF rfl (.t (.s4 (.s (.s .z)))) .c) (FJ.ql rfl (q_move rfl (.t .z)) ?_)
 refine FJ.skipl rfl rfl .z rfl rfl (by decide) rfl ?_
 refine FJ.skipl rfl rfl (.s .z) rfl rfl (by decide) rfl ?_
 refine FJ.skipl rfl rfl (.s (.s .z)) rfl rfl (by decide) rfl ?_
 refine FJ.skipl rfl rfl (.s (.s (.s .z))) rfl rfl (by decide) rfl ?_
 refine FJ.skipl rfl rfl (.s4 .z) rfl rfl (by decide) rfl ?_
 refine FJ.skipl rfl rfl (.s4 (.s .z)) rfl rfl (by decide) rfl ?_
 refine FJ.skipl rfl rfl (.s4 (.s (.s .z))) rfl rfl (by decide) rfl ?_
 refine FJ.skipl rfl rfl (.s4 (.s (.s (.s .z)))) rfl rfl (by decide) rfl ?_
 refine FJ.ql rfl (q_pickF rfl (.t (.s4 (.s4 .z))) .c) (FJ.ql rfl (q_move rfl (.t .z)) ?_)
 refine FJ.skipl rfl rfl .z rfl rfl (by decide) rfl ?_
 refine FJ.skipl rfl rfl (.s .z) rfl rfl (by decide) rfl ?_
 refine FJ.skipl rfl rfl (.s (.s .z)) rfl rfl (by decide) rfl ?_
 refine FJ.ql rfl (q_pickF rfl (.t (.s (.s (.s .z)))) .c) (FJ.ql rfl (q_assign rfl (.t .z)) (FJ.nil (FJ.then_ (FJ.ret ?_))))
 refine FJ.upR (fun l w h => hupz16 _ _ (hupz21 _ _ (hupz27 _ _ (hupz47 _ _ (hupz67 _ _ (hupz88 _ _ (hupz110 _ _ (h)))))))) ?_
 refine FJ.doneS (res1 rfl .z) .n ?_
 first | (focus (simp_all; done)) | (focus (obtain ⟨L0, L1, L2, L3, L4, L5, L6, L7, L8⟩ := LG (by omega); have LI := L2 i (by omega); dsimp only at LI; first | (focus (exfalso; obtain ⟨a1, a2⟩ := LI.1 (by omega); omega)) | (focus (exfalso; have a3 := LI.2 (by omega); contradiction)) | (focus (exfalso; have a3 := LI.2 (by omega); exact absurd a3 (by assumption))))) | first | exact ⟨rfl, rfl⟩ | (focus (exfalso; omega)) | (focus (exfalso; simp_all; done)) | (focus (refine ⟨congrArg Value.bool ?_, rfl⟩; simp_all; done)) | (focus (refine ⟨congrArg Value.bool ?_, rfl⟩; simp_all; omega))
 refine FJ.skipl rfl rfl .z rfl rfl (by decide) rfl ?_
 refine FJ.skipl rfl rfl (.s .z) rfl rfl (by decide) rfl ?_
 refine FJ.skipl rfl rfl (.s (.s .z)) rfl rfl (by decide) rfl ?_
 refine FJ.ql rfl (q_pickF rfl (.t (.s (.s (.s .z)))) .c) (FJ.ql rfl (q_move rfl (.t .z)) ?_)
 refine FJ.skipl rfl rfl .z rfl rfl (by decide) rfl ?_
 refine FJ.skipl rfl rfl (.s .z) rfl rfl (by decide) rfl ?_
 refine FJ.skipl rfl rfl (.s (.s .z)) rfl rfl (by decide) rfl ?_
 refine FJ.ql rfl (q_pickF rfl (.t (.s (.s (.s .z)))) .c) (FJ.ql rfl (q_move rfl (.t .z)) ?_)
 refine FJ.skipl rfl rfl .z rfl rfl (by decide) rfl ?_
 refine FJ.skipl rfl rfl (.s .z) rfl rfl (by decide) rfl ?_
 refine FJ.skipl rfl rfl (.s (.s .z)) rfl rfl (by decide) rfl ?_
 refine FJ.skipl rfl rfl (.s (.s (.s .z))) rfl rfl (by decide) rfl ?_
 refine FJ.skipl rfl rfl (.s4 .z) rfl rfl (by decide) rfl ?_
 refine FJ.skipl rfl rfl (.s4 (.s .z)) rfl rfl (by decide) rfl ?_
 refine FJ.ql rfl (q_pickF rfl (.t (.s4 (.s (.s .z)))) .c) (FJ.ql rfl (q_move rfl (.t .z)) ?_)
 refine FJ.skipl rfl rfl .z rfl rfl (by decide) rfl ?_
 refine FJ.skipl rfl rfl (.s .z) rfl rfl (by decide) rfl ?_
 refine FJ.skipl rfl rfl (.s (.s .z)) rfl rfl (by decide) rfl ?_
 refine FJ.skipl rfl rfl (.s (.s (.s .z))) rfl rfl (by decide) rfl ?_
 refine FJ.skipl rfl rfl (.s4 .z) rfl rfl (by decide) rfl ?_
 refine FJ.skipl rfl rfl (.s4 (.s .z)) rfl rfl (by decide) rfl ?_
 refine FJ.skipl rfl rfl (.s4 (.s (.s .z))) rfl rfl (by decide) rfl ?_
 refine FJ.skipl rfl rfl (.s4 (.s (.s (.s .z)))) rfl rfl (by decide) rfl ?_
 refine FJ.ql rfl (q_pickF rfl (.t (.s4 (.s4 .z))) .c) (FJ.ql rfl (q_move rfl (.t .z)) ?_)
 refine FJ.skipl rfl rfl .z rfl rfl (by decide) rfl ?_
 refine FJ.skipl rfl rfl (.s .z) rfl rfl (by decide) rfl ?_
 refine FJ.skipl rfl rfl (.s (.s .z)) rfl rfl (by decide) rfl ?_
 refine FJ.ql rfl (q_pickF rfl (.t (.s (.s (.s .z)))) .c) (FJ.ql rfl (q_assign rfl (.t .z)) (FJ.nil (FJ.then_ (FJ.ret ?_))))
 refine FJ.upR (fun l w h => hupz16 _ _ (hupz21 _ _ (hupz27 _ _ (hupz47 _ _ (hupz67 _ _ (hupz88 _ _ (hupz110 _ _ (h)))))))) ?_
 refine FJ.doneS (res1 rfl .z) .n ?_
 first | (focus (simp_all; done)) | (focus (obtain ⟨L0, L1, L2, L3, L4, L5, L6, L7, L8⟩ := LG (by omega); have LI := L2 i (by omega); dsimp only at LI; first | (focus (exfalso; obtain ⟨a1, a2⟩ := LI.1 (by omega); omega)) | (focus (exfalso; have a3 := LI.2 (by omega); contradiction)) | (focus (exfalso; have a3 := LI.2 (by omega); exact absurd a3 (by assumption))))) | first | exact ⟨rfl, rfl⟩ | (focus (exfalso; omega)) | (focus (exfalso; simp_all; done)) | (focus (refine ⟨congrArg Value.bool ?_, rfl⟩; simp_all; done)) | (focus (refine ⟨congrArg Value.bool ?_, rfl⟩; simp_all; omega))

end Go.Proofs.Ytkmcpcahbfdohaa

/- What is proved: contracts of functions, one a function. No condition. -/
import Derived.Test.YtkmcpcahbfdohaaW13
import Derived.Test.YtkmcpcahbfdohaaW31
import Derived.Test.YtkmcpcahbfdohaaW43
import Derived.Test.YtkmcpcahbfdohaaW5
import Derived.Test.YtkmcpcahbfdohaaTypesA
import Derived.Test.YtkmcpcahbfdohaaBase2
namespace Go.Proofs.Ytkmcpcahbfdohaa
open Go Go.RowKit
set_option linter.unusedVariables false
set_option linter.unusedSimpArgs false
set_option maxHeartbeats 1000000 in
set_option maxRecDepth 20000 in
theorem c_6 {w0 : World} {S0 : Bs} {cd : (List UInt8)} {v0 : Value} (h0 : kSl_5.ro w0 (FF w0 S0) cd [v0])  :
    Calls Try.prog 6 #[v0] w0 (TriPost w0 S0 (fun r l => r = .bool true ∧ l = [])) := by
 obtain ⟨A0, c0, rfl, hl0, hm0, hb0, he0⟩ := ro_form h0
 refine FJ.enter (N := 208) Try.func6 rfl rfl (by simp) [(0, .slice A0 cd.length c0)] (by simp) (l0 := []) trivial ?_
 refine FJ.seq (FJ.region (FJ.ql rfl (q_assign rfl .c) (FJ.nil (FJ.then_ ?_))))
 refine FJ.seq (FJ.seq (FJ.region (FJ.ql rfl (q_move rfl (.t (.s .z))) ?_)))
 refine FJ.call (goes_list rfl) rfl (by decide) rfl (c_call rfl Try.func35 rfl rfl (args1 (.t .z))) .n (fun w1 S1 hs tr => c_35 (tr.ctx h0)) ?_
 rintro _ _ ⟨rfl, rfl⟩
 refine FJ.cat .n ?_
 refine FJ.nil (FJ.then_ ?_)
 refine FJ.condP (.t .z) (fun b2 => ?_) (fun b2 => ?_)
 refine FJ.seq (FJ.region (FJ.er (.s (.s .z)) (FJ.ql rfl (q_assign rfl .c) (FJ.nil ?_))))
 refine FJ.then_ (FJ.ret (FJ.thenR ?_))
 refine FJ.doneS (res1 rfl .z) .n ?_
 exact ⟨rfl, rfl⟩
 refine FJ.skip (FJ.then_ (FJ.seq (FJ.region (FJ.ql rfl (q_move rfl (.t (.s (.s (.s .z))))) ?_))))
 refine FJ.call (goes_list rfl) rfl (by decide) rfl (c_call rfl Try.func36 rfl rfl (args1 (.t .z))) .n (fun w1 S1 hs tr => c_36 (tr.ctx h0)) ?_
 rintro _ _ ⟨d3, v5, v7, ks4, v9, hzd3, rfl, rfl⟩
 refine FJ.cat (.c (.c (.c .n))) ?_
 have LC := @law_codes d3 ks4; have LK := @law_kept d3 ks4; have LP := @law_put d3
 refine FJ.know (WS.oform .z) ?_
 rintro ⟨Ao11, co11, rfl, hlo11, hmo11, hbo11⟩
 refine FJ.know (WS.oform (.s .z)) ?_
 rintro ⟨Ao12, co12, rfl, hlo12, hmo12, hbo12⟩
 refine FJ.know (WS.oform (.s (.s .z))) ?_
 rintro ⟨Ao13, co13, rfl, hlo13, hmo13, hbo13⟩
 refine FJ.freeze .z ?_
 intro w0 S0 trz14 hrz14 hupz14
 replace h0 := trz14 h0
 refine FJ.freeze .z ?_
 intro w0 S0 trz19 hrz19 hupz19
 replace hrz14 := trz19 hrz14
 replace h0 := trz19 h0
 refine FJ.freeze .z ?_
 intro w0 S0 trz25 hrz25 hupz25
 replace hrz14 := trz25 hrz14
 replace hrz19 := trz25 hrz19
 replace h0 := trz25 h0
 refine FJ.ql rfl (q_move rfl (.t .z)) (FJ.ql rfl (q_extract (v := .agg #[.slice Ao11 d3.blocks.length co11, .slice Ao12 d3.cache.length co12]) rfl (.t .z) rfl) (FJ.ql rfl (q_extract (v := .slice Ao13 ks4.length co13) rfl (.t (.s .z)) rfl) ?_))
 refine FJ.e (goes_list rfl) rfl (by decide) rfl (e_alloc rfl z_25 rfl rfl) ?_
 rintro _ _ ⟨g32, rfl, rfl⟩
 refine FJ.es (goes_list rfl) rfl (es_store (off := 0) (cs := [.slice Ao11 d3.blocks.length co11, .slice Ao12 d3.cache.length co12]) rfl sz_25 (.t .z) (.t (.s (.s .z))) rfl (ones rfl) .z (Nat.le_of_ble_eq_true rfl) (.c .z (.c (.s .z) .n))) ?_
 refine FJ.ql rfl (q_assign rfl (.t (.s .z))) (FJ.nil (FJ.then_ (FJ.seq (FJ.region ?_))))
 refine FJ.ql rfl (q_loadA (cs := [.slice Ao11 d3.blocks.length co11, .slice Ao12 d3.cache.length co12]) rfl ag_25 sz_25 (.t (.s .z)) (WS.rows0 .z (fun i u h => by exact h))) ?_
 refine FJ.ql rfl (q_move rfl (.t (.s .z))) ?_
 refine FJ.call (goes_list rfl) rfl (by decide) rfl (c_call rfl Try.func37 rfl rfl (args2 (.t (.s .z)) (.t .z))) .n (fun w1 S1 hs tr => c_37 (kT_25_mk d3 (tr.ctx hrz14) (tr.ctx hrz19)) (tr.ctx hrz25)) ?_
 rintro _ _ ⟨v33, v35, rfl, rfl⟩
 refine FJ.cat (.c (.c .n)) ?_
 refine FJ.know (WS.oform .z) ?_
 rintro ⟨Ao37, co37, rfl, hlo37, hmo37, hbo37⟩
 refine FJ.know (WS.oform (.s .z)) ?_
 rintro ⟨Ao38, co38, rfl, hlo38, hmo38, hbo38⟩
 refine FJ.freeze .z ?_
 intro w0 S0 trz39 hrz39 hupz39
 replace hrz25 := trz39 hrz25
 replace hrz14 := trz39 hrz14
 replace hrz19 := trz39 hrz19
 replace h0 := trz39 h0
 refine FJ.freeze .z ?_
 intro w0 S0 trz59 hrz59 hupz59
 replace hrz39 := trz59 hrz39
 replace hrz25 := trz59 hrz25
 replace hrz14 := trz59 hrz14
 replace hrz19 := trz59 hrz19
 replace h0 := trz59 h0
 refine FJ.e (goes_list rfl) rfl (by decide) rfl (e_alloc rfl z_27 rfl rfl) ?_
 rintro _ _ ⟨g80, rfl, rfl⟩
 refine FJ.es (goes_list rfl) rfl (es_store (off := 0) (cs := [.int .i64 ((crashDisk d3 ks4).code), .slice Ao37 ((crashDisk d3 ks4).disk.blocks).length co37, .slice Ao38 ((crashDisk d3 ks4).disk.cache).length co38]) rfl sz_27 (.t .z) (.t (.s .z)) rfl (ones rfl) .z (Nat.le_of_ble_eq_true rfl) (.c .z (.c (.s .z) (.c (.s (.s .z)) .n)))) ?_
 refine FJ.nil (FJ.then_ (FJ.seq (FJ.region ?_)))
 refine FJ.ql rfl (q_loadA (cs := [.slice Ao11 d3.blocks.length co11, .slice Ao12 d3.cache.length co12]) rfl ag_25 sz_25 (.t (.s4 (.s .z))) (WS.rows0 (.s .z) (fun i u h => by exact h))) ?_
 refine FJ.call (goes_list rfl) rfl (by decide) rfl (c_call rfl Try.func38 rfl rfl (args1 (.t .z))) .n (fun w1 S1 hs tr => c_38 (kT_25_mk d3 (tr.ctx hrz14) (tr.ctx hrz19))) ?_
 rintro _ _ ⟨v81, v83, rfl, rfl⟩
 refine FJ.cat (.c (.c .n)) ?_
 refine FJ.know (WS.oform .z) ?_
 rintro ⟨Ao85, co85, rfl, hlo85, hmo85, hbo85⟩
 refine FJ.know (WS.oform (.s .z)) ?_
 rintro ⟨Ao86, co86, rfl, hlo86, hmo86, hbo86⟩
 refine FJ.freeze .z ?_
 intro w0 S0 trz87 hrz87 hupz87
 replace hrz14 := trz87 hrz14
 replace hrz19 := trz87 hrz19
 replace hrz39 := trz87 hrz39
 replace hrz59 := trz87 hrz59
 replace hrz25 := trz87 hrz25
 replace h0 := trz87 h0
 refine FJ.freeze .z ?_
 intro w0 S0 trz113 hrz113 hupz113
 replace hrz87 := trz113 hrz87
 replace hrz14 := trz113 hrz14
 replace hrz19 := trz113 hrz19
 replace hrz39 := trz113 hrz39
 replace hrz59 := trz113 hrz59
 replace hrz25 := trz113 hrz25
 replace h0 := trz113 h0
 refine FJ.e (goes_list rfl) rfl (by decide) rfl (e_alloc rfl z_27 rfl rfl) ?_
 rintro _ _ ⟨g140, rfl, rfl⟩
 refine FJ.es (goes_list rfl) rfl (es_store (off := 0) (cs := [.int .i64 ((flushDisk d3).code), .slice Ao85 ((flushDisk d3).disk.blocks).length co85, .slice Ao86 ((flushDisk d3).disk.cache).length co86]) rfl sz_27 (.t .z) (.t (.s .z)) rfl (ones rfl) .z (Nat.le_of_ble_eq_true rfl) (.c .z (.c (.s .z) (.c (.s (.s .z)) .n)))) ?_
 refine FJ.nil (FJ.then_ (FJ.seq (FJ.seq (FJ.region ?_))))
 refine FJ.ql rfl (q_fieldAddr rfl (.t (.s (.s (.s .z)))) (fun _ => fa_27_0 _ _)) (FJ.ql rfl (q_load rfl ag_2 (.t .z) (WS.row (.s .z) rfl)) (FJ.ql rfl (q_neq rfl (.t .z) .c) (FJ.ql rfl (q_move rfl (.t .z)) ?_)))
 refine FJ.caseN .z (fun g141 => ?_) (fun g141 => ?_)
 refine FJ.skipl rfl rfl .z rfl rfl (by decide) rfl ?_
 refine FJ.skipl rfl rfl (.s .z) rfl rfl (by decide) rfl ?_
 refine FJ.skipl rfl rfl (.s (.s .z)) rfl rfl (by decide) rfl ?_
 refine FJ.ql rfl (q_pickT rfl (.t (.s (.s (.s .z)))) .c) (FJ.nil (FJ.then_ ?_))
 refine FJ.condT (.t .z) ?_
 refine FJ.seq ?_
 refine FJ.draw [rowA g140 27 3 1 [.int .i64 ((flushDisk d3).code), .slice Ao85 ((flushDisk d3).disk.blocks).length co85, .slice Ao86 ((flushDisk d3).disk.cache).length co86], rowA g80 27 3 1 [.int .i64 ((crashDisk d3 ks4).code), .slice Ao37 ((crashDisk d3 ks4).disk.blocks).length co37, .slice Ao38 ((crashDisk d3 ks4).disk.cache).length co38], rowA g32 25 2 1 [.slice Ao11 d3.blocks.length co11, .slice Ao12 d3.cache.length co12]] 19 (by kernel_rfl) ?_
 refine FJ.sch [(0, true), (2, true), (3, true), (1, false), (4, true), (5, true)] 14 #[true, true, true, true, true, true, false, false, false, false, false, false, false, false, false, false, false, false, false, false] (by rfl) (by kernel_rfl) ?_
 refine FJ.dq rfl rfl rfl (by decide) rfl .z (q_loadA (cs := [.slice Ao11 d3.blocks.length co11, .slice Ao12 d3.cache.length co12]) rfl ag_25 sz_25 (.t (.s16 .z)) (WS.rows0 (.s (.s .z)) (fun i u h => by exact h))) ?_
 refine FJ.dq rfl rfl rfl (by decide) rfl .z (q_fieldAddr rfl (.t (.s4 (.s4 (.s4 .z)))) (fun _ => fa_27_0 _ _)) (FJ.dq rfl rfl rfl (by decide) rfl .z (q_load rfl ag_2 (.t .z) (WS.row (.s .z) rfl)) ?_)
 refine FJ.call (goes_sch rfl rfl) rfl (by decide) rfl (c_call rfl Try.func26 rfl rfl (args1 (.t (.s (.s .z))))) .n (fun w1 S1 hs tr => c_26 (kT_25_mk d3 (tr.ctx hrz14) (tr.ctx hrz19))) ?_
 rintro _ _ ⟨rfl, rfl⟩
 refine FJ.cat .n ?_
 refine FJ.sk .z ?_
 refine FJ.dq rfl rfl rfl (by decide) rfl .z (q_eql rfl (.t .z) (.t (.s .z))) (FJ.dq rfl rfl rfl (by decide) rfl .z (q_move rfl (.t .z)) (FJ.schN ?_))
 refine FJ.caseP .z (fun g142 => ?_) (fun g142 => ?_)
 refine FJ.sch [(6, true), (7, true), (8, true), (9, true), (10, true), (11, true), (12, true)] 7 #[true, true, true, true, true, true, true, true, true, true, true, true, true, false, false, false, false, false, false, false] (by rfl) (by kernel_rfl) ?_
 refine FJ.dqg rfl rfl rfl .z rfl (by decide) rfl .z (q_fieldAddr rfl (.t (.s16 (.s .z))) (fun _ => fa_27_0 _ _)) ?_
 refine FJ.dqg rfl rfl rfl (.s .z) rfl (by decide) rfl .z (q_load rfl ag_2 (.t .z) (WS.row (.s .z) rfl)) ?_
 refine FJ.dqg rfl rfl rfl (.s (.s .z)) rfl (by decide) rfl .z (q_fieldAddr rfl (.t (.s16 .z)) (fun _ => fa_27_0 _ _)) ?_
 refine FJ.dqg rfl rfl rfl (.s (.s (.s .z))) rfl (by decide) rfl .z (q_load rfl ag_2 (.t .z) (WS.row .z rfl)) ?_
 refine FJ.dqg rfl rfl rfl (.s4 .z) rfl (by decide) rfl .z (q_eql rfl (.t (.s (.s .z))) (.t .z)) ?_
 refine FJ.dq rfl rfl rfl (by decide) rfl .z (q_pickT rfl (.t (.s4 (.s .z))) (.t .z)) (FJ.dq rfl rfl rfl (by decide) rfl .z (q_move rfl (.t .z)) (FJ.schN ?_))
 refine FJ.caseP .z (fun g143 => ?_) (fun g143 => ?_)
 refine FJ.sch [(13, true), (15, true), (16, true), (14, false), (17, true), (18, true), (19, false)] 0 #[true, true, true, true, true, true, true, true, true, true, true, true, true, true, true, true, true, true, true, true] (by rfl) (by kernel_rfl) ?_
 refine FJ.dqg rfl rfl rfl .z rfl (by decide) rfl .z (q_loadA (cs := [.slice Ao11 d3.blocks.length co11, .slice Ao12 d3.cache.length co12]) rfl ag_25 sz_25 (.t (.s16 (.s4 (.s4 (.s4 (.s .z)))))) (WS.rows0 (.s (.s .z)) (fun i u h => by exact h))) ?_
 refine FJ.dqg rfl rfl rfl (.s .z) rfl (by decide) rfl .z (q_fieldAddr rfl (.t (.s16 (.s4 (.s4 (.s .z))))) (fun _ => fa_27_0 _ _)) ?_
 refine FJ.dqg rfl rfl rfl (.s (.s .z)) rfl (by decide) rfl .z (q_load rfl ag_2 (.t .z) (WS.row (.s .z) rfl)) ?_
 refine FJ.call (goes_schg rfl rfl rfl (.s (.s (.s .z)))) rfl (by decide) rfl (c_call rfl Try.func28 rfl rfl (args1 (.t (.s (.s .z))))) .n (fun w1 S1 hs tr => c_28 (kT_25_mk d3 (tr.ctx hrz14) (tr.ctx hrz19))) ?_
 rintro _ _ ⟨rfl, rfl⟩
 refine FJ.cat .n ?_
 refine FJ.sk .z ?_
 refine FJ.dqg rfl rfl rfl (.s4 .z) rfl (by decide) rfl .z (q_eql rfl (.t .z) (.t (.s .z))) ?_
 refine FJ.dq rfl rfl rfl (by decide) rfl .z (q_pickT rfl (.t (.s4 (.s .z))) (.t .z)) (FJ.er (.s16 (.s16 (.s4 (.s4 (.s (.s (.s .z))))))) ?_)
 refine FJ.q (goes_sch rfl rfl) rfl (by decide) rfl (q_assign rfl (.t .z)) ?_
 refine FJ.sl rfl ?_
 refine FJ.schN ?_
 refine FJ.drawN (by kernel_rfl) ?_
 refine FJ.then_ (FJ.ret (FJ.thenR ?_))
 refine FJ.upR (fun l w h => hupz14 _ _ (hupz19 _ _ (hupz25 _ _ (hupz39 _ _ (hupz59 _ _ (hupz87 _ _ (hupz113 _ _ (h)))))))) ?_
 refine FJ.doneS (res1 rfl .z) .n ?_
 first | exact ⟨rfl, rfl⟩ | (focus (exfalso; omega)) | (focus (exfalso; simp_all; done)) | (focus (refine ⟨congrArg Value.bool ?_, rfl⟩; simp_all; done)) | (focus (refine ⟨congrArg Value.bool ?_, rfl⟩; simp_all; omega)) -- 1
 refine FJ.sch [(13, true), (14, true), (15, true), (16, true), (17, true), (18, true), (19, false)] 0 #[true, true, true, true, true, true, true, true, true, true, true, true, true, true, true, true, true, true, true, true] (by rfl) (by kernel_rfl) ?_
 refine FJ.dskip rfl rfl rfl .z rfl rfl (by decide) rfl .z ?_
 refine FJ.dskip rfl rfl rfl (.s .z) rfl rfl (by decide) rfl .z ?_
 refine FJ.dskip rfl rfl rfl (.s (.s .z)) rfl rfl (by decide) rfl .z ?_
 refine FJ.dskip rfl rfl rfl (.s (.s (.s .z))) rfl rfl (by decide) rfl .z ?_
 refine FJ.dskip rfl rfl rfl (.s4 .z) rfl rfl (by decide) rfl .z ?_
 refine FJ.dq rfl rfl rfl (by decide) rfl .z (q_pickF rfl (.t (.s4 (.s .z))) .c) (FJ.er (.s16 (.s16 (.s4 (.s4 (.s (.s (.s .z))))))) ?_)
 refine FJ.q (goes_sch rfl rfl) rfl (by decide) rfl (q_assign rfl (.t .z)) ?_
 refine FJ.sl rfl ?_
 refine FJ.schN ?_
 refine FJ.drawN (by kernel_rfl) ?_
 refine FJ.then_ (FJ.ret (FJ.thenR ?_))
 refine FJ.upR (fun l w h => hupz14 _ _ (hupz19 _ _ (hupz25 _ _ (hupz39 _ _ (hupz59 _ _ (hupz87 _ _ (hupz113 _ _ (h)))))))) ?_
 refine FJ.doneS (res1 rfl .z) .n ?_
 first | exact ⟨rfl, rfl⟩ | (focus (exfalso; omega)) | (focus (exfalso; simp_all; done)) | (focus (refine ⟨congrArg Value.bool ?_, rfl⟩; simp_all; done)) | (focus (refine ⟨congrArg Value.bool ?_, rfl⟩; simp_all; omega)) -- 1
 refine FJ.sch [(6, true), (7, true), (8, true), (9, true), (10, true), (11, true), (12, true), (13, true), (14, true), (15, true), (16, true), (17, true), (18, true), (19, false)] 0 #[true, true, true, true, true, true, true, true, true, true, true, true, true, true, true, true, true, true, true, true] (by rfl) (by kernel_rfl) ?_
 refine FJ.dskip rfl rfl rfl .z rfl rfl (by decide) rfl .z ?_
 refine FJ.dskip rfl rfl rfl (.s .z) rfl rfl (by decide) rfl .z ?_
 refine FJ.dskip rfl rfl rfl (.s (.s .z)) rfl rfl (by decide) rfl .z ?_
 refine FJ.dskip rfl rfl rfl (.s (.s (.s .z))) rfl rfl (by decide) rfl .z ?_
 refine FJ.dskip rfl rfl rfl (.s4 .z) rfl rfl (by decide) rfl .z ?_
 refine FJ.dq rfl rfl rfl (by decide) rfl .z (q_pickF rfl (.t (.s4 (.s .z))) .c) (FJ.dq rfl rfl rfl (by decide) rfl .z (q_move rfl (.t .z)) ?_)
 refine FJ.dskip rfl rfl rfl .z rfl rfl (by decide) rfl .z ?_
 refine FJ.dskip rfl rfl rfl (.s .z) rfl rfl (by decide) rfl .z ?_
 refine FJ.dskip rfl rfl rfl (.s (.s .z)) rfl rfl (by decide) rfl .z ?_
 refine FJ.dskip rfl rfl rfl (.s (.s (.s .z))) rfl rfl (by decide) rfl .z ?_
 refine FJ.dskip rfl rfl rfl (.s4 .z) rfl rfl (by decide) rfl .z ?_
 refine FJ.dq rfl rfl rfl (by decide) rfl .z (q_pickF rfl (.t (.s4 (.s .z))) .c) (FJ.er (.s16 (.s16 (.s4 (.s4 (.s (.s (.s .z))))))) ?_)
 refine FJ.q (goes_sch rfl rfl) rfl (by decide) rfl (q_assign rfl (.t .z)) ?_
 refine FJ.sl rfl ?_
 refine FJ.schN ?_
 refine FJ.drawN (by kernel_rfl) ?_
 refine FJ.then_ (FJ.ret (FJ.thenR ?_))
 refine FJ.upR (fun l w h => hupz14 _ _ (hupz19 _ _ (hupz25 _ _ (hupz39 _ _ (hupz59 _ _ (hupz87 _ _ (hupz113 _ _ (h)))))))) ?_
 refine FJ.doneS (res1 rfl .z) .n ?_
 first | exact ⟨rfl, rfl⟩ | (focus (exfalso; omega)) | (focus (exfalso; simp_all; done)) | (focus (refine ⟨congrArg Value.bool ?_, rfl⟩; simp_all; done)) | (focus (refine ⟨congrArg Value.bool ?_, rfl⟩; simp_all; omega)) -- 1
 refine FJ.q (goes_listg rfl rfl .z) rfl (by decide) rfl (q_fieldAddr rfl (.t (.s4 .z)) (fun _ => fa_27_0 _ _)) ?_
 refine FJ.q (goes_listg rfl rfl (.s .z)) rfl (by decide) rfl (q_load rfl ag_2 (.t .z) (WS.row .z rfl)) ?_
 refine FJ.q (goes_listg rfl rfl (.s (.s .z))) rfl (by decide) rfl (q_neq rfl (.t .z) .c) ?_
 refine FJ.ql rfl (q_pickF rfl (.t (.s (.s (.s .z)))) (.t .z)) (FJ.nil (FJ.then_ ?_))
 refine FJ.condN (.t .z) (fun b144 => ?_) (fun b144 => ?_)
 refine FJ.seq ?_
 refine FJ.draw [rowA g140 27 3 1 [.int .i64 ((flushDisk d3).code), .slice Ao85 ((flushDisk d3).disk.blocks).length co85, .slice Ao86 ((flushDisk d3).disk.cache).length co86], rowA g80 27 3 1 [.int .i64 ((crashDisk d3 ks4).code), .slice Ao37 ((crashDisk d3 ks4).disk.blocks).length co37, .slice Ao38 ((crashDisk d3 ks4).disk.cache).length co38], rowA g32 25 2 1 [.slice Ao11 d3.blocks.length co11, .slice Ao12 d3.cache.length co12]] 19 (by kernel_rfl) ?_
 refine FJ.sch [(0, true), (2, true), (3, true), (1, false), (4, true), (5, true)] 14 #[true, true, true, true, true, true, false, false, false, false, false, false, false, false, false, false, false, false, false, false] (by rfl) (by kernel_rfl) ?_
 refine FJ.dq rfl rfl rfl (by decide) rfl .z (q_loadA (cs := [.slice Ao11 d3.blocks.length co11, .slice Ao12 d3.cache.length co12]) rfl ag_25 sz_25 (.t (.s16 .z)) (WS.rows0 (.s (.s .z)) (fun i u h => by exact h))) ?_
 refine FJ.dq rfl rfl rfl (by decide) rfl .z (q_fieldAddr rfl (.t (.s4 (.s4 (.s4 .z)))) (fun _ => fa_27_0 _ _)) (FJ.dq rfl rfl rfl (by decide) rfl .z (q_load rfl ag_2 (.t .z) (WS.row (.s .z) rfl)) ?_)
 refine FJ.call (goes_sch rfl rfl) rfl (by decide) rfl (c_call rfl Try.func26 rfl rfl (args1 (.t (.s (.s .z))))) .n (fun w1 S1 hs tr => c_26 (kT_25_mk d3 (tr.ctx hrz14) (tr.ctx hrz19))) ?_
 rintro _ _ ⟨rfl, rfl⟩
 refine FJ.cat .n ?_
 refine FJ.sk .z ?_
 refine FJ.dq rfl rfl rfl (by decide) rfl .z (q_eql rfl (.t .z) (.t (.s .z))) (FJ.dq rfl rfl rfl (by decide) rfl .z (q_move rfl (.t .z)) (FJ.schN ?_))
 refine FJ.caseP .z (fun g145 => ?_) (fun g145 => ?_)
 refine FJ.sch [(6, true), (7, true), (8, true), (9, true), (10, true), (11, true), (12, true)] 7 #[true, true, true, true, true, true, true, true, true, true, true, true, true, false, false, false, false, false, false, false] (by rfl) (by kernel_rfl) ?_
 refine FJ.dqg rfl rfl rfl .z rfl (by decide) rfl .z (q_fieldAddr rfl (.t (.s16 (.s .z))) (fun _ => fa_27_0 _ _)) ?_
 refine FJ.dqg rfl rfl rfl (.s .z) rfl (by decide) rfl .z (q_load rfl ag_2 (.t .z) (WS.row (.s .z) rfl)) ?_
 refine FJ.dqg rfl rfl rfl (.s (.s .z)) rfl (by decide) rfl .z (q_fieldAddr rfl (.t (.s16 .z)) (fun _ => fa_27_0 _ _)) ?_
 refine FJ.dqg rfl rfl rfl (.s (.s (.s .z))) rfl (by decide) rfl .z (q_load rfl ag_2 (.t .z) (WS.row .z rfl)) ?_
 refine FJ.dqg rfl rfl rfl (.s4 .z) rfl (by decide) rfl .z (q_eql rfl (.t (.s (.s .z))) (.t .z)) ?_
 refine FJ.dq rfl rfl rfl (by decide) rfl .z (q_pickT rfl (.t (.s4 (.s .z))) (.t .z)) (FJ.dq rfl rfl rfl (by decide) rfl .z (q_move rfl (.t .z)) (FJ.schN ?_))
 refine FJ.caseP .z (fun g146 => ?_) (fun g146 => ?_)
 refine FJ.sch [(13, true), (15, true), (16, true), (14, false), (17, true), (18, true), (19, false)] 0 #[true, true, true, true, true, true, true, true, true, true, true, true, true, true, true, true, true, true, true, true] (by rfl) (by kernel_rfl) ?_
 refine FJ.dqg rfl rfl rfl .z rfl (by decide) rfl .z (q_loadA (cs := [.slice Ao11 d3.blocks.length co11, .slice Ao12 d3.cache.length co12]) rfl ag_25 sz_25 (.t (.s16 (.s4 (.s4 (.s4 (.s .z)))))) (WS.rows0 (.s (.s .z)) (fun i u h => by exact h))) ?_
 refine FJ.dqg rfl rfl rfl (.s .z) rfl (by decide) rfl .z (q_fieldAddr rfl (.t (.s16 (.s4 (.s4 (.s .z))))) (fun _ => fa_27_0 _ _)) ?_
 refine FJ.dqg rfl rfl rfl (.s (.s .z)) rfl (by decide) rfl .z (q_load rfl ag_2 (.t .z) (WS.row (.s .z) rfl)) ?_
 refine FJ.call (goes_schg rfl rfl rfl (.s (.s (.s .z)))) rfl (by decide) rfl (c_call rfl Try.func28 rfl rfl (args1 (.t (.s (.s .z))))) .n (fun w1 S1 hs tr => c_28 (kT_25_mk d3 (tr.ctx hrz14) (tr.ctx hrz19))) ?_
 rintro _ _ ⟨rfl, rfl⟩
 refine FJ.cat .n ?_
 refine FJ.sk .z ?_
 refine FJ.dqg rfl rfl rfl (.s4 .z) rfl (by decide) rfl .z (q_eql rfl (.t .z) (.t (.s .z))) ?_
 refine FJ.dq rfl rfl rfl (by decide) rfl .z (q_pickT rfl (.t (.s4 (.s .z))) (.t .z)) (FJ.er (.s16 (.s16 (.s4 (.s4 (.s (.s (.s .z))))))) ?_)
 refine FJ.q (goes_sch rfl rfl) rfl (by decide) rfl (q_assign rfl (.t .z)) ?_
 refine FJ.sl rfl ?_
 refine FJ.schN ?_
 refine FJ.drawN (by kernel_rfl) ?_
 refine FJ.then_ (FJ.ret (FJ.thenR ?_))
 refine FJ.upR (fun l w h => hupz14 _ _ (hupz19 _ _ (hupz25 _ _ (hupz39 _ _ (hupz59 _ _ (hupz87 _ _ (hupz113 _ _ (h)))))))) ?_
 refine FJ.doneS (res1 rfl .z) .n ?_
 first | exact ⟨rfl, rfl⟩ | (focus (exfalso; omega)) | (focus (exfalso; simp_all; done)) | (focus (refine ⟨congrArg Value.bool ?_, rfl⟩; simp_all; done)) | (focus (refine ⟨congrArg Value.bool ?_, rfl⟩; simp_all; omega)) -- 1
 refine FJ.sch [(13, true), (14, true), (15, true), (16, true), (17, true), (18, true), (19, false)] 0 #[true, true, true, true, true, true, true, true, true, true, true, true, true, true, true, true, true, true, true, true] (by rfl) (by kernel_rfl) ?_
 refine FJ.dskip rfl rfl rfl .z rfl rfl (by decide) rfl .z ?_
 refine FJ.dskip rfl rfl rfl (.s .z) rfl rfl (by decide) rfl .z ?_
 refine FJ.dskip rfl rfl rfl (.s (.s .z)) rfl rfl (by decide) rfl .z ?_
 refine FJ.dskip rfl rfl rfl (.s (.s (.s .z))) rfl rfl (by decide) rfl .z ?_
 refine FJ.dskip rfl rfl rfl (.s4 .z) rfl rfl (by decide) rfl .z ?_
 refine FJ.dq rfl rfl rfl (by decide) rfl .z (q_pickF rfl (.t (.s4 (.s .z))) .c) (FJ.er (.s16 (.s16 (.s4 (.s4 (.s (.s (.s .z))))))) ?_)
 refine FJ.q (goes_sch rfl rfl) rfl (by decide) rfl (q_assign rfl (.t .z)) ?_
 refine FJ.sl rfl ?_
 refine FJ.schN ?_
 refine FJ.drawN (by kernel_rfl) ?_
 refine FJ.then_ (FJ.ret (FJ.thenR ?_))
 refine FJ.upR (fun l w h => hupz14 _ _ (hupz19 _ _ (hupz25 _ _ (hupz39 _ _ (hupz59 _ _ (hupz87 _ _ (hupz113 _ _ (h)))))))) ?_
 refine FJ.doneS (res1 rfl .z) .n ?_
 first | exact ⟨rfl, rfl⟩ | (focus (exfalso; omega)) | (focus (exfalso; simp_all; done)) | (focus (refine ⟨congrArg Value.bool ?_, rfl⟩; simp_all; done)) | (focus (refine ⟨congrArg Value.bool ?_, rfl⟩; simp_all; omega)) -- 1
 refine FJ.sch [(6, true), (7, true), (8, true), (9, true), (10, true), (11, true), (12, true), (13, true), (14, true), (15, true), (16, true), (17, true), (18, true), (19, false)] 0 #[true, true, true, true, true, true, true, true, true, true, true, true, true, true, true, true, true, true, true, true] (by rfl) (by kernel_rfl) ?_
 refine FJ.dskip rfl rfl rfl .z rfl rfl (by decide) rfl .z ?_
 refine FJ.dskip rfl rfl rfl (.s .z) rfl rfl (by decide) rfl .z ?_
 refine FJ.dskip rfl rfl rfl (.s (.s .z)) rfl rfl (by decide) rfl .z ?_
 refine FJ.dskip rfl rfl rfl (.s (.s (.s .z))) rfl rfl (by decide) rfl .z ?_
 refine FJ.dskip rfl rfl rfl (.s4 .z) rfl rfl (by decide) rfl .z ?_
 refine FJ.dq rfl rfl rfl (by decide) rfl .z (q_pickF rfl (.t (.s4 (.s .z))) .c) (FJ.dq rfl rfl rfl (by decide) rfl .z (q_move rfl (.t .z)) ?_)
 refine FJ.dskip rfl rfl rfl .z rfl rfl (by decide) rfl .z ?_
 refine FJ.dskip rfl rfl rfl (.s .z) rfl rfl (by decide) rfl .z ?_
 refine FJ.dskip rfl rfl rfl (.s (.s .z)) rfl rfl (by decide) rfl .z ?_
 refine FJ.dskip rfl rfl rfl (.s (.s (.s .z))) rfl rfl (by decide) rfl .z ?_
 refine FJ.dskip rfl rfl rfl (.s4 .z) rfl rfl (by decide) rfl .z ?_
 refine FJ.dq rfl rfl rfl (by decide) rfl .z (q_pickF rfl (.t (.s4 (.s .z))) .c) (FJ.er (.s16 (.s16 (.s4 (.s4 (.s (.s (.s .z))))))) ?_)
 refine FJ.q (goes_sch rfl rfl) rfl (by decide) rfl (q_assign rfl (.t .z)) ?_
 refine FJ.sl rfl ?_
 refine FJ.schN ?_
 refine FJ.drawN (by kernel_rfl) ?_
 refine FJ.then_ (FJ.ret (FJ.thenR ?_))
 refine FJ.upR (fun l w h => hupz14 _ _ (hupz19 _ _ (hupz25 _ _ (hupz39 _ _ (hupz59 _ _ (hupz87 _ _ (hupz113 _ _ (h)))))))) ?_
 refine FJ.doneS (res1 rfl .z) .n ?_
 first | exact ⟨rfl, rfl⟩ | (focus (exfalso; omega)) | (focus (exfalso; simp_all; done)) | (focus (refine ⟨congrArg Value.bool ?_, rfl⟩; simp_all; done)) | (focus (refine ⟨congrArg Value.bool ?_, rfl⟩; simp_all; omega)) -- 1
 refine FJ.skip (FJ.then_ (FJ.seq (FJ.seq (FJ.region ?_))))
 refine FJ.ql rfl (q_fieldAddr rfl (.t (.s4 (.s4 (.s (.s (.s .z)))))) (fun _ => fa_27_1 _ _)) (FJ.ql rfl (q_fieldAddrA (k := 1) rfl (.t .z) (fun _ => fa_25_0 _ _) rfl) (FJ.ql rfl (q_load rfl ag_22 (.t .z) (WS.row (.s .z) rfl)) (FJ.ql rfl (q_len rfl u_22 (.t .z)) (FJ.ql rfl (q_fieldAddr rfl (.t (.s16 (.s4 .z))) (fun _ => fa_25_0 _ _)) ?_))))
 refine FJ.ql rfl (q_load rfl ag_22 (.t .z) (WS.row (.s (.s .z)) rfl)) (FJ.ql rfl (q_len rfl u_22 (.t .z)) (FJ.ql rfl (q_neq rfl (.t (.s (.s (.s .z)))) (.t .z)) (FJ.ql rfl (q_move rfl (.t .z)) ?_)))
 refine FJ.caseN .z (fun g147 => ?_) (fun g147 => ?_)
 refine FJ.skipl rfl rfl .z rfl rfl (by decide) rfl ?_
 refine FJ.skipl rfl rfl (.s .z) rfl rfl (by decide) rfl ?_
 refine FJ.skipl rfl rfl (.s (.s .z)) rfl rfl (by decide) rfl ?_
 refine FJ.skipl rfl rfl (.s (.s (.s .z))) rfl rfl (by decide) rfl ?_
 refine FJ.skipl rfl rfl (.s4 .z) rfl rfl (by decide) rfl ?_
 refine FJ.skipl rfl rfl (.s4 (.s .z)) rfl rfl (by decide) rfl ?_
 refine FJ.skipl rfl rfl (.s4 (.s (.s .z))) rfl rfl (by decide) rfl ?_
 refine FJ.skipl rfl rfl (.s4 (.s (.s (.s .z)))) rfl rfl (by decide) rfl ?_
 refine FJ.ql rfl (q_pickT rfl (.t (.s4 (.s4 .z))) .c) (FJ.ql rfl (q_move rfl (.t .z)) ?_)
 refine FJ.skipl rfl rfl .z rfl rfl (by decide) rfl ?_
 refine FJ.skipl rfl rfl (.s .z) rfl rfl (by decide) rfl ?_
 refine FJ.skipl rfl rfl (.s (.s .z)) rfl rfl (by decide) rfl ?_
 refine FJ.skipl rfl rfl (.s (.s (.s .z))) rfl rfl (by decide) rfl ?_
 refine FJ.skipl rfl rfl (.s4 .z) rfl rfl (by decide) rfl ?_
 refine FJ.skipl rfl rfl (.s4 (.s .z)) rfl rfl (by decide) rfl ?_
 refine FJ.skipl rfl rfl (.s4 (.s (.s .z))) rfl rfl (by decide) rfl ?_
 refine FJ.skipl rfl rfl (.s4 (.s (.s (.s .z)))) rfl rfl (by decide) rfl ?_
 refine FJ.skipl rfl rfl (.s4 (.s4 .z)) rfl rfl (by decide) rfl ?_
 refine FJ.skipl rfl rfl (.s4 (.s4 (.s .z))) rfl rfl (by decide) rfl ?_
 refine FJ.ql rfl (q_pickT rfl (.t (.s4 (.s4 (.s (.s .z))))) .c) (FJ.nil (FJ.then_ ?_))
 refine FJ.condT (.t .z) ?_
 refine FJ.seq (FJ.region (FJ.er (.s16 (.s16 (.s16 (.s4 (.s (.s .z)))))) (FJ.ql rfl (q_assign rfl .c) (FJ.nil ?_))))
 refine FJ.then_ (FJ.ret (FJ.thenR ?_))
 refine FJ.upR (fun l w h => hupz14 _ _ (hupz19 _ _ (hupz25 _ _ (hupz39 _ _ (hupz59 _ _ (hupz87 _ _ (hupz113 _ _ (h)))))))) ?_
 refine FJ.doneS (res1 rfl .z) .n ?_
 exfalso; obtain ⟨L0, L1, L2, L3, L4, L5, L6⟩ := LK (by omega); (have e3 := congrArg List.length L3; have e4 := congrArg List.length L4; simp only [List.length_nil] at e3 e4; omega)
 refine FJ.q (goes_listg rfl rfl .z) rfl (by decide) rfl (q_fieldAddr rfl (.t (.s16 (.s .z))) (fun _ => fa_27_1 _ _)) ?_
 refine FJ.q (goes_listg rfl rfl (.s .z)) rfl (by decide) rfl (q_fieldAddrA (k := 1) rfl (.t .z) (fun _ => fa_25_0 _ _) rfl) ?_
 refine FJ.q (goes_listg rfl rfl (.s (.s .z))) rfl (by decide) rfl (q_load rfl ag_22 (.t .z) (WS.row .z rfl)) ?_
 refine FJ.q (goes_listg rfl rfl (.s (.s (.s .z)))) rfl (by decide) rfl (q_len rfl u_22 (.t .z)) ?_
 refine FJ.q (goes_listg rfl rfl (.s4 .z)) rfl (by decide) rfl (q_fieldAddr rfl (.t (.s16 (.s4 (.s4 (.s4 (.s .z)))))) (fun _ => fa_25_0 _ _)) ?_
 refine FJ.q (goes_listg rfl rfl (.s4 (.s .z))) rfl (by decide) rfl (q_load rfl ag_22 (.t .z) (WS.row (.s (.s .z)) rfl)) ?_
 refine FJ.q (goes_listg rfl rfl (.s4 (.s (.s .z)))) rfl (by decide) rfl (q_len rfl u_22 (.t .z)) ?_
 refine FJ.q (goes_listg rfl rfl (.s4 (.s (.s (.s .z))))) rfl (by decide) rfl (q_neq rfl (.t (.s (.s (.s .z)))) (.t .z)) ?_
 refine FJ.ql rfl (q_pickF rfl (.t (.s4 (.s4 .z))) (.t .z)) (FJ.ql rfl (q_move rfl (.t .z)) ?_)
 refine FJ.caseN .z (fun g148 => ?_) (fun g148 => ?_)
 refine FJ.skipl rfl rfl .z rfl rfl (by decide) rfl ?_
 refine FJ.skipl rfl rfl (.s .z) rfl rfl (by decide) rfl ?_
 refine FJ.skipl rfl rfl (.s (.s .z)) rfl rfl (by decide) rfl ?_
 refine FJ.skipl rfl rfl (.s (.s (.s .z))) rfl rfl (by decide) rfl ?_
 refine FJ.skipl rfl rfl (.s4 .z) rfl rfl (by decide) rfl ?_
 refine FJ.skipl rfl rfl (.s4 (.s .z)) rfl rfl (by decide) rfl ?_
 refine FJ.skipl rfl rfl (.s4 (.s (.s .z))) rfl rfl (by decide) rfl ?_
 refine FJ.skipl rfl rfl (.s4 (.s (.s (.s .z)))) rfl rfl (by decide) rfl ?_
 refine FJ.skipl rfl rfl (.s4 (.s4 .z)) rfl rfl (by decide) rfl ?_
 refine FJ.skipl rfl rfl (.s4 (.s4 (.s .z))) rfl rfl (by decide) rfl ?_
 refine FJ.ql rfl (q_pickT rfl (.t (.s4 (.s4 (.s (.s .z))))) .c) (FJ.nil (FJ.then_ ?_))
 refine FJ.condT (.t .z) ?_
 refine FJ.seq (FJ.region (FJ.er (.s16 (.s16 (.s16 (.s4 (.s (.s .z)))))) (FJ.ql rfl (q_assign rfl .c) (FJ.nil ?_))))
 refine FJ.then_ (FJ.ret (FJ.thenR ?_))
 refine FJ.upR (fun l w h => hupz14 _ _ (hupz19 _ _ (hupz25 _ _ (hupz39 _ _ (hupz59 _ _ (hupz87 _ _ (hupz113 _ _ (h)))))))) ?_
 refine FJ.doneS (res1 rfl .z) .n ?_
 exfalso; obtain ⟨L0, L1, L2, L3, L4, L5, L6⟩ := LK (by omega); (have e3 := congrArg List.length L3; have e4 := congrArg List.length L4; simp only [List.length_nil] at e3 e4; omega)
 refine FJ.q (goes_listg rfl rfl .z) rfl (by decide) rfl (q_fieldAddr rfl (.t (.s16 (.s4 (.s4 (.s (.s (.s .z))))))) (fun _ => fa_27_1 _ _)) ?_
 refine FJ.q (goes_listg rfl rfl (.s .z)) rfl (by decide) rfl (q_fieldAddrA (k := 2) rfl (.t .z) (fun _ => fa_25_1 _ _) rfl) ?_
 refine FJ.q (goes_listg rfl rfl (.s (.s .z))) rfl (by decide) rfl (q_load rfl ag_23 (.t .z) (WS.row .z rfl)) ?_
 refine FJ.q (goes_listg rfl rfl (.s (.s (.s .z)))) rfl (by decide) rfl (q_len rfl u_23 (.t .z)) ?_
 refine FJ.q (goes_listg rfl rfl (.s4 .z)) rfl (by decide) rfl (q_fieldAddr rfl (.t (.s16 (.s16 (.s (.s .z))))) (fun _ => fa_27_1 _ _)) ?_
 refine FJ.q (goes_listg rfl rfl (.s4 (.s .z))) rfl (by decide) rfl (q_fieldAddrA (k := 2) rfl (.t .z) (fun _ => fa_25_1 _ _) rfl) ?_
 refine FJ.q (goes_listg rfl rfl (.s4 (.s (.s .z)))) rfl (by decide) rfl (q_load rfl ag_23 (.t .z) (WS.row (.s .z) rfl)) ?_
 refine FJ.q (goes_listg rfl rfl (.s4 (.s (.s (.s .z))))) rfl (by decide) rfl (q_len rfl u_23 (.t .z)) ?_
 refine FJ.q (goes_listg rfl rfl (.s4 (.s4 .z))) rfl (by decide) rfl (q_add (c := (((((flushDisk d3).disk.cache).length) + (((crashDisk d3 ks4).disk.cache).length) : Nat) : Int)) rfl (.t (.s4 .z)) (.t .z) (wr (by omega) (by omega) (by omega))) ?_
 refine FJ.q (goes_listg rfl rfl (.s4 (.s4 (.s .z)))) rfl (by decide) rfl (q_neq rfl (.t .z) .c) ?_
 refine FJ.ql rfl (q_pickF rfl (.t (.s4 (.s4 (.s (.s .z))))) (.t .z)) (FJ.nil (FJ.then_ ?_))
 refine FJ.condN (.t .z) (fun b149 => ?_) (fun b149 => ?_)
 refine FJ.seq (FJ.region (FJ.er (.s16 (.s16 (.s16 (.s4 (.s (.s .z)))))) (FJ.ql rfl (q_assign rfl .c) (FJ.nil ?_))))
 refine FJ.then_ (FJ.ret (FJ.thenR ?_))
 refine FJ.upR (fun l w h => hupz14 _ _ (hupz19 _ _ (hupz25 _ _ (hupz39 _ _ (hupz59 _ _ (hupz87 _ _ (hupz113 _ _ (h)))))))) ?_
 refine FJ.doneS (res1 rfl .z) .n ?_
 exfalso; obtain ⟨L0, L1, L2, L3, L4, L5, L6⟩ := LK (by omega); (have e3 := congrArg List.length L3; have e4 := congrArg List.length L4; simp only [List.length_nil] at e3 e4; omega)
 refine FJ.skip (FJ.then_ (FJ.seq (FJ.seq (FJ.region ?_))))
 refine FJ.ql rfl (q_assign rfl .c) (FJ.nil (FJ.then_ (FJ.block ?_)))
 refine FJ.loopi (γ := Nat) (fun k => [(7, .int .i64 (k : Int)), (6, .pointer (some ⟨g140, 0, none⟩)), (5, .pointer (some ⟨g80, 0, none⟩)), (4, .slice Ao13 ks4.length co13), (3, .pointer (some ⟨g32, 0, none⟩))]) (fun k => [rowA g140 27 3 1 [.int .i64 ((flushDisk d3).code), .slice Ao85 ((flushDisk d3).disk.blocks).length co85, .slice Ao86 ((flushDisk d3).disk.cache).length co86], rowA g80 27 3 1 [.int .i64 ((crashDisk d3 ks4).code), .slice Ao37 ((crashDisk d3 ks4).disk.blocks).length co37, .slice Ao38 ((crashDisk d3 ks4).disk.cache).length co38], rowA g32 25 2 1 [.slice Ao11 d3.blocks.length co11, .slice Ao12 d3.cache.length co12]]) (fun k => k ≤ d3.blocks.length) (fun k => d3.blocks.length - k) 0 (Nat.zero_le _) (.c .z (.c (.s16 (.s16 (.s4 (.s (.s (.s .z)))))) (.c (.s16 (.s16 (.s4 (.s4 (.s (.s .z)))))) (.c (.s16 (.s16 (.s4 (.s4 (.s4 (.s (.s .z))))))) (.c (.s16 (.s16 (.s4 (.s4 (.s4 (.s (.s (.s .z)))))))) .n))))) (fun _ h => h.sel (.c .z (.c .z (.c .z .n)))) ?_
 rintro k hk
 refine FJ.seq (FJ.seq (FJ.region (FJ.ql rfl (q_move rfl (.t .z)) (FJ.ql rfl (q_fieldAddr rfl (.t (.s4 (.s .z))) (fun _ => fa_25_0 _ _)) ?_))))
 refine FJ.ql rfl (q_load rfl ag_22 (.t .z) (WS.row (.s (.s .z)) rfl)) (FJ.ql rfl (q_len rfl u_22 (.t .z)) (FJ.ql rfl (q_lss rfl (.t (.s (.s (.s .z)))) (.t .z)) (FJ.nil (FJ.then_ ?_))))
 refine FJ.condP (.t .z) (fun b150 => ?_) (fun b150 => ?_)
 refine FJ.skip (FJ.then_ (FJ.seq (FJ.block (FJ.seq ?_))))
 refine FJ.region (FJ.ql rfl (q_fieldAddr rfl (.t (.s4 (.s4 (.s .z)))) (fun _ => fa_25_0 _ _)) (FJ.ql rfl (q_load rfl ag_22 (.t .z) (WS.row (.s (.s .z)) rfl)) (FJ.ql rfl (q_move rfl (.t (.s4 (.s (.s (.s .z)))))) ?_)))
 obtain ⟨ad151, hAad151, hrad151⟩ := (ro_he hrz14) (by omega)
 subst hAad151
 obtain ⟨x152, hx152⟩ := get_ex (xs := d3.blocks) (j := k) (by omega)
 obtain ⟨ece153, hre153, hFe153, hce153⟩ := hrad151.elem hx152
 obtain ⟨ue153, rfl⟩ := sl_one hre153
 obtain ⟨Ae153, ce153, rfl, hle153, hme153, hbe153, hee153⟩ := ro_form hre153
 refine FJ.ql rfl (q_indexAddr (j := k) rfl u_22 sz_40 (.t (.s .z)) (.t .z) rfl (by omega)) ?_
 refine FJ.ql rfl (q_load rfl ag_40 (.t .z) (WS.el0 hFe153 hce153 rfl)) (FJ.ql rfl (q_assign rfl (.t .z)) (FJ.nil (FJ.then_ (FJ.seq ?_))))
 refine FJ.region (FJ.ql rfl (q_fieldAddr rfl (.t (.s4 (.s4 (.s4 (.s (.s (.s .z))))))) (fun _ => fa_25_0 _ _)) (FJ.ql rfl (q_load rfl ag_22 (.t .z) (WS.row (.s (.s .z)) rfl)) (FJ.ql rfl (q_move rfl (.t (.s4 (.s4 (.s4 (.s .z)))))) ?_)))
 refine FJ.ql rfl (q_indexAddr (j := k) rfl u_22 sz_40 (.t (.s .z)) (.t .z) rfl (by omega)) ?_
 refine FJ.ql rfl (q_load rfl ag_40 (.t .z) (WS.el0 hFe153 hce153 rfl)) (FJ.ql rfl (q_assign rfl (.t .z)) (FJ.nil (FJ.then_ (FJ.seq ?_))))
 refine FJ.seq (FJ.region (FJ.ql rfl (q_assign rfl .c) (FJ.nil (FJ.then_ ?_))))
 refine FJ.block ?_
 refine FJ.loopi (γ := Nat × (List Int) × (Option Addr) × Nat × (List Int) × (Option Addr) × Nat) (fun ⟨q, wq, Awq, cwq, lq, Alq, clq⟩ => [(10, .int .i64 (q : Int)), (9, .slice Alq lq.length clq), (8, .slice Awq wq.length cwq), (7, .int .i64 (k : Int)), (6, .pointer (some ⟨g140, 0, none⟩)), (5, .pointer (some ⟨g80, 0, none⟩)), (4, .slice Ao13 ks4.length co13), (3, .pointer (some ⟨g32, 0, none⟩))]) (fun ⟨q, wq, Awq, cwq, lq, Alq, clq⟩ => [rowA g140 27 3 1 [.int .i64 ((flushDisk d3).code), .slice Ao85 ((flushDisk d3).disk.blocks).length co85, .slice Ao86 ((flushDisk d3).disk.cache).length co86], rowA g80 27 3 1 [.int .i64 ((crashDisk d3 ks4).code), .slice Ao37 ((crashDisk d3 ks4).disk.blocks).length co37, .slice Ao38 ((crashDisk d3 ks4).disk.cache).length co38], rowA g32 25 2 1 [.slice (some ad151) d3.blocks.length co11, .slice Ao12 d3.cache.length co12]]) (fun ⟨q, wq, Awq, cwq, lq, Alq, clq⟩ => q ≤ d3.cache.length ∧ kSl_2.ro w0 (FF w0 S0) wq [.slice Awq wq.length cwq] ∧ kSl_2.ro w0 (FF w0 S0) lq [.slice Alq lq.length clq] ∧ (keepN false ks4 d3.cache d3.blocks q)[k]? = some wq ∧ (keepN true [] d3.cache d3.blocks q)[k]? = some lq) (fun ⟨q, wq, Awq, cwq, lq, Alq, clq⟩ => d3.cache.length - q) (0, x152, Ae153, ce153, x152, Ae153, ce153) ⟨Nat.zero_le _, hre153, hre153, hx152, hx152⟩ (.c .z (.c (.s .z) (.c (.s4 (.s (.s (.s .z)))) (.c (.s16 (.s (.s .z))) (.c (.s16 (.s (.s (.s .z)))) (.c (.s16 (.s4 .z)) (.c (.s16 (.s4 (.s .z))) (.c (.s16 (.s4 (.s (.s .z)))) .n)))))))) (fun _ h => h.sel (.c .z (.c .z (.c .z .n)))) ?_
 rintro ⟨q, wq, Awq, cwq, lq, Alq, clq⟩ ⟨hq, hwq, hlq, hWq, hLq⟩
 refine FJ.seq (FJ.seq (FJ.region (FJ.ql rfl (q_move rfl (.t .z)) (FJ.ql rfl (q_fieldAddr rfl (.t (.s4 (.s4 .z))) (fun _ => fa_25_1 _ _)) ?_))))
 refine FJ.ql rfl (q_load rfl ag_23 (.t .z) (WS.row (.s (.s .z)) rfl)) (FJ.ql rfl (q_len rfl u_23 (.t .z)) (FJ.ql rfl (q_lss rfl (.t (.s (.s (.s .z)))) (.t .z)) (FJ.nil (FJ.then_ ?_))))
 refine FJ.condP (.t .z) (fun b157 => ?_) (fun b157 => ?_)
 refine FJ.skip (FJ.then_ (FJ.seq (FJ.block (FJ.seq ?_))))
 refine FJ.region (FJ.ql rfl (q_fieldAddr rfl (.t (.s4 (.s4 (.s4 .z)))) (fun _ => fa_25_1 _ _)) (FJ.ql rfl (q_load rfl ag_23 (.t .z) (WS.row (.s (.s .z)) rfl)) (FJ.ql rfl (q_move rfl (.t (.s4 (.s (.s (.s .z)))))) ?_)))
 obtain ⟨ad158, hAad158, hrad158⟩ := (ro_he hrz19) (by omega)
 subst hAad158
 obtain ⟨x159, hx159⟩ := get_ex (xs := d3.cache) (j := q) (by omega)
 obtain ⟨ece160, hre160, hFe160, hce160⟩ := hrad158.elem hx159
 obtain ⟨ue160_1, rfl, he160_1⟩ := kT_57_ro hre160
 obtain ⟨Ae160_1, ce160_1, rfl, hle160_1, hme160_1, hbe160_1, hee160_1⟩ := ro_form he160_1
 have hpx159 := ((diskOk (LK (by omega)).1).2.2.2 _ (List.mem_of_getElem? hx159)).1; unfold placeIn at hpx159
 refine FJ.ql rfl (q_indexAddr (j := q) rfl u_23 sz_57 (.t (.s .z)) (.t .z) rfl (by omega)) ?_
 refine FJ.ql rfl (q_fieldAddr rfl (.t .z) (fun _ => fa_57_0 _ _)) (FJ.ql rfl (q_load rfl ag_2 (.t .z) (WS.el hFe160 hce160 rfl)) (FJ.ql rfl (q_move rfl (.t (.s4 (.s4 (.s4 (.s (.s .z))))))) (FJ.ql rfl (q_eql rfl (.t (.s .z)) (.t .z)) (FJ.nil ?_))))
 refine FJ.then_ ?_
 refine FJ.condP (.t .z) (fun b162 => ?_) (fun b162 => ?_)
 refine FJ.seq (FJ.region (FJ.ql rfl (q_fieldAddr rfl (.t (.s16 (.s4 .z))) (fun _ => fa_25_1 _ _)) (FJ.ql rfl (q_load rfl ag_23 (.t .z) (WS.row (.s (.s .z)) rfl)) (FJ.ql rfl (q_move rfl (.t (.s4 (.s4 (.s4 (.s (.s (.s .z)))))))) ?_))))
 refine FJ.ql rfl (q_indexAddr (j := q) rfl u_23 sz_57 (.t (.s .z)) (.t .z) rfl (by omega)) ?_
 refine FJ.ql rfl (q_fieldAddr rfl (.t .z) (fun _ => fa_57_1 _ _)) (FJ.ql rfl (q_load rfl ag_40 (.t .z) (WS.el hFe160 hce160 rfl)) (FJ.er (.s16 (.s4 .z)) (FJ.ql rfl (q_assign rfl (.t .z)) (FJ.nil ?_))))
 refine FJ.then_ (FJ.seq (FJ.region (FJ.ql rfl (q_move rfl (.t (.s16 (.s4 .z)))) (FJ.ql rfl (q_move rfl (.t (.s16 (.s4 (.s4 (.s (.s .z))))))) ?_))))
 refine FJ.ql rfl (q_len rfl u_51 (.t .z)) (FJ.ql rfl (q_lss rfl (.t (.s (.s .z))) (.t .z)) (FJ.ql rfl (q_move rfl (.t .z)) ?_))
 refine FJ.caseP .z (fun g163 => ?_) (fun g163 => ?_)
 refine FJ.q (goes_listg rfl rfl .z) rfl (by decide) rfl (q_move rfl (.t (.s16 (.s4 (.s4 (.s4 (.s (.s .z)))))))) ?_
 refine FJ.q (goes_listg rfl rfl (.s .z)) rfl (by decide) rfl (q_move rfl (.t (.s16 (.s4 (.s4 (.s (.s .z))))))) ?_
 obtain ⟨ad164, hAad164, hrad164⟩ := (ro_he hrz25) (by omega)
 subst hAad164
 obtain ⟨x165, hx165⟩ := get_ex (xs := ks4) (j := q) (by omega)
 obtain ⟨ece166, hre166, hFe166, hce166⟩ := hrad164.elem hx165
 obtain ⟨rfl, se166⟩ := hre166
 refine FJ.q (goes_listg rfl rfl (.s (.s .z))) rfl (by decide) rfl (q_indexAddr (j := q) rfl u_51 sz_4 (.t (.s .z)) (.t .z) rfl (by omega)) ?_
 refine FJ.q (goes_listg rfl rfl (.s (.s (.s .z)))) rfl (by decide) rfl (q_load rfl ag_4 (.t .z) (WS.el0 hFe166 hce166 rfl)) ?_
 refine FJ.ql rfl (q_pickT rfl (.t (.s4 .z)) (.t .z)) (FJ.nil (FJ.then_ ?_))
 refine FJ.cond (.t .z) (fun b167 => ?_) (fun b167 => ?_)
 refine FJ.region (FJ.ql rfl (q_fieldAddr rfl (.t (.s16 (.s16 (.s4 .z)))) (fun _ => fa_25_1 _ _)) (FJ.ql rfl (q_load rfl ag_23 (.t .z) (WS.row (.s (.s .z)) rfl)) (FJ.ql rfl (q_move rfl (.t (.s16 (.s16 .z)))) ?_)))
 refine FJ.ql rfl (q_indexAddr (j := q) rfl u_23 sz_57 (.t (.s .z)) (.t .z) rfl (by omega)) ?_
 refine FJ.ql rfl (q_fieldAddr rfl (.t .z) (fun _ => fa_57_1 _ _)) (FJ.ql rfl (q_load rfl ag_40 (.t .z) (WS.el hFe160 hce160 rfl)) (FJ.er (.s16 (.s16 (.s4 (.s .z)))) (FJ.ql rfl (q_assign rfl (.t .z)) (FJ.nil ?_))))
 refine FJ.inBN (FJ.then_ (FJ.region (FJ.ql rfl (q_move rfl (.t (.s16 (.s16 (.s4 (.s .z)))))) ?_)))
 refine FJ.ql rfl (q_add (c := ((q + 1 : Nat) : Int)) rfl (.t .z) .c (wr (by omega) (by omega) (by omega))) ?_
 refine FJ.er (.s16 (.s16 (.s4 (.s (.s (.s .z)))))) (FJ.ql rfl (q_assign rfl (.t .z)) (FJ.nil ?_))
 refine FJ.again ((q + 1), x159.words, Ae160_1, ce160_1, x159.words, Ae160_1, ce160_1) ⟨by omega, ⟨he160_1, he160_1, (by first | exact keepN_ne hx159 (by omega) hWq | exact keepN_eq hx159 (by omega) (by omega) (by (rw [getD_in hx165, show x165 = true by assumption]; rfl)) | exact keepN_no hx159 (by first | (rw [getD_out (by assumption)]; rfl) | (rw [getD_in hx165, show x165 = false by assumption]; rfl)) hWq), (by first | exact keepN_ne hx159 (by omega) hLq | exact keepN_eq hx159 (by omega) (by omega) rfl)⟩⟩ (by first | omega | (dsimp only; omega)) (.c .z (.c (.s16 (.s4 .z)) (.c (.s (.s (.s .z))) (.c (.s16 (.s16 (.s4 (.s4 .z)))) (.c (.s16 (.s16 (.s4 (.s4 (.s .z))))) (.c (.s16 (.s16 (.s4 (.s4 (.s (.s .z)))))) (.c (.s16 (.s16 (.s4 (.s4 (.s (.s (.s .z))))))) (.c (.s16 (.s16 (.s4 (.s4 (.s4 .z))))) .n)))))))) (fun _ h => h.sel (.c .z (.c .z (.c .z .n))))
 refine FJ.skip (FJ.inBN (FJ.then_ (FJ.region (FJ.ql rfl (q_move rfl (.t (.s16 (.s4 (.s4 (.s4 (.s (.s .z)))))))) ?_))))
 refine FJ.ql rfl (q_add (c := ((q + 1 : Nat) : Int)) rfl (.t .z) .c (wr (by omega) (by omega) (by omega))) ?_
 refine FJ.er (.s16 (.s16 .z)) (FJ.ql rfl (q_assign rfl (.t .z)) (FJ.nil ?_))
 refine FJ.again ((q + 1), wq, Awq, cwq, x159.words, Ae160_1, ce160_1) ⟨by omega, ⟨hwq, he160_1, (by first | exact keepN_ne hx159 (by omega) hWq | exact keepN_eq hx159 (by omega) (by omega) (by (rw [getD_in hx165, show x165 = true by assumption]; rfl)) | exact keepN_no hx159 (by first | (rw [getD_out (by assumption)]; rfl) | (rw [getD_in hx165, show x165 = false by assumption]; rfl)) hWq), (by first | exact keepN_ne hx159 (by omega) hLq | exact keepN_eq hx159 (by omega) (by omega) rfl)⟩⟩ (by first | omega | (dsimp only; omega)) (.c .z (.c (.s4 (.s4 (.s4 (.s .z)))) (.c (.s16 (.s16 (.s .z))) (.c (.s16 (.s16 (.s (.s .z)))) (.c (.s16 (.s16 (.s (.s (.s .z))))) (.c (.s16 (.s16 (.s4 .z))) (.c (.s16 (.s16 (.s4 (.s .z)))) (.c (.s16 (.s16 (.s4 (.s (.s .z))))) .n)))))))) (fun _ h => h.sel (.c .z (.c .z (.c .z .n))))
 refine FJ.skipl rfl rfl .z rfl rfl (by decide) rfl ?_
 refine FJ.skipl rfl rfl (.s .z) rfl rfl (by decide) rfl ?_
 refine FJ.skipl rfl rfl (.s (.s .z)) rfl rfl (by decide) rfl ?_
 refine FJ.skipl rfl rfl (.s (.s (.s .z))) rfl rfl (by decide) rfl ?_
 refine FJ.ql rfl (q_pickF rfl (.t (.s4 .z)) .c) (FJ.nil (FJ.then_ ?_))
 refine FJ.condF (.t .z) ?_
 refine FJ.skip (FJ.inBN (FJ.then_ (FJ.region (FJ.ql rfl (q_move rfl (.t (.s16 (.s4 (.s4 (.s4 (.s (.s .z)))))))) ?_))))
 refine FJ.ql rfl (q_add (c := ((q + 1 : Nat) : Int)) rfl (.t .z) .c (wr (by omega) (by omega) (by omega))) ?_
 refine FJ.er (.s16 (.s16 .z)) (FJ.ql rfl (q_assign rfl (.t .z)) (FJ.nil ?_))
 refine FJ.again ((q + 1), wq, Awq, cwq, x159.words, Ae160_1, ce160_1) ⟨by omega, ⟨hwq, he160_1, (by first | exact keepN_ne hx159 (by omega) hWq | exact keepN_eq hx159 (by omega) (by omega) (by rfl) | exact keepN_no hx159 (by first | (rw [getD_out (by assumption)]; rfl)) hWq), (by first | exact keepN_ne hx159 (by omega) hLq | exact keepN_eq hx159 (by omega) (by omega) rfl)⟩⟩ (by first | omega | (dsimp only; omega)) (.c .z (.c (.s4 (.s4 (.s4 (.s .z)))) (.c (.s16 (.s16 (.s .z))) (.c (.s16 (.s16 (.s (.s .z)))) (.c (.s16 (.s16 (.s (.s (.s .z))))) (.c (.s16 (.s16 (.s4 .z))) (.c (.s16 (.s16 (.s4 (.s .z)))) (.c (.s16 (.s16 (.s4 (.s (.s .z))))) .n)))))))) (fun _ h => h.sel (.c .z (.c .z (.c .z .n))))
 refine FJ.skip (FJ.inBN (FJ.then_ (FJ.region (FJ.ql rfl (q_move rfl (.t (.s4 (.s4 (.s4 (.s .z)))))) ?_))))
 refine FJ.ql rfl (q_add (c := ((q + 1 : Nat) : Int)) rfl (.t .z) .c (wr (by omega) (by omega) (by omega))) ?_
 refine FJ.er (.s4 (.s4 (.s4 (.s (.s (.s .z)))))) (FJ.ql rfl (q_assign rfl (.t .z)) (FJ.nil ?_))
 refine FJ.again ((q + 1), wq, Awq, cwq, lq, Alq, clq) ⟨by omega, ⟨hwq, hlq, (by first | exact keepN_ne hx159 (by omega) hWq | exact keepN_eq hx159 (by omega) (by omega) (by rfl) | exact keepN_no hx159 (by first | (rw [getD_out (by assumption)]; rfl)) hWq), (by first | exact keepN_ne hx159 (by omega) hLq | exact keepN_eq hx159 (by omega) (by omega) rfl)⟩⟩ (by first | omega | (dsimp only; omega)) (.c .z (.c (.s16 .z) (.c (.s16 (.s .z)) (.c (.s16 (.s (.s .z))) (.c (.s16 (.s (.s (.s .z)))) (.c (.s16 (.s4 .z)) (.c (.s16 (.s4 (.s .z))) (.c (.s16 (.s4 (.s (.s .z)))) .n)))))))) (fun _ h => h.sel (.c .z (.c .z (.c .z .n))))
 refine FJ.exit (FJ.thenE (FJ.thenE (FJ.inB (FJ.then_ ?_))))
 refine FJ.seq (FJ.region (FJ.ql rfl (q_fieldAddr rfl (.t (.s4 (.s4 (.s (.s .z))))) (fun _ => fa_27_1 _ _)) (FJ.ql rfl (q_fieldAddrA (k := 1) rfl (.t .z) (fun _ => fa_25_0 _ _) rfl) (FJ.ql rfl (q_load rfl ag_22 (.t .z) (WS.row (.s .z) rfl)) ?_))))
 refine FJ.ql rfl (q_move rfl (.t (.s4 (.s4 (.s (.s (.s .z))))))) ?_
 obtain ⟨ad168, hAad168, hrad168⟩ := (ro_he hrz39) (by omega)
 subst hAad168
 obtain ⟨x169, hx169⟩ := get_ex (xs := (crashDisk d3 ks4).disk.blocks) (j := k) (by omega)
 obtain ⟨ece170, hre170, hFe170, hce170⟩ := hrad168.elem hx169
 obtain ⟨ue170, rfl⟩ := sl_one hre170
 obtain ⟨Ae170, ce170, rfl, hle170, hme170, hbe170, hee170⟩ := ro_form hre170
 refine FJ.ql rfl (q_indexAddr (j := k) rfl u_22 sz_40 (.t (.s .z)) (.t .z) rfl (by omega)) ?_
 refine FJ.ql rfl (q_load rfl ag_40 (.t .z) (WS.el0 hFe170 hce170 rfl)) (FJ.ql rfl (q_move rfl (.t (.s4 (.s4 (.s4 (.s .z)))))) ?_)
 refine FJ.call (goes_list rfl) rfl (by decide) rfl (c_call rfl Try.func39 rfl rfl (args2 (.t (.s .z)) (.t .z))) .n (fun w1 S1 hs tr => c_39 (tr.ctx hre170) (tr.ctx hwq)) ?_
 rintro _ _ ⟨rfl, rfl⟩
 refine FJ.cat .n ?_
 refine FJ.ql rfl (q_not rfl (.t .z)) (FJ.ql rfl (q_move rfl (.t .z)) ?_)
 refine FJ.caseN .z (fun g172 => ?_) (fun g172 => ?_)
 refine FJ.skipl rfl rfl .z rfl rfl (by decide) rfl ?_
 refine FJ.skipl rfl rfl (.s .z) rfl rfl (by decide) rfl ?_
 refine FJ.skipl rfl rfl (.s (.s .z)) rfl rfl (by decide) rfl ?_
 refine FJ.skipl rfl rfl (.s (.s (.s .z))) rfl rfl (by decide) rfl ?_
 refine FJ.skipl rfl rfl (.s4 .z) rfl rfl (by decide) rfl ?_
 refine FJ.skipl rfl rfl (.s4 (.s .z)) rfl rfl (by decide) rfl ?_
 refine FJ.skipl rfl rfl (.s4 (.s (.s .z))) rfl rfl (by decide) rfl ?_
 refine FJ.skipl rfl rfl (.s4 (.s (.s (.s .z)))) rfl rfl (by decide) rfl ?_
 refine FJ.skipl rfl rfl (.s4 (.s4 .z)) rfl rfl (by decide) rfl ?_
 refine FJ.ql rfl (q_pickT rfl (.t (.s4 (.s4 (.s .z)))) .c) (FJ.ql rfl (q_move rfl (.t .z)) ?_)
 refine FJ.skipl rfl rfl .z rfl rfl (by decide) rfl ?_
 refine FJ.skipl rfl rfl (.s .z) rfl rfl (by decide) rfl ?_
 refine FJ.skipl rfl rfl (.s (.s .z)) rfl rfl (by decide) rfl ?_
 refine FJ.skipl rfl rfl (.s (.s (.s .z))) rfl rfl (by decide) rfl ?_
 refine FJ.skipl rfl rfl (.s4 .z) rfl rfl (by decide) rfl ?_
 refine FJ.skipl rfl rfl (.s4 (.s .z)) rfl rfl (by decide) rfl ?_
 refine FJ.skipl rfl rfl (.s4 (.s (.s .z))) rfl rfl (by decide) rfl ?_
 refine FJ.ql rfl (q_pickT rfl (.t (.s4 (.s (.s (.s .z))))) .c) (FJ.nil (FJ.then_ ?_))
 refine FJ.condT (.t .z) ?_
 refine FJ.seq (FJ.region (FJ.ql rfl (q_assign rfl .c) (FJ.nil (FJ.then_ ?_))))
 refine FJ.ret (FJ.inBR (FJ.thenR (FJ.thenR (FJ.inBR ?_))))
 refine FJ.thenR ?_
 refine FJ.upR (fun l w h => hupz14 _ _ (hupz19 _ _ (hupz25 _ _ (hupz39 _ _ (hupz59 _ _ (hupz87 _ _ (hupz113 _ _ (h)))))))) ?_
 refine FJ.doneS (res1 rfl .z) .n ?_
 exfalso; obtain ⟨L0, L1, L2, L3, L4, L5, L6⟩ := LK (by omega); first | (refine absurd ?_ (by assumption); rw [L1] at hx169; rw [show q = d3.cache.length by omega] at hWq; exact Option.some.inj (hx169.symm.trans hWq)) | (refine absurd ?_ (by assumption); rw [show q = d3.cache.length by omega] at hLq; rw [blockAt_1 L0 (by unfold placeIn; omega)]; exact blockL_last L0 (by omega) hLq)
 refine FJ.q (goes_listg rfl rfl .z) rfl (by decide) rfl (q_fieldAddr rfl (.t (.s16 (.s (.s (.s .z))))) (fun _ => fa_27_1 _ _)) ?_
 refine FJ.q (goes_listg rfl rfl (.s .z)) rfl (by decide) rfl (q_fieldAddrA (k := 1) rfl (.t .z) (fun _ => fa_25_0 _ _) rfl) ?_
 refine FJ.q (goes_listg rfl rfl (.s (.s .z))) rfl (by decide) rfl (q_load rfl ag_22 (.t .z) (WS.row .z rfl)) ?_
 refine FJ.q (goes_listg rfl rfl (.s (.s (.s .z)))) rfl (by decide) rfl (q_move rfl (.t (.s16 (.s4 (.s .z))))) ?_
 obtain ⟨ad173, hAad173, hrad173⟩ := (ro_he hrz87) (by omega)
 subst hAad173
 obtain ⟨x174, hx174⟩ := get_ex (xs := (flushDisk d3).disk.blocks) (j := k) (by omega)
 obtain ⟨ece175, hre175, hFe175, hce175⟩ := hrad173.elem hx174
 obtain ⟨ue175, rfl⟩ := sl_one hre175
 obtain ⟨Ae175, ce175, rfl, hle175, hme175, hbe175, hee175⟩ := ro_form hre175
 refine FJ.q (goes_listg rfl rfl (.s4 .z)) rfl (by decide) rfl (q_indexAddr (j := k) rfl u_22 sz_40 (.t (.s .z)) (.t .z) rfl (by omega)) ?_
 refine FJ.q (goes_listg rfl rfl (.s4 (.s .z))) rfl (by decide) rfl (q_load rfl ag_40 (.t .z) (WS.el0 hFe175 hce175 rfl)) ?_
 refine FJ.q (goes_listg rfl rfl (.s4 (.s (.s .z)))) rfl (by decide) rfl (q_move rfl (.t (.s16 (.s4 (.s (.s .z)))))) ?_
 refine FJ.call (goes_listg rfl rfl (.s4 (.s (.s (.s .z))))) rfl (by decide) rfl (c_call rfl Try.func39 rfl rfl (args2 (.t (.s .z)) (.t .z))) .n (fun w1 S1 hs tr => c_39 (tr.ctx hre175) (tr.ctx hlq)) ?_
 rintro _ _ ⟨rfl, rfl⟩
 refine FJ.cat .n ?_
 refine FJ.q (goes_listg rfl rfl (.s4 (.s4 .z))) rfl (by decide) rfl (q_not rfl (.t .z)) ?_
 refine FJ.ql rfl (q_pickF rfl (.t (.s4 (.s4 (.s .z)))) (.t .z)) (FJ.ql rfl (q_move rfl (.t .z)) ?_)
 refine FJ.caseN .z (fun g177 => ?_) (fun g177 => ?_)
 refine FJ.skipl rfl rfl .z rfl rfl (by decide) rfl ?_
 refine FJ.skipl rfl rfl (.s .z) rfl rfl (by decide) rfl ?_
 refine FJ.skipl rfl rfl (.s (.s .z)) rfl rfl (by decide) rfl ?_
 refine FJ.skipl rfl rfl (.s (.s (.s .z))) rfl rfl (by decide) rfl ?_
 refine FJ.skipl rfl rfl (.s4 .z) rfl rfl (by decide) rfl ?_
 refine FJ.skipl rfl rfl (.s4 (.s .z)) rfl rfl (by decide) rfl ?_
 refine FJ.skipl rfl rfl (.s4 (.s (.s .z))) rfl rfl (by decide) rfl ?_
 refine FJ.ql rfl (q_pickT rfl (.t (.s4 (.s (.s (.s .z))))) .c) (FJ.nil (FJ.then_ ?_))
 refine FJ.condT (.t .z) ?_
 refine FJ.seq (FJ.region (FJ.ql rfl (q_assign rfl .c) (FJ.nil (FJ.then_ ?_))))
 refine FJ.ret (FJ.inBR (FJ.thenR (FJ.thenR (FJ.inBR ?_))))
 refine FJ.thenR ?_
 refine FJ.upR (fun l w h => hupz14 _ _ (hupz19 _ _ (hupz25 _ _ (hupz39 _ _ (hupz59 _ _ (hupz87 _ _ (hupz113 _ _ (h)))))))) ?_
 refine FJ.doneS (res1 rfl .z) .n ?_
 exfalso; obtain ⟨L0, L1, L2, L3, L4, L5, L6⟩ := LK (by omega); first | (refine absurd ?_ (by assumption); rw [L1] at hx169; rw [show q = d3.cache.length by omega] at hWq; exact Option.some.inj (hx169.symm.trans hWq)) | (refine absurd ?_ (by assumption); rw [L2] at hx174; rw [show q = d3.cache.length by omega] at hLq; exact Option.some.inj (hx174.symm.trans hLq)) | (refine absurd ?_ (by assumption); rw [show q = d3.cache.length by omega] at hLq; rw [blockAt_1 L0 (by unfold placeIn; omega)]; exact blockL_last L0 (by omega) hLq)
 refine FJ.q (goes_listg rfl rfl .z) rfl (by decide) rfl (q_loadA (cs := [.slice (some ad151) d3.blocks.length co11, .slice Ao12 d3.cache.length co12]) rfl ag_25 sz_25 (.t (.s16 (.s16 (.s .z)))) (WS.rows0 (.s (.s .z)) (fun i u h => by exact h))) ?_
 refine FJ.q (goes_listg rfl rfl (.s .z)) rfl (by decide) rfl (q_move rfl (.t (.s16 (.s4 (.s4 (.s4 (.s (.s .z)))))))) ?_
 refine FJ.call (goes_listg rfl rfl (.s (.s .z))) rfl (by decide) rfl (c_call rfl Try.func40 rfl rfl (args2 (.t (.s .z)) (.t .z))) .n (fun w1 S1 hs tr => c_40 (kT_25_mk d3 (tr.ctx hrz14) (tr.ctx hrz19)) _) ?_
 rintro _ _ ⟨v178, rfl, rfl⟩
 refine FJ.cat (.c .n) ?_
 refine FJ.know (WS.oform .z) ?_
 rintro ⟨Ao180, co180, rfl, hlo180, hmo180, hbo180⟩
 refine FJ.q (goes_listg rfl rfl (.s (.s (.s .z)))) rfl (by decide) rfl (q_field rfl (.t .z) (fun w => fv_60_1 w (.int .i64 ((blockAt d3 (k : Int)).code)) (.slice Ao180 ((blockAt d3 (k : Int)).list).length co180))) ?_
 refine FJ.q (goes_listg rfl rfl (.s4 .z)) rfl (by decide) rfl (q_move rfl (.t (.s16 (.s4 (.s4 (.s4 (.s (.s (.s .z))))))))) ?_
 refine FJ.call (goes_listg rfl rfl (.s4 (.s .z))) rfl (by decide) rfl (c_call rfl Try.func39 rfl rfl (args2 (.t (.s .z)) (.t .z))) .n (fun w1 S1 hs tr => c_39 (tr.own .z) (tr.ctx hlq)) ?_
 rintro _ _ ⟨rfl, rfl⟩
 refine FJ.cat .n ?_
 refine FJ.q (goes_listg rfl rfl (.s4 (.s (.s .z)))) rfl (by decide) rfl (q_not rfl (.t .z)) ?_
 refine FJ.ql rfl (q_pickF rfl (.t (.s4 (.s (.s (.s .z))))) (.t .z)) (FJ.nil (FJ.then_ ?_))
 refine FJ.condN (.t .z) (fun b181 => ?_) (fun b181 => ?_)
 refine FJ.seq (FJ.region (FJ.ql rfl (q_assign rfl .c) (FJ.nil (FJ.then_ ?_))))
 refine FJ.ret (FJ.inBR (FJ.thenR (FJ.thenR (FJ.inBR ?_))))
 refine FJ.thenR ?_
 refine FJ.upR (fun l w h => hupz14 _ _ (hupz19 _ _ (hupz25 _ _ (hupz39 _ _ (hupz59 _ _ (hupz87 _ _ (hupz113 _ _ (h)))))))) ?_
 refine FJ.doneS (res1 rfl .z) .n ?_
 exfalso; obtain ⟨L0, L1, L2, L3, L4, L5, L6⟩ := LK (by omega); first | (refine absurd ?_ (by assumption); rw [L1] at hx169; rw [show q = d3.cache.length by omega] at hWq; exact Option.some.inj (hx169.symm.trans hWq)) | (refine absurd ?_ (by assumption); rw [L2] at hx174; rw [show q = d3.cache.length by omega] at hLq; exact Option.some.inj (hx174.symm.trans hLq)) | (refine absurd ?_ (by assumption); rw [show q = d3.cache.length by omega] at hLq; rw [blockAt_1 L0 (by unfold placeIn; omega)]; exact blockL_last L0 (by omega) hLq)
 refine FJ.skip (FJ.inBN (FJ.then_ (FJ.region (FJ.ql rfl (q_move rfl (.t (.s16 (.s16 (.s4 (.s .z)))))) ?_))))
 refine FJ.ql rfl (q_add (c := ((k + 1 : Nat) : Int)) rfl (.t .z) .c (wr (by omega) (by omega) (by omega))) ?_
 refine FJ.er (.s16 (.s16 (.s4 (.s (.s (.s .z)))))) (FJ.ql rfl (q_assign rfl (.t .z)) (FJ.nil ?_))
 refine FJ.again (k + 1) (by omega) (by first | omega | (dsimp only; omega)) (.c .z (.c (.s16 (.s16 (.s4 (.s4 .z)))) (.c (.s16 (.s16 (.s4 (.s4 (.s .z))))) (.c (.s16 (.s16 (.s4 (.s4 (.s (.s .z)))))) (.c (.s16 (.s16 (.s4 (.s4 (.s (.s (.s .z))))))) .n))))) (fun _ h => h.sel (.c (.s .z) (.c (.s .z) (.c (.s .z) .n))))
 refine FJ.exit (FJ.thenE (FJ.thenE (FJ.inB (FJ.then_ ?_))))
 refine FJ.seq (FJ.region ?_)
 refine FJ.ql rfl (q_loadA (cs := [.slice Ao11 d3.blocks.length co11, .slice Ao12 d3.cache.length co12]) rfl ag_25 sz_25 (.t (.s4 (.s4 (.s .z)))) (WS.rows0 (.s (.s .z)) (fun i u h => by exact h))) ?_
 refine FJ.e (goes_list rfl) rfl (by decide) rfl (e_buildSliceL (ps := [(0, .int .i64 5), (1, .int .i64 6)]) (cs := [.int .i64 5, .int .i64 6]) rfl u_40 (inz inf_2) (by decide) (by intro act hact; simp only [List.map_toArray, List.map_cons, List.map_nil, (show Val _ _ _ from .c) act hact, (show Val _ _ _ from .c) act hact]) rfl rfl (by decide) rfl rfl) ?_
 rintro _ _ ⟨g182, rfl, rfl⟩
 refine FJ.turns (c := ownA kSl_2 ([5, 6] : (List Int)) [.slice (some ⟨g182, 0, none⟩) 2 2]) (.c .z .n) (fun w S h => lit_own (xs := ([5, 6] : (List Int))) h rfl (by simp) (by omega) (by omega)) ?_
 refine FJ.call (goes_list rfl) rfl (by decide) rfl (c_call rfl Try.func41 rfl rfl (args3 (.t (.s .z)) .c (.t .z))) .n (fun w1 S1 hs tr => c_41 (kT_25_mk d3 (tr.ctx hrz14) (tr.ctx hrz19)) _ (tr.own .z)) ?_
 rintro _ _ ⟨v184, v186, rfl, rfl⟩
 refine FJ.cat (.c (.c .n)) ?_
 refine FJ.know (WS.oform .z) ?_
 rintro ⟨Ao188, co188, rfl, hlo188, hmo188, hbo188⟩
 refine FJ.know (WS.oform (.s .z)) ?_
 rintro ⟨Ao189, co189, rfl, hlo189, hmo189, hbo189⟩
 refine FJ.e (goes_list rfl) rfl (by decide) rfl (e_alloc rfl z_27 rfl rfl) ?_
 rintro _ _ ⟨g190, rfl, rfl⟩
 refine FJ.es (goes_list rfl) rfl (es_store (off := 0) (cs := [.int .i64 ((putBlock d3 0 ([5, 6] : (List Int))).code), .slice Ao188 ((putBlock d3 0 ([5, 6] : (List Int))).disk.blocks).length co188, .slice Ao189 ((putBlock d3 0 ([5, 6] : (List Int))).disk.cache).length co189]) rfl sz_27 (.t .z) (.t (.s .z)) rfl (ones rfl) .z (Nat.le_of_ble_eq_true rfl) (.c .z (.c (.s .z) (.c (.s (.s .z)) .n)))) ?_
 refine FJ.nil (FJ.then_ (FJ.seq (FJ.region (FJ.ql rfl (q_fieldAddr rfl (.t (.s4 (.s4 (.s4 (.s .z))))) (fun _ => fa_25_0 _ _)) ?_))))
 refine FJ.ql rfl (q_load rfl ag_22 (.t .z) (WS.row (.s4 (.s (.s .z))) rfl)) (FJ.ql rfl (q_len rfl u_22 (.t .z)) ?_)
 refine FJ.call (goes_list rfl) rfl (by decide) rfl (c_call rfl Try.func21 rfl rfl (args1 (.t .z))) .n (fun w1 S1 hs tr => c_21 _) ?_
 rintro _ _ ⟨v191, v193, rfl, rfl⟩
 refine FJ.cat (.c (.c .n)) ?_
 refine FJ.know (WS.oform .z) ?_
 rintro ⟨Ao195, co195, rfl, hlo195, hmo195, hbo195⟩
 refine FJ.know (WS.oform (.s .z)) ?_
 rintro ⟨Ao196, co196, rfl, hlo196, hmo196, hbo196⟩
 refine FJ.e (goes_list rfl) rfl (by decide) rfl (e_alloc rfl z_27 rfl rfl) ?_
 rintro _ _ ⟨g197, rfl, rfl⟩
 refine FJ.es (goes_list rfl) rfl (es_store (off := 0) (cs := [.int .i64 ((newDisk (d3.blocks.length : Int)).code), .slice Ao195 ((newDisk (d3.blocks.length : Int)).disk.blocks).length co195, .slice Ao196 ((newDisk (d3.blocks.length : Int)).disk.cache).length co196]) rfl sz_27 (.t .z) (.t (.s .z)) rfl (ones rfl) .z (Nat.le_of_ble_eq_true rfl) (.c .z (.c (.s .z) (.c (.s (.s .z)) .n)))) ?_
 refine FJ.nil (FJ.then_ (FJ.seq (FJ.region (FJ.ql rfl (q_fieldAddr rfl (.t (.s4 (.s .z))) (fun _ => fa_27_0 _ _)) ?_))))
 refine FJ.ql rfl (q_load rfl ag_2 (.t .z) (WS.row (.s (.s (.s .z))) rfl)) (FJ.ql rfl (q_eql rfl (.t .z) .c) (FJ.ql rfl (q_fieldAddr rfl (.t (.s16 (.s4 (.s .z)))) (fun _ => fa_25_1 _ _)) (FJ.ql rfl (q_load rfl ag_23 (.t .z) (WS.row (.s4 (.s4 (.s .z))) rfl)) (FJ.ql rfl (q_len rfl u_23 (.t .z)) ?_))))
 refine FJ.ql rfl (q_eql rfl (.t .z) .c) (FJ.ql rfl (q_beql rfl u_4 (.t (.s4 .z)) (.t .z)) (FJ.ql rfl (q_move rfl (.t .z)) ?_))
 refine FJ.caseB .z (fun g198 => ?_) (fun g198 => ?_)
 refine FJ.q (goes_listg rfl rfl .z) rfl (by decide) rfl (q_fieldAddr rfl (.t (.s4 (.s4 (.s4 (.s (.s .z)))))) (fun _ => fa_27_0 _ _)) ?_
 refine FJ.q (goes_listg rfl rfl (.s .z)) rfl (by decide) rfl (q_load rfl ag_2 (.t .z) (WS.row (.s (.s (.s .z))) rfl)) ?_
 refine FJ.q (goes_listg rfl rfl (.s (.s .z))) rfl (by decide) rfl (q_neq rfl (.t .z) .c) ?_
 refine FJ.q (goes_listg rfl rfl (.s (.s (.s .z)))) rfl (by decide) rfl (q_move rfl (.t .z)) ?_
 refine FJ.caseN .z (fun g199 => ?_) (fun g199 => ?_)
 refine FJ.skipl rfl rfl .z rfl rfl (by decide) rfl ?_
 refine FJ.skipl rfl rfl (.s .z) rfl rfl (by decide) rfl ?_
 refine FJ.skipl rfl rfl (.s (.s .z)) rfl rfl (by decide) rfl ?_
 refine FJ.skipl rfl rfl (.s (.s (.s .z))) rfl rfl (by decide) rfl ?_
 refine FJ.skipl rfl rfl (.s4 .z) rfl rfl (by decide) rfl ?_
 refine FJ.skipl rfl rfl (.s4 (.s .z)) rfl rfl (by decide) rfl ?_
 refine FJ.q (goes_listg rfl rfl (.s4 (.s4 (.s (.s .z))))) rfl (by decide) rfl (q_pickT rfl (.t (.s4 (.s (.s .z)))) .c) ?_
 refine FJ.ql rfl (q_pickT rfl (.t (.s4 (.s4 (.s (.s (.s .z)))))) (.t .z)) (FJ.ql rfl (q_move rfl (.t .z)) ?_)
 refine FJ.q (goes_listg rfl rfl .z) rfl (by decide) rfl (q_fieldAddr rfl (.t (.s16 (.s4 (.s (.s .z))))) (fun _ => fa_27_0 _ _)) ?_
 refine FJ.q (goes_listg rfl rfl (.s .z)) rfl (by decide) rfl (q_load rfl ag_2 (.t .z) (WS.row .z rfl)) ?_
 refine FJ.q (goes_listg rfl rfl (.s (.s .z))) rfl (by decide) rfl (q_eql rfl (.t .z) .c) ?_
 refine FJ.ql rfl (q_pickT rfl (.t (.s (.s (.s .z)))) (.t .z)) (FJ.ql rfl (q_move rfl (.t .z)) ?_)
 refine FJ.caseP .z (fun g200 => ?_) (fun g200 => ?_)
 refine FJ.q (goes_listg rfl rfl .z) rfl (by decide) rfl (q_fieldAddr rfl (.t (.s16 (.s4 (.s4 (.s (.s (.s .z))))))) (fun _ => fa_27_1 _ _)) ?_
 refine FJ.q (goes_listg rfl rfl (.s .z)) rfl (by decide) rfl (q_fieldAddrA (k := 1) rfl (.t .z) (fun _ => fa_25_0 _ _) rfl) ?_
 refine FJ.q (goes_listg rfl rfl (.s (.s .z))) rfl (by decide) rfl (q_load rfl ag_22 (.t .z) (WS.row .z rfl)) ?_
 refine FJ.q (goes_listg rfl rfl (.s (.s (.s .z)))) rfl (by decide) rfl (q_len rfl u_22 (.t .z)) ?_
 refine FJ.q (goes_listg rfl rfl (.s4 .z)) rfl (by decide) rfl (q_fieldAddr rfl (.t (.s16 (.s16 (.s16 (.s .z))))) (fun _ => fa_25_0 _ _)) ?_
 refine FJ.q (goes_listg rfl rfl (.s4 (.s .z))) rfl (by decide) rfl (q_load rfl ag_22 (.t .z) (WS.row (.s4 (.s4 (.s .z))) rfl)) ?_
 refine FJ.q (goes_listg rfl rfl (.s4 (.s (.s .z)))) rfl (by decide) rfl (q_len rfl u_22 (.t .z)) ?_
 refine FJ.q (goes_listg rfl rfl (.s4 (.s (.s (.s .z))))) rfl (by decide) rfl (q_eql rfl (.t (.s (.s (.s .z)))) (.t .z)) ?_
 refine FJ.ql rfl (q_pickT rfl (.t (.s4 (.s4 .z))) (.t .z)) (FJ.ql rfl (q_assign rfl (.t .z)) (FJ.nil (FJ.then_ (FJ.ret ?_))))
 refine FJ.upR (fun l w h => hupz14 _ _ (hupz19 _ _ (hupz25 _ _ (hupz39 _ _ (hupz59 _ _ (hupz87 _ _ (hupz113 _ _ (h)))))))) ?_
 refine FJ.doneS (res1 rfl .z) .n ?_
 first | exact ⟨rfl, rfl⟩ | (focus (exfalso; omega)) | (focus (exfalso; simp_all; done)) | (focus (refine ⟨congrArg Value.bool ?_, rfl⟩; simp_all; done)) | (focus (refine ⟨congrArg Value.bool ?_, rfl⟩; simp_all; omega)) -- 4
 refine FJ.skipl rfl rfl .z rfl rfl (by decide) rfl ?_
 refine FJ.skipl rfl rfl (.s .z) rfl rfl (by decide) rfl ?_
 refine FJ.skipl rfl rfl (.s (.s .z)) rfl rfl (by decide) rfl ?_
 refine FJ.skipl rfl rfl (.s (.s (.s .z))) rfl rfl (by decide) rfl ?_
 refine FJ.skipl rfl rfl (.s4 .z) rfl rfl (by decide) rfl ?_
 refine FJ.skipl rfl rfl (.s4 (.s .z)) rfl rfl (by decide) rfl ?_
 refine FJ.skipl rfl rfl (.s4 (.s (.s .z))) rfl rfl (by decide) rfl ?_
 refine FJ.skipl rfl rfl (.s4 (.s (.s (.s .z)))) rfl rfl (by decide) rfl ?_
 refine FJ.ql rfl (q_pickF rfl (.t (.s4 (.s4 .z))) .c) (FJ.ql rfl (q_assign rfl (.t .z)) (FJ.nil (FJ.then_ (FJ.ret ?_))))
 refine FJ.upR (fun l w h => hupz14 _ _ (hupz19 _ _ (hupz25 _ _ (hupz39 _ _ (hupz59 _ _ (hupz87 _ _ (hupz113 _ _ (h)))))))) ?_
 refine FJ.doneS (res1 rfl .z) .n ?_
 first | exact ⟨rfl, rfl⟩ | (focus (exfalso; omega)) | (focus (exfalso; simp_all; done)) | (focus (refine ⟨congrArg Value.bool ?_, rfl⟩; simp_all; done)) | (focus (refine ⟨congrArg Value.bool ?_, rfl⟩; simp_all; omega)) -- 4
 refine FJ.q (goes_listg rfl rfl .z) rfl (by decide) rfl (q_fieldAddr rfl (.t (.s16 (.s (.s .z)))) (fun _ => fa_27_1 _ _)) ?_
 refine FJ.q (goes_listg rfl rfl (.s .z)) rfl (by decide) rfl (q_loadA (cs := [.slice Ao188 ((putBlock d3 0 ([5, 6] : (List Int))).disk.blocks).length co188, .slice Ao189 ((putBlock d3 0 ([5, 6] : (List Int))).disk.cache).length co189]) rfl ag_25 sz_25 (.t .z) (WS.rows (.s (.s (.s .z))) (sub_at rfl))) ?_
 refine FJ.call (goes_listg rfl rfl (.s (.s .z))) rfl (by decide) rfl (c_call rfl Try.func40 rfl rfl (args2 (.t .z) .c)) .n (fun w1 S1 hs tr => c_40 (kT_25_mk ((putBlock d3 0 ([5, 6] : (List Int))).disk) (tr.own (.s4 .z)) (tr.own (.s4 (.s .z)))) _) ?_
 rintro _ _ ⟨v201, rfl, rfl⟩
 refine FJ.cat (.c .n) ?_
 refine FJ.know (WS.oform .z) ?_
 rintro ⟨Ao203, co203, rfl, hlo203, hmo203, hbo203⟩
 refine FJ.q (goes_listg rfl rfl (.s (.s (.s .z)))) rfl (by decide) rfl (q_field rfl (.t .z) (fun w => fv_60_1 w (.int .i64 ((blockAt ((putBlock d3 0 ([5, 6] : (List Int))).disk) 0).code)) (.slice Ao203 ((blockAt ((putBlock d3 0 ([5, 6] : (List Int))).disk) 0).list).length co203))) ?_
 refine FJ.e (goes_listg rfl rfl (.s4 .z)) rfl (by decide) rfl (e_buildSliceL (ps := [(0, .int .i64 5), (1, .int .i64 6)]) (cs := [.int .i64 5, .int .i64 6]) rfl u_40 (inz inf_2) (by decide) (by intro act hact; simp only [List.map_toArray, List.map_cons, List.map_nil, (show Val _ _ _ from .c) act hact, (show Val _ _ _ from .c) act hact]) rfl rfl (by decide) rfl rfl) ?_
 rintro _ _ ⟨g204, rfl, rfl⟩
 refine FJ.turns (c := ownA kSl_2 ([5, 6] : (List Int)) [.slice (some ⟨g204, 0, none⟩) 2 2]) (.c .z .n) (fun w S h => lit_own (xs := ([5, 6] : (List Int))) h rfl (by simp) (by omega) (by omega)) ?_
 refine FJ.call (goes_listg rfl rfl (.s4 (.s .z))) rfl (by decide) rfl (c_call rfl Try.func39 rfl rfl (args2 (.t (.s .z)) (.t .z))) .n (fun w1 S1 hs tr => c_39 (tr.own (.s .z)) (tr.own .z)) ?_
 rintro _ _ ⟨rfl, rfl⟩
 refine FJ.cat .n ?_
 refine FJ.q (goes_listg rfl rfl (.s4 (.s4 (.s (.s .z))))) rfl (by decide) rfl (q_pickF rfl (.t (.s4 (.s (.s .z)))) (.t .z)) ?_
 refine FJ.ql rfl (q_pickT rfl (.t (.s4 (.s4 (.s (.s (.s .z)))))) (.t .z)) (FJ.ql rfl (q_move rfl (.t .z)) ?_)
 refine FJ.caseP .z (fun g206 => ?_) (fun g206 => ?_)
 refine FJ.q (goes_listg rfl rfl .z) rfl (by decide) rfl (q_fieldAddr rfl (.t (.s16 (.s4 (.s (.s .z))))) (fun _ => fa_27_0 _ _)) ?_
 refine FJ.q (goes_listg rfl rfl (.s .z)) rfl (by decide) rfl (q_load rfl ag_2 (.t .z) (WS.row (.s (.s .z)) rfl)) ?_
 refine FJ.q (goes_listg rfl rfl (.s (.s .z))) rfl (by decide) rfl (q_eql rfl (.t .z) .c) ?_
 refine FJ.ql rfl (q_pickT rfl (.t (.s (.s (.s .z)))) (.t .z)) (FJ.ql rfl (q_move rfl (.t .z)) ?_)
 refine FJ.caseP .z (fun g207 => ?_) (fun g207 => ?_)
 refine FJ.q (goes_listg rfl rfl .z) rfl (by decide) rfl (q_fieldAddr rfl (.t (.s16 (.s4 (.s4 (.s (.s (.s .z))))))) (fun _ => fa_27_1 _ _)) ?_
 refine FJ.q (goes_listg rfl rfl (.s .z)) rfl (by decide) rfl (q_fieldAddrA (k := 1) rfl (.t .z) (fun _ => fa_25_0 _ _) rfl) ?_
 refine FJ.q (goes_listg rfl rfl (.s (.s .z))) rfl (by decide) rfl (q_load rfl ag_22 (.t .z) (WS.row (.s (.s .z)) rfl)) ?_
 refine FJ.q (goes_listg rfl rfl (.s (.s (.s .z)))) rfl (by decide) rfl (q_len rfl u_22 (.t .z)) ?_
 refine FJ.q (goes_listg rfl rfl (.s4 .z)) rfl (by decide) rfl (q_fieldAddr rfl (.t (.s16 (.s16 (.s16 (.s .z))))) (fun _ => fa_25_0 _ _)) ?_
 refine FJ.q (goes_listg rfl rfl (.s4 (.s .z))) rfl (by decide) rfl (q_load rfl ag_22 (.t .z) (WS.row (.s4 (.s4 (.s (.s (.s .z))))) rfl)) ?_
 refine FJ.q (goes_listg rfl rfl (.s4 (.s (.s .z)))) rfl (by decide) rfl (q_len rfl u_22 (.t .z)) ?_
 refine FJ.q (goes_listg rfl rfl (.s4 (.s (.s (.s .z))))) rfl (by decide) rfl (q_eql rfl (.t (.s (.s (.s .z)))) (.t .z)) ?_
 refine FJ.ql rfl (q_pickT rfl (.t (.s4 (.s4 .z))) (.t .z)) (FJ.ql rfl (q_assign rfl (.t .z)) (FJ.nil (FJ.then_ (FJ.ret ?_))))
 refine FJ.upR (fun l w h => hupz14 _ _ (hupz19 _ _ (hupz25 _ _ (hupz39 _ _ (hupz59 _ _ (hupz87 _ _ (hupz113 _ _ (h)))))))) ?_
 refine FJ.doneS (res1 rfl .z) .n ?_
 first | exact ⟨rfl, rfl⟩ | (focus (exfalso; omega)) | (focus (exfalso; simp_all; done)) | (focus (refine ⟨congrArg Value.bool ?_, rfl⟩; simp_all; done)) | (focus (refine ⟨congrArg Value.bool ?_, rfl⟩; simp_all; omega)) -- 4
 refine FJ.skipl rfl rfl .z rfl rfl (by decide) rfl ?_
 refine FJ.skipl rfl rfl (.s .z) rfl rfl (by decide) rfl ?_
 refine FJ.skipl rfl rfl (.s (.s .z)) rfl rfl (by decide) rfl ?_
 refine FJ.skipl rfl rfl (.s (.s (.s .z))) rfl rfl (by decide) rfl ?_
 refine FJ.skipl rfl rfl (.s4 .z) rfl rfl (by decide) rfl ?_
 refine FJ.skipl rfl rfl (.s4 (.s .z)) rfl rfl (by decide) rfl ?_
 refine FJ.skipl rfl rfl (.s4 (.s (.s .z))) rfl rfl (by decide) rfl ?_
 refine FJ.skipl rfl rfl (.s4 (.s (.s (.s .z)))) rfl rfl (by decide) rfl ?_
 refine FJ.ql rfl (q_pickF rfl (.t (.s4 (.s4 .z))) .c) (FJ.ql rfl (q_assign rfl (.t .z)) (FJ.nil (FJ.then_ (FJ.ret ?_))))
 refine FJ.upR (fun l w h => hupz14 _ _ (hupz19 _ _ (hupz25 _ _ (hupz39 _ _ (hupz59 _ _ (hupz87 _ _ (hupz113 _ _ (h)))))))) ?_
 refine FJ.doneS (res1 rfl .z) .n ?_
 first | exact ⟨rfl, rfl⟩ | (focus (exfalso; omega)) | (focus (exfalso; simp_all; done)) | (focus (refine ⟨congrArg Value.bool ?_, rfl⟩; simp_all; done)) | (focus (refine ⟨congrArg Value.bool ?_, rfl⟩; simp_all; omega)) -- 4
 refine FJ.skipl rfl rfl .z rfl rfl (by decide) rfl ?_
 refine FJ.skipl rfl rfl (.s .z) rfl rfl (by decide) rfl ?_
 refine FJ.skipl rfl rfl (.s (.s .z)) rfl rfl (by decide) rfl ?_
 refine FJ.ql rfl (q_pickF rfl (.t (.s (.s (.s .z)))) .c) (FJ.ql rfl (q_move rfl (.t .z)) ?_)
 refine FJ.skipl rfl rfl .z rfl rfl (by decide) rfl ?_
 refine FJ.skipl rfl rfl (.s .z) rfl rfl (by decide) rfl ?_
 refine FJ.skipl rfl rfl (.s (.s .z)) rfl rfl (by decide) rfl ?_
 refine FJ.skipl rfl rfl (.s (.s (.s .z))) rfl rfl (by decide) rfl ?_
 refine FJ.skipl rfl rfl (.s4 .z) rfl rfl (by decide) rfl ?_
 refine FJ.skipl rfl rfl (.s4 (.s .z)) rfl rfl (by decide) rfl ?_
 refine FJ.skipl rfl rfl (.s4 (.s (.s .z))) rfl rfl (by decide) rfl ?_
 refine FJ.skipl rfl rfl (.s4 (.s (.s (.s .z)))) rfl rfl (by decide) rfl ?_
 refine FJ.ql rfl (q_pickF rfl (.t (.s4 (.s4 .z))) .c) (FJ.ql rfl (q_assign rfl (.t .z)) (FJ.nil (FJ.then_ (FJ.ret ?_))))
 refine FJ.upR (fun l w h => hupz14 _ _ (hupz19 _ _ (hupz25 _ _ (hupz39 _ _ (hupz59 _ _ (hupz87 _ _ (hupz113 _ _ (h)))))))) ?_
 refine FJ.doneS (res1 rfl .z) .n ?_
 first | exact ⟨rfl, rfl⟩ | (focus (exfalso; omega)) | (focus (exfalso; simp_all; done)) | (focus (refine ⟨congrArg Value.bool ?_, rfl⟩; simp_all; done)) | (focus (refine ⟨congrArg Value.bool ?_, rfl⟩; simp_all; omega)) -- 4
 refine FJ.skipl rfl rfl .z rfl rfl (by decide) rfl ?_
 refine FJ.skipl rfl rfl (.s .z) rfl rfl (by decide) rfl ?_
 refine FJ.skipl rfl rfl (.s (.s .z)) rfl rfl (by decide) rfl ?_
 refine FJ.skipl rfl rfl (.s (.s (.s .z))) rfl rfl (by decide) rfl ?_
 refine FJ.skipl rfl rfl .z rfl rfl (by decide) rfl ?_
 refine FJ.skipl rfl rfl (.s .z) rfl rfl (by decide) rfl ?_
 refine FJ.skipl rfl rfl (.s (.s .z)) rfl rfl (by decide) rfl ?_
 refine FJ.skipl rfl rfl (.s (.s (.s .z))) rfl rfl (by decide) rfl ?_
 refine FJ.skipl rfl rfl (.s4 .z) rfl rfl (by decide) rfl ?_
 refine FJ.skipl rfl rfl (.s4 (.s .z)) rfl rfl (by decide) rfl ?_
 refine FJ.skipl rfl rfl (.s4 (.s4 (.s (.s .z)))) rfl rfl (by decide) rfl ?_
 refine FJ.ql rfl (q_pickF rfl (.t (.s4 (.s4 (.s (.s (.s .z)))))) .c) (FJ.ql rfl (q_move rfl (.t .z)) ?_)
 refine FJ.skipl rfl rfl .z rfl rfl (by decide) rfl ?_
 refine FJ.skipl rfl rfl (.s .z) rfl rfl (by decide) rfl ?_
 refine FJ.skipl rfl rfl (.s (.s .z)) rfl rfl (by decide) rfl ?_
 refine FJ.ql rfl (q_pickF rfl (.t (.s (.s (.s .z)))) .c) (FJ.ql rfl (q_move rfl (.t .z)) ?_)
 refine FJ.skipl rfl rfl .z rfl rfl (by decide) rfl ?_
 refine FJ.skipl rfl rfl (.s .z) rfl rfl (by decide) rfl ?_
 refine FJ.skipl rfl rfl (.s (.s .z)) rfl rfl (by decide) rfl ?_
 refine FJ.skipl rfl rfl (.s (.s (.s .z))) rfl rfl (by decide) rfl ?_
 refine FJ.skipl rfl rfl (.s4 .z) rfl rfl (by decide) rfl ?_
 refine FJ.skipl rfl rfl (.s4 (.s .z)) rfl rfl (by decide) rfl ?_
 refine FJ.skipl rfl rfl (.s4 (.s (.s .z))) rfl rfl (by decide) rfl ?_
 refine FJ.skipl rfl rfl (.s4 (.s (.s (.s .z)))) rfl rfl (by decide) rfl ?_
 refine FJ.ql rfl (q_pickF rfl (.t (.s4 (.s4 .z))) .c) (FJ.ql rfl (q_assign rfl (.t .z)) (FJ.nil (FJ.then_ (FJ.ret ?_))))
 refine FJ.upR (fun l w h => hupz14 _ _ (hupz19 _ _ (hupz25 _ _ (hupz39 _ _ (hupz59 _ _ (hupz87 _ _ (hupz113 _ _ (h)))))))) ?_
 refine FJ.doneS (res1 rfl .z) .n ?_
 first | exact ⟨rfl, rfl⟩ | (focus (exfalso; omega)) | (focus (exfalso; simp_all; done)) | (focus (refine ⟨congrArg Value.bool ?_, rfl⟩; simp_all; done)) | (focus (refine ⟨congrArg Value.bool ?_, rfl⟩; simp_all; omega)) -- 4

end Go.Proofs.Ytkmcpcahbfdohaa

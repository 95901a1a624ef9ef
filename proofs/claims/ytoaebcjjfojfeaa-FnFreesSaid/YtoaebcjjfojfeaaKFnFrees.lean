/- What is proved: contracts of functions, one a function. No condition. -/
import Derived.Test.YtoaebcjjfojfeaaW56
import Derived.Test.YtoaebcjjfojfeaaW57
import Derived.Test.YtoaebcjjfojfeaaW12
import Derived.Test.YtoaebcjjfojfeaaW9
import Derived.Test.YtoaebcjjfojfeaaW4
import Derived.Test.YtoaebcjjfojfeaaTypesA
import Derived.Test.YtoaebcjjfojfeaaBase2
namespace Go.Proofs.Ytoaebcjjfojfeaa
open Go Go.RowKit
set_option linter.unusedVariables false
set_option linter.unusedSimpArgs false
set_option maxHeartbeats 1000000 in
set_option maxRecDepth 20000 in
theorem c_13 {w0 : World} {S0 : Bs} {cd : (List UInt8)} {v0 : Value} (h0 : kSl_5.ro w0 (FF w0 S0) cd [v0])  :
    Calls Try.prog 13 #[v0] w0 (TriPost w0 S0 (fun r l => r = .bool true ∧ l = [])) := by
 obtain ⟨A0, c0, rfl, hl0, hm0, hb0, he0⟩ := ro_form h0
 refine FJ.enter (N := 142) Try.func13 rfl rfl (by simp) [(0, .slice A0 cd.length c0)] (by simp) (l0 := []) trivial ?_
 refine FJ.seq (FJ.region (FJ.ql rfl (q_assign rfl .c) (FJ.nil (FJ.then_ ?_))))
 refine FJ.seq (FJ.seq (FJ.region (FJ.ql rfl (q_move rfl (.t (.s .z))) ?_)))
 refine FJ.call (goes_list rfl) rfl (by decide) rfl (c_call rfl Try.func41 rfl rfl (args1 (.t .z))) .n (fun w1 S1 hs tr => c_41 (tr.ctx h0)) ?_
 rintro _ _ ⟨rfl, rfl⟩
 refine FJ.cat .n ?_
 refine FJ.nil (FJ.then_ ?_)
 refine FJ.condP (.t .z) (fun b2 => ?_) (fun b2 => ?_)
 refine FJ.seq (FJ.region (FJ.er (.s (.s .z)) (FJ.ql rfl (q_assign rfl .c) (FJ.nil ?_))))
 refine FJ.then_ (FJ.ret (FJ.thenR ?_))
 refine FJ.doneS (res1 rfl .z) .n ?_
 exact ⟨rfl, rfl⟩
 refine FJ.skip (FJ.then_ (FJ.seq (FJ.region (FJ.ql rfl (q_move rfl (.t (.s (.s (.s .z))))) ?_))))
 refine FJ.call (goes_list rfl) rfl (by decide) rfl (c_call rfl Try.func59 rfl rfl (args1 (.t .z))) .n (fun w1 S1 hs tr => c_59 (tr.ctx h0)) ?_
 rintro _ _ ⟨xs3, v6, bs4, v7, m5, hzxs3, rfl, rfl⟩
 refine FJ.cat (.c (.c .n)) ?_
 obtain ⟨FA, FB, FC⟩ := @free_law xs3 bs4 m5
 have FD : (pickR xs3 bs4 m5).code = 0 → (pickR xs3 bs4 m5).list = subL (freeR xs3 bs4).list 0 (Int.toNat m5) := fun h => by rw [(FA h).2.2.2]; simp [subL]
 refine FJ.know (WS.oform .z) ?_
 rintro ⟨Ao10, co10, rfl, hlo10, hmo10, hbo10⟩
 refine FJ.know (WS.oform (.s .z)) ?_
 rintro ⟨Ao11, co11, rfl, hlo11, hmo11, hbo11⟩
 refine FJ.freeze .z ?_
 intro w0 S0 trz12 hrz12 hupz12
 replace h0 := trz12 h0
 refine FJ.freeze .z ?_
 intro w0 S0 trz17 hrz17 hupz17
 replace hrz12 := trz17 hrz12
 replace h0 := trz17 h0
 refine FJ.ql rfl (q_move rfl (.t .z)) (FJ.ql rfl (q_extract (v := .slice Ao10 xs3.length co10) rfl (.t .z) rfl) (FJ.ql rfl (q_extract (v := .slice Ao11 bs4.length co11) rfl (.t (.s .z)) rfl) (FJ.ql rfl (q_extract (v := .int .i64 m5) rfl (.t (.s (.s .z))) rfl) (FJ.ql rfl (q_assign rfl (.t (.s (.s .z)))) ?_))))
 refine FJ.ql rfl (q_assign rfl (.t (.s (.s .z)))) (FJ.ql rfl (q_assign rfl (.t (.s (.s .z)))) (FJ.nil (FJ.then_ (FJ.seq ?_))))
 refine FJ.region (FJ.ql rfl (q_move rfl (.t (.s (.s .z)))) (FJ.ql rfl (q_move rfl (.t (.s (.s .z)))) (FJ.ql rfl (q_move rfl (.t (.s (.s .z)))) ?_)))
 refine FJ.call (goes_list rfl) rfl (by decide) rfl (c_call rfl Try.func60 rfl rfl (args3 (.t (.s (.s .z))) (.t (.s .z)) (.t .z))) .n (fun w1 S1 hs tr => c_60 (tr.ctx hrz12) (tr.ctx hrz17) _) ?_
 rintro _ _ ⟨v23, rfl, rfl⟩
 refine FJ.cat (.c .n) ?_
 refine FJ.know (WS.oform .z) ?_
 rintro ⟨Ao25, co25, rfl, hlo25, hmo25, hbo25⟩
 refine FJ.freeze .z ?_
 intro w0 S0 trz26 hrz26 hupz26
 replace hrz17 := trz26 hrz17
 replace hrz12 := trz26 hrz12
 replace h0 := trz26 h0
 refine FJ.e (goes_list rfl) rfl (by decide) rfl (e_alloc rfl z_57 rfl rfl) ?_
 rintro _ _ ⟨g41, rfl, rfl⟩
 refine FJ.es (goes_list rfl) rfl (es_store (off := 0) (cs := [.int .i64 ((pickR xs3 bs4 m5).code), .slice Ao25 ((pickR xs3 bs4 m5).list).length co25]) rfl sz_57 (.t .z) (.t (.s .z)) rfl (ones rfl) .z (Nat.le_of_ble_eq_true rfl) (.c .z (.c (.s .z) .n))) ?_
 refine FJ.nil (FJ.then_ (FJ.seq (FJ.region (FJ.ql rfl (q_move rfl (.t (.s4 (.s (.s (.s .z)))))) ?_))))
 refine FJ.ql rfl (q_move rfl (.t (.s4 (.s (.s (.s .z)))))) ?_
 refine FJ.call (goes_list rfl) rfl (by decide) rfl (c_call rfl Try.func58 rfl rfl (args2 (.t (.s .z)) (.t .z))) .n (fun w1 S1 hs tr => c_58 (tr.ctx hrz12) (tr.ctx hrz17)) ?_
 rintro _ _ ⟨v42, rfl, rfl⟩
 refine FJ.cat (.c .n) ?_
 refine FJ.know (WS.oform .z) ?_
 rintro ⟨Ao44, co44, rfl, hlo44, hmo44, hbo44⟩
 refine FJ.freeze .z ?_
 intro w0 S0 trz45 hrz45 hupz45
 replace hrz17 := trz45 hrz17
 replace hrz12 := trz45 hrz12
 replace hrz26 := trz45 hrz26
 replace h0 := trz45 h0
 refine FJ.e (goes_list rfl) rfl (by decide) rfl (e_alloc rfl z_57 rfl rfl) ?_
 rintro _ _ ⟨g64, rfl, rfl⟩
 refine FJ.es (goes_list rfl) rfl (es_store (off := 0) (cs := [.int .i64 ((freeR xs3 bs4).code), .slice Ao44 ((freeR xs3 bs4).list).length co44]) rfl sz_57 (.t .z) (.t (.s .z)) rfl (ones rfl) .z (Nat.le_of_ble_eq_true rfl) (.c .z (.c (.s .z) .n))) ?_
 refine FJ.nil (FJ.then_ (FJ.seq (FJ.seq (FJ.region ?_))))
 refine FJ.ql rfl (q_fieldAddr rfl (.t (.s4 .z)) (fun _ => fa_57_0 _ _)) (FJ.ql rfl (q_load rfl ag_2 (.t .z) (WS.row (.s .z) rfl)) (FJ.ql rfl (q_neq rfl (.t .z) .c) (FJ.nil (FJ.then_ ?_))))
 refine FJ.condN (.t .z) (fun b65 => ?_) (fun b65 => ?_)
 refine FJ.seq ?_
 refine FJ.draw [rowA g64 57 2 1 [.int .i64 ((freeR xs3 bs4).code), .slice Ao44 ((freeR xs3 bs4).list).length co44], rowA g41 57 2 1 [.int .i64 ((pickR xs3 bs4 m5).code), .slice Ao25 ((pickR xs3 bs4 m5).list).length co25]] 17 (by kernel_rfl) ?_
 refine FJ.sch [(0, true), (1, true), (2, true), (5, true), (6, true), (3, false), (4, true), (7, true), (8, true)] 9 #[true, true, true, true, true, true, true, true, true, false, false, false, false, false, false, false, false, false] (by rfl) (by kernel_rfl) ?_
 refine FJ.dq rfl rfl rfl (by decide) rfl .z (q_move rfl (.t (.s4 (.s4 (.s4 (.s (.s .z))))))) (FJ.dq rfl rfl rfl (by decide) rfl .z (q_move rfl (.t (.s4 (.s4 (.s4 (.s (.s .z))))))) (FJ.dq rfl rfl rfl (by decide) rfl .z (q_move rfl (.t (.s4 (.s4 (.s4 (.s (.s .z))))))) (FJ.dq rfl rfl rfl (by decide) rfl .z (q_fieldAddr rfl (.t (.s4 (.s4 (.s (.s .z))))) (fun _ => fa_57_0 _ _)) (FJ.dq rfl rfl rfl (by decide) rfl .z (q_load rfl ag_2 (.t .z) (WS.row (.s .z) rfl)) ?_))))
 refine FJ.call (goes_sch rfl rfl) rfl (by decide) rfl (c_call rfl Try.func61 rfl rfl (args3 (.t (.s4 .z)) (.t (.s (.s (.s .z)))) (.t (.s (.s .z))))) .n (fun w1 S1 hs tr => c_61 (tr.ctx hrz12) (tr.ctx hrz17) _) ?_
 rintro _ _ ⟨v66, rfl, rfl⟩
 refine FJ.cat (.c .n) ?_
 refine FJ.know (WS.oform .z) ?_
 rintro ⟨Ao68, co68, rfl, hlo68, hmo68, hbo68⟩
 refine FJ.sk (.s .z) ?_
 refine FJ.dq rfl rfl rfl (by decide) rfl (.s .z) (q_field rfl (.t .z) (fun w => fv_57_0 w (.int .i64 ((pickR xs3 bs4 m5).code)) (.slice Ao68 ((pickR xs3 bs4 m5).list).length co68))) (FJ.dq rfl rfl rfl (by decide) rfl (.s .z) (q_eql rfl (.t .z) (.t (.s (.s .z)))) (FJ.dq rfl rfl rfl (by decide) rfl (.s .z) (q_move rfl (.t .z)) (FJ.schN ?_)))
 refine FJ.caseP .z (fun g69 => ?_) (fun g69 => ?_)
 refine FJ.sch [(9, true), (10, true), (11, true), (12, true), (13, false), (14, true), (15, true), (16, true), (17, false)] 0 #[true, true, true, true, true, true, true, true, true, true, true, true, true, true, true, true, true, true] (by rfl) (by kernel_rfl) ?_
 refine FJ.dqg rfl rfl rfl .z rfl (by decide) rfl (.s .z) (q_fieldAddr rfl (.t (.s4 (.s4 (.s4 .z)))) (fun _ => fa_57_0 _ _)) ?_
 refine FJ.dqg rfl rfl rfl (.s .z) rfl (by decide) rfl (.s .z) (q_load rfl ag_2 (.t .z) (WS.row .z rfl)) ?_
 refine FJ.dqg rfl rfl rfl (.s (.s .z)) rfl (by decide) rfl (.s .z) (q_move rfl (.t (.s16 (.s4 (.s4 (.s .z)))))) ?_
 refine FJ.dqg rfl rfl rfl (.s (.s (.s .z))) rfl (by decide) rfl (.s .z) (q_move rfl (.t (.s16 (.s4 (.s4 (.s .z)))))) ?_
 refine FJ.call (goes_schg rfl rfl rfl (.s4 .z)) rfl (by decide) rfl (c_call rfl Try.func57 rfl rfl (args2 (.t (.s .z)) (.t .z))) .n (fun w1 S1 hs tr => c_57 (tr.ctx hrz12) (tr.ctx hrz17)) ?_
 rintro _ _ ⟨v70, rfl, rfl⟩
 refine FJ.cat (.c .n) ?_
 refine FJ.know (WS.oform .z) ?_
 rintro ⟨Ao72, co72, rfl, hlo72, hmo72, hbo72⟩
 refine FJ.sk (.s (.s .z)) ?_
 refine FJ.dqg rfl rfl rfl (.s4 (.s .z)) rfl (by decide) rfl (.s (.s .z)) (q_field rfl (.t .z) (fun w => fv_57_0 w (.int .i64 ((freeR xs3 bs4).code)) (.slice Ao72 ((freeR xs3 bs4).list).length co72))) ?_
 refine FJ.dqg rfl rfl rfl (.s4 (.s (.s .z))) rfl (by decide) rfl (.s (.s .z)) (q_eql rfl (.t (.s4 .z)) (.t .z)) ?_
 refine FJ.dq rfl rfl rfl (by decide) rfl (.s (.s .z)) (q_pickT rfl (.t (.s4 (.s (.s (.s .z))))) (.t .z)) (FJ.er (.s16 (.s16 (.s4 (.s4 .z)))) ?_)
 refine FJ.q (goes_sch rfl rfl) rfl (by decide) rfl (q_assign rfl (.t .z)) ?_
 refine FJ.sl rfl ?_
 refine FJ.schN ?_
 refine FJ.drawN (by kernel_rfl) ?_
 refine FJ.then_ (FJ.ret (FJ.thenR ?_))
 refine FJ.upR (fun l w h => hupz12 _ _ (hupz17 _ _ (hupz26 _ _ (hupz45 _ _ (h))))) ?_
 refine FJ.doneS (res1 rfl .z) .n ?_
 first | exact ⟨rfl, rfl⟩ | (focus (exfalso; omega)) | (focus (exfalso; simp_all; done)) | (focus (refine ⟨congrArg Value.bool ?_, rfl⟩; simp_all; done)) | (focus (refine ⟨congrArg Value.bool ?_, rfl⟩; simp_all; omega))
 refine FJ.sch [(9, true), (10, true), (11, true), (12, true), (13, true), (14, true), (15, true), (16, true), (17, false)] 0 #[true, true, true, true, true, true, true, true, true, true, true, true, true, true, true, true, true, true] (by rfl) (by kernel_rfl) ?_
 refine FJ.dskip rfl rfl rfl .z rfl rfl (by decide) rfl (.s .z) ?_
 refine FJ.dskip rfl rfl rfl (.s .z) rfl rfl (by decide) rfl (.s .z) ?_
 refine FJ.dskip rfl rfl rfl (.s (.s .z)) rfl rfl (by decide) rfl (.s .z) ?_
 refine FJ.dskip rfl rfl rfl (.s (.s (.s .z))) rfl rfl (by decide) rfl (.s .z) ?_
 refine FJ.dskip rfl rfl rfl (.s4 .z) rfl rfl (by decide) rfl (.s .z) ?_
 refine FJ.dskip rfl rfl rfl (.s4 (.s .z)) rfl rfl (by decide) rfl (.s .z) ?_
 refine FJ.dskip rfl rfl rfl (.s4 (.s (.s .z))) rfl rfl (by decide) rfl (.s .z) ?_
 refine FJ.dq rfl rfl rfl (by decide) rfl (.s .z) (q_pickF rfl (.t (.s4 (.s (.s (.s .z))))) .c) (FJ.er (.s16 (.s16 (.s4 (.s4 .z)))) ?_)
 refine FJ.q (goes_sch rfl rfl) rfl (by decide) rfl (q_assign rfl (.t .z)) ?_
 refine FJ.sl rfl ?_
 refine FJ.schN ?_
 refine FJ.drawN (by kernel_rfl) ?_
 refine FJ.then_ (FJ.ret (FJ.thenR ?_))
 refine FJ.upR (fun l w h => hupz12 _ _ (hupz17 _ _ (hupz26 _ _ (hupz45 _ _ (h))))) ?_
 refine FJ.doneS (res1 rfl .z) .n ?_
 first | exact ⟨rfl, rfl⟩ | (focus (exfalso; omega)) | (focus (exfalso; simp_all; done)) | (focus (refine ⟨congrArg Value.bool ?_, rfl⟩; simp_all; done)) | (focus (refine ⟨congrArg Value.bool ?_, rfl⟩; simp_all; omega))
 refine FJ.skip (FJ.then_ (FJ.seq (FJ.seq (FJ.region ?_))))
 refine FJ.ql rfl (q_assign rfl .c) (FJ.nil (FJ.then_ (FJ.block ?_)))
 refine FJ.loopi (γ := Nat) (fun i => [(8, .int .i64 (i : Int)), (7, .pointer (some ⟨g64, 0, none⟩)), (6, .pointer (some ⟨g41, 0, none⟩)), (5, .int .i64 m5), (4, .slice Ao11 bs4.length co11), (3, .slice Ao10 xs3.length co10)]) (fun i => [rowA g64 57 2 1 [.int .i64 ((freeR xs3 bs4).code), .slice Ao44 ((freeR xs3 bs4).list).length co44], rowA g41 57 2 1 [.int .i64 ((pickR xs3 bs4 m5).code), .slice Ao25 ((pickR xs3 bs4 m5).list).length co25]]) (fun i => i ≤ (freeR xs3 bs4).list.length) (fun i => (freeR xs3 bs4).list.length - i) 0 (Nat.zero_le _) (.c .z (.c (.s4 .z) (.c (.s4 (.s4 .z)) (.c (.s4 (.s4 (.s4 (.s .z)))) (.c (.s4 (.s4 (.s4 (.s (.s .z))))) (.c (.s4 (.s4 (.s4 (.s (.s (.s .z)))))) .n)))))) (fun _ h => h.sel (.c .z (.c .z .n))) ?_
 rintro i hi
 refine FJ.seq (FJ.seq (FJ.region (FJ.ql rfl (q_move rfl (.t .z)) (FJ.ql rfl (q_fieldAddr rfl (.t (.s (.s .z))) (fun _ => fa_57_1 _ _)) ?_))))
 refine FJ.ql rfl (q_load rfl ag_22 (.t .z) (WS.row .z rfl)) (FJ.ql rfl (q_len rfl u_22 (.t .z)) (FJ.ql rfl (q_lss rfl (.t (.s (.s (.s .z)))) (.t .z)) (FJ.nil (FJ.then_ ?_))))
 refine FJ.condP (.t .z) (fun b73 => ?_) (fun b73 => ?_)
 refine FJ.skip (FJ.then_ (FJ.seq (FJ.block (FJ.seq ?_))))
 refine FJ.seq ?_
 refine FJ.draw [rowA g64 57 2 1 [.int .i64 ((freeR xs3 bs4).code), .slice Ao44 ((freeR xs3 bs4).list).length co44], rowA g41 57 2 1 [.int .i64 ((pickR xs3 bs4 m5).code), .slice Ao25 ((pickR xs3 bs4 m5).list).length co25]] 25 (by kernel_rfl) ?_
 refine FJ.sch [(0, true), (1, true), (2, true), (3, true), (4, true), (5, true), (6, false), (7, true)] 17 #[true, true, true, true, true, true, true, true, false, false, false, false, false, false, false, false, false, false, false, false, false, false, false, false, false] (by rfl) (by kernel_rfl) ?_
 refine FJ.dq rfl rfl rfl (by decide) rfl .z (q_move rfl (.t (.s4 (.s4 (.s .z))))) (FJ.dq rfl rfl rfl (by decide) rfl .z (q_fieldAddr rfl (.t (.s4 (.s (.s (.s .z))))) (fun _ => fa_57_1 _ _)) (FJ.dq rfl rfl rfl (by decide) rfl .z (q_load rfl ag_22 (.t .z) (WS.row .z rfl)) (FJ.dq rfl rfl rfl (by decide) rfl .z (q_move rfl (.t (.s4 (.s4 .z)))) ?_)))
 obtain ⟨ad74, hAad74, hrad74⟩ := (ro_he hrz45) (by omega)
 subst hAad74
 obtain ⟨x75, hx75⟩ := get_ex (xs := (freeR xs3 bs4).list) (j := i) (by omega)
 obtain ⟨ece76, hre76, hFe76, hce76⟩ := hrad74.elem hx75
 obtain ⟨rfl, se76⟩ := hre76
 refine FJ.dq rfl rfl rfl (by decide) rfl .z (q_indexAddr (j := i) rfl u_22 sz_2 (.t (.s .z)) (.t .z) rfl (by omega)) ?_
 refine FJ.dq rfl rfl rfl (by decide) rfl .z (q_load rfl ag_2 (.t .z) (WS.el0 hFe76 hce76 rfl)) ?_
 refine FJ.call (goes_sch rfl rfl) rfl (by decide) rfl (c_call rfl Try.func62 rfl rfl (args2 (.t (.s4 (.s .z))) (.t .z))) .n (fun w1 S1 hs tr => c_62 (tr.ctx hrz17) _) ?_
 rintro _ _ ⟨rfl, rfl⟩
 refine FJ.cat .n ?_
 refine FJ.sk .z ?_
 refine FJ.dq rfl rfl rfl (by decide) rfl .z (q_move rfl (.t .z)) (FJ.schN ?_)
 refine FJ.caseP .z (fun g77 => ?_) (fun g77 => ?_)
 refine FJ.sch [(8, true), (9, true), (10, true), (11, true), (12, true), (13, true), (14, true), (15, true), (16, true), (17, true), (18, true), (19, true), (20, true), (21, true), (22, true), (23, true), (24, true)] 0 #[true, true, true, true, true, true, true, true, true, true, true, true, true, true, true, true, true, true, true, true, true, true, true, true, true] (by rfl) (by kernel_rfl) ?_
 refine FJ.dskip rfl rfl rfl .z rfl rfl (by decide) rfl .z ?_
 refine FJ.dskip rfl rfl rfl (.s .z) rfl rfl (by decide) rfl .z ?_
 refine FJ.dskip rfl rfl rfl (.s (.s .z)) rfl rfl (by decide) rfl .z ?_
 refine FJ.dskip rfl rfl rfl .z rfl rfl (by decide) rfl .z ?_
 refine FJ.dskip rfl rfl rfl (.s .z) rfl rfl (by decide) rfl .z ?_
 refine FJ.dskip rfl rfl rfl (.s (.s .z)) rfl rfl (by decide) rfl .z ?_
 refine FJ.dskip rfl rfl rfl (.s (.s (.s .z))) rfl rfl (by decide) rfl .z ?_
 refine FJ.dskip rfl rfl rfl (.s4 .z) rfl rfl (by decide) rfl .z ?_
 refine FJ.dskip rfl rfl rfl (.s4 (.s .z)) rfl rfl (by decide) rfl .z ?_
 refine FJ.dskip rfl rfl rfl (.s4 (.s (.s .z))) rfl rfl (by decide) rfl .z ?_
 refine FJ.dskip rfl rfl rfl (.s4 (.s (.s (.s .z)))) rfl rfl (by decide) rfl .z ?_
 refine FJ.dskip rfl rfl rfl (.s4 (.s4 .z)) rfl rfl (by decide) rfl .z ?_
 refine FJ.dskip rfl rfl rfl (.s4 (.s4 (.s .z))) rfl rfl (by decide) rfl .z ?_
 refine FJ.dskip rfl rfl rfl (.s4 (.s4 (.s (.s .z)))) rfl rfl (by decide) rfl .z ?_
 refine FJ.dskip rfl rfl rfl (.s4 (.s4 (.s (.s (.s .z))))) rfl rfl (by decide) rfl .z ?_
 refine FJ.dskip rfl rfl rfl (.s4 (.s4 (.s4 (.s (.s (.s .z)))))) rfl rfl (by decide) rfl .z ?_
 refine FJ.dq rfl rfl rfl (by decide) rfl .z (q_pickT rfl (.t (.s16 .z)) .c) (FJ.schN ?_)
 refine FJ.drawN (by kernel_rfl) ?_
 refine FJ.then_ ?_
 refine FJ.condT (.t .z) ?_
 refine FJ.seq (FJ.region (FJ.ql rfl (q_assign rfl .c) (FJ.nil (FJ.then_ ?_))))
 refine FJ.ret (FJ.thenR (FJ.inBR (FJ.thenR (FJ.thenR ?_))))
 refine FJ.inBR (FJ.thenR ?_)
 refine FJ.upR (fun l w h => hupz12 _ _ (hupz17 _ _ (hupz26 _ _ (hupz45 _ _ (h))))) ?_
 refine FJ.doneS (res1 rfl .z) .n ?_
 first | (focus (exact absurd (by assumption) (FB _ _ hx75).1)) | exact ⟨rfl, rfl⟩ | (focus (exfalso; omega)) | (focus (exfalso; simp_all; done)) | (focus (refine ⟨congrArg Value.bool ?_, rfl⟩; simp_all; done)) | (focus (refine ⟨congrArg Value.bool ?_, rfl⟩; simp_all; omega))
 refine FJ.sch [(8, true), (9, true), (10, true)] 14 #[true, true, true, true, true, true, true, true, true, true, true, false, false, false, false, false, false, false, false, false, false, false, false, false, false] (by rfl) (by kernel_rfl) ?_
 refine FJ.dqg rfl rfl rfl .z rfl (by decide) rfl .z (q_move rfl (.t (.s4 (.s4 (.s4 (.s .z)))))) ?_
 refine FJ.dqg rfl rfl rfl (.s .z) rfl (by decide) rfl .z (q_gtr rfl (.t .z) .c) ?_
 refine FJ.dqg rfl rfl rfl (.s (.s .z)) rfl (by decide) rfl .z (q_move rfl (.t .z)) ?_
 refine FJ.schN ?_
 refine FJ.caseP .z (fun g78 => ?_) (fun g78 => ?_)
 refine FJ.sch [(11, true), (12, true), (13, true), (14, true), (15, true), (16, true), (17, true), (18, true), (19, true), (20, true), (21, true), (22, true), (23, true), (24, true)] 0 #[true, true, true, true, true, true, true, true, true, true, true, true, true, true, true, true, true, true, true, true, true, true, true, true, true] (by rfl) (by kernel_rfl) ?_
 refine FJ.dqg rfl rfl rfl .z rfl (by decide) rfl .z (q_fieldAddr rfl (.t (.s16 (.s .z))) (fun _ => fa_57_1 _ _)) ?_
 refine FJ.dqg rfl rfl rfl (.s .z) rfl (by decide) rfl .z (q_load rfl ag_22 (.t .z) (WS.row .z rfl)) ?_
 refine FJ.dqg rfl rfl rfl (.s (.s .z)) rfl (by decide) rfl .z (q_move rfl (.t (.s16 (.s (.s .z))))) ?_
 refine FJ.dqg rfl rfl rfl (.s (.s (.s .z))) rfl (by decide) rfl .z (q_indexAddr (j := i) rfl u_22 sz_2 (.t (.s .z)) (.t .z) rfl (by omega)) ?_
 refine FJ.dqg rfl rfl rfl (.s4 .z) rfl (by decide) rfl .z (q_load rfl ag_2 (.t .z) (WS.el0 hFe76 hce76 rfl)) ?_
 refine FJ.dqg rfl rfl rfl (.s4 (.s .z)) rfl (by decide) rfl .z (q_fieldAddr rfl (.t (.s16 (.s4 (.s (.s .z))))) (fun _ => fa_57_1 _ _)) ?_
 refine FJ.dqg rfl rfl rfl (.s4 (.s (.s .z))) rfl (by decide) rfl .z (q_load rfl ag_22 (.t .z) (WS.row .z rfl)) ?_
 refine FJ.dqg rfl rfl rfl (.s4 (.s (.s (.s .z)))) rfl (by decide) rfl .z (q_move rfl (.t (.s16 (.s4 (.s (.s (.s .z))))))) ?_
 refine FJ.dqg rfl rfl rfl (.s4 (.s4 .z)) rfl (by decide) rfl .z (q_sub (c := (i : Int) - 1) rfl (.t .z) .c (wr (by omega) (by omega) (by omega))) ?_
 obtain ⟨x79, hx79⟩ := get_ex (xs := (freeR xs3 bs4).list) (j := Int.toNat ((i : Int) - 1)) (by omega)
 obtain ⟨ece80, hre80, hFe80, hce80⟩ := hrad74.elem hx79
 obtain ⟨rfl, se80⟩ := hre80
 refine FJ.dqg rfl rfl rfl (.s4 (.s4 (.s .z))) rfl (by decide) rfl .z (q_indexAddr (j := Int.toNat ((i : Int) - 1)) rfl u_22 sz_2 (.t (.s (.s .z))) (.t .z) (by omega) (by omega)) ?_
 refine FJ.dqg rfl rfl rfl (.s4 (.s4 (.s (.s .z)))) rfl (by decide) rfl .z (q_load rfl ag_2 (.t .z) (WS.el0 hFe80 hce80 rfl)) ?_
 refine FJ.dqg rfl rfl rfl (.s4 (.s4 (.s (.s (.s .z))))) rfl (by decide) rfl .z (q_leq rfl (.t (.s4 (.s (.s .z)))) (.t .z)) ?_
 refine FJ.dqg rfl rfl rfl (.s4 (.s4 (.s4 (.s (.s (.s .z)))))) rfl (by decide) rfl .z (q_pickT rfl (.t (.s4 (.s4 (.s4 .z)))) (.t .z)) ?_
 refine FJ.dq rfl rfl rfl (by decide) rfl .z (q_pickF rfl (.t (.s16 .z)) (.t .z)) (FJ.schN ?_)
 refine FJ.drawN (by kernel_rfl) ?_
 refine FJ.then_ ?_
 refine FJ.condP (.t .z) (fun b81 => ?_) (fun b81 => ?_)
 refine FJ.seq (FJ.region (FJ.ql rfl (q_assign rfl .c) (FJ.nil (FJ.then_ ?_))))
 refine FJ.ret (FJ.thenR (FJ.inBR (FJ.thenR (FJ.thenR ?_))))
 refine FJ.inBR (FJ.thenR ?_)
 refine FJ.upR (fun l w h => hupz12 _ _ (hupz17 _ _ (hupz26 _ _ (hupz45 _ _ (h))))) ?_
 refine FJ.doneS (res1 rfl .z) .n ?_
 first | (focus (exact absurd (by assumption) (FB _ _ hx75).1)) | (focus (exact absurd (by assumption) (FB _ _ hx79).1)) | (focus (have h9 := FC (i - 1) _ _ (by first | exact hx79 | (rw [show i - 1 = (((i : Nat) : Int) - 1).toNat by omega]; exact hx79)) (by rw [show i - 1 + 1 = i by omega]; exact hx75); omega)) | (focus (have h9 := FC (i - 1) _ _ (by first | exact hx75 | (rw [show i - 1 = (((i : Nat) : Int) - 1).toNat by omega]; exact hx75)) (by rw [show i - 1 + 1 = i by omega]; exact hx79); omega)) | exact ⟨rfl, rfl⟩ | (focus (exfalso; omega)) | (focus (exfalso; simp_all; done)) | (focus (refine ⟨congrArg Value.bool ?_, rfl⟩; simp_all; done)) | (focus (refine ⟨congrArg Value.bool ?_, rfl⟩; simp_all; omega))
 refine FJ.skip (FJ.then_ (FJ.seq (FJ.region (FJ.ql rfl (q_assign rfl .c) ?_))))
 refine FJ.nil (FJ.then_ (FJ.block ?_))
 refine FJ.loopi (γ := Nat) (fun j => [(9, .int .i64 (j : Int)), (8, .int .i64 (i : Int)), (7, .pointer (some ⟨g64, 0, none⟩)), (6, .pointer (some ⟨g41, 0, none⟩)), (5, .int .i64 m5), (4, .slice Ao11 bs4.length co11), (3, .slice Ao10 xs3.length co10)]) (fun j => [rowA g64 57 2 1 [.int .i64 ((freeR xs3 bs4).code), .slice (some ad74) ((freeR xs3 bs4).list).length co44], rowA g41 57 2 1 [.int .i64 ((pickR xs3 bs4 m5).code), .slice Ao25 ((pickR xs3 bs4 m5).list).length co25]]) (fun j => j ≤ xs3.length) (fun j => xs3.length - j) 0 (Nat.zero_le _) (.c .z (.c (.s16 (.s4 (.s4 (.s4 (.s (.s (.s .z))))))) (.c (.s16 (.s16 .z)) (.c (.s16 (.s16 (.s .z))) (.c (.s16 (.s16 (.s (.s .z)))) (.c (.s16 (.s16 (.s (.s (.s .z))))) (.c (.s16 (.s16 (.s4 .z))) .n))))))) (fun _ h => h.sel (.c .z (.c .z .n))) ?_
 rintro j hj
 refine FJ.seq (FJ.seq (FJ.region (FJ.ql rfl (q_move rfl (.t .z)) (FJ.ql rfl (q_move rfl (.t (.s4 (.s (.s (.s .z)))))) ?_))))
 refine FJ.ql rfl (q_len rfl u_41 (.t .z)) (FJ.ql rfl (q_lss rfl (.t (.s (.s .z))) (.t .z)) (FJ.nil (FJ.then_ ?_)))
 refine FJ.condP (.t .z) (fun b82 => ?_) (fun b82 => ?_)
 refine FJ.skip (FJ.then_ (FJ.seq (FJ.block (FJ.seq ?_))))
 refine FJ.draw [rowA g64 57 2 1 [.int .i64 ((freeR xs3 bs4).code), .slice (some ad74) ((freeR xs3 bs4).list).length co44], rowA g41 57 2 1 [.int .i64 ((pickR xs3 bs4 m5).code), .slice Ao25 ((pickR xs3 bs4 m5).list).length co25]] 11 (by kernel_rfl) ?_
 refine FJ.sch [(0, true), (1, true), (2, true), (3, true), (4, true), (5, true), (6, true), (7, true), (8, true), (9, true), (10, false)] 0 #[true, true, true, true, true, true, true, true, true, true, true] (by rfl) (by kernel_rfl) ?_
 refine FJ.dq rfl rfl rfl (by decide) rfl .z (q_move rfl (.t (.s4 (.s4 (.s (.s .z)))))) (FJ.dq rfl rfl rfl (by decide) rfl .z (q_move rfl (.t (.s4 (.s .z)))) ?_)
 obtain ⟨ad83, hAad83, hrad83⟩ := (ro_he hrz12) (by omega)
 subst hAad83
 obtain ⟨x84, hx84⟩ := get_ex (xs := xs3) (j := j) (by omega)
 obtain ⟨ece85, hre85, hFe85, hce85⟩ := hrad83.elem hx84
 obtain ⟨ue85_3, ue85_4, rfl, he85_3, he85_4⟩ := kT_30_ro hre85
 obtain ⟨Ae85_3, ce85_3, rfl, hle85_3, hme85_3, hbe85_3, hee85_3⟩ := ro_form he85_3
 obtain ⟨Ae85_4, ce85_4, rfl, hle85_4, hme85_4, hbe85_4, hee85_4⟩ := ro_form he85_4
 refine FJ.dq rfl rfl rfl (by decide) rfl .z (q_indexAddr (j := j) rfl u_41 sz_30 (.t (.s .z)) (.t .z) rfl (by omega)) ?_
 refine FJ.dq rfl rfl rfl (by decide) rfl .z (q_fieldAddr rfl (.t .z) (fun _ => fa_30_3 _ _)) (FJ.dq rfl rfl rfl (by decide) rfl .z (q_load rfl ag_22 (.t .z) (WS.el hFe85 hce85 rfl)) (FJ.dq rfl rfl rfl (by decide) rfl .z (q_fieldAddr rfl (.t (.s4 (.s4 (.s (.s (.s .z)))))) (fun _ => fa_57_1 _ _)) (FJ.dq rfl rfl rfl (by decide) rfl .z (q_load rfl ag_22 (.t .z) (WS.row .z rfl)) (FJ.dq rfl rfl rfl (by decide) rfl .z (q_move rfl (.t (.s4 (.s4 (.s4 .z))))) ?_))))
 refine FJ.dq rfl rfl rfl (by decide) rfl .z (q_indexAddr (j := i) rfl u_22 sz_2 (.t (.s .z)) (.t .z) rfl (by omega)) ?_
 refine FJ.dq rfl rfl rfl (by decide) rfl .z (q_load rfl ag_2 (.t .z) (WS.el0 hFe76 hce76 rfl)) ?_
 refine FJ.call (goes_sch rfl rfl) rfl (by decide) rfl (c_call rfl Try.func62 rfl rfl (args2 (.t (.s4 (.s .z))) (.t .z))) .n (fun w1 S1 hs tr => c_62 (tr.ctx he85_3) _) ?_
 rintro _ _ ⟨rfl, rfl⟩
 refine FJ.cat .n ?_
 refine FJ.sk .z ?_
 refine FJ.schN ?_
 refine FJ.drawN (by kernel_rfl) ?_
 refine FJ.then_ ?_
 refine FJ.condP (.t .z) (fun b88 => ?_) (fun b88 => ?_)
 refine FJ.seq (FJ.region (FJ.ql rfl (q_assign rfl .c) (FJ.nil (FJ.then_ ?_))))
 refine FJ.ret (FJ.inBR (FJ.thenR (FJ.thenR (FJ.inBR ?_))))
 refine FJ.inBR (FJ.thenR (FJ.thenR (FJ.inBR (FJ.thenR ?_))))
 refine FJ.upR (fun l w h => hupz12 _ _ (hupz17 _ _ (hupz26 _ _ (hupz45 _ _ (h))))) ?_
 refine FJ.doneS (res1 rfl .z) .n ?_
 first | (focus (exact absurd (by assumption) (FB _ _ hx75).1)) | (focus (exact absurd (by assumption) (FB _ _ hx79).1)) | (focus (exact absurd (used_of hx84 (by assumption)) (FB _ _ hx75).2)) | (focus (exact absurd (used_of hx84 (by assumption)) (FB _ _ hx79).2)) | (focus (have h9 := FC (i - 1) _ _ (by first | exact hx79 | (rw [show i - 1 = (((i : Nat) : Int) - 1).toNat by omega]; exact hx79)) (by rw [show i - 1 + 1 = i by omega]; exact hx75); omega)) | (focus (have h9 := FC (i - 1) _ _ (by first | exact hx75 | (rw [show i - 1 = (((i : Nat) : Int) - 1).toNat by omega]; exact hx75)) (by rw [show i - 1 + 1 = i by omega]; exact hx79); omega)) | exact ⟨rfl, rfl⟩ | (focus (exfalso; omega)) | (focus (exfalso; simp_all; done)) | (focus (refine ⟨congrArg Value.bool ?_, rfl⟩; simp_all; done)) | (focus (refine ⟨congrArg Value.bool ?_, rfl⟩; simp_all; omega))
 refine FJ.skip (FJ.inBN (FJ.then_ (FJ.region (FJ.ql rfl (q_move rfl (.t (.s4 (.s4 (.s4 (.s (.s (.s .z)))))))) ?_))))
 refine FJ.ql rfl (q_add (c := ((j + 1 : Nat) : Int)) rfl (.t .z) .c (wr (by omega) (by omega) (by omega))) ?_
 refine FJ.er (.s16 (.s .z)) (FJ.ql rfl (q_assign rfl (.t .z)) (FJ.nil ?_))
 refine FJ.again (j + 1) (by omega) (by first | omega | (dsimp only; omega)) (.c .z (.c (.s16 (.s (.s .z))) (.c (.s16 (.s (.s (.s .z)))) (.c (.s16 (.s4 .z)) (.c (.s16 (.s4 (.s .z))) (.c (.s16 (.s4 (.s (.s .z)))) (.c (.s16 (.s4 (.s (.s (.s .z))))) .n))))))) (fun _ h => h.sel (.c .z (.c .z .n)))
 refine FJ.exit (FJ.thenE (FJ.thenE (FJ.inB (FJ.inBN ?_))))
 refine FJ.then_ (FJ.region (FJ.ql rfl (q_move rfl (.t (.s4 (.s .z)))) ?_))
 refine FJ.ql rfl (q_add (c := ((i + 1 : Nat) : Int)) rfl (.t .z) .c (wr (by omega) (by omega) (by omega))) ?_
 refine FJ.er (.s4 (.s (.s (.s .z)))) (FJ.ql rfl (q_assign rfl (.t .z)) (FJ.nil ?_))
 refine FJ.again (i + 1) (by omega) (by first | omega | (dsimp only; omega)) (.c .z (.c (.s4 (.s4 .z)) (.c (.s4 (.s4 (.s .z))) (.c (.s4 (.s4 (.s (.s .z)))) (.c (.s4 (.s4 (.s (.s (.s .z))))) (.c (.s4 (.s4 (.s4 .z))) .n)))))) (fun _ h => h.sel (.c .z (.c .z .n)))
 refine FJ.sch [(11, true), (12, true), (13, true), (14, true), (15, true), (16, true), (17, true), (18, true), (19, true), (20, true), (21, true), (22, true), (23, true), (24, true)] 0 #[true, true, true, true, true, true, true, true, true, true, true, true, true, true, true, true, true, true, true, true, true, true, true, true, true] (by rfl) (by kernel_rfl) ?_
 refine FJ.dskip rfl rfl rfl .z rfl rfl (by decide) rfl .z ?_
 refine FJ.dskip rfl rfl rfl (.s .z) rfl rfl (by decide) rfl .z ?_
 refine FJ.dskip rfl rfl rfl (.s (.s .z)) rfl rfl (by decide) rfl .z ?_
 refine FJ.dskip rfl rfl rfl (.s (.s (.s .z))) rfl rfl (by decide) rfl .z ?_
 refine FJ.dskip rfl rfl rfl (.s4 .z) rfl rfl (by decide) rfl .z ?_
 refine FJ.dskip rfl rfl rfl (.s4 (.s .z)) rfl rfl (by decide) rfl .z ?_
 refine FJ.dskip rfl rfl rfl (.s4 (.s (.s .z))) rfl rfl (by decide) rfl .z ?_
 refine FJ.dskip rfl rfl rfl (.s4 (.s (.s (.s .z)))) rfl rfl (by decide) rfl .z ?_
 refine FJ.dskip rfl rfl rfl (.s4 (.s4 .z)) rfl rfl (by decide) rfl .z ?_
 refine FJ.dskip rfl rfl rfl (.s4 (.s4 (.s .z))) rfl rfl (by decide) rfl .z ?_
 refine FJ.dskip rfl rfl rfl (.s4 (.s4 (.s (.s .z)))) rfl rfl (by decide) rfl .z ?_
 refine FJ.dskip rfl rfl rfl (.s4 (.s4 (.s (.s (.s .z))))) rfl rfl (by decide) rfl .z ?_
 refine FJ.dqg rfl rfl rfl (.s4 (.s4 (.s4 (.s (.s (.s .z)))))) rfl (by decide) rfl .z (q_pickF rfl (.t (.s4 (.s4 (.s4 .z)))) .c) ?_
 refine FJ.dq rfl rfl rfl (by decide) rfl .z (q_pickF rfl (.t (.s16 .z)) (.t .z)) (FJ.schN ?_)
 refine FJ.drawN (by kernel_rfl) ?_
 refine FJ.then_ ?_
 refine FJ.condF (.t .z) ?_
 refine FJ.skip (FJ.then_ (FJ.seq (FJ.region (FJ.ql rfl (q_assign rfl .c) ?_))))
 refine FJ.nil (FJ.then_ (FJ.block ?_))
 refine FJ.loopi (γ := Nat) (fun j => [(9, .int .i64 (j : Int)), (8, .int .i64 (i : Int)), (7, .pointer (some ⟨g64, 0, none⟩)), (6, .pointer (some ⟨g41, 0, none⟩)), (5, .int .i64 m5), (4, .slice Ao11 bs4.length co11), (3, .slice Ao10 xs3.length co10)]) (fun j => [rowA g64 57 2 1 [.int .i64 ((freeR xs3 bs4).code), .slice (some ad74) ((freeR xs3 bs4).list).length co44], rowA g41 57 2 1 [.int .i64 ((pickR xs3 bs4 m5).code), .slice Ao25 ((pickR xs3 bs4 m5).list).length co25]]) (fun j => j ≤ xs3.length) (fun j => xs3.length - j) 0 (Nat.zero_le _) (.c .z (.c (.s16 (.s4 (.s4 (.s4 (.s (.s (.s .z))))))) (.c (.s16 (.s16 .z)) (.c (.s16 (.s16 (.s .z))) (.c (.s16 (.s16 (.s (.s .z)))) (.c (.s16 (.s16 (.s (.s (.s .z))))) (.c (.s16 (.s16 (.s4 .z))) .n))))))) (fun _ h => h.sel (.c .z (.c .z .n))) ?_
 rintro j hj
 refine FJ.seq (FJ.seq (FJ.region (FJ.ql rfl (q_move rfl (.t .z)) (FJ.ql rfl (q_move rfl (.t (.s4 (.s (.s (.s .z)))))) ?_))))
 refine FJ.ql rfl (q_len rfl u_41 (.t .z)) (FJ.ql rfl (q_lss rfl (.t (.s (.s .z))) (.t .z)) (FJ.nil (FJ.then_ ?_)))
 refine FJ.condP (.t .z) (fun b89 => ?_) (fun b89 => ?_)
 refine FJ.skip (FJ.then_ (FJ.seq (FJ.block (FJ.seq ?_))))
 refine FJ.draw [rowA g64 57 2 1 [.int .i64 ((freeR xs3 bs4).code), .slice (some ad74) ((freeR xs3 bs4).list).length co44], rowA g41 57 2 1 [.int .i64 ((pickR xs3 bs4 m5).code), .slice Ao25 ((pickR xs3 bs4 m5).list).length co25]] 11 (by kernel_rfl) ?_
 refine FJ.sch [(0, true), (1, true), (2, true), (3, true), (4, true), (5, true), (6, true), (7, true), (8, true), (9, true), (10, false)] 0 #[true, true, true, true, true, true, true, true, true, true, true] (by rfl) (by kernel_rfl) ?_
 refine FJ.dq rfl rfl rfl (by decide) rfl .z (q_move rfl (.t (.s4 (.s4 (.s (.s .z)))))) (FJ.dq rfl rfl rfl (by decide) rfl .z (q_move rfl (.t (.s4 (.s .z)))) ?_)
 obtain ⟨ad90, hAad90, hrad90⟩ := (ro_he hrz12) (by omega)
 subst hAad90
 obtain ⟨x91, hx91⟩ := get_ex (xs := xs3) (j := j) (by omega)
 obtain ⟨ece92, hre92, hFe92, hce92⟩ := hrad90.elem hx91
 obtain ⟨ue92_3, ue92_4, rfl, he92_3, he92_4⟩ := kT_30_ro hre92
 obtain ⟨Ae92_3, ce92_3, rfl, hle92_3, hme92_3, hbe92_3, hee92_3⟩ := ro_form he92_3
 obtain ⟨Ae92_4, ce92_4, rfl, hle92_4, hme92_4, hbe92_4, hee92_4⟩ := ro_form he92_4
 refine FJ.dq rfl rfl rfl (by decide) rfl .z (q_indexAddr (j := j) rfl u_41 sz_30 (.t (.s .z)) (.t .z) rfl (by omega)) ?_
 refine FJ.dq rfl rfl rfl (by decide) rfl .z (q_fieldAddr rfl (.t .z) (fun _ => fa_30_3 _ _)) (FJ.dq rfl rfl rfl (by decide) rfl .z (q_load rfl ag_22 (.t .z) (WS.el hFe92 hce92 rfl)) (FJ.dq rfl rfl rfl (by decide) rfl .z (q_fieldAddr rfl (.t (.s4 (.s4 (.s (.s (.s .z)))))) (fun _ => fa_57_1 _ _)) (FJ.dq rfl rfl rfl (by decide) rfl .z (q_load rfl ag_22 (.t .z) (WS.row .z rfl)) (FJ.dq rfl rfl rfl (by decide) rfl .z (q_move rfl (.t (.s4 (.s4 (.s4 .z))))) ?_))))
 refine FJ.dq rfl rfl rfl (by decide) rfl .z (q_indexAddr (j := i) rfl u_22 sz_2 (.t (.s .z)) (.t .z) rfl (by omega)) ?_
 refine FJ.dq rfl rfl rfl (by decide) rfl .z (q_load rfl ag_2 (.t .z) (WS.el0 hFe76 hce76 rfl)) ?_
 refine FJ.call (goes_sch rfl rfl) rfl (by decide) rfl (c_call rfl Try.func62 rfl rfl (args2 (.t (.s4 (.s .z))) (.t .z))) .n (fun w1 S1 hs tr => c_62 (tr.ctx he92_3) _) ?_
 rintro _ _ ⟨rfl, rfl⟩
 refine FJ.cat .n ?_
 refine FJ.sk .z ?_
 refine FJ.schN ?_
 refine FJ.drawN (by kernel_rfl) ?_
 refine FJ.then_ ?_
 refine FJ.condP (.t .z) (fun b95 => ?_) (fun b95 => ?_)
 refine FJ.seq (FJ.region (FJ.ql rfl (q_assign rfl .c) (FJ.nil (FJ.then_ ?_))))
 refine FJ.ret (FJ.inBR (FJ.thenR (FJ.thenR (FJ.inBR ?_))))
 refine FJ.inBR (FJ.thenR (FJ.thenR (FJ.inBR (FJ.thenR ?_))))
 refine FJ.upR (fun l w h => hupz12 _ _ (hupz17 _ _ (hupz26 _ _ (hupz45 _ _ (h))))) ?_
 refine FJ.doneS (res1 rfl .z) .n ?_
 first | (focus (exact absurd (by assumption) (FB _ _ hx75).1)) | (focus (exact absurd (used_of hx91 (by assumption)) (FB _ _ hx75).2)) | exact ⟨rfl, rfl⟩ | (focus (exfalso; omega)) | (focus (exfalso; simp_all; done)) | (focus (refine ⟨congrArg Value.bool ?_, rfl⟩; simp_all; done)) | (focus (refine ⟨congrArg Value.bool ?_, rfl⟩; simp_all; omega))
 refine FJ.skip (FJ.inBN (FJ.then_ (FJ.region (FJ.ql rfl (q_move rfl (.t (.s4 (.s4 (.s4 (.s (.s (.s .z)))))))) ?_))))
 refine FJ.ql rfl (q_add (c := ((j + 1 : Nat) : Int)) rfl (.t .z) .c (wr (by omega) (by omega) (by omega))) ?_
 refine FJ.er (.s16 (.s .z)) (FJ.ql rfl (q_assign rfl (.t .z)) (FJ.nil ?_))
 refine FJ.again (j + 1) (by omega) (by first | omega | (dsimp only; omega)) (.c .z (.c (.s16 (.s (.s .z))) (.c (.s16 (.s (.s (.s .z)))) (.c (.s16 (.s4 .z)) (.c (.s16 (.s4 (.s .z))) (.c (.s16 (.s4 (.s (.s .z)))) (.c (.s16 (.s4 (.s (.s (.s .z))))) .n))))))) (fun _ h => h.sel (.c .z (.c .z .n)))
 refine FJ.exit (FJ.thenE (FJ.thenE (FJ.inB (FJ.inBN ?_))))
 refine FJ.then_ (FJ.region (FJ.ql rfl (q_move rfl (.t (.s4 (.s .z)))) ?_))
 refine FJ.ql rfl (q_add (c := ((i + 1 : Nat) : Int)) rfl (.t .z) .c (wr (by omega) (by omega) (by omega))) ?_
 refine FJ.er (.s4 (.s (.s (.s .z)))) (FJ.ql rfl (q_assign rfl (.t .z)) (FJ.nil ?_))
 refine FJ.again (i + 1) (by omega) (by first | omega | (dsimp only; omega)) (.c .z (.c (.s4 (.s4 .z)) (.c (.s4 (.s4 (.s .z))) (.c (.s4 (.s4 (.s (.s .z)))) (.c (.s4 (.s4 (.s (.s (.s .z))))) (.c (.s4 (.s4 (.s4 .z))) .n)))))) (fun _ h => h.sel (.c .z (.c .z .n)))
 refine FJ.exit (FJ.thenE (FJ.thenE (FJ.inB (FJ.then_ ?_))))
 refine FJ.seq (FJ.region (FJ.ql rfl (q_move rfl (.t (.s4 (.s4 (.s (.s .z)))))) ?_))
 refine FJ.call (goes_list rfl) rfl (by decide) rfl (c_call rfl Try.func55 rfl rfl (args1 (.t .z))) .n (fun w1 S1 hs tr => c_55 (tr.ctx hrz12)) ?_
 rintro _ _ ⟨v96, rfl, rfl⟩
 refine FJ.cat (.c .n) ?_
 refine FJ.know (WS.oform .z) ?_
 rintro ⟨Ao98, co98, rfl, hlo98, hmo98, hbo98⟩
 refine FJ.e (goes_list rfl) rfl (by decide) rfl (e_alloc rfl z_57 rfl rfl) ?_
 rintro _ _ ⟨g99, rfl, rfl⟩
 refine FJ.es (goes_list rfl) rfl (es_store (off := 0) (cs := [.int .i64 ((usedR xs3).code), .slice Ao98 ((usedR xs3).list).length co98]) rfl sz_57 (.t .z) (.t (.s .z)) rfl (ones rfl) .z (Nat.le_of_ble_eq_true rfl) (.c .z (.c (.s .z) .n))) ?_
 refine FJ.nil (FJ.then_ (FJ.seq ?_))
 refine FJ.sel (.c (.s .z) (.c .z (.c .z (.c .z .n)))) ?_
 refine FJ.draw [rowA g99 57 2 1 [.int .i64 ((usedR xs3).code), .slice Ao98 ((usedR xs3).list).length co98], rowA g64 57 2 1 [.int .i64 ((freeR xs3 bs4).code), .slice Ao44 ((freeR xs3 bs4).list).length co44], rowA g41 57 2 1 [.int .i64 ((pickR xs3 bs4 m5).code), .slice Ao25 ((pickR xs3 bs4 m5).list).length co25]] 45 (by kernel_rfl) ?_
 refine FJ.sch [(0, true), (1, true), (2, true), (3, true)] 42 #[true, true, true, true, false, false, false, false, false, false, false, false, false, false, false, false, false, false, false, false, false, false, false, false, false, false, false, false, false, false, false, false, false, false, false, false, false, false, false, false, false, false, false, false, false, false] (by rfl) (by kernel_rfl) ?_
 refine FJ.dq rfl rfl rfl (by decide) rfl (.s .z) (q_fieldAddr rfl (.t (.s4 (.s4 (.s .z)))) (fun _ => fa_57_0 _ _)) (FJ.dq rfl rfl rfl (by decide) rfl (.s .z) (q_load rfl ag_2 (.t .z) (WS.row (.s .z) rfl)) (FJ.dq rfl rfl rfl (by decide) rfl (.s .z) (q_eql rfl (.t .z) .c) (FJ.dq rfl rfl rfl (by decide) rfl (.s .z) (q_move rfl (.t .z)) (FJ.schN ?_))))
 refine FJ.caseP .z (fun g100 => ?_) (fun g100 => ?_)
 refine FJ.sch [(4, true), (5, true), (6, true), (7, true), (8, true), (9, true), (10, true)] 35 #[true, true, true, true, true, true, true, true, true, true, true, false, false, false, false, false, false, false, false, false, false, false, false, false, false, false, false, false, false, false, false, false, false, false, false, false, false, false, false, false, false, false, false, false, false, false] (by rfl) (by kernel_rfl) ?_
 refine FJ.dqg rfl rfl rfl .z rfl (by decide) rfl (.s .z) (q_fieldAddr rfl (.t (.s4 (.s4 (.s4 (.s (.s .z)))))) (fun _ => fa_57_1 _ _)) ?_
 refine FJ.dqg rfl rfl rfl (.s .z) rfl (by decide) rfl (.s .z) (q_load rfl ag_22 (.t .z) (WS.row (.s (.s .z)) rfl)) ?_
 refine FJ.dqg rfl rfl rfl (.s (.s .z)) rfl (by decide) rfl (.s .z) (q_len rfl u_22 (.t .z)) ?_
 refine FJ.dqg rfl rfl rfl (.s (.s (.s .z))) rfl (by decide) rfl (.s .z) (q_move rfl (.t (.s16 (.s (.s .z))))) ?_
 refine FJ.dqg rfl rfl rfl (.s4 .z) rfl (by decide) rfl (.s .z) (q_eql rfl (.t (.s .z)) (.t .z)) ?_
 refine FJ.dq rfl rfl rfl (by decide) rfl (.s .z) (q_pickT rfl (.t (.s4 (.s .z))) (.t .z)) (FJ.dq rfl rfl rfl (by decide) rfl (.s .z) (q_move rfl (.t .z)) (FJ.schN ?_))
 refine FJ.caseP .z (fun g101 => ?_) (fun g101 => ?_)
 refine FJ.sch [(11, true), (12, true), (13, true), (14, true), (15, true), (16, true), (17, false), (18, true), (19, true)] 26 #[true, true, true, true, true, true, true, true, true, true, true, true, true, true, true, true, true, true, true, true, false, false, false, false, false, false, false, false, false, false, false, false, false, false, false, false, false, false, false, false, false, false, false, false, false, false] (by rfl) (by kernel_rfl) ?_
 refine FJ.dqg rfl rfl rfl .z rfl (by decide) rfl (.s .z) (q_fieldAddr rfl (.t (.s16 (.s4 (.s .z)))) (fun _ => fa_57_1 _ _)) ?_
 refine FJ.dqg rfl rfl rfl (.s .z) rfl (by decide) rfl (.s .z) (q_load rfl ag_22 (.t .z) (WS.row (.s (.s .z)) rfl)) ?_
 refine FJ.dqg rfl rfl rfl (.s (.s .z)) rfl (by decide) rfl (.s .z) (q_fieldAddr rfl (.t (.s16 (.s4 (.s (.s .z))))) (fun _ => fa_57_1 _ _)) ?_
 refine FJ.dqg rfl rfl rfl (.s (.s (.s .z))) rfl (by decide) rfl (.s .z) (q_load rfl ag_22 (.t .z) (WS.row (.s .z) rfl)) ?_
 refine FJ.dqg rfl rfl rfl (.s4 .z) rfl (by decide) rfl (.s .z) (q_move rfl (.t (.s16 (.s4 (.s4 (.s (.s .z))))))) ?_
 refine FJ.eq .z (congrArg (Value.int .i64) (show m5 = ((Int.toNat m5 : Nat) : Int) by omega)) ?_
 obtain ⟨As102, hAs102⟩ : ∃ A' : Option Addr, A' = (if co44 = 0 then Ao44 else Option.map (fun z => Addr.add z (0 * 1)) Ao44) := ⟨_, rfl⟩
 have hs102 := ro_sub (a := 0) (b := Int.toNat m5) hAs102 hrz45 (by omega) (by omega)
 have ls102 := subL_len (xs := (freeR xs3 bs4).list) (a := 0) (b := Int.toNat m5) (by omega)
 refine FJ.dqg rfl rfl rfl (.s4 (.s .z)) rfl (by decide) rfl (.s .z) (q_sliceL (a := 0) (b := Int.toNat m5) rfl u_22 sz_2 (.t (.s .z)) hAs102 (.inl ⟨rfl, rfl⟩) (.inr ⟨_, _, rfl, (.t .z)⟩) (by omega) (by omega) (by omega)) ?_
 refine FJ.call (goes_schg rfl rfl rfl (.s4 (.s (.s .z)))) rfl (by decide) rfl (c_call rfl Try.func44 rfl rfl (args2 (.t (.s4 .z)) (.t .z))) .n (fun w1 S1 hs tr => c_44 (tr.ctx hrz26) (tr.ctx hs102)) ?_
 rintro _ _ ⟨rfl, rfl⟩
 refine FJ.cat .n ?_
 refine FJ.sk (.s .z) ?_
 refine FJ.dq rfl rfl rfl (by decide) rfl (.s .z) (q_pickT rfl (.t (.s4 (.s (.s (.s .z))))) (.t .z)) (FJ.dq rfl rfl rfl (by decide) rfl (.s .z) (q_move rfl (.t .z)) (FJ.schN ?_))
 refine FJ.caseP .z (fun g104 => ?_) (fun g104 => ?_)
 refine FJ.sch [(20, true), (21, true), (22, true), (23, true), (24, true), (25, false), (26, true), (27, true), (28, true), (29, true), (30, true)] 15 #[true, true, true, true, true, true, true, true, true, true, true, true, true, true, true, true, true, true, true, true, true, true, true, true, true, true, true, true, true, true, true, false, false, false, false, false, false, false, false, false, false, false, false, false, false, false] (by rfl) (by kernel_rfl) ?_
 refine FJ.dqg rfl rfl rfl .z rfl (by decide) rfl (.s .z) (q_fieldAddr rfl (.t (.s16 (.s4 (.s4 (.s4 (.s .z)))))) (fun _ => fa_57_1 _ _)) ?_
 refine FJ.dqg rfl rfl rfl (.s .z) rfl (by decide) rfl (.s .z) (q_load rfl ag_22 (.t .z) (WS.row (.s .z) rfl)) ?_
 refine FJ.dqg rfl rfl rfl (.s (.s .z)) rfl (by decide) rfl (.s .z) (q_len rfl u_22 (.t .z)) ?_
 refine FJ.dqg rfl rfl rfl (.s (.s (.s .z))) rfl (by decide) rfl (.s .z) (q_move rfl (.t (.s16 (.s16 (.s4 .z))))) ?_
 refine FJ.dqg rfl rfl rfl (.s4 .z) rfl (by decide) rfl (.s .z) (q_move rfl (.t (.s16 (.s16 (.s4 .z))))) ?_
 refine FJ.call (goes_schg rfl rfl rfl (.s4 (.s .z))) rfl (by decide) rfl (c_call rfl Try.func57 rfl rfl (args2 (.t (.s .z)) (.t .z))) .n (fun w1 S1 hs tr => c_57 (tr.ctx hrz12) (tr.ctx hrz17)) ?_
 rintro _ _ ⟨v105, rfl, rfl⟩
 refine FJ.cat (.c .n) ?_
 refine FJ.know (WS.oform .z) ?_
 rintro ⟨Ao107, co107, rfl, hlo107, hmo107, hbo107⟩
 refine FJ.sk (.s (.s .z)) ?_
 refine FJ.dqg rfl rfl rfl (.s4 (.s (.s .z))) rfl (by decide) rfl (.s (.s .z)) (q_field rfl (.t .z) (fun w => fv_57_1 w (.int .i64 ((freeR xs3 bs4).code)) (.slice Ao107 ((freeR xs3 bs4).list).length co107))) ?_
 refine FJ.dqg rfl rfl rfl (.s4 (.s (.s (.s .z)))) rfl (by decide) rfl (.s (.s .z)) (q_len rfl u_22 (.t .z)) ?_
 refine FJ.dqg rfl rfl rfl (.s4 (.s4 .z)) rfl (by decide) rfl (.s (.s .z)) (q_eql rfl (.t (.s4 (.s .z))) (.t .z)) ?_
 refine FJ.dq rfl rfl rfl (by decide) rfl (.s (.s .z)) (q_pickT rfl (.t (.s4 (.s4 (.s .z)))) (.t .z)) (FJ.dq rfl rfl rfl (by decide) rfl (.s (.s .z)) (q_move rfl (.t .z)) (FJ.schN ?_))
 refine FJ.caseP .z (fun g108 => ?_) (fun g108 => ?_)
 refine FJ.sch [(31, true), (32, true), (33, true), (34, false), (35, true), (36, true), (37, true), (38, true)] 7 #[true, true, true, true, true, true, true, true, true, true, true, true, true, true, true, true, true, true, true, true, true, true, true, true, true, true, true, true, true, true, true, true, true, true, true, true, true, true, true, false, false, false, false, false, false, false] (by rfl) (by kernel_rfl) ?_
 refine FJ.dqg rfl rfl rfl .z rfl (by decide) rfl (.s (.s .z)) (q_fieldAddr rfl (.t (.s16 (.s4 (.s4 (.s4 (.s (.s (.s .z)))))))) (fun _ => fa_57_0 _ _)) ?_
 refine FJ.dqg rfl rfl rfl (.s .z) rfl (by decide) rfl (.s (.s .z)) (q_load rfl ag_2 (.t .z) (WS.row .z rfl)) ?_
 refine FJ.dqg rfl rfl rfl (.s (.s .z)) rfl (by decide) rfl (.s (.s .z)) (q_move rfl (.t (.s16 (.s16 (.s4 (.s4 (.s4 (.s (.s .z))))))))) ?_
 refine FJ.call (goes_schg rfl rfl rfl (.s (.s (.s .z)))) rfl (by decide) rfl (c_call rfl Try.func54 rfl rfl (args1 (.t .z))) .n (fun w1 S1 hs tr => c_54 (tr.ctx hrz12)) ?_
 rintro _ _ ⟨v109, rfl, rfl⟩
 refine FJ.cat (.c .n) ?_
 refine FJ.know (WS.oform .z) ?_
 rintro ⟨Ao111, co111, rfl, hlo111, hmo111, hbo111⟩
 refine FJ.sk (.s (.s (.s .z))) ?_
 refine FJ.dqg rfl rfl rfl (.s4 .z) rfl (by decide) rfl (.s (.s (.s .z))) (q_field rfl (.t .z) (fun w => fv_57_0 w (.int .i64 ((usedR xs3).code)) (.slice Ao111 ((usedR xs3).list).length co111))) ?_
 refine FJ.dqg rfl rfl rfl (.s4 (.s .z)) rfl (by decide) rfl (.s (.s (.s .z))) (q_eql rfl (.t (.s (.s (.s .z)))) (.t .z)) ?_
 refine FJ.dq rfl rfl rfl (by decide) rfl (.s (.s (.s .z))) (q_pickT rfl (.t (.s4 (.s (.s .z)))) (.t .z)) (FJ.dq rfl rfl rfl (by decide) rfl (.s (.s (.s .z))) (q_move rfl (.t .z)) (FJ.schN ?_))
 refine FJ.caseP .z (fun g112 => ?_) (fun g112 => ?_)
 refine FJ.sch [(39, true), (41, true), (40, false), (42, false), (43, true), (44, true), (45, false)] 0 #[true, true, true, true, true, true, true, true, true, true, true, true, true, true, true, true, true, true, true, true, true, true, true, true, true, true, true, true, true, true, true, true, true, true, true, true, true, true, true, true, true, true, true, true, true, true] (by rfl) (by kernel_rfl) ?_
 refine FJ.dqg rfl rfl rfl .z rfl (by decide) rfl (.s (.s (.s .z))) (q_move rfl (.t (.s16 (.s16 (.s16 (.s4 .z)))))) ?_
 refine FJ.dqg rfl rfl rfl (.s .z) rfl (by decide) rfl (.s (.s (.s .z))) (q_move rfl (.t (.s16 (.s16 (.s16 (.s4 (.s .z))))))) ?_
 refine FJ.call (goes_schg rfl rfl rfl (.s (.s .z))) rfl (by decide) rfl (c_call rfl Try.func30 rfl rfl (args1 (.t (.s .z)))) .n (fun w1 S1 hs tr => c_30 (tr.ctx hrz12)) ?_
 rintro _ _ ⟨rfl, rfl⟩
 refine FJ.cat .n ?_
 refine FJ.sk (.s (.s (.s .z))) ?_
 refine FJ.call (goes_schg rfl rfl rfl (.s (.s (.s .z)))) rfl (by decide) rfl (c_call rfl Try.func28 rfl rfl (args1 (.t (.s .z)))) .n (fun w1 S1 hs tr => c_28 (tr.ctx hrz12)) ?_
 rintro _ _ ⟨rfl, rfl⟩
 refine FJ.cat .n ?_
 refine FJ.sk (.s (.s (.s .z))) ?_
 refine FJ.dqg rfl rfl rfl (.s4 .z) rfl (by decide) rfl (.s (.s (.s .z))) (q_enteql rfl (ent_eq_48 (freePlace xs3) (freePlace xs3)) ent_gd_48 (.t (.s .z)) (.t .z)) ?_
 refine FJ.dq rfl rfl rfl (by decide) rfl (.s (.s (.s .z))) (q_pickT rfl (.t (.s4 (.s .z))) (.t .z)) ?_
 refine FJ.q (goes_sch rfl rfl) rfl (by decide) rfl (q_assign rfl (.t .z)) ?_
 refine FJ.sl rfl ?_
 refine FJ.schN ?_
 refine FJ.drawN (by kernel_rfl) ?_
 refine FJ.then_ (FJ.ret ?_)
 refine FJ.upR (fun l w h => hupz12 _ _ (hupz17 _ _ (hupz26 _ _ (hupz45 _ _ (h))))) ?_
 refine FJ.doneS (res1 rfl .z) .n ?_
 first | exact ⟨rfl, rfl⟩ | (focus (exfalso; omega)) | (focus (exfalso; simp_all; done)) | (focus (refine ⟨congrArg Value.bool ?_, rfl⟩; simp_all; done)) | (focus (refine ⟨congrArg Value.bool ?_, rfl⟩; simp_all; omega))
 refine FJ.sch [(39, true), (40, true), (41, true), (42, true), (43, true), (44, true), (45, false)] 0 #[true, true, true, true, true, true, true, true, true, true, true, true, true, true, true, true, true, true, true, true, true, true, true, true, true, true, true, true, true, true, true, true, true, true, true, true, true, true, true, true, true, true, true, true, true, true] (by rfl) (by kernel_rfl) ?_
 refine FJ.dskip rfl rfl rfl .z rfl rfl (by decide) rfl (.s (.s (.s .z))) ?_
 refine FJ.dskip rfl rfl rfl (.s .z) rfl rfl (by decide) rfl (.s (.s (.s .z))) ?_
 refine FJ.dskip rfl rfl rfl (.s (.s .z)) rfl rfl (by decide) rfl (.s (.s (.s .z))) ?_
 refine FJ.dskip rfl rfl rfl (.s (.s (.s .z))) rfl rfl (by decide) rfl (.s (.s (.s .z))) ?_
 refine FJ.dskip rfl rfl rfl (.s4 .z) rfl rfl (by decide) rfl (.s (.s (.s .z))) ?_
 refine FJ.dq rfl rfl rfl (by decide) rfl (.s (.s (.s .z))) (q_pickF rfl (.t (.s4 (.s .z))) .c) ?_
 refine FJ.q (goes_sch rfl rfl) rfl (by decide) rfl (q_assign rfl (.t .z)) ?_
 refine FJ.sl rfl ?_
 refine FJ.schN ?_
 refine FJ.drawN (by kernel_rfl) ?_
 refine FJ.then_ (FJ.ret ?_)
 refine FJ.upR (fun l w h => hupz12 _ _ (hupz17 _ _ (hupz26 _ _ (hupz45 _ _ (h))))) ?_
 refine FJ.doneS (res1 rfl .z) .n ?_
 first | exact ⟨rfl, rfl⟩ | (focus (exfalso; omega)) | (focus (exfalso; simp_all; done)) | (focus (refine ⟨congrArg Value.bool ?_, rfl⟩; simp_all; done)) | (focus (refine ⟨congrArg Value.bool ?_, rfl⟩; simp_all; omega))
 refine FJ.sch [(31, true), (32, true), (33, true), (34, true), (35, true), (36, true), (37, true), (38, true), (39, true), (40, true), (41, true), (42, true), (43, true), (44, true), (45, false)] 0 #[true, true, true, true, true, true, true, true, true, true, true, true, true, true, true, true, true, true, true, true, true, true, true, true, true, true, true, true, true, true, true, true, true, true, true, true, true, true, true, true, true, true, true, true, true, true] (by rfl) (by kernel_rfl) ?_
 refine FJ.dskip rfl rfl rfl .z rfl rfl (by decide) rfl (.s (.s .z)) ?_
 refine FJ.dskip rfl rfl rfl (.s .z) rfl rfl (by decide) rfl (.s (.s .z)) ?_
 refine FJ.dskip rfl rfl rfl (.s (.s .z)) rfl rfl (by decide) rfl (.s (.s .z)) ?_
 refine FJ.dskip rfl rfl rfl (.s (.s (.s .z))) rfl rfl (by decide) rfl (.s (.s .z)) ?_
 refine FJ.dskip rfl rfl rfl (.s4 .z) rfl rfl (by decide) rfl (.s (.s .z)) ?_
 refine FJ.dskip rfl rfl rfl (.s4 (.s .z)) rfl rfl (by decide) rfl (.s (.s .z)) ?_
 refine FJ.dq rfl rfl rfl (by decide) rfl (.s (.s .z)) (q_pickF rfl (.t (.s4 (.s (.s .z)))) .c) (FJ.dq rfl rfl rfl (by decide) rfl (.s (.s .z)) (q_move rfl (.t .z)) ?_)
 refine FJ.dskip rfl rfl rfl .z rfl rfl (by decide) rfl (.s (.s .z)) ?_
 refine FJ.dskip rfl rfl rfl (.s .z) rfl rfl (by decide) rfl (.s (.s .z)) ?_
 refine FJ.dskip rfl rfl rfl (.s (.s .z)) rfl rfl (by decide) rfl (.s (.s .z)) ?_
 refine FJ.dskip rfl rfl rfl (.s (.s (.s .z))) rfl rfl (by decide) rfl (.s (.s .z)) ?_
 refine FJ.dskip rfl rfl rfl (.s4 .z) rfl rfl (by decide) rfl (.s (.s .z)) ?_
 refine FJ.dq rfl rfl rfl (by decide) rfl (.s (.s .z)) (q_pickF rfl (.t (.s4 (.s .z))) .c) ?_
 refine FJ.q (goes_sch rfl rfl) rfl (by decide) rfl (q_assign rfl (.t .z)) ?_
 refine FJ.sl rfl ?_
 refine FJ.schN ?_
 refine FJ.drawN (by kernel_rfl) ?_
 refine FJ.then_ (FJ.ret ?_)
 refine FJ.upR (fun l w h => hupz12 _ _ (hupz17 _ _ (hupz26 _ _ (hupz45 _ _ (h))))) ?_
 refine FJ.doneS (res1 rfl .z) .n ?_
 first | exact ⟨rfl, rfl⟩ | (focus (exfalso; omega)) | (focus (exfalso; simp_all; done)) | (focus (refine ⟨congrArg Value.bool ?_, rfl⟩; simp_all; done)) | (focus (refine ⟨congrArg Value.bool ?_, rfl⟩; simp_all; omega))
 refine FJ.sch [(20, true), (21, true), (22, true), (23, true), (24, true), (25, true), (26, true), (27, true), (28, true), (29, true), (30, true), (31, true), (32, true), (33, true), (34, true), (35, true), (36, true), (37, true), (38, true), (39, true), (40, true), (41, true), (42, true), (43, true), (44, true), (45, false)] 0 #[true, true, true, true, true, true, true, true, true, true, true, true, true, true, true, true, true, true, true, true, true, true, true, true, true, true, true, true, true, true, true, true, true, true, true, true, true, true, true, true, true, true, true, true, true, true] (by rfl) (by kernel_rfl) ?_
 refine FJ.dskip rfl rfl rfl .z rfl rfl (by decide) rfl (.s .z) ?_
 refine FJ.dskip rfl rfl rfl (.s .z) rfl rfl (by decide) rfl (.s .z) ?_
 refine FJ.dskip rfl rfl rfl (.s (.s .z)) rfl rfl (by decide) rfl (.s .z) ?_
 refine FJ.dskip rfl rfl rfl (.s (.s (.s .z))) rfl rfl (by decide) rfl (.s .z) ?_
 refine FJ.dskip rfl rfl rfl (.s4 .z) rfl rfl (by decide) rfl (.s .z) ?_
 refine FJ.dskip rfl rfl rfl (.s4 (.s .z)) rfl rfl (by decide) rfl (.s .z) ?_
 refine FJ.dskip rfl rfl rfl (.s4 (.s (.s .z))) rfl rfl (by decide) rfl (.s .z) ?_
 refine FJ.dskip rfl rfl rfl (.s4 (.s (.s (.s .z)))) rfl rfl (by decide) rfl (.s .z) ?_
 refine FJ.dskip rfl rfl rfl (.s4 (.s4 .z)) rfl rfl (by decide) rfl (.s .z) ?_
 refine FJ.dq rfl rfl rfl (by decide) rfl (.s .z) (q_pickF rfl (.t (.s4 (.s4 (.s .z)))) .c) (FJ.dq rfl rfl rfl (by decide) rfl (.s .z) (q_move rfl (.t .z)) ?_)
 refine FJ.dskip rfl rfl rfl .z rfl rfl (by decide) rfl (.s .z) ?_
 refine FJ.dskip rfl rfl rfl (.s .z) rfl rfl (by decide) rfl (.s .z) ?_
 refine FJ.dskip rfl rfl rfl (.s (.s .z)) rfl rfl (by decide) rfl (.s .z) ?_
 refine FJ.dskip rfl rfl rfl (.s (.s (.s .z))) rfl rfl (by decide) rfl (.s .z) ?_
 refine FJ.dskip rfl rfl rfl (.s4 .z) rfl rfl (by decide) rfl (.s .z) ?_
 refine FJ.dskip rfl rfl rfl (.s4 (.s .z)) rfl rfl (by decide) rfl (.s .z) ?_
 refine FJ.dq rfl rfl rfl (by decide) rfl (.s .z) (q_pickF rfl (.t (.s4 (.s (.s .z)))) .c) (FJ.dq rfl rfl rfl (by decide) rfl (.s .z) (q_move rfl (.t .z)) ?_)
 refine FJ.dskip rfl rfl rfl .z rfl rfl (by decide) rfl (.s .z) ?_
 refine FJ.dskip rfl rfl rfl (.s .z) rfl rfl (by decide) rfl (.s .z) ?_
 refine FJ.dskip rfl rfl rfl (.s (.s .z)) rfl rfl (by decide) rfl (.s .z) ?_
 refine FJ.dskip rfl rfl rfl (.s (.s (.s .z))) rfl rfl (by decide) rfl (.s .z) ?_
 refine FJ.dskip rfl rfl rfl (.s4 .z) rfl rfl (by decide) rfl (.s .z) ?_
 refine FJ.dq rfl rfl rfl (by decide) rfl (.s .z) (q_pickF rfl (.t (.s4 (.s .z))) .c) ?_
 refine FJ.q (goes_sch rfl rfl) rfl (by decide) rfl (q_assign rfl (.t .z)) ?_
 refine FJ.sl rfl ?_
 refine FJ.schN ?_
 refine FJ.drawN (by kernel_rfl) ?_
 refine FJ.then_ (FJ.ret ?_)
 refine FJ.upR (fun l w h => hupz12 _ _ (hupz17 _ _ (hupz26 _ _ (hupz45 _ _ (h))))) ?_
 refine FJ.doneS (res1 rfl .z) .n ?_
 first | exact ⟨rfl, rfl⟩ | (focus (exfalso; omega)) | (focus (exfalso; simp_all; done)) | (focus (refine ⟨congrArg Value.bool ?_, rfl⟩; simp_all; done)) | (focus (refine ⟨congrArg Value.bool ?_, rfl⟩; simp_all; omega))
 refine FJ.sch [(11, true), (12, true), (13, true), (14, true), (15, true), (16, true), (17, true), (18, true), (19, true), (20, true), (21, true), (22, true), (23, true), (24, true), (25, true), (26, true), (27, true), (28, true), (29, true), (30, true), (31, true), (32, true), (33, true), (34, true), (35, true), (36, true), (37, true), (38, true), (39, true), (40, true), (41, true), (42, true), (43, true), (44, true), (45, false)] 0 #[true, true, true, true, true, true, true, true, true, true, true, true, true, true, true, true, true, true, true, true, true, true, true, true, true, true, true, true, true, true, true, true, true, true, true, true, true, true, true, true, true, true, true, true, true, true] (by rfl) (by kernel_rfl) ?_
 refine FJ.dskip rfl rfl rfl .z rfl rfl (by decide) rfl (.s .z) ?_
 refine FJ.dskip rfl rfl rfl (.s .z) rfl rfl (by decide) rfl (.s .z) ?_
 refine FJ.dskip rfl rfl rfl (.s (.s .z)) rfl rfl (by decide) rfl (.s .z) ?_
 refine FJ.dskip rfl rfl rfl (.s (.s (.s .z))) rfl rfl (by decide) rfl (.s .z) ?_
 refine FJ.dskip rfl rfl rfl (.s4 .z) rfl rfl (by decide) rfl (.s .z) ?_
 refine FJ.dskip rfl rfl rfl (.s4 (.s .z)) rfl rfl (by decide) rfl (.s .z) ?_
 refine FJ.dskip rfl rfl rfl (.s4 (.s (.s .z))) rfl rfl (by decide) rfl (.s .z) ?_
 refine FJ.dq rfl rfl rfl (by decide) rfl (.s .z) (q_pickF rfl (.t (.s4 (.s (.s (.s .z))))) .c) (FJ.dq rfl rfl rfl (by decide) rfl (.s .z) (q_move rfl (.t .z)) ?_)
 refine FJ.dskip rfl rfl rfl .z rfl rfl (by decide) rfl (.s .z) ?_
 refine FJ.dskip rfl rfl rfl (.s .z) rfl rfl (by decide) rfl (.s .z) ?_
 refine FJ.dskip rfl rfl rfl (.s (.s .z)) rfl rfl (by decide) rfl (.s .z) ?_
 refine FJ.dskip rfl rfl rfl (.s (.s (.s .z))) rfl rfl (by decide) rfl (.s .z) ?_
 refine FJ.dskip rfl rfl rfl (.s4 .z) rfl rfl (by decide) rfl (.s .z) ?_
 refine FJ.dskip rfl rfl rfl (.s4 (.s .z)) rfl rfl (by decide) rfl (.s .z) ?_
 refine FJ.dskip rfl rfl rfl (.s4 (.s (.s .z))) rfl rfl (by decide) rfl (.s .z) ?_
 refine FJ.dskip rfl rfl rfl (.s4 (.s (.s (.s .z)))) rfl rfl (by decide) rfl (.s .z) ?_
 refine FJ.dskip rfl rfl rfl (.s4 (.s4 .z)) rfl rfl (by decide) rfl (.s .z) ?_
 refine FJ.dq rfl rfl rfl (by decide) rfl (.s .z) (q_pickF rfl (.t (.s4 (.s4 (.s .z)))) .c) (FJ.dq rfl rfl rfl (by decide) rfl (.s .z) (q_move rfl (.t .z)) ?_)
 refine FJ.dskip rfl rfl rfl .z rfl rfl (by decide) rfl (.s .z) ?_
 refine FJ.dskip rfl rfl rfl (.s .z) rfl rfl (by decide) rfl (.s .z) ?_
 refine FJ.dskip rfl rfl rfl (.s (.s .z)) rfl rfl (by decide) rfl (.s .z) ?_
 refine FJ.dskip rfl rfl rfl (.s (.s (.s .z))) rfl rfl (by decide) rfl (.s .z) ?_
 refine FJ.dskip rfl rfl rfl (.s4 .z) rfl rfl (by decide) rfl (.s .z) ?_
 refine FJ.dskip rfl rfl rfl (.s4 (.s .z)) rfl rfl (by decide) rfl (.s .z) ?_
 refine FJ.dq rfl rfl rfl (by decide) rfl (.s .z) (q_pickF rfl (.t (.s4 (.s (.s .z)))) .c) (FJ.dq rfl rfl rfl (by decide) rfl (.s .z) (q_move rfl (.t .z)) ?_)
 refine FJ.dskip rfl rfl rfl .z rfl rfl (by decide) rfl (.s .z) ?_
 refine FJ.dskip rfl rfl rfl (.s .z) rfl rfl (by decide) rfl (.s .z) ?_
 refine FJ.dskip rfl rfl rfl (.s (.s .z)) rfl rfl (by decide) rfl (.s .z) ?_
 refine FJ.dskip rfl rfl rfl (.s (.s (.s .z))) rfl rfl (by decide) rfl (.s .z) ?_
 refine FJ.dskip rfl rfl rfl (.s4 .z) rfl rfl (by decide) rfl (.s .z) ?_
 refine FJ.dq rfl rfl rfl (by decide) rfl (.s .z) (q_pickF rfl (.t (.s4 (.s .z))) .c) ?_
 refine FJ.q (goes_sch rfl rfl) rfl (by decide) rfl (q_assign rfl (.t .z)) ?_
 refine FJ.sl rfl ?_
 refine FJ.schN ?_
 refine FJ.drawN (by kernel_rfl) ?_
 refine FJ.then_ (FJ.ret ?_)
 refine FJ.upR (fun l w h => hupz12 _ _ (hupz17 _ _ (hupz26 _ _ (hupz45 _ _ (h))))) ?_
 refine FJ.doneS (res1 rfl .z) .n ?_
 first | exact ⟨rfl, rfl⟩ | (focus (exfalso; omega)) | (focus (exfalso; simp_all; done)) | (focus (refine ⟨congrArg Value.bool ?_, rfl⟩; simp_all; done)) | (focus (refine ⟨congrArg Value.bool ?_, rfl⟩; simp_all; omega))
 refine FJ.sch [(4, true), (5, true), (6, true), (7, true), (8, true), (9, true), (10, true), (11, true), (12, true), (13, true), (14, true), (15, true), (16, true), (17, true), (18, true), (19, true), (20, true), (21, true), (22, true), (23, true), (24, true), (25, true), (26, true), (27, true), (28, true), (29, true), (30, true), (31, true), (32, true), (33, true), (34, true), (35, true), (36, true), (37, true), (38, true), (39, true), (40, true), (41, true), (42, true), (43, true), (44, true), (45, false)] 0 #[true, true, true, true, true, true, true, true, true, true, true, true, true, true, true, true, true, true, true, true, true, true, true, true, true, true, true, true, true, true, true, true, true, true, true, true, true, true, true, true, true, true, true, true, true, true] (by rfl) (by kernel_rfl) ?_
 refine FJ.dskip rfl rfl rfl .z rfl rfl (by decide) rfl (.s .z) ?_
 refine FJ.dskip rfl rfl rfl (.s .z) rfl rfl (by decide) rfl (.s .z) ?_
 refine FJ.dskip rfl rfl rfl (.s (.s .z)) rfl rfl (by decide) rfl (.s .z) ?_
 refine FJ.dskip rfl rfl rfl (.s (.s (.s .z))) rfl rfl (by decide) rfl (.s .z) ?_
 refine FJ.dskip rfl rfl rfl (.s4 .z) rfl rfl (by decide) rfl (.s .z) ?_
 refine FJ.dq rfl rfl rfl (by decide) rfl (.s .z) (q_pickF rfl (.t (.s4 (.s .z))) .c) (FJ.dq rfl rfl rfl (by decide) rfl (.s .z) (q_move rfl (.t .z)) ?_)
 refine FJ.dskip rfl rfl rfl .z rfl rfl (by decide) rfl (.s .z) ?_
 refine FJ.dskip rfl rfl rfl (.s .z) rfl rfl (by decide) rfl (.s .z) ?_
 refine FJ.dskip rfl rfl rfl (.s (.s .z)) rfl rfl (by decide) rfl (.s .z) ?_
 refine FJ.dskip rfl rfl rfl (.s (.s (.s .z))) rfl rfl (by decide) rfl (.s .z) ?_
 refine FJ.dskip rfl rfl rfl (.s4 .z) rfl rfl (by decide) rfl (.s .z) ?_
 refine FJ.dskip rfl rfl rfl (.s4 (.s .z)) rfl rfl (by decide) rfl (.s .z) ?_
 refine FJ.dskip rfl rfl rfl (.s4 (.s (.s .z))) rfl rfl (by decide) rfl (.s .z) ?_
 refine FJ.dq rfl rfl rfl (by decide) rfl (.s .z) (q_pickF rfl (.t (.s4 (.s (.s (.s .z))))) .c) (FJ.dq rfl rfl rfl (by decide) rfl (.s .z) (q_move rfl (.t .z)) ?_)
 refine FJ.dskip rfl rfl rfl .z rfl rfl (by decide) rfl (.s .z) ?_
 refine FJ.dskip rfl rfl rfl (.s .z) rfl rfl (by decide) rfl (.s .z) ?_
 refine FJ.dskip rfl rfl rfl (.s (.s .z)) rfl rfl (by decide) rfl (.s .z) ?_
 refine FJ.dskip rfl rfl rfl (.s (.s (.s .z))) rfl rfl (by decide) rfl (.s .z) ?_
 refine FJ.dskip rfl rfl rfl (.s4 .z) rfl rfl (by decide) rfl (.s .z) ?_
 refine FJ.dskip rfl rfl rfl (.s4 (.s .z)) rfl rfl (by decide) rfl (.s .z) ?_
 refine FJ.dskip rfl rfl rfl (.s4 (.s (.s .z))) rfl rfl (by decide) rfl (.s .z) ?_
 refine FJ.dskip rfl rfl rfl (.s4 (.s (.s (.s .z)))) rfl rfl (by decide) rfl (.s .z) ?_
 refine FJ.dskip rfl rfl rfl (.s4 (.s4 .z)) rfl rfl (by decide) rfl (.s .z) ?_
 refine FJ.dq rfl rfl rfl (by decide) rfl (.s .z) (q_pickF rfl (.t (.s4 (.s4 (.s .z)))) .c) (FJ.dq rfl rfl rfl (by decide) rfl (.s .z) (q_move rfl (.t .z)) ?_)
 refine FJ.dskip rfl rfl rfl .z rfl rfl (by decide) rfl (.s .z) ?_
 refine FJ.dskip rfl rfl rfl (.s .z) rfl rfl (by decide) rfl (.s .z) ?_
 refine FJ.dskip rfl rfl rfl (.s (.s .z)) rfl rfl (by decide) rfl (.s .z) ?_
 refine FJ.dskip rfl rfl rfl (.s (.s (.s .z))) rfl rfl (by decide) rfl (.s .z) ?_
 refine FJ.dskip rfl rfl rfl (.s4 .z) rfl rfl (by decide) rfl (.s .z) ?_
 refine FJ.dskip rfl rfl rfl (.s4 (.s .z)) rfl rfl (by decide) rfl (.s .z) ?_
 refine FJ.dq rfl rfl rfl (by decide) rfl (.s .z) (q_pickF rfl (.t (.s4 (.s (.s .z)))) .c) (FJ.dq rfl rfl rfl (by decide) rfl (.s .z) (q_move rfl (.t .z)) ?_)
 refine FJ.dskip rfl rfl rfl .z rfl rfl (by decide) rfl (.s .z) ?_
 refine FJ.dskip rfl rfl rfl (.s .z) rfl rfl (by decide) rfl (.s .z) ?_
 refine FJ.dskip rfl rfl rfl (.s (.s .z)) rfl rfl (by decide) rfl (.s .z) ?_
 refine FJ.dskip rfl rfl rfl (.s (.s (.s .z))) rfl rfl (by decide) rfl (.s .z) ?_
 refine FJ.dskip rfl rfl rfl (.s4 .z) rfl rfl (by decide) rfl (.s .z) ?_
 refine FJ.dq rfl rfl rfl (by decide) rfl (.s .z) (q_pickF rfl (.t (.s4 (.s .z))) .c) ?_
 refine FJ.q (goes_sch rfl rfl) rfl (by decide) rfl (q_assign rfl (.t .z)) ?_
 refine FJ.sl rfl ?_
 refine FJ.schN ?_
 refine FJ.drawN (by kernel_rfl) ?_
 refine FJ.then_ (FJ.ret ?_)
 refine FJ.upR (fun l w h => hupz12 _ _ (hupz17 _ _ (hupz26 _ _ (hupz45 _ _ (h))))) ?_
 refine FJ.doneS (res1 rfl .z) .n ?_
 first | exact ⟨rfl, rfl⟩ | (focus (exfalso; omega)) | (focus (exfalso; simp_all; done)) | (focus (refine ⟨congrArg Value.bool ?_, rfl⟩; simp_all; done)) | (focus (refine ⟨congrArg Value.bool ?_, rfl⟩; simp_all; omega))

end Go.Proofs.Ytoaebcjjfojfeaa

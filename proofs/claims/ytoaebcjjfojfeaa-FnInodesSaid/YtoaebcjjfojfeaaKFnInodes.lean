/- What is proved: contracts of functions, one a function. No condition. -/
import Derived.Test.YtoaebcjjfojfeaaW53
import Derived.Test.YtoaebcjjfojfeaaW13
import Derived.Test.YtoaebcjjfojfeaaW14
import Derived.Test.YtoaebcjjfojfeaaW6
import Derived.Test.YtoaebcjjfojfeaaW4
import Derived.Test.YtoaebcjjfojfeaaTypesA
import Derived.Test.YtoaebcjjfojfeaaBase2
namespace Go.Proofs.Ytoaebcjjfojfeaa
open Go Go.RowKit
set_option linter.unusedVariables false
set_option linter.unusedSimpArgs false
set_option maxHeartbeats 1000000 in
set_option maxRecDepth 20000 in
theorem c_9 {w0 : World} {S0 : Bs} {cd : (List UInt8)} {v0 : Value} (h0 : kSl_5.ro w0 (FF w0 S0) cd [v0])  :
    Calls Try.prog 9 #[v0] w0 (TriPost w0 S0 (fun r l => r = .bool true ∧ l = [])) := by
 obtain ⟨A0, c0, rfl, hl0, hm0, hb0, he0⟩ := ro_form h0
 refine FJ.enter (N := 113) Try.func9 rfl rfl (by simp) [(0, .slice A0 cd.length c0)] (by simp) (l0 := []) trivial ?_
 refine FJ.seq (FJ.region (FJ.ql rfl (q_assign rfl .c) (FJ.nil (FJ.then_ ?_))))
 refine FJ.seq (FJ.seq (FJ.region (FJ.ql rfl (q_move rfl (.t (.s .z))) ?_)))
 refine FJ.call (goes_list rfl) rfl (by decide) rfl (c_call rfl Try.func41 rfl rfl (args1 (.t .z))) .n (fun w1 S1 hs tr => c_41 (tr.ctx h0)) ?_
 rintro _ _ ⟨rfl, rfl⟩
 refine FJ.cat .n ?_
 refine FJ.nil (FJ.then_ ?_)
 refine FJ.condP (.t .z) (fun b2 => ?_) (fun b2 => ?_)
 refine FJ.seq (FJ.region (FJ.er (.s (.s .z)) (FJ.ql rfl (q_assign rfl .c) (FJ.nil ?_))))
 refine FJ.then_ (FJ.ret (FJ.thenR ?_))
 refine FJ.doneS (res1 rfl .z) .n ?_
 exact ⟨rfl, rfl⟩
 refine FJ.skip (FJ.then_ (FJ.seq (FJ.region (FJ.ql rfl (q_move rfl (.t (.s (.s (.s .z))))) ?_))))
 refine FJ.call (goes_list rfl) rfl (by decide) rfl (c_call rfl Try.func42 rfl rfl (args1 (.t .z))) .n (fun w1 S1 hs tr => c_42 (tr.ctx h0)) ?_
 rintro _ _ ⟨ws3, hzws3, rfl⟩
 refine FJ.cat (.c .n) ?_
 obtain ⟨IA, IB⟩ := @ino_law1 ws3
 refine FJ.know (WS.oform .z) ?_
 rintro ⟨Ao5, co5, rfl, hlo5, hmo5, hbo5⟩
 refine FJ.ql rfl (q_assign rfl (.t .z)) (FJ.nil (FJ.then_ (FJ.seq (FJ.region ?_))))
 refine FJ.ql rfl (q_move rfl (.t .z)) ?_
 refine FJ.call (goes_list rfl) rfl (by decide) rfl (c_call rfl Try.func43 rfl rfl (args1 (.t .z))) .n (fun w1 S1 hs tr => c_43 (tr.own .z)) ?_
 rintro _ _ ⟨v6, v8, rfl, rfl⟩
 refine FJ.cat (.c (.c .n)) ?_
 refine FJ.know (WS.oform .z) ?_
 rintro ⟨Ao10, co10, rfl, hlo10, hmo10, hbo10⟩
 refine FJ.know (WS.oform (.s .z)) ?_
 rintro ⟨Ao11, co11, rfl, hlo11, hmo11, hbo11⟩
 refine FJ.e (goes_list rfl) rfl (by decide) rfl (e_alloc rfl z_66 rfl rfl) ?_
 rintro _ _ ⟨g12, rfl, rfl⟩
 refine FJ.es (goes_list rfl) rfl (es_store (off := 0) (cs := [.int .i64 ((unpR ws3).code), .int .i64 ((unpR ws3).inode.kind), .int .i64 ((unpR ws3).inode.links), .int .i64 ((unpR ws3).inode.size), .slice Ao10 ((unpR ws3).inode.blocks).length co10, .slice Ao11 ((unpR ws3).inode.ents).length co11]) rfl sz_66 (.t .z) (.t (.s .z)) rfl (ones rfl) .z (Nat.le_of_ble_eq_true rfl) (.c .z (.c (.s .z) (.c (.s (.s .z)) (.c (.s (.s (.s .z))) (.c (.s (.s (.s (.s .z)))) (.c (.s (.s (.s (.s (.s .z))))) .n))))))) ?_
 refine FJ.nil (FJ.then_ (FJ.seq (FJ.seq ?_)))
 refine FJ.draw [rowA g12 66 6 1 [.int .i64 ((unpR ws3).code), .int .i64 ((unpR ws3).inode.kind), .int .i64 ((unpR ws3).inode.links), .int .i64 ((unpR ws3).inode.size), .slice Ao10 ((unpR ws3).inode.blocks).length co10, .slice Ao11 ((unpR ws3).inode.ents).length co11], ownA kSl_2 ((unpR ws3).inode.blocks) [.slice Ao10 ((unpR ws3).inode.blocks).length co10], ownA kSl_130 ((unpR ws3).inode.ents) [.slice Ao11 ((unpR ws3).inode.ents).length co11], ownA kSl_2 ws3 [.slice Ao5 ws3.length co5]] 41 (by kernel_rfl) ?_
 refine FJ.sch [(0, true), (1, true), (2, true), (3, true)] 37 #[true, true, true, true, false, false, false, false, false, false, false, false, false, false, false, false, false, false, false, false, false, false, false, false, false, false, false, false, false, false, false, false, false, false, false, false, false, false, false, false, false] (by rfl) (by kernel_rfl) ?_
 refine FJ.dq rfl rfl rfl (by decide) rfl .z (q_fieldAddr rfl (.t .z) (fun _ => fa_66_0 _ _)) (FJ.dq rfl rfl rfl (by decide) rfl .z (q_load rfl ag_2 (.t .z) (WS.row .z rfl)) (FJ.dq rfl rfl rfl (by decide) rfl .z (q_eql rfl (.t .z) .c) (FJ.dq rfl rfl rfl (by decide) rfl .z (q_move rfl (.t .z)) (FJ.schN ?_))))
 refine FJ.caseP .z (fun g13 => ?_) (fun g13 => ?_)
 refine FJ.sch [(4, true), (5, true), (6, true), (7, true), (8, true)] 32 #[true, true, true, true, true, true, true, true, true, false, false, false, false, false, false, false, false, false, false, false, false, false, false, false, false, false, false, false, false, false, false, false, false, false, false, false, false, false, false, false, false] (by rfl) (by kernel_rfl) ?_
 refine FJ.dqg rfl rfl rfl .z rfl (by decide) rfl .z (q_move rfl (.t (.s4 (.s (.s (.s .z)))))) ?_
 refine FJ.dqg rfl rfl rfl (.s .z) rfl (by decide) rfl .z (q_len rfl u_22 (.t .z)) ?_
 refine FJ.dqg rfl rfl rfl (.s (.s .z)) rfl (by decide) rfl .z (q_gtr rfl (.t .z) .c) ?_
 refine FJ.dq rfl rfl rfl (by decide) rfl .z (q_pickT rfl (.t (.s (.s (.s .z)))) (.t .z)) (FJ.dq rfl rfl rfl (by decide) rfl .z (q_move rfl (.t .z)) (FJ.schN ?_))
 refine FJ.caseP .z (fun g14 => ?_) (fun g14 => ?_)
 refine FJ.sch [(9, true), (10, true), (13, true), (11, false), (12, true), (14, false), (15, true), (16, true), (17, true)] 23 #[true, true, true, true, true, true, true, true, true, true, true, true, true, true, true, true, true, true, false, false, false, false, false, false, false, false, false, false, false, false, false, false, false, false, false, false, false, false, false, false, false] (by rfl) (by kernel_rfl) ?_
 refine FJ.dqg rfl rfl rfl .z rfl (by decide) rfl .z (q_fieldAddr rfl (.t (.s4 (.s4 (.s .z)))) (fun _ => fa_66_1 _ _)) ?_
 refine FJ.dqg rfl rfl rfl (.s .z) rfl (by decide) rfl .z (q_loadA (cs := [.int .i64 ((unpR ws3).inode.kind), .int .i64 ((unpR ws3).inode.links), .int .i64 ((unpR ws3).inode.size), .slice Ao10 ((unpR ws3).inode.blocks).length co10, .slice Ao11 ((unpR ws3).inode.ents).length co11]) rfl ag_30 sz_30 (.t .z) (WS.rows .z (sub_at rfl))) ?_
 refine FJ.dqg rfl rfl rfl (.s (.s .z)) rfl (by decide) rfl .z (q_move rfl (.t (.s4 (.s4 (.s4 (.s (.s .z))))))) ?_
 refine FJ.call (goes_schg rfl rfl rfl (.s (.s (.s .z)))) rfl (by decide) rfl (c_call rfl Try.func36 rfl rfl (args1 (.t (.s .z)))) .n (fun w1 S1 hs tr => c_36 (kT_30_mk ((unpR ws3).inode) (tr.own (.s .z)) (tr.own (.s (.s .z))))) ?_
 rintro _ _ ⟨v15, rfl, rfl⟩
 refine FJ.cat (.c .n) ?_
 refine FJ.know (WS.oform .z) ?_
 rintro ⟨Ao17, co17, rfl, hlo17, hmo17, hbo17⟩
 refine FJ.sk (.s .z) ?_
 refine FJ.dqg rfl rfl rfl (.s4 .z) rfl (by decide) rfl (.s .z) (q_field rfl (.t .z) (fun w => fv_57_1 w (.int .i64 ((packR ((unpR ws3).inode)).code)) (.slice Ao17 ((packR ((unpR ws3).inode)).list).length co17))) ?_
 refine FJ.call (goes_schg rfl rfl rfl (.s4 (.s .z))) rfl (by decide) rfl (c_call rfl Try.func44 rfl rfl (args2 (.t .z) (.t (.s (.s .z))))) .n (fun w1 S1 hs tr => c_44 (tr.own .z) (tr.own (.s4 .z))) ?_
 rintro _ _ ⟨rfl, rfl⟩
 refine FJ.cat .n ?_
 refine FJ.sk (.s .z) ?_
 refine FJ.dqg rfl rfl rfl (.s4 (.s (.s .z))) rfl (by decide) rfl (.s .z) (q_not rfl (.t .z)) ?_
 refine FJ.dq rfl rfl rfl (by decide) rfl (.s .z) (q_pickT rfl (.t (.s4 (.s (.s (.s .z))))) (.t .z)) (FJ.dq rfl rfl rfl (by decide) rfl (.s .z) (q_move rfl (.t .z)) (FJ.schN ?_))
 refine FJ.caseN .z (fun g18 => ?_) (fun g18 => ?_)
 refine FJ.sch [(18, true), (19, true), (20, true), (21, true), (22, true), (23, true), (24, true), (25, true), (26, true), (27, true), (28, true), (29, true), (30, true), (31, true), (32, true), (33, true), (34, true), (35, true), (36, true), (37, true), (38, true), (39, true), (40, true)] 0 #[true, true, true, true, true, true, true, true, true, true, true, true, true, true, true, true, true, true, true, true, true, true, true, true, true, true, true, true, true, true, true, true, true, true, true, true, true, true, true, true, true] (by rfl) (by kernel_rfl) ?_
 refine FJ.dskip rfl rfl rfl .z rfl rfl (by decide) rfl (.s .z) ?_
 refine FJ.dskip rfl rfl rfl (.s .z) rfl rfl (by decide) rfl (.s .z) ?_
 refine FJ.dskip rfl rfl rfl (.s (.s .z)) rfl rfl (by decide) rfl (.s .z) ?_
 refine FJ.dskip rfl rfl rfl (.s (.s (.s .z))) rfl rfl (by decide) rfl (.s .z) ?_
 refine FJ.dskip rfl rfl rfl .z rfl rfl (by decide) rfl (.s .z) ?_
 refine FJ.dskip rfl rfl rfl (.s .z) rfl rfl (by decide) rfl (.s .z) ?_
 refine FJ.dskip rfl rfl rfl (.s (.s .z)) rfl rfl (by decide) rfl (.s .z) ?_
 refine FJ.dskip rfl rfl rfl (.s (.s (.s .z))) rfl rfl (by decide) rfl (.s .z) ?_
 refine FJ.dskip rfl rfl rfl (.s4 .z) rfl rfl (by decide) rfl (.s .z) ?_
 refine FJ.dskip rfl rfl rfl (.s4 (.s .z)) rfl rfl (by decide) rfl (.s .z) ?_
 refine FJ.dskip rfl rfl rfl (.s4 (.s4 (.s (.s .z)))) rfl rfl (by decide) rfl (.s .z) ?_
 refine FJ.dq rfl rfl rfl (by decide) rfl (.s .z) (q_pickT rfl (.t (.s4 (.s4 (.s (.s (.s .z)))))) .c) (FJ.dq rfl rfl rfl (by decide) rfl (.s .z) (q_move rfl (.t .z)) ?_)
 refine FJ.dskip rfl rfl rfl .z rfl rfl (by decide) rfl (.s .z) ?_
 refine FJ.dskip rfl rfl rfl (.s .z) rfl rfl (by decide) rfl (.s .z) ?_
 refine FJ.dskip rfl rfl rfl (.s (.s .z)) rfl rfl (by decide) rfl (.s .z) ?_
 refine FJ.dskip rfl rfl rfl (.s (.s (.s .z))) rfl rfl (by decide) rfl (.s .z) ?_
 refine FJ.dskip rfl rfl rfl .z rfl rfl (by decide) rfl (.s .z) ?_
 refine FJ.dskip rfl rfl rfl (.s .z) rfl rfl (by decide) rfl (.s .z) ?_
 refine FJ.dskip rfl rfl rfl (.s (.s .z)) rfl rfl (by decide) rfl (.s .z) ?_
 refine FJ.dskip rfl rfl rfl (.s (.s (.s .z))) rfl rfl (by decide) rfl (.s .z) ?_
 refine FJ.dskip rfl rfl rfl (.s4 (.s4 .z)) rfl rfl (by decide) rfl (.s .z) ?_
 refine FJ.dq rfl rfl rfl (by decide) rfl (.s .z) (q_pickT rfl (.t (.s4 (.s4 (.s .z)))) .c) (FJ.schN ?_)
 refine FJ.drawN (by kernel_rfl) ?_
 refine FJ.then_ ?_
 refine FJ.condT (.t .z) ?_
 refine FJ.seq (FJ.region (FJ.er (.s16 (.s16 (.s16 (.s .z)))) (FJ.ql rfl (q_assign rfl .c) (FJ.nil ?_))))
 refine FJ.then_ (FJ.ret (FJ.thenR ?_))
 refine FJ.doneS (res1 rfl .z) .n ?_
 first | exact ⟨rfl, rfl⟩ | (focus (exfalso; omega)) | (focus (exfalso; simp_all; done)) | (focus (refine ⟨congrArg Value.bool ?_, rfl⟩; simp_all; done)) | (focus (refine ⟨congrArg Value.bool ?_, rfl⟩; simp_all; omega))
 refine FJ.sch [(18, true), (19, true), (20, true), (21, true)] 19 #[true, true, true, true, true, true, true, true, true, true, true, true, true, true, true, true, true, true, true, true, true, true, false, false, false, false, false, false, false, false, false, false, false, false, false, false, false, false, false, false, false] (by rfl) (by kernel_rfl) ?_
 refine FJ.dqg rfl rfl rfl .z rfl (by decide) rfl (.s .z) (q_fieldAddr rfl (.t (.s16 (.s (.s .z)))) (fun _ => fa_66_0 _ _)) ?_
 refine FJ.dqg rfl rfl rfl (.s .z) rfl (by decide) rfl (.s .z) (q_load rfl ag_2 (.t .z) (WS.row .z rfl)) ?_
 refine FJ.dqg rfl rfl rfl (.s (.s .z)) rfl (by decide) rfl (.s .z) (q_neq rfl (.t .z) .c) ?_
 refine FJ.dqg rfl rfl rfl (.s (.s (.s .z))) rfl (by decide) rfl (.s .z) (q_move rfl (.t .z)) ?_
 refine FJ.schN ?_
 refine FJ.caseN .z (fun g19 => ?_) (fun g19 => ?_)
 exfalso; first | omega | contradiction
 refine FJ.sch [(22, true), (23, true), (24, true), (25, true), (26, true), (27, true), (28, true), (29, true), (30, true), (31, true), (32, true), (33, true), (34, true)] 6 #[true, true, true, true, true, true, true, true, true, true, true, true, true, true, true, true, true, true, true, true, true, true, true, true, true, true, true, true, true, true, true, true, true, true, true, false, false, false, false, false, false] (by rfl) (by kernel_rfl) ?_
 refine FJ.dskip rfl rfl rfl .z rfl rfl (by decide) rfl (.s .z) ?_
 refine FJ.dskip rfl rfl rfl (.s .z) rfl rfl (by decide) rfl (.s .z) ?_
 refine FJ.dskip rfl rfl rfl (.s (.s .z)) rfl rfl (by decide) rfl (.s .z) ?_
 refine FJ.dskip rfl rfl rfl (.s (.s (.s .z))) rfl rfl (by decide) rfl (.s .z) ?_
 refine FJ.dskip rfl rfl rfl (.s4 .z) rfl rfl (by decide) rfl (.s .z) ?_
 refine FJ.dskip rfl rfl rfl (.s4 (.s .z)) rfl rfl (by decide) rfl (.s .z) ?_
 refine FJ.dqg rfl rfl rfl (.s4 (.s4 (.s (.s .z)))) rfl (by decide) rfl (.s .z) (q_pickF rfl (.t (.s4 (.s (.s .z)))) .c) ?_
 refine FJ.dq rfl rfl rfl (by decide) rfl (.s .z) (q_pickF rfl (.t (.s4 (.s4 (.s (.s (.s .z)))))) (.t .z)) (FJ.dq rfl rfl rfl (by decide) rfl (.s .z) (q_move rfl (.t .z)) ?_)
 refine FJ.dqg rfl rfl rfl .z rfl (by decide) rfl (.s .z) (q_move rfl (.t (.s16 (.s16 (.s (.s .z)))))) ?_
 refine FJ.dqg rfl rfl rfl (.s .z) rfl (by decide) rfl (.s .z) (q_len rfl u_22 (.t .z)) ?_
 refine FJ.dqg rfl rfl rfl (.s (.s .z)) rfl (by decide) rfl (.s .z) (q_eql rfl (.t .z) .c) ?_
 refine FJ.dqg rfl rfl rfl (.s (.s (.s .z))) rfl (by decide) rfl (.s .z) (q_move rfl (.t .z)) ?_
 refine FJ.schN ?_
 refine FJ.caseP .z (fun g20 => ?_) (fun g20 => ?_)
 refine FJ.sch [(35, true), (36, true), (37, true), (38, true), (39, true), (40, true)] 0 #[true, true, true, true, true, true, true, true, true, true, true, true, true, true, true, true, true, true, true, true, true, true, true, true, true, true, true, true, true, true, true, true, true, true, true, true, true, true, true, true, true] (by rfl) (by kernel_rfl) ?_
 refine FJ.dqg rfl rfl rfl .z rfl (by decide) rfl (.s .z) (q_fieldAddr rfl (.t (.s16 (.s16 (.s (.s (.s .z)))))) (fun _ => fa_66_1 _ _)) ?_
 refine FJ.dqg rfl rfl rfl (.s .z) rfl (by decide) rfl (.s .z) (q_fieldAddrA (k := 1) rfl (.t .z) (fun _ => fa_30_0 _ _) rfl) ?_
 refine FJ.dqg rfl rfl rfl (.s (.s .z)) rfl (by decide) rfl (.s .z) (q_load rfl ag_2 (.t .z) (WS.row .z rfl)) ?_
 refine FJ.dqg rfl rfl rfl (.s (.s (.s .z))) rfl (by decide) rfl (.s .z) (q_neq rfl (.t .z) .c) ?_
 refine FJ.dqg rfl rfl rfl (.s4 (.s4 .z)) rfl (by decide) rfl (.s .z) (q_pickT rfl (.t (.s4 .z)) (.t .z)) ?_
 refine FJ.dq rfl rfl rfl (by decide) rfl (.s .z) (q_pickF rfl (.t (.s4 (.s4 (.s .z)))) (.t .z)) (FJ.schN ?_)
 refine FJ.drawN (by kernel_rfl) ?_
 refine FJ.then_ ?_
 refine FJ.condN (.t .z) (fun b21 => ?_) (fun b21 => ?_)
 refine FJ.seq (FJ.region (FJ.er (.s16 (.s16 (.s16 (.s .z)))) (FJ.ql rfl (q_assign rfl .c) (FJ.nil ?_))))
 refine FJ.then_ (FJ.ret (FJ.thenR ?_))
 refine FJ.doneS (res1 rfl .z) .n ?_
 first | exact ⟨rfl, rfl⟩ | (focus (exfalso; omega)) | (focus (exfalso; simp_all; done)) | (focus (refine ⟨congrArg Value.bool ?_, rfl⟩; simp_all; done)) | (focus (refine ⟨congrArg Value.bool ?_, rfl⟩; simp_all; omega))
 refine FJ.skip (FJ.then_ (FJ.seq (FJ.region (FJ.ql rfl (q_move rfl (.t (.s16 (.s16 (.s16 (.s (.s .z))))))) ?_))))
 refine FJ.call (goes_list rfl) rfl (by decide) rfl (c_call rfl Try.func46 rfl rfl (args1 (.t .z))) .n (fun w1 S1 hs tr => c_46 (tr.ctx h0)) ?_
 rintro _ _ ⟨nd22, v23, v25, hznd22, rfl, rfl⟩
 refine FJ.cat (.c (.c .n)) ?_
 obtain ⟨IC, ID⟩ := @ino_law2 nd22
 refine FJ.know (WS.oform .z) ?_
 rintro ⟨Ao27, co27, rfl, hlo27, hmo27, hbo27⟩
 refine FJ.know (WS.oform (.s .z)) ?_
 rintro ⟨Ao28, co28, rfl, hlo28, hmo28, hbo28⟩
 refine FJ.e (goes_list rfl) rfl (by decide) rfl (e_alloc rfl z_30 rfl rfl) ?_
 rintro _ _ ⟨g29, rfl, rfl⟩
 refine FJ.es (goes_list rfl) rfl (es_store (off := 0) (cs := [.int .i64 nd22.kind, .int .i64 nd22.links, .int .i64 nd22.size, .slice Ao27 nd22.blocks.length co27, .slice Ao28 nd22.ents.length co28]) rfl sz_30 (.t .z) (.t (.s .z)) rfl (ones rfl) .z (Nat.le_of_ble_eq_true rfl) (.c .z (.c (.s .z) (.c (.s (.s .z)) (.c (.s (.s (.s .z))) (.c (.s (.s (.s (.s .z)))) .n)))))) ?_
 refine FJ.nil (FJ.then_ (FJ.seq (FJ.region ?_)))
 refine FJ.ql rfl (q_loadA (cs := [.int .i64 nd22.kind, .int .i64 nd22.links, .int .i64 nd22.size, .slice Ao27 nd22.blocks.length co27, .slice Ao28 nd22.ents.length co28]) rfl ag_30 sz_30 (.t .z) (WS.rows0 .z (fun i u h => by exact h))) ?_
 refine FJ.call (goes_list rfl) rfl (by decide) rfl (c_call rfl Try.func36 rfl rfl (args1 (.t .z))) .n (fun w1 S1 hs tr => c_36 (kT_30_mk nd22 (tr.own (.s .z)) (tr.own (.s (.s .z))))) ?_
 rintro _ _ ⟨v30, rfl, rfl⟩
 refine FJ.cat (.c .n) ?_
 refine FJ.know (WS.oform .z) ?_
 rintro ⟨Ao32, co32, rfl, hlo32, hmo32, hbo32⟩
 refine FJ.e (goes_list rfl) rfl (by decide) rfl (e_alloc rfl z_57 rfl rfl) ?_
 rintro _ _ ⟨g33, rfl, rfl⟩
 refine FJ.es (goes_list rfl) rfl (es_store (off := 0) (cs := [.int .i64 ((packR nd22).code), .slice Ao32 ((packR nd22).list).length co32]) rfl sz_57 (.t .z) (.t (.s .z)) rfl (ones rfl) .z (Nat.le_of_ble_eq_true rfl) (.c .z (.c (.s .z) .n))) ?_
 refine FJ.nil (FJ.then_ (FJ.seq (FJ.seq (FJ.region ?_))))
 refine FJ.ql rfl (q_fieldAddr rfl (.t .z) (fun _ => fa_57_0 _ _)) (FJ.ql rfl (q_load rfl ag_2 (.t .z) (WS.row .z rfl)) (FJ.ql rfl (q_neq rfl (.t .z) .c) (FJ.nil (FJ.then_ ?_))))
 refine FJ.condN (.t .z) (fun b34 => ?_) (fun b34 => ?_)
 refine FJ.seq ?_
 refine FJ.draw [rowA g33 57 2 1 [.int .i64 ((packR nd22).code), .slice Ao32 ((packR nd22).list).length co32], ownA kSl_2 ((packR nd22).list) [.slice Ao32 ((packR nd22).list).length co32], rowA g29 30 5 1 [.int .i64 nd22.kind, .int .i64 nd22.links, .int .i64 nd22.size, .slice Ao27 nd22.blocks.length co27, .slice Ao28 nd22.ents.length co28], ownA kSl_2 nd22.blocks [.slice Ao27 nd22.blocks.length co27], ownA kSl_130 nd22.ents [.slice Ao28 nd22.ents.length co28], ownA kSl_2 ((packR ((unpR ws3).inode)).list) [.slice Ao17 ((packR ((unpR ws3).inode)).list).length co17], rowA g12 66 6 1 [.int .i64 ((unpR ws3).code), .int .i64 ((unpR ws3).inode.kind), .int .i64 ((unpR ws3).inode.links), .int .i64 ((unpR ws3).inode.size), .slice Ao10 ((unpR ws3).inode.blocks).length co10, .slice Ao11 ((unpR ws3).inode.ents).length co11], ownA kSl_2 ((unpR ws3).inode.blocks) [.slice Ao10 ((unpR ws3).inode.blocks).length co10], ownA kSl_130 ((unpR ws3).inode.ents) [.slice Ao11 ((unpR ws3).inode.ents).length co11], ownA kSl_2 ws3 [.slice Ao5 ws3.length co5]] 12 (by kernel_rfl) ?_
 refine FJ.sch [(0, true), (2, true), (3, true), (1, false), (4, true), (5, true)] 7 #[true, true, true, true, true, true, false, false, false, false, false, false, false] (by rfl) (by kernel_rfl) ?_
 refine FJ.dq rfl rfl rfl (by decide) rfl .z (q_loadA (cs := [.int .i64 nd22.kind, .int .i64 nd22.links, .int .i64 nd22.size, .slice Ao27 nd22.blocks.length co27, .slice Ao28 nd22.ents.length co28]) rfl ag_30 sz_30 (.t (.s4 (.s (.s .z)))) (WS.rows0 (.s (.s .z)) (fun i u h => by exact h))) ?_
 refine FJ.dq rfl rfl rfl (by decide) rfl .z (q_fieldAddr rfl (.t (.s4 .z)) (fun _ => fa_57_0 _ _)) (FJ.dq rfl rfl rfl (by decide) rfl .z (q_load rfl ag_2 (.t .z) (WS.row .z rfl)) ?_)
 refine FJ.call (goes_sch rfl rfl) rfl (by decide) rfl (c_call rfl Try.func20 rfl rfl (args1 (.t (.s (.s .z))))) .n (fun w1 S1 hs tr => c_20 (kT_30_mk nd22 (tr.own (.s (.s (.s .z)))) (tr.own (.s4 .z)))) ?_
 rintro _ _ ⟨rfl, rfl⟩
 refine FJ.cat .n ?_
 refine FJ.sk .z ?_
 refine FJ.dq rfl rfl rfl (by decide) rfl .z (q_eql rfl (.t .z) (.t (.s .z))) (FJ.dq rfl rfl rfl (by decide) rfl .z (q_move rfl (.t .z)) (FJ.schN ?_))
 refine FJ.caseP .z (fun g35 => ?_) (fun g35 => ?_)
 refine FJ.sch [(6, true), (8, true), (9, true), (7, false), (10, true), (11, true), (12, false)] 0 #[true, true, true, true, true, true, true, true, true, true, true, true, true] (by rfl) (by kernel_rfl) ?_
 refine FJ.dqg rfl rfl rfl .z rfl (by decide) rfl .z (q_loadA (cs := [.int .i64 nd22.kind, .int .i64 nd22.links, .int .i64 nd22.size, .slice Ao27 nd22.blocks.length co27, .slice Ao28 nd22.ents.length co28]) rfl ag_30 sz_30 (.t (.s4 (.s4 (.s4 .z)))) (WS.rows0 (.s (.s .z)) (fun i u h => by exact h))) ?_
 refine FJ.dqg rfl rfl rfl (.s .z) rfl (by decide) rfl .z (q_fieldAddr rfl (.t (.s4 (.s4 (.s (.s .z))))) (fun _ => fa_57_0 _ _)) ?_
 refine FJ.dqg rfl rfl rfl (.s (.s .z)) rfl (by decide) rfl .z (q_load rfl ag_2 (.t .z) (WS.row .z rfl)) ?_
 refine FJ.call (goes_schg rfl rfl rfl (.s (.s (.s .z)))) rfl (by decide) rfl (c_call rfl Try.func21 rfl rfl (args1 (.t (.s (.s .z))))) .n (fun w1 S1 hs tr => c_21 (kT_30_mk nd22 (tr.own (.s (.s (.s .z)))) (tr.own (.s4 .z)))) ?_
 rintro _ _ ⟨rfl, rfl⟩
 refine FJ.cat .n ?_
 refine FJ.sk .z ?_
 refine FJ.dqg rfl rfl rfl (.s4 .z) rfl (by decide) rfl .z (q_eql rfl (.t .z) (.t (.s .z))) ?_
 refine FJ.dq rfl rfl rfl (by decide) rfl .z (q_pickT rfl (.t (.s4 (.s .z))) (.t .z)) (FJ.er (.s16 (.s16 (.s16 (.s16 (.s4 (.s (.s .z))))))) ?_)
 refine FJ.q (goes_sch rfl rfl) rfl (by decide) rfl (q_assign rfl (.t .z)) ?_
 refine FJ.sl rfl ?_
 refine FJ.schN ?_
 refine FJ.drawN (by kernel_rfl) ?_
 refine FJ.then_ (FJ.ret (FJ.thenR ?_))
 refine FJ.doneS (res1 rfl .z) .n ?_
 first | exact ⟨rfl, rfl⟩ | (focus (exfalso; omega)) | (focus (exfalso; simp_all; done)) | (focus (refine ⟨congrArg Value.bool ?_, rfl⟩; simp_all; done)) | (focus (refine ⟨congrArg Value.bool ?_, rfl⟩; simp_all; omega))
 refine FJ.sch [(6, true), (7, true), (8, true), (9, true), (10, true), (11, true), (12, false)] 0 #[true, true, true, true, true, true, true, true, true, true, true, true, true] (by rfl) (by kernel_rfl) ?_
 refine FJ.dskip rfl rfl rfl .z rfl rfl (by decide) rfl .z ?_
 refine FJ.dskip rfl rfl rfl (.s .z) rfl rfl (by decide) rfl .z ?_
 refine FJ.dskip rfl rfl rfl (.s (.s .z)) rfl rfl (by decide) rfl .z ?_
 refine FJ.dskip rfl rfl rfl (.s (.s (.s .z))) rfl rfl (by decide) rfl .z ?_
 refine FJ.dskip rfl rfl rfl (.s4 .z) rfl rfl (by decide) rfl .z ?_
 refine FJ.dq rfl rfl rfl (by decide) rfl .z (q_pickF rfl (.t (.s4 (.s .z))) .c) (FJ.er (.s16 (.s16 (.s16 (.s16 (.s4 (.s (.s .z))))))) ?_)
 refine FJ.q (goes_sch rfl rfl) rfl (by decide) rfl (q_assign rfl (.t .z)) ?_
 refine FJ.sl rfl ?_
 refine FJ.schN ?_
 refine FJ.drawN (by kernel_rfl) ?_
 refine FJ.then_ (FJ.ret (FJ.thenR ?_))
 refine FJ.doneS (res1 rfl .z) .n ?_
 first | exact ⟨rfl, rfl⟩ | (focus (exfalso; omega)) | (focus (exfalso; simp_all; done)) | (focus (refine ⟨congrArg Value.bool ?_, rfl⟩; simp_all; done)) | (focus (refine ⟨congrArg Value.bool ?_, rfl⟩; simp_all; omega))
 refine FJ.skip (FJ.then_ (FJ.seq (FJ.region (FJ.ql rfl (q_fieldAddr rfl (.t (.s (.s (.s .z)))) (fun _ => fa_57_1 _ _)) ?_))))
 refine FJ.ql rfl (q_load rfl ag_22 (.t .z) (WS.row .z rfl)) ?_
 refine FJ.call (goes_list rfl) rfl (by decide) rfl (c_call rfl Try.func43 rfl rfl (args1 (.t .z))) .n (fun w1 S1 hs tr => c_43 (tr.own (.s .z))) ?_
 rintro _ _ ⟨v36, v38, rfl, rfl⟩
 refine FJ.cat (.c (.c .n)) ?_
 refine FJ.know (WS.oform .z) ?_
 rintro ⟨Ao40, co40, rfl, hlo40, hmo40, hbo40⟩
 refine FJ.know (WS.oform (.s .z)) ?_
 rintro ⟨Ao41, co41, rfl, hlo41, hmo41, hbo41⟩
 refine FJ.e (goes_list rfl) rfl (by decide) rfl (e_alloc rfl z_66 rfl rfl) ?_
 rintro _ _ ⟨g42, rfl, rfl⟩
 refine FJ.es (goes_list rfl) rfl (es_store (off := 0) (cs := [.int .i64 ((unpR ((packR nd22).list)).code), .int .i64 ((unpR ((packR nd22).list)).inode.kind), .int .i64 ((unpR ((packR nd22).list)).inode.links), .int .i64 ((unpR ((packR nd22).list)).inode.size), .slice Ao40 ((unpR ((packR nd22).list)).inode.blocks).length co40, .slice Ao41 ((unpR ((packR nd22).list)).inode.ents).length co41]) rfl sz_66 (.t .z) (.t (.s .z)) rfl (ones rfl) .z (Nat.le_of_ble_eq_true rfl) (.c .z (.c (.s .z) (.c (.s (.s .z)) (.c (.s (.s (.s .z))) (.c (.s (.s (.s (.s .z)))) (.c (.s (.s (.s (.s (.s .z))))) .n))))))) ?_
 refine FJ.nil (FJ.then_ (FJ.seq ?_))
 refine FJ.draw [rowA g42 66 6 1 [.int .i64 ((unpR ((packR nd22).list)).code), .int .i64 ((unpR ((packR nd22).list)).inode.kind), .int .i64 ((unpR ((packR nd22).list)).inode.links), .int .i64 ((unpR ((packR nd22).list)).inode.size), .slice Ao40 ((unpR ((packR nd22).list)).inode.blocks).length co40, .slice Ao41 ((unpR ((packR nd22).list)).inode.ents).length co41], ownA kSl_2 ((unpR ((packR nd22).list)).inode.blocks) [.slice Ao40 ((unpR ((packR nd22).list)).inode.blocks).length co40], ownA kSl_130 ((unpR ((packR nd22).list)).inode.ents) [.slice Ao41 ((unpR ((packR nd22).list)).inode.ents).length co41], rowA g33 57 2 1 [.int .i64 ((packR nd22).code), .slice Ao32 ((packR nd22).list).length co32], ownA kSl_2 ((packR nd22).list) [.slice Ao32 ((packR nd22).list).length co32], rowA g29 30 5 1 [.int .i64 nd22.kind, .int .i64 nd22.links, .int .i64 nd22.size, .slice Ao27 nd22.blocks.length co27, .slice Ao28 nd22.ents.length co28], ownA kSl_2 nd22.blocks [.slice Ao27 nd22.blocks.length co27], ownA kSl_130 nd22.ents [.slice Ao28 nd22.ents.length co28], ownA kSl_2 ((packR ((unpR ws3).inode)).list) [.slice Ao17 ((packR ((unpR ws3).inode)).list).length co17], rowA g12 66 6 1 [.int .i64 ((unpR ws3).code), .int .i64 ((unpR ws3).inode.kind), .int .i64 ((unpR ws3).inode.links), .int .i64 ((unpR ws3).inode.size), .slice Ao10 ((unpR ws3).inode.blocks).length co10, .slice Ao11 ((unpR ws3).inode.ents).length co11], ownA kSl_2 ((unpR ws3).inode.blocks) [.slice Ao10 ((unpR ws3).inode.blocks).length co10], ownA kSl_130 ((unpR ws3).inode.ents) [.slice Ao11 ((unpR ws3).inode.ents).length co11], ownA kSl_2 ws3 [.slice Ao5 ws3.length co5]] 36 (by kernel_rfl) ?_
 refine FJ.sch [(0, true), (1, true), (2, true), (3, true)] 33 #[true, true, true, true, false, false, false, false, false, false, false, false, false, false, false, false, false, false, false, false, false, false, false, false, false, false, false, false, false, false, false, false, false, false, false, false, false] (by rfl) (by kernel_rfl) ?_
 refine FJ.dq rfl rfl rfl (by decide) rfl .z (q_fieldAddr rfl (.t .z) (fun _ => fa_66_0 _ _)) (FJ.dq rfl rfl rfl (by decide) rfl .z (q_load rfl ag_2 (.t .z) (WS.row .z rfl)) (FJ.dq rfl rfl rfl (by decide) rfl .z (q_eql rfl (.t .z) .c) (FJ.dq rfl rfl rfl (by decide) rfl .z (q_move rfl (.t .z)) (FJ.schN ?_))))
 refine FJ.caseP .z (fun g43 => ?_) (fun g43 => ?_)
 refine FJ.sch [(4, true), (5, true), (6, true), (7, false), (8, true), (9, true)] 27 #[true, true, true, true, true, true, true, true, true, true, false, false, false, false, false, false, false, false, false, false, false, false, false, false, false, false, false, false, false, false, false, false, false, false, false, false, false] (by rfl) (by kernel_rfl) ?_
 refine FJ.dqg rfl rfl rfl .z rfl (by decide) rfl .z (q_fieldAddr rfl (.t (.s4 .z)) (fun _ => fa_66_1 _ _)) ?_
 refine FJ.dqg rfl rfl rfl (.s .z) rfl (by decide) rfl .z (q_loadA (cs := [.int .i64 ((unpR ((packR nd22).list)).inode.kind), .int .i64 ((unpR ((packR nd22).list)).inode.links), .int .i64 ((unpR ((packR nd22).list)).inode.size), .slice Ao40 ((unpR ((packR nd22).list)).inode.blocks).length co40, .slice Ao41 ((unpR ((packR nd22).list)).inode.ents).length co41]) rfl ag_30 sz_30 (.t .z) (WS.rows .z (sub_at rfl))) ?_
 refine FJ.dqg rfl rfl rfl (.s (.s .z)) rfl (by decide) rfl .z (q_loadA (cs := [.int .i64 nd22.kind, .int .i64 nd22.links, .int .i64 nd22.size, .slice Ao27 nd22.blocks.length co27, .slice Ao28 nd22.ents.length co28]) rfl ag_30 sz_30 (.t (.s16 .z)) (WS.rows0 (.s4 (.s .z)) (fun i u h => by exact h))) ?_
 refine FJ.call (goes_schg rfl rfl rfl (.s (.s (.s .z)))) rfl (by decide) rfl (c_call rfl Try.func18 rfl rfl (args2 (.t (.s .z)) (.t .z))) .n (fun w1 S1 hs tr => c_18 (kT_30_mk ((unpR ((packR nd22).list)).inode) (tr.own (.s .z)) (tr.own (.s (.s .z)))) (kT_30_mk nd22 (tr.own (.s4 (.s (.s .z)))) (tr.own (.s4 (.s (.s (.s .z))))))) ?_
 rintro _ _ ⟨rfl, rfl⟩
 refine FJ.cat .n ?_
 refine FJ.sk .z ?_
 refine FJ.dq rfl rfl rfl (by decide) rfl .z (q_pickT rfl (.t (.s4 .z)) (.t .z)) (FJ.dq rfl rfl rfl (by decide) rfl .z (q_move rfl (.t .z)) (FJ.schN ?_))
 refine FJ.caseP .z (fun g44 => ?_) (fun g44 => ?_)
 refine FJ.sch [(10, true), (11, true), (12, true), (13, true), (14, true), (15, true)] 21 #[true, true, true, true, true, true, true, true, true, true, true, true, true, true, true, true, false, false, false, false, false, false, false, false, false, false, false, false, false, false, false, false, false, false, false, false, false] (by rfl) (by kernel_rfl) ?_
 refine FJ.dqg rfl rfl rfl .z rfl (by decide) rfl .z (q_fieldAddr rfl (.t (.s16 (.s .z))) (fun _ => fa_57_1 _ _)) ?_
 refine FJ.dqg rfl rfl rfl (.s .z) rfl (by decide) rfl .z (q_load rfl ag_22 (.t .z) (WS.row (.s (.s (.s .z))) rfl)) ?_
 refine FJ.dqg rfl rfl rfl (.s (.s .z)) rfl (by decide) rfl .z (q_len rfl u_22 (.t .z)) ?_
 refine FJ.dqg rfl rfl rfl (.s (.s (.s .z))) rfl (by decide) rfl .z (q_geq rfl (.t .z) .c) ?_
 refine FJ.dq rfl rfl rfl (by decide) rfl .z (q_pickT rfl (.t (.s4 .z)) (.t .z)) (FJ.dq rfl rfl rfl (by decide) rfl .z (q_move rfl (.t .z)) (FJ.schN ?_))
 refine FJ.caseP .z (fun g45 => ?_) (fun g45 => ?_)
 refine FJ.sch [(16, true), (17, true), (18, true), (19, true), (20, true), (21, true)] 15 #[true, true, true, true, true, true, true, true, true, true, true, true, true, true, true, true, true, true, true, true, true, true, false, false, false, false, false, false, false, false, false, false, false, false, false, false, false] (by rfl) (by kernel_rfl) ?_
 refine FJ.dqg rfl rfl rfl .z rfl (by decide) rfl .z (q_fieldAddr rfl (.t (.s16 (.s4 (.s (.s (.s .z)))))) (fun _ => fa_57_1 _ _)) ?_
 refine FJ.dqg rfl rfl rfl (.s .z) rfl (by decide) rfl .z (q_load rfl ag_22 (.t .z) (WS.row (.s (.s (.s .z))) rfl)) ?_
 refine FJ.dqg rfl rfl rfl (.s (.s .z)) rfl (by decide) rfl .z (q_len rfl u_22 (.t .z)) ?_
 refine FJ.dqg rfl rfl rfl (.s (.s (.s .z))) rfl (by decide) rfl .z (q_leq rfl (.t .z) .c) ?_
 refine FJ.dq rfl rfl rfl (by decide) rfl .z (q_pickT rfl (.t (.s4 .z)) (.t .z)) (FJ.dq rfl rfl rfl (by decide) rfl .z (q_move rfl (.t .z)) (FJ.schN ?_))
 refine FJ.caseP .z (fun g46 => ?_) (fun g46 => ?_)
 refine FJ.sch [(22, true), (23, true), (24, true), (25, true)] 11 #[true, true, true, true, true, true, true, true, true, true, true, true, true, true, true, true, true, true, true, true, true, true, true, true, true, true, false, false, false, false, false, false, false, false, false, false, false] (by rfl) (by kernel_rfl) ?_
 refine FJ.dqg rfl rfl rfl .z rfl (by decide) rfl .z (q_fieldAddr rfl (.t (.s16 (.s16 .z))) (fun _ => fa_30_0 _ _)) ?_
 refine FJ.dqg rfl rfl rfl (.s .z) rfl (by decide) rfl .z (q_load rfl ag_2 (.t .z) (WS.row (.s4 (.s .z)) rfl)) ?_
 refine FJ.dqg rfl rfl rfl (.s (.s .z)) rfl (by decide) rfl .z (q_neq rfl (.t .z) .c) ?_
 refine FJ.dqg rfl rfl rfl (.s (.s (.s .z))) rfl (by decide) rfl .z (q_move rfl (.t .z)) ?_
 refine FJ.schN ?_
 refine FJ.caseN .z (fun g47 => ?_) (fun g47 => ?_)
 refine FJ.sch [(26, true), (27, true), (28, true), (29, true), (30, true), (31, true), (32, true), (33, true), (34, true), (35, true), (36, false)] 0 #[true, true, true, true, true, true, true, true, true, true, true, true, true, true, true, true, true, true, true, true, true, true, true, true, true, true, true, true, true, true, true, true, true, true, true, true, true] (by rfl) (by kernel_rfl) ?_
 refine FJ.dskip rfl rfl rfl .z rfl rfl (by decide) rfl .z ?_
 refine FJ.dskip rfl rfl rfl (.s .z) rfl rfl (by decide) rfl .z ?_
 refine FJ.dskip rfl rfl rfl (.s (.s .z)) rfl rfl (by decide) rfl .z ?_
 refine FJ.dskip rfl rfl rfl (.s (.s (.s .z))) rfl rfl (by decide) rfl .z ?_
 refine FJ.dskip rfl rfl rfl (.s4 .z) rfl rfl (by decide) rfl .z ?_
 refine FJ.dskip rfl rfl rfl (.s4 (.s .z)) rfl rfl (by decide) rfl .z ?_
 refine FJ.dskip rfl rfl rfl (.s4 (.s (.s .z))) rfl rfl (by decide) rfl .z ?_
 refine FJ.dskip rfl rfl rfl (.s4 (.s (.s (.s .z)))) rfl rfl (by decide) rfl .z ?_
 refine FJ.dqg rfl rfl rfl (.s4 (.s4 (.s4 .z))) rfl (by decide) rfl .z (q_pickT rfl (.t (.s4 (.s4 .z))) .c) ?_
 refine FJ.dq rfl rfl rfl (by decide) rfl .z (q_pickT rfl (.t (.s4 (.s4 (.s4 (.s .z))))) (.t .z)) (FJ.er (.s16 (.s16 (.s16 (.s16 (.s16 (.s16 (.s (.s .z)))))))) ?_)
 refine FJ.q (goes_sch rfl rfl) rfl (by decide) rfl (q_assign rfl (.t .z)) ?_
 refine FJ.sl rfl ?_
 refine FJ.schN ?_
 refine FJ.drawN (by kernel_rfl) ?_
 refine FJ.then_ (FJ.ret ?_)
 refine FJ.doneS (res1 rfl .z) .n ?_
 exact ⟨rfl, rfl⟩
 refine FJ.sch [(26, true), (27, true), (30, true), (31, true), (32, true), (28, false), (29, true), (33, true), (34, true), (35, true), (36, false)] 0 #[true, true, true, true, true, true, true, true, true, true, true, true, true, true, true, true, true, true, true, true, true, true, true, true, true, true, true, true, true, true, true, true, true, true, true, true, true] (by rfl) (by kernel_rfl) ?_
 refine FJ.dqg rfl rfl rfl .z rfl (by decide) rfl .z (q_fieldAddr rfl (.t (.s16 (.s16 (.s4 .z)))) (fun _ => fa_30_2 _ _)) ?_
 refine FJ.dqg rfl rfl rfl (.s .z) rfl (by decide) rfl .z (q_load rfl ag_2 (.t .z) (WS.row (.s4 (.s .z)) rfl)) ?_
 refine FJ.dqg rfl rfl rfl (.s (.s .z)) rfl (by decide) rfl .z (q_fieldAddr rfl (.t (.s16 (.s16 (.s4 (.s (.s .z)))))) (fun _ => fa_30_3 _ _)) ?_
 refine FJ.dqg rfl rfl rfl (.s (.s (.s .z))) rfl (by decide) rfl .z (q_load rfl ag_22 (.t .z) (WS.row (.s4 (.s .z)) rfl)) ?_
 refine FJ.dqg rfl rfl rfl (.s4 .z) rfl (by decide) rfl .z (q_len rfl u_22 (.t .z)) ?_
 refine FJ.call (goes_schg rfl rfl rfl (.s4 (.s .z))) rfl (by decide) rfl (c_call rfl Try.func47 rfl rfl (args1 (.t (.s (.s (.s .z)))))) .n (fun w1 S1 hs tr => c_47 _) ?_
 rintro _ _ ⟨rfl, rfl⟩
 refine FJ.cat .n ?_
 refine FJ.sk .z ?_
 refine FJ.dqg rfl rfl rfl (.s4 (.s (.s .z))) rfl (by decide) rfl .z (q_field rfl (.t .z) (fun w => fv_48_1 w (.int .i64 ((forR nd22.size).code)) (.int .i64 ((forR nd22.size).val)))) ?_
 refine FJ.dqg rfl rfl rfl (.s4 (.s (.s (.s .z)))) rfl (by decide) rfl .z (q_eql rfl (.t .z) (.t (.s (.s .z)))) ?_
 refine FJ.dqg rfl rfl rfl (.s4 (.s4 (.s4 .z))) rfl (by decide) rfl .z (q_pickF rfl (.t (.s4 (.s4 .z))) (.t .z)) ?_
 refine FJ.dq rfl rfl rfl (by decide) rfl .z (q_pickT rfl (.t (.s4 (.s4 (.s4 (.s .z))))) (.t .z)) (FJ.er (.s16 (.s16 (.s16 (.s16 (.s16 (.s16 (.s (.s .z)))))))) ?_)
 refine FJ.q (goes_sch rfl rfl) rfl (by decide) rfl (q_assign rfl (.t .z)) ?_
 refine FJ.sl rfl ?_
 refine FJ.schN ?_
 refine FJ.drawN (by kernel_rfl) ?_
 refine FJ.then_ (FJ.ret ?_)
 refine FJ.doneS (res1 rfl .z) .n ?_
 first | exact ⟨rfl, rfl⟩ | (focus (exfalso; omega)) | (focus (exfalso; simp_all; done)) | (focus (refine ⟨congrArg Value.bool ?_, rfl⟩; simp_all; done)) | (focus (refine ⟨congrArg Value.bool ?_, rfl⟩; simp_all; omega))
 refine FJ.sch [(22, true), (23, true), (24, true), (25, true), (26, true), (27, true), (28, true), (29, true), (30, true), (31, true), (32, true), (33, true), (34, true), (35, true), (36, false)] 0 #[true, true, true, true, true, true, true, true, true, true, true, true, true, true, true, true, true, true, true, true, true, true, true, true, true, true, true, true, true, true, true, true, true, true, true, true, true] (by rfl) (by kernel_rfl) ?_
 refine FJ.dskip rfl rfl rfl .z rfl rfl (by decide) rfl .z ?_
 refine FJ.dskip rfl rfl rfl (.s .z) rfl rfl (by decide) rfl .z ?_
 refine FJ.dskip rfl rfl rfl (.s (.s .z)) rfl rfl (by decide) rfl .z ?_
 refine FJ.dskip rfl rfl rfl (.s (.s (.s .z))) rfl rfl (by decide) rfl .z ?_
 refine FJ.dskip rfl rfl rfl .z rfl rfl (by decide) rfl .z ?_
 refine FJ.dskip rfl rfl rfl (.s .z) rfl rfl (by decide) rfl .z ?_
 refine FJ.dskip rfl rfl rfl (.s (.s .z)) rfl rfl (by decide) rfl .z ?_
 refine FJ.dskip rfl rfl rfl (.s (.s (.s .z))) rfl rfl (by decide) rfl .z ?_
 refine FJ.dskip rfl rfl rfl (.s4 .z) rfl rfl (by decide) rfl .z ?_
 refine FJ.dskip rfl rfl rfl (.s4 (.s .z)) rfl rfl (by decide) rfl .z ?_
 refine FJ.dskip rfl rfl rfl (.s4 (.s (.s .z))) rfl rfl (by decide) rfl .z ?_
 refine FJ.dskip rfl rfl rfl (.s4 (.s (.s (.s .z)))) rfl rfl (by decide) rfl .z ?_
 refine FJ.dskip rfl rfl rfl (.s4 (.s4 (.s4 .z))) rfl rfl (by decide) rfl .z ?_
 refine FJ.dq rfl rfl rfl (by decide) rfl .z (q_pickF rfl (.t (.s4 (.s4 (.s4 (.s .z))))) .c) (FJ.er (.s16 (.s16 (.s16 (.s16 (.s16 (.s16 (.s (.s .z)))))))) ?_)
 refine FJ.q (goes_sch rfl rfl) rfl (by decide) rfl (q_assign rfl (.t .z)) ?_
 refine FJ.sl rfl ?_
 refine FJ.schN ?_
 refine FJ.drawN (by kernel_rfl) ?_
 refine FJ.then_ (FJ.ret ?_)
 refine FJ.doneS (res1 rfl .z) .n ?_
 first | exact ⟨rfl, rfl⟩ | (focus (exfalso; omega)) | (focus (exfalso; simp_all; done)) | (focus (refine ⟨congrArg Value.bool ?_, rfl⟩; simp_all; done)) | (focus (refine ⟨congrArg Value.bool ?_, rfl⟩; simp_all; omega))
 refine FJ.sch [(16, true), (17, true), (18, true), (19, true), (20, true), (21, true), (22, true), (23, true), (24, true), (25, true), (26, true), (27, true), (28, true), (29, true), (30, true), (31, true), (32, true), (33, true), (34, true), (35, true), (36, false)] 0 #[true, true, true, true, true, true, true, true, true, true, true, true, true, true, true, true, true, true, true, true, true, true, true, true, true, true, true, true, true, true, true, true, true, true, true, true, true] (by rfl) (by kernel_rfl) ?_
 refine FJ.dskip rfl rfl rfl .z rfl rfl (by decide) rfl .z ?_
 refine FJ.dskip rfl rfl rfl (.s .z) rfl rfl (by decide) rfl .z ?_
 refine FJ.dskip rfl rfl rfl (.s (.s .z)) rfl rfl (by decide) rfl .z ?_
 refine FJ.dskip rfl rfl rfl (.s (.s (.s .z))) rfl rfl (by decide) rfl .z ?_
 refine FJ.dq rfl rfl rfl (by decide) rfl .z (q_pickF rfl (.t (.s4 .z)) .c) (FJ.dq rfl rfl rfl (by decide) rfl .z (q_move rfl (.t .z)) ?_)
 refine FJ.dskip rfl rfl rfl .z rfl rfl (by decide) rfl .z ?_
 refine FJ.dskip rfl rfl rfl (.s .z) rfl rfl (by decide) rfl .z ?_
 refine FJ.dskip rfl rfl rfl (.s (.s .z)) rfl rfl (by decide) rfl .z ?_
 refine FJ.dskip rfl rfl rfl (.s (.s (.s .z))) rfl rfl (by decide) rfl .z ?_
 refine FJ.dskip rfl rfl rfl .z rfl rfl (by decide) rfl .z ?_
 refine FJ.dskip rfl rfl rfl (.s .z) rfl rfl (by decide) rfl .z ?_
 refine FJ.dskip rfl rfl rfl (.s (.s .z)) rfl rfl (by decide) rfl .z ?_
 refine FJ.dskip rfl rfl rfl (.s (.s (.s .z))) rfl rfl (by decide) rfl .z ?_
 refine FJ.dskip rfl rfl rfl (.s4 .z) rfl rfl (by decide) rfl .z ?_
 refine FJ.dskip rfl rfl rfl (.s4 (.s .z)) rfl rfl (by decide) rfl .z ?_
 refine FJ.dskip rfl rfl rfl (.s4 (.s (.s .z))) rfl rfl (by decide) rfl .z ?_
 refine FJ.dskip rfl rfl rfl (.s4 (.s (.s (.s .z)))) rfl rfl (by decide) rfl .z ?_
 refine FJ.dskip rfl rfl rfl (.s4 (.s4 (.s4 .z))) rfl rfl (by decide) rfl .z ?_
 refine FJ.dq rfl rfl rfl (by decide) rfl .z (q_pickF rfl (.t (.s4 (.s4 (.s4 (.s .z))))) .c) (FJ.er (.s16 (.s16 (.s16 (.s16 (.s16 (.s16 (.s (.s .z)))))))) ?_)
 refine FJ.q (goes_sch rfl rfl) rfl (by decide) rfl (q_assign rfl (.t .z)) ?_
 refine FJ.sl rfl ?_
 refine FJ.schN ?_
 refine FJ.drawN (by kernel_rfl) ?_
 refine FJ.then_ (FJ.ret ?_)
 refine FJ.doneS (res1 rfl .z) .n ?_
 first | exact ⟨rfl, rfl⟩ | (focus (exfalso; omega)) | (focus (exfalso; simp_all; done)) | (focus (refine ⟨congrArg Value.bool ?_, rfl⟩; simp_all; done)) | (focus (refine ⟨congrArg Value.bool ?_, rfl⟩; simp_all; omega))
 refine FJ.sch [(10, true), (11, true), (12, true), (13, true), (14, true), (15, true), (16, true), (17, true), (18, true), (19, true), (20, true), (21, true), (22, true), (23, true), (24, true), (25, true), (26, true), (27, true), (28, true), (29, true), (30, true), (31, true), (32, true), (33, true), (34, true), (35, true), (36, false)] 0 #[true, true, true, true, true, true, true, true, true, true, true, true, true, true, true, true, true, true, true, true, true, true, true, true, true, true, true, true, true, true, true, true, true, true, true, true, true] (by rfl) (by kernel_rfl) ?_
 refine FJ.dskip rfl rfl rfl .z rfl rfl (by decide) rfl .z ?_
 refine FJ.dskip rfl rfl rfl (.s .z) rfl rfl (by decide) rfl .z ?_
 refine FJ.dskip rfl rfl rfl (.s (.s .z)) rfl rfl (by decide) rfl .z ?_
 refine FJ.dskip rfl rfl rfl (.s (.s (.s .z))) rfl rfl (by decide) rfl .z ?_
 refine FJ.dq rfl rfl rfl (by decide) rfl .z (q_pickF rfl (.t (.s4 .z)) .c) (FJ.dq rfl rfl rfl (by decide) rfl .z (q_move rfl (.t .z)) ?_)
 refine FJ.dskip rfl rfl rfl .z rfl rfl (by decide) rfl .z ?_
 refine FJ.dskip rfl rfl rfl (.s .z) rfl rfl (by decide) rfl .z ?_
 refine FJ.dskip rfl rfl rfl (.s (.s .z)) rfl rfl (by decide) rfl .z ?_
 refine FJ.dskip rfl rfl rfl (.s (.s (.s .z))) rfl rfl (by decide) rfl .z ?_
 refine FJ.dq rfl rfl rfl (by decide) rfl .z (q_pickF rfl (.t (.s4 .z)) .c) (FJ.dq rfl rfl rfl (by decide) rfl .z (q_move rfl (.t .z)) ?_)
 refine FJ.dskip rfl rfl rfl .z rfl rfl (by decide) rfl .z ?_
 refine FJ.dskip rfl rfl rfl (.s .z) rfl rfl (by decide) rfl .z ?_
 refine FJ.dskip rfl rfl rfl (.s (.s .z)) rfl rfl (by decide) rfl .z ?_
 refine FJ.dskip rfl rfl rfl (.s (.s (.s .z))) rfl rfl (by decide) rfl .z ?_
 refine FJ.dskip rfl rfl rfl .z rfl rfl (by decide) rfl .z ?_
 refine FJ.dskip rfl rfl rfl (.s .z) rfl rfl (by decide) rfl .z ?_
 refine FJ.dskip rfl rfl rfl (.s (.s .z)) rfl rfl (by decide) rfl .z ?_
 refine FJ.dskip rfl rfl rfl (.s (.s (.s .z))) rfl rfl (by decide) rfl .z ?_
 refine FJ.dskip rfl rfl rfl (.s4 .z) rfl rfl (by decide) rfl .z ?_
 refine FJ.dskip rfl rfl rfl (.s4 (.s .z)) rfl rfl (by decide) rfl .z ?_
 refine FJ.dskip rfl rfl rfl (.s4 (.s (.s .z))) rfl rfl (by decide) rfl .z ?_
 refine FJ.dskip rfl rfl rfl (.s4 (.s (.s (.s .z)))) rfl rfl (by decide) rfl .z ?_
 refine FJ.dskip rfl rfl rfl (.s4 (.s4 (.s4 .z))) rfl rfl (by decide) rfl .z ?_
 refine FJ.dq rfl rfl rfl (by decide) rfl .z (q_pickF rfl (.t (.s4 (.s4 (.s4 (.s .z))))) .c) (FJ.er (.s16 (.s16 (.s16 (.s16 (.s16 (.s16 (.s (.s .z)))))))) ?_)
 refine FJ.q (goes_sch rfl rfl) rfl (by decide) rfl (q_assign rfl (.t .z)) ?_
 refine FJ.sl rfl ?_
 refine FJ.schN ?_
 refine FJ.drawN (by kernel_rfl) ?_
 refine FJ.then_ (FJ.ret ?_)
 refine FJ.doneS (res1 rfl .z) .n ?_
 first | exact ⟨rfl, rfl⟩ | (focus (exfalso; omega)) | (focus (exfalso; simp_all; done)) | (focus (refine ⟨congrArg Value.bool ?_, rfl⟩; simp_all; done)) | (focus (refine ⟨congrArg Value.bool ?_, rfl⟩; simp_all; omega))
 refine FJ.sch [(4, true), (5, true), (6, true), (7, true), (8, true), (9, true), (10, true), (11, true), (12, true), (13, true), (14, true), (15, true), (16, true), (17, true), (18, true), (19, true), (20, true), (21, true), (22, true), (23, true), (24, true), (25, true), (26, true), (27, true), (28, true), (29, true), (30, true), (31, true), (32, true), (33, true), (34, true), (35, true), (36, false)] 0 #[true, true, true, true, true, true, true, true, true, true, true, true, true, true, true, true, true, true, true, true, true, true, true, true, true, true, true, true, true, true, true, true, true, true, true, true, true] (by rfl) (by kernel_rfl) ?_
 refine FJ.dskip rfl rfl rfl .z rfl rfl (by decide) rfl .z ?_
 refine FJ.dskip rfl rfl rfl (.s .z) rfl rfl (by decide) rfl .z ?_
 refine FJ.dskip rfl rfl rfl (.s (.s .z)) rfl rfl (by decide) rfl .z ?_
 refine FJ.dskip rfl rfl rfl (.s (.s (.s .z))) rfl rfl (by decide) rfl .z ?_
 refine FJ.dq rfl rfl rfl (by decide) rfl .z (q_pickF rfl (.t (.s4 .z)) .c) (FJ.dq rfl rfl rfl (by decide) rfl .z (q_move rfl (.t .z)) ?_)
 refine FJ.dskip rfl rfl rfl .z rfl rfl (by decide) rfl .z ?_
 refine FJ.dskip rfl rfl rfl (.s .z) rfl rfl (by decide) rfl .z ?_
 refine FJ.dskip rfl rfl rfl (.s (.s .z)) rfl rfl (by decide) rfl .z ?_
 refine FJ.dskip rfl rfl rfl (.s (.s (.s .z))) rfl rfl (by decide) rfl .z ?_
 refine FJ.dq rfl rfl rfl (by decide) rfl .z (q_pickF rfl (.t (.s4 .z)) .c) (FJ.dq rfl rfl rfl (by decide) rfl .z (q_move rfl (.t .z)) ?_)
 refine FJ.dskip rfl rfl rfl .z rfl rfl (by decide) rfl .z ?_
 refine FJ.dskip rfl rfl rfl (.s .z) rfl rfl (by decide) rfl .z ?_
 refine FJ.dskip rfl rfl rfl (.s (.s .z)) rfl rfl (by decide) rfl .z ?_
 refine FJ.dskip rfl rfl rfl (.s (.s (.s .z))) rfl rfl (by decide) rfl .z ?_
 refine FJ.dq rfl rfl rfl (by decide) rfl .z (q_pickF rfl (.t (.s4 .z)) .c) (FJ.dq rfl rfl rfl (by decide) rfl .z (q_move rfl (.t .z)) ?_)
 refine FJ.dskip rfl rfl rfl .z rfl rfl (by decide) rfl .z ?_
 refine FJ.dskip rfl rfl rfl (.s .z) rfl rfl (by decide) rfl .z ?_
 refine FJ.dskip rfl rfl rfl (.s (.s .z)) rfl rfl (by decide) rfl .z ?_
 refine FJ.dskip rfl rfl rfl (.s (.s (.s .z))) rfl rfl (by decide) rfl .z ?_
 refine FJ.dskip rfl rfl rfl .z rfl rfl (by decide) rfl .z ?_
 refine FJ.dskip rfl rfl rfl (.s .z) rfl rfl (by decide) rfl .z ?_
 refine FJ.dskip rfl rfl rfl (.s (.s .z)) rfl rfl (by decide) rfl .z ?_
 refine FJ.dskip rfl rfl rfl (.s (.s (.s .z))) rfl rfl (by decide) rfl .z ?_
 refine FJ.dskip rfl rfl rfl (.s4 .z) rfl rfl (by decide) rfl .z ?_
 refine FJ.dskip rfl rfl rfl (.s4 (.s .z)) rfl rfl (by decide) rfl .z ?_
 refine FJ.dskip rfl rfl rfl (.s4 (.s (.s .z))) rfl rfl (by decide) rfl .z ?_
 refine FJ.dskip rfl rfl rfl (.s4 (.s (.s (.s .z)))) rfl rfl (by decide) rfl .z ?_
 refine FJ.dskip rfl rfl rfl (.s4 (.s4 (.s4 .z))) rfl rfl (by decide) rfl .z ?_
 refine FJ.dq rfl rfl rfl (by decide) rfl .z (q_pickF rfl (.t (.s4 (.s4 (.s4 (.s .z))))) .c) (FJ.er (.s16 (.s16 (.s16 (.s16 (.s16 (.s16 (.s (.s .z)))))))) ?_)
 refine FJ.q (goes_sch rfl rfl) rfl (by decide) rfl (q_assign rfl (.t .z)) ?_
 refine FJ.sl rfl ?_
 refine FJ.schN ?_
 refine FJ.drawN (by kernel_rfl) ?_
 refine FJ.then_ (FJ.ret ?_)
 refine FJ.doneS (res1 rfl .z) .n ?_
 first | exact ⟨rfl, rfl⟩ | (focus (exfalso; omega)) | (focus (exfalso; simp_all; done)) | (focus (refine ⟨congrArg Value.bool ?_, rfl⟩; simp_all; done)) | (focus (refine ⟨congrArg Value.bool ?_, rfl⟩; simp_all; omega))
 refine FJ.sch [(35, true), (36, true), (37, true), (38, true), (39, false), (40, false)] 0 #[true, true, true, true, true, true, true, true, true, true, true, true, true, true, true, true, true, true, true, true, true, true, true, true, true, true, true, true, true, true, true, true, true, true, true, true, true, true, true, true, true] (by rfl) (by kernel_rfl) ?_
 refine FJ.dskip rfl rfl rfl .z rfl rfl (by decide) rfl (.s .z) ?_
 refine FJ.dskip rfl rfl rfl (.s .z) rfl rfl (by decide) rfl (.s .z) ?_
 refine FJ.dskip rfl rfl rfl (.s (.s .z)) rfl rfl (by decide) rfl (.s .z) ?_
 refine FJ.dskip rfl rfl rfl (.s (.s (.s .z))) rfl rfl (by decide) rfl (.s .z) ?_
 refine FJ.q (goes_schg rfl rfl rfl (.s4 (.s4 .z))) rfl (by decide) rfl (q_pickF rfl (.t (.s4 .z)) .c) ?_
 refine FJ.sk (.s .z) ?_
 refine FJ.q (goes_sch rfl rfl) rfl (by decide) rfl (q_pickF rfl (.t (.s4 (.s4 (.s .z)))) (.t .z)) ?_
 refine FJ.sk (.s .z) ?_
 refine FJ.schN ?_
 refine FJ.drawN (by kernel_rfl) ?_
 refine FJ.then_ ?_
 refine FJ.condF (.t .z) ?_
 refine FJ.skip (FJ.then_ (FJ.seq (FJ.region (FJ.ql rfl (q_move rfl (.t (.s16 (.s16 (.s16 (.s (.s .z))))))) ?_))))
 refine FJ.call (goes_list rfl) rfl (by decide) rfl (c_call rfl Try.func46 rfl rfl (args1 (.t .z))) .n (fun w1 S1 hs tr => c_46 (tr.ctx h0)) ?_
 rintro _ _ ⟨nd48, v49, v51, hznd48, rfl, rfl⟩
 refine FJ.cat (.c (.c .n)) ?_
 obtain ⟨IC, ID⟩ := @ino_law2 nd48
 refine FJ.know (WS.oform .z) ?_
 rintro ⟨Ao53, co53, rfl, hlo53, hmo53, hbo53⟩
 refine FJ.know (WS.oform (.s .z)) ?_
 rintro ⟨Ao54, co54, rfl, hlo54, hmo54, hbo54⟩
 refine FJ.e (goes_list rfl) rfl (by decide) rfl (e_alloc rfl z_30 rfl rfl) ?_
 rintro _ _ ⟨g55, rfl, rfl⟩
 refine FJ.es (goes_list rfl) rfl (es_store (off := 0) (cs := [.int .i64 nd48.kind, .int .i64 nd48.links, .int .i64 nd48.size, .slice Ao53 nd48.blocks.length co53, .slice Ao54 nd48.ents.length co54]) rfl sz_30 (.t .z) (.t (.s .z)) rfl (ones rfl) .z (Nat.le_of_ble_eq_true rfl) (.c .z (.c (.s .z) (.c (.s (.s .z)) (.c (.s (.s (.s .z))) (.c (.s (.s (.s (.s .z)))) .n)))))) ?_
 refine FJ.nil (FJ.then_ (FJ.seq (FJ.region ?_)))
 refine FJ.ql rfl (q_loadA (cs := [.int .i64 nd48.kind, .int .i64 nd48.links, .int .i64 nd48.size, .slice Ao53 nd48.blocks.length co53, .slice Ao54 nd48.ents.length co54]) rfl ag_30 sz_30 (.t .z) (WS.rows0 .z (fun i u h => by exact h))) ?_
 refine FJ.call (goes_list rfl) rfl (by decide) rfl (c_call rfl Try.func36 rfl rfl (args1 (.t .z))) .n (fun w1 S1 hs tr => c_36 (kT_30_mk nd48 (tr.own (.s .z)) (tr.own (.s (.s .z))))) ?_
 rintro _ _ ⟨v56, rfl, rfl⟩
 refine FJ.cat (.c .n) ?_
 refine FJ.know (WS.oform .z) ?_
 rintro ⟨Ao58, co58, rfl, hlo58, hmo58, hbo58⟩
 refine FJ.e (goes_list rfl) rfl (by decide) rfl (e_alloc rfl z_57 rfl rfl) ?_
 rintro _ _ ⟨g59, rfl, rfl⟩
 refine FJ.es (goes_list rfl) rfl (es_store (off := 0) (cs := [.int .i64 ((packR nd48).code), .slice Ao58 ((packR nd48).list).length co58]) rfl sz_57 (.t .z) (.t (.s .z)) rfl (ones rfl) .z (Nat.le_of_ble_eq_true rfl) (.c .z (.c (.s .z) .n))) ?_
 refine FJ.nil (FJ.then_ (FJ.seq (FJ.seq (FJ.region ?_))))
 refine FJ.ql rfl (q_fieldAddr rfl (.t .z) (fun _ => fa_57_0 _ _)) (FJ.ql rfl (q_load rfl ag_2 (.t .z) (WS.row .z rfl)) (FJ.ql rfl (q_neq rfl (.t .z) .c) (FJ.nil (FJ.then_ ?_))))
 refine FJ.condN (.t .z) (fun b60 => ?_) (fun b60 => ?_)
 refine FJ.seq ?_
 refine FJ.draw [rowA g59 57 2 1 [.int .i64 ((packR nd48).code), .slice Ao58 ((packR nd48).list).length co58], ownA kSl_2 ((packR nd48).list) [.slice Ao58 ((packR nd48).list).length co58], rowA g55 30 5 1 [.int .i64 nd48.kind, .int .i64 nd48.links, .int .i64 nd48.size, .slice Ao53 nd48.blocks.length co53, .slice Ao54 nd48.ents.length co54], ownA kSl_2 nd48.blocks [.slice Ao53 nd48.blocks.length co53], ownA kSl_130 nd48.ents [.slice Ao54 nd48.ents.length co54], ownA kSl_2 ((packR ((unpR ws3).inode)).list) [.slice Ao17 ((packR ((unpR ws3).inode)).list).length co17], rowA g12 66 6 1 [.int .i64 ((unpR ws3).code), .int .i64 ((unpR ws3).inode.kind), .int .i64 ((unpR ws3).inode.links), .int .i64 ((unpR ws3).inode.size), .slice Ao10 ((unpR ws3).inode.blocks).length co10, .slice Ao11 ((unpR ws3).inode.ents).length co11], ownA kSl_2 ((unpR ws3).inode.blocks) [.slice Ao10 ((unpR ws3).inode.blocks).length co10], ownA kSl_130 ((unpR ws3).inode.ents) [.slice Ao11 ((unpR ws3).inode.ents).length co11], ownA kSl_2 ws3 [.slice Ao5 ws3.length co5]] 12 (by kernel_rfl) ?_
 refine FJ.sch [(0, true), (2, true), (3, true), (1, false), (4, true), (5, true)] 7 #[true, true, true, true, true, true, false, false, false, false, false, false, false] (by rfl) (by kernel_rfl) ?_
 refine FJ.dq rfl rfl rfl (by decide) rfl .z (q_loadA (cs := [.int .i64 nd48.kind, .int .i64 nd48.links, .int .i64 nd48.size, .slice Ao53 nd48.blocks.length co53, .slice Ao54 nd48.ents.length co54]) rfl ag_30 sz_30 (.t (.s4 (.s (.s .z)))) (WS.rows0 (.s (.s .z)) (fun i u h => by exact h))) ?_
 refine FJ.dq rfl rfl rfl (by decide) rfl .z (q_fieldAddr rfl (.t (.s4 .z)) (fun _ => fa_57_0 _ _)) (FJ.dq rfl rfl rfl (by decide) rfl .z (q_load rfl ag_2 (.t .z) (WS.row .z rfl)) ?_)
 refine FJ.call (goes_sch rfl rfl) rfl (by decide) rfl (c_call rfl Try.func20 rfl rfl (args1 (.t (.s (.s .z))))) .n (fun w1 S1 hs tr => c_20 (kT_30_mk nd48 (tr.own (.s (.s (.s .z)))) (tr.own (.s4 .z)))) ?_
 rintro _ _ ⟨rfl, rfl⟩
 refine FJ.cat .n ?_
 refine FJ.sk .z ?_
 refine FJ.dq rfl rfl rfl (by decide) rfl .z (q_eql rfl (.t .z) (.t (.s .z))) (FJ.dq rfl rfl rfl (by decide) rfl .z (q_move rfl (.t .z)) (FJ.schN ?_))
 refine FJ.caseP .z (fun g61 => ?_) (fun g61 => ?_)
 refine FJ.sch [(6, true), (8, true), (9, true), (7, false), (10, true), (11, true), (12, false)] 0 #[true, true, true, true, true, true, true, true, true, true, true, true, true] (by rfl) (by kernel_rfl) ?_
 refine FJ.dqg rfl rfl rfl .z rfl (by decide) rfl .z (q_loadA (cs := [.int .i64 nd48.kind, .int .i64 nd48.links, .int .i64 nd48.size, .slice Ao53 nd48.blocks.length co53, .slice Ao54 nd48.ents.length co54]) rfl ag_30 sz_30 (.t (.s4 (.s4 (.s4 .z)))) (WS.rows0 (.s (.s .z)) (fun i u h => by exact h))) ?_
 refine FJ.dqg rfl rfl rfl (.s .z) rfl (by decide) rfl .z (q_fieldAddr rfl (.t (.s4 (.s4 (.s (.s .z))))) (fun _ => fa_57_0 _ _)) ?_
 refine FJ.dqg rfl rfl rfl (.s (.s .z)) rfl (by decide) rfl .z (q_load rfl ag_2 (.t .z) (WS.row .z rfl)) ?_
 refine FJ.call (goes_schg rfl rfl rfl (.s (.s (.s .z)))) rfl (by decide) rfl (c_call rfl Try.func21 rfl rfl (args1 (.t (.s (.s .z))))) .n (fun w1 S1 hs tr => c_21 (kT_30_mk nd48 (tr.own (.s (.s (.s .z)))) (tr.own (.s4 .z)))) ?_
 rintro _ _ ⟨rfl, rfl⟩
 refine FJ.cat .n ?_
 refine FJ.sk .z ?_
 refine FJ.dqg rfl rfl rfl (.s4 .z) rfl (by decide) rfl .z (q_eql rfl (.t .z) (.t (.s .z))) ?_
 refine FJ.dq rfl rfl rfl (by decide) rfl .z (q_pickT rfl (.t (.s4 (.s .z))) (.t .z)) (FJ.er (.s16 (.s16 (.s16 (.s16 (.s4 (.s (.s .z))))))) ?_)
 refine FJ.q (goes_sch rfl rfl) rfl (by decide) rfl (q_assign rfl (.t .z)) ?_
 refine FJ.sl rfl ?_
 refine FJ.schN ?_
 refine FJ.drawN (by kernel_rfl) ?_
 refine FJ.then_ (FJ.ret (FJ.thenR ?_))
 refine FJ.doneS (res1 rfl .z) .n ?_
 first | exact ⟨rfl, rfl⟩ | (focus (exfalso; omega)) | (focus (exfalso; simp_all; done)) | (focus (refine ⟨congrArg Value.bool ?_, rfl⟩; simp_all; done)) | (focus (refine ⟨congrArg Value.bool ?_, rfl⟩; simp_all; omega))
 refine FJ.sch [(6, true), (7, true), (8, true), (9, true), (10, true), (11, true), (12, false)] 0 #[true, true, true, true, true, true, true, true, true, true, true, true, true] (by rfl) (by kernel_rfl) ?_
 refine FJ.dskip rfl rfl rfl .z rfl rfl (by decide) rfl .z ?_
 refine FJ.dskip rfl rfl rfl (.s .z) rfl rfl (by decide) rfl .z ?_
 refine FJ.dskip rfl rfl rfl (.s (.s .z)) rfl rfl (by decide) rfl .z ?_
 refine FJ.dskip rfl rfl rfl (.s (.s (.s .z))) rfl rfl (by decide) rfl .z ?_
 refine FJ.dskip rfl rfl rfl (.s4 .z) rfl rfl (by decide) rfl .z ?_
 refine FJ.dq rfl rfl rfl (by decide) rfl .z (q_pickF rfl (.t (.s4 (.s .z))) .c) (FJ.er (.s16 (.s16 (.s16 (.s16 (.s4 (.s (.s .z))))))) ?_)
 refine FJ.q (goes_sch rfl rfl) rfl (by decide) rfl (q_assign rfl (.t .z)) ?_
 refine FJ.sl rfl ?_
 refine FJ.schN ?_
 refine FJ.drawN (by kernel_rfl) ?_
 refine FJ.then_ (FJ.ret (FJ.thenR ?_))
 refine FJ.doneS (res1 rfl .z) .n ?_
 first | exact ⟨rfl, rfl⟩ | (focus (exfalso; omega)) | (focus (exfalso; simp_all; done)) | (focus (refine ⟨congrArg Value.bool ?_, rfl⟩; simp_all; done)) | (focus (refine ⟨congrArg Value.bool ?_, rfl⟩; simp_all; omega))
 refine FJ.skip (FJ.then_ (FJ.seq (FJ.region (FJ.ql rfl (q_fieldAddr rfl (.t (.s (.s (.s .z)))) (fun _ => fa_57_1 _ _)) ?_))))
 refine FJ.ql rfl (q_load rfl ag_22 (.t .z) (WS.row .z rfl)) ?_
 refine FJ.call (goes_list rfl) rfl (by decide) rfl (c_call rfl Try.func43 rfl rfl (args1 (.t .z))) .n (fun w1 S1 hs tr => c_43 (tr.own (.s .z))) ?_
 rintro _ _ ⟨v62, v64, rfl, rfl⟩
 refine FJ.cat (.c (.c .n)) ?_
 refine FJ.know (WS.oform .z) ?_
 rintro ⟨Ao66, co66, rfl, hlo66, hmo66, hbo66⟩
 refine FJ.know (WS.oform (.s .z)) ?_
 rintro ⟨Ao67, co67, rfl, hlo67, hmo67, hbo67⟩
 refine FJ.e (goes_list rfl) rfl (by decide) rfl (e_alloc rfl z_66 rfl rfl) ?_
 rintro _ _ ⟨g68, rfl, rfl⟩
 refine FJ.es (goes_list rfl) rfl (es_store (off := 0) (cs := [.int .i64 ((unpR ((packR nd48).list)).code), .int .i64 ((unpR ((packR nd48).list)).inode.kind), .int .i64 ((unpR ((packR nd48).list)).inode.links), .int .i64 ((unpR ((packR nd48).list)).inode.size), .slice Ao66 ((unpR ((packR nd48).list)).inode.blocks).length co66, .slice Ao67 ((unpR ((packR nd48).list)).inode.ents).length co67]) rfl sz_66 (.t .z) (.t (.s .z)) rfl (ones rfl) .z (Nat.le_of_ble_eq_true rfl) (.c .z (.c (.s .z) (.c (.s (.s .z)) (.c (.s (.s (.s .z))) (.c (.s (.s (.s (.s .z)))) (.c (.s (.s (.s (.s (.s .z))))) .n))))))) ?_
 refine FJ.nil (FJ.then_ (FJ.seq ?_))
 refine FJ.draw [rowA g68 66 6 1 [.int .i64 ((unpR ((packR nd48).list)).code), .int .i64 ((unpR ((packR nd48).list)).inode.kind), .int .i64 ((unpR ((packR nd48).list)).inode.links), .int .i64 ((unpR ((packR nd48).list)).inode.size), .slice Ao66 ((unpR ((packR nd48).list)).inode.blocks).length co66, .slice Ao67 ((unpR ((packR nd48).list)).inode.ents).length co67], ownA kSl_2 ((unpR ((packR nd48).list)).inode.blocks) [.slice Ao66 ((unpR ((packR nd48).list)).inode.blocks).length co66], ownA kSl_130 ((unpR ((packR nd48).list)).inode.ents) [.slice Ao67 ((unpR ((packR nd48).list)).inode.ents).length co67], rowA g59 57 2 1 [.int .i64 ((packR nd48).code), .slice Ao58 ((packR nd48).list).length co58], ownA kSl_2 ((packR nd48).list) [.slice Ao58 ((packR nd48).list).length co58], rowA g55 30 5 1 [.int .i64 nd48.kind, .int .i64 nd48.links, .int .i64 nd48.size, .slice Ao53 nd48.blocks.length co53, .slice Ao54 nd48.ents.length co54], ownA kSl_2 nd48.blocks [.slice Ao53 nd48.blocks.length co53], ownA kSl_130 nd48.ents [.slice Ao54 nd48.ents.length co54], ownA kSl_2 ((packR ((unpR ws3).inode)).list) [.slice Ao17 ((packR ((unpR ws3).inode)).list).length co17], rowA g12 66 6 1 [.int .i64 ((unpR ws3).code), .int .i64 ((unpR ws3).inode.kind), .int .i64 ((unpR ws3).inode.links), .int .i64 ((unpR ws3).inode.size), .slice Ao10 ((unpR ws3).inode.blocks).length co10, .slice Ao11 ((unpR ws3).inode.ents).length co11], ownA kSl_2 ((unpR ws3).inode.blocks) [.slice Ao10 ((unpR ws3).inode.blocks).length co10], ownA kSl_130 ((unpR ws3).inode.ents) [.slice Ao11 ((unpR ws3).inode.ents).length co11], ownA kSl_2 ws3 [.slice Ao5 ws3.length co5]] 36 (by kernel_rfl) ?_
 refine FJ.sch [(0, true), (1, true), (2, true), (3, true)] 33 #[true, true, true, true, false, false, false, false, false, false, false, false, false, false, false, false, false, false, false, false, false, false, false, false, false, false, false, false, false, false, false, false, false, false, false, false, false] (by rfl) (by kernel_rfl) ?_
 refine FJ.dq rfl rfl rfl (by decide) rfl .z (q_fieldAddr rfl (.t .z) (fun _ => fa_66_0 _ _)) (FJ.dq rfl rfl rfl (by decide) rfl .z (q_load rfl ag_2 (.t .z) (WS.row .z rfl)) (FJ.dq rfl rfl rfl (by decide) rfl .z (q_eql rfl (.t .z) .c) (FJ.dq rfl rfl rfl (by decide) rfl .z (q_move rfl (.t .z)) (FJ.schN ?_))))
 refine FJ.caseP .z (fun g69 => ?_) (fun g69 => ?_)
 refine FJ.sch [(4, true), (5, true), (6, true), (7, false), (8, true), (9, true)] 27 #[true, true, true, true, true, true, true, true, true, true, false, false, false, false, false, false, false, false, false, false, false, false, false, false, false, false, false, false, false, false, false, false, false, false, false, false, false] (by rfl) (by kernel_rfl) ?_
 refine FJ.dqg rfl rfl rfl .z rfl (by decide) rfl .z (q_fieldAddr rfl (.t (.s4 .z)) (fun _ => fa_66_1 _ _)) ?_
 refine FJ.dqg rfl rfl rfl (.s .z) rfl (by decide) rfl .z (q_loadA (cs := [.int .i64 ((unpR ((packR nd48).list)).inode.kind), .int .i64 ((unpR ((packR nd48).list)).inode.links), .int .i64 ((unpR ((packR nd48).list)).inode.size), .slice Ao66 ((unpR ((packR nd48).list)).inode.blocks).length co66, .slice Ao67 ((unpR ((packR nd48).list)).inode.ents).length co67]) rfl ag_30 sz_30 (.t .z) (WS.rows .z (sub_at rfl))) ?_
 refine FJ.dqg rfl rfl rfl (.s (.s .z)) rfl (by decide) rfl .z (q_loadA (cs := [.int .i64 nd48.kind, .int .i64 nd48.links, .int .i64 nd48.size, .slice Ao53 nd48.blocks.length co53, .slice Ao54 nd48.ents.length co54]) rfl ag_30 sz_30 (.t (.s16 .z)) (WS.rows0 (.s4 (.s .z)) (fun i u h => by exact h))) ?_
 refine FJ.call (goes_schg rfl rfl rfl (.s (.s (.s .z)))) rfl (by decide) rfl (c_call rfl Try.func18 rfl rfl (args2 (.t (.s .z)) (.t .z))) .n (fun w1 S1 hs tr => c_18 (kT_30_mk ((unpR ((packR nd48).list)).inode) (tr.own (.s .z)) (tr.own (.s (.s .z)))) (kT_30_mk nd48 (tr.own (.s4 (.s (.s .z)))) (tr.own (.s4 (.s (.s (.s .z))))))) ?_
 rintro _ _ ⟨rfl, rfl⟩
 refine FJ.cat .n ?_
 refine FJ.sk .z ?_
 refine FJ.dq rfl rfl rfl (by decide) rfl .z (q_pickT rfl (.t (.s4 .z)) (.t .z)) (FJ.dq rfl rfl rfl (by decide) rfl .z (q_move rfl (.t .z)) (FJ.schN ?_))
 refine FJ.caseP .z (fun g70 => ?_) (fun g70 => ?_)
 refine FJ.sch [(10, true), (11, true), (12, true), (13, true), (14, true), (15, true)] 21 #[true, true, true, true, true, true, true, true, true, true, true, true, true, true, true, true, false, false, false, false, false, false, false, false, false, false, false, false, false, false, false, false, false, false, false, false, false] (by rfl) (by kernel_rfl) ?_
 refine FJ.dqg rfl rfl rfl .z rfl (by decide) rfl .z (q_fieldAddr rfl (.t (.s16 (.s .z))) (fun _ => fa_57_1 _ _)) ?_
 refine FJ.dqg rfl rfl rfl (.s .z) rfl (by decide) rfl .z (q_load rfl ag_22 (.t .z) (WS.row (.s (.s (.s .z))) rfl)) ?_
 refine FJ.dqg rfl rfl rfl (.s (.s .z)) rfl (by decide) rfl .z (q_len rfl u_22 (.t .z)) ?_
 refine FJ.dqg rfl rfl rfl (.s (.s (.s .z))) rfl (by decide) rfl .z (q_geq rfl (.t .z) .c) ?_
 refine FJ.dq rfl rfl rfl (by decide) rfl .z (q_pickT rfl (.t (.s4 .z)) (.t .z)) (FJ.dq rfl rfl rfl (by decide) rfl .z (q_move rfl (.t .z)) (FJ.schN ?_))
 refine FJ.caseP .z (fun g71 => ?_) (fun g71 => ?_)
 refine FJ.sch [(16, true), (17, true), (18, true), (19, true), (20, true), (21, true)] 15 #[true, true, true, true, true, true, true, true, true, true, true, true, true, true, true, true, true, true, true, true, true, true, false, false, false, false, false, false, false, false, false, false, false, false, false, false, false] (by rfl) (by kernel_rfl) ?_
 refine FJ.dqg rfl rfl rfl .z rfl (by decide) rfl .z (q_fieldAddr rfl (.t (.s16 (.s4 (.s (.s (.s .z)))))) (fun _ => fa_57_1 _ _)) ?_
 refine FJ.dqg rfl rfl rfl (.s .z) rfl (by decide) rfl .z (q_load rfl ag_22 (.t .z) (WS.row (.s (.s (.s .z))) rfl)) ?_
 refine FJ.dqg rfl rfl rfl (.s (.s .z)) rfl (by decide) rfl .z (q_len rfl u_22 (.t .z)) ?_
 refine FJ.dqg rfl rfl rfl (.s (.s (.s .z))) rfl (by decide) rfl .z (q_leq rfl (.t .z) .c) ?_
 refine FJ.dq rfl rfl rfl (by decide) rfl .z (q_pickT rfl (.t (.s4 .z)) (.t .z)) (FJ.dq rfl rfl rfl (by decide) rfl .z (q_move rfl (.t .z)) (FJ.schN ?_))
 refine FJ.caseP .z (fun g72 => ?_) (fun g72 => ?_)
 refine FJ.sch [(22, true), (23, true), (24, true), (25, true)] 11 #[true, true, true, true, true, true, true, true, true, true, true, true, true, true, true, true, true, true, true, true, true, true, true, true, true, true, false, false, false, false, false, false, false, false, false, false, false] (by rfl) (by kernel_rfl) ?_
 refine FJ.dqg rfl rfl rfl .z rfl (by decide) rfl .z (q_fieldAddr rfl (.t (.s16 (.s16 .z))) (fun _ => fa_30_0 _ _)) ?_
 refine FJ.dqg rfl rfl rfl (.s .z) rfl (by decide) rfl .z (q_load rfl ag_2 (.t .z) (WS.row (.s4 (.s .z)) rfl)) ?_
 refine FJ.dqg rfl rfl rfl (.s (.s .z)) rfl (by decide) rfl .z (q_neq rfl (.t .z) .c) ?_
 refine FJ.dqg rfl rfl rfl (.s (.s (.s .z))) rfl (by decide) rfl .z (q_move rfl (.t .z)) ?_
 refine FJ.schN ?_
 refine FJ.caseN .z (fun g73 => ?_) (fun g73 => ?_)
 refine FJ.sch [(26, true), (27, true), (28, true), (29, true), (30, true), (31, true), (32, true), (33, true), (34, true), (35, true), (36, false)] 0 #[true, true, true, true, true, true, true, true, true, true, true, true, true, true, true, true, true, true, true, true, true, true, true, true, true, true, true, true, true, true, true, true, true, true, true, true, true] (by rfl) (by kernel_rfl) ?_
 refine FJ.dskip rfl rfl rfl .z rfl rfl (by decide) rfl .z ?_
 refine FJ.dskip rfl rfl rfl (.s .z) rfl rfl (by decide) rfl .z ?_
 refine FJ.dskip rfl rfl rfl (.s (.s .z)) rfl rfl (by decide) rfl .z ?_
 refine FJ.dskip rfl rfl rfl (.s (.s (.s .z))) rfl rfl (by decide) rfl .z ?_
 refine FJ.dskip rfl rfl rfl (.s4 .z) rfl rfl (by decide) rfl .z ?_
 refine FJ.dskip rfl rfl rfl (.s4 (.s .z)) rfl rfl (by decide) rfl .z ?_
 refine FJ.dskip rfl rfl rfl (.s4 (.s (.s .z))) rfl rfl (by decide) rfl .z ?_
 refine FJ.dskip rfl rfl rfl (.s4 (.s (.s (.s .z)))) rfl rfl (by decide) rfl .z ?_
 refine FJ.dqg rfl rfl rfl (.s4 (.s4 (.s4 .z))) rfl (by decide) rfl .z (q_pickT rfl (.t (.s4 (.s4 .z))) .c) ?_
 refine FJ.dq rfl rfl rfl (by decide) rfl .z (q_pickT rfl (.t (.s4 (.s4 (.s4 (.s .z))))) (.t .z)) (FJ.er (.s16 (.s16 (.s16 (.s16 (.s16 (.s16 (.s (.s .z)))))))) ?_)
 refine FJ.q (goes_sch rfl rfl) rfl (by decide) rfl (q_assign rfl (.t .z)) ?_
 refine FJ.sl rfl ?_
 refine FJ.schN ?_
 refine FJ.drawN (by kernel_rfl) ?_
 refine FJ.then_ (FJ.ret ?_)
 refine FJ.doneS (res1 rfl .z) .n ?_
 exact ⟨rfl, rfl⟩
 refine FJ.sch [(26, true), (27, true), (30, true), (31, true), (32, true), (28, false), (29, true), (33, true), (34, true), (35, true), (36, false)] 0 #[true, true, true, true, true, true, true, true, true, true, true, true, true, true, true, true, true, true, true, true, true, true, true, true, true, true, true, true, true, true, true, true, true, true, true, true, true] (by rfl) (by kernel_rfl) ?_
 refine FJ.dqg rfl rfl rfl .z rfl (by decide) rfl .z (q_fieldAddr rfl (.t (.s16 (.s16 (.s4 .z)))) (fun _ => fa_30_2 _ _)) ?_
 refine FJ.dqg rfl rfl rfl (.s .z) rfl (by decide) rfl .z (q_load rfl ag_2 (.t .z) (WS.row (.s4 (.s .z)) rfl)) ?_
 refine FJ.dqg rfl rfl rfl (.s (.s .z)) rfl (by decide) rfl .z (q_fieldAddr rfl (.t (.s16 (.s16 (.s4 (.s (.s .z)))))) (fun _ => fa_30_3 _ _)) ?_
 refine FJ.dqg rfl rfl rfl (.s (.s (.s .z))) rfl (by decide) rfl .z (q_load rfl ag_22 (.t .z) (WS.row (.s4 (.s .z)) rfl)) ?_
 refine FJ.dqg rfl rfl rfl (.s4 .z) rfl (by decide) rfl .z (q_len rfl u_22 (.t .z)) ?_
 refine FJ.call (goes_schg rfl rfl rfl (.s4 (.s .z))) rfl (by decide) rfl (c_call rfl Try.func47 rfl rfl (args1 (.t (.s (.s (.s .z)))))) .n (fun w1 S1 hs tr => c_47 _) ?_
 rintro _ _ ⟨rfl, rfl⟩
 refine FJ.cat .n ?_
 refine FJ.sk .z ?_
 refine FJ.dqg rfl rfl rfl (.s4 (.s (.s .z))) rfl (by decide) rfl .z (q_field rfl (.t .z) (fun w => fv_48_1 w (.int .i64 ((forR nd48.size).code)) (.int .i64 ((forR nd48.size).val)))) ?_
 refine FJ.dqg rfl rfl rfl (.s4 (.s (.s (.s .z)))) rfl (by decide) rfl .z (q_eql rfl (.t .z) (.t (.s (.s .z)))) ?_
 refine FJ.dqg rfl rfl rfl (.s4 (.s4 (.s4 .z))) rfl (by decide) rfl .z (q_pickF rfl (.t (.s4 (.s4 .z))) (.t .z)) ?_
 refine FJ.dq rfl rfl rfl (by decide) rfl .z (q_pickT rfl (.t (.s4 (.s4 (.s4 (.s .z))))) (.t .z)) (FJ.er (.s16 (.s16 (.s16 (.s16 (.s16 (.s16 (.s (.s .z)))))))) ?_)
 refine FJ.q (goes_sch rfl rfl) rfl (by decide) rfl (q_assign rfl (.t .z)) ?_
 refine FJ.sl rfl ?_
 refine FJ.schN ?_
 refine FJ.drawN (by kernel_rfl) ?_
 refine FJ.then_ (FJ.ret ?_)
 refine FJ.doneS (res1 rfl .z) .n ?_
 first | exact ⟨rfl, rfl⟩ | (focus (exfalso; omega)) | (focus (exfalso; simp_all; done)) | (focus (refine ⟨congrArg Value.bool ?_, rfl⟩; simp_all; done)) | (focus (refine ⟨congrArg Value.bool ?_, rfl⟩; simp_all; omega))
 refine FJ.sch [(22, true), (23, true), (24, true), (25, true), (26, true), (27, true), (28, true), (29, true), (30, true), (31, true), (32, true), (33, true), (34, true), (35, true), (36, false)] 0 #[true, true, true, true, true, true, true, true, true, true, true, true, true, true, true, true, true, true, true, true, true, true, true, true, true, true, true, true, true, true, true, true, true, true, true, true, true] (by rfl) (by kernel_rfl) ?_
 refine FJ.dskip rfl rfl rfl .z rfl rfl (by decide) rfl .z ?_
 refine FJ.dskip rfl rfl rfl (.s .z) rfl rfl (by decide) rfl .z ?_
 refine FJ.dskip rfl rfl rfl (.s (.s .z)) rfl rfl (by decide) rfl .z ?_
 refine FJ.dskip rfl rfl rfl (.s (.s (.s .z))) rfl rfl (by decide) rfl .z ?_
 refine FJ.dskip rfl rfl rfl .z rfl rfl (by decide) rfl .z ?_
 refine FJ.dskip rfl rfl rfl (.s .z) rfl rfl (by decide) rfl .z ?_
 refine FJ.dskip rfl rfl rfl (.s (.s .z)) rfl rfl (by decide) rfl .z ?_
 refine FJ.dskip rfl rfl rfl (.s (.s (.s .z))) rfl rfl (by decide) rfl .z ?_
 refine FJ.dskip rfl rfl rfl (.s4 .z) rfl rfl (by decide) rfl .z ?_
 refine FJ.dskip rfl rfl rfl (.s4 (.s .z)) rfl rfl (by decide) rfl .z ?_
 refine FJ.dskip rfl rfl rfl (.s4 (.s (.s .z))) rfl rfl (by decide) rfl .z ?_
 refine FJ.dskip rfl rfl rfl (.s4 (.s (.s (.s .z)))) rfl rfl (by decide) rfl .z ?_
 refine FJ.dskip rfl rfl rfl (.s4 (.s4 (.s4 .z))) rfl rfl (by decide) rfl .z ?_
 refine FJ.dq rfl rfl rfl (by decide) rfl .z (q_pickF rfl (.t (.s4 (.s4 (.s4 (.s .z))))) .c) (FJ.er (.s16 (.s16 (.s16 (.s16 (.s16 (.s16 (.s (.s .z)))))))) ?_)
 refine FJ.q (goes_sch rfl rfl) rfl (by decide) rfl (q_assign rfl (.t .z)) ?_
 refine FJ.sl rfl ?_
 refine FJ.schN ?_
 refine FJ.drawN (by kernel_rfl) ?_
 refine FJ.then_ (FJ.ret ?_)
 refine FJ.doneS (res1 rfl .z) .n ?_
 first | exact ⟨rfl, rfl⟩ | (focus (exfalso; omega)) | (focus (exfalso; simp_all; done)) | (focus (refine ⟨congrArg Value.bool ?_, rfl⟩; simp_all; done)) | (focus (refine ⟨congrArg Value.bool ?_, rfl⟩; simp_all; omega))
 refine FJ.sch [(16, true), (17, true), (18, true), (19, true), (20, true), (21, true), (22, true), (23, true), (24, true), (25, true), (26, true), (27, true), (28, true), (29, true), (30, true), (31, true), (32, true), (33, true), (34, true), (35, true), (36, false)] 0 #[true, true, true, true, true, true, true, true, true, true, true, true, true, true, true, true, true, true, true, true, true, true, true, true, true, true, true, true, true, true, true, true, true, true, true, true, true] (by rfl) (by kernel_rfl) ?_
 refine FJ.dskip rfl rfl rfl .z rfl rfl (by decide) rfl .z ?_
 refine FJ.dskip rfl rfl rfl (.s .z) rfl rfl (by decide) rfl .z ?_
 refine FJ.dskip rfl rfl rfl (.s (.s .z)) rfl rfl (by decide) rfl .z ?_
 refine FJ.dskip rfl rfl rfl (.s (.s (.s .z))) rfl rfl (by decide) rfl .z ?_
 refine FJ.dq rfl rfl rfl (by decide) rfl .z (q_pickF rfl (.t (.s4 .z)) .c) (FJ.dq rfl rfl rfl (by decide) rfl .z (q_move rfl (.t .z)) ?_)
 refine FJ.dskip rfl rfl rfl .z rfl rfl (by decide) rfl .z ?_
 refine FJ.dskip rfl rfl rfl (.s .z) rfl rfl (by decide) rfl .z ?_
 refine FJ.dskip rfl rfl rfl (.s (.s .z)) rfl rfl (by decide) rfl .z ?_
 refine FJ.dskip rfl rfl rfl (.s (.s (.s .z))) rfl rfl (by decide) rfl .z ?_
 refine FJ.dskip rfl rfl rfl .z rfl rfl (by decide) rfl .z ?_
 refine FJ.dskip rfl rfl rfl (.s .z) rfl rfl (by decide) rfl .z ?_
 refine FJ.dskip rfl rfl rfl (.s (.s .z)) rfl rfl (by decide) rfl .z ?_
 refine FJ.dskip rfl rfl rfl (.s (.s (.s .z))) rfl rfl (by decide) rfl .z ?_
 refine FJ.dskip rfl rfl rfl (.s4 .z) rfl rfl (by decide) rfl .z ?_
 refine FJ.dskip rfl rfl rfl (.s4 (.s .z)) rfl rfl (by decide) rfl .z ?_
 refine FJ.dskip rfl rfl rfl (.s4 (.s (.s .z))) rfl rfl (by decide) rfl .z ?_
 refine FJ.dskip rfl rfl rfl (.s4 (.s (.s (.s .z)))) rfl rfl (by decide) rfl .z ?_
 refine FJ.dskip rfl rfl rfl (.s4 (.s4 (.s4 .z))) rfl rfl (by decide) rfl .z ?_
 refine FJ.dq rfl rfl rfl (by decide) rfl .z (q_pickF rfl (.t (.s4 (.s4 (.s4 (.s .z))))) .c) (FJ.er (.s16 (.s16 (.s16 (.s16 (.s16 (.s16 (.s (.s .z)))))))) ?_)
 refine FJ.q (goes_sch rfl rfl) rfl (by decide) rfl (q_assign rfl (.t .z)) ?_
 refine FJ.sl rfl ?_
 refine FJ.schN ?_
 refine FJ.drawN (by kernel_rfl) ?_
 refine FJ.then_ (FJ.ret ?_)
 refine FJ.doneS (res1 rfl .z) .n ?_
 first | exact ⟨rfl, rfl⟩ | (focus (exfalso; omega)) | (focus (exfalso; simp_all; done)) | (focus (refine ⟨congrArg Value.bool ?_, rfl⟩; simp_all; done)) | (focus (refine ⟨congrArg Value.bool ?_, rfl⟩; simp_all; omega))
 refine FJ.sch [(10, true), (11, true), (12, true), (13, true), (14, true), (15, true), (16, true), (17, true), (18, true), (19, true), (20, true), (21, true), (22, true), (23, true), (24, true), (25, true), (26, true), (27, true), (28, true), (29, true), (30, true), (31, true), (32, true), (33, true), (34, true), (35, true), (36, false)] 0 #[true, true, true, true, true, true, true, true, true, true, true, true, true, true, true, true, true, true, true, true, true, true, true, true, true, true, true, true, true, true, true, true, true, true, true, true, true] (by rfl) (by kernel_rfl) ?_
 refine FJ.dskip rfl rfl rfl .z rfl rfl (by decide) rfl .z ?_
 refine FJ.dskip rfl rfl rfl (.s .z) rfl rfl (by decide) rfl .z ?_
 refine FJ.dskip rfl rfl rfl (.s (.s .z)) rfl rfl (by decide) rfl .z ?_
 refine FJ.dskip rfl rfl rfl (.s (.s (.s .z))) rfl rfl (by decide) rfl .z ?_
 refine FJ.dq rfl rfl rfl (by decide) rfl .z (q_pickF rfl (.t (.s4 .z)) .c) (FJ.dq rfl rfl rfl (by decide) rfl .z (q_move rfl (.t .z)) ?_)
 refine FJ.dskip rfl rfl rfl .z rfl rfl (by decide) rfl .z ?_
 refine FJ.dskip rfl rfl rfl (.s .z) rfl rfl (by decide) rfl .z ?_
 refine FJ.dskip rfl rfl rfl (.s (.s .z)) rfl rfl (by decide) rfl .z ?_
 refine FJ.dskip rfl rfl rfl (.s (.s (.s .z))) rfl rfl (by decide) rfl .z ?_
 refine FJ.dq rfl rfl rfl (by decide) rfl .z (q_pickF rfl (.t (.s4 .z)) .c) (FJ.dq rfl rfl rfl (by decide) rfl .z (q_move rfl (.t .z)) ?_)
 refine FJ.dskip rfl rfl rfl .z rfl rfl (by decide) rfl .z ?_
 refine FJ.dskip rfl rfl rfl (.s .z) rfl rfl (by decide) rfl .z ?_
 refine FJ.dskip rfl rfl rfl (.s (.s .z)) rfl rfl (by decide) rfl .z ?_
 refine FJ.dskip rfl rfl rfl (.s (.s (.s .z))) rfl rfl (by decide) rfl .z ?_
 refine FJ.dskip rfl rfl rfl .z rfl rfl (by decide) rfl .z ?_
 refine FJ.dskip rfl rfl rfl (.s .z) rfl rfl (by decide) rfl .z ?_
 refine FJ.dskip rfl rfl rfl (.s (.s .z)) rfl rfl (by decide) rfl .z ?_
 refine FJ.dskip rfl rfl rfl (.s (.s (.s .z))) rfl rfl (by decide) rfl .z ?_
 refine FJ.dskip rfl rfl rfl (.s4 .z) rfl rfl (by decide) rfl .z ?_
 refine FJ.dskip rfl rfl rfl (.s4 (.s .z)) rfl rfl (by decide) rfl .z ?_
 refine FJ.dskip rfl rfl rfl (.s4 (.s (.s .z))) rfl rfl (by decide) rfl .z ?_
 refine FJ.dskip rfl rfl rfl (.s4 (.s (.s (.s .z)))) rfl rfl (by decide) rfl .z ?_
 refine FJ.dskip rfl rfl rfl (.s4 (.s4 (.s4 .z))) rfl rfl (by decide) rfl .z ?_
 refine FJ.dq rfl rfl rfl (by decide) rfl .z (q_pickF rfl (.t (.s4 (.s4 (.s4 (.s .z))))) .c) (FJ.er (.s16 (.s16 (.s16 (.s16 (.s16 (.s16 (.s (.s .z)))))))) ?_)
 refine FJ.q (goes_sch rfl rfl) rfl (by decide) rfl (q_assign rfl (.t .z)) ?_
 refine FJ.sl rfl ?_
 refine FJ.schN ?_
 refine FJ.drawN (by kernel_rfl) ?_
 refine FJ.then_ (FJ.ret ?_)
 refine FJ.doneS (res1 rfl .z) .n ?_
 first | exact ⟨rfl, rfl⟩ | (focus (exfalso; omega)) | (focus (exfalso; simp_all; done)) | (focus (refine ⟨congrArg Value.bool ?_, rfl⟩; simp_all; done)) | (focus (refine ⟨congrArg Value.bool ?_, rfl⟩; simp_all; omega))
 refine FJ.sch [(4, true), (5, true), (6, true), (7, true), (8, true), (9, true), (10, true), (11, true), (12, true), (13, true), (14, true), (15, true), (16, true), (17, true), (18, true), (19, true), (20, true), (21, true), (22, true), (23, true), (24, true), (25, true), (26, true), (27, true), (28, true), (29, true), (30, true), (31, true), (32, true), (33, true), (34, true), (35, true), (36, false)] 0 #[true, true, true, true, true, true, true, true, true, true, true, true, true, true, true, true, true, true, true, true, true, true, true, true, true, true, true, true, true, true, true, true, true, true, true, true, true] (by rfl) (by kernel_rfl) ?_
 refine FJ.dskip rfl rfl rfl .z rfl rfl (by decide) rfl .z ?_
 refine FJ.dskip rfl rfl rfl (.s .z) rfl rfl (by decide) rfl .z ?_
 refine FJ.dskip rfl rfl rfl (.s (.s .z)) rfl rfl (by decide) rfl .z ?_
 refine FJ.dskip rfl rfl rfl (.s (.s (.s .z))) rfl rfl (by decide) rfl .z ?_
 refine FJ.dq rfl rfl rfl (by decide) rfl .z (q_pickF rfl (.t (.s4 .z)) .c) (FJ.dq rfl rfl rfl (by decide) rfl .z (q_move rfl (.t .z)) ?_)
 refine FJ.dskip rfl rfl rfl .z rfl rfl (by decide) rfl .z ?_
 refine FJ.dskip rfl rfl rfl (.s .z) rfl rfl (by decide) rfl .z ?_
 refine FJ.dskip rfl rfl rfl (.s (.s .z)) rfl rfl (by decide) rfl .z ?_
 refine FJ.dskip rfl rfl rfl (.s (.s (.s .z))) rfl rfl (by decide) rfl .z ?_
 refine FJ.dq rfl rfl rfl (by decide) rfl .z (q_pickF rfl (.t (.s4 .z)) .c) (FJ.dq rfl rfl rfl (by decide) rfl .z (q_move rfl (.t .z)) ?_)
 refine FJ.dskip rfl rfl rfl .z rfl rfl (by decide) rfl .z ?_
 refine FJ.dskip rfl rfl rfl (.s .z) rfl rfl (by decide) rfl .z ?_
 refine FJ.dskip rfl rfl rfl (.s (.s .z)) rfl rfl (by decide) rfl .z ?_
 refine FJ.dskip rfl rfl rfl (.s (.s (.s .z))) rfl rfl (by decide) rfl .z ?_
 refine FJ.dq rfl rfl rfl (by decide) rfl .z (q_pickF rfl (.t (.s4 .z)) .c) (FJ.dq rfl rfl rfl (by decide) rfl .z (q_move rfl (.t .z)) ?_)
 refine FJ.dskip rfl rfl rfl .z rfl rfl (by decide) rfl .z ?_
 refine FJ.dskip rfl rfl rfl (.s .z) rfl rfl (by decide) rfl .z ?_
 refine FJ.dskip rfl rfl rfl (.s (.s .z)) rfl rfl (by decide) rfl .z ?_
 refine FJ.dskip rfl rfl rfl (.s (.s (.s .z))) rfl rfl (by decide) rfl .z ?_
 refine FJ.dskip rfl rfl rfl .z rfl rfl (by decide) rfl .z ?_
 refine FJ.dskip rfl rfl rfl (.s .z) rfl rfl (by decide) rfl .z ?_
 refine FJ.dskip rfl rfl rfl (.s (.s .z)) rfl rfl (by decide) rfl .z ?_
 refine FJ.dskip rfl rfl rfl (.s (.s (.s .z))) rfl rfl (by decide) rfl .z ?_
 refine FJ.dskip rfl rfl rfl (.s4 .z) rfl rfl (by decide) rfl .z ?_
 refine FJ.dskip rfl rfl rfl (.s4 (.s .z)) rfl rfl (by decide) rfl .z ?_
 refine FJ.dskip rfl rfl rfl (.s4 (.s (.s .z))) rfl rfl (by decide) rfl .z ?_
 refine FJ.dskip rfl rfl rfl (.s4 (.s (.s (.s .z)))) rfl rfl (by decide) rfl .z ?_
 refine FJ.dskip rfl rfl rfl (.s4 (.s4 (.s4 .z))) rfl rfl (by decide) rfl .z ?_
 refine FJ.dq rfl rfl rfl (by decide) rfl .z (q_pickF rfl (.t (.s4 (.s4 (.s4 (.s .z))))) .c) (FJ.er (.s16 (.s16 (.s16 (.s16 (.s16 (.s16 (.s (.s .z)))))))) ?_)
 refine FJ.q (goes_sch rfl rfl) rfl (by decide) rfl (q_assign rfl (.t .z)) ?_
 refine FJ.sl rfl ?_
 refine FJ.schN ?_
 refine FJ.drawN (by kernel_rfl) ?_
 refine FJ.then_ (FJ.ret ?_)
 refine FJ.doneS (res1 rfl .z) .n ?_
 first | exact ⟨rfl, rfl⟩ | (focus (exfalso; omega)) | (focus (exfalso; simp_all; done)) | (focus (refine ⟨congrArg Value.bool ?_, rfl⟩; simp_all; done)) | (focus (refine ⟨congrArg Value.bool ?_, rfl⟩; simp_all; omega))
 refine FJ.sch [(9, true), (10, true), (11, true), (12, true), (13, true), (14, true), (15, true), (16, true), (17, true), (18, true), (19, true), (20, true), (21, true)] 19 #[true, true, true, true, true, true, true, true, true, true, true, true, true, true, true, true, true, true, true, true, true, true, false, false, false, false, false, false, false, false, false, false, false, false, false, false, false, false, false, false, false] (by rfl) (by kernel_rfl) ?_
 refine FJ.dskip rfl rfl rfl .z rfl rfl (by decide) rfl .z ?_
 refine FJ.dskip rfl rfl rfl (.s .z) rfl rfl (by decide) rfl .z ?_
 refine FJ.dskip rfl rfl rfl (.s (.s .z)) rfl rfl (by decide) rfl .z ?_
 refine FJ.dskip rfl rfl rfl (.s (.s (.s .z))) rfl rfl (by decide) rfl .z ?_
 refine FJ.dskip rfl rfl rfl (.s4 .z) rfl rfl (by decide) rfl .z ?_
 refine FJ.dskip rfl rfl rfl (.s4 (.s .z)) rfl rfl (by decide) rfl .z ?_
 refine FJ.dskip rfl rfl rfl (.s4 (.s (.s .z))) rfl rfl (by decide) rfl .z ?_
 refine FJ.dq rfl rfl rfl (by decide) rfl .z (q_pickF rfl (.t (.s4 (.s (.s (.s .z))))) .c) (FJ.dq rfl rfl rfl (by decide) rfl .z (q_move rfl (.t .z)) ?_)
 refine FJ.dqg rfl rfl rfl .z rfl (by decide) rfl .z (q_fieldAddr rfl (.t (.s16 (.s (.s .z)))) (fun _ => fa_66_0 _ _)) ?_
 refine FJ.dqg rfl rfl rfl (.s .z) rfl (by decide) rfl .z (q_load rfl ag_2 (.t .z) (WS.row .z rfl)) ?_
 refine FJ.dqg rfl rfl rfl (.s (.s .z)) rfl (by decide) rfl .z (q_neq rfl (.t .z) .c) ?_
 refine FJ.dqg rfl rfl rfl (.s (.s (.s .z))) rfl (by decide) rfl .z (q_move rfl (.t .z)) ?_
 refine FJ.schN ?_
 refine FJ.caseN .z (fun g74 => ?_) (fun g74 => ?_)
 exfalso; first | omega | contradiction
 refine FJ.sch [(22, true), (23, true), (24, true), (25, true), (26, true), (27, true), (28, true), (29, true), (30, true), (31, true), (32, true), (33, true), (34, true)] 6 #[true, true, true, true, true, true, true, true, true, true, true, true, true, true, true, true, true, true, true, true, true, true, true, true, true, true, true, true, true, true, true, true, true, true, true, false, false, false, false, false, false] (by rfl) (by kernel_rfl) ?_
 refine FJ.dskip rfl rfl rfl .z rfl rfl (by decide) rfl .z ?_
 refine FJ.dskip rfl rfl rfl (.s .z) rfl rfl (by decide) rfl .z ?_
 refine FJ.dskip rfl rfl rfl (.s (.s .z)) rfl rfl (by decide) rfl .z ?_
 refine FJ.dskip rfl rfl rfl (.s (.s (.s .z))) rfl rfl (by decide) rfl .z ?_
 refine FJ.dskip rfl rfl rfl (.s4 .z) rfl rfl (by decide) rfl .z ?_
 refine FJ.dskip rfl rfl rfl (.s4 (.s .z)) rfl rfl (by decide) rfl .z ?_
 refine FJ.dqg rfl rfl rfl (.s4 (.s4 (.s (.s .z)))) rfl (by decide) rfl .z (q_pickF rfl (.t (.s4 (.s (.s .z)))) .c) ?_
 refine FJ.dq rfl rfl rfl (by decide) rfl .z (q_pickF rfl (.t (.s4 (.s4 (.s (.s (.s .z)))))) (.t .z)) (FJ.dq rfl rfl rfl (by decide) rfl .z (q_move rfl (.t .z)) ?_)
 refine FJ.dqg rfl rfl rfl .z rfl (by decide) rfl .z (q_move rfl (.t (.s16 (.s16 (.s (.s .z)))))) ?_
 refine FJ.dqg rfl rfl rfl (.s .z) rfl (by decide) rfl .z (q_len rfl u_22 (.t .z)) ?_
 refine FJ.dqg rfl rfl rfl (.s (.s .z)) rfl (by decide) rfl .z (q_eql rfl (.t .z) .c) ?_
 refine FJ.dqg rfl rfl rfl (.s (.s (.s .z))) rfl (by decide) rfl .z (q_move rfl (.t .z)) ?_
 refine FJ.schN ?_
 refine FJ.caseP .z (fun g75 => ?_) (fun g75 => ?_)
 refine FJ.sch [(35, true), (36, false), (37, false), (38, false), (39, false), (40, false)] 0 #[true, true, true, true, true, true, true, true, true, true, true, true, true, true, true, true, true, true, true, true, true, true, true, true, true, true, true, true, true, true, true, true, true, true, true, true, true, true, true, true, true] (by rfl) (by kernel_rfl) ?_
 refine FJ.dqg rfl rfl rfl .z rfl (by decide) rfl .z (q_fieldAddr rfl (.t (.s16 (.s16 (.s (.s (.s .z)))))) (fun _ => fa_66_1 _ _)) ?_
 refine FJ.q (goes_schg rfl rfl rfl (.s .z)) rfl (by decide) rfl (q_fieldAddrA (k := 1) rfl (.t .z) (fun _ => fa_30_0 _ _) rfl) ?_
 refine FJ.sk .z ?_
 refine FJ.q (goes_schg rfl rfl rfl (.s (.s .z))) rfl (by decide) rfl (q_load rfl ag_2 (.t .z) (WS.row .z rfl)) ?_
 refine FJ.sk .z ?_
 refine FJ.q (goes_schg rfl rfl rfl (.s (.s (.s .z)))) rfl (by decide) rfl (q_neq rfl (.t .z) .c) ?_
 refine FJ.sk .z ?_
 refine FJ.q (goes_schg rfl rfl rfl (.s4 (.s4 .z))) rfl (by decide) rfl (q_pickT rfl (.t (.s4 .z)) (.t .z)) ?_
 refine FJ.sk .z ?_
 refine FJ.q (goes_sch rfl rfl) rfl (by decide) rfl (q_pickF rfl (.t (.s4 (.s4 (.s .z)))) (.t .z)) ?_
 refine FJ.sk .z ?_
 refine FJ.schN ?_
 refine FJ.drawN (by kernel_rfl) ?_
 refine FJ.then_ ?_
 refine FJ.condN (.t .z) (fun b76 => ?_) (fun b76 => ?_)
 refine FJ.seq (FJ.region (FJ.er (.s16 (.s16 (.s16 (.s .z)))) (FJ.ql rfl (q_assign rfl .c) (FJ.nil ?_))))
 refine FJ.then_ (FJ.ret (FJ.thenR ?_))
 refine FJ.doneS (res1 rfl .z) .n ?_
 first | exact ⟨rfl, rfl⟩ | (focus (exfalso; omega)) | (focus (exfalso; simp_all; done)) | (focus (refine ⟨congrArg Value.bool ?_, rfl⟩; simp_all; done)) | (focus (refine ⟨congrArg Value.bool ?_, rfl⟩; simp_all; omega))
 refine FJ.skip (FJ.then_ (FJ.seq (FJ.region (FJ.ql rfl (q_move rfl (.t (.s16 (.s16 (.s16 (.s (.s .z))))))) ?_))))
 refine FJ.call (goes_list rfl) rfl (by decide) rfl (c_call rfl Try.func46 rfl rfl (args1 (.t .z))) .n (fun w1 S1 hs tr => c_46 (tr.ctx h0)) ?_
 rintro _ _ ⟨nd77, v78, v80, hznd77, rfl, rfl⟩
 refine FJ.cat (.c (.c .n)) ?_
 obtain ⟨IC, ID⟩ := @ino_law2 nd77
 refine FJ.know (WS.oform .z) ?_
 rintro ⟨Ao82, co82, rfl, hlo82, hmo82, hbo82⟩
 refine FJ.know (WS.oform (.s .z)) ?_
 rintro ⟨Ao83, co83, rfl, hlo83, hmo83, hbo83⟩
 refine FJ.e (goes_list rfl) rfl (by decide) rfl (e_alloc rfl z_30 rfl rfl) ?_
 rintro _ _ ⟨g84, rfl, rfl⟩
 refine FJ.es (goes_list rfl) rfl (es_store (off := 0) (cs := [.int .i64 nd77.kind, .int .i64 nd77.links, .int .i64 nd77.size, .slice Ao82 nd77.blocks.length co82, .slice Ao83 nd77.ents.length co83]) rfl sz_30 (.t .z) (.t (.s .z)) rfl (ones rfl) .z (Nat.le_of_ble_eq_true rfl) (.c .z (.c (.s .z) (.c (.s (.s .z)) (.c (.s (.s (.s .z))) (.c (.s (.s (.s (.s .z)))) .n)))))) ?_
 refine FJ.nil (FJ.then_ (FJ.seq (FJ.region ?_)))
 refine FJ.ql rfl (q_loadA (cs := [.int .i64 nd77.kind, .int .i64 nd77.links, .int .i64 nd77.size, .slice Ao82 nd77.blocks.length co82, .slice Ao83 nd77.ents.length co83]) rfl ag_30 sz_30 (.t .z) (WS.rows0 .z (fun i u h => by exact h))) ?_
 refine FJ.call (goes_list rfl) rfl (by decide) rfl (c_call rfl Try.func36 rfl rfl (args1 (.t .z))) .n (fun w1 S1 hs tr => c_36 (kT_30_mk nd77 (tr.own (.s .z)) (tr.own (.s (.s .z))))) ?_
 rintro _ _ ⟨v85, rfl, rfl⟩
 refine FJ.cat (.c .n) ?_
 refine FJ.know (WS.oform .z) ?_
 rintro ⟨Ao87, co87, rfl, hlo87, hmo87, hbo87⟩
 refine FJ.e (goes_list rfl) rfl (by decide) rfl (e_alloc rfl z_57 rfl rfl) ?_
 rintro _ _ ⟨g88, rfl, rfl⟩
 refine FJ.es (goes_list rfl) rfl (es_store (off := 0) (cs := [.int .i64 ((packR nd77).code), .slice Ao87 ((packR nd77).list).length co87]) rfl sz_57 (.t .z) (.t (.s .z)) rfl (ones rfl) .z (Nat.le_of_ble_eq_true rfl) (.c .z (.c (.s .z) .n))) ?_
 refine FJ.nil (FJ.then_ (FJ.seq (FJ.seq (FJ.region ?_))))
 refine FJ.ql rfl (q_fieldAddr rfl (.t .z) (fun _ => fa_57_0 _ _)) (FJ.ql rfl (q_load rfl ag_2 (.t .z) (WS.row .z rfl)) (FJ.ql rfl (q_neq rfl (.t .z) .c) (FJ.nil (FJ.then_ ?_))))
 refine FJ.condN (.t .z) (fun b89 => ?_) (fun b89 => ?_)
 refine FJ.seq ?_
 refine FJ.draw [rowA g88 57 2 1 [.int .i64 ((packR nd77).code), .slice Ao87 ((packR nd77).list).length co87], ownA kSl_2 ((packR nd77).list) [.slice Ao87 ((packR nd77).list).length co87], rowA g84 30 5 1 [.int .i64 nd77.kind, .int .i64 nd77.links, .int .i64 nd77.size, .slice Ao82 nd77.blocks.length co82, .slice Ao83 nd77.ents.length co83], ownA kSl_2 nd77.blocks [.slice Ao82 nd77.blocks.length co82], ownA kSl_130 nd77.ents [.slice Ao83 nd77.ents.length co83], rowA g12 66 6 1 [.int .i64 ((unpR ws3).code), .int .i64 ((unpR ws3).inode.kind), .int .i64 ((unpR ws3).inode.links), .int .i64 ((unpR ws3).inode.size), .slice Ao10 ((unpR ws3).inode.blocks).length co10, .slice Ao11 ((unpR ws3).inode.ents).length co11], ownA kSl_2 ((unpR ws3).inode.blocks) [.slice Ao10 ((unpR ws3).inode.blocks).length co10], ownA kSl_130 ((unpR ws3).inode.ents) [.slice Ao11 ((unpR ws3).inode.ents).length co11], ownA kSl_2 ws3 [.slice Ao5 ws3.length co5]] 12 (by kernel_rfl) ?_
 refine FJ.sch [(0, true), (2, true), (3, true), (1, false), (4, true), (5, true)] 7 #[true, true, true, true, true, true, false, false, false, false, false, false, false] (by rfl) (by kernel_rfl) ?_
 refine FJ.dq rfl rfl rfl (by decide) rfl .z (q_loadA (cs := [.int .i64 nd77.kind, .int .i64 nd77.links, .int .i64 nd77.size, .slice Ao82 nd77.blocks.length co82, .slice Ao83 nd77.ents.length co83]) rfl ag_30 sz_30 (.t (.s4 (.s (.s .z)))) (WS.rows0 (.s (.s .z)) (fun i u h => by exact h))) ?_
 refine FJ.dq rfl rfl rfl (by decide) rfl .z (q_fieldAddr rfl (.t (.s4 .z)) (fun _ => fa_57_0 _ _)) (FJ.dq rfl rfl rfl (by decide) rfl .z (q_load rfl ag_2 (.t .z) (WS.row .z rfl)) ?_)
 refine FJ.call (goes_sch rfl rfl) rfl (by decide) rfl (c_call rfl Try.func20 rfl rfl (args1 (.t (.s (.s .z))))) .n (fun w1 S1 hs tr => c_20 (kT_30_mk nd77 (tr.own (.s (.s (.s .z)))) (tr.own (.s4 .z)))) ?_
 rintro _ _ ⟨rfl, rfl⟩
 refine FJ.cat .n ?_
 refine FJ.sk .z ?_
 refine FJ.dq rfl rfl rfl (by decide) rfl .z (q_eql rfl (.t .z) (.t (.s .z))) (FJ.dq rfl rfl rfl (by decide) rfl .z (q_move rfl (.t .z)) (FJ.schN ?_))
 refine FJ.caseP .z (fun g90 => ?_) (fun g90 => ?_)
 refine FJ.sch [(6, true), (8, true), (9, true), (7, false), (10, true), (11, true), (12, false)] 0 #[true, true, true, true, true, true, true, true, true, true, true, true, true] (by rfl) (by kernel_rfl) ?_
 refine FJ.dqg rfl rfl rfl .z rfl (by decide) rfl .z (q_loadA (cs := [.int .i64 nd77.kind, .int .i64 nd77.links, .int .i64 nd77.size, .slice Ao82 nd77.blocks.length co82, .slice Ao83 nd77.ents.length co83]) rfl ag_30 sz_30 (.t (.s4 (.s4 (.s4 .z)))) (WS.rows0 (.s (.s .z)) (fun i u h => by exact h))) ?_
 refine FJ.dqg rfl rfl rfl (.s .z) rfl (by decide) rfl .z (q_fieldAddr rfl (.t (.s4 (.s4 (.s (.s .z))))) (fun _ => fa_57_0 _ _)) ?_
 refine FJ.dqg rfl rfl rfl (.s (.s .z)) rfl (by decide) rfl .z (q_load rfl ag_2 (.t .z) (WS.row .z rfl)) ?_
 refine FJ.call (goes_schg rfl rfl rfl (.s (.s (.s .z)))) rfl (by decide) rfl (c_call rfl Try.func21 rfl rfl (args1 (.t (.s (.s .z))))) .n (fun w1 S1 hs tr => c_21 (kT_30_mk nd77 (tr.own (.s (.s (.s .z)))) (tr.own (.s4 .z)))) ?_
 rintro _ _ ⟨rfl, rfl⟩
 refine FJ.cat .n ?_
 refine FJ.sk .z ?_
 refine FJ.dqg rfl rfl rfl (.s4 .z) rfl (by decide) rfl .z (q_eql rfl (.t .z) (.t (.s .z))) ?_
 refine FJ.dq rfl rfl rfl (by decide) rfl .z (q_pickT rfl (.t (.s4 (.s .z))) (.t .z)) (FJ.er (.s16 (.s16 (.s16 (.s16 (.s4 (.s (.s .z))))))) ?_)
 refine FJ.q (goes_sch rfl rfl) rfl (by decide) rfl (q_assign rfl (.t .z)) ?_
 refine FJ.sl rfl ?_
 refine FJ.schN ?_
 refine FJ.drawN (by kernel_rfl) ?_
 refine FJ.then_ (FJ.ret (FJ.thenR ?_))
 refine FJ.doneS (res1 rfl .z) .n ?_
 first | exact ⟨rfl, rfl⟩ | (focus (exfalso; omega)) | (focus (exfalso; simp_all; done)) | (focus (refine ⟨congrArg Value.bool ?_, rfl⟩; simp_all; done)) | (focus (refine ⟨congrArg Value.bool ?_, rfl⟩; simp_all; omega))
 refine FJ.sch [(6, true), (7, true), (8, true), (9, true), (10, true), (11, true), (12, false)] 0 #[true, true, true, true, true, true, true, true, true, true, true, true, true] (by rfl) (by kernel_rfl) ?_
 refine FJ.dskip rfl rfl rfl .z rfl rfl (by decide) rfl .z ?_
 refine FJ.dskip rfl rfl rfl (.s .z) rfl rfl (by decide) rfl .z ?_
 refine FJ.dskip rfl rfl rfl (.s (.s .z)) rfl rfl (by decide) rfl .z ?_
 refine FJ.dskip rfl rfl rfl (.s (.s (.s .z))) rfl rfl (by decide) rfl .z ?_
 refine FJ.dskip rfl rfl rfl (.s4 .z) rfl rfl (by decide) rfl .z ?_
 refine FJ.dq rfl rfl rfl (by decide) rfl .z (q_pickF rfl (.t (.s4 (.s .z))) .c) (FJ.er (.s16 (.s16 (.s16 (.s16 (.s4 (.s (.s .z))))))) ?_)
 refine FJ.q (goes_sch rfl rfl) rfl (by decide) rfl (q_assign rfl (.t .z)) ?_
 refine FJ.sl rfl ?_
 refine FJ.schN ?_
 refine FJ.drawN (by kernel_rfl) ?_
 refine FJ.then_ (FJ.ret (FJ.thenR ?_))
 refine FJ.doneS (res1 rfl .z) .n ?_
 first | exact ⟨rfl, rfl⟩ | (focus (exfalso; omega)) | (focus (exfalso; simp_all; done)) | (focus (refine ⟨congrArg Value.bool ?_, rfl⟩; simp_all; done)) | (focus (refine ⟨congrArg Value.bool ?_, rfl⟩; simp_all; omega))
 refine FJ.skip (FJ.then_ (FJ.seq (FJ.region (FJ.ql rfl (q_fieldAddr rfl (.t (.s (.s (.s .z)))) (fun _ => fa_57_1 _ _)) ?_))))
 refine FJ.ql rfl (q_load rfl ag_22 (.t .z) (WS.row .z rfl)) ?_
 refine FJ.call (goes_list rfl) rfl (by decide) rfl (c_call rfl Try.func43 rfl rfl (args1 (.t .z))) .n (fun w1 S1 hs tr => c_43 (tr.own (.s .z))) ?_
 rintro _ _ ⟨v91, v93, rfl, rfl⟩
 refine FJ.cat (.c (.c .n)) ?_
 refine FJ.know (WS.oform .z) ?_
 rintro ⟨Ao95, co95, rfl, hlo95, hmo95, hbo95⟩
 refine FJ.know (WS.oform (.s .z)) ?_
 rintro ⟨Ao96, co96, rfl, hlo96, hmo96, hbo96⟩
 refine FJ.e (goes_list rfl) rfl (by decide) rfl (e_alloc rfl z_66 rfl rfl) ?_
 rintro _ _ ⟨g97, rfl, rfl⟩
 refine FJ.es (goes_list rfl) rfl (es_store (off := 0) (cs := [.int .i64 ((unpR ((packR nd77).list)).code), .int .i64 ((unpR ((packR nd77).list)).inode.kind), .int .i64 ((unpR ((packR nd77).list)).inode.links), .int .i64 ((unpR ((packR nd77).list)).inode.size), .slice Ao95 ((unpR ((packR nd77).list)).inode.blocks).length co95, .slice Ao96 ((unpR ((packR nd77).list)).inode.ents).length co96]) rfl sz_66 (.t .z) (.t (.s .z)) rfl (ones rfl) .z (Nat.le_of_ble_eq_true rfl) (.c .z (.c (.s .z) (.c (.s (.s .z)) (.c (.s (.s (.s .z))) (.c (.s (.s (.s (.s .z)))) (.c (.s (.s (.s (.s (.s .z))))) .n))))))) ?_
 refine FJ.nil (FJ.then_ (FJ.seq ?_))
 refine FJ.draw [rowA g97 66 6 1 [.int .i64 ((unpR ((packR nd77).list)).code), .int .i64 ((unpR ((packR nd77).list)).inode.kind), .int .i64 ((unpR ((packR nd77).list)).inode.links), .int .i64 ((unpR ((packR nd77).list)).inode.size), .slice Ao95 ((unpR ((packR nd77).list)).inode.blocks).length co95, .slice Ao96 ((unpR ((packR nd77).list)).inode.ents).length co96], ownA kSl_2 ((unpR ((packR nd77).list)).inode.blocks) [.slice Ao95 ((unpR ((packR nd77).list)).inode.blocks).length co95], ownA kSl_130 ((unpR ((packR nd77).list)).inode.ents) [.slice Ao96 ((unpR ((packR nd77).list)).inode.ents).length co96], rowA g88 57 2 1 [.int .i64 ((packR nd77).code), .slice Ao87 ((packR nd77).list).length co87], ownA kSl_2 ((packR nd77).list) [.slice Ao87 ((packR nd77).list).length co87], rowA g84 30 5 1 [.int .i64 nd77.kind, .int .i64 nd77.links, .int .i64 nd77.size, .slice Ao82 nd77.blocks.length co82, .slice Ao83 nd77.ents.length co83], ownA kSl_2 nd77.blocks [.slice Ao82 nd77.blocks.length co82], ownA kSl_130 nd77.ents [.slice Ao83 nd77.ents.length co83], rowA g12 66 6 1 [.int .i64 ((unpR ws3).code), .int .i64 ((unpR ws3).inode.kind), .int .i64 ((unpR ws3).inode.links), .int .i64 ((unpR ws3).inode.size), .slice Ao10 ((unpR ws3).inode.blocks).length co10, .slice Ao11 ((unpR ws3).inode.ents).length co11], ownA kSl_2 ((unpR ws3).inode.blocks) [.slice Ao10 ((unpR ws3).inode.blocks).length co10], ownA kSl_130 ((unpR ws3).inode.ents) [.slice Ao11 ((unpR ws3).inode.ents).length co11], ownA kSl_2 ws3 [.slice Ao5 ws3.length co5]] 36 (by kernel_rfl) ?_
 refine FJ.sch [(0, true), (1, true), (2, true), (3, true)] 33 #[true, true, true, true, false, false, false, false, false, false, false, false, false, false, false, false, false, false, false, false, false, false, false, false, false, false, false, false, false, false, false, false, false, false, false, false, false] (by rfl) (by kernel_rfl) ?_
 refine FJ.dq rfl rfl rfl (by decide) rfl .z (q_fieldAddr rfl (.t .z) (fun _ => fa_66_0 _ _)) (FJ.dq rfl rfl rfl (by decide) rfl .z (q_load rfl ag_2 (.t .z) (WS.row .z rfl)) (FJ.dq rfl rfl rfl (by decide) rfl .z (q_eql rfl (.t .z) .c) (FJ.dq rfl rfl rfl (by decide) rfl .z (q_move rfl (.t .z)) (FJ.schN ?_))))
 refine FJ.caseP .z (fun g98 => ?_) (fun g98 => ?_)
 refine FJ.sch [(4, true), (5, true), (6, true), (7, false), (8, true), (9, true)] 27 #[true, true, true, true, true, true, true, true, true, true, false, false, false, false, false, false, false, false, false, false, false, false, false, false, false, false, false, false, false, false, false, false, false, false, false, false, false] (by rfl) (by kernel_rfl) ?_
 refine FJ.dqg rfl rfl rfl .z rfl (by decide) rfl .z (q_fieldAddr rfl (.t (.s4 .z)) (fun _ => fa_66_1 _ _)) ?_
 refine FJ.dqg rfl rfl rfl (.s .z) rfl (by decide) rfl .z (q_loadA (cs := [.int .i64 ((unpR ((packR nd77).list)).inode.kind), .int .i64 ((unpR ((packR nd77).list)).inode.links), .int .i64 ((unpR ((packR nd77).list)).inode.size), .slice Ao95 ((unpR ((packR nd77).list)).inode.blocks).length co95, .slice Ao96 ((unpR ((packR nd77).list)).inode.ents).length co96]) rfl ag_30 sz_30 (.t .z) (WS.rows .z (sub_at rfl))) ?_
 refine FJ.dqg rfl rfl rfl (.s (.s .z)) rfl (by decide) rfl .z (q_loadA (cs := [.int .i64 nd77.kind, .int .i64 nd77.links, .int .i64 nd77.size, .slice Ao82 nd77.blocks.length co82, .slice Ao83 nd77.ents.length co83]) rfl ag_30 sz_30 (.t (.s16 .z)) (WS.rows0 (.s4 (.s .z)) (fun i u h => by exact h))) ?_
 refine FJ.call (goes_schg rfl rfl rfl (.s (.s (.s .z)))) rfl (by decide) rfl (c_call rfl Try.func18 rfl rfl (args2 (.t (.s .z)) (.t .z))) .n (fun w1 S1 hs tr => c_18 (kT_30_mk ((unpR ((packR nd77).list)).inode) (tr.own (.s .z)) (tr.own (.s (.s .z)))) (kT_30_mk nd77 (tr.own (.s4 (.s (.s .z)))) (tr.own (.s4 (.s (.s (.s .z))))))) ?_
 rintro _ _ ⟨rfl, rfl⟩
 refine FJ.cat .n ?_
 refine FJ.sk .z ?_
 refine FJ.dq rfl rfl rfl (by decide) rfl .z (q_pickT rfl (.t (.s4 .z)) (.t .z)) (FJ.dq rfl rfl rfl (by decide) rfl .z (q_move rfl (.t .z)) (FJ.schN ?_))
 refine FJ.caseP .z (fun g99 => ?_) (fun g99 => ?_)
 refine FJ.sch [(10, true), (11, true), (12, true), (13, true), (14, true), (15, true)] 21 #[true, true, true, true, true, true, true, true, true, true, true, true, true, true, true, true, false, false, false, false, false, false, false, false, false, false, false, false, false, false, false, false, false, false, false, false, false] (by rfl) (by kernel_rfl) ?_
 refine FJ.dqg rfl rfl rfl .z rfl (by decide) rfl .z (q_fieldAddr rfl (.t (.s16 (.s .z))) (fun _ => fa_57_1 _ _)) ?_
 refine FJ.dqg rfl rfl rfl (.s .z) rfl (by decide) rfl .z (q_load rfl ag_22 (.t .z) (WS.row (.s (.s (.s .z))) rfl)) ?_
 refine FJ.dqg rfl rfl rfl (.s (.s .z)) rfl (by decide) rfl .z (q_len rfl u_22 (.t .z)) ?_
 refine FJ.dqg rfl rfl rfl (.s (.s (.s .z))) rfl (by decide) rfl .z (q_geq rfl (.t .z) .c) ?_
 refine FJ.dq rfl rfl rfl (by decide) rfl .z (q_pickT rfl (.t (.s4 .z)) (.t .z)) (FJ.dq rfl rfl rfl (by decide) rfl .z (q_move rfl (.t .z)) (FJ.schN ?_))
 refine FJ.caseP .z (fun g100 => ?_) (fun g100 => ?_)
 refine FJ.sch [(16, true), (17, true), (18, true), (19, true), (20, true), (21, true)] 15 #[true, true, true, true, true, true, true, true, true, true, true, true, true, true, true, true, true, true, true, true, true, true, false, false, false, false, false, false, false, false, false, false, false, false, false, false, false] (by rfl) (by kernel_rfl) ?_
 refine FJ.dqg rfl rfl rfl .z rfl (by decide) rfl .z (q_fieldAddr rfl (.t (.s16 (.s4 (.s (.s (.s .z)))))) (fun _ => fa_57_1 _ _)) ?_
 refine FJ.dqg rfl rfl rfl (.s .z) rfl (by decide) rfl .z (q_load rfl ag_22 (.t .z) (WS.row (.s (.s (.s .z))) rfl)) ?_
 refine FJ.dqg rfl rfl rfl (.s (.s .z)) rfl (by decide) rfl .z (q_len rfl u_22 (.t .z)) ?_
 refine FJ.dqg rfl rfl rfl (.s (.s (.s .z))) rfl (by decide) rfl .z (q_leq rfl (.t .z) .c) ?_
 refine FJ.dq rfl rfl rfl (by decide) rfl .z (q_pickT rfl (.t (.s4 .z)) (.t .z)) (FJ.dq rfl rfl rfl (by decide) rfl .z (q_move rfl (.t .z)) (FJ.schN ?_))
 refine FJ.caseP .z (fun g101 => ?_) (fun g101 => ?_)
 refine FJ.sch [(22, true), (23, true), (24, true), (25, true)] 11 #[true, true, true, true, true, true, true, true, true, true, true, true, true, true, true, true, true, true, true, true, true, true, true, true, true, true, false, false, false, false, false, false, false, false, false, false, false] (by rfl) (by kernel_rfl) ?_
 refine FJ.dqg rfl rfl rfl .z rfl (by decide) rfl .z (q_fieldAddr rfl (.t (.s16 (.s16 .z))) (fun _ => fa_30_0 _ _)) ?_
 refine FJ.dqg rfl rfl rfl (.s .z) rfl (by decide) rfl .z (q_load rfl ag_2 (.t .z) (WS.row (.s4 (.s .z)) rfl)) ?_
 refine FJ.dqg rfl rfl rfl (.s (.s .z)) rfl (by decide) rfl .z (q_neq rfl (.t .z) .c) ?_
 refine FJ.dqg rfl rfl rfl (.s (.s (.s .z))) rfl (by decide) rfl .z (q_move rfl (.t .z)) ?_
 refine FJ.schN ?_
 refine FJ.caseN .z (fun g102 => ?_) (fun g102 => ?_)
 refine FJ.sch [(26, true), (27, true), (28, true), (29, true), (30, true), (31, true), (32, true), (33, true), (34, true), (35, true), (36, false)] 0 #[true, true, true, true, true, true, true, true, true, true, true, true, true, true, true, true, true, true, true, true, true, true, true, true, true, true, true, true, true, true, true, true, true, true, true, true, true] (by rfl) (by kernel_rfl) ?_
 refine FJ.dskip rfl rfl rfl .z rfl rfl (by decide) rfl .z ?_
 refine FJ.dskip rfl rfl rfl (.s .z) rfl rfl (by decide) rfl .z ?_
 refine FJ.dskip rfl rfl rfl (.s (.s .z)) rfl rfl (by decide) rfl .z ?_
 refine FJ.dskip rfl rfl rfl (.s (.s (.s .z))) rfl rfl (by decide) rfl .z ?_
 refine FJ.dskip rfl rfl rfl (.s4 .z) rfl rfl (by decide) rfl .z ?_
 refine FJ.dskip rfl rfl rfl (.s4 (.s .z)) rfl rfl (by decide) rfl .z ?_
 refine FJ.dskip rfl rfl rfl (.s4 (.s (.s .z))) rfl rfl (by decide) rfl .z ?_
 refine FJ.dskip rfl rfl rfl (.s4 (.s (.s (.s .z)))) rfl rfl (by decide) rfl .z ?_
 refine FJ.dqg rfl rfl rfl (.s4 (.s4 (.s4 .z))) rfl (by decide) rfl .z (q_pickT rfl (.t (.s4 (.s4 .z))) .c) ?_
 refine FJ.dq rfl rfl rfl (by decide) rfl .z (q_pickT rfl (.t (.s4 (.s4 (.s4 (.s .z))))) (.t .z)) (FJ.er (.s16 (.s16 (.s16 (.s16 (.s16 (.s16 (.s (.s .z)))))))) ?_)
 refine FJ.q (goes_sch rfl rfl) rfl (by decide) rfl (q_assign rfl (.t .z)) ?_
 refine FJ.sl rfl ?_
 refine FJ.schN ?_
 refine FJ.drawN (by kernel_rfl) ?_
 refine FJ.then_ (FJ.ret ?_)
 refine FJ.doneS (res1 rfl .z) .n ?_
 exact ⟨rfl, rfl⟩
 refine FJ.sch [(26, true), (27, true), (30, true), (31, true), (32, true), (28, false), (29, true), (33, true), (34, true), (35, true), (36, false)] 0 #[true, true, true, true, true, true, true, true, true, true, true, true, true, true, true, true, true, true, true, true, true, true, true, true, true, true, true, true, true, true, true, true, true, true, true, true, true] (by rfl) (by kernel_rfl) ?_
 refine FJ.dqg rfl rfl rfl .z rfl (by decide) rfl .z (q_fieldAddr rfl (.t (.s16 (.s16 (.s4 .z)))) (fun _ => fa_30_2 _ _)) ?_
 refine FJ.dqg rfl rfl rfl (.s .z) rfl (by decide) rfl .z (q_load rfl ag_2 (.t .z) (WS.row (.s4 (.s .z)) rfl)) ?_
 refine FJ.dqg rfl rfl rfl (.s (.s .z)) rfl (by decide) rfl .z (q_fieldAddr rfl (.t (.s16 (.s16 (.s4 (.s (.s .z)))))) (fun _ => fa_30_3 _ _)) ?_
 refine FJ.dqg rfl rfl rfl (.s (.s (.s .z))) rfl (by decide) rfl .z (q_load rfl ag_22 (.t .z) (WS.row (.s4 (.s .z)) rfl)) ?_
 refine FJ.dqg rfl rfl rfl (.s4 .z) rfl (by decide) rfl .z (q_len rfl u_22 (.t .z)) ?_
 refine FJ.call (goes_schg rfl rfl rfl (.s4 (.s .z))) rfl (by decide) rfl (c_call rfl Try.func47 rfl rfl (args1 (.t (.s (.s (.s .z)))))) .n (fun w1 S1 hs tr => c_47 _) ?_
 rintro _ _ ⟨rfl, rfl⟩
 refine FJ.cat .n ?_
 refine FJ.sk .z ?_
 refine FJ.dqg rfl rfl rfl (.s4 (.s (.s .z))) rfl (by decide) rfl .z (q_field rfl (.t .z) (fun w => fv_48_1 w (.int .i64 ((forR nd77.size).code)) (.int .i64 ((forR nd77.size).val)))) ?_
 refine FJ.dqg rfl rfl rfl (.s4 (.s (.s (.s .z)))) rfl (by decide) rfl .z (q_eql rfl (.t .z) (.t (.s (.s .z)))) ?_
 refine FJ.dqg rfl rfl rfl (.s4 (.s4 (.s4 .z))) rfl (by decide) rfl .z (q_pickF rfl (.t (.s4 (.s4 .z))) (.t .z)) ?_
 refine FJ.dq rfl rfl rfl (by decide) rfl .z (q_pickT rfl (.t (.s4 (.s4 (.s4 (.s .z))))) (.t .z)) (FJ.er (.s16 (.s16 (.s16 (.s16 (.s16 (.s16 (.s (.s .z)))))))) ?_)
 refine FJ.q (goes_sch rfl rfl) rfl (by decide) rfl (q_assign rfl (.t .z)) ?_
 refine FJ.sl rfl ?_
 refine FJ.schN ?_
 refine FJ.drawN (by kernel_rfl) ?_
 refine FJ.then_ (FJ.ret ?_)
 refine FJ.doneS (res1 rfl .z) .n ?_
 first | exact ⟨rfl, rfl⟩ | (focus (exfalso; omega)) | (focus (exfalso; simp_all; done)) | (focus (refine ⟨congrArg Value.bool ?_, rfl⟩; simp_all; done)) | (focus (refine ⟨congrArg Value.bool ?_, rfl⟩; simp_all; omega))
 refine FJ.sch [(22, true), (23, true), (24, true), (25, true), (26, true), (27, true), (28, true), (29, true), (30, true), (31, true), (32, true), (33, true), (34, true), (35, true), (36, false)] 0 #[true, true, true, true, true, true, true, true, true, true, true, true, true, true, true, true, true, true, true, true, true, true, true, true, true, true, true, true, true, true, true, true, true, true, true, true, true] (by rfl) (by kernel_rfl) ?_
 refine FJ.dskip rfl rfl rfl .z rfl rfl (by decide) rfl .z ?_
 refine FJ.dskip rfl rfl rfl (.s .z) rfl rfl (by decide) rfl .z ?_
 refine FJ.dskip rfl rfl rfl (.s (.s .z)) rfl rfl (by decide) rfl .z ?_
 refine FJ.dskip rfl rfl rfl (.s (.s (.s .z))) rfl rfl (by decide) rfl .z ?_
 refine FJ.dskip rfl rfl rfl .z rfl rfl (by decide) rfl .z ?_
 refine FJ.dskip rfl rfl rfl (.s .z) rfl rfl (by decide) rfl .z ?_
 refine FJ.dskip rfl rfl rfl (.s (.s .z)) rfl rfl (by decide) rfl .z ?_
 refine FJ.dskip rfl rfl rfl (.s (.s (.s .z))) rfl rfl (by decide) rfl .z ?_
 refine FJ.dskip rfl rfl rfl (.s4 .z) rfl rfl (by decide) rfl .z ?_
 refine FJ.dskip rfl rfl rfl (.s4 (.s .z)) rfl rfl (by decide) rfl .z ?_
 refine FJ.dskip rfl rfl rfl (.s4 (.s (.s .z))) rfl rfl (by decide) rfl .z ?_
 refine FJ.dskip rfl rfl rfl (.s4 (.s (.s (.s .z)))) rfl rfl (by decide) rfl .z ?_
 refine FJ.dskip rfl rfl rfl (.s4 (.s4 (.s4 .z))) rfl rfl (by decide) rfl .z ?_
 refine FJ.dq rfl rfl rfl (by decide) rfl .z (q_pickF rfl (.t (.s4 (.s4 (.s4 (.s .z))))) .c) (FJ.er (.s16 (.s16 (.s16 (.s16 (.s16 (.s16 (.s (.s .z)))))))) ?_)
 refine FJ.q (goes_sch rfl rfl) rfl (by decide) rfl (q_assign rfl (.t .z)) ?_
 refine FJ.sl rfl ?_
 refine FJ.schN ?_
 refine FJ.drawN (by kernel_rfl) ?_
 refine FJ.then_ (FJ.ret ?_)
 refine FJ.doneS (res1 rfl .z) .n ?_
 first | exact ⟨rfl, rfl⟩ | (focus (exfalso; omega)) | (focus (exfalso; simp_all; done)) | (focus (refine ⟨congrArg Value.bool ?_, rfl⟩; simp_all; done)) | (focus (refine ⟨congrArg Value.bool ?_, rfl⟩; simp_all; omega))
 refine FJ.sch [(16, true), (17, true), (18, true), (19, true), (20, true), (21, true), (22, true), (23, true), (24, true), (25, true), (26, true), (27, true), (28, true), (29, true), (30, true), (31, true), (32, true), (33, true), (34, true), (35, true), (36, false)] 0 #[true, true, true, true, true, true, true, true, true, true, true, true, true, true, true, true, true, true, true, true, true, true, true, true, true, true, true, true, true, true, true, true, true, true, true, true, true] (by rfl) (by kernel_rfl) ?_
 refine FJ.dskip rfl rfl rfl .z rfl rfl (by decide) rfl .z ?_
 refine FJ.dskip rfl rfl rfl (.s .z) rfl rfl (by decide) rfl .z ?_
 refine FJ.dskip rfl rfl rfl (.s (.s .z)) rfl rfl (by decide) rfl .z ?_
 refine FJ.dskip rfl rfl rfl (.s (.s (.s .z))) rfl rfl (by decide) rfl .z ?_
 refine FJ.dq rfl rfl rfl (by decide) rfl .z (q_pickF rfl (.t (.s4 .z)) .c) (FJ.dq rfl rfl rfl (by decide) rfl .z (q_move rfl (.t .z)) ?_)
 refine FJ.dskip rfl rfl rfl .z rfl rfl (by decide) rfl .z ?_
 refine FJ.dskip rfl rfl rfl (.s .z) rfl rfl (by decide) rfl .z ?_
 refine FJ.dskip rfl rfl rfl (.s (.s .z)) rfl rfl (by decide) rfl .z ?_
 refine FJ.dskip rfl rfl rfl (.s (.s (.s .z))) rfl rfl (by decide) rfl .z ?_
 refine FJ.dskip rfl rfl rfl .z rfl rfl (by decide) rfl .z ?_
 refine FJ.dskip rfl rfl rfl (.s .z) rfl rfl (by decide) rfl .z ?_
 refine FJ.dskip rfl rfl rfl (.s (.s .z)) rfl rfl (by decide) rfl .z ?_
 refine FJ.dskip rfl rfl rfl (.s (.s (.s .z))) rfl rfl (by decide) rfl .z ?_
 refine FJ.dskip rfl rfl rfl (.s4 .z) rfl rfl (by decide) rfl .z ?_
 refine FJ.dskip rfl rfl rfl (.s4 (.s .z)) rfl rfl (by decide) rfl .z ?_
 refine FJ.dskip rfl rfl rfl (.s4 (.s (.s .z))) rfl rfl (by decide) rfl .z ?_
 refine FJ.dskip rfl rfl rfl (.s4 (.s (.s (.s .z)))) rfl rfl (by decide) rfl .z ?_
 refine FJ.dskip rfl rfl rfl (.s4 (.s4 (.s4 .z))) rfl rfl (by decide) rfl .z ?_
 refine FJ.dq rfl rfl rfl (by decide) rfl .z (q_pickF rfl (.t (.s4 (.s4 (.s4 (.s .z))))) .c) (FJ.er (.s16 (.s16 (.s16 (.s16 (.s16 (.s16 (.s (.s .z)))))))) ?_)
 refine FJ.q (goes_sch rfl rfl) rfl (by decide) rfl (q_assign rfl (.t .z)) ?_
 refine FJ.sl rfl ?_
 refine FJ.schN ?_
 refine FJ.drawN (by kernel_rfl) ?_
 refine FJ.then_ (FJ.ret ?_)
 refine FJ.doneS (res1 rfl .z) .n ?_
 first | exact ⟨rfl, rfl⟩ | (focus (exfalso; omega)) | (focus (exfalso; simp_all; done)) | (focus (refine ⟨congrArg Value.bool ?_, rfl⟩; simp_all; done)) | (focus (refine ⟨congrArg Value.bool ?_, rfl⟩; simp_all; omega))
 refine FJ.sch [(10, true), (11, true), (12, true), (13, true), (14, true), (15, true), (16, true), (17, true), (18, true), (19, true), (20, true), (21, true), (22, true), (23, true), (24, true), (25, true), (26, true), (27, true), (28, true), (29, true), (30, true), (31, true), (32, true), (33, true), (34, true), (35, true), (36, false)] 0 #[true, true, true, true, true, true, true, true, true, true, true, true, true, true, true, true, true, true, true, true, true, true, true, true, true, true, true, true, true, true, true, true, true, true, true, true, true] (by rfl) (by kernel_rfl) ?_
 refine FJ.dskip rfl rfl rfl .z rfl rfl (by decide) rfl .z ?_
 refine FJ.dskip rfl rfl rfl (.s .z) rfl rfl (by decide) rfl .z ?_
 refine FJ.dskip rfl rfl rfl (.s (.s .z)) rfl rfl (by decide) rfl .z ?_
 refine FJ.dskip rfl rfl rfl (.s (.s (.s .z))) rfl rfl (by decide) rfl .z ?_
 refine FJ.dq rfl rfl rfl (by decide) rfl .z (q_pickF rfl (.t (.s4 .z)) .c) (FJ.dq rfl rfl rfl (by decide) rfl .z (q_move rfl (.t .z)) ?_)
 refine FJ.dskip rfl rfl rfl .z rfl rfl (by decide) rfl .z ?_
 refine FJ.dskip rfl rfl rfl (.s .z) rfl rfl (by decide) rfl .z ?_
 refine FJ.dskip rfl rfl rfl (.s (.s .z)) rfl rfl (by decide) rfl .z ?_
 refine FJ.dskip rfl rfl rfl (.s (.s (.s .z))) rfl rfl (by decide) rfl .z ?_
 refine FJ.dq rfl rfl rfl (by decide) rfl .z (q_pickF rfl (.t (.s4 .z)) .c) (FJ.dq rfl rfl rfl (by decide) rfl .z (q_move rfl (.t .z)) ?_)
 refine FJ.dskip rfl rfl rfl .z rfl rfl (by decide) rfl .z ?_
 refine FJ.dskip rfl rfl rfl (.s .z) rfl rfl (by decide) rfl .z ?_
 refine FJ.dskip rfl rfl rfl (.s (.s .z)) rfl rfl (by decide) rfl .z ?_
 refine FJ.dskip rfl rfl rfl (.s (.s (.s .z))) rfl rfl (by decide) rfl .z ?_
 refine FJ.dskip rfl rfl rfl .z rfl rfl (by decide) rfl .z ?_
 refine FJ.dskip rfl rfl rfl (.s .z) rfl rfl (by decide) rfl .z ?_
 refine FJ.dskip rfl rfl rfl (.s (.s .z)) rfl rfl (by decide) rfl .z ?_
 refine FJ.dskip rfl rfl rfl (.s (.s (.s .z))) rfl rfl (by decide) rfl .z ?_
 refine FJ.dskip rfl rfl rfl (.s4 .z) rfl rfl (by decide) rfl .z ?_
 refine FJ.dskip rfl rfl rfl (.s4 (.s .z)) rfl rfl (by decide) rfl .z ?_
 refine FJ.dskip rfl rfl rfl (.s4 (.s (.s .z))) rfl rfl (by decide) rfl .z ?_
 refine FJ.dskip rfl rfl rfl (.s4 (.s (.s (.s .z)))) rfl rfl (by decide) rfl .z ?_
 refine FJ.dskip rfl rfl rfl (.s4 (.s4 (.s4 .z))) rfl rfl (by decide) rfl .z ?_
 refine FJ.dq rfl rfl rfl (by decide) rfl .z (q_pickF rfl (.t (.s4 (.s4 (.s4 (.s .z))))) .c) (FJ.er (.s16 (.s16 (.s16 (.s16 (.s16 (.s16 (.s (.s .z)))))))) ?_)
 refine FJ.q (goes_sch rfl rfl) rfl (by decide) rfl (q_assign rfl (.t .z)) ?_
 refine FJ.sl rfl ?_
 refine FJ.schN ?_
 refine FJ.drawN (by kernel_rfl) ?_
 refine FJ.then_ (FJ.ret ?_)
 refine FJ.doneS (res1 rfl .z) .n ?_
 first | exact ⟨rfl, rfl⟩ | (focus (exfalso; omega)) | (focus (exfalso; simp_all; done)) | (focus (refine ⟨congrArg Value.bool ?_, rfl⟩; simp_all; done)) | (focus (refine ⟨congrArg Value.bool ?_, rfl⟩; simp_all; omega))
 refine FJ.sch [(4, true), (5, true), (6, true), (7, true), (8, true), (9, true), (10, true), (11, true), (12, true), (13, true), (14, true), (15, true), (16, true), (17, true), (18, true), (19, true), (20, true), (21, true), (22, true), (23, true), (24, true), (25, true), (26, true), (27, true), (28, true), (29, true), (30, true), (31, true), (32, true), (33, true), (34, true), (35, true), (36, false)] 0 #[true, true, true, true, true, true, true, true, true, true, true, true, true, true, true, true, true, true, true, true, true, true, true, true, true, true, true, true, true, true, true, true, true, true, true, true, true] (by rfl) (by kernel_rfl) ?_
 refine FJ.dskip rfl rfl rfl .z rfl rfl (by decide) rfl .z ?_
 refine FJ.dskip rfl rfl rfl (.s .z) rfl rfl (by decide) rfl .z ?_
 refine FJ.dskip rfl rfl rfl (.s (.s .z)) rfl rfl (by decide) rfl .z ?_
 refine FJ.dskip rfl rfl rfl (.s (.s (.s .z))) rfl rfl (by decide) rfl .z ?_
 refine FJ.dq rfl rfl rfl (by decide) rfl .z (q_pickF rfl (.t (.s4 .z)) .c) (FJ.dq rfl rfl rfl (by decide) rfl .z (q_move rfl (.t .z)) ?_)
 refine FJ.dskip rfl rfl rfl .z rfl rfl (by decide) rfl .z ?_
 refine FJ.dskip rfl rfl rfl (.s .z) rfl rfl (by decide) rfl .z ?_
 refine FJ.dskip rfl rfl rfl (.s (.s .z)) rfl rfl (by decide) rfl .z ?_
 refine FJ.dskip rfl rfl rfl (.s (.s (.s .z))) rfl rfl (by decide) rfl .z ?_
 refine FJ.dq rfl rfl rfl (by decide) rfl .z (q_pickF rfl (.t (.s4 .z)) .c) (FJ.dq rfl rfl rfl (by decide) rfl .z (q_move rfl (.t .z)) ?_)
 refine FJ.dskip rfl rfl rfl .z rfl rfl (by decide) rfl .z ?_
 refine FJ.dskip rfl rfl rfl (.s .z) rfl rfl (by decide) rfl .z ?_
 refine FJ.dskip rfl rfl rfl (.s (.s .z)) rfl rfl (by decide) rfl .z ?_
 refine FJ.dskip rfl rfl rfl (.s (.s (.s .z))) rfl rfl (by decide) rfl .z ?_
 refine FJ.dq rfl rfl rfl (by decide) rfl .z (q_pickF rfl (.t (.s4 .z)) .c) (FJ.dq rfl rfl rfl (by decide) rfl .z (q_move rfl (.t .z)) ?_)
 refine FJ.dskip rfl rfl rfl .z rfl rfl (by decide) rfl .z ?_
 refine FJ.dskip rfl rfl rfl (.s .z) rfl rfl (by decide) rfl .z ?_
 refine FJ.dskip rfl rfl rfl (.s (.s .z)) rfl rfl (by decide) rfl .z ?_
 refine FJ.dskip rfl rfl rfl (.s (.s (.s .z))) rfl rfl (by decide) rfl .z ?_
 refine FJ.dskip rfl rfl rfl .z rfl rfl (by decide) rfl .z ?_
 refine FJ.dskip rfl rfl rfl (.s .z) rfl rfl (by decide) rfl .z ?_
 refine FJ.dskip rfl rfl rfl (.s (.s .z)) rfl rfl (by decide) rfl .z ?_
 refine FJ.dskip rfl rfl rfl (.s (.s (.s .z))) rfl rfl (by decide) rfl .z ?_
 refine FJ.dskip rfl rfl rfl (.s4 .z) rfl rfl (by decide) rfl .z ?_
 refine FJ.dskip rfl rfl rfl (.s4 (.s .z)) rfl rfl (by decide) rfl .z ?_
 refine FJ.dskip rfl rfl rfl (.s4 (.s (.s .z))) rfl rfl (by decide) rfl .z ?_
 refine FJ.dskip rfl rfl rfl (.s4 (.s (.s (.s .z)))) rfl rfl (by decide) rfl .z ?_
 refine FJ.dskip rfl rfl rfl (.s4 (.s4 (.s4 .z))) rfl rfl (by decide) rfl .z ?_
 refine FJ.dq rfl rfl rfl (by decide) rfl .z (q_pickF rfl (.t (.s4 (.s4 (.s4 (.s .z))))) .c) (FJ.er (.s16 (.s16 (.s16 (.s16 (.s16 (.s16 (.s (.s .z)))))))) ?_)
 refine FJ.q (goes_sch rfl rfl) rfl (by decide) rfl (q_assign rfl (.t .z)) ?_
 refine FJ.sl rfl ?_
 refine FJ.schN ?_
 refine FJ.drawN (by kernel_rfl) ?_
 refine FJ.then_ (FJ.ret ?_)
 refine FJ.doneS (res1 rfl .z) .n ?_
 first | exact ⟨rfl, rfl⟩ | (focus (exfalso; omega)) | (focus (exfalso; simp_all; done)) | (focus (refine ⟨congrArg Value.bool ?_, rfl⟩; simp_all; done)) | (focus (refine ⟨congrArg Value.bool ?_, rfl⟩; simp_all; omega))
 refine FJ.sch [(35, true), (36, true), (37, true), (38, true), (39, false), (40, false)] 0 #[true, true, true, true, true, true, true, true, true, true, true, true, true, true, true, true, true, true, true, true, true, true, true, true, true, true, true, true, true, true, true, true, true, true, true, true, true, true, true, true, true] (by rfl) (by kernel_rfl) ?_
 refine FJ.dskip rfl rfl rfl .z rfl rfl (by decide) rfl .z ?_
 refine FJ.dskip rfl rfl rfl (.s .z) rfl rfl (by decide) rfl .z ?_
 refine FJ.dskip rfl rfl rfl (.s (.s .z)) rfl rfl (by decide) rfl .z ?_
 refine FJ.dskip rfl rfl rfl (.s (.s (.s .z))) rfl rfl (by decide) rfl .z ?_
 refine FJ.q (goes_schg rfl rfl rfl (.s4 (.s4 .z))) rfl (by decide) rfl (q_pickF rfl (.t (.s4 .z)) .c) ?_
 refine FJ.sk .z ?_
 refine FJ.q (goes_sch rfl rfl) rfl (by decide) rfl (q_pickF rfl (.t (.s4 (.s4 (.s .z)))) (.t .z)) ?_
 refine FJ.sk .z ?_
 refine FJ.schN ?_
 refine FJ.drawN (by kernel_rfl) ?_
 refine FJ.then_ ?_
 refine FJ.condF (.t .z) ?_
 refine FJ.skip (FJ.then_ (FJ.seq (FJ.region (FJ.ql rfl (q_move rfl (.t (.s16 (.s16 (.s16 (.s (.s .z))))))) ?_))))
 refine FJ.call (goes_list rfl) rfl (by decide) rfl (c_call rfl Try.func46 rfl rfl (args1 (.t .z))) .n (fun w1 S1 hs tr => c_46 (tr.ctx h0)) ?_
 rintro _ _ ⟨nd103, v104, v106, hznd103, rfl, rfl⟩
 refine FJ.cat (.c (.c .n)) ?_
 obtain ⟨IC, ID⟩ := @ino_law2 nd103
 refine FJ.know (WS.oform .z) ?_
 rintro ⟨Ao108, co108, rfl, hlo108, hmo108, hbo108⟩
 refine FJ.know (WS.oform (.s .z)) ?_
 rintro ⟨Ao109, co109, rfl, hlo109, hmo109, hbo109⟩
 refine FJ.e (goes_list rfl) rfl (by decide) rfl (e_alloc rfl z_30 rfl rfl) ?_
 rintro _ _ ⟨g110, rfl, rfl⟩
 refine FJ.es (goes_list rfl) rfl (es_store (off := 0) (cs := [.int .i64 nd103.kind, .int .i64 nd103.links, .int .i64 nd103.size, .slice Ao108 nd103.blocks.length co108, .slice Ao109 nd103.ents.length co109]) rfl sz_30 (.t .z) (.t (.s .z)) rfl (ones rfl) .z (Nat.le_of_ble_eq_true rfl) (.c .z (.c (.s .z) (.c (.s (.s .z)) (.c (.s (.s (.s .z))) (.c (.s (.s (.s (.s .z)))) .n)))))) ?_
 refine FJ.nil (FJ.then_ (FJ.seq (FJ.region ?_)))
 refine FJ.ql rfl (q_loadA (cs := [.int .i64 nd103.kind, .int .i64 nd103.links, .int .i64 nd103.size, .slice Ao108 nd103.blocks.length co108, .slice Ao109 nd103.ents.length co109]) rfl ag_30 sz_30 (.t .z) (WS.rows0 .z (fun i u h => by exact h))) ?_
 refine FJ.call (goes_list rfl) rfl (by decide) rfl (c_call rfl Try.func36 rfl rfl (args1 (.t .z))) .n (fun w1 S1 hs tr => c_36 (kT_30_mk nd103 (tr.own (.s .z)) (tr.own (.s (.s .z))))) ?_
 rintro _ _ ⟨v111, rfl, rfl⟩
 refine FJ.cat (.c .n) ?_
 refine FJ.know (WS.oform .z) ?_
 rintro ⟨Ao113, co113, rfl, hlo113, hmo113, hbo113⟩
 refine FJ.e (goes_list rfl) rfl (by decide) rfl (e_alloc rfl z_57 rfl rfl) ?_
 rintro _ _ ⟨g114, rfl, rfl⟩
 refine FJ.es (goes_list rfl) rfl (es_store (off := 0) (cs := [.int .i64 ((packR nd103).code), .slice Ao113 ((packR nd103).list).length co113]) rfl sz_57 (.t .z) (.t (.s .z)) rfl (ones rfl) .z (Nat.le_of_ble_eq_true rfl) (.c .z (.c (.s .z) .n))) ?_
 refine FJ.nil (FJ.then_ (FJ.seq (FJ.seq (FJ.region ?_))))
 refine FJ.ql rfl (q_fieldAddr rfl (.t .z) (fun _ => fa_57_0 _ _)) (FJ.ql rfl (q_load rfl ag_2 (.t .z) (WS.row .z rfl)) (FJ.ql rfl (q_neq rfl (.t .z) .c) (FJ.nil (FJ.then_ ?_))))
 refine FJ.condN (.t .z) (fun b115 => ?_) (fun b115 => ?_)
 refine FJ.seq ?_
 refine FJ.draw [rowA g114 57 2 1 [.int .i64 ((packR nd103).code), .slice Ao113 ((packR nd103).list).length co113], ownA kSl_2 ((packR nd103).list) [.slice Ao113 ((packR nd103).list).length co113], rowA g110 30 5 1 [.int .i64 nd103.kind, .int .i64 nd103.links, .int .i64 nd103.size, .slice Ao108 nd103.blocks.length co108, .slice Ao109 nd103.ents.length co109], ownA kSl_2 nd103.blocks [.slice Ao108 nd103.blocks.length co108], ownA kSl_130 nd103.ents [.slice Ao109 nd103.ents.length co109], rowA g12 66 6 1 [.int .i64 ((unpR ws3).code), .int .i64 ((unpR ws3).inode.kind), .int .i64 ((unpR ws3).inode.links), .int .i64 ((unpR ws3).inode.size), .slice Ao10 ((unpR ws3).inode.blocks).length co10, .slice Ao11 ((unpR ws3).inode.ents).length co11], ownA kSl_2 ((unpR ws3).inode.blocks) [.slice Ao10 ((unpR ws3).inode.blocks).length co10], ownA kSl_130 ((unpR ws3).inode.ents) [.slice Ao11 ((unpR ws3).inode.ents).length co11], ownA kSl_2 ws3 [.slice Ao5 ws3.length co5]] 12 (by kernel_rfl) ?_
 refine FJ.sch [(0, true), (2, true), (3, true), (1, false), (4, true), (5, true)] 7 #[true, true, true, true, true, true, false, false, false, false, false, false, false] (by rfl) (by kernel_rfl) ?_
 refine FJ.dq rfl rfl rfl (by decide) rfl .z (q_loadA (cs := [.int .i64 nd103.kind, .int .i64 nd103.links, .int .i64 nd103.size, .slice Ao108 nd103.blocks.length co108, .slice Ao109 nd103.ents.length co109]) rfl ag_30 sz_30 (.t (.s4 (.s (.s .z)))) (WS.rows0 (.s (.s .z)) (fun i u h => by exact h))) ?_
 refine FJ.dq rfl rfl rfl (by decide) rfl .z (q_fieldAddr rfl (.t (.s4 .z)) (fun _ => fa_57_0 _ _)) (FJ.dq rfl rfl rfl (by decide) rfl .z (q_load rfl ag_2 (.t .z) (WS.row .z rfl)) ?_)
 refine FJ.call (goes_sch rfl rfl) rfl (by decide) rfl (c_call rfl Try.func20 rfl rfl (args1 (.t (.s (.s .z))))) .n (fun w1 S1 hs tr => c_20 (kT_30_mk nd103 (tr.own (.s (.s (.s .z)))) (tr.own (.s4 .z)))) ?_
 rintro _ _ ⟨rfl, rfl⟩
 refine FJ.cat .n ?_
 refine FJ.sk .z ?_
 refine FJ.dq rfl rfl rfl (by decide) rfl .z (q_eql rfl (.t .z) (.t (.s .z))) (FJ.dq rfl rfl rfl (by decide) rfl .z (q_move rfl (.t .z)) (FJ.schN ?_))
 refine FJ.caseP .z (fun g116 => ?_) (fun g116 => ?_)
 refine FJ.sch [(6, true), (8, true), (9, true), (7, false), (10, true), (11, true), (12, false)] 0 #[true, true, true, true, true, true, true, true, true, true, true, true, true] (by rfl) (by kernel_rfl) ?_
 refine FJ.dqg rfl rfl rfl .z rfl (by decide) rfl .z (q_loadA (cs := [.int .i64 nd103.kind, .int .i64 nd103.links, .int .i64 nd103.size, .slice Ao108 nd103.blocks.length co108, .slice Ao109 nd103.ents.length co109]) rfl ag_30 sz_30 (.t (.s4 (.s4 (.s4 .z)))) (WS.rows0 (.s (.s .z)) (fun i u h => by exact h))) ?_
 refine FJ.dqg rfl rfl rfl (.s .z) rfl (by decide) rfl .z (q_fieldAddr rfl (.t (.s4 (.s4 (.s (.s .z))))) (fun _ => fa_57_0 _ _)) ?_
 refine FJ.dqg rfl rfl rfl (.s (.s .z)) rfl (by decide) rfl .z (q_load rfl ag_2 (.t .z) (WS.row .z rfl)) ?_
 refine FJ.call (goes_schg rfl rfl rfl (.s (.s (.s .z)))) rfl (by decide) rfl (c_call rfl Try.func21 rfl rfl (args1 (.t (.s (.s .z))))) .n (fun w1 S1 hs tr => c_21 (kT_30_mk nd103 (tr.own (.s (.s (.s .z)))) (tr.own (.s4 .z)))) ?_
 rintro _ _ ⟨rfl, rfl⟩
 refine FJ.cat .n ?_
 refine FJ.sk .z ?_
 refine FJ.dqg rfl rfl rfl (.s4 .z) rfl (by decide) rfl .z (q_eql rfl (.t .z) (.t (.s .z))) ?_
 refine FJ.dq rfl rfl rfl (by decide) rfl .z (q_pickT rfl (.t (.s4 (.s .z))) (.t .z)) (FJ.er (.s16 (.s16 (.s16 (.s16 (.s4 (.s (.s .z))))))) ?_)
 refine FJ.q (goes_sch rfl rfl) rfl (by decide) rfl (q_assign rfl (.t .z)) ?_
 refine FJ.sl rfl ?_
 refine FJ.schN ?_
 refine FJ.drawN (by kernel_rfl) ?_
 refine FJ.then_ (FJ.ret (FJ.thenR ?_))
 refine FJ.doneS (res1 rfl .z) .n ?_
 first | exact ⟨rfl, rfl⟩ | (focus (exfalso; omega)) | (focus (exfalso; simp_all; done)) | (focus (refine ⟨congrArg Value.bool ?_, rfl⟩; simp_all; done)) | (focus (refine ⟨congrArg Value.bool ?_, rfl⟩; simp_all; omega))
 refine FJ.sch [(6, true), (7, true), (8, true), (9, true), (10, true), (11, true), (12, false)] 0 #[true, true, true, true, true, true, true, true, true, true, true, true, true] (by rfl) (by kernel_rfl) ?_
 refine FJ.dskip rfl rfl rfl .z rfl rfl (by decide) rfl .z ?_
 refine FJ.dskip rfl rfl rfl (.s .z) rfl rfl (by decide) rfl .z ?_
 refine FJ.dskip rfl rfl rfl (.s (.s .z)) rfl rfl (by decide) rfl .z ?_
 refine FJ.dskip rfl rfl rfl (.s (.s (.s .z))) rfl rfl (by decide) rfl .z ?_
 refine FJ.dskip rfl rfl rfl (.s4 .z) rfl rfl (by decide) rfl .z ?_
 refine FJ.dq rfl rfl rfl (by decide) rfl .z (q_pickF rfl (.t (.s4 (.s .z))) .c) (FJ.er (.s16 (.s16 (.s16 (.s16 (.s4 (.s (.s .z))))))) ?_)
 refine FJ.q (goes_sch rfl rfl) rfl (by decide) rfl (q_assign rfl (.t .z)) ?_
 refine FJ.sl rfl ?_
 refine FJ.schN ?_
 refine FJ.drawN (by kernel_rfl) ?_
 refine FJ.then_ (FJ.ret (FJ.thenR ?_))
 refine FJ.doneS (res1 rfl .z) .n ?_
 first | exact ⟨rfl, rfl⟩ | (focus (exfalso; omega)) | (focus (exfalso; simp_all; done)) | (focus (refine ⟨congrArg Value.bool ?_, rfl⟩; simp_all; done)) | (focus (refine ⟨congrArg Value.bool ?_, rfl⟩; simp_all; omega))
 refine FJ.skip (FJ.then_ (FJ.seq (FJ.region (FJ.ql rfl (q_fieldAddr rfl (.t (.s (.s (.s .z)))) (fun _ => fa_57_1 _ _)) ?_))))
 refine FJ.ql rfl (q_load rfl ag_22 (.t .z) (WS.row .z rfl)) ?_
 refine FJ.call (goes_list rfl) rfl (by decide) rfl (c_call rfl Try.func43 rfl rfl (args1 (.t .z))) .n (fun w1 S1 hs tr => c_43 (tr.own (.s .z))) ?_
 rintro _ _ ⟨v117, v119, rfl, rfl⟩
 refine FJ.cat (.c (.c .n)) ?_
 refine FJ.know (WS.oform .z) ?_
 rintro ⟨Ao121, co121, rfl, hlo121, hmo121, hbo121⟩
 refine FJ.know (WS.oform (.s .z)) ?_
 rintro ⟨Ao122, co122, rfl, hlo122, hmo122, hbo122⟩
 refine FJ.e (goes_list rfl) rfl (by decide) rfl (e_alloc rfl z_66 rfl rfl) ?_
 rintro _ _ ⟨g123, rfl, rfl⟩
 refine FJ.es (goes_list rfl) rfl (es_store (off := 0) (cs := [.int .i64 ((unpR ((packR nd103).list)).code), .int .i64 ((unpR ((packR nd103).list)).inode.kind), .int .i64 ((unpR ((packR nd103).list)).inode.links), .int .i64 ((unpR ((packR nd103).list)).inode.size), .slice Ao121 ((unpR ((packR nd103).list)).inode.blocks).length co121, .slice Ao122 ((unpR ((packR nd103).list)).inode.ents).length co122]) rfl sz_66 (.t .z) (.t (.s .z)) rfl (ones rfl) .z (Nat.le_of_ble_eq_true rfl) (.c .z (.c (.s .z) (.c (.s (.s .z)) (.c (.s (.s (.s .z))) (.c (.s (.s (.s (.s .z)))) (.c (.s (.s (.s (.s (.s .z))))) .n))))))) ?_
 refine FJ.nil (FJ.then_ (FJ.seq ?_))
 refine FJ.draw [rowA g123 66 6 1 [.int .i64 ((unpR ((packR nd103).list)).code), .int .i64 ((unpR ((packR nd103).list)).inode.kind), .int .i64 ((unpR ((packR nd103).list)).inode.links), .int .i64 ((unpR ((packR nd103).list)).inode.size), .slice Ao121 ((unpR ((packR nd103).list)).inode.blocks).length co121, .slice Ao122 ((unpR ((packR nd103).list)).inode.ents).length co122], ownA kSl_2 ((unpR ((packR nd103).list)).inode.blocks) [.slice Ao121 ((unpR ((packR nd103).list)).inode.blocks).length co121], ownA kSl_130 ((unpR ((packR nd103).list)).inode.ents) [.slice Ao122 ((unpR ((packR nd103).list)).inode.ents).length co122], rowA g114 57 2 1 [.int .i64 ((packR nd103).code), .slice Ao113 ((packR nd103).list).length co113], ownA kSl_2 ((packR nd103).list) [.slice Ao113 ((packR nd103).list).length co113], rowA g110 30 5 1 [.int .i64 nd103.kind, .int .i64 nd103.links, .int .i64 nd103.size, .slice Ao108 nd103.blocks.length co108, .slice Ao109 nd103.ents.length co109], ownA kSl_2 nd103.blocks [.slice Ao108 nd103.blocks.length co108], ownA kSl_130 nd103.ents [.slice Ao109 nd103.ents.length co109], rowA g12 66 6 1 [.int .i64 ((unpR ws3).code), .int .i64 ((unpR ws3).inode.kind), .int .i64 ((unpR ws3).inode.links), .int .i64 ((unpR ws3).inode.size), .slice Ao10 ((unpR ws3).inode.blocks).length co10, .slice Ao11 ((unpR ws3).inode.ents).length co11], ownA kSl_2 ((unpR ws3).inode.blocks) [.slice Ao10 ((unpR ws3).inode.blocks).length co10], ownA kSl_130 ((unpR ws3).inode.ents) [.slice Ao11 ((unpR ws3).inode.ents).length co11], ownA kSl_2 ws3 [.slice Ao5 ws3.length co5]] 36 (by kernel_rfl) ?_
 refine FJ.sch [(0, true), (1, true), (2, true), (3, true)] 33 #[true, true, true, true, false, false, false, false, false, false, false, false, false, false, false, false, false, false, false, false, false, false, false, false, false, false, false, false, false, false, false, false, false, false, false, false, false] (by rfl) (by kernel_rfl) ?_
 refine FJ.dq rfl rfl rfl (by decide) rfl .z (q_fieldAddr rfl (.t .z) (fun _ => fa_66_0 _ _)) (FJ.dq rfl rfl rfl (by decide) rfl .z (q_load rfl ag_2 (.t .z) (WS.row .z rfl)) (FJ.dq rfl rfl rfl (by decide) rfl .z (q_eql rfl (.t .z) .c) (FJ.dq rfl rfl rfl (by decide) rfl .z (q_move rfl (.t .z)) (FJ.schN ?_))))
 refine FJ.caseP .z (fun g124 => ?_) (fun g124 => ?_)
 refine FJ.sch [(4, true), (5, true), (6, true), (7, false), (8, true), (9, true)] 27 #[true, true, true, true, true, true, true, true, true, true, false, false, false, false, false, false, false, false, false, false, false, false, false, false, false, false, false, false, false, false, false, false, false, false, false, false, false] (by rfl) (by kernel_rfl) ?_
 refine FJ.dqg rfl rfl rfl .z rfl (by decide) rfl .z (q_fieldAddr rfl (.t (.s4 .z)) (fun _ => fa_66_1 _ _)) ?_
 refine FJ.dqg rfl rfl rfl (.s .z) rfl (by decide) rfl .z (q_loadA (cs := [.int .i64 ((unpR ((packR nd103).list)).inode.kind), .int .i64 ((unpR ((packR nd103).list)).inode.links), .int .i64 ((unpR ((packR nd103).list)).inode.size), .slice Ao121 ((unpR ((packR nd103).list)).inode.blocks).length co121, .slice Ao122 ((unpR ((packR nd103).list)).inode.ents).length co122]) rfl ag_30 sz_30 (.t .z) (WS.rows .z (sub_at rfl))) ?_
 refine FJ.dqg rfl rfl rfl (.s (.s .z)) rfl (by decide) rfl .z (q_loadA (cs := [.int .i64 nd103.kind, .int .i64 nd103.links, .int .i64 nd103.size, .slice Ao108 nd103.blocks.length co108, .slice Ao109 nd103.ents.length co109]) rfl ag_30 sz_30 (.t (.s16 .z)) (WS.rows0 (.s4 (.s .z)) (fun i u h => by exact h))) ?_
 refine FJ.call (goes_schg rfl rfl rfl (.s (.s (.s .z)))) rfl (by decide) rfl (c_call rfl Try.func18 rfl rfl (args2 (.t (.s .z)) (.t .z))) .n (fun w1 S1 hs tr => c_18 (kT_30_mk ((unpR ((packR nd103).list)).inode) (tr.own (.s .z)) (tr.own (.s (.s .z)))) (kT_30_mk nd103 (tr.own (.s4 (.s (.s .z)))) (tr.own (.s4 (.s (.s (.s .z))))))) ?_
 rintro _ _ ⟨rfl, rfl⟩
 refine FJ.cat .n ?_
 refine FJ.sk .z ?_
 refine FJ.dq rfl rfl rfl (by decide) rfl .z (q_pickT rfl (.t (.s4 .z)) (.t .z)) (FJ.dq rfl rfl rfl (by decide) rfl .z (q_move rfl (.t .z)) (FJ.schN ?_))
 refine FJ.caseP .z (fun g125 => ?_) (fun g125 => ?_)
 refine FJ.sch [(10, true), (11, true), (12, true), (13, true), (14, true), (15, true)] 21 #[true, true, true, true, true, true, true, true, true, true, true, true, true, true, true, true, false, false, false, false, false, false, false, false, false, false, false, false, false, false, false, false, false, false, false, false, false] (by rfl) (by kernel_rfl) ?_
 refine FJ.dqg rfl rfl rfl .z rfl (by decide) rfl .z (q_fieldAddr rfl (.t (.s16 (.s .z))) (fun _ => fa_57_1 _ _)) ?_
 refine FJ.dqg rfl rfl rfl (.s .z) rfl (by decide) rfl .z (q_load rfl ag_22 (.t .z) (WS.row (.s (.s (.s .z))) rfl)) ?_
 refine FJ.dqg rfl rfl rfl (.s (.s .z)) rfl (by decide) rfl .z (q_len rfl u_22 (.t .z)) ?_
 refine FJ.dqg rfl rfl rfl (.s (.s (.s .z))) rfl (by decide) rfl .z (q_geq rfl (.t .z) .c) ?_
 refine FJ.dq rfl rfl rfl (by decide) rfl .z (q_pickT rfl (.t (.s4 .z)) (.t .z)) (FJ.dq rfl rfl rfl (by decide) rfl .z (q_move rfl (.t .z)) (FJ.schN ?_))
 refine FJ.caseP .z (fun g126 => ?_) (fun g126 => ?_)
 refine FJ.sch [(16, true), (17, true), (18, true), (19, true), (20, true), (21, true)] 15 #[true, true, true, true, true, true, true, true, true, true, true, true, true, true, true, true, true, true, true, true, true, true, false, false, false, false, false, false, false, false, false, false, false, false, false, false, false] (by rfl) (by kernel_rfl) ?_
 refine FJ.dqg rfl rfl rfl .z rfl (by decide) rfl .z (q_fieldAddr rfl (.t (.s16 (.s4 (.s (.s (.s .z)))))) (fun _ => fa_57_1 _ _)) ?_
 refine FJ.dqg rfl rfl rfl (.s .z) rfl (by decide) rfl .z (q_load rfl ag_22 (.t .z) (WS.row (.s (.s (.s .z))) rfl)) ?_
 refine FJ.dqg rfl rfl rfl (.s (.s .z)) rfl (by decide) rfl .z (q_len rfl u_22 (.t .z)) ?_
 refine FJ.dqg rfl rfl rfl (.s (.s (.s .z))) rfl (by decide) rfl .z (q_leq rfl (.t .z) .c) ?_
 refine FJ.dq rfl rfl rfl (by decide) rfl .z (q_pickT rfl (.t (.s4 .z)) (.t .z)) (FJ.dq rfl rfl rfl (by decide) rfl .z (q_move rfl (.t .z)) (FJ.schN ?_))
 refine FJ.caseP .z (fun g127 => ?_) (fun g127 => ?_)
 refine FJ.sch [(22, true), (23, true), (24, true), (25, true)] 11 #[true, true, true, true, true, true, true, true, true, true, true, true, true, true, true, true, true, true, true, true, true, true, true, true, true, true, false, false, false, false, false, false, false, false, false, false, false] (by rfl) (by kernel_rfl) ?_
 refine FJ.dqg rfl rfl rfl .z rfl (by decide) rfl .z (q_fieldAddr rfl (.t (.s16 (.s16 .z))) (fun _ => fa_30_0 _ _)) ?_
 refine FJ.dqg rfl rfl rfl (.s .z) rfl (by decide) rfl .z (q_load rfl ag_2 (.t .z) (WS.row (.s4 (.s .z)) rfl)) ?_
 refine FJ.dqg rfl rfl rfl (.s (.s .z)) rfl (by decide) rfl .z (q_neq rfl (.t .z) .c) ?_
 refine FJ.dqg rfl rfl rfl (.s (.s (.s .z))) rfl (by decide) rfl .z (q_move rfl (.t .z)) ?_
 refine FJ.schN ?_
 refine FJ.caseN .z (fun g128 => ?_) (fun g128 => ?_)
 refine FJ.sch [(26, true), (27, true), (28, true), (29, true), (30, true), (31, true), (32, true), (33, true), (34, true), (35, true), (36, false)] 0 #[true, true, true, true, true, true, true, true, true, true, true, true, true, true, true, true, true, true, true, true, true, true, true, true, true, true, true, true, true, true, true, true, true, true, true, true, true] (by rfl) (by kernel_rfl) ?_
 refine FJ.dskip rfl rfl rfl .z rfl rfl (by decide) rfl .z ?_
 refine FJ.dskip rfl rfl rfl (.s .z) rfl rfl (by decide) rfl .z ?_
 refine FJ.dskip rfl rfl rfl (.s (.s .z)) rfl rfl (by decide) rfl .z ?_
 refine FJ.dskip rfl rfl rfl (.s (.s (.s .z))) rfl rfl (by decide) rfl .z ?_
 refine FJ.dskip rfl rfl rfl (.s4 .z) rfl rfl (by decide) rfl .z ?_
 refine FJ.dskip rfl rfl rfl (.s4 (.s .z)) rfl rfl (by decide) rfl .z ?_
 refine FJ.dskip rfl rfl rfl (.s4 (.s (.s .z))) rfl rfl (by decide) rfl .z ?_
 refine FJ.dskip rfl rfl rfl (.s4 (.s (.s (.s .z)))) rfl rfl (by decide) rfl .z ?_
 refine FJ.dqg rfl rfl rfl (.s4 (.s4 (.s4 .z))) rfl (by decide) rfl .z (q_pickT rfl (.t (.s4 (.s4 .z))) .c) ?_
 refine FJ.dq rfl rfl rfl (by decide) rfl .z (q_pickT rfl (.t (.s4 (.s4 (.s4 (.s .z))))) (.t .z)) (FJ.er (.s16 (.s16 (.s16 (.s16 (.s16 (.s16 (.s (.s .z)))))))) ?_)
 refine FJ.q (goes_sch rfl rfl) rfl (by decide) rfl (q_assign rfl (.t .z)) ?_
 refine FJ.sl rfl ?_
 refine FJ.schN ?_
 refine FJ.drawN (by kernel_rfl) ?_
 refine FJ.then_ (FJ.ret ?_)
 refine FJ.doneS (res1 rfl .z) .n ?_
 exact ⟨rfl, rfl⟩
 refine FJ.sch [(26, true), (27, true), (30, true), (31, true), (32, true), (28, false), (29, true), (33, true), (34, true), (35, true), (36, false)] 0 #[true, true, true, true, true, true, true, true, true, true, true, true, true, true, true, true, true, true, true, true, true, true, true, true, true, true, true, true, true, true, true, true, true, true, true, true, true] (by rfl) (by kernel_rfl) ?_
 refine FJ.dqg rfl rfl rfl .z rfl (by decide) rfl .z (q_fieldAddr rfl (.t (.s16 (.s16 (.s4 .z)))) (fun _ => fa_30_2 _ _)) ?_
 refine FJ.dqg rfl rfl rfl (.s .z) rfl (by decide) rfl .z (q_load rfl ag_2 (.t .z) (WS.row (.s4 (.s .z)) rfl)) ?_
 refine FJ.dqg rfl rfl rfl (.s (.s .z)) rfl (by decide) rfl .z (q_fieldAddr rfl (.t (.s16 (.s16 (.s4 (.s (.s .z)))))) (fun _ => fa_30_3 _ _)) ?_
 refine FJ.dqg rfl rfl rfl (.s (.s (.s .z))) rfl (by decide) rfl .z (q_load rfl ag_22 (.t .z) (WS.row (.s4 (.s .z)) rfl)) ?_
 refine FJ.dqg rfl rfl rfl (.s4 .z) rfl (by decide) rfl .z (q_len rfl u_22 (.t .z)) ?_
 refine FJ.call (goes_schg rfl rfl rfl (.s4 (.s .z))) rfl (by decide) rfl (c_call rfl Try.func47 rfl rfl (args1 (.t (.s (.s (.s .z)))))) .n (fun w1 S1 hs tr => c_47 _) ?_
 rintro _ _ ⟨rfl, rfl⟩
 refine FJ.cat .n ?_
 refine FJ.sk .z ?_
 refine FJ.dqg rfl rfl rfl (.s4 (.s (.s .z))) rfl (by decide) rfl .z (q_field rfl (.t .z) (fun w => fv_48_1 w (.int .i64 ((forR nd103.size).code)) (.int .i64 ((forR nd103.size).val)))) ?_
 refine FJ.dqg rfl rfl rfl (.s4 (.s (.s (.s .z)))) rfl (by decide) rfl .z (q_eql rfl (.t .z) (.t (.s (.s .z)))) ?_
 refine FJ.dqg rfl rfl rfl (.s4 (.s4 (.s4 .z))) rfl (by decide) rfl .z (q_pickF rfl (.t (.s4 (.s4 .z))) (.t .z)) ?_
 refine FJ.dq rfl rfl rfl (by decide) rfl .z (q_pickT rfl (.t (.s4 (.s4 (.s4 (.s .z))))) (.t .z)) (FJ.er (.s16 (.s16 (.s16 (.s16 (.s16 (.s16 (.s (.s .z)))))))) ?_)
 refine FJ.q (goes_sch rfl rfl) rfl (by decide) rfl (q_assign rfl (.t .z)) ?_
 refine FJ.sl rfl ?_
 refine FJ.schN ?_
 refine FJ.drawN (by kernel_rfl) ?_
 refine FJ.then_ (FJ.ret ?_)
 refine FJ.doneS (res1 rfl .z) .n ?_
 first | exact ⟨rfl, rfl⟩ | (focus (exfalso; omega)) | (focus (exfalso; simp_all; done)) | (focus (refine ⟨congrArg Value.bool ?_, rfl⟩; simp_all; done)) | (focus (refine ⟨congrArg Value.bool ?_, rfl⟩; simp_all; omega))
 refine FJ.sch [(22, true), (23, true), (24, true), (25, true), (26, true), (27, true), (28, true), (29, true), (30, true), (31, true), (32, true), (33, true), (34, true), (35, true), (36, false)] 0 #[true, true, true, true, true, true, true, true, true, true, true, true, true, true, true, true, true, true, true, true, true, true, true, true, true, true, true, true, true, true, true, true, true, true, true, true, true] (by rfl) (by kernel_rfl) ?_
 refine FJ.dskip rfl rfl rfl .z rfl rfl (by decide) rfl .z ?_
 refine FJ.dskip rfl rfl rfl (.s .z) rfl rfl (by decide) rfl .z ?_
 refine FJ.dskip rfl rfl rfl (.s (.s .z)) rfl rfl (by decide) rfl .z ?_
 refine FJ.dskip rfl rfl rfl (.s (.s (.s .z))) rfl rfl (by decide) rfl .z ?_
 refine FJ.dskip rfl rfl rfl .z rfl rfl (by decide) rfl .z ?_
 refine FJ.dskip rfl rfl rfl (.s .z) rfl rfl (by decide) rfl .z ?_
 refine FJ.dskip rfl rfl rfl (.s (.s .z)) rfl rfl (by decide) rfl .z ?_
 refine FJ.dskip rfl rfl rfl (.s (.s (.s .z))) rfl rfl (by decide) rfl .z ?_
 refine FJ.dskip rfl rfl rfl (.s4 .z) rfl rfl (by decide) rfl .z ?_
 refine FJ.dskip rfl rfl rfl (.s4 (.s .z)) rfl rfl (by decide) rfl .z ?_
 refine FJ.dskip rfl rfl rfl (.s4 (.s (.s .z))) rfl rfl (by decide) rfl .z ?_
 refine FJ.dskip rfl rfl rfl (.s4 (.s (.s (.s .z)))) rfl rfl (by decide) rfl .z ?_
 refine FJ.dskip rfl rfl rfl (.s4 (.s4 (.s4 .z))) rfl rfl (by decide) rfl .z ?_
 refine FJ.dq rfl rfl rfl (by decide) rfl .z (q_pickF rfl (.t (.s4 (.s4 (.s4 (.s .z))))) .c) (FJ.er (.s16 (.s16 (.s16 (.s16 (.s16 (.s16 (.s (.s .z)))))))) ?_)
 refine FJ.q (goes_sch rfl rfl) rfl (by decide) rfl (q_assign rfl (.t .z)) ?_
 refine FJ.sl rfl ?_
 refine FJ.schN ?_
 refine FJ.drawN (by kernel_rfl) ?_
 refine FJ.then_ (FJ.ret ?_)
 refine FJ.doneS (res1 rfl .z) .n ?_
 first | exact ⟨rfl, rfl⟩ | (focus (exfalso; omega)) | (focus (exfalso; simp_all; done)) | (focus (refine ⟨congrArg Value.bool ?_, rfl⟩; simp_all; done)) | (focus (refine ⟨congrArg Value.bool ?_, rfl⟩; simp_all; omega))
 refine FJ.sch [(16, true), (17, true), (18, true), (19, true), (20, true), (21, true), (22, true), (23, true), (24, true), (25, true), (26, true), (27, true), (28, true), (29, true), (30, true), (31, true), (32, true), (33, true), (34, true), (35, true), (36, false)] 0 #[true, true, true, true, true, true, true, true, true, true, true, true, true, true, true, true, true, true, true, true, true, true, true, true, true, true, true, true, true, true, true, true, true, true, true, true, true] (by rfl) (by kernel_rfl) ?_
 refine FJ.dskip rfl rfl rfl .z rfl rfl (by decide) rfl .z ?_
 refine FJ.dskip rfl rfl rfl (.s .z) rfl rfl (by decide) rfl .z ?_
 refine FJ.dskip rfl rfl rfl (.s (.s .z)) rfl rfl (by decide) rfl .z ?_
 refine FJ.dskip rfl rfl rfl (.s (.s (.s .z))) rfl rfl (by decide) rfl .z ?_
 refine FJ.dq rfl rfl rfl (by decide) rfl .z (q_pickF rfl (.t (.s4 .z)) .c) (FJ.dq rfl rfl rfl (by decide) rfl .z (q_move rfl (.t .z)) ?_)
 refine FJ.dskip rfl rfl rfl .z rfl rfl (by decide) rfl .z ?_
 refine FJ.dskip rfl rfl rfl (.s .z) rfl rfl (by decide) rfl .z ?_
 refine FJ.dskip rfl rfl rfl (.s (.s .z)) rfl rfl (by decide) rfl .z ?_
 refine FJ.dskip rfl rfl rfl (.s (.s (.s .z))) rfl rfl (by decide) rfl .z ?_
 refine FJ.dskip rfl rfl rfl .z rfl rfl (by decide) rfl .z ?_
 refine FJ.dskip rfl rfl rfl (.s .z) rfl rfl (by decide) rfl .z ?_
 refine FJ.dskip rfl rfl rfl (.s (.s .z)) rfl rfl (by decide) rfl .z ?_
 refine FJ.dskip rfl rfl rfl (.s (.s (.s .z))) rfl rfl (by decide) rfl .z ?_
 refine FJ.dskip rfl rfl rfl (.s4 .z) rfl rfl (by decide) rfl .z ?_
 refine FJ.dskip rfl rfl rfl (.s4 (.s .z)) rfl rfl (by decide) rfl .z ?_
 refine FJ.dskip rfl rfl rfl (.s4 (.s (.s .z))) rfl rfl (by decide) rfl .z ?_
 refine FJ.dskip rfl rfl rfl (.s4 (.s (.s (.s .z)))) rfl rfl (by decide) rfl .z ?_
 refine FJ.dskip rfl rfl rfl (.s4 (.s4 (.s4 .z))) rfl rfl (by decide) rfl .z ?_
 refine FJ.dq rfl rfl rfl (by decide) rfl .z (q_pickF rfl (.t (.s4 (.s4 (.s4 (.s .z))))) .c) (FJ.er (.s16 (.s16 (.s16 (.s16 (.s16 (.s16 (.s (.s .z)))))))) ?_)
 refine FJ.q (goes_sch rfl rfl) rfl (by decide) rfl (q_assign rfl (.t .z)) ?_
 refine FJ.sl rfl ?_
 refine FJ.schN ?_
 refine FJ.drawN (by kernel_rfl) ?_
 refine FJ.then_ (FJ.ret ?_)
 refine FJ.doneS (res1 rfl .z) .n ?_
 first | exact ⟨rfl, rfl⟩ | (focus (exfalso; omega)) | (focus (exfalso; simp_all; done)) | (focus (refine ⟨congrArg Value.bool ?_, rfl⟩; simp_all; done)) | (focus (refine ⟨congrArg Value.bool ?_, rfl⟩; simp_all; omega))
 refine FJ.sch [(10, true), (11, true), (12, true), (13, true), (14, true), (15, true), (16, true), (17, true), (18, true), (19, true), (20, true), (21, true), (22, true), (23, true), (24, true), (25, true), (26, true), (27, true), (28, true), (29, true), (30, true), (31, true), (32, true), (33, true), (34, true), (35, true), (36, false)] 0 #[true, true, true, true, true, true, true, true, true, true, true, true, true, true, true, true, true, true, true, true, true, true, true, true, true, true, true, true, true, true, true, true, true, true, true, true, true] (by rfl) (by kernel_rfl) ?_
 refine FJ.dskip rfl rfl rfl .z rfl rfl (by decide) rfl .z ?_
 refine FJ.dskip rfl rfl rfl (.s .z) rfl rfl (by decide) rfl .z ?_
 refine FJ.dskip rfl rfl rfl (.s (.s .z)) rfl rfl (by decide) rfl .z ?_
 refine FJ.dskip rfl rfl rfl (.s (.s (.s .z))) rfl rfl (by decide) rfl .z ?_
 refine FJ.dq rfl rfl rfl (by decide) rfl .z (q_pickF rfl (.t (.s4 .z)) .c) (FJ.dq rfl rfl rfl (by decide) rfl .z (q_move rfl (.t .z)) ?_)
 refine FJ.dskip rfl rfl rfl .z rfl rfl (by decide) rfl .z ?_
 refine FJ.dskip rfl rfl rfl (.s .z) rfl rfl (by decide) rfl .z ?_
 refine FJ.dskip rfl rfl rfl (.s (.s .z)) rfl rfl (by decide) rfl .z ?_
 refine FJ.dskip rfl rfl rfl (.s (.s (.s .z))) rfl rfl (by decide) rfl .z ?_
 refine FJ.dq rfl rfl rfl (by decide) rfl .z (q_pickF rfl (.t (.s4 .z)) .c) (FJ.dq rfl rfl rfl (by decide) rfl .z (q_move rfl (.t .z)) ?_)
 refine FJ.dskip rfl rfl rfl .z rfl rfl (by decide) rfl .z ?_
 refine FJ.dskip rfl rfl rfl (.s .z) rfl rfl (by decide) rfl .z ?_
 refine FJ.dskip rfl rfl rfl (.s (.s .z)) rfl rfl (by decide) rfl .z ?_
 refine FJ.dskip rfl rfl rfl (.s (.s (.s .z))) rfl rfl (by decide) rfl .z ?_
 refine FJ.dskip rfl rfl rfl .z rfl rfl (by decide) rfl .z ?_
 refine FJ.dskip rfl rfl rfl (.s .z) rfl rfl (by decide) rfl .z ?_
 refine FJ.dskip rfl rfl rfl (.s (.s .z)) rfl rfl (by decide) rfl .z ?_
 refine FJ.dskip rfl rfl rfl (.s (.s (.s .z))) rfl rfl (by decide) rfl .z ?_
 refine FJ.dskip rfl rfl rfl (.s4 .z) rfl rfl (by decide) rfl .z ?_
 refine FJ.dskip rfl rfl rfl (.s4 (.s .z)) rfl rfl (by decide) rfl .z ?_
 refine FJ.dskip rfl rfl rfl (.s4 (.s (.s .z))) rfl rfl (by decide) rfl .z ?_
 refine FJ.dskip rfl rfl rfl (.s4 (.s (.s (.s .z)))) rfl rfl (by decide) rfl .z ?_
 refine FJ.dskip rfl rfl rfl (.s4 (.s4 (.s4 .z))) rfl rfl (by decide) rfl .z ?_
 refine FJ.dq rfl rfl rfl (by decide) rfl .z (q_pickF rfl (.t (.s4 (.s4 (.s4 (.s .z))))) .c) (FJ.er (.s16 (.s16 (.s16 (.s16 (.s16 (.s16 (.s (.s .z)))))))) ?_)
 refine FJ.q (goes_sch rfl rfl) rfl (by decide) rfl (q_assign rfl (.t .z)) ?_
 refine FJ.sl rfl ?_
 refine FJ.schN ?_
 refine FJ.drawN (by kernel_rfl) ?_
 refine FJ.then_ (FJ.ret ?_)
 refine FJ.doneS (res1 rfl .z) .n ?_
 first | exact ⟨rfl, rfl⟩ | (focus (exfalso; omega)) | (focus (exfalso; simp_all; done)) | (focus (refine ⟨congrArg Value.bool ?_, rfl⟩; simp_all; done)) | (focus (refine ⟨congrArg Value.bool ?_, rfl⟩; simp_all; omega))
 refine FJ.sch [(4, true), (5, true), (6, true), (7, true), (8, true), (9, true), (10, true), (11, true), (12, true), (13, true), (14, true), (15, true), (16, true), (17, true), (18, true), (19, true), (20, true), (21, true), (22, true), (23, true), (24, true), (25, true), (26, true), (27, true), (28, true), (29, true), (30, true), (31, true), (32, true), (33, true), (34, true), (35, true), (36, false)] 0 #[true, true, true, true, true, true, true, true, true, true, true, true, true, true, true, true, true, true, true, true, true, true, true, true, true, true, true, true, true, true, true, true, true, true, true, true, true] (by rfl) (by kernel_rfl) ?_
 refine FJ.dskip rfl rfl rfl .z rfl rfl (by decide) rfl .z ?_
 refine FJ.dskip rfl rfl rfl (.s .z) rfl rfl (by decide) rfl .z ?_
 refine FJ.dskip rfl rfl rfl (.s (.s .z)) rfl rfl (by decide) rfl .z ?_
 refine FJ.dskip rfl rfl rfl (.s (.s (.s .z))) rfl rfl (by decide) rfl .z ?_
 refine FJ.dq rfl rfl rfl (by decide) rfl .z (q_pickF rfl (.t (.s4 .z)) .c) (FJ.dq rfl rfl rfl (by decide) rfl .z (q_move rfl (.t .z)) ?_)
 refine FJ.dskip rfl rfl rfl .z rfl rfl (by decide) rfl .z ?_
 refine FJ.dskip rfl rfl rfl (.s .z) rfl rfl (by decide) rfl .z ?_
 refine FJ.dskip rfl rfl rfl (.s (.s .z)) rfl rfl (by decide) rfl .z ?_
 refine FJ.dskip rfl rfl rfl (.s (.s (.s .z))) rfl rfl (by decide) rfl .z ?_
 refine FJ.dq rfl rfl rfl (by decide) rfl .z (q_pickF rfl (.t (.s4 .z)) .c) (FJ.dq rfl rfl rfl (by decide) rfl .z (q_move rfl (.t .z)) ?_)
 refine FJ.dskip rfl rfl rfl .z rfl rfl (by decide) rfl .z ?_
 refine FJ.dskip rfl rfl rfl (.s .z) rfl rfl (by decide) rfl .z ?_
 refine FJ.dskip rfl rfl rfl (.s (.s .z)) rfl rfl (by decide) rfl .z ?_
 refine FJ.dskip rfl rfl rfl (.s (.s (.s .z))) rfl rfl (by decide) rfl .z ?_
 refine FJ.dq rfl rfl rfl (by decide) rfl .z (q_pickF rfl (.t (.s4 .z)) .c) (FJ.dq rfl rfl rfl (by decide) rfl .z (q_move rfl (.t .z)) ?_)
 refine FJ.dskip rfl rfl rfl .z rfl rfl (by decide) rfl .z ?_
 refine FJ.dskip rfl rfl rfl (.s .z) rfl rfl (by decide) rfl .z ?_
 refine FJ.dskip rfl rfl rfl (.s (.s .z)) rfl rfl (by decide) rfl .z ?_
 refine FJ.dskip rfl rfl rfl (.s (.s (.s .z))) rfl rfl (by decide) rfl .z ?_
 refine FJ.dskip rfl rfl rfl .z rfl rfl (by decide) rfl .z ?_
 refine FJ.dskip rfl rfl rfl (.s .z) rfl rfl (by decide) rfl .z ?_
 refine FJ.dskip rfl rfl rfl (.s (.s .z)) rfl rfl (by decide) rfl .z ?_
 refine FJ.dskip rfl rfl rfl (.s (.s (.s .z))) rfl rfl (by decide) rfl .z ?_
 refine FJ.dskip rfl rfl rfl (.s4 .z) rfl rfl (by decide) rfl .z ?_
 refine FJ.dskip rfl rfl rfl (.s4 (.s .z)) rfl rfl (by decide) rfl .z ?_
 refine FJ.dskip rfl rfl rfl (.s4 (.s (.s .z))) rfl rfl (by decide) rfl .z ?_
 refine FJ.dskip rfl rfl rfl (.s4 (.s (.s (.s .z)))) rfl rfl (by decide) rfl .z ?_
 refine FJ.dskip rfl rfl rfl (.s4 (.s4 (.s4 .z))) rfl rfl (by decide) rfl .z ?_
 refine FJ.dq rfl rfl rfl (by decide) rfl .z (q_pickF rfl (.t (.s4 (.s4 (.s4 (.s .z))))) .c) (FJ.er (.s16 (.s16 (.s16 (.s16 (.s16 (.s16 (.s (.s .z)))))))) ?_)
 refine FJ.q (goes_sch rfl rfl) rfl (by decide) rfl (q_assign rfl (.t .z)) ?_
 refine FJ.sl rfl ?_
 refine FJ.schN ?_
 refine FJ.drawN (by kernel_rfl) ?_
 refine FJ.then_ (FJ.ret ?_)
 refine FJ.doneS (res1 rfl .z) .n ?_
 first | exact ⟨rfl, rfl⟩ | (focus (exfalso; omega)) | (focus (exfalso; simp_all; done)) | (focus (refine ⟨congrArg Value.bool ?_, rfl⟩; simp_all; done)) | (focus (refine ⟨congrArg Value.bool ?_, rfl⟩; simp_all; omega))
 refine FJ.sch [(4, true), (5, true), (6, true), (7, true), (8, true), (9, true), (10, true), (11, true), (12, true), (13, true), (14, true), (15, true), (16, true), (17, true), (18, true), (19, true), (20, true), (21, true)] 19 #[true, true, true, true, true, true, true, true, true, true, true, true, true, true, true, true, true, true, true, true, true, true, false, false, false, false, false, false, false, false, false, false, false, false, false, false, false, false, false, false, false] (by rfl) (by kernel_rfl) ?_
 refine FJ.dskip rfl rfl rfl .z rfl rfl (by decide) rfl .z ?_
 refine FJ.dskip rfl rfl rfl (.s .z) rfl rfl (by decide) rfl .z ?_
 refine FJ.dskip rfl rfl rfl (.s (.s .z)) rfl rfl (by decide) rfl .z ?_
 refine FJ.dq rfl rfl rfl (by decide) rfl .z (q_pickF rfl (.t (.s (.s (.s .z)))) .c) (FJ.dq rfl rfl rfl (by decide) rfl .z (q_move rfl (.t .z)) ?_)
 refine FJ.dskip rfl rfl rfl .z rfl rfl (by decide) rfl .z ?_
 refine FJ.dskip rfl rfl rfl (.s .z) rfl rfl (by decide) rfl .z ?_
 refine FJ.dskip rfl rfl rfl (.s (.s .z)) rfl rfl (by decide) rfl .z ?_
 refine FJ.dskip rfl rfl rfl (.s (.s (.s .z))) rfl rfl (by decide) rfl .z ?_
 refine FJ.dskip rfl rfl rfl (.s4 .z) rfl rfl (by decide) rfl .z ?_
 refine FJ.dskip rfl rfl rfl (.s4 (.s .z)) rfl rfl (by decide) rfl .z ?_
 refine FJ.dskip rfl rfl rfl (.s4 (.s (.s .z))) rfl rfl (by decide) rfl .z ?_
 refine FJ.dq rfl rfl rfl (by decide) rfl .z (q_pickF rfl (.t (.s4 (.s (.s (.s .z))))) .c) (FJ.dq rfl rfl rfl (by decide) rfl .z (q_move rfl (.t .z)) ?_)
 refine FJ.dqg rfl rfl rfl .z rfl (by decide) rfl .z (q_fieldAddr rfl (.t (.s16 (.s (.s .z)))) (fun _ => fa_66_0 _ _)) ?_
 refine FJ.dqg rfl rfl rfl (.s .z) rfl (by decide) rfl .z (q_load rfl ag_2 (.t .z) (WS.row .z rfl)) ?_
 refine FJ.dqg rfl rfl rfl (.s (.s .z)) rfl (by decide) rfl .z (q_neq rfl (.t .z) .c) ?_
 refine FJ.dqg rfl rfl rfl (.s (.s (.s .z))) rfl (by decide) rfl .z (q_move rfl (.t .z)) ?_
 refine FJ.schN ?_
 refine FJ.caseN .z (fun g129 => ?_) (fun g129 => ?_)
 refine FJ.sch [(22, true), (25, true), (26, true), (23, false), (24, true), (27, true), (28, true), (29, true), (30, true)] 10 #[true, true, true, true, true, true, true, true, true, true, true, true, true, true, true, true, true, true, true, true, true, true, true, true, true, true, true, true, true, true, true, false, false, false, false, false, false, false, false, false, false] (by rfl) (by kernel_rfl) ?_
 refine FJ.dqg rfl rfl rfl .z rfl (by decide) rfl .z (q_move rfl (.t (.s16 (.s4 (.s4 (.s .z)))))) ?_
 refine FJ.dqg rfl rfl rfl (.s .z) rfl (by decide) rfl .z (q_fieldAddr rfl (.t (.s16 (.s4 (.s (.s (.s .z)))))) (fun _ => fa_66_0 _ _)) ?_
 refine FJ.dqg rfl rfl rfl (.s (.s .z)) rfl (by decide) rfl .z (q_load rfl ag_2 (.t .z) (WS.row .z rfl)) ?_
 refine FJ.call (goes_schg rfl rfl rfl (.s (.s (.s .z)))) rfl (by decide) rfl (c_call rfl Try.func45 rfl rfl (args1 (.t (.s (.s .z))))) .n (fun w1 S1 hs tr => c_45 (tr.own (.s (.s (.s .z))))) ?_
 rintro _ _ ⟨v130, v132, rfl, rfl⟩
 refine FJ.cat (.c (.c .n)) ?_
 refine FJ.know (WS.oform .z) ?_
 rintro ⟨Ao134, co134, rfl, hlo134, hmo134, hbo134⟩
 refine FJ.know (WS.oform (.s .z)) ?_
 rintro ⟨Ao135, co135, rfl, hlo135, hmo135, hbo135⟩
 refine FJ.sk (.s (.s .z)) ?_
 refine FJ.dqg rfl rfl rfl (.s4 .z) rfl (by decide) rfl (.s (.s .z)) (q_field rfl (.t .z) (fun w => fv_66_0 w (.int .i64 ((unpR ws3).code)) (.int .i64 ((unpR ws3).inode.kind)) (.int .i64 ((unpR ws3).inode.links)) (.int .i64 ((unpR ws3).inode.size)) (.slice Ao134 ((unpR ws3).inode.blocks).length co134) (.slice Ao135 ((unpR ws3).inode.ents).length co135))) ?_
 refine FJ.dqg rfl rfl rfl (.s4 (.s .z)) rfl (by decide) rfl (.s (.s .z)) (q_neq rfl (.t .z) (.t (.s (.s .z)))) ?_
 refine FJ.dqg rfl rfl rfl (.s4 (.s4 (.s (.s .z)))) rfl (by decide) rfl (.s (.s .z)) (q_pickT rfl (.t (.s4 (.s (.s .z)))) (.t .z)) ?_
 refine FJ.dq rfl rfl rfl (by decide) rfl (.s (.s .z)) (q_pickF rfl (.t (.s4 (.s4 (.s (.s (.s .z)))))) (.t .z)) (FJ.dq rfl rfl rfl (by decide) rfl (.s (.s .z)) (q_move rfl (.t .z)) (FJ.schN ?_))
 refine FJ.caseN .z (fun g136 => ?_) (fun g136 => ?_)
 refine FJ.sch [(31, true), (32, true), (33, true), (34, true), (35, true), (36, true), (37, true), (38, true), (39, true), (40, false)] 0 #[true, true, true, true, true, true, true, true, true, true, true, true, true, true, true, true, true, true, true, true, true, true, true, true, true, true, true, true, true, true, true, true, true, true, true, true, true, true, true, true, true] (by rfl) (by kernel_rfl) ?_
 refine FJ.dskip rfl rfl rfl .z rfl rfl (by decide) rfl (.s (.s .z)) ?_
 refine FJ.dskip rfl rfl rfl (.s .z) rfl rfl (by decide) rfl (.s (.s .z)) ?_
 refine FJ.dskip rfl rfl rfl (.s (.s .z)) rfl rfl (by decide) rfl (.s (.s .z)) ?_
 refine FJ.dskip rfl rfl rfl (.s (.s (.s .z))) rfl rfl (by decide) rfl (.s (.s .z)) ?_
 refine FJ.dskip rfl rfl rfl .z rfl rfl (by decide) rfl (.s (.s .z)) ?_
 refine FJ.dskip rfl rfl rfl (.s .z) rfl rfl (by decide) rfl (.s (.s .z)) ?_
 refine FJ.dskip rfl rfl rfl (.s (.s .z)) rfl rfl (by decide) rfl (.s (.s .z)) ?_
 refine FJ.dskip rfl rfl rfl (.s (.s (.s .z))) rfl rfl (by decide) rfl (.s (.s .z)) ?_
 refine FJ.dskip rfl rfl rfl (.s4 (.s4 .z)) rfl rfl (by decide) rfl (.s (.s .z)) ?_
 refine FJ.q (goes_sch rfl rfl) rfl (by decide) rfl (q_pickT rfl (.t (.s4 (.s4 (.s .z)))) .c) ?_
 refine FJ.sk (.s (.s .z)) ?_
 refine FJ.schN ?_
 refine FJ.drawN (by kernel_rfl) ?_
 refine FJ.then_ ?_
 refine FJ.condT (.t .z) ?_
 refine FJ.seq (FJ.region (FJ.er (.s16 (.s16 (.s16 (.s .z)))) (FJ.ql rfl (q_assign rfl .c) (FJ.nil ?_))))
 refine FJ.then_ (FJ.ret (FJ.thenR ?_))
 refine FJ.doneS (res1 rfl .z) .n ?_
 first | exact ⟨rfl, rfl⟩ | (focus (exfalso; omega)) | (focus (exfalso; simp_all; done)) | (focus (refine ⟨congrArg Value.bool ?_, rfl⟩; simp_all; done)) | (focus (refine ⟨congrArg Value.bool ?_, rfl⟩; simp_all; omega))
 refine FJ.sch [(31, true), (32, true), (33, true), (34, true)] 6 #[true, true, true, true, true, true, true, true, true, true, true, true, true, true, true, true, true, true, true, true, true, true, true, true, true, true, true, true, true, true, true, true, true, true, true, false, false, false, false, false, false] (by rfl) (by kernel_rfl) ?_
 refine FJ.dqg rfl rfl rfl .z rfl (by decide) rfl (.s (.s .z)) (q_move rfl (.t (.s16 (.s16 (.s (.s .z)))))) ?_
 refine FJ.dqg rfl rfl rfl (.s .z) rfl (by decide) rfl (.s (.s .z)) (q_len rfl u_22 (.t .z)) ?_
 refine FJ.dqg rfl rfl rfl (.s (.s .z)) rfl (by decide) rfl (.s (.s .z)) (q_eql rfl (.t .z) .c) ?_
 refine FJ.dqg rfl rfl rfl (.s (.s (.s .z))) rfl (by decide) rfl (.s (.s .z)) (q_move rfl (.t .z)) ?_
 refine FJ.schN ?_
 refine FJ.caseP .z (fun g137 => ?_) (fun g137 => ?_)
 refine FJ.sch [(35, true), (36, false), (37, false), (38, false), (39, false), (40, false)] 0 #[true, true, true, true, true, true, true, true, true, true, true, true, true, true, true, true, true, true, true, true, true, true, true, true, true, true, true, true, true, true, true, true, true, true, true, true, true, true, true, true, true] (by rfl) (by kernel_rfl) ?_
 refine FJ.dqg rfl rfl rfl .z rfl (by decide) rfl (.s (.s .z)) (q_fieldAddr rfl (.t (.s16 (.s16 (.s (.s (.s .z)))))) (fun _ => fa_66_1 _ _)) ?_
 refine FJ.q (goes_schg rfl rfl rfl (.s .z)) rfl (by decide) rfl (q_fieldAddrA (k := 1) rfl (.t .z) (fun _ => fa_30_0 _ _) rfl) ?_
 refine FJ.sk (.s (.s .z)) ?_
 refine FJ.q (goes_schg rfl rfl rfl (.s (.s .z))) rfl (by decide) rfl (q_load rfl ag_2 (.t .z) (WS.row (.s (.s .z)) rfl)) ?_
 refine FJ.sk (.s (.s .z)) ?_
 refine FJ.q (goes_schg rfl rfl rfl (.s (.s (.s .z)))) rfl (by decide) rfl (q_neq rfl (.t .z) .c) ?_
 refine FJ.sk (.s (.s .z)) ?_
 refine FJ.q (goes_schg rfl rfl rfl (.s4 (.s4 .z))) rfl (by decide) rfl (q_pickT rfl (.t (.s4 .z)) (.t .z)) ?_
 refine FJ.sk (.s (.s .z)) ?_
 refine FJ.q (goes_sch rfl rfl) rfl (by decide) rfl (q_pickF rfl (.t (.s4 (.s4 (.s .z)))) (.t .z)) ?_
 refine FJ.sk (.s (.s .z)) ?_
 refine FJ.schN ?_
 refine FJ.drawN (by kernel_rfl) ?_
 refine FJ.then_ ?_
 refine FJ.condN (.t .z) (fun b138 => ?_) (fun b138 => ?_)
 refine FJ.seq (FJ.region (FJ.er (.s16 (.s16 (.s16 (.s .z)))) (FJ.ql rfl (q_assign rfl .c) (FJ.nil ?_))))
 refine FJ.then_ (FJ.ret (FJ.thenR ?_))
 refine FJ.doneS (res1 rfl .z) .n ?_
 first | exact ⟨rfl, rfl⟩ | (focus (exfalso; omega)) | (focus (exfalso; simp_all; done)) | (focus (refine ⟨congrArg Value.bool ?_, rfl⟩; simp_all; done)) | (focus (refine ⟨congrArg Value.bool ?_, rfl⟩; simp_all; omega))
 refine FJ.skip (FJ.then_ (FJ.seq (FJ.region (FJ.ql rfl (q_move rfl (.t (.s16 (.s16 (.s16 (.s (.s .z))))))) ?_))))
 refine FJ.call (goes_list rfl) rfl (by decide) rfl (c_call rfl Try.func46 rfl rfl (args1 (.t .z))) .n (fun w1 S1 hs tr => c_46 (tr.ctx h0)) ?_
 rintro _ _ ⟨nd139, v140, v142, hznd139, rfl, rfl⟩
 refine FJ.cat (.c (.c .n)) ?_
 obtain ⟨IC, ID⟩ := @ino_law2 nd139
 refine FJ.know (WS.oform .z) ?_
 rintro ⟨Ao144, co144, rfl, hlo144, hmo144, hbo144⟩
 refine FJ.know (WS.oform (.s .z)) ?_
 rintro ⟨Ao145, co145, rfl, hlo145, hmo145, hbo145⟩
 refine FJ.e (goes_list rfl) rfl (by decide) rfl (e_alloc rfl z_30 rfl rfl) ?_
 rintro _ _ ⟨g146, rfl, rfl⟩
 refine FJ.es (goes_list rfl) rfl (es_store (off := 0) (cs := [.int .i64 nd139.kind, .int .i64 nd139.links, .int .i64 nd139.size, .slice Ao144 nd139.blocks.length co144, .slice Ao145 nd139.ents.length co145]) rfl sz_30 (.t .z) (.t (.s .z)) rfl (ones rfl) .z (Nat.le_of_ble_eq_true rfl) (.c .z (.c (.s .z) (.c (.s (.s .z)) (.c (.s (.s (.s .z))) (.c (.s (.s (.s (.s .z)))) .n)))))) ?_
 refine FJ.nil (FJ.then_ (FJ.seq (FJ.region ?_)))
 refine FJ.ql rfl (q_loadA (cs := [.int .i64 nd139.kind, .int .i64 nd139.links, .int .i64 nd139.size, .slice Ao144 nd139.blocks.length co144, .slice Ao145 nd139.ents.length co145]) rfl ag_30 sz_30 (.t .z) (WS.rows0 .z (fun i u h => by exact h))) ?_
 refine FJ.call (goes_list rfl) rfl (by decide) rfl (c_call rfl Try.func36 rfl rfl (args1 (.t .z))) .n (fun w1 S1 hs tr => c_36 (kT_30_mk nd139 (tr.own (.s .z)) (tr.own (.s (.s .z))))) ?_
 rintro _ _ ⟨v147, rfl, rfl⟩
 refine FJ.cat (.c .n) ?_
 refine FJ.know (WS.oform .z) ?_
 rintro ⟨Ao149, co149, rfl, hlo149, hmo149, hbo149⟩
 refine FJ.e (goes_list rfl) rfl (by decide) rfl (e_alloc rfl z_57 rfl rfl) ?_
 rintro _ _ ⟨g150, rfl, rfl⟩
 refine FJ.es (goes_list rfl) rfl (es_store (off := 0) (cs := [.int .i64 ((packR nd139).code), .slice Ao149 ((packR nd139).list).length co149]) rfl sz_57 (.t .z) (.t (.s .z)) rfl (ones rfl) .z (Nat.le_of_ble_eq_true rfl) (.c .z (.c (.s .z) .n))) ?_
 refine FJ.nil (FJ.then_ (FJ.seq (FJ.seq (FJ.region ?_))))
 refine FJ.ql rfl (q_fieldAddr rfl (.t .z) (fun _ => fa_57_0 _ _)) (FJ.ql rfl (q_load rfl ag_2 (.t .z) (WS.row .z rfl)) (FJ.ql rfl (q_neq rfl (.t .z) .c) (FJ.nil (FJ.then_ ?_))))
 refine FJ.condN (.t .z) (fun b151 => ?_) (fun b151 => ?_)
 refine FJ.seq ?_
 refine FJ.draw [rowA g150 57 2 1 [.int .i64 ((packR nd139).code), .slice Ao149 ((packR nd139).list).length co149], ownA kSl_2 ((packR nd139).list) [.slice Ao149 ((packR nd139).list).length co149], rowA g146 30 5 1 [.int .i64 nd139.kind, .int .i64 nd139.links, .int .i64 nd139.size, .slice Ao144 nd139.blocks.length co144, .slice Ao145 nd139.ents.length co145], ownA kSl_2 nd139.blocks [.slice Ao144 nd139.blocks.length co144], ownA kSl_130 nd139.ents [.slice Ao145 nd139.ents.length co145], ownA kSl_2 ((unpR ws3).inode.blocks) [.slice Ao134 ((unpR ws3).inode.blocks).length co134], ownA kSl_130 ((unpR ws3).inode.ents) [.slice Ao135 ((unpR ws3).inode.ents).length co135], rowA g12 66 6 1 [.int .i64 ((unpR ws3).code), .int .i64 ((unpR ws3).inode.kind), .int .i64 ((unpR ws3).inode.links), .int .i64 ((unpR ws3).inode.size), .slice Ao10 ((unpR ws3).inode.blocks).length co10, .slice Ao11 ((unpR ws3).inode.ents).length co11], ownA kSl_2 ((unpR ws3).inode.blocks) [.slice Ao10 ((unpR ws3).inode.blocks).length co10], ownA kSl_130 ((unpR ws3).inode.ents) [.slice Ao11 ((unpR ws3).inode.ents).length co11], ownA kSl_2 ws3 [.slice Ao5 ws3.length co5]] 12 (by kernel_rfl) ?_
 refine FJ.sch [(0, true), (2, true), (3, true), (1, false), (4, true), (5, true)] 7 #[true, true, true, true, true, true, false, false, false, false, false, false, false] (by rfl) (by kernel_rfl) ?_
 refine FJ.dq rfl rfl rfl (by decide) rfl .z (q_loadA (cs := [.int .i64 nd139.kind, .int .i64 nd139.links, .int .i64 nd139.size, .slice Ao144 nd139.blocks.length co144, .slice Ao145 nd139.ents.length co145]) rfl ag_30 sz_30 (.t (.s4 (.s (.s .z)))) (WS.rows0 (.s (.s .z)) (fun i u h => by exact h))) ?_
 refine FJ.dq rfl rfl rfl (by decide) rfl .z (q_fieldAddr rfl (.t (.s4 .z)) (fun _ => fa_57_0 _ _)) (FJ.dq rfl rfl rfl (by decide) rfl .z (q_load rfl ag_2 (.t .z) (WS.row .z rfl)) ?_)
 refine FJ.call (goes_sch rfl rfl) rfl (by decide) rfl (c_call rfl Try.func20 rfl rfl (args1 (.t (.s (.s .z))))) .n (fun w1 S1 hs tr => c_20 (kT_30_mk nd139 (tr.own (.s (.s (.s .z)))) (tr.own (.s4 .z)))) ?_
 rintro _ _ ⟨rfl, rfl⟩
 refine FJ.cat .n ?_
 refine FJ.sk .z ?_
 refine FJ.dq rfl rfl rfl (by decide) rfl .z (q_eql rfl (.t .z) (.t (.s .z))) (FJ.dq rfl rfl rfl (by decide) rfl .z (q_move rfl (.t .z)) (FJ.schN ?_))
 refine FJ.caseP .z (fun g152 => ?_) (fun g152 => ?_)
 refine FJ.sch [(6, true), (8, true), (9, true), (7, false), (10, true), (11, true), (12, false)] 0 #[true, true, true, true, true, true, true, true, true, true, true, true, true] (by rfl) (by kernel_rfl) ?_
 refine FJ.dqg rfl rfl rfl .z rfl (by decide) rfl .z (q_loadA (cs := [.int .i64 nd139.kind, .int .i64 nd139.links, .int .i64 nd139.size, .slice Ao144 nd139.blocks.length co144, .slice Ao145 nd139.ents.length co145]) rfl ag_30 sz_30 (.t (.s4 (.s4 (.s4 .z)))) (WS.rows0 (.s (.s .z)) (fun i u h => by exact h))) ?_
 refine FJ.dqg rfl rfl rfl (.s .z) rfl (by decide) rfl .z (q_fieldAddr rfl (.t (.s4 (.s4 (.s (.s .z))))) (fun _ => fa_57_0 _ _)) ?_
 refine FJ.dqg rfl rfl rfl (.s (.s .z)) rfl (by decide) rfl .z (q_load rfl ag_2 (.t .z) (WS.row .z rfl)) ?_
 refine FJ.call (goes_schg rfl rfl rfl (.s (.s (.s .z)))) rfl (by decide) rfl (c_call rfl Try.func21 rfl rfl (args1 (.t (.s (.s .z))))) .n (fun w1 S1 hs tr => c_21 (kT_30_mk nd139 (tr.own (.s (.s (.s .z)))) (tr.own (.s4 .z)))) ?_
 rintro _ _ ⟨rfl, rfl⟩
 refine FJ.cat .n ?_
 refine FJ.sk .z ?_
 refine FJ.dqg rfl rfl rfl (.s4 .z) rfl (by decide) rfl .z (q_eql rfl (.t .z) (.t (.s .z))) ?_
 refine FJ.dq rfl rfl rfl (by decide) rfl .z (q_pickT rfl (.t (.s4 (.s .z))) (.t .z)) (FJ.er (.s16 (.s16 (.s16 (.s16 (.s4 (.s (.s .z))))))) ?_)
 refine FJ.q (goes_sch rfl rfl) rfl (by decide) rfl (q_assign rfl (.t .z)) ?_
 refine FJ.sl rfl ?_
 refine FJ.schN ?_
 refine FJ.drawN (by kernel_rfl) ?_
 refine FJ.then_ (FJ.ret (FJ.thenR ?_))
 refine FJ.doneS (res1 rfl .z) .n ?_
 first | exact ⟨rfl, rfl⟩ | (focus (exfalso; omega)) | (focus (exfalso; simp_all; done)) | (focus (refine ⟨congrArg Value.bool ?_, rfl⟩; simp_all; done)) | (focus (refine ⟨congrArg Value.bool ?_, rfl⟩; simp_all; omega))
 refine FJ.sch [(6, true), (7, true), (8, true), (9, true), (10, true), (11, true), (12, false)] 0 #[true, true, true, true, true, true, true, true, true, true, true, true, true] (by rfl) (by kernel_rfl) ?_
 refine FJ.dskip rfl rfl rfl .z rfl rfl (by decide) rfl .z ?_
 refine FJ.dskip rfl rfl rfl (.s .z) rfl rfl (by decide) rfl .z ?_
 refine FJ.dskip rfl rfl rfl (.s (.s .z)) rfl rfl (by decide) rfl .z ?_
 refine FJ.dskip rfl rfl rfl (.s (.s (.s .z))) rfl rfl (by decide) rfl .z ?_
 refine FJ.dskip rfl rfl rfl (.s4 .z) rfl rfl (by decide) rfl .z ?_
 refine FJ.dq rfl rfl rfl (by decide) rfl .z (q_pickF rfl (.t (.s4 (.s .z))) .c) (FJ.er (.s16 (.s16 (.s16 (.s16 (.s4 (.s (.s .z))))))) ?_)
 refine FJ.q (goes_sch rfl rfl) rfl (by decide) rfl (q_assign rfl (.t .z)) ?_
 refine FJ.sl rfl ?_
 refine FJ.schN ?_
 refine FJ.drawN (by kernel_rfl) ?_
 refine FJ.then_ (FJ.ret (FJ.thenR ?_))
 refine FJ.doneS (res1 rfl .z) .n ?_
 first | exact ⟨rfl, rfl⟩ | (focus (exfalso; omega)) | (focus (exfalso; simp_all; done)) | (focus (refine ⟨congrArg Value.bool ?_, rfl⟩; simp_all; done)) | (focus (refine ⟨congrArg Value.bool ?_, rfl⟩; simp_all; omega))
 refine FJ.skip (FJ.then_ (FJ.seq (FJ.region (FJ.ql rfl (q_fieldAddr rfl (.t (.s (.s (.s .z)))) (fun _ => fa_57_1 _ _)) ?_))))
 refine FJ.ql rfl (q_load rfl ag_22 (.t .z) (WS.row .z rfl)) ?_
 refine FJ.call (goes_list rfl) rfl (by decide) rfl (c_call rfl Try.func43 rfl rfl (args1 (.t .z))) .n (fun w1 S1 hs tr => c_43 (tr.own (.s .z))) ?_
 rintro _ _ ⟨v153, v155, rfl, rfl⟩
 refine FJ.cat (.c (.c .n)) ?_
 refine FJ.know (WS.oform .z) ?_
 rintro ⟨Ao157, co157, rfl, hlo157, hmo157, hbo157⟩
 refine FJ.know (WS.oform (.s .z)) ?_
 rintro ⟨Ao158, co158, rfl, hlo158, hmo158, hbo158⟩
 refine FJ.e (goes_list rfl) rfl (by decide) rfl (e_alloc rfl z_66 rfl rfl) ?_
 rintro _ _ ⟨g159, rfl, rfl⟩
 refine FJ.es (goes_list rfl) rfl (es_store (off := 0) (cs := [.int .i64 ((unpR ((packR nd139).list)).code), .int .i64 ((unpR ((packR nd139).list)).inode.kind), .int .i64 ((unpR ((packR nd139).list)).inode.links), .int .i64 ((unpR ((packR nd139).list)).inode.size), .slice Ao157 ((unpR ((packR nd139).list)).inode.blocks).length co157, .slice Ao158 ((unpR ((packR nd139).list)).inode.ents).length co158]) rfl sz_66 (.t .z) (.t (.s .z)) rfl (ones rfl) .z (Nat.le_of_ble_eq_true rfl) (.c .z (.c (.s .z) (.c (.s (.s .z)) (.c (.s (.s (.s .z))) (.c (.s (.s (.s (.s .z)))) (.c (.s (.s (.s (.s (.s .z))))) .n))))))) ?_
 refine FJ.nil (FJ.then_ (FJ.seq ?_))
 refine FJ.draw [rowA g159 66 6 1 [.int .i64 ((unpR ((packR nd139).list)).code), .int .i64 ((unpR ((packR nd139).list)).inode.kind), .int .i64 ((unpR ((packR nd139).list)).inode.links), .int .i64 ((unpR ((packR nd139).list)).inode.size), .slice Ao157 ((unpR ((packR nd139).list)).inode.blocks).length co157, .slice Ao158 ((unpR ((packR nd139).list)).inode.ents).length co158], ownA kSl_2 ((unpR ((packR nd139).list)).inode.blocks) [.slice Ao157 ((unpR ((packR nd139).list)).inode.blocks).length co157], ownA kSl_130 ((unpR ((packR nd139).list)).inode.ents) [.slice Ao158 ((unpR ((packR nd139).list)).inode.ents).length co158], rowA g150 57 2 1 [.int .i64 ((packR nd139).code), .slice Ao149 ((packR nd139).list).length co149], ownA kSl_2 ((packR nd139).list) [.slice Ao149 ((packR nd139).list).length co149], rowA g146 30 5 1 [.int .i64 nd139.kind, .int .i64 nd139.links, .int .i64 nd139.size, .slice Ao144 nd139.blocks.length co144, .slice Ao145 nd139.ents.length co145], ownA kSl_2 nd139.blocks [.slice Ao144 nd139.blocks.length co144], ownA kSl_130 nd139.ents [.slice Ao145 nd139.ents.length co145], ownA kSl_2 ((unpR ws3).inode.blocks) [.slice Ao134 ((unpR ws3).inode.blocks).length co134], ownA kSl_130 ((unpR ws3).inode.ents) [.slice Ao135 ((unpR ws3).inode.ents).length co135], rowA g12 66 6 1 [.int .i64 ((unpR ws3).code), .int .i64 ((unpR ws3).inode.kind), .int .i64 ((unpR ws3).inode.links), .int .i64 ((unpR ws3).inode.size), .slice Ao10 ((unpR ws3).inode.blocks).length co10, .slice Ao11 ((unpR ws3).inode.ents).length co11], ownA kSl_2 ((unpR ws3).inode.blocks) [.slice Ao10 ((unpR ws3).inode.blocks).length co10], ownA kSl_130 ((unpR ws3).inode.ents) [.slice Ao11 ((unpR ws3).inode.ents).length co11], ownA kSl_2 ws3 [.slice Ao5 ws3.length co5]] 36 (by kernel_rfl) ?_
 refine FJ.sch [(0, true), (1, true), (2, true), (3, true)] 33 #[true, true, true, true, false, false, false, false, false, false, false, false, false, false, false, false, false, false, false, false, false, false, false, false, false, false, false, false, false, false, false, false, false, false, false, false, false] (by rfl) (by kernel_rfl) ?_
 refine FJ.dq rfl rfl rfl (by decide) rfl .z (q_fieldAddr rfl (.t .z) (fun _ => fa_66_0 _ _)) (FJ.dq rfl rfl rfl (by decide) rfl .z (q_load rfl ag_2 (.t .z) (WS.row .z rfl)) (FJ.dq rfl rfl rfl (by decide) rfl .z (q_eql rfl (.t .z) .c) (FJ.dq rfl rfl rfl (by decide) rfl .z (q_move rfl (.t .z)) (FJ.schN ?_))))
 refine FJ.caseP .z (fun g160 => ?_) (fun g160 => ?_)
 refine FJ.sch [(4, true), (5, true), (6, true), (7, false), (8, true), (9, true)] 27 #[true, true, true, true, true, true, true, true, true, true, false, false, false, false, false, false, false, false, false, false, false, false, false, false, false, false, false, false, false, false, false, false, false, false, false, false, false] (by rfl) (by kernel_rfl) ?_
 refine FJ.dqg rfl rfl rfl .z rfl (by decide) rfl .z (q_fieldAddr rfl (.t (.s4 .z)) (fun _ => fa_66_1 _ _)) ?_
 refine FJ.dqg rfl rfl rfl (.s .z) rfl (by decide) rfl .z (q_loadA (cs := [.int .i64 ((unpR ((packR nd139).list)).inode.kind), .int .i64 ((unpR ((packR nd139).list)).inode.links), .int .i64 ((unpR ((packR nd139).list)).inode.size), .slice Ao157 ((unpR ((packR nd139).list)).inode.blocks).length co157, .slice Ao158 ((unpR ((packR nd139).list)).inode.ents).length co158]) rfl ag_30 sz_30 (.t .z) (WS.rows .z (sub_at rfl))) ?_
 refine FJ.dqg rfl rfl rfl (.s (.s .z)) rfl (by decide) rfl .z (q_loadA (cs := [.int .i64 nd139.kind, .int .i64 nd139.links, .int .i64 nd139.size, .slice Ao144 nd139.blocks.length co144, .slice Ao145 nd139.ents.length co145]) rfl ag_30 sz_30 (.t (.s16 .z)) (WS.rows0 (.s4 (.s .z)) (fun i u h => by exact h))) ?_
 refine FJ.call (goes_schg rfl rfl rfl (.s (.s (.s .z)))) rfl (by decide) rfl (c_call rfl Try.func18 rfl rfl (args2 (.t (.s .z)) (.t .z))) .n (fun w1 S1 hs tr => c_18 (kT_30_mk ((unpR ((packR nd139).list)).inode) (tr.own (.s .z)) (tr.own (.s (.s .z)))) (kT_30_mk nd139 (tr.own (.s4 (.s (.s .z)))) (tr.own (.s4 (.s (.s (.s .z))))))) ?_
 rintro _ _ ⟨rfl, rfl⟩
 refine FJ.cat .n ?_
 refine FJ.sk .z ?_
 refine FJ.dq rfl rfl rfl (by decide) rfl .z (q_pickT rfl (.t (.s4 .z)) (.t .z)) (FJ.dq rfl rfl rfl (by decide) rfl .z (q_move rfl (.t .z)) (FJ.schN ?_))
 refine FJ.caseP .z (fun g161 => ?_) (fun g161 => ?_)
 refine FJ.sch [(10, true), (11, true), (12, true), (13, true), (14, true), (15, true)] 21 #[true, true, true, true, true, true, true, true, true, true, true, true, true, true, true, true, false, false, false, false, false, false, false, false, false, false, false, false, false, false, false, false, false, false, false, false, false] (by rfl) (by kernel_rfl) ?_
 refine FJ.dqg rfl rfl rfl .z rfl (by decide) rfl .z (q_fieldAddr rfl (.t (.s16 (.s .z))) (fun _ => fa_57_1 _ _)) ?_
 refine FJ.dqg rfl rfl rfl (.s .z) rfl (by decide) rfl .z (q_load rfl ag_22 (.t .z) (WS.row (.s (.s (.s .z))) rfl)) ?_
 refine FJ.dqg rfl rfl rfl (.s (.s .z)) rfl (by decide) rfl .z (q_len rfl u_22 (.t .z)) ?_
 refine FJ.dqg rfl rfl rfl (.s (.s (.s .z))) rfl (by decide) rfl .z (q_geq rfl (.t .z) .c) ?_
 refine FJ.dq rfl rfl rfl (by decide) rfl .z (q_pickT rfl (.t (.s4 .z)) (.t .z)) (FJ.dq rfl rfl rfl (by decide) rfl .z (q_move rfl (.t .z)) (FJ.schN ?_))
 refine FJ.caseP .z (fun g162 => ?_) (fun g162 => ?_)
 refine FJ.sch [(16, true), (17, true), (18, true), (19, true), (20, true), (21, true)] 15 #[true, true, true, true, true, true, true, true, true, true, true, true, true, true, true, true, true, true, true, true, true, true, false, false, false, false, false, false, false, false, false, false, false, false, false, false, false] (by rfl) (by kernel_rfl) ?_
 refine FJ.dqg rfl rfl rfl .z rfl (by decide) rfl .z (q_fieldAddr rfl (.t (.s16 (.s4 (.s (.s (.s .z)))))) (fun _ => fa_57_1 _ _)) ?_
 refine FJ.dqg rfl rfl rfl (.s .z) rfl (by decide) rfl .z (q_load rfl ag_22 (.t .z) (WS.row (.s (.s (.s .z))) rfl)) ?_
 refine FJ.dqg rfl rfl rfl (.s (.s .z)) rfl (by decide) rfl .z (q_len rfl u_22 (.t .z)) ?_
 refine FJ.dqg rfl rfl rfl (.s (.s (.s .z))) rfl (by decide) rfl .z (q_leq rfl (.t .z) .c) ?_
 refine FJ.dq rfl rfl rfl (by decide) rfl .z (q_pickT rfl (.t (.s4 .z)) (.t .z)) (FJ.dq rfl rfl rfl (by decide) rfl .z (q_move rfl (.t .z)) (FJ.schN ?_))
 refine FJ.caseP .z (fun g163 => ?_) (fun g163 => ?_)
 refine FJ.sch [(22, true), (23, true), (24, true), (25, true)] 11 #[true, true, true, true, true, true, true, true, true, true, true, true, true, true, true, true, true, true, true, true, true, true, true, true, true, true, false, false, false, false, false, false, false, false, false, false, false] (by rfl) (by kernel_rfl) ?_
 refine FJ.dqg rfl rfl rfl .z rfl (by decide) rfl .z (q_fieldAddr rfl (.t (.s16 (.s16 .z))) (fun _ => fa_30_0 _ _)) ?_
 refine FJ.dqg rfl rfl rfl (.s .z) rfl (by decide) rfl .z (q_load rfl ag_2 (.t .z) (WS.row (.s4 (.s .z)) rfl)) ?_
 refine FJ.dqg rfl rfl rfl (.s (.s .z)) rfl (by decide) rfl .z (q_neq rfl (.t .z) .c) ?_
 refine FJ.dqg rfl rfl rfl (.s (.s (.s .z))) rfl (by decide) rfl .z (q_move rfl (.t .z)) ?_
 refine FJ.schN ?_
 refine FJ.caseN .z (fun g164 => ?_) (fun g164 => ?_)
 refine FJ.sch [(26, true), (27, true), (28, true), (29, true), (30, true), (31, true), (32, true), (33, true), (34, true), (35, true), (36, false)] 0 #[true, true, true, true, true, true, true, true, true, true, true, true, true, true, true, true, true, true, true, true, true, true, true, true, true, true, true, true, true, true, true, true, true, true, true, true, true] (by rfl) (by kernel_rfl) ?_
 refine FJ.dskip rfl rfl rfl .z rfl rfl (by decide) rfl .z ?_
 refine FJ.dskip rfl rfl rfl (.s .z) rfl rfl (by decide) rfl .z ?_
 refine FJ.dskip rfl rfl rfl (.s (.s .z)) rfl rfl (by decide) rfl .z ?_
 refine FJ.dskip rfl rfl rfl (.s (.s (.s .z))) rfl rfl (by decide) rfl .z ?_
 refine FJ.dskip rfl rfl rfl (.s4 .z) rfl rfl (by decide) rfl .z ?_
 refine FJ.dskip rfl rfl rfl (.s4 (.s .z)) rfl rfl (by decide) rfl .z ?_
 refine FJ.dskip rfl rfl rfl (.s4 (.s (.s .z))) rfl rfl (by decide) rfl .z ?_
 refine FJ.dskip rfl rfl rfl (.s4 (.s (.s (.s .z)))) rfl rfl (by decide) rfl .z ?_
 refine FJ.dqg rfl rfl rfl (.s4 (.s4 (.s4 .z))) rfl (by decide) rfl .z (q_pickT rfl (.t (.s4 (.s4 .z))) .c) ?_
 refine FJ.dq rfl rfl rfl (by decide) rfl .z (q_pickT rfl (.t (.s4 (.s4 (.s4 (.s .z))))) (.t .z)) (FJ.er (.s16 (.s16 (.s16 (.s16 (.s16 (.s16 (.s (.s .z)))))))) ?_)
 refine FJ.q (goes_sch rfl rfl) rfl (by decide) rfl (q_assign rfl (.t .z)) ?_
 refine FJ.sl rfl ?_
 refine FJ.schN ?_
 refine FJ.drawN (by kernel_rfl) ?_
 refine FJ.then_ (FJ.ret ?_)
 refine FJ.doneS (res1 rfl .z) .n ?_
 exact ⟨rfl, rfl⟩
 refine FJ.sch [(26, true), (27, true), (30, true), (31, true), (32, true), (28, false), (29, true), (33, true), (34, true), (35, true), (36, false)] 0 #[true, true, true, true, true, true, true, true, true, true, true, true, true, true, true, true, true, true, true, true, true, true, true, true, true, true, true, true, true, true, true, true, true, true, true, true, true] (by rfl) (by kernel_rfl) ?_
 refine FJ.dqg rfl rfl rfl .z rfl (by decide) rfl .z (q_fieldAddr rfl (.t (.s16 (.s16 (.s4 .z)))) (fun _ => fa_30_2 _ _)) ?_
 refine FJ.dqg rfl rfl rfl (.s .z) rfl (by decide) rfl .z (q_load rfl ag_2 (.t .z) (WS.row (.s4 (.s .z)) rfl)) ?_
 refine FJ.dqg rfl rfl rfl (.s (.s .z)) rfl (by decide) rfl .z (q_fieldAddr rfl (.t (.s16 (.s16 (.s4 (.s (.s .z)))))) (fun _ => fa_30_3 _ _)) ?_
 refine FJ.dqg rfl rfl rfl (.s (.s (.s .z))) rfl (by decide) rfl .z (q_load rfl ag_22 (.t .z) (WS.row (.s4 (.s .z)) rfl)) ?_
 refine FJ.dqg rfl rfl rfl (.s4 .z) rfl (by decide) rfl .z (q_len rfl u_22 (.t .z)) ?_
 refine FJ.call (goes_schg rfl rfl rfl (.s4 (.s .z))) rfl (by decide) rfl (c_call rfl Try.func47 rfl rfl (args1 (.t (.s (.s (.s .z)))))) .n (fun w1 S1 hs tr => c_47 _) ?_
 rintro _ _ ⟨rfl, rfl⟩
 refine FJ.cat .n ?_
 refine FJ.sk .z ?_
 refine FJ.dqg rfl rfl rfl (.s4 (.s (.s .z))) rfl (by decide) rfl .z (q_field rfl (.t .z) (fun w => fv_48_1 w (.int .i64 ((forR nd139.size).code)) (.int .i64 ((forR nd139.size).val)))) ?_
 refine FJ.dqg rfl rfl rfl (.s4 (.s (.s (.s .z)))) rfl (by decide) rfl .z (q_eql rfl (.t .z) (.t (.s (.s .z)))) ?_
 refine FJ.dqg rfl rfl rfl (.s4 (.s4 (.s4 .z))) rfl (by decide) rfl .z (q_pickF rfl (.t (.s4 (.s4 .z))) (.t .z)) ?_
 refine FJ.dq rfl rfl rfl (by decide) rfl .z (q_pickT rfl (.t (.s4 (.s4 (.s4 (.s .z))))) (.t .z)) (FJ.er (.s16 (.s16 (.s16 (.s16 (.s16 (.s16 (.s (.s .z)))))))) ?_)
 refine FJ.q (goes_sch rfl rfl) rfl (by decide) rfl (q_assign rfl (.t .z)) ?_
 refine FJ.sl rfl ?_
 refine FJ.schN ?_
 refine FJ.drawN (by kernel_rfl) ?_
 refine FJ.then_ (FJ.ret ?_)
 refine FJ.doneS (res1 rfl .z) .n ?_
 first | exact ⟨rfl, rfl⟩ | (focus (exfalso; omega)) | (focus (exfalso; simp_all; done)) | (focus (refine ⟨congrArg Value.bool ?_, rfl⟩; simp_all; done)) | (focus (refine ⟨congrArg Value.bool ?_, rfl⟩; simp_all; omega))
 refine FJ.sch [(22, true), (23, true), (24, true), (25, true), (26, true), (27, true), (28, true), (29, true), (30, true), (31, true), (32, true), (33, true), (34, true), (35, true), (36, false)] 0 #[true, true, true, true, true, true, true, true, true, true, true, true, true, true, true, true, true, true, true, true, true, true, true, true, true, true, true, true, true, true, true, true, true, true, true, true, true] (by rfl) (by kernel_rfl) ?_
 refine FJ.dskip rfl rfl rfl .z rfl rfl (by decide) rfl .z ?_
 refine FJ.dskip rfl rfl rfl (.s .z) rfl rfl (by decide) rfl .z ?_
 refine FJ.dskip rfl rfl rfl (.s (.s .z)) rfl rfl (by decide) rfl .z ?_
 refine FJ.dskip rfl rfl rfl (.s (.s (.s .z))) rfl rfl (by decide) rfl .z ?_
 refine FJ.dskip rfl rfl rfl .z rfl rfl (by decide) rfl .z ?_
 refine FJ.dskip rfl rfl rfl (.s .z) rfl rfl (by decide) rfl .z ?_
 refine FJ.dskip rfl rfl rfl (.s (.s .z)) rfl rfl (by decide) rfl .z ?_
 refine FJ.dskip rfl rfl rfl (.s (.s (.s .z))) rfl rfl (by decide) rfl .z ?_
 refine FJ.dskip rfl rfl rfl (.s4 .z) rfl rfl (by decide) rfl .z ?_
 refine FJ.dskip rfl rfl rfl (.s4 (.s .z)) rfl rfl (by decide) rfl .z ?_
 refine FJ.dskip rfl rfl rfl (.s4 (.s (.s .z))) rfl rfl (by decide) rfl .z ?_
 refine FJ.dskip rfl rfl rfl (.s4 (.s (.s (.s .z)))) rfl rfl (by decide) rfl .z ?_
 refine FJ.dskip rfl rfl rfl (.s4 (.s4 (.s4 .z))) rfl rfl (by decide) rfl .z ?_
 refine FJ.dq rfl rfl rfl (by decide) rfl .z (q_pickF rfl (.t (.s4 (.s4 (.s4 (.s .z))))) .c) (FJ.er (.s16 (.s16 (.s16 (.s16 (.s16 (.s16 (.s (.s .z)))))))) ?_)
 refine FJ.q (goes_sch rfl rfl) rfl (by decide) rfl (q_assign rfl (.t .z)) ?_
 refine FJ.sl rfl ?_
 refine FJ.schN ?_
 refine FJ.drawN (by kernel_rfl) ?_
 refine FJ.then_ (FJ.ret ?_)
 refine FJ.doneS (res1 rfl .z) .n ?_
 first | exact ⟨rfl, rfl⟩ | (focus (exfalso; omega)) | (focus (exfalso; simp_all; done)) | (focus (refine ⟨congrArg Value.bool ?_, rfl⟩; simp_all; done)) | (focus (refine ⟨congrArg Value.bool ?_, rfl⟩; simp_all; omega))
 refine FJ.sch [(16, true), (17, true), (18, true), (19, true), (20, true), (21, true), (22, true), (23, true), (24, true), (25, true), (26, true), (27, true), (28, true), (29, true), (30, true), (31, true), (32, true), (33, true), (34, true), (35, true), (36, false)] 0 #[true, true, true, true, true, true, true, true, true, true, true, true, true, true, true, true, true, true, true, true, true, true, true, true, true, true, true, true, true, true, true, true, true, true, true, true, true] (by rfl) (by kernel_rfl) ?_
 refine FJ.dskip rfl rfl rfl .z rfl rfl (by decide) rfl .z ?_
 refine FJ.dskip rfl rfl rfl (.s .z) rfl rfl (by decide) rfl .z ?_
 refine FJ.dskip rfl rfl rfl (.s (.s .z)) rfl rfl (by decide) rfl .z ?_
 refine FJ.dskip rfl rfl rfl (.s (.s (.s .z))) rfl rfl (by decide) rfl .z ?_
 refine FJ.dq rfl rfl rfl (by decide) rfl .z (q_pickF rfl (.t (.s4 .z)) .c) (FJ.dq rfl rfl rfl (by decide) rfl .z (q_move rfl (.t .z)) ?_)
 refine FJ.dskip rfl rfl rfl .z rfl rfl (by decide) rfl .z ?_
 refine FJ.dskip rfl rfl rfl (.s .z) rfl rfl (by decide) rfl .z ?_
 refine FJ.dskip rfl rfl rfl (.s (.s .z)) rfl rfl (by decide) rfl .z ?_
 refine FJ.dskip rfl rfl rfl (.s (.s (.s .z))) rfl rfl (by decide) rfl .z ?_
 refine FJ.dskip rfl rfl rfl .z rfl rfl (by decide) rfl .z ?_
 refine FJ.dskip rfl rfl rfl (.s .z) rfl rfl (by decide) rfl .z ?_
 refine FJ.dskip rfl rfl rfl (.s (.s .z)) rfl rfl (by decide) rfl .z ?_
 refine FJ.dskip rfl rfl rfl (.s (.s (.s .z))) rfl rfl (by decide) rfl .z ?_
 refine FJ.dskip rfl rfl rfl (.s4 .z) rfl rfl (by decide) rfl .z ?_
 refine FJ.dskip rfl rfl rfl (.s4 (.s .z)) rfl rfl (by decide) rfl .z ?_
 refine FJ.dskip rfl rfl rfl (.s4 (.s (.s .z))) rfl rfl (by decide) rfl .z ?_
 refine FJ.dskip rfl rfl rfl (.s4 (.s (.s (.s .z)))) rfl rfl (by decide) rfl .z ?_
 refine FJ.dskip rfl rfl rfl (.s4 (.s4 (.s4 .z))) rfl rfl (by decide) rfl .z ?_
 refine FJ.dq rfl rfl rfl (by decide) rfl .z (q_pickF rfl (.t (.s4 (.s4 (.s4 (.s .z))))) .c) (FJ.er (.s16 (.s16 (.s16 (.s16 (.s16 (.s16 (.s (.s .z)))))))) ?_)
 refine FJ.q (goes_sch rfl rfl) rfl (by decide) rfl (q_assign rfl (.t .z)) ?_
 refine FJ.sl rfl ?_
 refine FJ.schN ?_
 refine FJ.drawN (by kernel_rfl) ?_
 refine FJ.then_ (FJ.ret ?_)
 refine FJ.doneS (res1 rfl .z) .n ?_
 first | exact ⟨rfl, rfl⟩ | (focus (exfalso; omega)) | (focus (exfalso; simp_all; done)) | (focus (refine ⟨congrArg Value.bool ?_, rfl⟩; simp_all; done)) | (focus (refine ⟨congrArg Value.bool ?_, rfl⟩; simp_all; omega))
 refine FJ.sch [(10, true), (11, true), (12, true), (13, true), (14, true), (15, true), (16, true), (17, true), (18, true), (19, true), (20, true), (21, true), (22, true), (23, true), (24, true), (25, true), (26, true), (27, true), (28, true), (29, true), (30, true), (31, true), (32, true), (33, true), (34, true), (35, true), (36, false)] 0 #[true, true, true, true, true, true, true, true, true, true, true, true, true, true, true, true, true, true, true, true, true, true, true, true, true, true, true, true, true, true, true, true, true, true, true, true, true] (by rfl) (by kernel_rfl) ?_
 refine FJ.dskip rfl rfl rfl .z rfl rfl (by decide) rfl .z ?_
 refine FJ.dskip rfl rfl rfl (.s .z) rfl rfl (by decide) rfl .z ?_
 refine FJ.dskip rfl rfl rfl (.s (.s .z)) rfl rfl (by decide) rfl .z ?_
 refine FJ.dskip rfl rfl rfl (.s (.s (.s .z))) rfl rfl (by decide) rfl .z ?_
 refine FJ.dq rfl rfl rfl (by decide) rfl .z (q_pickF rfl (.t (.s4 .z)) .c) (FJ.dq rfl rfl rfl (by decide) rfl .z (q_move rfl (.t .z)) ?_)
 refine FJ.dskip rfl rfl rfl .z rfl rfl (by decide) rfl .z ?_
 refine FJ.dskip rfl rfl rfl (.s .z) rfl rfl (by decide) rfl .z ?_
 refine FJ.dskip rfl rfl rfl (.s (.s .z)) rfl rfl (by decide) rfl .z ?_
 refine FJ.dskip rfl rfl rfl (.s (.s (.s .z))) rfl rfl (by decide) rfl .z ?_
 refine FJ.dq rfl rfl rfl (by decide) rfl .z (q_pickF rfl (.t (.s4 .z)) .c) (FJ.dq rfl rfl rfl (by decide) rfl .z (q_move rfl (.t .z)) ?_)
 refine FJ.dskip rfl rfl rfl .z rfl rfl (by decide) rfl .z ?_
 refine FJ.dskip rfl rfl rfl (.s .z) rfl rfl (by decide) rfl .z ?_
 refine FJ.dskip rfl rfl rfl (.s (.s .z)) rfl rfl (by decide) rfl .z ?_
 refine FJ.dskip rfl rfl rfl (.s (.s (.s .z))) rfl rfl (by decide) rfl .z ?_
 refine FJ.dskip rfl rfl rfl .z rfl rfl (by decide) rfl .z ?_
 refine FJ.dskip rfl rfl rfl (.s .z) rfl rfl (by decide) rfl .z ?_
 refine FJ.dskip rfl rfl rfl (.s (.s .z)) rfl rfl (by decide) rfl .z ?_
 refine FJ.dskip rfl rfl rfl (.s (.s (.s .z))) rfl rfl (by decide) rfl .z ?_
 refine FJ.dskip rfl rfl rfl (.s4 .z) rfl rfl (by decide) rfl .z ?_
 refine FJ.dskip rfl rfl rfl (.s4 (.s .z)) rfl rfl (by decide) rfl .z ?_
 refine FJ.dskip rfl rfl rfl (.s4 (.s (.s .z))) rfl rfl (by decide) rfl .z ?_
 refine FJ.dskip rfl rfl rfl (.s4 (.s (.s (.s .z)))) rfl rfl (by decide) rfl .z ?_
 refine FJ.dskip rfl rfl rfl (.s4 (.s4 (.s4 .z))) rfl rfl (by decide) rfl .z ?_
 refine FJ.dq rfl rfl rfl (by decide) rfl .z (q_pickF rfl (.t (.s4 (.s4 (.s4 (.s .z))))) .c) (FJ.er (.s16 (.s16 (.s16 (.s16 (.s16 (.s16 (.s (.s .z)))))))) ?_)
 refine FJ.q (goes_sch rfl rfl) rfl (by decide) rfl (q_assign rfl (.t .z)) ?_
 refine FJ.sl rfl ?_
 refine FJ.schN ?_
 refine FJ.drawN (by kernel_rfl) ?_
 refine FJ.then_ (FJ.ret ?_)
 refine FJ.doneS (res1 rfl .z) .n ?_
 first | exact ⟨rfl, rfl⟩ | (focus (exfalso; omega)) | (focus (exfalso; simp_all; done)) | (focus (refine ⟨congrArg Value.bool ?_, rfl⟩; simp_all; done)) | (focus (refine ⟨congrArg Value.bool ?_, rfl⟩; simp_all; omega))
 refine FJ.sch [(4, true), (5, true), (6, true), (7, true), (8, true), (9, true), (10, true), (11, true), (12, true), (13, true), (14, true), (15, true), (16, true), (17, true), (18, true), (19, true), (20, true), (21, true), (22, true), (23, true), (24, true), (25, true), (26, true), (27, true), (28, true), (29, true), (30, true), (31, true), (32, true), (33, true), (34, true), (35, true), (36, false)] 0 #[true, true, true, true, true, true, true, true, true, true, true, true, true, true, true, true, true, true, true, true, true, true, true, true, true, true, true, true, true, true, true, true, true, true, true, true, true] (by rfl) (by kernel_rfl) ?_
 refine FJ.dskip rfl rfl rfl .z rfl rfl (by decide) rfl .z ?_
 refine FJ.dskip rfl rfl rfl (.s .z) rfl rfl (by decide) rfl .z ?_
 refine FJ.dskip rfl rfl rfl (.s (.s .z)) rfl rfl (by decide) rfl .z ?_
 refine FJ.dskip rfl rfl rfl (.s (.s (.s .z))) rfl rfl (by decide) rfl .z ?_
 refine FJ.dq rfl rfl rfl (by decide) rfl .z (q_pickF rfl (.t (.s4 .z)) .c) (FJ.dq rfl rfl rfl (by decide) rfl .z (q_move rfl (.t .z)) ?_)
 refine FJ.dskip rfl rfl rfl .z rfl rfl (by decide) rfl .z ?_
 refine FJ.dskip rfl rfl rfl (.s .z) rfl rfl (by decide) rfl .z ?_
 refine FJ.dskip rfl rfl rfl (.s (.s .z)) rfl rfl (by decide) rfl .z ?_
 refine FJ.dskip rfl rfl rfl (.s (.s (.s .z))) rfl rfl (by decide) rfl .z ?_
 refine FJ.dq rfl rfl rfl (by decide) rfl .z (q_pickF rfl (.t (.s4 .z)) .c) (FJ.dq rfl rfl rfl (by decide) rfl .z (q_move rfl (.t .z)) ?_)
 refine FJ.dskip rfl rfl rfl .z rfl rfl (by decide) rfl .z ?_
 refine FJ.dskip rfl rfl rfl (.s .z) rfl rfl (by decide) rfl .z ?_
 refine FJ.dskip rfl rfl rfl (.s (.s .z)) rfl rfl (by decide) rfl .z ?_
 refine FJ.dskip rfl rfl rfl (.s (.s (.s .z))) rfl rfl (by decide) rfl .z ?_
 refine FJ.dq rfl rfl rfl (by decide) rfl .z (q_pickF rfl (.t (.s4 .z)) .c) (FJ.dq rfl rfl rfl (by decide) rfl .z (q_move rfl (.t .z)) ?_)
 refine FJ.dskip rfl rfl rfl .z rfl rfl (by decide) rfl .z ?_
 refine FJ.dskip rfl rfl rfl (.s .z) rfl rfl (by decide) rfl .z ?_
 refine FJ.dskip rfl rfl rfl (.s (.s .z)) rfl rfl (by decide) rfl .z ?_
 refine FJ.dskip rfl rfl rfl (.s (.s (.s .z))) rfl rfl (by decide) rfl .z ?_
 refine FJ.dskip rfl rfl rfl .z rfl rfl (by decide) rfl .z ?_
 refine FJ.dskip rfl rfl rfl (.s .z) rfl rfl (by decide) rfl .z ?_
 refine FJ.dskip rfl rfl rfl (.s (.s .z)) rfl rfl (by decide) rfl .z ?_
 refine FJ.dskip rfl rfl rfl (.s (.s (.s .z))) rfl rfl (by decide) rfl .z ?_
 refine FJ.dskip rfl rfl rfl (.s4 .z) rfl rfl (by decide) rfl .z ?_
 refine FJ.dskip rfl rfl rfl (.s4 (.s .z)) rfl rfl (by decide) rfl .z ?_
 refine FJ.dskip rfl rfl rfl (.s4 (.s (.s .z))) rfl rfl (by decide) rfl .z ?_
 refine FJ.dskip rfl rfl rfl (.s4 (.s (.s (.s .z)))) rfl rfl (by decide) rfl .z ?_
 refine FJ.dskip rfl rfl rfl (.s4 (.s4 (.s4 .z))) rfl rfl (by decide) rfl .z ?_
 refine FJ.dq rfl rfl rfl (by decide) rfl .z (q_pickF rfl (.t (.s4 (.s4 (.s4 (.s .z))))) .c) (FJ.er (.s16 (.s16 (.s16 (.s16 (.s16 (.s16 (.s (.s .z)))))))) ?_)
 refine FJ.q (goes_sch rfl rfl) rfl (by decide) rfl (q_assign rfl (.t .z)) ?_
 refine FJ.sl rfl ?_
 refine FJ.schN ?_
 refine FJ.drawN (by kernel_rfl) ?_
 refine FJ.then_ (FJ.ret ?_)
 refine FJ.doneS (res1 rfl .z) .n ?_
 first | exact ⟨rfl, rfl⟩ | (focus (exfalso; omega)) | (focus (exfalso; simp_all; done)) | (focus (refine ⟨congrArg Value.bool ?_, rfl⟩; simp_all; done)) | (focus (refine ⟨congrArg Value.bool ?_, rfl⟩; simp_all; omega))
 refine FJ.sch [(35, true), (36, true), (37, true), (38, true), (39, false), (40, false)] 0 #[true, true, true, true, true, true, true, true, true, true, true, true, true, true, true, true, true, true, true, true, true, true, true, true, true, true, true, true, true, true, true, true, true, true, true, true, true, true, true, true, true] (by rfl) (by kernel_rfl) ?_
 refine FJ.dskip rfl rfl rfl .z rfl rfl (by decide) rfl (.s (.s .z)) ?_
 refine FJ.dskip rfl rfl rfl (.s .z) rfl rfl (by decide) rfl (.s (.s .z)) ?_
 refine FJ.dskip rfl rfl rfl (.s (.s .z)) rfl rfl (by decide) rfl (.s (.s .z)) ?_
 refine FJ.dskip rfl rfl rfl (.s (.s (.s .z))) rfl rfl (by decide) rfl (.s (.s .z)) ?_
 refine FJ.q (goes_schg rfl rfl rfl (.s4 (.s4 .z))) rfl (by decide) rfl (q_pickF rfl (.t (.s4 .z)) .c) ?_
 refine FJ.sk (.s (.s .z)) ?_
 refine FJ.q (goes_sch rfl rfl) rfl (by decide) rfl (q_pickF rfl (.t (.s4 (.s4 (.s .z)))) (.t .z)) ?_
 refine FJ.sk (.s (.s .z)) ?_
 refine FJ.schN ?_
 refine FJ.drawN (by kernel_rfl) ?_
 refine FJ.then_ ?_
 refine FJ.condF (.t .z) ?_
 refine FJ.skip (FJ.then_ (FJ.seq (FJ.region (FJ.ql rfl (q_move rfl (.t (.s16 (.s16 (.s16 (.s (.s .z))))))) ?_))))
 refine FJ.call (goes_list rfl) rfl (by decide) rfl (c_call rfl Try.func46 rfl rfl (args1 (.t .z))) .n (fun w1 S1 hs tr => c_46 (tr.ctx h0)) ?_
 rintro _ _ ⟨nd165, v166, v168, hznd165, rfl, rfl⟩
 refine FJ.cat (.c (.c .n)) ?_
 obtain ⟨IC, ID⟩ := @ino_law2 nd165
 refine FJ.know (WS.oform .z) ?_
 rintro ⟨Ao170, co170, rfl, hlo170, hmo170, hbo170⟩
 refine FJ.know (WS.oform (.s .z)) ?_
 rintro ⟨Ao171, co171, rfl, hlo171, hmo171, hbo171⟩
 refine FJ.e (goes_list rfl) rfl (by decide) rfl (e_alloc rfl z_30 rfl rfl) ?_
 rintro _ _ ⟨g172, rfl, rfl⟩
 refine FJ.es (goes_list rfl) rfl (es_store (off := 0) (cs := [.int .i64 nd165.kind, .int .i64 nd165.links, .int .i64 nd165.size, .slice Ao170 nd165.blocks.length co170, .slice Ao171 nd165.ents.length co171]) rfl sz_30 (.t .z) (.t (.s .z)) rfl (ones rfl) .z (Nat.le_of_ble_eq_true rfl) (.c .z (.c (.s .z) (.c (.s (.s .z)) (.c (.s (.s (.s .z))) (.c (.s (.s (.s (.s .z)))) .n)))))) ?_
 refine FJ.nil (FJ.then_ (FJ.seq (FJ.region ?_)))
 refine FJ.ql rfl (q_loadA (cs := [.int .i64 nd165.kind, .int .i64 nd165.links, .int .i64 nd165.size, .slice Ao170 nd165.blocks.length co170, .slice Ao171 nd165.ents.length co171]) rfl ag_30 sz_30 (.t .z) (WS.rows0 .z (fun i u h => by exact h))) ?_
 refine FJ.call (goes_list rfl) rfl (by decide) rfl (c_call rfl Try.func36 rfl rfl (args1 (.t .z))) .n (fun w1 S1 hs tr => c_36 (kT_30_mk nd165 (tr.own (.s .z)) (tr.own (.s (.s .z))))) ?_
 rintro _ _ ⟨v173, rfl, rfl⟩
 refine FJ.cat (.c .n) ?_
 refine FJ.know (WS.oform .z) ?_
 rintro ⟨Ao175, co175, rfl, hlo175, hmo175, hbo175⟩
 refine FJ.e (goes_list rfl) rfl (by decide) rfl (e_alloc rfl z_57 rfl rfl) ?_
 rintro _ _ ⟨g176, rfl, rfl⟩
 refine FJ.es (goes_list rfl) rfl (es_store (off := 0) (cs := [.int .i64 ((packR nd165).code), .slice Ao175 ((packR nd165).list).length co175]) rfl sz_57 (.t .z) (.t (.s .z)) rfl (ones rfl) .z (Nat.le_of_ble_eq_true rfl) (.c .z (.c (.s .z) .n))) ?_
 refine FJ.nil (FJ.then_ (FJ.seq (FJ.seq (FJ.region ?_))))
 refine FJ.ql rfl (q_fieldAddr rfl (.t .z) (fun _ => fa_57_0 _ _)) (FJ.ql rfl (q_load rfl ag_2 (.t .z) (WS.row .z rfl)) (FJ.ql rfl (q_neq rfl (.t .z) .c) (FJ.nil (FJ.then_ ?_))))
 refine FJ.condN (.t .z) (fun b177 => ?_) (fun b177 => ?_)
 refine FJ.seq ?_
 refine FJ.draw [rowA g176 57 2 1 [.int .i64 ((packR nd165).code), .slice Ao175 ((packR nd165).list).length co175], ownA kSl_2 ((packR nd165).list) [.slice Ao175 ((packR nd165).list).length co175], rowA g172 30 5 1 [.int .i64 nd165.kind, .int .i64 nd165.links, .int .i64 nd165.size, .slice Ao170 nd165.blocks.length co170, .slice Ao171 nd165.ents.length co171], ownA kSl_2 nd165.blocks [.slice Ao170 nd165.blocks.length co170], ownA kSl_130 nd165.ents [.slice Ao171 nd165.ents.length co171], ownA kSl_2 ((unpR ws3).inode.blocks) [.slice Ao134 ((unpR ws3).inode.blocks).length co134], ownA kSl_130 ((unpR ws3).inode.ents) [.slice Ao135 ((unpR ws3).inode.ents).length co135], rowA g12 66 6 1 [.int .i64 ((unpR ws3).code), .int .i64 ((unpR ws3).inode.kind), .int .i64 ((unpR ws3).inode.links), .int .i64 ((unpR ws3).inode.size), .slice Ao10 ((unpR ws3).inode.blocks).length co10, .slice Ao11 ((unpR ws3).inode.ents).length co11], ownA kSl_2 ((unpR ws3).inode.blocks) [.slice Ao10 ((unpR ws3).inode.blocks).length co10], ownA kSl_130 ((unpR ws3).inode.ents) [.slice Ao11 ((unpR ws3).inode.ents).length co11], ownA kSl_2 ws3 [.slice Ao5 ws3.length co5]] 12 (by kernel_rfl) ?_
 refine FJ.sch [(0, true), (2, true), (3, true), (1, false), (4, true), (5, true)] 7 #[true, true, true, true, true, true, false, false, false, false, false, false, false] (by rfl) (by kernel_rfl) ?_
 refine FJ.dq rfl rfl rfl (by decide) rfl .z (q_loadA (cs := [.int .i64 nd165.kind, .int .i64 nd165.links, .int .i64 nd165.size, .slice Ao170 nd165.blocks.length co170, .slice Ao171 nd165.ents.length co171]) rfl ag_30 sz_30 (.t (.s4 (.s (.s .z)))) (WS.rows0 (.s (.s .z)) (fun i u h => by exact h))) ?_
 refine FJ.dq rfl rfl rfl (by decide) rfl .z (q_fieldAddr rfl (.t (.s4 .z)) (fun _ => fa_57_0 _ _)) (FJ.dq rfl rfl rfl (by decide) rfl .z (q_load rfl ag_2 (.t .z) (WS.row .z rfl)) ?_)
 refine FJ.call (goes_sch rfl rfl) rfl (by decide) rfl (c_call rfl Try.func20 rfl rfl (args1 (.t (.s (.s .z))))) .n (fun w1 S1 hs tr => c_20 (kT_30_mk nd165 (tr.own (.s (.s (.s .z)))) (tr.own (.s4 .z)))) ?_
 rintro _ _ ⟨rfl, rfl⟩
 refine FJ.cat .n ?_
 refine FJ.sk .z ?_
 refine FJ.dq rfl rfl rfl (by decide) rfl .z (q_eql rfl (.t .z) (.t (.s .z))) (FJ.dq rfl rfl rfl (by decide) rfl .z (q_move rfl (.t .z)) (FJ.schN ?_))
 refine FJ.caseP .z (fun g178 => ?_) (fun g178 => ?_)
 refine FJ.sch [(6, true), (8, true), (9, true), (7, false), (10, true), (11, true), (12, false)] 0 #[true, true, true, true, true, true, true, true, true, true, true, true, true] (by rfl) (by kernel_rfl) ?_
 refine FJ.dqg rfl rfl rfl .z rfl (by decide) rfl .z (q_loadA (cs := [.int .i64 nd165.kind, .int .i64 nd165.links, .int .i64 nd165.size, .slice Ao170 nd165.blocks.length co170, .slice Ao171 nd165.ents.length co171]) rfl ag_30 sz_30 (.t (.s4 (.s4 (.s4 .z)))) (WS.rows0 (.s (.s .z)) (fun i u h => by exact h))) ?_
 refine FJ.dqg rfl rfl rfl (.s .z) rfl (by decide) rfl .z (q_fieldAddr rfl (.t (.s4 (.s4 (.s (.s .z))))) (fun _ => fa_57_0 _ _)) ?_
 refine FJ.dqg rfl rfl rfl (.s (.s .z)) rfl (by decide) rfl .z (q_load rfl ag_2 (.t .z) (WS.row .z rfl)) ?_
 refine FJ.call (goes_schg rfl rfl rfl (.s (.s (.s .z)))) rfl (by decide) rfl (c_call rfl Try.func21 rfl rfl (args1 (.t (.s (.s .z))))) .n (fun w1 S1 hs tr => c_21 (kT_30_mk nd165 (tr.own (.s (.s (.s .z)))) (tr.own (.s4 .z)))) ?_
 rintro _ _ ⟨rfl, rfl⟩
 refine FJ.cat .n ?_
 refine FJ.sk .z ?_
 refine FJ.dqg rfl rfl rfl (.s4 .z) rfl (by decide) rfl .z (q_eql rfl (.t .z) (.t (.s .z))) ?_
 refine FJ.dq rfl rfl rfl (by decide) rfl .z (q_pickT rfl (.t (.s4 (.s .z))) (.t .z)) (FJ.er (.s16 (.s16 (.s16 (.s16 (.s4 (.s (.s .z))))))) ?_)
 refine FJ.q (goes_sch rfl rfl) rfl (by decide) rfl (q_assign rfl (.t .z)) ?_
 refine FJ.sl rfl ?_
 refine FJ.schN ?_
 refine FJ.drawN (by kernel_rfl) ?_
 refine FJ.then_ (FJ.ret (FJ.thenR ?_))
 refine FJ.doneS (res1 rfl .z) .n ?_
 first | exact ⟨rfl, rfl⟩ | (focus (exfalso; omega)) | (focus (exfalso; simp_all; done)) | (focus (refine ⟨congrArg Value.bool ?_, rfl⟩; simp_all; done)) | (focus (refine ⟨congrArg Value.bool ?_, rfl⟩; simp_all; omega))
 refine FJ.sch [(6, true), (7, true), (8, true), (9, true), (10, true), (11, true), (12, false)] 0 #[true, true, true, true, true, true, true, true, true, true, true, true, true] (by rfl) (by kernel_rfl) ?_
 refine FJ.dskip rfl rfl rfl .z rfl rfl (by decide) rfl .z ?_
 refine FJ.dskip rfl rfl rfl (.s .z) rfl rfl (by decide) rfl .z ?_
 refine FJ.dskip rfl rfl rfl (.s (.s .z)) rfl rfl (by decide) rfl .z ?_
 refine FJ.dskip rfl rfl rfl (.s (.s (.s .z))) rfl rfl (by decide) rfl .z ?_
 refine FJ.dskip rfl rfl rfl (.s4 .z) rfl rfl (by decide) rfl .z ?_
 refine FJ.dq rfl rfl rfl (by decide) rfl .z (q_pickF rfl (.t (.s4 (.s .z))) .c) (FJ.er (.s16 (.s16 (.s16 (.s16 (.s4 (.s (.s .z))))))) ?_)
 refine FJ.q (goes_sch rfl rfl) rfl (by decide) rfl (q_assign rfl (.t .z)) ?_
 refine FJ.sl rfl ?_
 refine FJ.schN ?_
 refine FJ.drawN (by kernel_rfl) ?_
 refine FJ.then_ (FJ.ret (FJ.thenR ?_))
 refine FJ.doneS (res1 rfl .z) .n ?_
 first | exact ⟨rfl, rfl⟩ | (focus (exfalso; omega)) | (focus (exfalso; simp_all; done)) | (focus (refine ⟨congrArg Value.bool ?_, rfl⟩; simp_all; done)) | (focus (refine ⟨congrArg Value.bool ?_, rfl⟩; simp_all; omega))
 refine FJ.skip (FJ.then_ (FJ.seq (FJ.region (FJ.ql rfl (q_fieldAddr rfl (.t (.s (.s (.s .z)))) (fun _ => fa_57_1 _ _)) ?_))))
 refine FJ.ql rfl (q_load rfl ag_22 (.t .z) (WS.row .z rfl)) ?_
 refine FJ.call (goes_list rfl) rfl (by decide) rfl (c_call rfl Try.func43 rfl rfl (args1 (.t .z))) .n (fun w1 S1 hs tr => c_43 (tr.own (.s .z))) ?_
 rintro _ _ ⟨v179, v181, rfl, rfl⟩
 refine FJ.cat (.c (.c .n)) ?_
 refine FJ.know (WS.oform .z) ?_
 rintro ⟨Ao183, co183, rfl, hlo183, hmo183, hbo183⟩
 refine FJ.know (WS.oform (.s .z)) ?_
 rintro ⟨Ao184, co184, rfl, hlo184, hmo184, hbo184⟩
 refine FJ.e (goes_list rfl) rfl (by decide) rfl (e_alloc rfl z_66 rfl rfl) ?_
 rintro _ _ ⟨g185, rfl, rfl⟩
 refine FJ.es (goes_list rfl) rfl (es_store (off := 0) (cs := [.int .i64 ((unpR ((packR nd165).list)).code), .int .i64 ((unpR ((packR nd165).list)).inode.kind), .int .i64 ((unpR ((packR nd165).list)).inode.links), .int .i64 ((unpR ((packR nd165).list)).inode.size), .slice Ao183 ((unpR ((packR nd165).list)).inode.blocks).length co183, .slice Ao184 ((unpR ((packR nd165).list)).inode.ents).length co184]) rfl sz_66 (.t .z) (.t (.s .z)) rfl (ones rfl) .z (Nat.le_of_ble_eq_true rfl) (.c .z (.c (.s .z) (.c (.s (.s .z)) (.c (.s (.s (.s .z))) (.c (.s (.s (.s (.s .z)))) (.c (.s (.s (.s (.s (.s .z))))) .n))))))) ?_
 refine FJ.nil (FJ.then_ (FJ.seq ?_))
 refine FJ.draw [rowA g185 66 6 1 [.int .i64 ((unpR ((packR nd165).list)).code), .int .i64 ((unpR ((packR nd165).list)).inode.kind), .int .i64 ((unpR ((packR nd165).list)).inode.links), .int .i64 ((unpR ((packR nd165).list)).inode.size), .slice Ao183 ((unpR ((packR nd165).list)).inode.blocks).length co183, .slice Ao184 ((unpR ((packR nd165).list)).inode.ents).length co184], ownA kSl_2 ((unpR ((packR nd165).list)).inode.blocks) [.slice Ao183 ((unpR ((packR nd165).list)).inode.blocks).length co183], ownA kSl_130 ((unpR ((packR nd165).list)).inode.ents) [.slice Ao184 ((unpR ((packR nd165).list)).inode.ents).length co184], rowA g176 57 2 1 [.int .i64 ((packR nd165).code), .slice Ao175 ((packR nd165).list).length co175], ownA kSl_2 ((packR nd165).list) [.slice Ao175 ((packR nd165).list).length co175], rowA g172 30 5 1 [.int .i64 nd165.kind, .int .i64 nd165.links, .int .i64 nd165.size, .slice Ao170 nd165.blocks.length co170, .slice Ao171 nd165.ents.length co171], ownA kSl_2 nd165.blocks [.slice Ao170 nd165.blocks.length co170], ownA kSl_130 nd165.ents [.slice Ao171 nd165.ents.length co171], ownA kSl_2 ((unpR ws3).inode.blocks) [.slice Ao134 ((unpR ws3).inode.blocks).length co134], ownA kSl_130 ((unpR ws3).inode.ents) [.slice Ao135 ((unpR ws3).inode.ents).length co135], rowA g12 66 6 1 [.int .i64 ((unpR ws3).code), .int .i64 ((unpR ws3).inode.kind), .int .i64 ((unpR ws3).inode.links), .int .i64 ((unpR ws3).inode.size), .slice Ao10 ((unpR ws3).inode.blocks).length co10, .slice Ao11 ((unpR ws3).inode.ents).length co11], ownA kSl_2 ((unpR ws3).inode.blocks) [.slice Ao10 ((unpR ws3).inode.blocks).length co10], ownA kSl_130 ((unpR ws3).inode.ents) [.slice Ao11 ((unpR ws3).inode.ents).length co11], ownA kSl_2 ws3 [.slice Ao5 ws3.length co5]] 36 (by kernel_rfl) ?_
 refine FJ.sch [(0, true), (1, true), (2, true), (3, true)] 33 #[true, true, true, true, false, false, false, false, false, false, false, false, false, false, false, false, false, false, false, false, false, false, false, false, false, false, false, false, false, false, false, false, false, false, false, false, false] (by rfl) (by kernel_rfl) ?_
 refine FJ.dq rfl rfl rfl (by decide) rfl .z (q_fieldAddr rfl (.t .z) (fun _ => fa_66_0 _ _)) (FJ.dq rfl rfl rfl (by decide) rfl .z (q_load rfl ag_2 (.t .z) (WS.row .z rfl)) (FJ.dq rfl rfl rfl (by decide) rfl .z (q_eql rfl (.t .z) .c) (FJ.dq rfl rfl rfl (by decide) rfl .z (q_move rfl (.t .z)) (FJ.schN ?_))))
 refine FJ.caseP .z (fun g186 => ?_) (fun g186 => ?_)
 refine FJ.sch [(4, true), (5, true), (6, true), (7, false), (8, true), (9, true)] 27 #[true, true, true, true, true, true, true, true, true, true, false, false, false, false, false, false, false, false, false, false, false, false, false, false, false, false, false, false, false, false, false, false, false, false, false, false, false] (by rfl) (by kernel_rfl) ?_
 refine FJ.dqg rfl rfl rfl .z rfl (by decide) rfl .z (q_fieldAddr rfl (.t (.s4 .z)) (fun _ => fa_66_1 _ _)) ?_
 refine FJ.dqg rfl rfl rfl (.s .z) rfl (by decide) rfl .z (q_loadA (cs := [.int .i64 ((unpR ((packR nd165).list)).inode.kind), .int .i64 ((unpR ((packR nd165).list)).inode.links), .int .i64 ((unpR ((packR nd165).list)).inode.size), .slice Ao183 ((unpR ((packR nd165).list)).inode.blocks).length co183, .slice Ao184 ((unpR ((packR nd165).list)).inode.ents).length co184]) rfl ag_30 sz_30 (.t .z) (WS.rows .z (sub_at rfl))) ?_
 refine FJ.dqg rfl rfl rfl (.s (.s .z)) rfl (by decide) rfl .z (q_loadA (cs := [.int .i64 nd165.kind, .int .i64 nd165.links, .int .i64 nd165.size, .slice Ao170 nd165.blocks.length co170, .slice Ao171 nd165.ents.length co171]) rfl ag_30 sz_30 (.t (.s16 .z)) (WS.rows0 (.s4 (.s .z)) (fun i u h => by exact h))) ?_
 refine FJ.call (goes_schg rfl rfl rfl (.s (.s (.s .z)))) rfl (by decide) rfl (c_call rfl Try.func18 rfl rfl (args2 (.t (.s .z)) (.t .z))) .n (fun w1 S1 hs tr => c_18 (kT_30_mk ((unpR ((packR nd165).list)).inode) (tr.own (.s .z)) (tr.own (.s (.s .z)))) (kT_30_mk nd165 (tr.own (.s4 (.s (.s .z)))) (tr.own (.s4 (.s (.s (.s .z))))))) ?_
 rintro _ _ ⟨rfl, rfl⟩
 refine FJ.cat .n ?_
 refine FJ.sk .z ?_
 refine FJ.dq rfl rfl rfl (by decide) rfl .z (q_pickT rfl (.t (.s4 .z)) (.t .z)) (FJ.dq rfl rfl rfl (by decide) rfl .z (q_move rfl (.t .z)) (FJ.schN ?_))
 refine FJ.caseP .z (fun g187 => ?_) (fun g187 => ?_)
 refine FJ.sch [(10, true), (11, true), (12, true), (13, true), (14, true), (15, true)] 21 #[true, true, true, true, true, true, true, true, true, true, true, true, true, true, true, true, false, false, false, false, false, false, false, false, false, false, false, false, false, false, false, false, false, false, false, false, false] (by rfl) (by kernel_rfl) ?_
 refine FJ.dqg rfl rfl rfl .z rfl (by decide) rfl .z (q_fieldAddr rfl (.t (.s16 (.s .z))) (fun _ => fa_57_1 _ _)) ?_
 refine FJ.dqg rfl rfl rfl (.s .z) rfl (by decide) rfl .z (q_load rfl ag_22 (.t .z) (WS.row (.s (.s (.s .z))) rfl)) ?_
 refine FJ.dqg rfl rfl rfl (.s (.s .z)) rfl (by decide) rfl .z (q_len rfl u_22 (.t .z)) ?_
 refine FJ.dqg rfl rfl rfl (.s (.s (.s .z))) rfl (by decide) rfl .z (q_geq rfl (.t .z) .c) ?_
 refine FJ.dq rfl rfl rfl (by decide) rfl .z (q_pickT rfl (.t (.s4 .z)) (.t .z)) (FJ.dq rfl rfl rfl (by decide) rfl .z (q_move rfl (.t .z)) (FJ.schN ?_))
 refine FJ.caseP .z (fun g188 => ?_) (fun g188 => ?_)
 refine FJ.sch [(16, true), (17, true), (18, true), (19, true), (20, true), (21, true)] 15 #[true, true, true, true, true, true, true, true, true, true, true, true, true, true, true, true, true, true, true, true, true, true, false, false, false, false, false, false, false, false, false, false, false, false, false, false, false] (by rfl) (by kernel_rfl) ?_
 refine FJ.dqg rfl rfl rfl .z rfl (by decide) rfl .z (q_fieldAddr rfl (.t (.s16 (.s4 (.s (.s (.s .z)))))) (fun _ => fa_57_1 _ _)) ?_
 refine FJ.dqg rfl rfl rfl (.s .z) rfl (by decide) rfl .z (q_load rfl ag_22 (.t .z) (WS.row (.s (.s (.s .z))) rfl)) ?_
 refine FJ.dqg rfl rfl rfl (.s (.s .z)) rfl (by decide) rfl .z (q_len rfl u_22 (.t .z)) ?_
 refine FJ.dqg rfl rfl rfl (.s (.s (.s .z))) rfl (by decide) rfl .z (q_leq rfl (.t .z) .c) ?_
 refine FJ.dq rfl rfl rfl (by decide) rfl .z (q_pickT rfl (.t (.s4 .z)) (.t .z)) (FJ.dq rfl rfl rfl (by decide) rfl .z (q_move rfl (.t .z)) (FJ.schN ?_))
 refine FJ.caseP .z (fun g189 => ?_) (fun g189 => ?_)
 refine FJ.sch [(22, true), (23, true), (24, true), (25, true)] 11 #[true, true, true, true, true, true, true, true, true, true, true, true, true, true, true, true, true, true, true, true, true, true, true, true, true, true, false, false, false, false, false, false, false, false, false, false, false] (by rfl) (by kernel_rfl) ?_
 refine FJ.dqg rfl rfl rfl .z rfl (by decide) rfl .z (q_fieldAddr rfl (.t (.s16 (.s16 .z))) (fun _ => fa_30_0 _ _)) ?_
 refine FJ.dqg rfl rfl rfl (.s .z) rfl (by decide) rfl .z (q_load rfl ag_2 (.t .z) (WS.row (.s4 (.s .z)) rfl)) ?_
 refine FJ.dqg rfl rfl rfl (.s (.s .z)) rfl (by decide) rfl .z (q_neq rfl (.t .z) .c) ?_
 refine FJ.dqg rfl rfl rfl (.s (.s (.s .z))) rfl (by decide) rfl .z (q_move rfl (.t .z)) ?_
 refine FJ.schN ?_
 refine FJ.caseN .z (fun g190 => ?_) (fun g190 => ?_)
 refine FJ.sch [(26, true), (27, true), (28, true), (29, true), (30, true), (31, true), (32, true), (33, true), (34, true), (35, true), (36, false)] 0 #[true, true, true, true, true, true, true, true, true, true, true, true, true, true, true, true, true, true, true, true, true, true, true, true, true, true, true, true, true, true, true, true, true, true, true, true, true] (by rfl) (by kernel_rfl) ?_
 refine FJ.dskip rfl rfl rfl .z rfl rfl (by decide) rfl .z ?_
 refine FJ.dskip rfl rfl rfl (.s .z) rfl rfl (by decide) rfl .z ?_
 refine FJ.dskip rfl rfl rfl (.s (.s .z)) rfl rfl (by decide) rfl .z ?_
 refine FJ.dskip rfl rfl rfl (.s (.s (.s .z))) rfl rfl (by decide) rfl .z ?_
 refine FJ.dskip rfl rfl rfl (.s4 .z) rfl rfl (by decide) rfl .z ?_
 refine FJ.dskip rfl rfl rfl (.s4 (.s .z)) rfl rfl (by decide) rfl .z ?_
 refine FJ.dskip rfl rfl rfl (.s4 (.s (.s .z))) rfl rfl (by decide) rfl .z ?_
 refine FJ.dskip rfl rfl rfl (.s4 (.s (.s (.s .z)))) rfl rfl (by decide) rfl .z ?_
 refine FJ.dqg rfl rfl rfl (.s4 (.s4 (.s4 .z))) rfl (by decide) rfl .z (q_pickT rfl (.t (.s4 (.s4 .z))) .c) ?_
 refine FJ.dq rfl rfl rfl (by decide) rfl .z (q_pickT rfl (.t (.s4 (.s4 (.s4 (.s .z))))) (.t .z)) (FJ.er (.s16 (.s16 (.s16 (.s16 (.s16 (.s16 (.s (.s .z)))))))) ?_)
 refine FJ.q (goes_sch rfl rfl) rfl (by decide) rfl (q_assign rfl (.t .z)) ?_
 refine FJ.sl rfl ?_
 refine FJ.schN ?_
 refine FJ.drawN (by kernel_rfl) ?_
 refine FJ.then_ (FJ.ret ?_)
 refine FJ.doneS (res1 rfl .z) .n ?_
 exact ⟨rfl, rfl⟩
 refine FJ.sch [(26, true), (27, true), (30, true), (31, true), (32, true), (28, false), (29, true), (33, true), (34, true), (35, true), (36, false)] 0 #[true, true, true, true, true, true, true, true, true, true, true, true, true, true, true, true, true, true, true, true, true, true, true, true, true, true, true, true, true, true, true, true, true, true, true, true, true] (by rfl) (by kernel_rfl) ?_
 refine FJ.dqg rfl rfl rfl .z rfl (by decide) rfl .z (q_fieldAddr rfl (.t (.s16 (.s16 (.s4 .z)))) (fun _ => fa_30_2 _ _)) ?_
 refine FJ.dqg rfl rfl rfl (.s .z) rfl (by decide) rfl .z (q_load rfl ag_2 (.t .z) (WS.row (.s4 (.s .z)) rfl)) ?_
 refine FJ.dqg rfl rfl rfl (.s (.s .z)) rfl (by decide) rfl .z (q_fieldAddr rfl (.t (.s16 (.s16 (.s4 (.s (.s .z)))))) (fun _ => fa_30_3 _ _)) ?_
 refine FJ.dqg rfl rfl rfl (.s (.s (.s .z))) rfl (by decide) rfl .z (q_load rfl ag_22 (.t .z) (WS.row (.s4 (.s .z)) rfl)) ?_
 refine FJ.dqg rfl rfl rfl (.s4 .z) rfl (by decide) rfl .z (q_len rfl u_22 (.t .z)) ?_
 refine FJ.call (goes_schg rfl rfl rfl (.s4 (.s .z))) rfl (by decide) rfl (c_call rfl Try.func47 rfl rfl (args1 (.t (.s (.s (.s .z)))))) .n (fun w1 S1 hs tr => c_47 _) ?_
 rintro _ _ ⟨rfl, rfl⟩
 refine FJ.cat .n ?_
 refine FJ.sk .z ?_
 refine FJ.dqg rfl rfl rfl (.s4 (.s (.s .z))) rfl (by decide) rfl .z (q_field rfl (.t .z) (fun w => fv_48_1 w (.int .i64 ((forR nd165.size).code)) (.int .i64 ((forR nd165.size).val)))) ?_
 refine FJ.dqg rfl rfl rfl (.s4 (.s (.s (.s .z)))) rfl (by decide) rfl .z (q_eql rfl (.t .z) (.t (.s (.s .z)))) ?_
 refine FJ.dqg rfl rfl rfl (.s4 (.s4 (.s4 .z))) rfl (by decide) rfl .z (q_pickF rfl (.t (.s4 (.s4 .z))) (.t .z)) ?_
 refine FJ.dq rfl rfl rfl (by decide) rfl .z (q_pickT rfl (.t (.s4 (.s4 (.s4 (.s .z))))) (.t .z)) (FJ.er (.s16 (.s16 (.s16 (.s16 (.s16 (.s16 (.s (.s .z)))))))) ?_)
 refine FJ.q (goes_sch rfl rfl) rfl (by decide) rfl (q_assign rfl (.t .z)) ?_
 refine FJ.sl rfl ?_
 refine FJ.schN ?_
 refine FJ.drawN (by kernel_rfl) ?_
 refine FJ.then_ (FJ.ret ?_)
 refine FJ.doneS (res1 rfl .z) .n ?_
 first | exact ⟨rfl, rfl⟩ | (focus (exfalso; omega)) | (focus (exfalso; simp_all; done)) | (focus (refine ⟨congrArg Value.bool ?_, rfl⟩; simp_all; done)) | (focus (refine ⟨congrArg Value.bool ?_, rfl⟩; simp_all; omega))
 refine FJ.sch [(22, true), (23, true), (24, true), (25, true), (26, true), (27, true), (28, true), (29, true), (30, true), (31, true), (32, true), (33, true), (34, true), (35, true), (36, false)] 0 #[true, true, true, true, true, true, true, true, true, true, true, true, true, true, true, true, true, true, true, true, true, true, true, true, true, true, true, true, true, true, true, true, true, true, true, true, true] (by rfl) (by kernel_rfl) ?_
 refine FJ.dskip rfl rfl rfl .z rfl rfl (by decide) rfl .z ?_
 refine FJ.dskip rfl rfl rfl (.s .z) rfl rfl (by decide) rfl .z ?_
 refine FJ.dskip rfl rfl rfl (.s (.s .z)) rfl rfl (by decide) rfl .z ?_
 refine FJ.dskip rfl rfl rfl (.s (.s (.s .z))) rfl rfl (by decide) rfl .z ?_
 refine FJ.dskip rfl rfl rfl .z rfl rfl (by decide) rfl .z ?_
 refine FJ.dskip rfl rfl rfl (.s .z) rfl rfl (by decide) rfl .z ?_
 refine FJ.dskip rfl rfl rfl (.s (.s .z)) rfl rfl (by decide) rfl .z ?_
 refine FJ.dskip rfl rfl rfl (.s (.s (.s .z))) rfl rfl (by decide) rfl .z ?_
 refine FJ.dskip rfl rfl rfl (.s4 .z) rfl rfl (by decide) rfl .z ?_
 refine FJ.dskip rfl rfl rfl (.s4 (.s .z)) rfl rfl (by decide) rfl .z ?_
 refine FJ.dskip rfl rfl rfl (.s4 (.s (.s .z))) rfl rfl (by decide) rfl .z ?_
 refine FJ.dskip rfl rfl rfl (.s4 (.s (.s (.s .z)))) rfl rfl (by decide) rfl .z ?_
 refine FJ.dskip rfl rfl rfl (.s4 (.s4 (.s4 .z))) rfl rfl (by decide) rfl .z ?_
 refine FJ.dq rfl rfl rfl (by decide) rfl .z (q_pickF rfl (.t (.s4 (.s4 (.s4 (.s .z))))) .c) (FJ.er (.s16 (.s16 (.s16 (.s16 (.s16 (.s16 (.s (.s .z)))))))) ?_)
 refine FJ.q (goes_sch rfl rfl) rfl (by decide) rfl (q_assign rfl (.t .z)) ?_
 refine FJ.sl rfl ?_
 refine FJ.schN ?_
 refine FJ.drawN (by kernel_rfl) ?_
 refine FJ.then_ (FJ.ret ?_)
 refine FJ.doneS (res1 rfl .z) .n ?_
 first | exact ⟨rfl, rfl⟩ | (focus (exfalso; omega)) | (focus (exfalso; simp_all; done)) | (focus (refine ⟨congrArg Value.bool ?_, rfl⟩; simp_all; done)) | (focus (refine ⟨congrArg Value.bool ?_, rfl⟩; simp_all; omega))
 refine FJ.sch [(16, true), (17, true), (18, true), (19, true), (20, true), (21, true), (22, true), (23, true), (24, true), (25, true), (26, true), (27, true), (28, true), (29, true), (30, true), (31, true), (32, true), (33, true), (34, true), (35, true), (36, false)] 0 #[true, true, true, true, true, true, true, true, true, true, true, true, true, true, true, true, true, true, true, true, true, true, true, true, true, true, true, true, true, true, true, true, true, true, true, true, true] (by rfl) (by kernel_rfl) ?_
 refine FJ.dskip rfl rfl rfl .z rfl rfl (by decide) rfl .z ?_
 refine FJ.dskip rfl rfl rfl (.s .z) rfl rfl (by decide) rfl .z ?_
 refine FJ.dskip rfl rfl rfl (.s (.s .z)) rfl rfl (by decide) rfl .z ?_
 refine FJ.dskip rfl rfl rfl (.s (.s (.s .z))) rfl rfl (by decide) rfl .z ?_
 refine FJ.dq rfl rfl rfl (by decide) rfl .z (q_pickF rfl (.t (.s4 .z)) .c) (FJ.dq rfl rfl rfl (by decide) rfl .z (q_move rfl (.t .z)) ?_)
 refine FJ.dskip rfl rfl rfl .z rfl rfl (by decide) rfl .z ?_
 refine FJ.dskip rfl rfl rfl (.s .z) rfl rfl (by decide) rfl .z ?_
 refine FJ.dskip rfl rfl rfl (.s (.s .z)) rfl rfl (by decide) rfl .z ?_
 refine FJ.dskip rfl rfl rfl (.s (.s (.s .z))) rfl rfl (by decide) rfl .z ?_
 refine FJ.dskip rfl rfl rfl .z rfl rfl (by decide) rfl .z ?_
 refine FJ.dskip rfl rfl rfl (.s .z) rfl rfl (by decide) rfl .z ?_
 refine FJ.dskip rfl rfl rfl (.s (.s .z)) rfl rfl (by decide) rfl .z ?_
 refine FJ.dskip rfl rfl rfl (.s (.s (.s .z))) rfl rfl (by decide) rfl .z ?_
 refine FJ.dskip rfl rfl rfl (.s4 .z) rfl rfl (by decide) rfl .z ?_
 refine FJ.dskip rfl rfl rfl (.s4 (.s .z)) rfl rfl (by decide) rfl .z ?_
 refine FJ.dskip rfl rfl rfl (.s4 (.s (.s .z))) rfl rfl (by decide) rfl .z ?_
 refine FJ.dskip rfl rfl rfl (.s4 (.s (.s (.s .z)))) rfl rfl (by decide) rfl .z ?_
 refine FJ.dskip rfl rfl rfl (.s4 (.s4 (.s4 .z))) rfl rfl (by decide) rfl .z ?_
 refine FJ.dq rfl rfl rfl (by decide) rfl .z (q_pickF rfl (.t (.s4 (.s4 (.s4 (.s .z))))) .c) (FJ.er (.s16 (.s16 (.s16 (.s16 (.s16 (.s16 (.s (.s .z)))))))) ?_)
 refine FJ.q (goes_sch rfl rfl) rfl (by decide) rfl (q_assign rfl (.t .z)) ?_
 refine FJ.sl rfl ?_
 refine FJ.schN ?_
 refine FJ.drawN (by kernel_rfl) ?_
 refine FJ.then_ (FJ.ret ?_)
 refine FJ.doneS (res1 rfl .z) .n ?_
 first | exact ⟨rfl, rfl⟩ | (focus (exfalso; omega)) | (focus (exfalso; simp_all; done)) | (focus (refine ⟨congrArg Value.bool ?_, rfl⟩; simp_all; done)) | (focus (refine ⟨congrArg Value.bool ?_, rfl⟩; simp_all; omega))
 refine FJ.sch [(10, true), (11, true), (12, true), (13, true), (14, true), (15, true), (16, true), (17, true), (18, true), (19, true), (20, true), (21, true), (22, true), (23, true), (24, true), (25, true), (26, true), (27, true), (28, true), (29, true), (30, true), (31, true), (32, true), (33, true), (34, true), (35, true), (36, false)] 0 #[true, true, true, true, true, true, true, true, true, true, true, true, true, true, true, true, true, true, true, true, true, true, true, true, true, true, true, true, true, true, true, true, true, true, true, true, true] (by rfl) (by kernel_rfl) ?_
 refine FJ.dskip rfl rfl rfl .z rfl rfl (by decide) rfl .z ?_
 refine FJ.dskip rfl rfl rfl (.s .z) rfl rfl (by decide) rfl .z ?_
 refine FJ.dskip rfl rfl rfl (.s (.s .z)) rfl rfl (by decide) rfl .z ?_
 refine FJ.dskip rfl rfl rfl (.s (.s (.s .z))) rfl rfl (by decide) rfl .z ?_
 refine FJ.dq rfl rfl rfl (by decide) rfl .z (q_pickF rfl (.t (.s4 .z)) .c) (FJ.dq rfl rfl rfl (by decide) rfl .z (q_move rfl (.t .z)) ?_)
 refine FJ.dskip rfl rfl rfl .z rfl rfl (by decide) rfl .z ?_
 refine FJ.dskip rfl rfl rfl (.s .z) rfl rfl (by decide) rfl .z ?_
 refine FJ.dskip rfl rfl rfl (.s (.s .z)) rfl rfl (by decide) rfl .z ?_
 refine FJ.dskip rfl rfl rfl (.s (.s (.s .z))) rfl rfl (by decide) rfl .z ?_
 refine FJ.dq rfl rfl rfl (by decide) rfl .z (q_pickF rfl (.t (.s4 .z)) .c) (FJ.dq rfl rfl rfl (by decide) rfl .z (q_move rfl (.t .z)) ?_)
 refine FJ.dskip rfl rfl rfl .z rfl rfl (by decide) rfl .z ?_
 refine FJ.dskip rfl rfl rfl (.s .z) rfl rfl (by decide) rfl .z ?_
 refine FJ.dskip rfl rfl rfl (.s (.s .z)) rfl rfl (by decide) rfl .z ?_
 refine FJ.dskip rfl rfl rfl (.s (.s (.s .z))) rfl rfl (by decide) rfl .z ?_
 refine FJ.dskip rfl rfl rfl .z rfl rfl (by decide) rfl .z ?_
 refine FJ.dskip rfl rfl rfl (.s .z) rfl rfl (by decide) rfl .z ?_
 refine FJ.dskip rfl rfl rfl (.s (.s .z)) rfl rfl (by decide) rfl .z ?_
 refine FJ.dskip rfl rfl rfl (.s (.s (.s .z))) rfl rfl (by decide) rfl .z ?_
 refine FJ.dskip rfl rfl rfl (.s4 .z) rfl rfl (by decide) rfl .z ?_
 refine FJ.dskip rfl rfl rfl (.s4 (.s .z)) rfl rfl (by decide) rfl .z ?_
 refine FJ.dskip rfl rfl rfl (.s4 (.s (.s .z))) rfl rfl (by decide) rfl .z ?_
 refine FJ.dskip rfl rfl rfl (.s4 (.s (.s (.s .z)))) rfl rfl (by decide) rfl .z ?_
 refine FJ.dskip rfl rfl rfl (.s4 (.s4 (.s4 .z))) rfl rfl (by decide) rfl .z ?_
 refine FJ.dq rfl rfl rfl (by decide) rfl .z (q_pickF rfl (.t (.s4 (.s4 (.s4 (.s .z))))) .c) (FJ.er (.s16 (.s16 (.s16 (.s16 (.s16 (.s16 (.s (.s .z)))))))) ?_)
 refine FJ.q (goes_sch rfl rfl) rfl (by decide) rfl (q_assign rfl (.t .z)) ?_
 refine FJ.sl rfl ?_
 refine FJ.schN ?_
 refine FJ.drawN (by kernel_rfl) ?_
 refine FJ.then_ (FJ.ret ?_)
 refine FJ.doneS (res1 rfl .z) .n ?_
 first | exact ⟨rfl, rfl⟩ | (focus (exfalso; omega)) | (focus (exfalso; simp_all; done)) | (focus (refine ⟨congrArg Value.bool ?_, rfl⟩; simp_all; done)) | (focus (refine ⟨congrArg Value.bool ?_, rfl⟩; simp_all; omega))
 refine FJ.sch [(4, true), (5, true), (6, true), (7, true), (8, true), (9, true), (10, true), (11, true), (12, true), (13, true), (14, true), (15, true), (16, true), (17, true), (18, true), (19, true), (20, true), (21, true), (22, true), (23, true), (24, true), (25, true), (26, true), (27, true), (28, true), (29, true), (30, true), (31, true), (32, true), (33, true), (34, true), (35, true), (36, false)] 0 #[true, true, true, true, true, true, true, true, true, true, true, true, true, true, true, true, true, true, true, true, true, true, true, true, true, true, true, true, true, true, true, true, true, true, true, true, true] (by rfl) (by kernel_rfl) ?_
 refine FJ.dskip rfl rfl rfl .z rfl rfl (by decide) rfl .z ?_
 refine FJ.dskip rfl rfl rfl (.s .z) rfl rfl (by decide) rfl .z ?_
 refine FJ.dskip rfl rfl rfl (.s (.s .z)) rfl rfl (by decide) rfl .z ?_
 refine FJ.dskip rfl rfl rfl (.s (.s (.s .z))) rfl rfl (by decide) rfl .z ?_
 refine FJ.dq rfl rfl rfl (by decide) rfl .z (q_pickF rfl (.t (.s4 .z)) .c) (FJ.dq rfl rfl rfl (by decide) rfl .z (q_move rfl (.t .z)) ?_)
 refine FJ.dskip rfl rfl rfl .z rfl rfl (by decide) rfl .z ?_
 refine FJ.dskip rfl rfl rfl (.s .z) rfl rfl (by decide) rfl .z ?_
 refine FJ.dskip rfl rfl rfl (.s (.s .z)) rfl rfl (by decide) rfl .z ?_
 refine FJ.dskip rfl rfl rfl (.s (.s (.s .z))) rfl rfl (by decide) rfl .z ?_
 refine FJ.dq rfl rfl rfl (by decide) rfl .z (q_pickF rfl (.t (.s4 .z)) .c) (FJ.dq rfl rfl rfl (by decide) rfl .z (q_move rfl (.t .z)) ?_)
 refine FJ.dskip rfl rfl rfl .z rfl rfl (by decide) rfl .z ?_
 refine FJ.dskip rfl rfl rfl (.s .z) rfl rfl (by decide) rfl .z ?_
 refine FJ.dskip rfl rfl rfl (.s (.s .z)) rfl rfl (by decide) rfl .z ?_
 refine FJ.dskip rfl rfl rfl (.s (.s (.s .z))) rfl rfl (by decide) rfl .z ?_
 refine FJ.dq rfl rfl rfl (by decide) rfl .z (q_pickF rfl (.t (.s4 .z)) .c) (FJ.dq rfl rfl rfl (by decide) rfl .z (q_move rfl (.t .z)) ?_)
 refine FJ.dskip rfl rfl rfl .z rfl rfl (by decide) rfl .z ?_
 refine FJ.dskip rfl rfl rfl (.s .z) rfl rfl (by decide) rfl .z ?_
 refine FJ.dskip rfl rfl rfl (.s (.s .z)) rfl rfl (by decide) rfl .z ?_
 refine FJ.dskip rfl rfl rfl (.s (.s (.s .z))) rfl rfl (by decide) rfl .z ?_
 refine FJ.dskip rfl rfl rfl .z rfl rfl (by decide) rfl .z ?_
 refine FJ.dskip rfl rfl rfl (.s .z) rfl rfl (by decide) rfl .z ?_
 refine FJ.dskip rfl rfl rfl (.s (.s .z)) rfl rfl (by decide) rfl .z ?_
 refine FJ.dskip rfl rfl rfl (.s (.s (.s .z))) rfl rfl (by decide) rfl .z ?_
 refine FJ.dskip rfl rfl rfl (.s4 .z) rfl rfl (by decide) rfl .z ?_
 refine FJ.dskip rfl rfl rfl (.s4 (.s .z)) rfl rfl (by decide) rfl .z ?_
 refine FJ.dskip rfl rfl rfl (.s4 (.s (.s .z))) rfl rfl (by decide) rfl .z ?_
 refine FJ.dskip rfl rfl rfl (.s4 (.s (.s (.s .z)))) rfl rfl (by decide) rfl .z ?_
 refine FJ.dskip rfl rfl rfl (.s4 (.s4 (.s4 .z))) rfl rfl (by decide) rfl .z ?_
 refine FJ.dq rfl rfl rfl (by decide) rfl .z (q_pickF rfl (.t (.s4 (.s4 (.s4 (.s .z))))) .c) (FJ.er (.s16 (.s16 (.s16 (.s16 (.s16 (.s16 (.s (.s .z)))))))) ?_)
 refine FJ.q (goes_sch rfl rfl) rfl (by decide) rfl (q_assign rfl (.t .z)) ?_
 refine FJ.sl rfl ?_
 refine FJ.schN ?_
 refine FJ.drawN (by kernel_rfl) ?_
 refine FJ.then_ (FJ.ret ?_)
 refine FJ.doneS (res1 rfl .z) .n ?_
 first | exact ⟨rfl, rfl⟩ | (focus (exfalso; omega)) | (focus (exfalso; simp_all; done)) | (focus (refine ⟨congrArg Value.bool ?_, rfl⟩; simp_all; done)) | (focus (refine ⟨congrArg Value.bool ?_, rfl⟩; simp_all; omega))
 exfalso; first | omega | contradiction

end Go.Proofs.Ytoaebcjjfojfeaa

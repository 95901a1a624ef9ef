/- What is proved: contracts of functions, one a function. No condition. -/
import Derived.Test.YtoaebcjjfojfeaaW14
import Derived.Test.YtoaebcjjfojfeaaW15
import Derived.Test.YtoaebcjjfojfeaaBase2
namespace Go.Proofs.Ytoaebcjjfojfeaa
open Go Go.RowKit
set_option linter.unusedVariables false
set_option linter.unusedSimpArgs false
set_option maxHeartbeats 1000000 in
set_option maxRecDepth 20000 in
theorem c_10 {w0 : World} {S0 : Bs} {ws : (List Int)} {v0 : Value} (h0 : kSl_2.ro w0 (FF w0 S0) ws [v0])  :
    Calls Try.prog 10 #[v0] w0 (TriPost w0 S0 (fun r l => r = .bool true ∧ l = [])) := by
 obtain ⟨A0, c0, rfl, hl0, hm0, hb0, he0⟩ := ro_form h0
 have hb := unpR_cnt ws
 refine FJ.enter (N := 66) Try.func10 rfl rfl (by simp) [(0, .slice A0 ws.length c0)] (by simp) (l0 := []) trivial ?_
 refine FJ.seq (FJ.region (FJ.ql rfl (q_assign rfl .c) (FJ.nil (FJ.then_ ?_))))
 refine FJ.seq (FJ.seq (FJ.region (FJ.ql rfl (q_move rfl (.t (.s .z))) (FJ.ql rfl (q_len rfl u_22 (.t .z)) ?_))))
 refine FJ.ql rfl (q_gtr rfl (.t .z) .c) (FJ.nil (FJ.then_ ?_))
 refine FJ.condP (.t .z) (fun b2 => ?_) (fun b2 => ?_)
 refine FJ.seq (FJ.region (FJ.er (.s (.s (.s .z))) (FJ.ql rfl (q_assign rfl .c) (FJ.nil ?_))))
 refine FJ.then_ (FJ.ret (FJ.thenR ?_))
 refine FJ.doneS (res1 rfl .z) .n ?_
 exact ⟨rfl, rfl⟩
 refine FJ.skip (FJ.then_ (FJ.seq (FJ.region (FJ.ql rfl (q_move rfl (.t (.s4 .z))) ?_))))
 refine FJ.call (goes_list rfl) rfl (by decide) rfl (c_call rfl Try.func48 rfl rfl (args1 (.t .z))) .n (fun w1 S1 hs tr => c_48 (tr.ctx h0)) ?_
 rintro _ _ rfl
 refine FJ.cat (.c .n) ?_
 refine FJ.know (WS.oform .z) ?_
 rintro ⟨Ao4, co4, rfl, hlo4, hmo4, hbo4⟩
 refine FJ.call (goes_list rfl) rfl (by decide) rfl (c_call rfl Try.func45 rfl rfl (args1 (.t .z))) .n (fun w1 S1 hs tr => c_45 (tr.own .z)) ?_
 rintro _ _ ⟨v5, v7, rfl, rfl⟩
 refine FJ.cat (.c (.c .n)) ?_
 refine FJ.know (WS.oform .z) ?_
 rintro ⟨Ao9, co9, rfl, hlo9, hmo9, hbo9⟩
 refine FJ.know (WS.oform (.s .z)) ?_
 rintro ⟨Ao10, co10, rfl, hlo10, hmo10, hbo10⟩
 refine FJ.e (goes_list rfl) rfl (by decide) rfl (e_alloc rfl z_66 rfl rfl) ?_
 rintro _ _ ⟨g11, rfl, rfl⟩
 refine FJ.es (goes_list rfl) rfl (es_store (off := 0) (cs := [.int .i64 ((unpR ws).code), .int .i64 ((unpR ws).inode.kind), .int .i64 ((unpR ws).inode.links), .int .i64 ((unpR ws).inode.size), .slice Ao9 ((unpR ws).inode.blocks).length co9, .slice Ao10 ((unpR ws).inode.ents).length co10]) rfl sz_66 (.t .z) (.t (.s .z)) rfl (ones rfl) .z (Nat.le_of_ble_eq_true rfl) (.c .z (.c (.s .z) (.c (.s (.s .z)) (.c (.s (.s (.s .z))) (.c (.s (.s (.s (.s .z)))) (.c (.s (.s (.s (.s (.s .z))))) .n))))))) ?_
 refine FJ.nil (FJ.then_ (FJ.seq (FJ.region (FJ.ql rfl (q_move rfl (.t (.s4 (.s4 .z)))) ?_))))
 refine FJ.call (goes_list rfl) rfl (by decide) rfl (c_call rfl Try.func48 rfl rfl (args1 (.t .z))) .n (fun w1 S1 hs tr => c_48 (tr.ctx h0)) ?_
 rintro _ _ rfl
 refine FJ.cat (.c .n) ?_
 refine FJ.know (WS.oform .z) ?_
 rintro ⟨Ao13, co13, rfl, hlo13, hmo13, hbo13⟩
 refine FJ.ql rfl (q_assign rfl (.t .z)) (FJ.nil (FJ.then_ (FJ.seq (FJ.region ?_))))
 refine FJ.ql rfl (q_move rfl (.t .z)) ?_
 refine FJ.call (goes_list rfl) rfl (by decide) rfl (c_call rfl Try.func43 rfl rfl (args1 (.t .z))) .n (fun w1 S1 hs tr => c_43 (tr.own .z)) ?_
 rintro _ _ ⟨v14, v16, rfl, rfl⟩
 refine FJ.cat (.c (.c .n)) ?_
 refine FJ.know (WS.oform .z) ?_
 rintro ⟨Ao18, co18, rfl, hlo18, hmo18, hbo18⟩
 refine FJ.know (WS.oform (.s .z)) ?_
 rintro ⟨Ao19, co19, rfl, hlo19, hmo19, hbo19⟩
 refine FJ.e (goes_list rfl) rfl (by decide) rfl (e_alloc rfl z_66 rfl rfl) ?_
 rintro _ _ ⟨g20, rfl, rfl⟩
 refine FJ.es (goes_list rfl) rfl (es_store (off := 0) (cs := [.int .i64 ((unpR ws).code), .int .i64 ((unpR ws).inode.kind), .int .i64 ((unpR ws).inode.links), .int .i64 ((unpR ws).inode.size), .slice Ao18 ((unpR ws).inode.blocks).length co18, .slice Ao19 ((unpR ws).inode.ents).length co19]) rfl sz_66 (.t .z) (.t (.s .z)) rfl (ones rfl) .z (Nat.le_of_ble_eq_true rfl) (.c .z (.c (.s .z) (.c (.s (.s .z)) (.c (.s (.s (.s .z))) (.c (.s (.s (.s (.s .z)))) (.c (.s (.s (.s (.s (.s .z))))) .n))))))) ?_
 refine FJ.nil (FJ.then_ (FJ.seq (FJ.seq (FJ.region ?_))))
 refine FJ.ql rfl (q_loadA (cs := [.int .i64 ((unpR ws).code), .int .i64 ((unpR ws).inode.kind), .int .i64 ((unpR ws).inode.links), .int .i64 ((unpR ws).inode.size), .slice Ao18 ((unpR ws).inode.blocks).length co18, .slice Ao19 ((unpR ws).inode.ents).length co19]) rfl ag_66 sz_66 (.t .z) (WS.rows0 .z (fun i u h => by exact h))) ?_
 refine FJ.ql rfl (q_loadA (cs := [.int .i64 ((unpR ws).code), .int .i64 ((unpR ws).inode.kind), .int .i64 ((unpR ws).inode.links), .int .i64 ((unpR ws).inode.size), .slice Ao9 ((unpR ws).inode.blocks).length co9, .slice Ao10 ((unpR ws).inode.ents).length co10]) rfl ag_66 sz_66 (.t (.s4 (.s (.s (.s .z))))) (WS.rows0 (.s4 .z) (fun i u h => by exact h))) ?_
 refine FJ.call (goes_list rfl) rfl (by decide) rfl (c_call rfl Try.func49 rfl rfl (args2 (.t (.s .z)) (.t .z))) .n (fun w1 S1 hs tr => c_49 (kT_66_mk (unpR ws) (tr.own (.s .z)) (tr.own (.s (.s .z)))) (kT_66_mk (unpR ws) (tr.own (.s4 (.s .z))) (tr.own (.s4 (.s (.s .z)))))) ?_
 rintro _ _ ⟨rfl, rfl⟩
 refine FJ.cat .n ?_
 refine FJ.ql rfl (q_not rfl (.t .z)) (FJ.nil (FJ.then_ ?_))
 refine FJ.condN (.t .z) (fun b21 => ?_) (fun b21 => ?_)
 refine FJ.seq (FJ.region (FJ.er (.s16 (.s .z)) (FJ.ql rfl (q_assign rfl .c) (FJ.nil ?_))))
 refine FJ.then_ (FJ.ret (FJ.thenR ?_))
 refine FJ.doneS (res1 rfl .z) .n ?_
 exfalso; first | exact absurd rfl (by assumption) | omega | focus (simp_all; done)
 refine FJ.skip (FJ.then_ (FJ.seq (FJ.seq (FJ.region ?_))))
 refine FJ.ql rfl (q_move rfl (.t (.s4 (.s (.s (.s .z)))))) (FJ.ql rfl (q_move rfl (.t (.s16 (.s (.s (.s .z)))))) ?_)
 refine FJ.call (goes_list rfl) rfl (by decide) rfl (c_call rfl Try.func48 rfl rfl (args1 (.t .z))) .n (fun w1 S1 hs tr => c_48 (tr.ctx h0)) ?_
 rintro _ _ rfl
 refine FJ.cat (.c .n) ?_
 refine FJ.know (WS.oform .z) ?_
 rintro ⟨Ao23, co23, rfl, hlo23, hmo23, hbo23⟩
 refine FJ.call (goes_list rfl) rfl (by decide) rfl (c_call rfl Try.func50 rfl rfl (args2 (.t (.s (.s .z))) (.t .z))) .n (fun w1 S1 hs tr => c_50 (tr.own (.s4 .z)) (tr.own .z)) ?_
 rintro _ _ ⟨rfl, rfl⟩
 refine FJ.cat .n ?_
 refine FJ.ql rfl (q_not rfl (.t .z)) (FJ.nil (FJ.then_ ?_))
 refine FJ.condN (.t .z) (fun b24 => ?_) (fun b24 => ?_)
 refine FJ.seq (FJ.region (FJ.er (.s16 (.s4 (.s (.s .z)))) (FJ.ql rfl (q_assign rfl .c) (FJ.nil ?_))))
 refine FJ.then_ (FJ.ret (FJ.thenR ?_))
 refine FJ.doneS (res1 rfl .z) .n ?_
 exfalso; first | exact absurd rfl (by assumption) | omega | focus (simp_all; done)
 refine FJ.skip (FJ.then_ (FJ.seq (FJ.region (FJ.ql rfl (q_assign rfl .c) ?_))))
 refine FJ.nil (FJ.then_ (FJ.seq (FJ.region (FJ.ql rfl (q_move rfl (.t (.s4 (.s4 (.s4 (.s .z)))))) ?_))))
 refine FJ.ql rfl (q_move rfl (.t (.s .z))) ?_
 refine FJ.call (goes_list rfl) rfl (by decide) rfl (c_call rfl Try.func51 rfl rfl (args2 (.t (.s .z)) (.t .z))) (.c (.s4 .z) .n) (fun w1 S1 hs tr => c_51 _ hs (by omega) (by first | omega | (omega))) ?_
 rintro _ _ ⟨rfl, rfl⟩
 refine FJ.cat (.c .n) ?_
 refine FJ.er (.s (.s (.s .z))) (FJ.ql rfl (q_assign rfl (.t .z)) (FJ.nil (FJ.then_ (FJ.seq ?_))))
 refine FJ.seq (FJ.region (FJ.ql rfl (q_move rfl (.t .z)) (FJ.ql rfl (q_lss rfl (.t .z) .c) (FJ.ql rfl (q_move rfl (.t .z)) ?_))))
 refine FJ.caseP .z (fun g25 => ?_) (fun g25 => ?_)
 refine FJ.skipl rfl rfl .z rfl rfl (by decide) rfl ?_
 refine FJ.skipl rfl rfl (.s .z) rfl rfl (by decide) rfl ?_
 refine FJ.skipl rfl rfl (.s (.s .z)) rfl rfl (by decide) rfl ?_
 refine FJ.skipl rfl rfl (.s (.s (.s .z))) rfl rfl (by decide) rfl ?_
 refine FJ.ql rfl (q_pickT rfl (.t (.s4 .z)) .c) (FJ.nil (FJ.then_ ?_))
 refine FJ.condT (.t .z) ?_
 refine FJ.seq (FJ.region (FJ.er (.s16 (.s16 (.s (.s .z)))) (FJ.ql rfl (q_assign rfl .c) (FJ.nil ?_))))
 refine FJ.then_ (FJ.ret (FJ.thenR ?_))
 refine FJ.doneS (res1 rfl .z) .n ?_
 exfalso; first | exact absurd rfl (by assumption) | omega | focus (simp_all; done)
 refine FJ.q (goes_listg rfl rfl .z) rfl (by decide) rfl (q_loadA (cs := [.int .i64 ((unpR ws).code), .int .i64 ((unpR ws).inode.kind), .int .i64 ((unpR ws).inode.links), .int .i64 ((unpR ws).inode.size), .slice Ao18 ((unpR ws).inode.blocks).length co18, .slice Ao19 ((unpR ws).inode.ents).length co19]) rfl ag_66 sz_66 (.t (.s16 .z)) (WS.rows0 (.s (.s .z)) (fun i u h => by exact h))) ?_
 refine FJ.q (goes_listg rfl rfl (.s .z)) rfl (by decide) rfl (q_loadA (cs := [.int .i64 ((unpR ws).code), .int .i64 ((unpR ws).inode.kind), .int .i64 ((unpR ws).inode.links), .int .i64 ((unpR ws).inode.size), .slice Ao9 ((unpR ws).inode.blocks).length co9, .slice Ao10 ((unpR ws).inode.ents).length co10]) rfl ag_66 sz_66 (.t (.s16 (.s4 (.s (.s (.s .z)))))) (WS.rows0 (.s4 (.s .z)) (fun i u h => by exact h))) ?_
 refine FJ.call (goes_listg rfl rfl (.s (.s .z))) rfl (by decide) rfl (c_call rfl Try.func49 rfl rfl (args2 (.t (.s .z)) (.t .z))) .n (fun w1 S1 hs tr => c_49 (kT_66_mk (unpR ws) (tr.own (.s (.s (.s .z)))) (tr.own (.s4 .z))) (kT_66_mk (unpR ws) (tr.own (.s4 (.s (.s .z)))) (tr.own (.s4 (.s (.s (.s .z))))))) ?_
 rintro _ _ ⟨rfl, rfl⟩
 refine FJ.cat .n ?_
 refine FJ.q (goes_listg rfl rfl (.s (.s (.s .z)))) rfl (by decide) rfl (q_not rfl (.t .z)) ?_
 refine FJ.ql rfl (q_pickF rfl (.t (.s4 .z)) (.t .z)) (FJ.nil (FJ.then_ ?_))
 refine FJ.condN (.t .z) (fun b26 => ?_) (fun b26 => ?_)
 exfalso; first | omega | contradiction
 refine FJ.skip (FJ.then_ (FJ.seq (FJ.region (FJ.ql rfl (q_assign rfl .c) ?_))))
 refine FJ.nil (FJ.then_ (FJ.seq (FJ.region ?_)))
 refine FJ.ql rfl (q_loadA (cs := [.int .i64 ((unpR ws).code), .int .i64 ((unpR ws).inode.kind), .int .i64 ((unpR ws).inode.links), .int .i64 ((unpR ws).inode.size), .slice Ao18 ((unpR ws).inode.blocks).length co18, .slice Ao19 ((unpR ws).inode.ents).length co19]) rfl ag_66 sz_66 (.t (.s16 (.s4 (.s (.s .z))))) (WS.rows0 (.s (.s .z)) (fun i u h => by exact h))) ?_
 refine FJ.ql rfl (q_move rfl (.t (.s .z))) ?_
 refine FJ.call (goes_list rfl) rfl (by decide) rfl (c_call rfl Try.func52 rfl rfl (args2 (.t (.s .z)) (.t .z))) (.c (.s (.s (.s .z))) (.c (.s (.s (.s .z))) .n)) (fun w1 S1 hs tr => c_52 _ hs (by omega) (by first | omega | (omega))) ?_
 rintro _ _ ⟨rfl, rfl⟩
 refine FJ.cat (.c (.c .n)) ?_
 refine FJ.er (.s (.s (.s .z))) (FJ.ql rfl (q_assign rfl (.t .z)) (FJ.nil (FJ.then_ (FJ.seq ?_))))
 refine FJ.region (FJ.ql rfl (q_assign rfl .c) (FJ.nil (FJ.then_ (FJ.seq ?_))))
 refine FJ.region ?_
 refine FJ.ql rfl (q_loadA (cs := [.int .i64 ((unpR ws).code), .int .i64 ((unpR ws).inode.kind), .int .i64 ((unpR ws).inode.links), .int .i64 ((unpR ws).inode.size), .slice Ao18 ((unpR ws).inode.blocks).length co18, .slice Ao19 ((unpR ws).inode.ents).length co19]) rfl ag_66 sz_66 (.t (.s16 (.s4 (.s4 (.s (.s .z)))))) (WS.rows0 (.s4 .z) (fun i u h => by exact h))) ?_
 refine FJ.ql rfl (q_move rfl (.t (.s .z))) ?_
 refine FJ.call (goes_list rfl) rfl (by decide) rfl (c_call rfl Try.func53 rfl rfl (args2 (.t (.s .z)) (.t .z))) .n (fun w1 S1 hs tr => c_53 (kT_66_mk (⟨(unpR ws).code, (⟨(unpR ws).inode.kind, (unpR ws).inode.links, (unpR ws).inode.size, (vmark_RInode 1 (unpR ws)).inode.blocks, (vmark_RInode 1 (unpR ws)).inode.ents⟩ : DInode)⟩ : RInode) (tr.own .z) (tr.own (.s .z))) _ (unpR ws) rfl (by omega) (by first | omega | (omega))) ?_
 rintro _ _ ⟨rfl, rfl⟩
 refine FJ.cat .n ?_
 refine FJ.er (.s (.s (.s .z))) (FJ.ql rfl (q_assign rfl (.t .z)) (FJ.nil (FJ.then_ (FJ.seq ?_))))
 refine FJ.seq (FJ.region (FJ.ql rfl (q_move rfl (.t .z)) (FJ.ql rfl (q_lss rfl (.t .z) .c) (FJ.nil ?_))))
 refine FJ.then_ ?_
 refine FJ.condP (.t .z) (fun b27 => ?_) (fun b27 => ?_)
 refine FJ.seq (FJ.region (FJ.er (.s16 (.s16 (.s4 (.s4 (.s4 .z))))) (FJ.ql rfl (q_assign rfl .c) (FJ.nil ?_))))
 refine FJ.then_ (FJ.ret (FJ.thenR ?_))
 refine FJ.doneS (res1 rfl .z) .n ?_
 exfalso; first | exact absurd rfl (by assumption) | omega | focus (simp_all; done)
 refine FJ.skip (FJ.then_ (FJ.seq (FJ.seq (FJ.region ?_))))
 refine FJ.ql rfl (q_move rfl (.t (.s (.s .z)))) (FJ.ql rfl (q_move rfl (.t (.s4 (.s (.s (.s .z)))))) (FJ.ql rfl (q_neq rfl (.t (.s .z)) (.t .z)) (FJ.nil (FJ.then_ ?_))))
 refine FJ.condN (.t .z) (fun b28 => ?_) (fun b28 => ?_)
 refine FJ.seq (FJ.region (FJ.er (.s16 (.s16 (.s4 (.s4 (.s4 (.s (.s (.s .z)))))))) (FJ.ql rfl (q_assign rfl .c) (FJ.nil ?_))))
 refine FJ.then_ (FJ.ret (FJ.thenR ?_))
 refine FJ.doneS (res1 rfl .z) .n ?_
 exfalso; first | exact absurd rfl (by assumption) | omega | focus (simp_all; done)
 refine FJ.skip (FJ.then_ (FJ.seq (FJ.region (FJ.ql rfl (q_move rfl (.t (.s16 (.s16 (.s16 .z))))) ?_))))
 refine FJ.call (goes_list rfl) rfl (by decide) rfl (c_call rfl Try.func48 rfl rfl (args1 (.t .z))) .n (fun w1 S1 hs tr => c_48 (tr.ctx h0)) ?_
 rintro _ _ rfl
 refine FJ.cat (.c .n) ?_
 refine FJ.know (WS.oform .z) ?_
 rintro ⟨Ao30, co30, rfl, hlo30, hmo30, hbo30⟩
 refine FJ.call (goes_list rfl) rfl (by decide) rfl (c_call rfl Try.func43 rfl rfl (args1 (.t .z))) .n (fun w1 S1 hs tr => c_43 (tr.own .z)) ?_
 rintro _ _ ⟨v31, v33, rfl, rfl⟩
 refine FJ.cat (.c (.c .n)) ?_
 refine FJ.know (WS.oform .z) ?_
 rintro ⟨Ao35, co35, rfl, hlo35, hmo35, hbo35⟩
 refine FJ.know (WS.oform (.s .z)) ?_
 rintro ⟨Ao36, co36, rfl, hlo36, hmo36, hbo36⟩
 refine FJ.e (goes_list rfl) rfl (by decide) rfl (e_alloc rfl z_66 rfl rfl) ?_
 rintro _ _ ⟨g37, rfl, rfl⟩
 refine FJ.es (goes_list rfl) rfl (es_store (off := 0) (cs := [.int .i64 ((unpR ws).code), .int .i64 ((unpR ws).inode.kind), .int .i64 ((unpR ws).inode.links), .int .i64 ((unpR ws).inode.size), .slice Ao35 ((unpR ws).inode.blocks).length co35, .slice Ao36 ((unpR ws).inode.ents).length co36]) rfl sz_66 (.t .z) (.t (.s .z)) rfl (ones rfl) .z (Nat.le_of_ble_eq_true rfl) (.c .z (.c (.s .z) (.c (.s (.s .z)) (.c (.s (.s (.s .z))) (.c (.s (.s (.s (.s .z)))) (.c (.s (.s (.s (.s (.s .z))))) .n))))))) ?_
 refine FJ.nil (FJ.then_ (FJ.seq (FJ.seq (FJ.region ?_))))
 refine FJ.ql rfl (q_loadA (cs := [.int .i64 ((unpR ws).code), .int .i64 ((unpR ws).inode.kind), .int .i64 ((unpR ws).inode.links), .int .i64 ((unpR ws).inode.size), .slice Ao35 ((unpR ws).inode.blocks).length co35, .slice Ao36 ((unpR ws).inode.ents).length co36]) rfl ag_66 sz_66 (.t .z) (WS.rows0 .z (fun i u h => by exact h))) ?_
 refine FJ.ql rfl (q_loadA (cs := [.int .i64 ((unpR ws).code), .int .i64 ((unpR ws).inode.kind), .int .i64 ((unpR ws).inode.links), .int .i64 ((unpR ws).inode.size), .slice Ao9 ((unpR ws).inode.blocks).length co9, .slice Ao10 ((unpR ws).inode.ents).length co10]) rfl ag_66 sz_66 (.t (.s16 (.s16 (.s4 (.s4 (.s4 (.s .z))))))) (WS.rows0 (.s4 (.s4 (.s .z))) (fun i u h => by exact h))) ?_
 refine FJ.call (goes_list rfl) rfl (by decide) rfl (c_call rfl Try.func49 rfl rfl (args2 (.t (.s .z)) (.t .z))) .n (fun w1 S1 hs tr => c_49 (kT_66_mk (unpR ws) (tr.own (.s .z)) (tr.own (.s (.s .z)))) (kT_66_mk (unpR ws) (tr.own (.s4 (.s4 (.s (.s .z))))) (tr.own (.s4 (.s4 (.s (.s (.s .z)))))))) ?_
 rintro _ _ ⟨rfl, rfl⟩
 refine FJ.cat .n ?_
 refine FJ.ql rfl (q_not rfl (.t .z)) (FJ.nil (FJ.then_ ?_))
 refine FJ.condN (.t .z) (fun b38 => ?_) (fun b38 => ?_)
 exfalso; first | omega | contradiction
 refine FJ.skip (FJ.then_ (FJ.seq (FJ.region (FJ.er (.s4 (.s4 (.s4 (.s .z)))) ?_))))
 refine FJ.ql rfl (q_assign rfl .c) (FJ.nil (FJ.then_ (FJ.seq (FJ.region ?_))))
 refine FJ.ql rfl (q_loadA (cs := [.int .i64 ((unpR ws).code), .int .i64 ((unpR ws).inode.kind), .int .i64 ((unpR ws).inode.links), .int .i64 ((unpR ws).inode.size), .slice Ao18 ((unpR ws).inode.blocks).length co18, .slice Ao19 ((unpR ws).inode.ents).length co19]) rfl ag_66 sz_66 (.t (.s16 (.s16 (.s4 (.s4 (.s (.s .z))))))) (WS.rows0 (.s4 (.s4 .z)) (fun i u h => by exact h))) ?_
 refine FJ.ql rfl (q_move rfl (.t (.s .z))) ?_
 refine FJ.call (goes_list rfl) rfl (by decide) rfl (c_call rfl Try.func53 rfl rfl (args2 (.t (.s .z)) (.t .z))) .n (fun w1 S1 hs tr => c_53 (kT_66_mk (⟨(unpR ws).code, (⟨(unpR ws).inode.kind, (unpR ws).inode.links, (unpR ws).inode.size, (vmark_RInode 1 (unpR ws)).inode.blocks, (vmark_RInode 1 (unpR ws)).inode.ents⟩ : DInode)⟩ : RInode) (tr.own (.s4 .z)) (tr.own (.s4 (.s .z)))) _ (unpR ws) rfl (by omega) (by first | omega | (omega))) ?_
 rintro _ _ ⟨rfl, rfl⟩
 refine FJ.cat .n ?_
 refine FJ.er (.s (.s (.s .z))) (FJ.ql rfl (q_assign rfl (.t .z)) (FJ.nil (FJ.then_ (FJ.seq ?_))))
 refine FJ.seq (FJ.region (FJ.ql rfl (q_move rfl (.t .z)) (FJ.ql rfl (q_lss rfl (.t .z) .c) (FJ.nil ?_))))
 refine FJ.then_ ?_
 refine FJ.condP (.t .z) (fun b39 => ?_) (fun b39 => ?_)
 exfalso; first | omega | contradiction
 refine FJ.skip (FJ.then_ (FJ.seq (FJ.seq (FJ.region ?_))))
 refine FJ.ql rfl (q_move rfl (.t (.s (.s .z)))) (FJ.ql rfl (q_move rfl (.t (.s16 (.s4 (.s (.s (.s .z))))))) (FJ.ql rfl (q_neq rfl (.t (.s .z)) (.t .z)) (FJ.nil (FJ.then_ ?_))))
 refine FJ.condN (.t .z) (fun b40 => ?_) (fun b40 => ?_)
 exfalso; first | omega | contradiction
 refine FJ.skip (FJ.then_ (FJ.seq (FJ.region (FJ.er (.s16 (.s16 (.s16 (.s4 (.s4 (.s4 (.s (.s (.s .z))))))))) ?_))))
 refine FJ.ql rfl (q_assign rfl .c) (FJ.nil (FJ.then_ (FJ.ret ?_)))
 refine FJ.doneS (res1 rfl .z) .n ?_
 exact ⟨rfl, rfl⟩

end Go.Proofs.Ytoaebcjjfojfeaa

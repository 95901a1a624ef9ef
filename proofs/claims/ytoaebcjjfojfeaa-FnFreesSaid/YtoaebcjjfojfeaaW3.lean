/- What is proved: contracts of functions, one a function. No condition. -/
import Derived.Test.YtoaebcjjfojfeaaW2
namespace Go.Proofs.Ytoaebcjjfojfeaa
open Go Go.RowKit
set_option linter.unusedVariables false
set_option linter.unusedSimpArgs false
set_option maxHeartbeats 1000000 in
set_option maxRecDepth 20000 in
theorem c_70 {w0 : World} {S0 : Bs} {x : DInode} {cs0 : List Value} (h0 : kT_30.ro w0 (FF w0 S0) x cs0)  :
    Calls Try.prog 70 #[.agg cs0.toArray] w0 (TriPost w0 S0 (fun r l => r = .int .i64 (inodeFault x) ∧ l = [])) := by
 obtain ⟨u0_3, u0_4, rfl, h0_3, h0_4⟩ := kT_30_ro h0
 obtain ⟨A0_3, c0_3, rfl, hl0_3, hm0_3, hb0_3, he0_3⟩ := ro_form h0_3
 obtain ⟨A0_4, c0_4, rfl, hl0_4, hm0_4, hb0_4, he0_4⟩ := ro_form h0_4
 refine FJ.enter (N := 50) Try.func70 rfl rfl (by simp) [(0, .agg #[.int .i64 x.kind, .int .i64 x.links, .int .i64 x.size, .slice A0_3 x.blocks.length c0_3, .slice A0_4 x.ents.length c0_4])] (by simp) (l0 := []) trivial ?_
 refine FJ.seq (FJ.region ?_)
 refine FJ.e (goes_list rfl) rfl (by decide) rfl (e_box (cs := [.int .i64 x.kind, .int .i64 x.links, .int .i64 x.size, .slice A0_3 x.blocks.length c0_3, .slice A0_4 x.ents.length c0_4]) (n := 5) rfl (.t .z) rfl rfl) ?_
 rintro _ _ ⟨g3, rfl, rfl⟩
 refine FJ.ql rfl (q_assign rfl .c) (FJ.nil (FJ.then_ (FJ.seq (FJ.region ?_))))
 refine FJ.ql rfl (q_fieldAddr rfl (.t (.s .z)) (fun _ => fa_30_1 _ _)) (FJ.ql rfl (q_load rfl ag_2 (.t .z) (WS.row .z rfl)) (FJ.ql rfl (q_eql rfl (.t .z) .c) (FJ.ql rfl (q_move rfl (.t .z)) ?_)))
 refine FJ.caseP .z (fun g4 => ?_) (fun g4 => ?_)
 refine FJ.q (goes_listg rfl rfl .z) rfl (by decide) rfl (q_fieldAddr rfl (.t (.s4 (.s .z))) (fun _ => fa_30_2 _ _)) ?_
 refine FJ.q (goes_listg rfl rfl (.s .z)) rfl (by decide) rfl (q_load rfl ag_2 (.t .z) (WS.row .z rfl)) ?_
 refine FJ.q (goes_listg rfl rfl (.s (.s .z))) rfl (by decide) rfl (q_eql rfl (.t .z) .c) ?_
 refine FJ.ql rfl (q_pickT rfl (.t (.s (.s (.s .z)))) (.t .z)) (FJ.ql rfl (q_move rfl (.t .z)) ?_)
 refine FJ.caseP .z (fun g5 => ?_) (fun g5 => ?_)
 refine FJ.q (goes_listg rfl rfl .z) rfl (by decide) rfl (q_fieldAddr rfl (.t (.s4 (.s4 (.s (.s .z))))) (fun _ => fa_30_3 _ _)) ?_
 refine FJ.q (goes_listg rfl rfl (.s .z)) rfl (by decide) rfl (q_load rfl ag_22 (.t .z) (WS.row .z rfl)) ?_
 refine FJ.q (goes_listg rfl rfl (.s (.s .z))) rfl (by decide) rfl (q_len rfl u_22 (.t .z)) ?_
 refine FJ.q (goes_listg rfl rfl (.s (.s (.s .z)))) rfl (by decide) rfl (q_eql rfl (.t .z) .c) ?_
 refine FJ.ql rfl (q_pickT rfl (.t (.s4 .z)) (.t .z)) (FJ.ql rfl (q_assign rfl (.t .z)) (FJ.nil (FJ.then_ (FJ.seq ?_))))
 refine FJ.region (FJ.ql rfl (q_fieldAddr rfl (.t (.s16 .z)) (fun _ => fa_30_4 _ _)) (FJ.ql rfl (q_load rfl ag_28 (.t .z) (WS.row .z rfl)) (FJ.ql rfl (q_len rfl u_28 (.t .z)) (FJ.ql rfl (q_eql rfl (.t .z) .c) ?_))))
 refine FJ.ql rfl (q_assign rfl (.t .z)) (FJ.nil (FJ.then_ (FJ.seq (FJ.block ?_))))
 refine FJ.seq (FJ.seq (FJ.region (FJ.ql rfl (q_fieldAddr rfl (.t (.s16 (.s4 (.s .z)))) (fun _ => fa_30_0 _ _)) (FJ.ql rfl (q_load rfl ag_2 (.t .z) (WS.row .z rfl)) ?_))))
 refine FJ.call (goes_list rfl) rfl (by decide) rfl (c_call rfl Try.func84 rfl rfl (args3 (.t .z) .c .c)) .n (fun w1 S1 hs tr => c_84 _ _ _) ?_
 rintro _ _ ⟨rfl, rfl⟩
 refine FJ.cat .n ?_
 refine FJ.ql rfl (q_not rfl (.t .z)) (FJ.ql rfl (q_assign rfl (.t .z)) (FJ.nil (FJ.then_ ?_)))
 refine FJ.condN (.t .z) (fun b6 => ?_) (fun b6 => ?_)
 refine FJ.skip (FJ.then_ ?_)
 refine FJ.condN (.t .z) (fun b7 => ?_) (fun b7 => ?_)
 refine FJ.seq (FJ.region (FJ.er (.s16 (.s4 (.s4 (.s .z)))) (FJ.ql rfl (q_assign rfl .c) (FJ.nil ?_))))
 refine FJ.then_ (FJ.ret (FJ.inBR (FJ.thenR ?_)))
 refine FJ.doneS (res1 rfl .z) .n ?_
 exact ⟨by first | (rw [inodeFault_k (by assumption)]; done) | (rw [inodeFault_1 (by omega)]; done) | (rw [inodeFault_f (by omega) (by omega)]; done) | (rw [inodeFault_r (by assumption) (by omega) (by omega) (by omega)]; done) | (rw [inodeFault_d (by omega) (by omega)]; done) | (rw [inodeFault_0 (by omega) (by omega) (by omega)]; done), rfl⟩
 refine FJ.seq (FJ.region (FJ.ql rfl (q_fieldAddr rfl (.t (.s16 (.s4 (.s4 (.s (.s .z)))))) (fun _ => fa_30_0 _ _)) (FJ.ql rfl (q_load rfl ag_2 (.t .z) (WS.row .z rfl)) (FJ.ql rfl (q_eql rfl (.t .z) .c) ?_))))
 refine FJ.ql rfl (q_assign rfl (.t .z)) (FJ.nil (FJ.then_ ?_))
 refine FJ.condP (.t .z) (fun b8 => ?_) (fun b8 => ?_)
 refine FJ.seq (FJ.region ?_)
 refine FJ.ql rfl (q_loadA (cs := [.int .i64 x.kind, .int .i64 x.links, .int .i64 x.size, .slice A0_3 x.blocks.length c0_3, .slice A0_4 x.ents.length c0_4]) rfl ag_30 sz_30 (.t (.s16 (.s4 (.s4 (.s4 (.s (.s .z))))))) (WS.rows0 .z (fun i u h => by exact h))) ?_
 refine FJ.call (goes_list rfl) rfl (by decide) rfl (c_call rfl Try.func120 rfl rfl (args1 (.t .z))) .n (fun w1 S1 hs tr => c_120 (kT_30_mk x (tr.ctx h0_3) (tr.ctx h0_4))) ?_
 rintro _ _ ⟨rfl, rfl⟩
 refine FJ.cat .n ?_
 refine FJ.er (.s16 (.s4 (.s4 (.s4 (.s (.s (.s .z))))))) (FJ.ql rfl (q_assign rfl (.t .z)) (FJ.nil (FJ.then_ (FJ.ret ?_))))
 refine FJ.inBR (FJ.thenR ?_)
 refine FJ.doneS (res1 rfl .z) .n ?_
 exact ⟨by first | (rw [inodeFault_k (by assumption)]; done) | (rw [inodeFault_1 (by omega)]; done) | (rw [inodeFault_f (by omega) (by omega)]; done) | (rw [inodeFault_r (by assumption) (by omega) (by omega) (by omega)]; done) | (rw [inodeFault_d (by omega) (by omega)]; done) | (rw [inodeFault_0 (by omega) (by omega) (by omega)]; done), rfl⟩
 refine FJ.skip (FJ.inBN (FJ.then_ (FJ.seq (FJ.region ?_))))
 refine FJ.ql rfl (q_loadA (cs := [.int .i64 x.kind, .int .i64 x.links, .int .i64 x.size, .slice A0_3 x.blocks.length c0_3, .slice A0_4 x.ents.length c0_4]) rfl ag_30 sz_30 (.t (.s16 (.s4 (.s4 (.s4 (.s (.s .z))))))) (WS.rows0 .z (fun i u h => by exact h))) ?_
 refine FJ.call (goes_list rfl) rfl (by decide) rfl (c_call rfl Try.func121 rfl rfl (args1 (.t .z))) .n (fun w1 S1 hs tr => c_121 (kT_30_mk x (tr.ctx h0_3) (tr.ctx h0_4))) ?_
 rintro _ _ ⟨rfl, rfl⟩
 refine FJ.cat .n ?_
 refine FJ.er (.s16 (.s4 (.s4 (.s4 (.s (.s (.s .z))))))) (FJ.ql rfl (q_assign rfl (.t .z)) (FJ.nil (FJ.then_ (FJ.ret ?_))))
 refine FJ.doneS (res1 rfl .z) .n ?_
 exact ⟨by first | (rw [inodeFault_k (by assumption)]; done) | (rw [inodeFault_1 (by omega)]; done) | (rw [inodeFault_f (by omega) (by omega)]; done) | (rw [inodeFault_r (by assumption) (by omega) (by omega) (by omega)]; done) | (rw [inodeFault_d (by omega) (by omega)]; done) | (rw [inodeFault_0 (by omega) (by omega) (by omega)]; done), rfl⟩
 refine FJ.seq (FJ.region (FJ.ql rfl (q_fieldAddr rfl (.t (.s16 (.s4 (.s4 (.s (.s .z)))))) (fun _ => fa_30_0 _ _)) (FJ.ql rfl (q_load rfl ag_2 (.t .z) (WS.row .z rfl)) (FJ.ql rfl (q_neq rfl (.t .z) .c) ?_))))
 refine FJ.ql rfl (q_move rfl (.t .z)) ?_
 refine FJ.caseN .z (fun g9 => ?_) (fun g9 => ?_)
 refine FJ.q (goes_listg rfl rfl .z) rfl (by decide) rfl (q_move rfl (.t (.s4 (.s4 (.s4 (.s (.s .z))))))) ?_
 refine FJ.q (goes_listg rfl rfl (.s .z)) rfl (by decide) rfl (q_not rfl (.t .z)) ?_
 refine FJ.ql rfl (q_pickT rfl (.t (.s (.s .z))) (.t .z)) (FJ.er (.s4 (.s (.s (.s .z)))) (FJ.ql rfl (q_assign rfl (.t .z)) (FJ.nil (FJ.then_ ?_))))
 refine FJ.condN (.t .z) (fun b10 => ?_) (fun b10 => ?_)
 refine FJ.skip (FJ.then_ ?_)
 refine FJ.condN (.t .z) (fun b11 => ?_) (fun b11 => ?_)
 refine FJ.seq (FJ.region (FJ.er (.s16 (.s16 .z)) (FJ.ql rfl (q_assign rfl .c) (FJ.nil ?_))))
 refine FJ.then_ (FJ.ret (FJ.inBR (FJ.thenR ?_)))
 refine FJ.doneS (res1 rfl .z) .n ?_
 exact ⟨by first | (rw [inodeFault_k (by assumption)]; done) | (rw [inodeFault_1 (by omega)]; done) | (rw [inodeFault_f (by omega) (by omega)]; done) | (rw [inodeFault_r (by assumption) (by omega) (by omega) (by omega)]; done) | (rw [inodeFault_d (by omega) (by omega)]; done) | (rw [inodeFault_0 (by omega) (by omega) (by omega)]; done), rfl⟩
 exfalso; first | omega | contradiction
 refine FJ.region (FJ.ql rfl (q_fieldAddr rfl (.t (.s16 (.s16 (.s .z)))) (fun _ => fa_30_0 _ _)) (FJ.ql rfl (q_load rfl ag_2 (.t .z) (WS.row .z rfl)) (FJ.ql rfl (q_neq rfl (.t .z) .c) (FJ.ql rfl (q_move rfl (.t .z)) ?_))))
 refine FJ.caseN .z (fun g12 => ?_) (fun g12 => ?_)
 refine FJ.q (goes_listg rfl rfl .z) rfl (by decide) rfl (q_move rfl (.t (.s16 .z))) ?_
 refine FJ.q (goes_listg rfl rfl (.s .z)) rfl (by decide) rfl (q_not rfl (.t .z)) ?_
 refine FJ.ql rfl (q_pickT rfl (.t (.s (.s .z))) (.t .z)) (FJ.er (.s4 (.s (.s (.s .z)))) (FJ.ql rfl (q_assign rfl (.t .z)) (FJ.nil (FJ.then_ ?_))))
 refine FJ.condN (.t .z) (fun b13 => ?_) (fun b13 => ?_)
 refine FJ.seq (FJ.region (FJ.er (.s16 (.s16 (.s4 (.s (.s (.s .z)))))) (FJ.ql rfl (q_assign rfl .c) (FJ.nil ?_))))
 refine FJ.then_ (FJ.ret (FJ.inBR (FJ.thenR ?_)))
 refine FJ.doneS (res1 rfl .z) .n ?_
 exact ⟨by first | (rw [inodeFault_k (by assumption)]; done) | (rw [inodeFault_1 (by omega)]; done) | (rw [inodeFault_f (by omega) (by omega)]; done) | (rw [inodeFault_r (by assumption) (by omega) (by omega) (by omega)]; done) | (rw [inodeFault_d (by omega) (by omega)]; done) | (rw [inodeFault_0 (by omega) (by omega) (by omega)]; done), rfl⟩
 refine FJ.seq (FJ.region (FJ.ql rfl (q_fieldAddr rfl (.t (.s16 (.s16 (.s4 (.s4 .z))))) (fun _ => fa_30_0 _ _)) (FJ.ql rfl (q_load rfl ag_2 (.t .z) (WS.row .z rfl)) (FJ.ql rfl (q_eql rfl (.t .z) .c) ?_))))
 refine FJ.ql rfl (q_assign rfl (.t .z)) (FJ.nil (FJ.then_ ?_))
 refine FJ.condP (.t .z) (fun b14 => ?_) (fun b14 => ?_)
 exfalso; first | omega | contradiction
 refine FJ.skip (FJ.inBN (FJ.then_ (FJ.seq (FJ.region ?_))))
 refine FJ.ql rfl (q_loadA (cs := [.int .i64 x.kind, .int .i64 x.links, .int .i64 x.size, .slice A0_3 x.blocks.length c0_3, .slice A0_4 x.ents.length c0_4]) rfl ag_30 sz_30 (.t (.s16 (.s16 (.s4 (.s4 (.s4 .z)))))) (WS.rows0 .z (fun i u h => by exact h))) ?_
 refine FJ.call (goes_list rfl) rfl (by decide) rfl (c_call rfl Try.func121 rfl rfl (args1 (.t .z))) .n (fun w1 S1 hs tr => c_121 (kT_30_mk x (tr.ctx h0_3) (tr.ctx h0_4))) ?_
 rintro _ _ ⟨rfl, rfl⟩
 refine FJ.cat .n ?_
 refine FJ.er (.s16 (.s16 (.s4 (.s4 (.s4 (.s .z)))))) (FJ.ql rfl (q_assign rfl (.t .z)) (FJ.nil (FJ.then_ (FJ.ret ?_))))
 refine FJ.doneS (res1 rfl .z) .n ?_
 exact ⟨by first | (rw [inodeFault_k (by assumption)]; done) | (rw [inodeFault_1 (by omega)]; done) | (rw [inodeFault_f (by omega) (by omega)]; done) | (rw [inodeFault_r (by assumption) (by omega) (by omega) (by omega)]; done) | (rw [inodeFault_d (by omega) (by omega)]; done) | (rw [inodeFault_0 (by omega) (by omega) (by omega)]; done), rfl⟩
 refine FJ.skipl rfl rfl .z rfl rfl (by decide) rfl ?_
 refine FJ.skipl rfl rfl (.s .z) rfl rfl (by decide) rfl ?_
 refine FJ.ql rfl (q_pickF rfl (.t (.s (.s .z))) .c) (FJ.er (.s4 (.s (.s (.s .z)))) (FJ.ql rfl (q_assign rfl (.t .z)) (FJ.nil (FJ.then_ ?_))))
 refine FJ.condF (.t .z) ?_
 refine FJ.seq (FJ.region (FJ.ql rfl (q_fieldAddr rfl (.t (.s16 (.s16 (.s4 (.s4 .z))))) (fun _ => fa_30_0 _ _)) (FJ.ql rfl (q_load rfl ag_2 (.t .z) (WS.row .z rfl)) (FJ.ql rfl (q_eql rfl (.t .z) .c) ?_))))
 refine FJ.ql rfl (q_assign rfl (.t .z)) (FJ.nil (FJ.then_ ?_))
 refine FJ.condP (.t .z) (fun b15 => ?_) (fun b15 => ?_)
 exfalso; first | omega | contradiction
 refine FJ.skip (FJ.inBN (FJ.then_ (FJ.seq (FJ.region ?_))))
 refine FJ.ql rfl (q_loadA (cs := [.int .i64 x.kind, .int .i64 x.links, .int .i64 x.size, .slice A0_3 x.blocks.length c0_3, .slice A0_4 x.ents.length c0_4]) rfl ag_30 sz_30 (.t (.s16 (.s16 (.s4 (.s4 (.s4 .z)))))) (WS.rows0 .z (fun i u h => by exact h))) ?_
 refine FJ.call (goes_list rfl) rfl (by decide) rfl (c_call rfl Try.func121 rfl rfl (args1 (.t .z))) .n (fun w1 S1 hs tr => c_121 (kT_30_mk x (tr.ctx h0_3) (tr.ctx h0_4))) ?_
 rintro _ _ ⟨rfl, rfl⟩
 refine FJ.cat .n ?_
 refine FJ.er (.s16 (.s16 (.s4 (.s4 (.s4 (.s .z)))))) (FJ.ql rfl (q_assign rfl (.t .z)) (FJ.nil (FJ.then_ (FJ.ret ?_))))
 refine FJ.doneS (res1 rfl .z) .n ?_
 exact ⟨by first | (rw [inodeFault_k (by assumption)]; done) | (rw [inodeFault_1 (by omega)]; done) | (rw [inodeFault_f (by omega) (by omega)]; done) | (rw [inodeFault_r (by assumption) (by omega) (by omega) (by omega)]; done) | (rw [inodeFault_d (by omega) (by omega)]; done) | (rw [inodeFault_0 (by omega) (by omega) (by omega)]; done), rfl⟩
 refine FJ.skipl rfl rfl .z rfl rfl (by decide) rfl ?_
 refine FJ.skipl rfl rfl (.s .z) rfl rfl (by decide) rfl ?_
 refine FJ.ql rfl (q_pickF rfl (.t (.s (.s .z))) .c) (FJ.er (.s4 (.s (.s (.s .z)))) (FJ.ql rfl (q_assign rfl (.t .z)) (FJ.nil (FJ.then_ ?_))))
 refine FJ.condF (.t .z) ?_
 refine FJ.region (FJ.ql rfl (q_fieldAddr rfl (.t (.s16 (.s16 (.s .z)))) (fun _ => fa_30_0 _ _)) (FJ.ql rfl (q_load rfl ag_2 (.t .z) (WS.row .z rfl)) (FJ.ql rfl (q_neq rfl (.t .z) .c) (FJ.ql rfl (q_move rfl (.t .z)) ?_))))
 refine FJ.caseN .z (fun g16 => ?_) (fun g16 => ?_)
 refine FJ.q (goes_listg rfl rfl .z) rfl (by decide) rfl (q_move rfl (.t (.s16 .z))) ?_
 refine FJ.q (goes_listg rfl rfl (.s .z)) rfl (by decide) rfl (q_not rfl (.t .z)) ?_
 refine FJ.ql rfl (q_pickT rfl (.t (.s (.s .z))) (.t .z)) (FJ.er (.s4 (.s (.s (.s .z)))) (FJ.ql rfl (q_assign rfl (.t .z)) (FJ.nil (FJ.then_ ?_))))
 refine FJ.condN (.t .z) (fun b17 => ?_) (fun b17 => ?_)
 refine FJ.seq (FJ.region (FJ.er (.s16 (.s16 (.s4 (.s (.s (.s .z)))))) (FJ.ql rfl (q_assign rfl .c) (FJ.nil ?_))))
 refine FJ.then_ (FJ.ret (FJ.inBR (FJ.thenR ?_)))
 refine FJ.doneS (res1 rfl .z) .n ?_
 exact ⟨by first | (rw [inodeFault_k (by assumption)]; done) | (rw [inodeFault_1 (by omega)]; done) | (rw [inodeFault_f (by omega) (by omega)]; done) | (rw [inodeFault_r (by assumption) (by omega) (by omega) (by omega)]; done) | (rw [inodeFault_d (by omega) (by omega)]; done) | (rw [inodeFault_0 (by omega) (by omega) (by omega)]; done), rfl⟩
 refine FJ.seq (FJ.region (FJ.ql rfl (q_fieldAddr rfl (.t (.s16 (.s16 (.s4 (.s4 .z))))) (fun _ => fa_30_0 _ _)) (FJ.ql rfl (q_load rfl ag_2 (.t .z) (WS.row .z rfl)) (FJ.ql rfl (q_eql rfl (.t .z) .c) ?_))))
 refine FJ.ql rfl (q_assign rfl (.t .z)) (FJ.nil (FJ.then_ ?_))
 refine FJ.condP (.t .z) (fun b18 => ?_) (fun b18 => ?_)
 refine FJ.seq (FJ.region ?_)
 refine FJ.ql rfl (q_loadA (cs := [.int .i64 x.kind, .int .i64 x.links, .int .i64 x.size, .slice A0_3 x.blocks.length c0_3, .slice A0_4 x.ents.length c0_4]) rfl ag_30 sz_30 (.t (.s16 (.s16 (.s4 (.s4 (.s4 .z)))))) (WS.rows0 .z (fun i u h => by exact h))) ?_
 refine FJ.call (goes_list rfl) rfl (by decide) rfl (c_call rfl Try.func120 rfl rfl (args1 (.t .z))) .n (fun w1 S1 hs tr => c_120 (kT_30_mk x (tr.ctx h0_3) (tr.ctx h0_4))) ?_
 rintro _ _ ⟨rfl, rfl⟩
 refine FJ.cat .n ?_
 refine FJ.er (.s16 (.s16 (.s4 (.s4 (.s4 (.s .z)))))) (FJ.ql rfl (q_assign rfl (.t .z)) (FJ.nil (FJ.then_ (FJ.ret ?_))))
 refine FJ.inBR (FJ.thenR ?_)
 refine FJ.doneS (res1 rfl .z) .n ?_
 exact ⟨by first | (rw [inodeFault_k (by assumption)]; done) | (rw [inodeFault_1 (by omega)]; done) | (rw [inodeFault_f (by omega) (by omega)]; done) | (rw [inodeFault_r (by assumption) (by omega) (by omega) (by omega)]; done) | (rw [inodeFault_d (by omega) (by omega)]; done) | (rw [inodeFault_0 (by omega) (by omega) (by omega)]; done), rfl⟩
 exfalso; first | omega | contradiction
 exfalso; first | omega | contradiction
 refine FJ.skipl rfl rfl .z rfl rfl (by decide) rfl ?_
 refine FJ.skipl rfl rfl (.s .z) rfl rfl (by decide) rfl ?_
 refine FJ.skipl rfl rfl (.s (.s .z)) rfl rfl (by decide) rfl ?_
 refine FJ.skipl rfl rfl (.s (.s (.s .z))) rfl rfl (by decide) rfl ?_
 refine FJ.ql rfl (q_pickF rfl (.t (.s4 .z)) .c) (FJ.ql rfl (q_assign rfl (.t .z)) (FJ.nil (FJ.then_ (FJ.seq ?_))))
 refine FJ.region (FJ.ql rfl (q_fieldAddr rfl (.t (.s16 .z)) (fun _ => fa_30_4 _ _)) (FJ.ql rfl (q_load rfl ag_28 (.t .z) (WS.row .z rfl)) (FJ.ql rfl (q_len rfl u_28 (.t .z)) (FJ.ql rfl (q_eql rfl (.t .z) .c) ?_))))
 refine FJ.ql rfl (q_assign rfl (.t .z)) (FJ.nil (FJ.then_ (FJ.seq (FJ.block ?_))))
 refine FJ.seq (FJ.seq (FJ.region (FJ.ql rfl (q_fieldAddr rfl (.t (.s16 (.s4 (.s .z)))) (fun _ => fa_30_0 _ _)) (FJ.ql rfl (q_load rfl ag_2 (.t .z) (WS.row .z rfl)) ?_))))
 refine FJ.call (goes_list rfl) rfl (by decide) rfl (c_call rfl Try.func84 rfl rfl (args3 (.t .z) .c .c)) .n (fun w1 S1 hs tr => c_84 _ _ _) ?_
 rintro _ _ ⟨rfl, rfl⟩
 refine FJ.cat .n ?_
 refine FJ.ql rfl (q_not rfl (.t .z)) (FJ.ql rfl (q_assign rfl (.t .z)) (FJ.nil (FJ.then_ ?_)))
 refine FJ.condN (.t .z) (fun b19 => ?_) (fun b19 => ?_)
 refine FJ.skip (FJ.then_ ?_)
 refine FJ.condN (.t .z) (fun b20 => ?_) (fun b20 => ?_)
 refine FJ.seq (FJ.region (FJ.er (.s16 (.s4 (.s4 (.s .z)))) (FJ.ql rfl (q_assign rfl .c) (FJ.nil ?_))))
 refine FJ.then_ (FJ.ret (FJ.inBR (FJ.thenR ?_)))
 refine FJ.doneS (res1 rfl .z) .n ?_
 exact ⟨by first | (rw [inodeFault_k (by assumption)]; done) | (rw [inodeFault_1 (by omega)]; done) | (rw [inodeFault_f (by omega) (by omega)]; done) | (rw [inodeFault_r (by assumption) (by omega) (by omega) (by omega)]; done) | (rw [inodeFault_d (by omega) (by omega)]; done) | (rw [inodeFault_0 (by omega) (by omega) (by omega)]; done), rfl⟩
 refine FJ.seq (FJ.region (FJ.ql rfl (q_fieldAddr rfl (.t (.s16 (.s4 (.s4 (.s (.s .z)))))) (fun _ => fa_30_0 _ _)) (FJ.ql rfl (q_load rfl ag_2 (.t .z) (WS.row .z rfl)) (FJ.ql rfl (q_eql rfl (.t .z) .c) ?_))))
 refine FJ.ql rfl (q_assign rfl (.t .z)) (FJ.nil (FJ.then_ ?_))
 refine FJ.condP (.t .z) (fun b21 => ?_) (fun b21 => ?_)
 refine FJ.seq (FJ.region ?_)
 refine FJ.ql rfl (q_loadA (cs := [.int .i64 x.kind, .int .i64 x.links, .int .i64 x.size, .slice A0_3 x.blocks.length c0_3, .slice A0_4 x.ents.length c0_4]) rfl ag_30 sz_30 (.t (.s16 (.s4 (.s4 (.s4 (.s (.s .z))))))) (WS.rows0 .z (fun i u h => by exact h))) ?_
 refine FJ.call (goes_list rfl) rfl (by decide) rfl (c_call rfl Try.func120 rfl rfl (args1 (.t .z))) .n (fun w1 S1 hs tr => c_120 (kT_30_mk x (tr.ctx h0_3) (tr.ctx h0_4))) ?_
 rintro _ _ ⟨rfl, rfl⟩
 refine FJ.cat .n ?_
 refine FJ.er (.s16 (.s4 (.s4 (.s4 (.s (.s (.s .z))))))) (FJ.ql rfl (q_assign rfl (.t .z)) (FJ.nil (FJ.then_ (FJ.ret ?_))))
 refine FJ.inBR (FJ.thenR ?_)
 refine FJ.doneS (res1 rfl .z) .n ?_
 exact ⟨by first | (rw [inodeFault_k (by assumption)]; done) | (rw [inodeFault_1 (by omega)]; done) | (rw [inodeFault_f (by omega) (by omega)]; done) | (rw [inodeFault_r (by assumption) (by omega) (by omega) (by omega)]; done) | (rw [inodeFault_d (by omega) (by omega)]; done) | (rw [inodeFault_0 (by omega) (by omega) (by omega)]; done), rfl⟩
 refine FJ.skip (FJ.inBN (FJ.then_ (FJ.seq (FJ.region ?_))))
 refine FJ.ql rfl (q_loadA (cs := [.int .i64 x.kind, .int .i64 x.links, .int .i64 x.size, .slice A0_3 x.blocks.length c0_3, .slice A0_4 x.ents.length c0_4]) rfl ag_30 sz_30 (.t (.s16 (.s4 (.s4 (.s4 (.s (.s .z))))))) (WS.rows0 .z (fun i u h => by exact h))) ?_
 refine FJ.call (goes_list rfl) rfl (by decide) rfl (c_call rfl Try.func121 rfl rfl (args1 (.t .z))) .n (fun w1 S1 hs tr => c_121 (kT_30_mk x (tr.ctx h0_3) (tr.ctx h0_4))) ?_
 rintro _ _ ⟨rfl, rfl⟩
 refine FJ.cat .n ?_
 refine FJ.er (.s16 (.s4 (.s4 (.s4 (.s (.s (.s .z))))))) (FJ.ql rfl (q_assign rfl (.t .z)) (FJ.nil (FJ.then_ (FJ.ret ?_))))
 refine FJ.doneS (res1 rfl .z) .n ?_
 exact ⟨by first | (rw [inodeFault_k (by assumption)]; done) | (rw [inodeFault_1 (by omega)]; done) | (rw [inodeFault_f (by omega) (by omega)]; done) | (rw [inodeFault_r (by assumption) (by omega) (by omega) (by omega)]; done) | (rw [inodeFault_d (by omega) (by omega)]; done) | (rw [inodeFault_0 (by omega) (by omega) (by omega)]; done), rfl⟩
 refine FJ.seq (FJ.region (FJ.ql rfl (q_fieldAddr rfl (.t (.s16 (.s4 (.s4 (.s (.s .z)))))) (fun _ => fa_30_0 _ _)) (FJ.ql rfl (q_load rfl ag_2 (.t .z) (WS.row .z rfl)) (FJ.ql rfl (q_neq rfl (.t .z) .c) ?_))))
 refine FJ.ql rfl (q_move rfl (.t .z)) ?_
 refine FJ.caseN .z (fun g22 => ?_) (fun g22 => ?_)
 refine FJ.q (goes_listg rfl rfl .z) rfl (by decide) rfl (q_move rfl (.t (.s4 (.s4 (.s4 (.s (.s .z))))))) ?_
 refine FJ.q (goes_listg rfl rfl (.s .z)) rfl (by decide) rfl (q_not rfl (.t .z)) ?_
 refine FJ.ql rfl (q_pickT rfl (.t (.s (.s .z))) (.t .z)) (FJ.er (.s4 (.s (.s (.s .z)))) (FJ.ql rfl (q_assign rfl (.t .z)) (FJ.nil (FJ.then_ ?_))))
 refine FJ.condT (.t .z) ?_
 refine FJ.skip (FJ.then_ ?_)
 refine FJ.condT (.t .z) ?_
 refine FJ.seq (FJ.region (FJ.er (.s16 (.s16 .z)) (FJ.ql rfl (q_assign rfl .c) (FJ.nil ?_))))
 refine FJ.then_ (FJ.ret (FJ.inBR (FJ.thenR ?_)))
 refine FJ.doneS (res1 rfl .z) .n ?_
 exact ⟨by first | (rw [inodeFault_k (by assumption)]; done) | (rw [inodeFault_1 (by omega)]; done) | (rw [inodeFault_f (by omega) (by omega)]; done) | (rw [inodeFault_r (by assumption) (by omega) (by omega) (by omega)]; done) | (rw [inodeFault_d (by omega) (by omega)]; done) | (rw [inodeFault_0 (by omega) (by omega) (by omega)]; done), rfl⟩
 refine FJ.skipl rfl rfl .z rfl rfl (by decide) rfl ?_
 refine FJ.skipl rfl rfl (.s .z) rfl rfl (by decide) rfl ?_
 refine FJ.ql rfl (q_pickF rfl (.t (.s (.s .z))) .c) (FJ.er (.s4 (.s (.s (.s .z)))) (FJ.ql rfl (q_assign rfl (.t .z)) (FJ.nil (FJ.then_ ?_))))
 refine FJ.condF (.t .z) ?_
 refine FJ.region (FJ.ql rfl (q_fieldAddr rfl (.t (.s16 (.s16 (.s .z)))) (fun _ => fa_30_0 _ _)) (FJ.ql rfl (q_load rfl ag_2 (.t .z) (WS.row .z rfl)) (FJ.ql rfl (q_neq rfl (.t .z) .c) (FJ.ql rfl (q_move rfl (.t .z)) ?_))))
 refine FJ.caseN .z (fun g23 => ?_) (fun g23 => ?_)
 refine FJ.q (goes_listg rfl rfl .z) rfl (by decide) rfl (q_move rfl (.t (.s16 .z))) ?_
 refine FJ.q (goes_listg rfl rfl (.s .z)) rfl (by decide) rfl (q_not rfl (.t .z)) ?_
 refine FJ.ql rfl (q_pickT rfl (.t (.s (.s .z))) (.t .z)) (FJ.er (.s4 (.s (.s (.s .z)))) (FJ.ql rfl (q_assign rfl (.t .z)) (FJ.nil (FJ.then_ ?_))))
 refine FJ.condN (.t .z) (fun b24 => ?_) (fun b24 => ?_)
 refine FJ.seq (FJ.region (FJ.er (.s16 (.s16 (.s4 (.s (.s (.s .z)))))) (FJ.ql rfl (q_assign rfl .c) (FJ.nil ?_))))
 refine FJ.then_ (FJ.ret (FJ.inBR (FJ.thenR ?_)))
 refine FJ.doneS (res1 rfl .z) .n ?_
 exact ⟨by first | (rw [inodeFault_k (by assumption)]; done) | (rw [inodeFault_1 (by omega)]; done) | (rw [inodeFault_f (by omega) (by omega)]; done) | (rw [inodeFault_r (by assumption) (by omega) (by omega) (by omega)]; done) | (rw [inodeFault_d (by omega) (by omega)]; done) | (rw [inodeFault_0 (by omega) (by omega) (by omega)]; done), rfl⟩
 refine FJ.seq (FJ.region (FJ.ql rfl (q_fieldAddr rfl (.t (.s16 (.s16 (.s4 (.s4 .z))))) (fun _ => fa_30_0 _ _)) (FJ.ql rfl (q_load rfl ag_2 (.t .z) (WS.row .z rfl)) (FJ.ql rfl (q_eql rfl (.t .z) .c) ?_))))
 refine FJ.ql rfl (q_assign rfl (.t .z)) (FJ.nil (FJ.then_ ?_))
 refine FJ.condP (.t .z) (fun b25 => ?_) (fun b25 => ?_)
 refine FJ.seq (FJ.region ?_)
 refine FJ.ql rfl (q_loadA (cs := [.int .i64 x.kind, .int .i64 x.links, .int .i64 x.size, .slice A0_3 x.blocks.length c0_3, .slice A0_4 x.ents.length c0_4]) rfl ag_30 sz_30 (.t (.s16 (.s16 (.s4 (.s4 (.s4 .z)))))) (WS.rows0 .z (fun i u h => by exact h))) ?_
 refine FJ.call (goes_list rfl) rfl (by decide) rfl (c_call rfl Try.func120 rfl rfl (args1 (.t .z))) .n (fun w1 S1 hs tr => c_120 (kT_30_mk x (tr.ctx h0_3) (tr.ctx h0_4))) ?_
 rintro _ _ ⟨rfl, rfl⟩
 refine FJ.cat .n ?_
 refine FJ.er (.s16 (.s16 (.s4 (.s4 (.s4 (.s .z)))))) (FJ.ql rfl (q_assign rfl (.t .z)) (FJ.nil (FJ.then_ (FJ.ret ?_))))
 refine FJ.inBR (FJ.thenR ?_)
 refine FJ.doneS (res1 rfl .z) .n ?_
 exact ⟨by first | (rw [inodeFault_k (by assumption)]; done) | (rw [inodeFault_1 (by omega)]; done) | (rw [inodeFault_f (by omega) (by omega)]; done) | (rw [inodeFault_r (by assumption) (by omega) (by omega) (by omega)]; done) | (rw [inodeFault_d (by omega) (by omega)]; done) | (rw [inodeFault_0 (by omega) (by omega) (by omega)]; done), rfl⟩
 exfalso; first | omega | contradiction
 exfalso; first | omega | contradiction
 refine FJ.skipl rfl rfl .z rfl rfl (by decide) rfl ?_
 refine FJ.skipl rfl rfl (.s .z) rfl rfl (by decide) rfl ?_
 refine FJ.skipl rfl rfl (.s (.s .z)) rfl rfl (by decide) rfl ?_
 refine FJ.ql rfl (q_pickF rfl (.t (.s (.s (.s .z)))) .c) (FJ.ql rfl (q_move rfl (.t .z)) ?_)
 refine FJ.skipl rfl rfl .z rfl rfl (by decide) rfl ?_
 refine FJ.skipl rfl rfl (.s .z) rfl rfl (by decide) rfl ?_
 refine FJ.skipl rfl rfl (.s (.s .z)) rfl rfl (by decide) rfl ?_
 refine FJ.skipl rfl rfl (.s (.s (.s .z))) rfl rfl (by decide) rfl ?_
 refine FJ.ql rfl (q_pickF rfl (.t (.s4 .z)) .c) (FJ.ql rfl (q_assign rfl (.t .z)) (FJ.nil (FJ.then_ (FJ.seq ?_))))
 refine FJ.region (FJ.ql rfl (q_fieldAddr rfl (.t (.s16 .z)) (fun _ => fa_30_4 _ _)) (FJ.ql rfl (q_load rfl ag_28 (.t .z) (WS.row .z rfl)) (FJ.ql rfl (q_len rfl u_28 (.t .z)) (FJ.ql rfl (q_eql rfl (.t .z) .c) ?_))))
 refine FJ.ql rfl (q_assign rfl (.t .z)) (FJ.nil (FJ.then_ (FJ.seq (FJ.block ?_))))
 refine FJ.seq (FJ.seq (FJ.region (FJ.ql rfl (q_fieldAddr rfl (.t (.s16 (.s4 (.s .z)))) (fun _ => fa_30_0 _ _)) (FJ.ql rfl (q_load rfl ag_2 (.t .z) (WS.row .z rfl)) ?_))))
 refine FJ.call (goes_list rfl) rfl (by decide) rfl (c_call rfl Try.func84 rfl rfl (args3 (.t .z) .c .c)) .n (fun w1 S1 hs tr => c_84 _ _ _) ?_
 rintro _ _ ⟨rfl, rfl⟩
 refine FJ.cat .n ?_
 refine FJ.ql rfl (q_not rfl (.t .z)) (FJ.ql rfl (q_assign rfl (.t .z)) (FJ.nil (FJ.then_ ?_)))
 refine FJ.condN (.t .z) (fun b26 => ?_) (fun b26 => ?_)
 refine FJ.skip (FJ.then_ ?_)
 refine FJ.condN (.t .z) (fun b27 => ?_) (fun b27 => ?_)
 refine FJ.seq (FJ.region (FJ.er (.s16 (.s4 (.s4 (.s .z)))) (FJ.ql rfl (q_assign rfl .c) (FJ.nil ?_))))
 refine FJ.then_ (FJ.ret (FJ.inBR (FJ.thenR ?_)))
 refine FJ.doneS (res1 rfl .z) .n ?_
 exact ⟨by first | (rw [inodeFault_k (by assumption)]; done) | (rw [inodeFault_1 (by omega)]; done) | (rw [inodeFault_f (by omega) (by omega)]; done) | (rw [inodeFault_r (by assumption) (by omega) (by omega) (by omega)]; done) | (rw [inodeFault_d (by omega) (by omega)]; done) | (rw [inodeFault_0 (by omega) (by omega) (by omega)]; done), rfl⟩
 refine FJ.seq (FJ.region (FJ.ql rfl (q_fieldAddr rfl (.t (.s16 (.s4 (.s4 (.s (.s .z)))))) (fun _ => fa_30_0 _ _)) (FJ.ql rfl (q_load rfl ag_2 (.t .z) (WS.row .z rfl)) (FJ.ql rfl (q_eql rfl (.t .z) .c) ?_))))
 refine FJ.ql rfl (q_assign rfl (.t .z)) (FJ.nil (FJ.then_ ?_))
 refine FJ.condP (.t .z) (fun b28 => ?_) (fun b28 => ?_)
 refine FJ.seq (FJ.region ?_)
 refine FJ.ql rfl (q_loadA (cs := [.int .i64 x.kind, .int .i64 x.links, .int .i64 x.size, .slice A0_3 x.blocks.length c0_3, .slice A0_4 x.ents.length c0_4]) rfl ag_30 sz_30 (.t (.s16 (.s4 (.s4 (.s4 (.s (.s .z))))))) (WS.rows0 .z (fun i u h => by exact h))) ?_
 refine FJ.call (goes_list rfl) rfl (by decide) rfl (c_call rfl Try.func120 rfl rfl (args1 (.t .z))) .n (fun w1 S1 hs tr => c_120 (kT_30_mk x (tr.ctx h0_3) (tr.ctx h0_4))) ?_
 rintro _ _ ⟨rfl, rfl⟩
 refine FJ.cat .n ?_
 refine FJ.er (.s16 (.s4 (.s4 (.s4 (.s (.s (.s .z))))))) (FJ.ql rfl (q_assign rfl (.t .z)) (FJ.nil (FJ.then_ (FJ.ret ?_))))
 refine FJ.inBR (FJ.thenR ?_)
 refine FJ.doneS (res1 rfl .z) .n ?_
 exact ⟨by first | (rw [inodeFault_k (by assumption)]; done) | (rw [inodeFault_1 (by omega)]; done) | (rw [inodeFault_f (by omega) (by omega)]; done) | (rw [inodeFault_r (by assumption) (by omega) (by omega) (by omega)]; done) | (rw [inodeFault_d (by omega) (by omega)]; done) | (rw [inodeFault_0 (by omega) (by omega) (by omega)]; done), rfl⟩
 refine FJ.skip (FJ.inBN (FJ.then_ (FJ.seq (FJ.region ?_))))
 refine FJ.ql rfl (q_loadA (cs := [.int .i64 x.kind, .int .i64 x.links, .int .i64 x.size, .slice A0_3 x.blocks.length c0_3, .slice A0_4 x.ents.length c0_4]) rfl ag_30 sz_30 (.t (.s16 (.s4 (.s4 (.s4 (.s (.s .z))))))) (WS.rows0 .z (fun i u h => by exact h))) ?_
 refine FJ.call (goes_list rfl) rfl (by decide) rfl (c_call rfl Try.func121 rfl rfl (args1 (.t .z))) .n (fun w1 S1 hs tr => c_121 (kT_30_mk x (tr.ctx h0_3) (tr.ctx h0_4))) ?_
 rintro _ _ ⟨rfl, rfl⟩
 refine FJ.cat .n ?_
 refine FJ.er (.s16 (.s4 (.s4 (.s4 (.s (.s (.s .z))))))) (FJ.ql rfl (q_assign rfl (.t .z)) (FJ.nil (FJ.then_ (FJ.ret ?_))))
 refine FJ.doneS (res1 rfl .z) .n ?_
 exact ⟨by first | (rw [inodeFault_k (by assumption)]; done) | (rw [inodeFault_1 (by omega)]; done) | (rw [inodeFault_f (by omega) (by omega)]; done) | (rw [inodeFault_r (by assumption) (by omega) (by omega) (by omega)]; done) | (rw [inodeFault_d (by omega) (by omega)]; done) | (rw [inodeFault_0 (by omega) (by omega) (by omega)]; done), rfl⟩
 refine FJ.seq (FJ.region (FJ.ql rfl (q_fieldAddr rfl (.t (.s16 (.s4 (.s4 (.s (.s .z)))))) (fun _ => fa_30_0 _ _)) (FJ.ql rfl (q_load rfl ag_2 (.t .z) (WS.row .z rfl)) (FJ.ql rfl (q_neq rfl (.t .z) .c) ?_))))
 refine FJ.ql rfl (q_move rfl (.t .z)) ?_
 refine FJ.caseN .z (fun g29 => ?_) (fun g29 => ?_)
 refine FJ.q (goes_listg rfl rfl .z) rfl (by decide) rfl (q_move rfl (.t (.s4 (.s4 (.s4 (.s (.s .z))))))) ?_
 refine FJ.q (goes_listg rfl rfl (.s .z)) rfl (by decide) rfl (q_not rfl (.t .z)) ?_
 refine FJ.ql rfl (q_pickT rfl (.t (.s (.s .z))) (.t .z)) (FJ.er (.s4 (.s (.s (.s .z)))) (FJ.ql rfl (q_assign rfl (.t .z)) (FJ.nil (FJ.then_ ?_))))
 refine FJ.condT (.t .z) ?_
 refine FJ.skip (FJ.then_ ?_)
 refine FJ.condT (.t .z) ?_
 refine FJ.seq (FJ.region (FJ.er (.s16 (.s16 .z)) (FJ.ql rfl (q_assign rfl .c) (FJ.nil ?_))))
 refine FJ.then_ (FJ.ret (FJ.inBR (FJ.thenR ?_)))
 refine FJ.doneS (res1 rfl .z) .n ?_
 exact ⟨by first | (rw [inodeFault_k (by assumption)]; done) | (rw [inodeFault_1 (by omega)]; done) | (rw [inodeFault_f (by omega) (by omega)]; done) | (rw [inodeFault_r (by assumption) (by omega) (by omega) (by omega)]; done) | (rw [inodeFault_d (by omega) (by omega)]; done) | (rw [inodeFault_0 (by omega) (by omega) (by omega)]; done), rfl⟩
 refine FJ.skipl rfl rfl .z rfl rfl (by decide) rfl ?_
 refine FJ.skipl rfl rfl (.s .z) rfl rfl (by decide) rfl ?_
 refine FJ.ql rfl (q_pickF rfl (.t (.s (.s .z))) .c) (FJ.er (.s4 (.s (.s (.s .z)))) (FJ.ql rfl (q_assign rfl (.t .z)) (FJ.nil (FJ.then_ ?_))))
 refine FJ.condF (.t .z) ?_
 refine FJ.region (FJ.ql rfl (q_fieldAddr rfl (.t (.s16 (.s16 (.s .z)))) (fun _ => fa_30_0 _ _)) (FJ.ql rfl (q_load rfl ag_2 (.t .z) (WS.row .z rfl)) (FJ.ql rfl (q_neq rfl (.t .z) .c) (FJ.ql rfl (q_move rfl (.t .z)) ?_))))
 refine FJ.caseN .z (fun g30 => ?_) (fun g30 => ?_)
 refine FJ.q (goes_listg rfl rfl .z) rfl (by decide) rfl (q_move rfl (.t (.s16 .z))) ?_
 refine FJ.q (goes_listg rfl rfl (.s .z)) rfl (by decide) rfl (q_not rfl (.t .z)) ?_
 refine FJ.ql rfl (q_pickT rfl (.t (.s (.s .z))) (.t .z)) (FJ.er (.s4 (.s (.s (.s .z)))) (FJ.ql rfl (q_assign rfl (.t .z)) (FJ.nil (FJ.then_ ?_))))
 refine FJ.condN (.t .z) (fun b31 => ?_) (fun b31 => ?_)
 refine FJ.seq (FJ.region (FJ.er (.s16 (.s16 (.s4 (.s (.s (.s .z)))))) (FJ.ql rfl (q_assign rfl .c) (FJ.nil ?_))))
 refine FJ.then_ (FJ.ret (FJ.inBR (FJ.thenR ?_)))
 refine FJ.doneS (res1 rfl .z) .n ?_
 exact ⟨by first | (rw [inodeFault_k (by assumption)]; done) | (rw [inodeFault_1 (by omega)]; done) | (rw [inodeFault_f (by omega) (by omega)]; done) | (rw [inodeFault_r (by assumption) (by omega) (by omega) (by omega)]; done) | (rw [inodeFault_d (by omega) (by omega)]; done) | (rw [inodeFault_0 (by omega) (by omega) (by omega)]; done), rfl⟩
 refine FJ.seq (FJ.region (FJ.ql rfl (q_fieldAddr rfl (.t (.s16 (.s16 (.s4 (.s4 .z))))) (fun _ => fa_30_0 _ _)) (FJ.ql rfl (q_load rfl ag_2 (.t .z) (WS.row .z rfl)) (FJ.ql rfl (q_eql rfl (.t .z) .c) ?_))))
 refine FJ.ql rfl (q_assign rfl (.t .z)) (FJ.nil (FJ.then_ ?_))
 refine FJ.condP (.t .z) (fun b32 => ?_) (fun b32 => ?_)
 refine FJ.seq (FJ.region ?_)
 refine FJ.ql rfl (q_loadA (cs := [.int .i64 x.kind, .int .i64 x.links, .int .i64 x.size, .slice A0_3 x.blocks.length c0_3, .slice A0_4 x.ents.length c0_4]) rfl ag_30 sz_30 (.t (.s16 (.s16 (.s4 (.s4 (.s4 .z)))))) (WS.rows0 .z (fun i u h => by exact h))) ?_
 refine FJ.call (goes_list rfl) rfl (by decide) rfl (c_call rfl Try.func120 rfl rfl (args1 (.t .z))) .n (fun w1 S1 hs tr => c_120 (kT_30_mk x (tr.ctx h0_3) (tr.ctx h0_4))) ?_
 rintro _ _ ⟨rfl, rfl⟩
 refine FJ.cat .n ?_
 refine FJ.er (.s16 (.s16 (.s4 (.s4 (.s4 (.s .z)))))) (FJ.ql rfl (q_assign rfl (.t .z)) (FJ.nil (FJ.then_ (FJ.ret ?_))))
 refine FJ.inBR (FJ.thenR ?_)
 refine FJ.doneS (res1 rfl .z) .n ?_
 exact ⟨by first | (rw [inodeFault_k (by assumption)]; done) | (rw [inodeFault_1 (by omega)]; done) | (rw [inodeFault_f (by omega) (by omega)]; done) | (rw [inodeFault_r (by assumption) (by omega) (by omega) (by omega)]; done) | (rw [inodeFault_d (by omega) (by omega)]; done) | (rw [inodeFault_0 (by omega) (by omega) (by omega)]; done), rfl⟩
 exfalso; first | omega | contradiction
 exfalso; first | omega | contradiction

set_option maxHeartbeats 1000000 in
set_option maxRecDepth 20000 in
theorem c_69 {w0 : World} {S0 : Bs} {x : DInode} {ad0 : Addr} (h0 : PtrRo kT_30 w0 (FF w0 S0) ad0 x)  :
    Calls Try.prog 69 #[.pointer (some ad0)] w0 (TriPost w0 S0 (fun r l => r = .int .i64 (inodeFault x) ∧ l = [])) := by
 obtain ⟨ec0, hF0, hr0, hc0⟩ := id h0
 obtain ⟨u0_3, u0_4, rfl, h0_3, h0_4⟩ := kT_30_ro hr0
 obtain ⟨A0_3, c0_3, rfl, hl0_3, hm0_3, hb0_3, he0_3⟩ := ro_form h0_3
 obtain ⟨A0_4, c0_4, rfl, hl0_4, hm0_4, hb0_4, he0_4⟩ := ro_form h0_4
 refine FJ.enter (N := 63) Try.func69 rfl rfl (by simp) [(0, .pointer (some ad0))] (by simp) (l0 := []) trivial ?_
 refine FJ.seq (FJ.region (FJ.ql rfl (q_assign rfl .c) (FJ.nil (FJ.then_ ?_))))
 refine FJ.seq (FJ.seq (FJ.region (FJ.ql rfl (q_move rfl (.t (.s .z))) (FJ.ql rfl (q_nilCheck rfl (.t .z)) ?_))))
 refine FJ.ql rfl (q_fieldAddr rfl (.t .z) (fun _ => fa_30_0 _ _)) (FJ.ql rfl (q_load rfl ag_2 (.t .z) (WS.el hF0 hc0 rfl)) ?_)
 refine FJ.call (goes_list rfl) rfl (by decide) rfl (c_call rfl Try.func82 rfl rfl (args3 (.t .z) .c .c)) .n (fun w1 S1 hs tr => c_82 _ _ _) ?_
 rintro _ _ ⟨rfl, rfl⟩
 refine FJ.cat .n ?_
 refine FJ.ql rfl (q_not rfl (.t .z)) (FJ.nil (FJ.then_ ?_))
 refine FJ.condN (.t .z) (fun b3 => ?_) (fun b3 => ?_)
 refine FJ.seq (FJ.region (FJ.er (.s4 (.s (.s .z))) (FJ.ql rfl (q_assign rfl .c) (FJ.nil ?_))))
 refine FJ.then_ (FJ.ret (FJ.thenR ?_))
 refine FJ.doneS (res1 rfl .z) .n ?_
 exact ⟨by first | (rw [inodeFault_k (by assumption)]; done) | (rw [inodeFault_1 (by omega)]; done) | (rw [inodeFault_f (by omega) (by omega)]; done) | (rw [inodeFault_r (by assumption) (by omega) (by omega) (by omega)]; done) | (rw [inodeFault_d (by omega) (by omega)]; done) | (rw [inodeFault_0 (by omega) (by omega) (by omega)]; done), rfl⟩
 refine FJ.skip (FJ.then_ (FJ.seq (FJ.seq (FJ.region ?_))))
 refine FJ.ql rfl (q_move rfl (.t (.s4 (.s (.s (.s .z)))))) (FJ.ql rfl (q_nilCheck rfl (.t .z)) (FJ.ql rfl (q_fieldAddr rfl (.t .z) (fun _ => fa_30_0 _ _)) (FJ.ql rfl (q_load rfl ag_2 (.t .z) (WS.el hF0 hc0 rfl)) (FJ.ql rfl (q_neq rfl (.t .z) .c) ?_))))
 refine FJ.ql rfl (q_move rfl (.t .z)) ?_
 refine FJ.caseN .z (fun g4 => ?_) (fun g4 => ?_)
 refine FJ.q (goes_listg rfl rfl .z) rfl (by decide) rfl (q_move rfl (.t (.s4 (.s4 (.s4 (.s .z)))))) ?_
 refine FJ.q (goes_listg rfl rfl (.s .z)) rfl (by decide) rfl (q_nilCheck rfl (.t .z)) ?_
 refine FJ.q (goes_listg rfl rfl (.s (.s .z))) rfl (by decide) rfl (q_fieldAddr rfl (.t .z) (fun _ => fa_30_1 _ _)) ?_
 refine FJ.q (goes_listg rfl rfl (.s (.s (.s .z)))) rfl (by decide) rfl (q_load rfl ag_2 (.t .z) (WS.el hF0 hc0 rfl)) ?_
 refine FJ.q (goes_listg rfl rfl (.s4 .z)) rfl (by decide) rfl (q_neq rfl (.t .z) .c) ?_
 refine FJ.q (goes_listg rfl rfl (.s4 (.s .z))) rfl (by decide) rfl (q_move rfl (.t .z)) ?_
 refine FJ.caseN .z (fun g5 => ?_) (fun g5 => ?_)
 refine FJ.skipl rfl rfl .z rfl rfl (by decide) rfl ?_
 refine FJ.skipl rfl rfl (.s .z) rfl rfl (by decide) rfl ?_
 refine FJ.skipl rfl rfl (.s (.s .z)) rfl rfl (by decide) rfl ?_
 refine FJ.skipl rfl rfl (.s (.s (.s .z))) rfl rfl (by decide) rfl ?_
 refine FJ.skipl rfl rfl (.s4 .z) rfl rfl (by decide) rfl ?_
 refine FJ.q (goes_listg rfl rfl (.s4 (.s4 (.s (.s (.s .z)))))) rfl (by decide) rfl (q_pickT rfl (.t (.s4 (.s .z))) .c) ?_
 refine FJ.q (goes_listg rfl rfl (.s4 (.s4 (.s4 .z)))) rfl (by decide) rfl (q_move rfl (.t .z)) ?_
 refine FJ.skipl rfl rfl .z rfl rfl (by decide) rfl ?_
 refine FJ.skipl rfl rfl (.s .z) rfl rfl (by decide) rfl ?_
 refine FJ.skipl rfl rfl (.s (.s .z)) rfl rfl (by decide) rfl ?_
 refine FJ.skipl rfl rfl (.s (.s (.s .z))) rfl rfl (by decide) rfl ?_
 refine FJ.skipl rfl rfl (.s4 .z) rfl rfl (by decide) rfl ?_
 refine FJ.skipl rfl rfl (.s4 (.s .z)) rfl rfl (by decide) rfl ?_
 refine FJ.q (goes_listg rfl rfl (.s16 (.s (.s (.s .z))))) rfl (by decide) rfl (q_pickT rfl (.t (.s4 (.s (.s .z)))) .c) ?_
 refine FJ.ql rfl (q_pickT rfl (.t (.s16 (.s4 .z))) (.t .z)) (FJ.ql rfl (q_move rfl (.t .z)) ?_)
 refine FJ.skipl rfl rfl .z rfl rfl (by decide) rfl ?_
 refine FJ.skipl rfl rfl (.s .z) rfl rfl (by decide) rfl ?_
 refine FJ.skipl rfl rfl (.s (.s .z)) rfl rfl (by decide) rfl ?_
 refine FJ.skipl rfl rfl (.s (.s (.s .z))) rfl rfl (by decide) rfl ?_
 refine FJ.skipl rfl rfl (.s4 .z) rfl rfl (by decide) rfl ?_
 refine FJ.skipl rfl rfl (.s4 (.s .z)) rfl rfl (by decide) rfl ?_
 refine FJ.skipl rfl rfl .z rfl rfl (by decide) rfl ?_
 refine FJ.skipl rfl rfl (.s .z) rfl rfl (by decide) rfl ?_
 refine FJ.skipl rfl rfl (.s (.s .z)) rfl rfl (by decide) rfl ?_
 refine FJ.skipl rfl rfl (.s (.s (.s .z))) rfl rfl (by decide) rfl ?_
 refine FJ.skipl rfl rfl (.s4 .z) rfl rfl (by decide) rfl ?_
 refine FJ.skipl rfl rfl (.s4 (.s .z)) rfl rfl (by decide) rfl ?_
 refine FJ.skipl rfl rfl (.s4 (.s4 (.s4 .z))) rfl rfl (by decide) rfl ?_
 refine FJ.ql rfl (q_pickT rfl (.t (.s4 (.s4 (.s4 (.s .z))))) .c) (FJ.nil (FJ.then_ ?_))
 refine FJ.condT (.t .z) ?_
 refine FJ.seq (FJ.region (FJ.er (.s16 (.s16 (.s16 .z))) (FJ.ql rfl (q_assign rfl .c) (FJ.nil ?_))))
 refine FJ.then_ (FJ.ret (FJ.thenR ?_))
 refine FJ.doneS (res1 rfl .z) .n ?_
 exact ⟨by first | (rw [inodeFault_k (by assumption)]; done) | (rw [inodeFault_1 (by omega)]; done) | (rw [inodeFault_f (by omega) (by omega)]; done) | (rw [inodeFault_r (by assumption) (by omega) (by omega) (by omega)]; done) | (rw [inodeFault_d (by omega) (by omega)]; done) | (rw [inodeFault_0 (by omega) (by omega) (by omega)]; done), rfl⟩
 refine FJ.q (goes_listg rfl rfl .z) rfl (by decide) rfl (q_move rfl (.t (.s16 (.s (.s (.s .z)))))) ?_
 refine FJ.q (goes_listg rfl rfl (.s .z)) rfl (by decide) rfl (q_nilCheck rfl (.t .z)) ?_
 refine FJ.q (goes_listg rfl rfl (.s (.s .z))) rfl (by decide) rfl (q_fieldAddr rfl (.t .z) (fun _ => fa_30_2 _ _)) ?_
 refine FJ.q (goes_listg rfl rfl (.s (.s (.s .z)))) rfl (by decide) rfl (q_load rfl ag_2 (.t .z) (WS.el hF0 hc0 rfl)) ?_
 refine FJ.q (goes_listg rfl rfl (.s4 .z)) rfl (by decide) rfl (q_neq rfl (.t .z) .c) ?_
 refine FJ.q (goes_listg rfl rfl (.s4 (.s4 (.s (.s (.s .z)))))) rfl (by decide) rfl (q_pickF rfl (.t (.s4 (.s .z))) (.t .z)) ?_
 refine FJ.q (goes_listg rfl rfl (.s4 (.s4 (.s4 .z)))) rfl (by decide) rfl (q_move rfl (.t .z)) ?_
 refine FJ.caseN .z (fun g6 => ?_) (fun g6 => ?_)
 refine FJ.skipl rfl rfl .z rfl rfl (by decide) rfl ?_
 refine FJ.skipl rfl rfl (.s .z) rfl rfl (by decide) rfl ?_
 refine FJ.skipl rfl rfl (.s (.s .z)) rfl rfl (by decide) rfl ?_
 refine FJ.skipl rfl rfl (.s (.s (.s .z))) rfl rfl (by decide) rfl ?_
 refine FJ.skipl rfl rfl (.s4 .z) rfl rfl (by decide) rfl ?_
 refine FJ.skipl rfl rfl (.s4 (.s .z)) rfl rfl (by decide) rfl ?_
 refine FJ.q (goes_listg rfl rfl (.s16 (.s (.s (.s .z))))) rfl (by decide) rfl (q_pickT rfl (.t (.s4 (.s (.s .z)))) .c) ?_
 refine FJ.ql rfl (q_pickT rfl (.t (.s16 (.s4 .z))) (.t .z)) (FJ.ql rfl (q_move rfl (.t .z)) ?_)
 refine FJ.skipl rfl rfl .z rfl rfl (by decide) rfl ?_
 refine FJ.skipl rfl rfl (.s .z) rfl rfl (by decide) rfl ?_
 refine FJ.skipl rfl rfl (.s (.s .z)) rfl rfl (by decide) rfl ?_
 refine FJ.skipl rfl rfl (.s (.s (.s .z))) rfl rfl (by decide) rfl ?_
 refine FJ.skipl rfl rfl (.s4 .z) rfl rfl (by decide) rfl ?_
 refine FJ.skipl rfl rfl (.s4 (.s .z)) rfl rfl (by decide) rfl ?_
 refine FJ.skipl rfl rfl .z rfl rfl (by decide) rfl ?_
 refine FJ.skipl rfl rfl (.s .z) rfl rfl (by decide) rfl ?_
 refine FJ.skipl rfl rfl (.s (.s .z)) rfl rfl (by decide) rfl ?_
 refine FJ.skipl rfl rfl (.s (.s (.s .z))) rfl rfl (by decide) rfl ?_
 refine FJ.skipl rfl rfl (.s4 .z) rfl rfl (by decide) rfl ?_
 refine FJ.skipl rfl rfl (.s4 (.s .z)) rfl rfl (by decide) rfl ?_
 refine FJ.skipl rfl rfl (.s4 (.s4 (.s4 .z))) rfl rfl (by decide) rfl ?_
 refine FJ.ql rfl (q_pickT rfl (.t (.s4 (.s4 (.s4 (.s .z))))) .c) (FJ.nil (FJ.then_ ?_))
 refine FJ.condT (.t .z) ?_
 refine FJ.seq (FJ.region (FJ.er (.s16 (.s16 (.s16 .z))) (FJ.ql rfl (q_assign rfl .c) (FJ.nil ?_))))
 refine FJ.then_ (FJ.ret (FJ.thenR ?_))
 refine FJ.doneS (res1 rfl .z) .n ?_
 exact ⟨by first | (rw [inodeFault_k (by assumption)]; done) | (rw [inodeFault_1 (by omega)]; done) | (rw [inodeFault_f (by omega) (by omega)]; done) | (rw [inodeFault_r (by assumption) (by omega) (by omega) (by omega)]; done) | (rw [inodeFault_d (by omega) (by omega)]; done) | (rw [inodeFault_0 (by omega) (by omega) (by omega)]; done), rfl⟩
 refine FJ.q (goes_listg rfl rfl .z) rfl (by decide) rfl (q_move rfl (.t (.s16 (.s4 (.s4 (.s (.s .z))))))) ?_
 refine FJ.q (goes_listg rfl rfl (.s .z)) rfl (by decide) rfl (q_nilCheck rfl (.t .z)) ?_
 refine FJ.q (goes_listg rfl rfl (.s (.s .z))) rfl (by decide) rfl (q_fieldAddr rfl (.t .z) (fun _ => fa_30_3 _ _)) ?_
 refine FJ.q (goes_listg rfl rfl (.s (.s (.s .z)))) rfl (by decide) rfl (q_load rfl ag_22 (.t .z) (WS.el hF0 hc0 rfl)) ?_
 refine FJ.q (goes_listg rfl rfl (.s4 .z)) rfl (by decide) rfl (q_len rfl u_22 (.t .z)) ?_
 refine FJ.q (goes_listg rfl rfl (.s4 (.s .z))) rfl (by decide) rfl (q_gtr rfl (.t .z) .c) ?_
 refine FJ.q (goes_listg rfl rfl (.s16 (.s (.s (.s .z))))) rfl (by decide) rfl (q_pickF rfl (.t (.s4 (.s (.s .z)))) (.t .z)) ?_
 refine FJ.ql rfl (q_pickT rfl (.t (.s16 (.s4 .z))) (.t .z)) (FJ.ql rfl (q_move rfl (.t .z)) ?_)
 refine FJ.caseP .z (fun g7 => ?_) (fun g7 => ?_)
 refine FJ.skipl rfl rfl .z rfl rfl (by decide) rfl ?_
 refine FJ.skipl rfl rfl (.s .z) rfl rfl (by decide) rfl ?_
 refine FJ.skipl rfl rfl (.s (.s .z)) rfl rfl (by decide) rfl ?_
 refine FJ.skipl rfl rfl (.s (.s (.s .z))) rfl rfl (by decide) rfl ?_
 refine FJ.skipl rfl rfl (.s4 .z) rfl rfl (by decide) rfl ?_
 refine FJ.skipl rfl rfl (.s4 (.s .z)) rfl rfl (by decide) rfl ?_
 refine FJ.skipl rfl rfl .z rfl rfl (by decide) rfl ?_
 refine FJ.skipl rfl rfl (.s .z) rfl rfl (by decide) rfl ?_
 refine FJ.skipl rfl rfl (.s (.s .z)) rfl rfl (by decide) rfl ?_
 refine FJ.skipl rfl rfl (.s (.s (.s .z))) rfl rfl (by decide) rfl ?_
 refine FJ.skipl rfl rfl (.s4 .z) rfl rfl (by decide) rfl ?_
 refine FJ.skipl rfl rfl (.s4 (.s .z)) rfl rfl (by decide) rfl ?_
 refine FJ.skipl rfl rfl (.s4 (.s4 (.s4 .z))) rfl rfl (by decide) rfl ?_
 refine FJ.ql rfl (q_pickT rfl (.t (.s4 (.s4 (.s4 (.s .z))))) .c) (FJ.nil (FJ.then_ ?_))
 refine FJ.condT (.t .z) ?_
 refine FJ.seq (FJ.region (FJ.er (.s16 (.s16 (.s16 .z))) (FJ.ql rfl (q_assign rfl .c) (FJ.nil ?_))))
 refine FJ.then_ (FJ.ret (FJ.thenR ?_))
 refine FJ.doneS (res1 rfl .z) .n ?_
 exact ⟨by first | (rw [inodeFault_k (by assumption)]; done) | (rw [inodeFault_1 (by omega)]; done) | (rw [inodeFault_f (by omega) (by omega)]; done) | (rw [inodeFault_r (by assumption) (by omega) (by omega) (by omega)]; done) | (rw [inodeFault_d (by omega) (by omega)]; done) | (rw [inodeFault_0 (by omega) (by omega) (by omega)]; done), rfl⟩
 refine FJ.q (goes_listg rfl rfl .z) rfl (by decide) rfl (q_move rfl (.t (.s16 (.s16 (.s (.s (.s .z))))))) ?_
 refine FJ.q (goes_listg rfl rfl (.s .z)) rfl (by decide) rfl (q_nilCheck rfl (.t .z)) ?_
 refine FJ.q (goes_listg rfl rfl (.s (.s .z))) rfl (by decide) rfl (q_fieldAddr rfl (.t .z) (fun _ => fa_30_0 _ _)) ?_
 refine FJ.q (goes_listg rfl rfl (.s (.s (.s .z)))) rfl (by decide) rfl (q_load rfl ag_2 (.t .z) (WS.el hF0 hc0 rfl)) ?_
 refine FJ.q (goes_listg rfl rfl (.s4 .z)) rfl (by decide) rfl (q_neq rfl (.t .z) .c) ?_
 refine FJ.q (goes_listg rfl rfl (.s4 (.s .z))) rfl (by decide) rfl (q_move rfl (.t .z)) ?_
 refine FJ.caseN .z (fun g8 => ?_) (fun g8 => ?_)
 refine FJ.q (goes_listg rfl rfl .z) rfl (by decide) rfl (q_move rfl (.t (.s16 (.s16 (.s4 (.s4 (.s .z))))))) ?_
 refine FJ.q (goes_listg rfl rfl (.s .z)) rfl (by decide) rfl (q_nilCheck rfl (.t .z)) ?_
 refine FJ.q (goes_listg rfl rfl (.s (.s .z))) rfl (by decide) rfl (q_fieldAddr rfl (.t .z) (fun _ => fa_30_4 _ _)) ?_
 refine FJ.q (goes_listg rfl rfl (.s (.s (.s .z)))) rfl (by decide) rfl (q_load rfl ag_28 (.t .z) (WS.el hF0 hc0 rfl)) ?_
 refine FJ.q (goes_listg rfl rfl (.s4 .z)) rfl (by decide) rfl (q_len rfl u_28 (.t .z)) ?_
 refine FJ.q (goes_listg rfl rfl (.s4 (.s .z))) rfl (by decide) rfl (q_gtr rfl (.t .z) .c) ?_
 refine FJ.q (goes_listg rfl rfl (.s4 (.s4 (.s4 .z)))) rfl (by decide) rfl (q_pickT rfl (.t (.s4 (.s (.s .z)))) (.t .z)) ?_
 refine FJ.ql rfl (q_pickF rfl (.t (.s4 (.s4 (.s4 (.s .z))))) (.t .z)) (FJ.nil (FJ.then_ ?_))
 refine FJ.condP (.t .z) (fun b9 => ?_) (fun b9 => ?_)
 refine FJ.seq (FJ.region (FJ.er (.s16 (.s16 (.s16 .z))) (FJ.ql rfl (q_assign rfl .c) (FJ.nil ?_))))
 refine FJ.then_ (FJ.ret (FJ.thenR ?_))
 refine FJ.doneS (res1 rfl .z) .n ?_
 exact ⟨by first | (rw [inodeFault_k (by assumption)]; done) | (rw [inodeFault_1 (by omega)]; done) | (rw [inodeFault_f (by omega) (by omega)]; done) | (rw [inodeFault_r (by assumption) (by omega) (by omega) (by omega)]; done) | (rw [inodeFault_d (by omega) (by omega)]; done) | (rw [inodeFault_0 (by omega) (by omega) (by omega)]; done), rfl⟩
 refine FJ.skip (FJ.then_ (FJ.seq (FJ.seq (FJ.region ?_))))
 refine FJ.ql rfl (q_move rfl (.t (.s16 (.s16 (.s16 (.s .z)))))) (FJ.ql rfl (q_nilCheck rfl (.t .z)) (FJ.ql rfl (q_fieldAddr rfl (.t .z) (fun _ => fa_30_0 _ _)) (FJ.ql rfl (q_load rfl ag_2 (.t .z) (WS.el hF0 hc0 rfl)) (FJ.nil ?_))))
 refine FJ.then_ (FJ.block (FJ.seq (FJ.region (FJ.ql rfl (q_eql rfl (.t .z) .c) ?_))))
 refine FJ.ql rfl (q_assign rfl (.t .z)) (FJ.nil (FJ.then_ ?_))
 refine FJ.condP (.t .z) (fun b10 => ?_) (fun b10 => ?_)
 exfalso; first | omega | contradiction
 refine FJ.seq (FJ.region (FJ.ql rfl (q_eql rfl (.t (.s (.s .z))) .c) (FJ.ql rfl (q_assign rfl (.t .z)) (FJ.nil ?_))))
 refine FJ.then_ ?_
 refine FJ.condP (.t .z) (fun b11 => ?_) (fun b11 => ?_)
 exfalso; first | omega | contradiction
 refine FJ.skip (FJ.inBN (FJ.then_ (FJ.seq (FJ.region ?_))))
 refine FJ.er (.s16 (.s16 (.s16 (.s4 (.s4 .z))))) (FJ.ql rfl (q_assign rfl .c) (FJ.nil (FJ.then_ (FJ.ret ?_))))
 refine FJ.doneS (res1 rfl .z) .n ?_
 exact ⟨by first | (rw [inodeFault_k (by assumption)]; done) | (rw [inodeFault_1 (by omega)]; done) | (rw [inodeFault_f (by omega) (by omega)]; done) | (rw [inodeFault_r (by assumption) (by omega) (by omega) (by omega)]; done) | (rw [inodeFault_d (by omega) (by omega)]; done) | (rw [inodeFault_0 (by omega) (by omega) (by omega)]; done), rfl⟩
 refine FJ.skipl rfl rfl .z rfl rfl (by decide) rfl ?_
 refine FJ.skipl rfl rfl (.s .z) rfl rfl (by decide) rfl ?_
 refine FJ.skipl rfl rfl (.s (.s .z)) rfl rfl (by decide) rfl ?_
 refine FJ.skipl rfl rfl (.s (.s (.s .z))) rfl rfl (by decide) rfl ?_
 refine FJ.skipl rfl rfl (.s4 .z) rfl rfl (by decide) rfl ?_
 refine FJ.skipl rfl rfl (.s4 (.s .z)) rfl rfl (by decide) rfl ?_
 refine FJ.q (goes_listg rfl rfl (.s4 (.s4 (.s4 .z)))) rfl (by decide) rfl (q_pickF rfl (.t (.s4 (.s (.s .z)))) .c) ?_
 refine FJ.ql rfl (q_pickF rfl (.t (.s4 (.s4 (.s4 (.s .z))))) (.t .z)) (FJ.nil (FJ.then_ ?_))
 refine FJ.condF (.t .z) ?_
 refine FJ.skip (FJ.then_ (FJ.seq (FJ.seq (FJ.region ?_))))
 refine FJ.ql rfl (q_move rfl (.t (.s16 (.s16 (.s16 (.s .z)))))) (FJ.ql rfl (q_nilCheck rfl (.t .z)) (FJ.ql rfl (q_fieldAddr rfl (.t .z) (fun _ => fa_30_0 _ _)) (FJ.ql rfl (q_load rfl ag_2 (.t .z) (WS.el hF0 hc0 rfl)) (FJ.nil ?_))))
 refine FJ.then_ (FJ.block (FJ.seq (FJ.region (FJ.ql rfl (q_eql rfl (.t .z) .c) ?_))))
 refine FJ.ql rfl (q_assign rfl (.t .z)) (FJ.nil (FJ.then_ ?_))
 refine FJ.condP (.t .z) (fun b12 => ?_) (fun b12 => ?_)
 exfalso; first | omega | contradiction
 refine FJ.seq (FJ.region (FJ.ql rfl (q_eql rfl (.t (.s (.s .z))) .c) (FJ.ql rfl (q_assign rfl (.t .z)) (FJ.nil ?_))))
 refine FJ.then_ ?_
 refine FJ.condP (.t .z) (fun b13 => ?_) (fun b13 => ?_)
 refine FJ.seq (FJ.region (FJ.ql rfl (q_move rfl (.t (.s16 (.s16 (.s16 (.s4 (.s4 (.s .z)))))))) ?_))
 refine FJ.call (goes_list rfl) rfl (by decide) rfl (c_call rfl Try.func119 rfl rfl (args1 (.t .z))) .n (fun w1 S1 hs tr => c_119 (tr.ctxP h0)) ?_
 rintro _ _ ⟨rfl, rfl⟩
 refine FJ.cat .n ?_
 refine FJ.er (.s16 (.s16 (.s16 (.s4 (.s4 (.s (.s .z))))))) (FJ.ql rfl (q_assign rfl (.t .z)) (FJ.nil (FJ.then_ (FJ.ret ?_))))
 refine FJ.inBR (FJ.thenR ?_)
 refine FJ.doneS (res1 rfl .z) .n ?_
 exact ⟨by first | (rw [inodeFault_k (by assumption)]; done) | (rw [inodeFault_1 (by omega)]; done) | (rw [inodeFault_f (by omega) (by omega)]; done) | (rw [inodeFault_r (by assumption) (by omega) (by omega) (by omega)]; done) | (rw [inodeFault_d (by omega) (by omega)]; done) | (rw [inodeFault_0 (by omega) (by omega) (by omega)]; done), rfl⟩
 exfalso; first | omega | contradiction
 refine FJ.skipl rfl rfl .z rfl rfl (by decide) rfl ?_
 refine FJ.skipl rfl rfl (.s .z) rfl rfl (by decide) rfl ?_
 refine FJ.skipl rfl rfl (.s (.s .z)) rfl rfl (by decide) rfl ?_
 refine FJ.skipl rfl rfl (.s (.s (.s .z))) rfl rfl (by decide) rfl ?_
 refine FJ.skipl rfl rfl (.s4 .z) rfl rfl (by decide) rfl ?_
 refine FJ.skipl rfl rfl (.s4 (.s .z)) rfl rfl (by decide) rfl ?_
 refine FJ.skipl rfl rfl .z rfl rfl (by decide) rfl ?_
 refine FJ.skipl rfl rfl (.s .z) rfl rfl (by decide) rfl ?_
 refine FJ.skipl rfl rfl (.s (.s .z)) rfl rfl (by decide) rfl ?_
 refine FJ.skipl rfl rfl (.s (.s (.s .z))) rfl rfl (by decide) rfl ?_
 refine FJ.skipl rfl rfl (.s4 .z) rfl rfl (by decide) rfl ?_
 refine FJ.skipl rfl rfl (.s4 (.s4 (.s (.s (.s .z))))) rfl rfl (by decide) rfl ?_
 refine FJ.skipl rfl rfl (.s4 (.s4 (.s4 .z))) rfl rfl (by decide) rfl ?_
 refine FJ.skipl rfl rfl .z rfl rfl (by decide) rfl ?_
 refine FJ.skipl rfl rfl (.s .z) rfl rfl (by decide) rfl ?_
 refine FJ.skipl rfl rfl (.s (.s .z)) rfl rfl (by decide) rfl ?_
 refine FJ.skipl rfl rfl (.s (.s (.s .z))) rfl rfl (by decide) rfl ?_
 refine FJ.skipl rfl rfl (.s4 .z) rfl rfl (by decide) rfl ?_
 refine FJ.skipl rfl rfl (.s4 (.s .z)) rfl rfl (by decide) rfl ?_
 refine FJ.skipl rfl rfl (.s16 (.s (.s (.s .z)))) rfl rfl (by decide) rfl ?_
 refine FJ.ql rfl (q_pickF rfl (.t (.s16 (.s4 .z))) .c) (FJ.ql rfl (q_move rfl (.t .z)) ?_)
 refine FJ.q (goes_listg rfl rfl .z) rfl (by decide) rfl (q_move rfl (.t (.s16 (.s16 (.s (.s (.s .z))))))) ?_
 refine FJ.q (goes_listg rfl rfl (.s .z)) rfl (by decide) rfl (q_nilCheck rfl (.t .z)) ?_
 refine FJ.q (goes_listg rfl rfl (.s (.s .z))) rfl (by decide) rfl (q_fieldAddr rfl (.t .z) (fun _ => fa_30_0 _ _)) ?_
 refine FJ.q (goes_listg rfl rfl (.s (.s (.s .z)))) rfl (by decide) rfl (q_load rfl ag_2 (.t .z) (WS.el hF0 hc0 rfl)) ?_
 refine FJ.q (goes_listg rfl rfl (.s4 .z)) rfl (by decide) rfl (q_neq rfl (.t .z) .c) ?_
 refine FJ.q (goes_listg rfl rfl (.s4 (.s .z))) rfl (by decide) rfl (q_move rfl (.t .z)) ?_
 refine FJ.caseN .z (fun g14 => ?_) (fun g14 => ?_)
 refine FJ.q (goes_listg rfl rfl .z) rfl (by decide) rfl (q_move rfl (.t (.s16 (.s16 (.s4 (.s4 (.s .z))))))) ?_
 refine FJ.q (goes_listg rfl rfl (.s .z)) rfl (by decide) rfl (q_nilCheck rfl (.t .z)) ?_
 refine FJ.q (goes_listg rfl rfl (.s (.s .z))) rfl (by decide) rfl (q_fieldAddr rfl (.t .z) (fun _ => fa_30_4 _ _)) ?_
 refine FJ.q (goes_listg rfl rfl (.s (.s (.s .z)))) rfl (by decide) rfl (q_load rfl ag_28 (.t .z) (WS.el hF0 hc0 rfl)) ?_
 refine FJ.q (goes_listg rfl rfl (.s4 .z)) rfl (by decide) rfl (q_len rfl u_28 (.t .z)) ?_
 refine FJ.q (goes_listg rfl rfl (.s4 (.s .z))) rfl (by decide) rfl (q_gtr rfl (.t .z) .c) ?_
 refine FJ.q (goes_listg rfl rfl (.s4 (.s4 (.s4 .z)))) rfl (by decide) rfl (q_pickT rfl (.t (.s4 (.s (.s .z)))) (.t .z)) ?_
 refine FJ.ql rfl (q_pickF rfl (.t (.s4 (.s4 (.s4 (.s .z))))) (.t .z)) (FJ.nil (FJ.then_ ?_))
 refine FJ.condP (.t .z) (fun b15 => ?_) (fun b15 => ?_)
 refine FJ.seq (FJ.region (FJ.er (.s16 (.s16 (.s16 .z))) (FJ.ql rfl (q_assign rfl .c) (FJ.nil ?_))))
 refine FJ.then_ (FJ.ret (FJ.thenR ?_))
 refine FJ.doneS (res1 rfl .z) .n ?_
 exact ⟨by first | (rw [inodeFault_k (by assumption)]; done) | (rw [inodeFault_1 (by omega)]; done) | (rw [inodeFault_f (by omega) (by omega)]; done) | (rw [inodeFault_r (by assumption) (by omega) (by omega) (by omega)]; done) | (rw [inodeFault_d (by omega) (by omega)]; done) | (rw [inodeFault_0 (by omega) (by omega) (by omega)]; done), rfl⟩
 refine FJ.skip (FJ.then_ (FJ.seq (FJ.seq (FJ.region ?_))))
 refine FJ.ql rfl (q_move rfl (.t (.s16 (.s16 (.s16 (.s .z)))))) (FJ.ql rfl (q_nilCheck rfl (.t .z)) (FJ.ql rfl (q_fieldAddr rfl (.t .z) (fun _ => fa_30_0 _ _)) (FJ.ql rfl (q_load rfl ag_2 (.t .z) (WS.el hF0 hc0 rfl)) (FJ.nil ?_))))
 refine FJ.then_ (FJ.block (FJ.seq (FJ.region (FJ.ql rfl (q_eql rfl (.t .z) .c) ?_))))
 refine FJ.ql rfl (q_assign rfl (.t .z)) (FJ.nil (FJ.then_ ?_))
 refine FJ.condP (.t .z) (fun b16 => ?_) (fun b16 => ?_)
 refine FJ.seq (FJ.region (FJ.ql rfl (q_move rfl (.t (.s16 (.s16 (.s16 (.s4 (.s (.s (.s .z))))))))) ?_))
 refine FJ.call (goes_list rfl) rfl (by decide) rfl (c_call rfl Try.func118 rfl rfl (args1 (.t .z))) .n (fun w1 S1 hs tr => c_118 (tr.ctxP h0)) ?_
 rintro _ _ ⟨rfl, rfl⟩
 refine FJ.cat .n ?_
 refine FJ.er (.s16 (.s16 (.s16 (.s4 (.s4 .z))))) (FJ.ql rfl (q_assign rfl (.t .z)) (FJ.nil (FJ.then_ (FJ.ret ?_))))
 refine FJ.inBR (FJ.thenR ?_)
 refine FJ.doneS (res1 rfl .z) .n ?_
 exact ⟨by first | (rw [inodeFault_k (by assumption)]; done) | (rw [inodeFault_1 (by omega)]; done) | (rw [inodeFault_f (by omega) (by omega)]; done) | (rw [inodeFault_r (by assumption) (by omega) (by omega) (by omega)]; done) | (rw [inodeFault_d (by omega) (by omega)]; done) | (rw [inodeFault_0 (by omega) (by omega) (by omega)]; done), rfl⟩
 exfalso; first | omega | contradiction
 exfalso; first | omega | contradiction

set_option maxHeartbeats 1000000 in
set_option maxRecDepth 20000 in
theorem c_80 {w0 : World} {S0 : Bs} {xs : (List DInode)} {v0 : Value} (h0 : kSl_30.ro w0 (FF w0 S0) xs [v0])  :
    Calls Try.prog 80 #[v0] w0 (TriPost w0 S0 (fun r l => r = .int .i64 (inodesFault xs) ∧ l = [])) := by
 obtain ⟨A0, c0, rfl, hl0, hm0, hb0, he0⟩ := ro_form h0
 refine FJ.enter (N := 21) Try.func80 rfl rfl (by simp) [(0, .slice A0 xs.length c0)] (by simp) (l0 := []) trivial ?_
 refine FJ.seq (FJ.region (FJ.ql rfl (q_assign rfl .c) (FJ.nil (FJ.then_ ?_))))
 refine FJ.seq (FJ.seq (FJ.region (FJ.ql rfl (q_move rfl (.t (.s .z))) (FJ.ql rfl (q_len rfl u_41 (.t .z)) ?_))))
 refine FJ.ql rfl (q_gtr rfl (.t .z) .c) (FJ.nil (FJ.then_ ?_))
 refine FJ.condP (.t .z) (fun b2 => ?_) (fun b2 => ?_)
 refine FJ.seq (FJ.region (FJ.er (.s (.s (.s .z))) (FJ.ql rfl (q_assign rfl .c) (FJ.nil ?_))))
 refine FJ.then_ (FJ.ret (FJ.thenR ?_))
 refine FJ.doneS (res1 rfl .z) .n ?_
 exact ⟨by first | (rw [inodesFault_2 (by assumption)]; done) | (rw [inodesFault_0 (by assumption) (fun j y hj hy => hallk j y (by omega) hy)]; done), rfl⟩
 refine FJ.skip (FJ.then_ (FJ.seq (FJ.seq (FJ.region ?_))))
 refine FJ.ql rfl (q_move rfl (.t (.s4 .z))) (FJ.ql rfl (q_len rfl u_41 (.t .z)) (FJ.ql rfl (q_move rfl .c) (FJ.nil (FJ.then_ ?_))))
 refine FJ.block ?_
 refine FJ.loopi (γ := Nat) (fun k => [(11, .int .i64 (k : Int)), (10, .int .i64 (xs.length : Int)), (9, .slice A0 xs.length c0)]) (fun k => []) (fun k => k ≤ xs.length ∧ ∀ j y, j < k → xs[j]? = some y → inodeFault y = 0) (fun k => xs.length - k) 0 ⟨Nat.zero_le _, all_zero (q := fun _ y => inodeFault y = 0)⟩ (.c .z (.c (.s .z) (.c (.s (.s .z)) .n))) (fun _ h => h) ?_
 rintro k ⟨hk, hallk⟩
 refine FJ.seq (FJ.region (FJ.ql rfl (q_lss rfl (.t .z) (.t (.s .z))) (FJ.nil (FJ.then_ ?_))))
 refine FJ.seq ?_
 refine FJ.condP (.t .z) (fun b3 => ?_) (fun b3 => ?_)
 refine FJ.skip (FJ.then_ (FJ.seq (FJ.block (FJ.seq ?_))))
 refine FJ.region ?_
 obtain ⟨ad4, hAad4, hrad4⟩ := he0 (by omega)
 subst hAad4
 obtain ⟨x5, hx5⟩ := get_ex (xs := xs) (j := k) (by omega)
 obtain ⟨ece6, hre6, hFe6, hce6⟩ := hrad4.elem hx5
 obtain ⟨ue6_3, ue6_4, rfl, he6_3, he6_4⟩ := kT_30_ro hre6
 obtain ⟨Ae6_3, ce6_3, rfl, hle6_3, hme6_3, hbe6_3, hee6_3⟩ := ro_form he6_3
 obtain ⟨Ae6_4, ce6_4, rfl, hle6_4, hme6_4, hbe6_4, hee6_4⟩ := ro_form he6_4
 refine FJ.ql rfl (q_indexAddr (j := k) rfl u_41 sz_30 (.t (.s (.s (.s .z)))) (.t (.s .z)) rfl (by omega)) ?_
 refine FJ.ql rfl (q_loadA (cs := [.int .i64 x5.kind, .int .i64 x5.links, .int .i64 x5.size, .slice Ae6_3 x5.blocks.length ce6_3, .slice Ae6_4 x5.ents.length ce6_4]) rfl ag_30 sz_30 (.t .z) (WS.els hFe6 hce6)) ?_
 refine FJ.e (goes_list rfl) rfl (by decide) rfl (e_alloc rfl z_30 rfl rfl) ?_
 rintro _ _ ⟨g9, rfl, rfl⟩
 refine FJ.es (goes_list rfl) rfl (es_store (off := 0) (cs := [.int .i64 x5.kind, .int .i64 x5.links, .int .i64 x5.size, .slice Ae6_3 x5.blocks.length ce6_3, .slice Ae6_4 x5.ents.length ce6_4]) rfl sz_30 (.t .z) (.t (.s .z)) rfl (ones rfl) .z (Nat.le_of_ble_eq_true rfl) (.c .z (.c (.s .z) (.c (.s (.s .z)) (.c (.s (.s (.s .z))) (.c (.s (.s (.s (.s .z)))) .n)))))) ?_
 refine FJ.nil (FJ.then_ (FJ.seq (FJ.region ?_)))
 refine FJ.ql rfl (q_loadA (cs := [.int .i64 x5.kind, .int .i64 x5.links, .int .i64 x5.size, .slice Ae6_3 x5.blocks.length ce6_3, .slice Ae6_4 x5.ents.length ce6_4]) rfl ag_30 sz_30 (.t .z) (WS.rows0 .z (fun i u h => by exact h))) ?_
 refine FJ.call (goes_list rfl) rfl (by decide) rfl (c_call rfl Try.func70 rfl rfl (args1 (.t .z))) .n (fun w1 S1 hs tr => c_70 (kT_30_mk x5 (tr.ctx he6_3) (tr.ctx he6_4))) ?_
 rintro _ _ ⟨rfl, rfl⟩
 refine FJ.cat .n ?_
 refine FJ.ql rfl (q_assign rfl (.t .z)) (FJ.nil (FJ.then_ (FJ.seq (FJ.region ?_))))
 refine FJ.ql rfl (q_move rfl (.t .z)) (FJ.ql rfl (q_neq rfl (.t .z) .c) (FJ.nil (FJ.then_ ?_)))
 refine FJ.condN (.t .z) (fun b10 => ?_) (fun b10 => ?_)
 refine FJ.seq (FJ.region (FJ.ql rfl (q_move rfl (.t (.s (.s .z)))) (FJ.ql rfl (q_assign rfl (.t .z)) (FJ.nil ?_))))
 refine FJ.then_ (FJ.ret (FJ.inBR (FJ.thenR (FJ.thenR ?_))))
 refine FJ.inBR (FJ.thenR ?_)
 refine FJ.doneS (res1 rfl .z) .n ?_
 exact ⟨by first | (rw [inodesFault_2 (by assumption)]; done) | (rw [inodesFault_s (by assumption) hx5 (by assumption) hallk]; done) | (rw [inodesFault_0 (by assumption) (fun j y hj hy => hallk j y (by omega) hy)]; done), rfl⟩
 refine FJ.skip (FJ.inBN (FJ.then_ (FJ.region ?_)))
 refine FJ.ql rfl (q_add (c := ((k + 1 : Nat) : Int)) rfl (.t (.s4 (.s4 (.s .z)))) .c (wr (by omega) (by omega) (by omega))) ?_
 refine FJ.er (.s4 (.s4 (.s (.s .z)))) (FJ.ql rfl (q_move rfl (.t .z)) (FJ.nil ?_))
 refine FJ.again (k + 1) ⟨by omega, all_succ (q := fun _ y => inodeFault y = 0) hallk hx5 (by first | assumption | omega)⟩ (by first | omega | (dsimp only; omega)) (.c .z (.c (.s4 (.s4 (.s (.s (.s .z))))) (.c (.s4 (.s4 (.s4 .z))) .n))) (fun _ h => h.sel .n)
 refine FJ.exit (FJ.thenE (FJ.thenE (FJ.inB (FJ.then_ ?_))))
 refine FJ.seq (FJ.region (FJ.ql rfl (q_assign rfl .c) (FJ.nil (FJ.then_ ?_))))
 refine FJ.ret ?_
 refine FJ.doneS (res1 rfl .z) .n ?_
 exact ⟨by first | (rw [inodesFault_2 (by assumption)]; done) | (rw [inodesFault_0 (by assumption) (fun j y hj hy => hallk j y (by omega) hy)]; done), rfl⟩

set_option maxHeartbeats 1000000 in
set_option maxRecDepth 20000 in
theorem c_78 {w0 : World} {S0 : Bs} {xs : (List DInode)} {v0 : Value} (h0 : kSl_30.ro w0 (FF w0 S0) xs [v0])  :
    Calls Try.prog 78 #[v0] w0 (TriPost w0 S0 (fun r l => r = .int .i64 (inodesFault xs) ∧ l = [])) := by
 obtain ⟨A0, c0, rfl, hl0, hm0, hb0, he0⟩ := ro_form h0
 refine FJ.enter (N := 21) Try.func78 rfl rfl (by simp) [(0, .slice A0 xs.length c0)] (by simp) (l0 := []) trivial ?_
 refine FJ.seq (FJ.region (FJ.ql rfl (q_assign rfl .c) (FJ.nil (FJ.then_ ?_))))
 refine FJ.seq (FJ.seq (FJ.region (FJ.ql rfl (q_move rfl (.t (.s .z))) (FJ.ql rfl (q_len rfl u_41 (.t .z)) ?_))))
 refine FJ.ql rfl (q_gtr rfl (.t .z) .c) (FJ.nil (FJ.then_ ?_))
 refine FJ.condP (.t .z) (fun b2 => ?_) (fun b2 => ?_)
 refine FJ.seq (FJ.region (FJ.er (.s (.s (.s .z))) (FJ.ql rfl (q_assign rfl .c) (FJ.nil ?_))))
 refine FJ.then_ (FJ.ret (FJ.thenR ?_))
 refine FJ.doneS (res1 rfl .z) .n ?_
 exact ⟨by first | (rw [inodesFault_2 (by assumption)]; done) | (rw [inodesFault_0 (by assumption) (fun j y hj hy => hallk j y (by omega) hy)]; done), rfl⟩
 refine FJ.skip (FJ.then_ (FJ.seq (FJ.seq (FJ.region ?_))))
 refine FJ.ql rfl (q_assign rfl .c) (FJ.nil (FJ.then_ (FJ.block ?_)))
 refine FJ.loopi (γ := Nat) (fun k => [(3, .int .i64 (k : Int)), (0, .slice A0 xs.length c0)]) (fun k => []) (fun k => k ≤ xs.length ∧ ∀ j y, j < k → xs[j]? = some y → inodeFault y = 0) (fun k => xs.length - k) 0 ⟨Nat.zero_le _, all_zero (q := fun _ y => inodeFault y = 0)⟩ (.c .z (.c (.s4 (.s .z)) .n)) (fun _ h => h) ?_
 rintro k ⟨hk, hallk⟩
 refine FJ.seq (FJ.seq (FJ.region (FJ.ql rfl (q_move rfl (.t .z)) (FJ.ql rfl (q_move rfl (.t (.s (.s .z)))) ?_))))
 refine FJ.ql rfl (q_len rfl u_41 (.t .z)) (FJ.ql rfl (q_lss rfl (.t (.s (.s .z))) (.t .z)) (FJ.nil (FJ.then_ ?_)))
 refine FJ.condP (.t .z) (fun b3 => ?_) (fun b3 => ?_)
 refine FJ.skip (FJ.then_ (FJ.seq (FJ.block (FJ.seq ?_))))
 refine FJ.region (FJ.ql rfl (q_move rfl (.t (.s4 (.s .z)))) (FJ.ql rfl (q_move rfl (.t (.s4 (.s .z)))) ?_))
 obtain ⟨ad4, hAad4, hrad4⟩ := he0 (by omega)
 subst hAad4
 obtain ⟨x5, hx5⟩ := get_ex (xs := xs) (j := k) (by omega)
 obtain ⟨ece6, hre6, hFe6, hce6⟩ := hrad4.elem hx5
 obtain ⟨ue6_3, ue6_4, rfl, he6_3, he6_4⟩ := kT_30_ro hre6
 obtain ⟨Ae6_3, ce6_3, rfl, hle6_3, hme6_3, hbe6_3, hee6_3⟩ := ro_form he6_3
 obtain ⟨Ae6_4, ce6_4, rfl, hle6_4, hme6_4, hbe6_4, hee6_4⟩ := ro_form he6_4
 refine FJ.ql rfl (q_indexAddr (j := k) rfl u_41 sz_30 (.t (.s .z)) (.t .z) rfl (by omega)) ?_
 refine FJ.call (goes_list rfl) rfl (by decide) rfl (c_call rfl Try.func69 rfl rfl (args1 (.t .z))) .n (fun w1 S1 hs tr => c_69 (tr.el hFe6 hre6 hce6)) ?_
 rintro _ _ ⟨rfl, rfl⟩
 refine FJ.cat .n ?_
 refine FJ.ql rfl (q_assign rfl (.t .z)) (FJ.nil (FJ.then_ (FJ.seq (FJ.region ?_))))
 refine FJ.ql rfl (q_move rfl (.t .z)) (FJ.ql rfl (q_neq rfl (.t .z) .c) (FJ.nil (FJ.then_ ?_)))
 refine FJ.condN (.t .z) (fun b9 => ?_) (fun b9 => ?_)
 refine FJ.seq (FJ.region (FJ.ql rfl (q_move rfl (.t (.s (.s .z)))) (FJ.ql rfl (q_assign rfl (.t .z)) (FJ.nil ?_))))
 refine FJ.then_ (FJ.ret (FJ.inBR (FJ.thenR (FJ.thenR ?_))))
 refine FJ.inBR (FJ.thenR ?_)
 refine FJ.doneS (res1 rfl .z) .n ?_
 exact ⟨by first | (rw [inodesFault_2 (by assumption)]; done) | (rw [inodesFault_s (by assumption) hx5 (by assumption) hallk]; done) | (rw [inodesFault_0 (by assumption) (fun j y hj hy => hallk j y (by omega) hy)]; done), rfl⟩
 refine FJ.skip (FJ.inBN (FJ.then_ (FJ.region (FJ.ql rfl (q_move rfl (.t (.s4 (.s4 (.s (.s (.s .z))))))) ?_))))
 refine FJ.ql rfl (q_add (c := ((k + 1 : Nat) : Int)) rfl (.t .z) .c (wr (by omega) (by omega) (by omega))) ?_
 refine FJ.er (.s4 (.s4 (.s4 (.s .z)))) (FJ.ql rfl (q_assign rfl (.t .z)) (FJ.nil ?_))
 refine FJ.again (k + 1) ⟨by omega, all_succ (q := fun _ y => inodeFault y = 0) hallk hx5 (by first | assumption | omega)⟩ (by first | omega | (dsimp only; omega)) (.c .z (.c (.s4 (.s4 (.s4 (.s (.s .z))))) .n)) (fun _ h => h)
 refine FJ.exit (FJ.thenE (FJ.thenE (FJ.inB (FJ.then_ ?_))))
 refine FJ.seq (FJ.region (FJ.ql rfl (q_assign rfl .c) (FJ.nil (FJ.then_ ?_))))
 refine FJ.ret ?_
 refine FJ.doneS (res1 rfl .z) .n ?_
 exact ⟨by first | (rw [inodesFault_2 (by assumption)]; done) | (rw [inodesFault_0 (by assumption) (fun j y hj hy => hallk j y (by omega) hy)]; done), rfl⟩

end Go.Proofs.Ytoaebcjjfojfeaa

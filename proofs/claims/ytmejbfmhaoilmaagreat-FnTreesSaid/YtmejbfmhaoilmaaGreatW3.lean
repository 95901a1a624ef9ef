/- What is proved: contracts of functions, one a function. No condition. -/
import Derived.Test.YtmejbfmhaoilmaaGreatBase1
import Derived.Test.YtmejbfmhaoilmaaGreatW2
namespace Go.Proofs.YtmejbfmhaoilmaaGreat
open Go Go.RowKit
set_option linter.unusedVariables false
set_option linter.unusedSimpArgs false
set_option maxHeartbeats 1000000
set_option maxRecDepth 20000
theorem c_130 {w0 : World} {S0 : Bs} {x : DInode} {ag : List Value} (h0 : kT_44.ro w0 (FF w0 S0) x ag)  :
    Calls Tryz.prog 130 #[.agg ag.toArray] w0 (TriPost w0 S0 (fun r l => r = .int .i64 (inodeFault x) ∧ l = [])) := by
 obtain ⟨ap, aq, rfl, aa, ab⟩ := kT_44_ro h0
 obtain ⟨ac, ad, rfl, ah, ai, aj, ak⟩ := ro_form aa
 obtain ⟨ae, af, rfl, al, am, an, ao⟩ := ro_form ab
 refine Y.enter (N := 50) Tryz.func130 rfl rfl (by simp) [(0, .agg #[.int .i64 x.kind, .int .i64 x.links, .int .i64 x.size, .slice ac x.blocks.length ad, .slice ae x.ents.length af])] (by simp) (l0 := []) trivial ?_
 refine Y.seq (Y.region ?_)
 refine Y.el rfl (e_box (cs := [.int .i64 x.kind, .int .i64 x.links, .int .i64 x.size, .slice ac x.blocks.length ad, .slice ae x.ents.length af]) (n := 5) rfl (.t .z) rfl rfl) ?_
 rintro _ _ ⟨g3, rfl, rfl⟩
 refine Y.ql rfl (q_assign rfl .c) (Y.nt (Y.seq (Y.region (Y.fa rfl .g1 fa_44_1 (Y.ld rfl ag_2 .z .z (Y.ql rfl (q_eql rfl (.t .z) .c) (Y.mv rfl .z ?_)))))))
 refine Y.caseP .z (fun g4 => ?_) (fun g4 => ?_)
 refine Y.qg rfl rfl .z rfl rfl rfl (q_fieldAddr rfl (.t .g5) (fun _ => fa_44_2 _ _)) ?_
 refine Y.qg rfl rfl .g1 rfl rfl rfl (q_load rfl ag_2 (.t .z) (WS.row .z rfl)) ?_
 refine Y.qg rfl rfl .g2 rfl rfl rfl (q_eql rfl (.t .z) .c) ?_
 refine Y.ql rfl (q_pickT rfl (.t .g3) (.t .z)) (Y.mv rfl .z ?_)
 refine Y.caseP .z (fun g5 => ?_) (fun g5 => ?_)
 refine Y.qg rfl rfl .z rfl rfl rfl (q_fieldAddr rfl (.t .g10) (fun _ => fa_44_3 _ _)) ?_
 refine Y.qg rfl rfl .g1 rfl rfl rfl (q_load rfl ag_36 (.t .z) (WS.row .z rfl)) ?_
 refine Y.qg rfl rfl .g2 rfl rfl rfl (q_len rfl u_36 (.t .z)) ?_
 refine Y.qg rfl rfl .g3 rfl rfl rfl (q_eql rfl (.t .z) .c) ?_
 refine Y.ql rfl (q_pickT rfl (.t .g4) (.t .z)) (Y.as rfl .z (Y.nt (Y.seq (Y.region (Y.fa rfl .g16 fa_44_4 (Y.ld rfl ag_42 .z .z (Y.ql rfl (q_len rfl u_42 (.t .z)) ?_)))))))
 refine Y.ql rfl (q_eql rfl (.t .z) .c) (Y.as rfl .z (Y.nt (Y.seq (Y.block (Y.seq (Y.seq (Y.region ?_)))))))
 refine Y.fa rfl (.s16 .g5) fa_44_0 (Y.ld rfl ag_2 .z .z ?_)
 refine Y.cl rfl rfl Tryz.func84 rfl rfl (args3 (.t .z) .c .c) .n (fun _ _ hs tr => c_84 _ _ _) ?_
 rintro _ _ ⟨rfl, rfl⟩
 refine Y.cat .n ?_
 refine Y.ql rfl (q_not rfl (.t .z)) (Y.as rfl .z (Y.nt ?_))
 refine Y.condN (.t .z) (fun b6 => ?_) (fun b6 => ?_)
 refine Y.skip (Y.then_ ?_)
 refine Y.condN (.t .z) (fun b7 => ?_) (fun b7 => ?_)
 refine Y.seq (Y.region (Y.er (.s16 .g9) (Y.ql rfl (q_assign rfl .c) (Y.nt (Y.ret (Y.inBR (Y.thenR ?_)))))))
 refine Y.doneS (res1 rfl .z) .n ?_
 exact ⟨by first | (rw [inodeFault_k (by assumption)]; done) | (rw [inodeFault_1 (by omega)]; done) | (rw [inodeFault_f (by omega) (by omega)]; done) | (rw [inodeFault_r (by assumption) (by omega) (by omega) (by omega)]; done) | (rw [inodeFault_d (by omega) (by omega)]; done) | (rw [inodeFault_0 (by omega) (by omega) (by omega)]; done), rfl⟩
 refine Y.seq (Y.region (Y.fa rfl (.s16 .g10) fa_44_0 (Y.ld rfl ag_2 .z .z (Y.ql rfl (q_eql rfl (.t .z) .c) (Y.as rfl .z (Y.nt ?_))))))
 refine Y.condP (.t .z) (fun b8 => ?_) (fun b8 => ?_)
 refine Y.seq (Y.region (Y.ql rfl (qW rfl ag_44 (.t (.s16 .g14)) .z sz_44) ?_))
 refine Y.cl rfl rfl Tryz.func153 rfl rfl (args1 (.t .z)) .n (fun _ _ hs tr => c_153 (kT_44_mk x (tr.ctx aa) (tr.ctx ab))) ?_
 rintro _ _ ⟨rfl, rfl⟩
 refine Y.cat .n ?_
 refine Y.er (.s16 .g15) (Y.as rfl .z (Y.nt (Y.ret (Y.inBR (Y.thenR ?_)))))
 refine Y.doneS (res1 rfl .z) .n ?_
 exact ⟨by first | (rw [inodeFault_k (by assumption)]; done) | (rw [inodeFault_1 (by omega)]; done) | (rw [inodeFault_f (by omega) (by omega)]; done) | (rw [inodeFault_r (by assumption) (by omega) (by omega) (by omega)]; done) | (rw [inodeFault_d (by omega) (by omega)]; done) | (rw [inodeFault_0 (by omega) (by omega) (by omega)]; done), rfl⟩
 refine Y.skip (Y.inBN (Y.then_ (Y.seq (Y.region (Y.ql rfl (qW rfl ag_44 (.t (.s16 .g14)) .z sz_44) ?_)))))
 refine Y.cl rfl rfl Tryz.func154 rfl rfl (args1 (.t .z)) .n (fun _ _ hs tr => c_154 (kT_44_mk x (tr.ctx aa) (tr.ctx ab))) ?_
 rintro _ _ ⟨rfl, rfl⟩
 refine Y.cat .n ?_
 refine Y.er (.s16 .g15) (Y.as rfl .z (Y.nt (Y.ret ?_)))
 refine Y.doneS (res1 rfl .z) .n ?_
 exact ⟨by first | (rw [inodeFault_k (by assumption)]; done) | (rw [inodeFault_1 (by omega)]; done) | (rw [inodeFault_f (by omega) (by omega)]; done) | (rw [inodeFault_r (by assumption) (by omega) (by omega) (by omega)]; done) | (rw [inodeFault_d (by omega) (by omega)]; done) | (rw [inodeFault_0 (by omega) (by omega) (by omega)]; done), rfl⟩
 refine Y.seq (Y.region (Y.fa rfl (.s16 .g10) fa_44_0 (Y.ld rfl ag_2 .z .z (Y.ql rfl (q_neq rfl (.t .z) .c) (Y.mv rfl .z ?_)))))
 refine Y.caseN .z (fun g9 => ?_) (fun g9 => ?_)
 refine Y.qg rfl rfl .z rfl rfl rfl (q_move rfl (.t .g14)) ?_
 refine Y.qg rfl rfl .g1 rfl rfl rfl (q_not rfl (.t .z)) ?_
 refine Y.ql rfl (q_pickT rfl (.t .g2) (.t .z)) (Y.er .g7 (Y.as rfl .z (Y.nt ?_)))
 refine Y.condN (.t .z) (fun ar => ?_) (fun ar => ?_)
 refine Y.skip (Y.then_ ?_)
 refine Y.condN (.t .z) (fun au => ?_) (fun au => ?_)
 refine Y.seq (Y.region (Y.er (.s16 .g16) (Y.ql rfl (q_assign rfl .c) (Y.nt (Y.ret (Y.inBR (Y.thenR ?_)))))))
 refine Y.doneS (res1 rfl .z) .n ?_
 exact ⟨by first | (rw [inodeFault_k (by assumption)]; done) | (rw [inodeFault_1 (by omega)]; done) | (rw [inodeFault_f (by omega) (by omega)]; done) | (rw [inodeFault_r (by assumption) (by omega) (by omega) (by omega)]; done) | (rw [inodeFault_d (by omega) (by omega)]; done) | (rw [inodeFault_0 (by omega) (by omega) (by omega)]; done), rfl⟩
 exfalso; first | omega | contradiction
 refine Y.region (Y.fa rfl (.s16 (.s16 .g1)) fa_44_0 (Y.ld rfl ag_2 .z .z (Y.ql rfl (q_neq rfl (.t .z) .c) (Y.mv rfl .z ?_))))
 refine Y.caseN .z (fun g12 => ?_) (fun g12 => ?_)
 refine Y.qg rfl rfl .z rfl rfl rfl (q_move rfl (.t .g16)) ?_
 refine Y.qg rfl rfl .g1 rfl rfl rfl (q_not rfl (.t .z)) ?_
 refine Y.ql rfl (q_pickT rfl (.t .g2) (.t .z)) (Y.er .g7 (Y.as rfl .z (Y.nt ?_)))
 refine Y.condN (.t .z) (fun av => ?_) (fun av => ?_)
 refine Y.seq (Y.region (Y.er (.s16 (.s16 .g7)) (Y.ql rfl (q_assign rfl .c) (Y.nt (Y.ret (Y.inBR (Y.thenR ?_)))))))
 refine Y.doneS (res1 rfl .z) .n ?_
 exact ⟨by first | (rw [inodeFault_k (by assumption)]; done) | (rw [inodeFault_1 (by omega)]; done) | (rw [inodeFault_f (by omega) (by omega)]; done) | (rw [inodeFault_r (by assumption) (by omega) (by omega) (by omega)]; done) | (rw [inodeFault_d (by omega) (by omega)]; done) | (rw [inodeFault_0 (by omega) (by omega) (by omega)]; done), rfl⟩
 refine Y.seq (Y.region (Y.fa rfl (.s16 (.s16 .g8)) fa_44_0 (Y.ld rfl ag_2 .z .z (Y.ql rfl (q_eql rfl (.t .z) .c) (Y.as rfl .z (Y.nt ?_))))))
 refine Y.condP (.t .z) (fun aw => ?_) (fun aw => ?_)
 exfalso; first | omega | contradiction
 refine Y.skip (Y.inBN (Y.then_ (Y.seq (Y.region (Y.ql rfl (qW rfl ag_44 (.t (.s16 (.s16 .g12))) .z sz_44) ?_)))))
 refine Y.cl rfl rfl Tryz.func154 rfl rfl (args1 (.t .z)) .n (fun _ _ hs tr => c_154 (kT_44_mk x (tr.ctx aa) (tr.ctx ab))) ?_
 rintro _ _ ⟨rfl, rfl⟩
 refine Y.cat .n ?_
 refine Y.er (.s16 (.s16 .g13)) (Y.as rfl .z (Y.nt (Y.ret ?_)))
 refine Y.doneS (res1 rfl .z) .n ?_
 exact ⟨by first | (rw [inodeFault_k (by assumption)]; done) | (rw [inodeFault_1 (by omega)]; done) | (rw [inodeFault_f (by omega) (by omega)]; done) | (rw [inodeFault_r (by assumption) (by omega) (by omega) (by omega)]; done) | (rw [inodeFault_d (by omega) (by omega)]; done) | (rw [inodeFault_0 (by omega) (by omega) (by omega)]; done), rfl⟩
 refine Y.skipl rfl rfl .z rfl rfl (by decide) rfl ?_
 refine Y.skipl rfl rfl .g1 rfl rfl (by decide) rfl ?_
 refine Y.ql rfl (q_pickF rfl (.t .g2) .c) (Y.er .g7 (Y.as rfl .z (Y.nt ?_)))
 refine Y.condF (.t .z) ?_
 refine Y.seq (Y.region (Y.fa rfl (.s16 (.s16 .g8)) fa_44_0 (Y.ld rfl ag_2 .z .z (Y.ql rfl (q_eql rfl (.t .z) .c) (Y.as rfl .z (Y.nt ?_))))))
 refine Y.condP (.t .z) (fun ax => ?_) (fun ax => ?_)
 exfalso; first | omega | contradiction
 refine Y.skip (Y.inBN (Y.then_ (Y.seq (Y.region (Y.ql rfl (qW rfl ag_44 (.t (.s16 (.s16 .g12))) .z sz_44) ?_)))))
 refine Y.cl rfl rfl Tryz.func154 rfl rfl (args1 (.t .z)) .n (fun _ _ hs tr => c_154 (kT_44_mk x (tr.ctx aa) (tr.ctx ab))) ?_
 rintro _ _ ⟨rfl, rfl⟩
 refine Y.cat .n ?_
 refine Y.er (.s16 (.s16 .g13)) (Y.as rfl .z (Y.nt (Y.ret ?_)))
 refine Y.doneS (res1 rfl .z) .n ?_
 exact ⟨by first | (rw [inodeFault_k (by assumption)]; done) | (rw [inodeFault_1 (by omega)]; done) | (rw [inodeFault_f (by omega) (by omega)]; done) | (rw [inodeFault_r (by assumption) (by omega) (by omega) (by omega)]; done) | (rw [inodeFault_d (by omega) (by omega)]; done) | (rw [inodeFault_0 (by omega) (by omega) (by omega)]; done), rfl⟩
 refine Y.skipl rfl rfl .z rfl rfl (by decide) rfl ?_
 refine Y.skipl rfl rfl .g1 rfl rfl (by decide) rfl ?_
 refine Y.ql rfl (q_pickF rfl (.t .g2) .c) (Y.er .g7 (Y.as rfl .z (Y.nt ?_)))
 refine Y.condF (.t .z) ?_
 refine Y.region (Y.fa rfl (.s16 (.s16 .g1)) fa_44_0 (Y.ld rfl ag_2 .z .z (Y.ql rfl (q_neq rfl (.t .z) .c) (Y.mv rfl .z ?_))))
 refine Y.caseN .z (fun g16 => ?_) (fun g16 => ?_)
 refine Y.qg rfl rfl .z rfl rfl rfl (q_move rfl (.t .g16)) ?_
 refine Y.qg rfl rfl .g1 rfl rfl rfl (q_not rfl (.t .z)) ?_
 refine Y.ql rfl (q_pickT rfl (.t .g2) (.t .z)) (Y.er .g7 (Y.as rfl .z (Y.nt ?_)))
 refine Y.condN (.t .z) (fun ay => ?_) (fun ay => ?_)
 refine Y.seq (Y.region (Y.er (.s16 (.s16 .g7)) (Y.ql rfl (q_assign rfl .c) (Y.nt (Y.ret (Y.inBR (Y.thenR ?_)))))))
 refine Y.doneS (res1 rfl .z) .n ?_
 exact ⟨by first | (rw [inodeFault_k (by assumption)]; done) | (rw [inodeFault_1 (by omega)]; done) | (rw [inodeFault_f (by omega) (by omega)]; done) | (rw [inodeFault_r (by assumption) (by omega) (by omega) (by omega)]; done) | (rw [inodeFault_d (by omega) (by omega)]; done) | (rw [inodeFault_0 (by omega) (by omega) (by omega)]; done), rfl⟩
 refine Y.seq (Y.region (Y.fa rfl (.s16 (.s16 .g8)) fa_44_0 (Y.ld rfl ag_2 .z .z (Y.ql rfl (q_eql rfl (.t .z) .c) (Y.as rfl .z (Y.nt ?_))))))
 refine Y.condP (.t .z) (fun az => ?_) (fun az => ?_)
 refine Y.seq (Y.region (Y.ql rfl (qW rfl ag_44 (.t (.s16 (.s16 .g12))) .z sz_44) ?_))
 refine Y.cl rfl rfl Tryz.func153 rfl rfl (args1 (.t .z)) .n (fun _ _ hs tr => c_153 (kT_44_mk x (tr.ctx aa) (tr.ctx ab))) ?_
 rintro _ _ ⟨rfl, rfl⟩
 refine Y.cat .n ?_
 refine Y.er (.s16 (.s16 .g13)) (Y.as rfl .z (Y.nt (Y.ret (Y.inBR (Y.thenR ?_)))))
 refine Y.doneS (res1 rfl .z) .n ?_
 exact ⟨by first | (rw [inodeFault_k (by assumption)]; done) | (rw [inodeFault_1 (by omega)]; done) | (rw [inodeFault_f (by omega) (by omega)]; done) | (rw [inodeFault_r (by assumption) (by omega) (by omega) (by omega)]; done) | (rw [inodeFault_d (by omega) (by omega)]; done) | (rw [inodeFault_0 (by omega) (by omega) (by omega)]; done), rfl⟩
 exfalso; first | omega | contradiction
 exfalso; first | omega | contradiction
 refine Y.skipl rfl rfl .z rfl rfl (by decide) rfl ?_
 refine Y.skipl rfl rfl .g1 rfl rfl (by decide) rfl ?_
 refine Y.skipl rfl rfl .g2 rfl rfl (by decide) rfl ?_
 refine Y.skipl rfl rfl .g3 rfl rfl (by decide) rfl ?_
 refine Y.ql rfl (q_pickF rfl (.t .g4) .c) (Y.as rfl .z (Y.nt (Y.seq (Y.region (Y.fa rfl .g16 fa_44_4 (Y.ld rfl ag_42 .z .z (Y.ql rfl (q_len rfl u_42 (.t .z)) ?_)))))))
 refine Y.ql rfl (q_eql rfl (.t .z) .c) (Y.as rfl .z (Y.nt (Y.seq (Y.block (Y.seq (Y.seq (Y.region ?_)))))))
 refine Y.fa rfl (.s16 .g5) fa_44_0 (Y.ld rfl ag_2 .z .z ?_)
 refine Y.cl rfl rfl Tryz.func84 rfl rfl (args3 (.t .z) .c .c) .n (fun _ _ hs tr => c_84 _ _ _) ?_
 rintro _ _ ⟨rfl, rfl⟩
 refine Y.cat .n ?_
 refine Y.ql rfl (q_not rfl (.t .z)) (Y.as rfl .z (Y.nt ?_))
 refine Y.condN (.t .z) (fun a0 => ?_) (fun a0 => ?_)
 refine Y.skip (Y.then_ ?_)
 refine Y.condN (.t .z) (fun a1 => ?_) (fun a1 => ?_)
 refine Y.seq (Y.region (Y.er (.s16 .g9) (Y.ql rfl (q_assign rfl .c) (Y.nt (Y.ret (Y.inBR (Y.thenR ?_)))))))
 refine Y.doneS (res1 rfl .z) .n ?_
 exact ⟨by first | (rw [inodeFault_k (by assumption)]; done) | (rw [inodeFault_1 (by omega)]; done) | (rw [inodeFault_f (by omega) (by omega)]; done) | (rw [inodeFault_r (by assumption) (by omega) (by omega) (by omega)]; done) | (rw [inodeFault_d (by omega) (by omega)]; done) | (rw [inodeFault_0 (by omega) (by omega) (by omega)]; done), rfl⟩
 refine Y.seq (Y.region (Y.fa rfl (.s16 .g10) fa_44_0 (Y.ld rfl ag_2 .z .z (Y.ql rfl (q_eql rfl (.t .z) .c) (Y.as rfl .z (Y.nt ?_))))))
 refine Y.condP (.t .z) (fun a2 => ?_) (fun a2 => ?_)
 refine Y.seq (Y.region (Y.ql rfl (qW rfl ag_44 (.t (.s16 .g14)) .z sz_44) ?_))
 refine Y.cl rfl rfl Tryz.func153 rfl rfl (args1 (.t .z)) .n (fun _ _ hs tr => c_153 (kT_44_mk x (tr.ctx aa) (tr.ctx ab))) ?_
 rintro _ _ ⟨rfl, rfl⟩
 refine Y.cat .n ?_
 refine Y.er (.s16 .g15) (Y.as rfl .z (Y.nt (Y.ret (Y.inBR (Y.thenR ?_)))))
 refine Y.doneS (res1 rfl .z) .n ?_
 exact ⟨by first | (rw [inodeFault_k (by assumption)]; done) | (rw [inodeFault_1 (by omega)]; done) | (rw [inodeFault_f (by omega) (by omega)]; done) | (rw [inodeFault_r (by assumption) (by omega) (by omega) (by omega)]; done) | (rw [inodeFault_d (by omega) (by omega)]; done) | (rw [inodeFault_0 (by omega) (by omega) (by omega)]; done), rfl⟩
 refine Y.skip (Y.inBN (Y.then_ (Y.seq (Y.region (Y.ql rfl (qW rfl ag_44 (.t (.s16 .g14)) .z sz_44) ?_)))))
 refine Y.cl rfl rfl Tryz.func154 rfl rfl (args1 (.t .z)) .n (fun _ _ hs tr => c_154 (kT_44_mk x (tr.ctx aa) (tr.ctx ab))) ?_
 rintro _ _ ⟨rfl, rfl⟩
 refine Y.cat .n ?_
 refine Y.er (.s16 .g15) (Y.as rfl .z (Y.nt (Y.ret ?_)))
 refine Y.doneS (res1 rfl .z) .n ?_
 exact ⟨by first | (rw [inodeFault_k (by assumption)]; done) | (rw [inodeFault_1 (by omega)]; done) | (rw [inodeFault_f (by omega) (by omega)]; done) | (rw [inodeFault_r (by assumption) (by omega) (by omega) (by omega)]; done) | (rw [inodeFault_d (by omega) (by omega)]; done) | (rw [inodeFault_0 (by omega) (by omega) (by omega)]; done), rfl⟩
 refine Y.seq (Y.region (Y.fa rfl (.s16 .g10) fa_44_0 (Y.ld rfl ag_2 .z .z (Y.ql rfl (q_neq rfl (.t .z) .c) (Y.mv rfl .z ?_)))))
 refine Y.caseN .z (fun g22 => ?_) (fun g22 => ?_)
 refine Y.qg rfl rfl .z rfl rfl rfl (q_move rfl (.t .g14)) ?_
 refine Y.qg rfl rfl .g1 rfl rfl rfl (q_not rfl (.t .z)) ?_
 refine Y.ql rfl (q_pickT rfl (.t .g2) (.t .z)) (Y.er .g7 (Y.as rfl .z (Y.nt ?_)))
 refine Y.condT (.t .z) ?_
 refine Y.skip (Y.then_ ?_)
 refine Y.condT (.t .z) ?_
 refine Y.seq (Y.region (Y.er (.s16 .g16) (Y.ql rfl (q_assign rfl .c) (Y.nt (Y.ret (Y.inBR (Y.thenR ?_)))))))
 refine Y.doneS (res1 rfl .z) .n ?_
 exact ⟨by first | (rw [inodeFault_k (by assumption)]; done) | (rw [inodeFault_1 (by omega)]; done) | (rw [inodeFault_f (by omega) (by omega)]; done) | (rw [inodeFault_r (by assumption) (by omega) (by omega) (by omega)]; done) | (rw [inodeFault_d (by omega) (by omega)]; done) | (rw [inodeFault_0 (by omega) (by omega) (by omega)]; done), rfl⟩
 refine Y.skipl rfl rfl .z rfl rfl (by decide) rfl ?_
 refine Y.skipl rfl rfl .g1 rfl rfl (by decide) rfl ?_
 refine Y.ql rfl (q_pickF rfl (.t .g2) .c) (Y.er .g7 (Y.as rfl .z (Y.nt ?_)))
 refine Y.condF (.t .z) ?_
 refine Y.region (Y.fa rfl (.s16 (.s16 .g1)) fa_44_0 (Y.ld rfl ag_2 .z .z (Y.ql rfl (q_neq rfl (.t .z) .c) (Y.mv rfl .z ?_))))
 refine Y.caseN .z (fun g23 => ?_) (fun g23 => ?_)
 refine Y.qg rfl rfl .z rfl rfl rfl (q_move rfl (.t .g16)) ?_
 refine Y.qg rfl rfl .g1 rfl rfl rfl (q_not rfl (.t .z)) ?_
 refine Y.ql rfl (q_pickT rfl (.t .g2) (.t .z)) (Y.er .g7 (Y.as rfl .z (Y.nt ?_)))
 refine Y.condN (.t .z) (fun a3 => ?_) (fun a3 => ?_)
 refine Y.seq (Y.region (Y.er (.s16 (.s16 .g7)) (Y.ql rfl (q_assign rfl .c) (Y.nt (Y.ret (Y.inBR (Y.thenR ?_)))))))
 refine Y.doneS (res1 rfl .z) .n ?_
 exact ⟨by first | (rw [inodeFault_k (by assumption)]; done) | (rw [inodeFault_1 (by omega)]; done) | (rw [inodeFault_f (by omega) (by omega)]; done) | (rw [inodeFault_r (by assumption) (by omega) (by omega) (by omega)]; done) | (rw [inodeFault_d (by omega) (by omega)]; done) | (rw [inodeFault_0 (by omega) (by omega) (by omega)]; done), rfl⟩
 refine Y.seq (Y.region (Y.fa rfl (.s16 (.s16 .g8)) fa_44_0 (Y.ld rfl ag_2 .z .z (Y.ql rfl (q_eql rfl (.t .z) .c) (Y.as rfl .z (Y.nt ?_))))))
 refine Y.condP (.t .z) (fun a4 => ?_) (fun a4 => ?_)
 refine Y.seq (Y.region (Y.ql rfl (qW rfl ag_44 (.t (.s16 (.s16 .g12))) .z sz_44) ?_))
 refine Y.cl rfl rfl Tryz.func153 rfl rfl (args1 (.t .z)) .n (fun _ _ hs tr => c_153 (kT_44_mk x (tr.ctx aa) (tr.ctx ab))) ?_
 rintro _ _ ⟨rfl, rfl⟩
 refine Y.cat .n ?_
 refine Y.er (.s16 (.s16 .g13)) (Y.as rfl .z (Y.nt (Y.ret (Y.inBR (Y.thenR ?_)))))
 refine Y.doneS (res1 rfl .z) .n ?_
 exact ⟨by first | (rw [inodeFault_k (by assumption)]; done) | (rw [inodeFault_1 (by omega)]; done) | (rw [inodeFault_f (by omega) (by omega)]; done) | (rw [inodeFault_r (by assumption) (by omega) (by omega) (by omega)]; done) | (rw [inodeFault_d (by omega) (by omega)]; done) | (rw [inodeFault_0 (by omega) (by omega) (by omega)]; done), rfl⟩
 exfalso; first | omega | contradiction
 exfalso; first | omega | contradiction
 refine Y.skipl rfl rfl .z rfl rfl (by decide) rfl ?_
 refine Y.skipl rfl rfl .g1 rfl rfl (by decide) rfl ?_
 refine Y.skipl rfl rfl .g2 rfl rfl (by decide) rfl ?_
 refine Y.ql rfl (q_pickF rfl (.t .g3) .c) (Y.mv rfl .z ?_)
 refine Y.skipl rfl rfl .z rfl rfl (by decide) rfl ?_
 refine Y.skipl rfl rfl .g1 rfl rfl (by decide) rfl ?_
 refine Y.skipl rfl rfl .g2 rfl rfl (by decide) rfl ?_
 refine Y.skipl rfl rfl .g3 rfl rfl (by decide) rfl ?_
 refine Y.ql rfl (q_pickF rfl (.t .g4) .c) (Y.as rfl .z (Y.nt (Y.seq (Y.region (Y.fa rfl .g16 fa_44_4 (Y.ld rfl ag_42 .z .z (Y.ql rfl (q_len rfl u_42 (.t .z)) ?_)))))))
 refine Y.ql rfl (q_eql rfl (.t .z) .c) (Y.as rfl .z (Y.nt (Y.seq (Y.block (Y.seq (Y.seq (Y.region ?_)))))))
 refine Y.fa rfl (.s16 .g5) fa_44_0 (Y.ld rfl ag_2 .z .z ?_)
 refine Y.cl rfl rfl Tryz.func84 rfl rfl (args3 (.t .z) .c .c) .n (fun _ _ hs tr => c_84 _ _ _) ?_
 rintro _ _ ⟨rfl, rfl⟩
 refine Y.cat .n ?_
 refine Y.ql rfl (q_not rfl (.t .z)) (Y.as rfl .z (Y.nt ?_))
 refine Y.condN (.t .z) (fun a5 => ?_) (fun a5 => ?_)
 refine Y.skip (Y.then_ ?_)
 refine Y.condN (.t .z) (fun a6 => ?_) (fun a6 => ?_)
 refine Y.seq (Y.region (Y.er (.s16 .g9) (Y.ql rfl (q_assign rfl .c) (Y.nt (Y.ret (Y.inBR (Y.thenR ?_)))))))
 refine Y.doneS (res1 rfl .z) .n ?_
 exact ⟨by first | (rw [inodeFault_k (by assumption)]; done) | (rw [inodeFault_1 (by omega)]; done) | (rw [inodeFault_f (by omega) (by omega)]; done) | (rw [inodeFault_r (by assumption) (by omega) (by omega) (by omega)]; done) | (rw [inodeFault_d (by omega) (by omega)]; done) | (rw [inodeFault_0 (by omega) (by omega) (by omega)]; done), rfl⟩
 refine Y.seq (Y.region (Y.fa rfl (.s16 .g10) fa_44_0 (Y.ld rfl ag_2 .z .z (Y.ql rfl (q_eql rfl (.t .z) .c) (Y.as rfl .z (Y.nt ?_))))))
 refine Y.condP (.t .z) (fun a7 => ?_) (fun a7 => ?_)
 refine Y.seq (Y.region (Y.ql rfl (qW rfl ag_44 (.t (.s16 .g14)) .z sz_44) ?_))
 refine Y.cl rfl rfl Tryz.func153 rfl rfl (args1 (.t .z)) .n (fun _ _ hs tr => c_153 (kT_44_mk x (tr.ctx aa) (tr.ctx ab))) ?_
 rintro _ _ ⟨rfl, rfl⟩
 refine Y.cat .n ?_
 refine Y.er (.s16 .g15) (Y.as rfl .z (Y.nt (Y.ret (Y.inBR (Y.thenR ?_)))))
 refine Y.doneS (res1 rfl .z) .n ?_
 exact ⟨by first | (rw [inodeFault_k (by assumption)]; done) | (rw [inodeFault_1 (by omega)]; done) | (rw [inodeFault_f (by omega) (by omega)]; done) | (rw [inodeFault_r (by assumption) (by omega) (by omega) (by omega)]; done) | (rw [inodeFault_d (by omega) (by omega)]; done) | (rw [inodeFault_0 (by omega) (by omega) (by omega)]; done), rfl⟩
 refine Y.skip (Y.inBN (Y.then_ (Y.seq (Y.region (Y.ql rfl (qW rfl ag_44 (.t (.s16 .g14)) .z sz_44) ?_)))))
 refine Y.cl rfl rfl Tryz.func154 rfl rfl (args1 (.t .z)) .n (fun _ _ hs tr => c_154 (kT_44_mk x (tr.ctx aa) (tr.ctx ab))) ?_
 rintro _ _ ⟨rfl, rfl⟩
 refine Y.cat .n ?_
 refine Y.er (.s16 .g15) (Y.as rfl .z (Y.nt (Y.ret ?_)))
 refine Y.doneS (res1 rfl .z) .n ?_
 exact ⟨by first | (rw [inodeFault_k (by assumption)]; done) | (rw [inodeFault_1 (by omega)]; done) | (rw [inodeFault_f (by omega) (by omega)]; done) | (rw [inodeFault_r (by assumption) (by omega) (by omega) (by omega)]; done) | (rw [inodeFault_d (by omega) (by omega)]; done) | (rw [inodeFault_0 (by omega) (by omega) (by omega)]; done), rfl⟩
 refine Y.seq (Y.region (Y.fa rfl (.s16 .g10) fa_44_0 (Y.ld rfl ag_2 .z .z (Y.ql rfl (q_neq rfl (.t .z) .c) (Y.mv rfl .z ?_)))))
 refine Y.caseN .z (fun g29 => ?_) (fun g29 => ?_)
 refine Y.qg rfl rfl .z rfl rfl rfl (q_move rfl (.t .g14)) ?_
 refine Y.qg rfl rfl .g1 rfl rfl rfl (q_not rfl (.t .z)) ?_
 refine Y.ql rfl (q_pickT rfl (.t .g2) (.t .z)) (Y.er .g7 (Y.as rfl .z (Y.nt ?_)))
 refine Y.condT (.t .z) ?_
 refine Y.skip (Y.then_ ?_)
 refine Y.condT (.t .z) ?_
 refine Y.seq (Y.region (Y.er (.s16 .g16) (Y.ql rfl (q_assign rfl .c) (Y.nt (Y.ret (Y.inBR (Y.thenR ?_)))))))
 refine Y.doneS (res1 rfl .z) .n ?_
 exact ⟨by first | (rw [inodeFault_k (by assumption)]; done) | (rw [inodeFault_1 (by omega)]; done) | (rw [inodeFault_f (by omega) (by omega)]; done) | (rw [inodeFault_r (by assumption) (by omega) (by omega) (by omega)]; done) | (rw [inodeFault_d (by omega) (by omega)]; done) | (rw [inodeFault_0 (by omega) (by omega) (by omega)]; done), rfl⟩
 refine Y.skipl rfl rfl .z rfl rfl (by decide) rfl ?_
 refine Y.skipl rfl rfl .g1 rfl rfl (by decide) rfl ?_
 refine Y.ql rfl (q_pickF rfl (.t .g2) .c) (Y.er .g7 (Y.as rfl .z (Y.nt ?_)))
 refine Y.condF (.t .z) ?_
 refine Y.region (Y.fa rfl (.s16 (.s16 .g1)) fa_44_0 (Y.ld rfl ag_2 .z .z (Y.ql rfl (q_neq rfl (.t .z) .c) (Y.mv rfl .z ?_))))
 refine Y.caseN .z (fun g30 => ?_) (fun g30 => ?_)
 refine Y.qg rfl rfl .z rfl rfl rfl (q_move rfl (.t .g16)) ?_
 refine Y.qg rfl rfl .g1 rfl rfl rfl (q_not rfl (.t .z)) ?_
 refine Y.ql rfl (q_pickT rfl (.t .g2) (.t .z)) (Y.er .g7 (Y.as rfl .z (Y.nt ?_)))
 refine Y.condN (.t .z) (fun a8 => ?_) (fun a8 => ?_)
 refine Y.seq (Y.region (Y.er (.s16 (.s16 .g7)) (Y.ql rfl (q_assign rfl .c) (Y.nt (Y.ret (Y.inBR (Y.thenR ?_)))))))
 refine Y.doneS (res1 rfl .z) .n ?_
 exact ⟨by first | (rw [inodeFault_k (by assumption)]; done) | (rw [inodeFault_1 (by omega)]; done) | (rw [inodeFault_f (by omega) (by omega)]; done) | (rw [inodeFault_r (by assumption) (by omega) (by omega) (by omega)]; done) | (rw [inodeFault_d (by omega) (by omega)]; done) | (rw [inodeFault_0 (by omega) (by omega) (by omega)]; done), rfl⟩
 refine Y.seq (Y.region (Y.fa rfl (.s16 (.s16 .g8)) fa_44_0 (Y.ld rfl ag_2 .z .z (Y.ql rfl (q_eql rfl (.t .z) .c) (Y.as rfl .z (Y.nt ?_))))))
 refine Y.condP (.t .z) (fun a9 => ?_) (fun a9 => ?_)
 refine Y.seq (Y.region (Y.ql rfl (qW rfl ag_44 (.t (.s16 (.s16 .g12))) .z sz_44) ?_))
 refine Y.cl rfl rfl Tryz.func153 rfl rfl (args1 (.t .z)) .n (fun _ _ hs tr => c_153 (kT_44_mk x (tr.ctx aa) (tr.ctx ab))) ?_
 rintro _ _ ⟨rfl, rfl⟩
 refine Y.cat .n ?_
 refine Y.er (.s16 (.s16 .g13)) (Y.as rfl .z (Y.nt (Y.ret (Y.inBR (Y.thenR ?_)))))
 refine Y.doneS (res1 rfl .z) .n ?_
 exact ⟨by first | (rw [inodeFault_k (by assumption)]; done) | (rw [inodeFault_1 (by omega)]; done) | (rw [inodeFault_f (by omega) (by omega)]; done) | (rw [inodeFault_r (by assumption) (by omega) (by omega) (by omega)]; done) | (rw [inodeFault_d (by omega) (by omega)]; done) | (rw [inodeFault_0 (by omega) (by omega) (by omega)]; done), rfl⟩
 exfalso; first | omega | contradiction
 exfalso; first | omega | contradiction

theorem c_135 {w0 : World} {S0 : Bs} {x : DInode} {ac : Addr} (h0 : PtrRo kT_44 w0 (FF w0 S0) ac x)  :
    Calls Tryz.prog 135 #[.pointer (some ac)] w0 (TriPost w0 S0 (fun r l => r = .int .i64 (inodeFault x) ∧ l = [])) := by
 obtain ⟨a2, aa, an, ab⟩ := id h0
 obtain ⟨ao, ap, rfl, ad, ae⟩ := kT_44_ro an
 obtain ⟨aq, ar, rfl, af, ag, ah, ai⟩ := ro_form ad
 obtain ⟨au, av, rfl, aj, ak, al, am⟩ := ro_form ae
 refine Y.enter (N := 63) Tryz.func135 rfl rfl (by simp) [(0, .pointer (some ac))] (by simp) (l0 := []) trivial ?_
 refine Y.seq (Y.region (Y.ql rfl (q_assign rfl .c) (Y.nt (Y.seq (Y.seq (Y.region (Y.mv rfl .g1 ?_)))))))
 refine Y.nc rfl .z (Y.fa rfl .z fa_44_0 (Y.le rfl ag_2 .z aa ab ?_))
 refine Y.cl rfl rfl Tryz.func46 rfl rfl (args3 (.t .z) .c .c) .n (fun _ _ hs tr => c_46 _ _ _) ?_
 rintro _ _ ⟨rfl, rfl⟩
 refine Y.cat .n ?_
 refine Y.ql rfl (q_not rfl (.t .z)) (Y.nt ?_)
 refine Y.condN (.t .z) (fun b3 => ?_) (fun b3 => ?_)
 refine Y.seq (Y.region (Y.er .g6 (Y.ql rfl (q_assign rfl .c) (Y.nt (Y.ret (Y.thenR ?_))))))
 refine Y.doneS (res1 rfl .z) .n ?_
 exact ⟨by first | (rw [inodeFault_k (by assumption)]; done) | (rw [inodeFault_1 (by omega)]; done) | (rw [inodeFault_f (by omega) (by omega)]; done) | (rw [inodeFault_r (by assumption) (by omega) (by omega) (by omega)]; done) | (rw [inodeFault_d (by omega) (by omega)]; done) | (rw [inodeFault_0 (by omega) (by omega) (by omega)]; done), rfl⟩
 refine Y.skip (Y.then_ (Y.seq (Y.seq (Y.region (Y.mv rfl .g7 (Y.nc rfl .z (Y.fa rfl .z fa_44_0 (Y.le rfl ag_2 .z aa ab ?_))))))))
 refine Y.ql rfl (q_neq rfl (.t .z) .c) (Y.mv rfl .z ?_)
 refine Y.caseN .z (fun g4 => ?_) (fun g4 => ?_)
 refine Y.qg rfl rfl .z rfl rfl rfl (q_move rfl (.t .g13)) ?_
 refine Y.qg rfl rfl .g1 rfl rfl rfl (q_nilCheck rfl (.t .z)) ?_
 refine Y.qg rfl rfl .g2 rfl rfl rfl (q_fieldAddr rfl (.t .z) (fun _ => fa_44_1 _ _)) ?_
 refine Y.qg rfl rfl .g3 rfl rfl rfl (q_load rfl ag_2 (.t .z) (WS.el aa ab rfl)) ?_
 refine Y.qg rfl rfl .g4 rfl rfl rfl (q_neq rfl (.t .z) .c) ?_
 refine Y.qg rfl rfl .g5 rfl rfl rfl (q_move rfl (.t .z)) ?_
 refine Y.caseN .z (fun g5 => ?_) (fun g5 => ?_)
 refine Y.skipl rfl rfl .z rfl rfl (by decide) rfl ?_
 refine Y.skipl rfl rfl .g1 rfl rfl (by decide) rfl ?_
 refine Y.skipl rfl rfl .g2 rfl rfl (by decide) rfl ?_
 refine Y.skipl rfl rfl .g3 rfl rfl (by decide) rfl ?_
 refine Y.skipl rfl rfl .g4 rfl rfl (by decide) rfl ?_
 refine Y.qg rfl rfl .g11 rfl rfl rfl (q_pickT rfl (.t .g5) .c) ?_
 refine Y.qg rfl rfl .g12 rfl rfl rfl (q_move rfl (.t .z)) ?_
 refine Y.skipl rfl rfl .z rfl rfl (by decide) rfl ?_
 refine Y.skipl rfl rfl .g1 rfl rfl (by decide) rfl ?_
 refine Y.skipl rfl rfl .g2 rfl rfl (by decide) rfl ?_
 refine Y.skipl rfl rfl .g3 rfl rfl (by decide) rfl ?_
 refine Y.skipl rfl rfl .g4 rfl rfl (by decide) rfl ?_
 refine Y.skipl rfl rfl .g5 rfl rfl (by decide) rfl ?_
 refine Y.qg rfl rfl (.s16 .g3) rfl rfl rfl (q_pickT rfl (.t .g6) .c) ?_
 refine Y.ql rfl (q_pickT rfl (.t (.s16 .g4)) (.t .z)) (Y.mv rfl .z ?_)
 refine Y.skipl rfl rfl .z rfl rfl (by decide) rfl ?_
 refine Y.skipl rfl rfl .g1 rfl rfl (by decide) rfl ?_
 refine Y.skipl rfl rfl .g2 rfl rfl (by decide) rfl ?_
 refine Y.skipl rfl rfl .g3 rfl rfl (by decide) rfl ?_
 refine Y.skipl rfl rfl .g4 rfl rfl (by decide) rfl ?_
 refine Y.skipl rfl rfl .g5 rfl rfl (by decide) rfl ?_
 refine Y.skipl rfl rfl .z rfl rfl (by decide) rfl ?_
 refine Y.skipl rfl rfl .g1 rfl rfl (by decide) rfl ?_
 refine Y.skipl rfl rfl .g2 rfl rfl (by decide) rfl ?_
 refine Y.skipl rfl rfl .g3 rfl rfl (by decide) rfl ?_
 refine Y.skipl rfl rfl .g4 rfl rfl (by decide) rfl ?_
 refine Y.skipl rfl rfl .g5 rfl rfl (by decide) rfl ?_
 refine Y.skipl rfl rfl .g12 rfl rfl (by decide) rfl ?_
 refine Y.ql rfl (q_pickT rfl (.t .g13) .c) (Y.nt ?_)
 refine Y.condT (.t .z) ?_
 refine Y.seq (Y.region (Y.er (.s16 (.s16 .g16)) (Y.ql rfl (q_assign rfl .c) (Y.nt (Y.ret (Y.thenR ?_))))))
 refine Y.doneS (res1 rfl .z) .n ?_
 exact ⟨by first | (rw [inodeFault_k (by assumption)]; done) | (rw [inodeFault_1 (by omega)]; done) | (rw [inodeFault_f (by omega) (by omega)]; done) | (rw [inodeFault_r (by assumption) (by omega) (by omega) (by omega)]; done) | (rw [inodeFault_d (by omega) (by omega)]; done) | (rw [inodeFault_0 (by omega) (by omega) (by omega)]; done), rfl⟩
 refine Y.qg rfl rfl .z rfl rfl rfl (q_move rfl (.t (.s16 .g3))) ?_
 refine Y.qg rfl rfl .g1 rfl rfl rfl (q_nilCheck rfl (.t .z)) ?_
 refine Y.qg rfl rfl .g2 rfl rfl rfl (q_fieldAddr rfl (.t .z) (fun _ => fa_44_2 _ _)) ?_
 refine Y.qg rfl rfl .g3 rfl rfl rfl (q_load rfl ag_2 (.t .z) (WS.el aa ab rfl)) ?_
 refine Y.qg rfl rfl .g4 rfl rfl rfl (q_neq rfl (.t .z) .c) ?_
 refine Y.qg rfl rfl .g11 rfl rfl rfl (q_pickF rfl (.t .g5) (.t .z)) ?_
 refine Y.qg rfl rfl .g12 rfl rfl rfl (q_move rfl (.t .z)) ?_
 refine Y.caseN .z (fun g6 => ?_) (fun g6 => ?_)
 refine Y.skipl rfl rfl .z rfl rfl (by decide) rfl ?_
 refine Y.skipl rfl rfl .g1 rfl rfl (by decide) rfl ?_
 refine Y.skipl rfl rfl .g2 rfl rfl (by decide) rfl ?_
 refine Y.skipl rfl rfl .g3 rfl rfl (by decide) rfl ?_
 refine Y.skipl rfl rfl .g4 rfl rfl (by decide) rfl ?_
 refine Y.skipl rfl rfl .g5 rfl rfl (by decide) rfl ?_
 refine Y.qg rfl rfl (.s16 .g3) rfl rfl rfl (q_pickT rfl (.t .g6) .c) ?_
 refine Y.ql rfl (q_pickT rfl (.t (.s16 .g4)) (.t .z)) (Y.mv rfl .z ?_)
 refine Y.skipl rfl rfl .z rfl rfl (by decide) rfl ?_
 refine Y.skipl rfl rfl .g1 rfl rfl (by decide) rfl ?_
 refine Y.skipl rfl rfl .g2 rfl rfl (by decide) rfl ?_
 refine Y.skipl rfl rfl .g3 rfl rfl (by decide) rfl ?_
 refine Y.skipl rfl rfl .g4 rfl rfl (by decide) rfl ?_
 refine Y.skipl rfl rfl .g5 rfl rfl (by decide) rfl ?_
 refine Y.skipl rfl rfl .z rfl rfl (by decide) rfl ?_
 refine Y.skipl rfl rfl .g1 rfl rfl (by decide) rfl ?_
 refine Y.skipl rfl rfl .g2 rfl rfl (by decide) rfl ?_
 refine Y.skipl rfl rfl .g3 rfl rfl (by decide) rfl ?_
 refine Y.skipl rfl rfl .g4 rfl rfl (by decide) rfl ?_
 refine Y.skipl rfl rfl .g5 rfl rfl (by decide) rfl ?_
 refine Y.skipl rfl rfl .g12 rfl rfl (by decide) rfl ?_
 refine Y.ql rfl (q_pickT rfl (.t .g13) .c) (Y.nt ?_)
 refine Y.condT (.t .z) ?_
 refine Y.seq (Y.region (Y.er (.s16 (.s16 .g16)) (Y.ql rfl (q_assign rfl .c) (Y.nt (Y.ret (Y.thenR ?_))))))
 refine Y.doneS (res1 rfl .z) .n ?_
 exact ⟨by first | (rw [inodeFault_k (by assumption)]; done) | (rw [inodeFault_1 (by omega)]; done) | (rw [inodeFault_f (by omega) (by omega)]; done) | (rw [inodeFault_r (by assumption) (by omega) (by omega) (by omega)]; done) | (rw [inodeFault_d (by omega) (by omega)]; done) | (rw [inodeFault_0 (by omega) (by omega) (by omega)]; done), rfl⟩
 refine Y.qg rfl rfl .z rfl rfl rfl (q_move rfl (.t (.s16 .g10))) ?_
 refine Y.qg rfl rfl .g1 rfl rfl rfl (q_nilCheck rfl (.t .z)) ?_
 refine Y.qg rfl rfl .g2 rfl rfl rfl (q_fieldAddr rfl (.t .z) (fun _ => fa_44_3 _ _)) ?_
 refine Y.qg rfl rfl .g3 rfl rfl rfl (q_load rfl ag_36 (.t .z) (WS.el aa ab rfl)) ?_
 refine Y.qg rfl rfl .g4 rfl rfl rfl (q_len rfl u_36 (.t .z)) ?_
 refine Y.qg rfl rfl .g5 rfl rfl rfl (q_gtr rfl (.t .z) .c) ?_
 refine Y.qg rfl rfl (.s16 .g3) rfl rfl rfl (q_pickF rfl (.t .g6) (.t .z)) ?_
 refine Y.ql rfl (q_pickT rfl (.t (.s16 .g4)) (.t .z)) (Y.mv rfl .z ?_)
 refine Y.caseP .z (fun g7 => ?_) (fun g7 => ?_)
 refine Y.skipl rfl rfl .z rfl rfl (by decide) rfl ?_
 refine Y.skipl rfl rfl .g1 rfl rfl (by decide) rfl ?_
 refine Y.skipl rfl rfl .g2 rfl rfl (by decide) rfl ?_
 refine Y.skipl rfl rfl .g3 rfl rfl (by decide) rfl ?_
 refine Y.skipl rfl rfl .g4 rfl rfl (by decide) rfl ?_
 refine Y.skipl rfl rfl .g5 rfl rfl (by decide) rfl ?_
 refine Y.skipl rfl rfl .z rfl rfl (by decide) rfl ?_
 refine Y.skipl rfl rfl .g1 rfl rfl (by decide) rfl ?_
 refine Y.skipl rfl rfl .g2 rfl rfl (by decide) rfl ?_
 refine Y.skipl rfl rfl .g3 rfl rfl (by decide) rfl ?_
 refine Y.skipl rfl rfl .g4 rfl rfl (by decide) rfl ?_
 refine Y.skipl rfl rfl .g5 rfl rfl (by decide) rfl ?_
 refine Y.skipl rfl rfl .g12 rfl rfl (by decide) rfl ?_
 refine Y.ql rfl (q_pickT rfl (.t .g13) .c) (Y.nt ?_)
 refine Y.condT (.t .z) ?_
 refine Y.seq (Y.region (Y.er (.s16 (.s16 .g16)) (Y.ql rfl (q_assign rfl .c) (Y.nt (Y.ret (Y.thenR ?_))))))
 refine Y.doneS (res1 rfl .z) .n ?_
 exact ⟨by first | (rw [inodeFault_k (by assumption)]; done) | (rw [inodeFault_1 (by omega)]; done) | (rw [inodeFault_f (by omega) (by omega)]; done) | (rw [inodeFault_r (by assumption) (by omega) (by omega) (by omega)]; done) | (rw [inodeFault_d (by omega) (by omega)]; done) | (rw [inodeFault_0 (by omega) (by omega) (by omega)]; done), rfl⟩
 refine Y.qg rfl rfl .z rfl rfl rfl (q_move rfl (.t (.s16 (.s16 .g3)))) ?_
 refine Y.qg rfl rfl .g1 rfl rfl rfl (q_nilCheck rfl (.t .z)) ?_
 refine Y.qg rfl rfl .g2 rfl rfl rfl (q_fieldAddr rfl (.t .z) (fun _ => fa_44_0 _ _)) ?_
 refine Y.qg rfl rfl .g3 rfl rfl rfl (q_load rfl ag_2 (.t .z) (WS.el aa ab rfl)) ?_
 refine Y.qg rfl rfl .g4 rfl rfl rfl (q_neq rfl (.t .z) .c) ?_
 refine Y.qg rfl rfl .g5 rfl rfl rfl (q_move rfl (.t .z)) ?_
 refine Y.caseN .z (fun g8 => ?_) (fun g8 => ?_)
 refine Y.qg rfl rfl .z rfl rfl rfl (q_move rfl (.t (.s16 (.s16 .g9)))) ?_
 refine Y.qg rfl rfl .g1 rfl rfl rfl (q_nilCheck rfl (.t .z)) ?_
 refine Y.qg rfl rfl .g2 rfl rfl rfl (q_fieldAddr rfl (.t .z) (fun _ => fa_44_4 _ _)) ?_
 refine Y.qg rfl rfl .g3 rfl rfl rfl (q_load rfl ag_42 (.t .z) (WS.el aa ab rfl)) ?_
 refine Y.qg rfl rfl .g4 rfl rfl rfl (q_len rfl u_42 (.t .z)) ?_
 refine Y.qg rfl rfl .g5 rfl rfl rfl (q_gtr rfl (.t .z) .c) ?_
 refine Y.qg rfl rfl .g12 rfl rfl rfl (q_pickT rfl (.t .g6) (.t .z)) ?_
 refine Y.ql rfl (q_pickF rfl (.t .g13) (.t .z)) (Y.nt ?_)
 refine Y.condP (.t .z) (fun b9 => ?_) (fun b9 => ?_)
 refine Y.seq (Y.region (Y.er (.s16 (.s16 .g16)) (Y.ql rfl (q_assign rfl .c) (Y.nt (Y.ret (Y.thenR ?_))))))
 refine Y.doneS (res1 rfl .z) .n ?_
 exact ⟨by first | (rw [inodeFault_k (by assumption)]; done) | (rw [inodeFault_1 (by omega)]; done) | (rw [inodeFault_f (by omega) (by omega)]; done) | (rw [inodeFault_r (by assumption) (by omega) (by omega) (by omega)]; done) | (rw [inodeFault_d (by omega) (by omega)]; done) | (rw [inodeFault_0 (by omega) (by omega) (by omega)]; done), rfl⟩
 refine Y.skip (Y.then_ (Y.seq (Y.seq (Y.region (Y.mv rfl (.s16 (.s16 (.s16 .g1))) (Y.nc rfl .z (Y.fa rfl .z fa_44_0 (Y.le rfl ag_2 .z aa ab ?_))))))))
 refine Y.nt (Y.block (Y.seq (Y.region (Y.ql rfl (q_eql rfl (.t .z) .c) (Y.as rfl .z (Y.nt ?_))))))
 refine Y.condP (.t .z) (fun aw => ?_) (fun aw => ?_)
 exfalso; first | omega | contradiction
 refine Y.seq (Y.region (Y.ql rfl (q_eql rfl (.t .g2) .c) (Y.as rfl .z (Y.nt ?_))))
 refine Y.condP (.t .z) (fun ax => ?_) (fun ax => ?_)
 exfalso; first | omega | contradiction
 refine Y.skip (Y.inBN (Y.then_ (Y.seq (Y.region (Y.er (.s16 (.s16 (.s16 .g8))) (Y.ql rfl (q_assign rfl .c) (Y.nt ?_)))))))
 refine Y.ret ?_
 refine Y.doneS (res1 rfl .z) .n ?_
 exact ⟨by first | (rw [inodeFault_k (by assumption)]; done) | (rw [inodeFault_1 (by omega)]; done) | (rw [inodeFault_f (by omega) (by omega)]; done) | (rw [inodeFault_r (by assumption) (by omega) (by omega) (by omega)]; done) | (rw [inodeFault_d (by omega) (by omega)]; done) | (rw [inodeFault_0 (by omega) (by omega) (by omega)]; done), rfl⟩
 refine Y.skipl rfl rfl .z rfl rfl (by decide) rfl ?_
 refine Y.skipl rfl rfl .g1 rfl rfl (by decide) rfl ?_
 refine Y.skipl rfl rfl .g2 rfl rfl (by decide) rfl ?_
 refine Y.skipl rfl rfl .g3 rfl rfl (by decide) rfl ?_
 refine Y.skipl rfl rfl .g4 rfl rfl (by decide) rfl ?_
 refine Y.skipl rfl rfl .g5 rfl rfl (by decide) rfl ?_
 refine Y.qg rfl rfl .g12 rfl rfl rfl (q_pickF rfl (.t .g6) .c) ?_
 refine Y.ql rfl (q_pickF rfl (.t .g13) (.t .z)) (Y.nt ?_)
 refine Y.condF (.t .z) ?_
 refine Y.skip (Y.then_ (Y.seq (Y.seq (Y.region (Y.mv rfl (.s16 (.s16 (.s16 .g1))) (Y.nc rfl .z (Y.fa rfl .z fa_44_0 (Y.le rfl ag_2 .z aa ab ?_))))))))
 refine Y.nt (Y.block (Y.seq (Y.region (Y.ql rfl (q_eql rfl (.t .z) .c) (Y.as rfl .z (Y.nt ?_))))))
 refine Y.condP (.t .z) (fun ay => ?_) (fun ay => ?_)
 exfalso; first | omega | contradiction
 refine Y.seq (Y.region (Y.ql rfl (q_eql rfl (.t .g2) .c) (Y.as rfl .z (Y.nt ?_))))
 refine Y.condP (.t .z) (fun az => ?_) (fun az => ?_)
 refine Y.seq (Y.region (Y.mv rfl (.s16 (.s16 (.s16 .g9))) ?_))
 refine Y.cl rfl rfl Tryz.func163 rfl rfl (args1 (.t .z)) .n (fun _ _ hs tr => c_163 (tr.ctxP h0)) ?_
 rintro _ _ ⟨rfl, rfl⟩
 refine Y.cat .n ?_
 refine Y.er (.s16 (.s16 (.s16 .g10))) (Y.as rfl .z (Y.nt (Y.ret (Y.inBR (Y.thenR ?_)))))
 refine Y.doneS (res1 rfl .z) .n ?_
 exact ⟨by first | (rw [inodeFault_k (by assumption)]; done) | (rw [inodeFault_1 (by omega)]; done) | (rw [inodeFault_f (by omega) (by omega)]; done) | (rw [inodeFault_r (by assumption) (by omega) (by omega) (by omega)]; done) | (rw [inodeFault_d (by omega) (by omega)]; done) | (rw [inodeFault_0 (by omega) (by omega) (by omega)]; done), rfl⟩
 exfalso; first | omega | contradiction
 refine Y.skipl rfl rfl .z rfl rfl (by decide) rfl ?_
 refine Y.skipl rfl rfl .g1 rfl rfl (by decide) rfl ?_
 refine Y.skipl rfl rfl .g2 rfl rfl (by decide) rfl ?_
 refine Y.skipl rfl rfl .g3 rfl rfl (by decide) rfl ?_
 refine Y.skipl rfl rfl .g4 rfl rfl (by decide) rfl ?_
 refine Y.skipl rfl rfl .g5 rfl rfl (by decide) rfl ?_
 refine Y.skipl rfl rfl .z rfl rfl (by decide) rfl ?_
 refine Y.skipl rfl rfl .g1 rfl rfl (by decide) rfl ?_
 refine Y.skipl rfl rfl .g2 rfl rfl (by decide) rfl ?_
 refine Y.skipl rfl rfl .g3 rfl rfl (by decide) rfl ?_
 refine Y.skipl rfl rfl .g4 rfl rfl (by decide) rfl ?_
 refine Y.skipl rfl rfl .g11 rfl rfl (by decide) rfl ?_
 refine Y.skipl rfl rfl .g12 rfl rfl (by decide) rfl ?_
 refine Y.skipl rfl rfl .z rfl rfl (by decide) rfl ?_
 refine Y.skipl rfl rfl .g1 rfl rfl (by decide) rfl ?_
 refine Y.skipl rfl rfl .g2 rfl rfl (by decide) rfl ?_
 refine Y.skipl rfl rfl .g3 rfl rfl (by decide) rfl ?_
 refine Y.skipl rfl rfl .g4 rfl rfl (by decide) rfl ?_
 refine Y.skipl rfl rfl .g5 rfl rfl (by decide) rfl ?_
 refine Y.skipl rfl rfl (.s16 .g3) rfl rfl (by decide) rfl ?_
 refine Y.ql rfl (q_pickF rfl (.t (.s16 .g4)) .c) (Y.mv rfl .z ?_)
 refine Y.qg rfl rfl .z rfl rfl rfl (q_move rfl (.t (.s16 (.s16 .g3)))) ?_
 refine Y.qg rfl rfl .g1 rfl rfl rfl (q_nilCheck rfl (.t .z)) ?_
 refine Y.qg rfl rfl .g2 rfl rfl rfl (q_fieldAddr rfl (.t .z) (fun _ => fa_44_0 _ _)) ?_
 refine Y.qg rfl rfl .g3 rfl rfl rfl (q_load rfl ag_2 (.t .z) (WS.el aa ab rfl)) ?_
 refine Y.qg rfl rfl .g4 rfl rfl rfl (q_neq rfl (.t .z) .c) ?_
 refine Y.qg rfl rfl .g5 rfl rfl rfl (q_move rfl (.t .z)) ?_
 refine Y.caseN .z (fun g14 => ?_) (fun g14 => ?_)
 refine Y.qg rfl rfl .z rfl rfl rfl (q_move rfl (.t (.s16 (.s16 .g9)))) ?_
 refine Y.qg rfl rfl .g1 rfl rfl rfl (q_nilCheck rfl (.t .z)) ?_
 refine Y.qg rfl rfl .g2 rfl rfl rfl (q_fieldAddr rfl (.t .z) (fun _ => fa_44_4 _ _)) ?_
 refine Y.qg rfl rfl .g3 rfl rfl rfl (q_load rfl ag_42 (.t .z) (WS.el aa ab rfl)) ?_
 refine Y.qg rfl rfl .g4 rfl rfl rfl (q_len rfl u_42 (.t .z)) ?_
 refine Y.qg rfl rfl .g5 rfl rfl rfl (q_gtr rfl (.t .z) .c) ?_
 refine Y.qg rfl rfl .g12 rfl rfl rfl (q_pickT rfl (.t .g6) (.t .z)) ?_
 refine Y.ql rfl (q_pickF rfl (.t .g13) (.t .z)) (Y.nt ?_)
 refine Y.condP (.t .z) (fun a0 => ?_) (fun a0 => ?_)
 refine Y.seq (Y.region (Y.er (.s16 (.s16 .g16)) (Y.ql rfl (q_assign rfl .c) (Y.nt (Y.ret (Y.thenR ?_))))))
 refine Y.doneS (res1 rfl .z) .n ?_
 exact ⟨by first | (rw [inodeFault_k (by assumption)]; done) | (rw [inodeFault_1 (by omega)]; done) | (rw [inodeFault_f (by omega) (by omega)]; done) | (rw [inodeFault_r (by assumption) (by omega) (by omega) (by omega)]; done) | (rw [inodeFault_d (by omega) (by omega)]; done) | (rw [inodeFault_0 (by omega) (by omega) (by omega)]; done), rfl⟩
 refine Y.skip (Y.then_ (Y.seq (Y.seq (Y.region (Y.mv rfl (.s16 (.s16 (.s16 .g1))) (Y.nc rfl .z (Y.fa rfl .z fa_44_0 (Y.le rfl ag_2 .z aa ab ?_))))))))
 refine Y.nt (Y.block (Y.seq (Y.region (Y.ql rfl (q_eql rfl (.t .z) .c) (Y.as rfl .z (Y.nt ?_))))))
 refine Y.condP (.t .z) (fun a1 => ?_) (fun a1 => ?_)
 refine Y.seq (Y.region (Y.mv rfl (.s16 (.s16 (.s16 .g7))) ?_))
 refine Y.cl rfl rfl Tryz.func162 rfl rfl (args1 (.t .z)) .n (fun _ _ hs tr => c_162 (tr.ctxP h0)) ?_
 rintro _ _ ⟨rfl, rfl⟩
 refine Y.cat .n ?_
 refine Y.er (.s16 (.s16 (.s16 .g8))) (Y.as rfl .z (Y.nt (Y.ret (Y.inBR (Y.thenR ?_)))))
 refine Y.doneS (res1 rfl .z) .n ?_
 exact ⟨by first | (rw [inodeFault_k (by assumption)]; done) | (rw [inodeFault_1 (by omega)]; done) | (rw [inodeFault_f (by omega) (by omega)]; done) | (rw [inodeFault_r (by assumption) (by omega) (by omega) (by omega)]; done) | (rw [inodeFault_d (by omega) (by omega)]; done) | (rw [inodeFault_0 (by omega) (by omega) (by omega)]; done), rfl⟩
 exfalso; first | omega | contradiction
 exfalso; first | omega | contradiction

theorem c_83 {w0 : World} {S0 : Bs} {xs : (List DInode)} {v0 : Value} (h0 : kSl_44.ro w0 (FF w0 S0) xs [v0])  :
    Calls Tryz.prog 83 #[v0] w0 (TriPost w0 S0 (fun r l => r = .int .i64 (inodesFault xs) ∧ l = [])) := by
 obtain ⟨A0, c0, rfl, a1, a2, a3, ay⟩ := ro_form h0
 refine Y.enter (N := 21) Tryz.func83 rfl rfl (by simp) [(0, .slice A0 xs.length c0)] (by simp) (l0 := []) trivial ?_
 refine Y.seq (Y.region (Y.ql rfl (q_assign rfl .c) (Y.nt (Y.seq (Y.seq (Y.region (Y.mv rfl .g1 ?_)))))))
 refine Y.ql rfl (q_len rfl u_24 (.t .z)) (Y.ql rfl (q_gtr rfl (.t .z) .c) (Y.nt ?_))
 refine Y.condP (.t .z) (fun b2 => ?_) (fun b2 => ?_)
 refine Y.seq (Y.region (Y.er .g3 (Y.ql rfl (q_assign rfl .c) (Y.nt (Y.ret (Y.thenR ?_))))))
 refine Y.doneS (res1 rfl .z) .n ?_
 exact ⟨by first | (rw [inodesFault_2 (by assumption)]; done) | (rw [inodesFault_0 (by assumption) (fun j y hj hy => hallk j y (by omega) hy)]; done), rfl⟩
 refine Y.skip (Y.then_ (Y.seq (Y.seq (Y.region (Y.mv rfl .g4 (Y.ql rfl (q_len rfl u_24 (.t .z)) (Y.ql rfl (q_move rfl .c) (Y.nil ?_))))))))
 refine Y.then_ (Y.block ?_)
 refine Y.loopi (γ := Nat) (fun k => [(11, .int .i64 (k : Int)), (10, .int .i64 (xs.length : Int)), (9, .slice A0 xs.length c0)]) (fun k => []) (fun k => k ≤ xs.length ∧ ∀ j y, j < k → xs[j]? = some y → inodeFault y = 0) (fun k => xs.length - k) 0 ⟨Nat.zero_le _, all_zero (q := fun _ y => inodeFault y = 0)⟩ (.c .z (.c .g1 (.c .g2 .n))) (fun _ h => h) ?_
 rintro k ⟨hk, hallk⟩
 refine Y.seq (Y.region (Y.ql rfl (q_lss rfl (.t .z) (.t .g1)) (Y.nt (Y.seq ?_))))
 refine Y.condP (.t .z) (fun b3 => ?_) (fun b3 => ?_)
 refine Y.skip (Y.then_ (Y.seq (Y.block (Y.seq (Y.region ?_)))))
 obtain ⟨a4, ac, ad⟩ := ay (by omega)
 subst ac
 obtain ⟨x5, ae⟩ := get_ex (xs := xs) (j := k) (by omega)
 obtain ⟨az, af, ag, ah⟩ := ad.elem ae
 obtain ⟨aq, ar, rfl, aa, ab⟩ := kT_44_ro af
 obtain ⟨au, av, rfl, ai, aj, ak, al⟩ := ro_form aa
 obtain ⟨aw, ax, rfl, am, an, ao, ap⟩ := ro_form ab
 refine Y.ql rfl (q_indexAddr (j := k) rfl u_24 sz_44 (.t .g3) (.t .g1) rfl (by omega)) ?_
 refine Y.ql rfl (qE rfl ag_44 (.t .z) ag ah sz_44) ?_
 refine Y.el rfl (e_alloc rfl z_44 rfl rfl) ?_
 rintro _ _ ⟨g9, rfl, rfl⟩
 refine Y.es (goes_list rfl) rfl (esW rfl (.t .z) (.t .g1) .z sz_44 rfl rfl) ?_
 refine Y.nt (Y.seq (Y.region (Y.ql rfl (qW rfl ag_44 (.t .z) .z sz_44) ?_)))
 refine Y.cl rfl rfl Tryz.func130 rfl rfl (args1 (.t .z)) .n (fun _ _ hs tr => c_130 (kT_44_mk x5 (tr.ctx aa) (tr.ctx ab))) ?_
 rintro _ _ ⟨rfl, rfl⟩
 refine Y.cat .n ?_
 refine Y.as rfl .z (Y.nt (Y.seq (Y.region (Y.mv rfl .z (Y.ql rfl (q_neq rfl (.t .z) .c) (Y.nt ?_))))))
 refine Y.condN (.t .z) (fun a0 => ?_) (fun a0 => ?_)
 refine Y.seq (Y.region (Y.mv rfl .g2 (Y.as rfl .z (Y.nt (Y.ret (Y.inBR (Y.thenR ?_)))))))
 refine Y.thenR (Y.inBR (Y.thenR ?_))
 refine Y.doneS (res1 rfl .z) .n ?_
 exact ⟨by first | (rw [inodesFault_2 (by assumption)]; done) | (rw [inodesFault_s (by assumption) ae (by assumption) hallk]; done) | (rw [inodesFault_0 (by assumption) (fun j y hj hy => hallk j y (by omega) hy)]; done), rfl⟩
 refine Y.skip (Y.inBN (Y.then_ (Y.region ?_)))
 refine Y.ql rfl (q_add (c := ((k + 1 : Nat) : Int)) rfl (.t .g9) .c (wr (by omega) (by omega) (by omega))) ?_
 refine Y.er .g10 (Y.mv rfl .z (Y.nil ?_))
 refine Y.again (k + 1) ⟨by omega, all_succ (q := fun _ y => inodeFault y = 0) hallk ae (by first | assumption | omega)⟩ (by first | omega | (dsimp only; omega)) (.c .z (.c .g11 (.c .g12 .n))) (fun _ h => h.sel .n)
 refine Y.exit (Y.thenE (Y.thenE (Y.inB (Y.then_ (Y.seq (Y.region (Y.ql rfl (q_assign rfl .c) (Y.nil ?_))))))))
 refine Y.then_ (Y.ret ?_)
 refine Y.doneS (res1 rfl .z) .n ?_
 exact ⟨by first | (rw [inodesFault_2 (by assumption)]; done) | (rw [inodesFault_0 (by assumption) (fun j y hj hy => hallk j y (by omega) hy)]; done), rfl⟩

theorem c_98 {w0 : World} {S0 : Bs} {xs : (List DInode)} {v0 : Value} (h0 : kSl_44.ro w0 (FF w0 S0) xs [v0])  :
    Calls Tryz.prog 98 #[v0] w0 (TriPost w0 S0 (fun r l => r = .int .i64 (inodesFault xs) ∧ l = [])) := by
 obtain ⟨A0, c0, rfl, a0, a1, a2, ay⟩ := ro_form h0
 refine Y.enter (N := 21) Tryz.func98 rfl rfl (by simp) [(0, .slice A0 xs.length c0)] (by simp) (l0 := []) trivial ?_
 refine Y.seq (Y.region (Y.ql rfl (q_assign rfl .c) (Y.nt (Y.seq (Y.seq (Y.region (Y.mv rfl .g1 ?_)))))))
 refine Y.ql rfl (q_len rfl u_24 (.t .z)) (Y.ql rfl (q_gtr rfl (.t .z) .c) (Y.nt ?_))
 refine Y.condP (.t .z) (fun b2 => ?_) (fun b2 => ?_)
 refine Y.seq (Y.region (Y.er .g3 (Y.ql rfl (q_assign rfl .c) (Y.nt (Y.ret (Y.thenR ?_))))))
 refine Y.doneS (res1 rfl .z) .n ?_
 exact ⟨by first | (rw [inodesFault_2 (by assumption)]; done) | (rw [inodesFault_0 (by assumption) (fun j y hj hy => hallk j y (by omega) hy)]; done), rfl⟩
 refine Y.skip (Y.then_ (Y.seq (Y.seq (Y.region (Y.ql rfl (q_assign rfl .c) (Y.nt (Y.block ?_)))))))
 refine Y.loopi (γ := Nat) (fun k => [(3, .int .i64 (k : Int)), (0, .slice A0 xs.length c0)]) (fun k => []) (fun k => k ≤ xs.length ∧ ∀ j y, j < k → xs[j]? = some y → inodeFault y = 0) (fun k => xs.length - k) 0 ⟨Nat.zero_le _, all_zero (q := fun _ y => inodeFault y = 0)⟩ (.c .z (.c .g5 .n)) (fun _ h => h) ?_
 rintro k ⟨hk, hallk⟩
 refine Y.seq (Y.seq (Y.region (Y.mv rfl .z (Y.mv rfl .g2 (Y.ql rfl (q_len rfl u_24 (.t .z)) (Y.ql rfl (q_lss rfl (.t .g2) (.t .z)) (Y.nt ?_)))))))
 refine Y.condP (.t .z) (fun b3 => ?_) (fun b3 => ?_)
 refine Y.skip (Y.then_ (Y.seq (Y.block (Y.seq (Y.region (Y.mv rfl .g5 (Y.mv rfl .g5 ?_)))))))
 obtain ⟨a3, aa, ab⟩ := ay (by omega)
 subst aa
 obtain ⟨x5, af⟩ := get_ex (xs := xs) (j := k) (by omega)
 obtain ⟨az, ac, ag, ah⟩ := ab.elem af
 obtain ⟨aq, ar, rfl, ad, ae⟩ := kT_44_ro ac
 obtain ⟨au, av, rfl, ai, aj, ak, al⟩ := ro_form ad
 obtain ⟨aw, ax, rfl, am, an, ao, ap⟩ := ro_form ae
 refine Y.ql rfl (q_indexAddr (j := k) rfl u_24 sz_44 (.t .g1) (.t .z) rfl (by omega)) ?_
 refine Y.cl rfl rfl Tryz.func135 rfl rfl (args1 (.t .z)) .n (fun _ _ hs tr => c_135 (tr.el ag ac ah)) ?_
 rintro _ _ ⟨rfl, rfl⟩
 refine Y.cat .n ?_
 refine Y.as rfl .z (Y.nt (Y.seq (Y.region (Y.mv rfl .z (Y.ql rfl (q_neq rfl (.t .z) .c) (Y.nt ?_))))))
 refine Y.condN (.t .z) (fun b9 => ?_) (fun b9 => ?_)
 refine Y.seq (Y.region (Y.mv rfl .g2 (Y.as rfl .z (Y.nt (Y.ret (Y.inBR (Y.thenR ?_)))))))
 refine Y.thenR (Y.inBR (Y.thenR ?_))
 refine Y.doneS (res1 rfl .z) .n ?_
 exact ⟨by first | (rw [inodesFault_2 (by assumption)]; done) | (rw [inodesFault_s (by assumption) af (by assumption) hallk]; done) | (rw [inodesFault_0 (by assumption) (fun j y hj hy => hallk j y (by omega) hy)]; done), rfl⟩
 refine Y.skip (Y.inBN (Y.then_ (Y.region (Y.mv rfl .g11 ?_))))
 refine Y.ql rfl (q_add (c := ((k + 1 : Nat) : Int)) rfl (.t .z) .c (wr (by omega) (by omega) (by omega))) ?_
 refine Y.er .g13 (Y.as rfl .z (Y.nil ?_))
 refine Y.again (k + 1) ⟨by omega, all_succ (q := fun _ y => inodeFault y = 0) hallk af (by first | assumption | omega)⟩ (by first | omega | (dsimp only; omega)) (.c .z (.c .g14 .n)) (fun _ h => h)
 refine Y.exit (Y.thenE (Y.thenE (Y.inB (Y.then_ (Y.seq (Y.region (Y.ql rfl (q_assign rfl .c) (Y.nil ?_))))))))
 refine Y.then_ (Y.ret ?_)
 refine Y.doneS (res1 rfl .z) .n ?_
 exact ⟨by first | (rw [inodesFault_2 (by assumption)]; done) | (rw [inodesFault_0 (by assumption) (fun j y hj hy => hallk j y (by omega) hy)]; done), rfl⟩

end Go.Proofs.YtmejbfmhaoilmaaGreat

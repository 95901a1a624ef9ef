/- What is proved: contracts of functions, one a function. No condition. -/
import Derived.Test.YtmejbfmhaoilmaaGreatBase1
import Derived.Test.YtmejbfmhaoilmaaGreatW88
import Derived.Test.YtmejbfmhaoilmaaGreatW57
import Derived.Test.YtmejbfmhaoilmaaGreatTypesA
import Derived.Test.YtmejbfmhaoilmaaGreatBase2
namespace Go.Proofs.YtmejbfmhaoilmaaGreat
open Go Go.RowKit
set_option linter.unusedVariables false
set_option linter.unusedSimpArgs false
set_option maxHeartbeats 1000000
set_option maxRecDepth 20000
theorem c_3 {w0 : World} {S0 : Bs} {cd : (List UInt8)} {v0 : Value} (h0 : kSl_5.ro w0 (FF w0 S0) cd [v0])  :
    Calls Tryz.prog 3 #[v0] w0 (TriPost w0 S0 (fun r l => r = .bool true ∧ l = [])) := by
 obtain ⟨A0, c0, rfl, bt, bu, bv, bw⟩ := ro_form h0
 refine Y.enter (N := 112) Tryz.func3 rfl rfl (by simp) [(0, .slice A0 cd.length c0)] (by simp) (l0 := []) trivial ?_
 refine Y.seq (Y.region (Y.ql rfl (q_assign rfl .c) (Y.nt (Y.seq (Y.seq (Y.region (Y.mv rfl .g1 ?_)))))))
 refine Y.cl rfl rfl Tryz.func8 rfl rfl (args1 (.t .z)) .n (fun _ _ hs tr => c_8 (tr.ctx h0)) ?_
 rintro _ _ ⟨rfl, rfl⟩
 refine Y.cat .n ?_
 refine Y.nt ?_
 refine Y.condP (.t .z) (fun b2 => ?_) (fun b2 => ?_)
 refine Y.seq (Y.region (Y.er .g2 (Y.ql rfl (q_assign rfl .c) (Y.nt (Y.ret (Y.thenR ?_))))))
 refine Y.doneS (res1 rfl .z) .n ?_
 exact ⟨rfl, rfl⟩
 refine Y.skip (Y.then_ (Y.seq (Y.region (Y.mv rfl .g3 ?_))))
 refine Y.cl rfl rfl Tryz.func9 rfl rfl (args1 (.t .z)) .n (fun _ _ hs tr => c_9 (tr.ctx h0) (by omega)) ?_
 rintro _ _ ⟨ae, v4, v6, m8, m9, af, ar, rfl, rfl⟩
 refine Y.cat (.c (.c .n)) ?_
 have RL := @reads_law ae m8 m9 af
 refine Y.know (WS.kform .z) ?_
 rintro ⟨aj, ak, rfl, au, av, aw⟩
 refine Y.know (WS.kform .g1) ?_
 rintro ⟨al, am, rfl, ax, ay, az⟩
 refine Y.freezeF .z ?_
 intro w0 S0 ai ac aa
 replace h0 := ai h0
 refine Y.freezeF .z ?_
 intro w0 S0 ag ad ab
 replace ac := ag ac
 replace h0 := ag h0
 refine Y.mv rfl .z (Y.ql rfl (q_extract (v := .agg #[.slice aj ae.inodes.length ak, .slice al ae.data.length am]) rfl (.t .z) rfl) (Y.ql rfl (q_extract (v := .int .i64 m8) rfl (.t .g1) rfl) (Y.ql rfl (q_extract (v := .int .i64 m9) rfl (.t .g2) rfl) (Y.ql rfl (q_extract (v := .int .i64 af) rfl (.t .g3) rfl) ?_))))
 refine Y.el rfl (e_alloc rfl z_27 rfl rfl) ?_
 rintro _ _ ⟨g24, rfl, rfl⟩
 refine Y.es (goes_list rfl) rfl (esW rfl (.t .z) (.t .g4) .z sz_27 rfl rfl) ?_
 refine Y.as rfl .g3 (Y.as rfl .g3 (Y.as rfl .g3 (Y.nt (Y.seq (Y.region (Y.ql rfl (qW rfl ag_27 (.t .g3) .z sz_27) (Y.mv rfl .g3 ?_)))))))
 refine Y.mv rfl .g3 (Y.mv rfl .g3 ?_)
 refine Y.cl rfl rfl Tryz.func10 rfl rfl (args4 (.t .g3) (.t .g2) (.t .g1) (.t .z)) .n (fun _ _ hs tr => c_10 (kT_27_mk ae (tr.ctx ac) (tr.ctx ad)) _ _ _) ?_
 rintro _ _ ⟨bx, rfl, rfl⟩
 refine Y.cat (.c .n) ?_
 refine Y.know (WS.oform .z) ?_
 rintro ⟨bj, bk, rfl, a0, a1, a2⟩
 refine Y.el rfl (e_alloc rfl z_31 rfl rfl) ?_
 rintro _ _ ⟨g28, rfl, rfl⟩
 refine Y.es (goes_list rfl) rfl (esW rfl (.t .z) (.t .g1) .z sz_31 rfl rfl) ?_
 refine Y.nt (Y.seq (Y.seq (Y.region (Y.fa rfl .z fa_31_0 (Y.ld rfl ag_2 .z .z (Y.ql rfl (q_neq rfl (.t .z) .c) (Y.nil ?_)))))))
 refine Y.then_ ?_
 refine Y.condN (.t .z) (fun a3 => ?_) (fun a3 => ?_)
 refine Y.seq ?_
 refine Y.dr .z 9 mixo ?_
 refine Y.sc (qs 0 4 ++ [(6, true), (7, true), (4, false), (5, true), (8, true), (9, false)]) (by kernel_rfl) ?_
 refine Y.dk rfl rfl .z (qW rfl ag_27 (.t .g12) .g2 sz_27) (Y.dm rfl rfl .z .g12 (Y.dm rfl rfl .z .g12 (Y.dm rfl rfl .z .g12 (Y.df rfl rfl .z .g7 fa_31_0 (Y.dl rfl rfl .z ag_2 .z .z ?_)))))
 refine Y.call (goes_sch rfl rfl) rfl (by decide) rfl (c_call rfl Tryz.func11 rfl rfl (args4 (.t .g5) (.t .g4) (.t .g3) (.t .g2))) .n (fun _ _ hs tr => c_11 (kT_27_mk ae (tr.ctx ac) (tr.ctx ad)) _ _ _) ?_
 rintro _ _ ⟨bz, rfl, rfl⟩
 refine Y.cat (.c .n) ?_
 refine Y.know (WS.oform .z) ?_
 rintro ⟨an, ao, rfl, a4, a5, a6⟩
 refine Y.sk .g1 ?_
 refine Y.dk rfl rfl .g1 (q_field rfl (.t .z) (fun w => fv_31_0 w (.int .i64 ((readR ae m8 m9 af).code)) (.slice an ((readR ae m8 m9 af).bytes).length ao))) (Y.dk rfl rfl .g1 (q_eql rfl (.t .z) (.t .g2)) (Y.er (.s16 .g15) ?_))
 refine Y.q (goes_sch rfl rfl) rfl (by decide) rfl (q_assign rfl (.t .z)) ?_
 refine Y.sl rfl ?_
 refine Y.schN ?_
 refine Y.drawN (by kernel_rfl) ?_
 refine Y.then_ (Y.ret (Y.thenR ?_))
 refine Y.upR (fun l w h => aa _ _ (ab _ _ (h))) ?_
 refine Y.doneS (res1 rfl .z) .n ?_
 first | (focus (refine ⟨congrArg Value.bool ?_, rfl⟩; have K6 := K5 (by omega); simp_all; done)) | (focus (exfalso; have K6 := K5 (by omega); simp_all; done)) | (focus (exfalso; have K6 := K4 (by omega); simp_all; done)) | (focus (exfalso; have K7 := bytesR_0 R1; simp_all; done)) | exact ⟨rfl, rfl⟩ | (focus (exfalso; omega)) | (focus (exfalso; simp_all; done)) | (focus (refine ⟨congrArg Value.bool ?_, rfl⟩; simp_all; done)) | (focus (refine ⟨congrArg Value.bool ?_, rfl⟩; simp_all; omega))
 obtain ⟨R1, R2, R3, R4, R5⟩ := RL a3
 refine Y.skip (Y.then_ (Y.seq (Y.region (Y.mv rfl (.s16 .g7) (Y.mv rfl .g10 ?_)))))
 refine Y.ql rfl (q_add (c := af + 1) rfl (.t .z) .c (wr (by omega) (by omega) (by omega))) ?_
 refine Y.cl rfl rfl Tryz.func12 rfl rfl (args3 (.t .g2) .c (.t .z)) .n (fun _ _ hs tr => c_12 (tr.ctx h0) _ _ (by omega) (by omega)) ?_
 rintro _ _ ⟨ah, h0m33, h1m33, rfl, rfl⟩
 refine Y.cat .n ?_
 obtain ⟨⟨K1, K2⟩, K3, K4, K5⟩ := R5 ah (by omega)
 have R6 : (readR ae m8 m9 af).bytes.length ≤ 100 := by omega
 refine Y.as rfl .z (Y.nt (Y.seq (Y.region (Y.ql rfl (qW rfl ag_27 (.t (.s16 .g1)) .g2 sz_27) (Y.mv rfl (.s16 .g1) (Y.mv rfl (.s16 .g1) (Y.mv rfl .g3 ?_)))))))
 refine Y.cl rfl rfl Tryz.func10 rfl rfl (args4 (.t .g3) (.t .g2) (.t .g1) (.t .z)) .n (fun _ _ hs tr => c_10 (kT_27_mk ae (tr.ctx ac) (tr.ctx ad)) _ _ _) ?_
 rintro _ _ ⟨b0, rfl, rfl⟩
 refine Y.cat (.c .n) ?_
 refine Y.know (WS.oform .z) ?_
 rintro ⟨bm, bn, rfl, a7, a8, a9⟩
 refine Y.el rfl (e_alloc rfl z_31 rfl rfl) ?_
 rintro _ _ ⟨g37, rfl, rfl⟩
 refine Y.es (goes_list rfl) rfl (esW rfl (.t .z) (.t .g1) .z sz_31 rfl rfl) ?_
 refine Y.nt (Y.seq (Y.region (Y.ql rfl (qW rfl ag_27 (.t (.s16 .g7)) .g4 sz_27) (Y.mv rfl (.s16 .g7) (Y.mv rfl (.s16 .g7) (Y.mv rfl .g9 ?_))))))
 refine Y.ql rfl (q_add (c := m9 + ah) rfl (.t .g1) (.t .z) (wr (by omega) (by omega) (by omega))) ?_
 refine Y.mv rfl (.s16 .g9) (Y.mv rfl .g12 ?_)
 refine Y.ql rfl (q_sub (c := af - ah) rfl (.t .g1) (.t .z) (wr (by omega) (by omega) (by omega))) ?_
 refine Y.cl rfl rfl Tryz.func10 rfl rfl (args4 (.t .g7) (.t .g6) (.t .g3) (.t .z)) .n (fun _ _ hs tr => c_10 (kT_27_mk ae (tr.ctx ac) (tr.ctx ad)) _ _ _) ?_
 rintro _ _ ⟨b1, rfl, rfl⟩
 refine Y.cat (.c .n) ?_
 refine Y.know (WS.oform .z) ?_
 rintro ⟨bo, bp, rfl, ba, bb, bc⟩
 refine Y.el rfl (e_alloc rfl z_31 rfl rfl) ?_
 rintro _ _ ⟨g41, rfl, rfl⟩
 refine Y.es (goes_list rfl) rfl (esW rfl (.t .z) (.t .g1) .z sz_31 rfl rfl) ?_
 refine Y.nt (Y.seq (Y.seq (Y.region (Y.mv rfl (.s16 .g15) (Y.mv rfl (.s16 .g1) ?_)))))
 refine Y.ql rfl (q_add (c := m9 + ah) rfl (.t .g1) (.t .z) (wr (by omega) (by omega) (by omega))) ?_
 refine Y.ql rfl (q_gtr rfl (.t .z) .c) (Y.nt ?_)
 refine Y.condP (.t .z) (fun bq => ?_) (fun bq => ?_)
 refine Y.seq (Y.region (Y.fa rfl .g4 fa_31_0 (Y.ld rfl ag_2 .z .z (Y.ql rfl (q_eql rfl (.t .z) .c) (Y.er (.s16 (.s16 (.s16 .g2))) (Y.as rfl .z (Y.nt ?_)))))))
 refine Y.ret (Y.thenR ?_)
 refine Y.upR (fun l w h => aa _ _ (ab _ _ (h))) ?_
 refine Y.doneS (res1 rfl .z) .n ?_
 first | (focus (refine ⟨congrArg Value.bool ?_, rfl⟩; have K6 := K5 (by omega); simp_all; done)) | (focus (exfalso; have K6 := K5 (by omega); simp_all; done)) | (focus (exfalso; have K6 := K4 (by omega); simp_all; done)) | (focus (exfalso; have K7 := bytesR_0 R1; simp_all; done)) | exact ⟨rfl, rfl⟩ | (focus (exfalso; omega)) | (focus (exfalso; simp_all; done)) | (focus (refine ⟨congrArg Value.bool ?_, rfl⟩; simp_all; done)) | (focus (refine ⟨congrArg Value.bool ?_, rfl⟩; simp_all; omega))
 refine Y.skip (Y.then_ (Y.seq (Y.region (Y.ql rfl (qW rfl ag_27 (.t (.s16 (.s16 .g5))) .g6 sz_27) (Y.mv rfl (.s16 (.s16 .g5)) ?_)))))
 refine Y.cl rfl rfl Tryz.func13 rfl rfl (args2 (.t .g1) (.t .z)) .n (fun _ _ hs tr => c_13 (kT_27_mk ae (tr.ctx ac) (tr.ctx ad)) _) ?_
 rintro _ _ ⟨b3, rfl, rfl⟩
 refine Y.cat (.c .n) ?_
 refine Y.know (WS.oform .z) ?_
 rintro ⟨br, bs, rfl, bd, be, bf⟩
 refine Y.el rfl (e_alloc rfl z_31 rfl rfl) ?_
 rintro _ _ ⟨g46, rfl, rfl⟩
 refine Y.es (goes_list rfl) rfl (esW rfl (.t .z) (.t .g1) .z sz_31 rfl rfl) ?_
 refine Y.nt (Y.seq ?_)
 refine Y.dr .z 46 mixo ?_
 refine Y.sc (qs 0 4) (by kernel_rfl) ?_
 refine Y.df rfl rfl .z (.s16 .g2) fa_31_0 (Y.dl rfl rfl .z ag_2 .z .g4 (Y.dk rfl rfl .z (q_eql rfl (.t .z) .c) (Y.dm rfl rfl .z .z (Y.schN ?_))))
 refine Y.caseP .z (fun g47 => ?_) (fun g47 => ?_)
 refine Y.sc (qs 4 5) (by kernel_rfl) ?_
 refine Y.dqg rfl rfl rfl .z rfl (by decide) rfl .z (q_fieldAddr rfl (.t .g12) (fun _ => fa_31_0 _ _)) ?_
 refine Y.dqg rfl rfl rfl .g1 rfl (by decide) rfl .z (q_load rfl ag_2 (.t .z) (WS.row .g2 rfl)) ?_
 refine Y.dqg rfl rfl rfl .g2 rfl (by decide) rfl .z (q_eql rfl (.t .z) .c) ?_
 refine Y.dk rfl rfl .z (q_pickT rfl (.t .g3) (.t .z)) (Y.dm rfl rfl .z .z (Y.schN ?_))
 refine Y.caseP .z (fun g48 => ?_) (fun g48 => ?_)
 refine Y.sc (qs 9 13) (by kernel_rfl) ?_
 refine Y.dqg rfl rfl rfl .z rfl (by decide) rfl .z (q_fieldAddr rfl (.t (.s16 .g11)) (fun _ => fa_31_1 _ _)) ?_
 refine Y.dqg rfl rfl rfl .g1 rfl (by decide) rfl .z (q_load rfl ag_22 (.t .z) (WS.row .g4 rfl)) ?_
 refine Y.dqg rfl rfl rfl .g2 rfl (by decide) rfl .z (q_convBS (xs := (readR ae m8 m9 ah).bytes) rfl u_22 u_5 u_9 (.t .z) (WS.roown .g5)) ?_
 refine Y.dqg rfl rfl rfl .g3 rfl (by decide) rfl .z (q_fieldAddr rfl (.t (.s16 .g4)) (fun _ => fa_31_1 _ _)) ?_
 refine Y.dqg rfl rfl rfl .g4 rfl (by decide) rfl .z (q_load rfl ag_22 (.t .z) (WS.row .g2 rfl)) ?_
 refine Y.dqg rfl rfl rfl .g5 rfl (by decide) rfl .z (q_convBS (xs := (readR ae m8 (m9 + ah) (af - ah)).bytes) rfl u_22 u_5 u_9 (.t .z) (WS.roown .g3)) ?_
 refine Y.dqg rfl rfl rfl .g6 rfl (by decide) rfl .z (q_sadd rfl (.t .g3) (.t .z) (by first | omega | (simp only [bstr_size]; omega))) ?_
 refine Y.dqg rfl rfl rfl .g7 rfl (by decide) rfl .z (q_fieldAddr rfl (.t (.s16 (.s16 .g16))) (fun _ => fa_31_1 _ _)) ?_
 refine Y.dqg rfl rfl rfl .g8 rfl (by decide) rfl .z (q_load rfl ag_22 (.t .z) (WS.row .g6 rfl)) ?_
 refine Y.dqg rfl rfl rfl .g9 rfl (by decide) rfl .z (q_convBS (xs := (readR ae m8 m9 af).bytes) rfl u_22 u_5 u_9 (.t .z) (WS.roown .g7)) ?_
 refine Y.dqg rfl rfl rfl .g10 rfl (by decide) rfl .z (q_seql rfl (.t .g3) (.t .z)) ?_
 refine Y.dk rfl rfl .z (q_pickT rfl (.t .g11) (.t .z)) (Y.dm rfl rfl .z .z (Y.schN ?_))
 refine Y.caseP .z (fun g49 => ?_) (fun g49 => ?_)
 refine Y.sc (qs 22 7) (by kernel_rfl) ?_
 refine Y.dqg rfl rfl rfl .z rfl (by decide) rfl .z (q_fieldAddr rfl (.t (.s16 (.s16 (.s16 .g6)))) (fun _ => fa_31_1 _ _)) ?_
 refine Y.dqg rfl rfl rfl .g1 rfl (by decide) rfl .z (q_load rfl ag_22 (.t .z) (WS.row .g6 rfl)) ?_
 refine Y.dqg rfl rfl rfl .g2 rfl (by decide) rfl .z (q_len rfl u_22 (.t .z)) ?_
 refine Y.dqg rfl rfl rfl .g3 rfl (by decide) rfl .z (q_move rfl (.t (.s16 (.s16 (.s16 .g15))))) ?_
 refine Y.dqg rfl rfl rfl .g4 rfl (by decide) rfl .z (q_leq rfl (.t .g1) (.t .z)) ?_
 refine Y.dk rfl rfl .z (q_pickT rfl (.t .g5) (.t .z)) (Y.dm rfl rfl .z .z (Y.schN ?_))
 refine Y.caseP .z (fun g50 => ?_) (fun g50 => ?_)
 refine Y.sc (qs 29 5) (by kernel_rfl) ?_
 refine Y.dqg rfl rfl rfl .z rfl (by decide) rfl .z (q_fieldAddr rfl (.t (.s16 .g13)) (fun _ => fa_31_0 _ _)) ?_
 refine Y.dqg rfl rfl rfl .g1 rfl (by decide) rfl .z (q_load rfl ag_2 (.t .z) (WS.row .z rfl)) ?_
 refine Y.dqg rfl rfl rfl .g2 rfl (by decide) rfl .z (q_eql rfl (.t .z) .c) ?_
 refine Y.dk rfl rfl .z (q_pickT rfl (.t .g3) (.t .z)) (Y.dm rfl rfl .z .z (Y.schN ?_))
 refine Y.caseP .z (fun g51 => ?_) (fun g51 => ?_)
 refine Y.sc (qs 34 7 ++ [(41, false), (42, true), (43, false), (44, true), (45, true), (46, false)]) (by kernel_rfl) ?_
 refine Y.dqg rfl rfl rfl .z rfl (by decide) rfl .z (q_fieldAddr rfl (.t (.s16 (.s16 (.s16 (.s16 .g2))))) (fun _ => fa_31_1 _ _)) ?_
 refine Y.dqg rfl rfl rfl .g1 rfl (by decide) rfl .z (q_load rfl ag_22 (.t .z) (WS.row .g6 rfl)) ?_
 refine Y.dqg rfl rfl rfl .g2 rfl (by decide) rfl .z (q_convBS (xs := (readR ae m8 m9 af).bytes) rfl u_22 u_5 u_9 (.t .z) (WS.roown .g7)) ?_
 refine Y.dqg rfl rfl rfl .g3 rfl (by decide) rfl .z (qW rfl ag_27 (.t (.s16 (.s16 (.s16 (.s16 .g14))))) .g8 sz_27) ?_
 refine Y.dqg rfl rfl rfl .g4 rfl (by decide) rfl .z (q_move rfl (.t (.s16 (.s16 (.s16 (.s16 .g14)))))) ?_
 refine Y.dqg rfl rfl rfl .g5 rfl (by decide) rfl .z (q_move rfl (.t (.s16 (.s16 (.s16 (.s16 .g14)))))) ?_
 refine Y.dqg rfl rfl rfl .g6 rfl (by decide) rfl .z (q_move rfl (.t (.s16 (.s16 (.s16 (.s16 .g14)))))) ?_
 refine Y.call (goes_schg rfl rfl rfl .g7) rfl (by decide) rfl (c_call rfl Tryz.func11 rfl rfl (args4 (.t .g3) (.t .g2) (.t .g1) (.t .z))) .n (fun _ _ hs tr => c_11 (kT_27_mk ae (tr.ctx ac) (tr.ctx ad)) _ _ _) ?_
 rintro _ _ ⟨b4, rfl, rfl⟩
 refine Y.cat (.c .n) ?_
 refine Y.know (WS.oform .z) ?_
 rintro ⟨ap, aq, rfl, bg, bh, bi⟩
 refine Y.sk .g1 ?_
 refine Y.dqg rfl rfl rfl .g8 rfl (by decide) rfl .g1 (q_field rfl (.t .z) (fun w => fv_31_1 w (.int .i64 ((readR ae m8 m9 af).code)) (.slice ap ((readR ae m8 m9 af).bytes).length aq))) ?_
 refine Y.q (goes_schg rfl rfl rfl .g9) rfl (by decide) rfl (q_convBS (xs := (readR ae m8 m9 af).bytes) rfl u_22 u_5 u_9 (.t .z) (WS.roown .z)) ?_
 refine Y.sk .g1 ?_
 refine Y.dqg rfl rfl rfl .g10 rfl (by decide) rfl .g1 (q_seql rfl (.t .g7) (.t .z)) ?_
 refine Y.dk rfl rfl .g1 (q_pickT rfl (.t .g11) (.t .z)) (Y.er (.s16 (.s16 (.s16 (.s16 (.s16 (.s16 .g1)))))) ?_)
 refine Y.q (goes_sch rfl rfl) rfl (by decide) rfl (q_assign rfl (.t .z)) ?_
 refine Y.sl rfl ?_
 refine Y.schN ?_
 refine Y.drawN (by kernel_rfl) ?_
 refine Y.then_ (Y.ret ?_)
 refine Y.upR (fun l w h => aa _ _ (ab _ _ (h))) ?_
 refine Y.doneS (res1 rfl .z) .n ?_
 first | (focus (refine ⟨congrArg Value.bool ?_, rfl⟩; have K6 := K5 (by omega); simp_all; done)) | (focus (exfalso; have K6 := K5 (by omega); simp_all; done)) | (focus (exfalso; have K6 := K4 (by omega); simp_all; done)) | (focus (exfalso; have K7 := bytesR_0 R1; simp_all; done)) | exact ⟨rfl, rfl⟩ | (focus (exfalso; omega)) | (focus (exfalso; simp_all; done)) | (focus (refine ⟨congrArg Value.bool ?_, rfl⟩; simp_all; done)) | (focus (refine ⟨congrArg Value.bool ?_, rfl⟩; simp_all; omega))
 refine Y.sc (qs 34 12 ++ [(46, false)]) (by kernel_rfl) ?_
 refine Y.dskip rfl rfl rfl .z rfl rfl (by decide) rfl .z ?_
 refine Y.dskip rfl rfl rfl .g1 rfl rfl (by decide) rfl .z ?_
 refine Y.dskip rfl rfl rfl .g2 rfl rfl (by decide) rfl .z ?_
 refine Y.dskip rfl rfl rfl .g3 rfl rfl (by decide) rfl .z ?_
 refine Y.dskip rfl rfl rfl .g4 rfl rfl (by decide) rfl .z ?_
 refine Y.dskip rfl rfl rfl .g5 rfl rfl (by decide) rfl .z ?_
 refine Y.dskip rfl rfl rfl .g6 rfl rfl (by decide) rfl .z ?_
 refine Y.dskip rfl rfl rfl .g7 rfl rfl (by decide) rfl .z ?_
 refine Y.dskip rfl rfl rfl .g8 rfl rfl (by decide) rfl .z ?_
 refine Y.dskip rfl rfl rfl .g9 rfl rfl (by decide) rfl .z ?_
 refine Y.dskip rfl rfl rfl .g10 rfl rfl (by decide) rfl .z ?_
 refine Y.dk rfl rfl .z (q_pickF rfl (.t .g11) .c) (Y.er (.s16 (.s16 (.s16 (.s16 (.s16 (.s16 .g1)))))) ?_)
 refine Y.q (goes_sch rfl rfl) rfl (by decide) rfl (q_assign rfl (.t .z)) ?_
 refine Y.sl rfl ?_
 refine Y.schN ?_
 refine Y.drawN (by kernel_rfl) ?_
 refine Y.then_ (Y.ret ?_)
 refine Y.upR (fun l w h => aa _ _ (ab _ _ (h))) ?_
 refine Y.doneS (res1 rfl .z) .n ?_
 first | (focus (refine ⟨congrArg Value.bool ?_, rfl⟩; have K6 := K5 (by omega); simp_all; done)) | (focus (exfalso; have K6 := K5 (by omega); simp_all; done)) | (focus (exfalso; have K6 := K4 (by omega); simp_all; done)) | (focus (exfalso; have K7 := bytesR_0 R1; simp_all; done)) | exact ⟨rfl, rfl⟩ | (focus (exfalso; omega)) | (focus (exfalso; simp_all; done)) | (focus (refine ⟨congrArg Value.bool ?_, rfl⟩; simp_all; done)) | (focus (refine ⟨congrArg Value.bool ?_, rfl⟩; simp_all; omega))
 refine Y.sc (qs 29 17 ++ [(46, false)]) (by kernel_rfl) ?_
 refine Y.dskip rfl rfl rfl .z rfl rfl (by decide) rfl .z ?_
 refine Y.dskip rfl rfl rfl .g1 rfl rfl (by decide) rfl .z ?_
 refine Y.dskip rfl rfl rfl .g2 rfl rfl (by decide) rfl .z ?_
 refine Y.dk rfl rfl .z (q_pickF rfl (.t .g3) .c) (Y.dm rfl rfl .z .z ?_)
 refine Y.dskip rfl rfl rfl .z rfl rfl (by decide) rfl .z ?_
 refine Y.dskip rfl rfl rfl .g1 rfl rfl (by decide) rfl .z ?_
 refine Y.dskip rfl rfl rfl .g2 rfl rfl (by decide) rfl .z ?_
 refine Y.dskip rfl rfl rfl .g3 rfl rfl (by decide) rfl .z ?_
 refine Y.dskip rfl rfl rfl .g4 rfl rfl (by decide) rfl .z ?_
 refine Y.dskip rfl rfl rfl .g5 rfl rfl (by decide) rfl .z ?_
 refine Y.dskip rfl rfl rfl .g6 rfl rfl (by decide) rfl .z ?_
 refine Y.dskip rfl rfl rfl .g7 rfl rfl (by decide) rfl .z ?_
 refine Y.dskip rfl rfl rfl .g8 rfl rfl (by decide) rfl .z ?_
 refine Y.dskip rfl rfl rfl .g9 rfl rfl (by decide) rfl .z ?_
 refine Y.dskip rfl rfl rfl .g10 rfl rfl (by decide) rfl .z ?_
 refine Y.dk rfl rfl .z (q_pickF rfl (.t .g11) .c) (Y.er (.s16 (.s16 (.s16 (.s16 (.s16 (.s16 .g1)))))) ?_)
 refine Y.q (goes_sch rfl rfl) rfl (by decide) rfl (q_assign rfl (.t .z)) ?_
 refine Y.sl rfl ?_
 refine Y.schN ?_
 refine Y.drawN (by kernel_rfl) ?_
 refine Y.then_ (Y.ret ?_)
 refine Y.upR (fun l w h => aa _ _ (ab _ _ (h))) ?_
 refine Y.doneS (res1 rfl .z) .n ?_
 first | (focus (refine ⟨congrArg Value.bool ?_, rfl⟩; have K6 := K5 (by omega); simp_all; done)) | (focus (exfalso; have K6 := K5 (by omega); simp_all; done)) | (focus (exfalso; have K6 := K4 (by omega); simp_all; done)) | (focus (exfalso; have K7 := bytesR_0 R1; simp_all; done)) | exact ⟨rfl, rfl⟩ | (focus (exfalso; omega)) | (focus (exfalso; simp_all; done)) | (focus (refine ⟨congrArg Value.bool ?_, rfl⟩; simp_all; done)) | (focus (refine ⟨congrArg Value.bool ?_, rfl⟩; simp_all; omega))
 refine Y.sc (qs 22 24 ++ [(46, false)]) (by kernel_rfl) ?_
 refine Y.dskip rfl rfl rfl .z rfl rfl (by decide) rfl .z ?_
 refine Y.dskip rfl rfl rfl .g1 rfl rfl (by decide) rfl .z ?_
 refine Y.dskip rfl rfl rfl .g2 rfl rfl (by decide) rfl .z ?_
 refine Y.dskip rfl rfl rfl .g3 rfl rfl (by decide) rfl .z ?_
 refine Y.dskip rfl rfl rfl .g4 rfl rfl (by decide) rfl .z ?_
 refine Y.dk rfl rfl .z (q_pickF rfl (.t .g5) .c) (Y.dm rfl rfl .z .z ?_)
 refine Y.dskip rfl rfl rfl .z rfl rfl (by decide) rfl .z ?_
 refine Y.dskip rfl rfl rfl .g1 rfl rfl (by decide) rfl .z ?_
 refine Y.dskip rfl rfl rfl .g2 rfl rfl (by decide) rfl .z ?_
 refine Y.dk rfl rfl .z (q_pickF rfl (.t .g3) .c) (Y.dm rfl rfl .z .z ?_)
 refine Y.dskip rfl rfl rfl .z rfl rfl (by decide) rfl .z ?_
 refine Y.dskip rfl rfl rfl .g1 rfl rfl (by decide) rfl .z ?_
 refine Y.dskip rfl rfl rfl .g2 rfl rfl (by decide) rfl .z ?_
 refine Y.dskip rfl rfl rfl .g3 rfl rfl (by decide) rfl .z ?_
 refine Y.dskip rfl rfl rfl .g4 rfl rfl (by decide) rfl .z ?_
 refine Y.dskip rfl rfl rfl .g5 rfl rfl (by decide) rfl .z ?_
 refine Y.dskip rfl rfl rfl .g6 rfl rfl (by decide) rfl .z ?_
 refine Y.dskip rfl rfl rfl .g7 rfl rfl (by decide) rfl .z ?_
 refine Y.dskip rfl rfl rfl .g8 rfl rfl (by decide) rfl .z ?_
 refine Y.dskip rfl rfl rfl .g9 rfl rfl (by decide) rfl .z ?_
 refine Y.dskip rfl rfl rfl .g10 rfl rfl (by decide) rfl .z ?_
 refine Y.dk rfl rfl .z (q_pickF rfl (.t .g11) .c) (Y.er (.s16 (.s16 (.s16 (.s16 (.s16 (.s16 .g1)))))) ?_)
 refine Y.q (goes_sch rfl rfl) rfl (by decide) rfl (q_assign rfl (.t .z)) ?_
 refine Y.sl rfl ?_
 refine Y.schN ?_
 refine Y.drawN (by kernel_rfl) ?_
 refine Y.then_ (Y.ret ?_)
 refine Y.upR (fun l w h => aa _ _ (ab _ _ (h))) ?_
 refine Y.doneS (res1 rfl .z) .n ?_
 first | (focus (refine ⟨congrArg Value.bool ?_, rfl⟩; have K6 := K5 (by omega); simp_all; done)) | (focus (exfalso; have K6 := K5 (by omega); simp_all; done)) | (focus (exfalso; have K6 := K4 (by omega); simp_all; done)) | (focus (exfalso; have K7 := bytesR_0 R1; simp_all; done)) | exact ⟨rfl, rfl⟩ | (focus (exfalso; omega)) | (focus (exfalso; simp_all; done)) | (focus (refine ⟨congrArg Value.bool ?_, rfl⟩; simp_all; done)) | (focus (refine ⟨congrArg Value.bool ?_, rfl⟩; simp_all; omega))
 refine Y.sc (qs 9 37 ++ [(46, false)]) (by kernel_rfl) ?_
 refine Y.dskip rfl rfl rfl .z rfl rfl (by decide) rfl .z ?_
 refine Y.dskip rfl rfl rfl .g1 rfl rfl (by decide) rfl .z ?_
 refine Y.dskip rfl rfl rfl .g2 rfl rfl (by decide) rfl .z ?_
 refine Y.dskip rfl rfl rfl .g3 rfl rfl (by decide) rfl .z ?_
 refine Y.dskip rfl rfl rfl .g4 rfl rfl (by decide) rfl .z ?_
 refine Y.dskip rfl rfl rfl .g5 rfl rfl (by decide) rfl .z ?_
 refine Y.dskip rfl rfl rfl .g6 rfl rfl (by decide) rfl .z ?_
 refine Y.dskip rfl rfl rfl .g7 rfl rfl (by decide) rfl .z ?_
 refine Y.dskip rfl rfl rfl .g8 rfl rfl (by decide) rfl .z ?_
 refine Y.dskip rfl rfl rfl .g9 rfl rfl (by decide) rfl .z ?_
 refine Y.dskip rfl rfl rfl .g10 rfl rfl (by decide) rfl .z ?_
 refine Y.dk rfl rfl .z (q_pickF rfl (.t .g11) .c) (Y.dm rfl rfl .z .z ?_)
 refine Y.dskip rfl rfl rfl .z rfl rfl (by decide) rfl .z ?_
 refine Y.dskip rfl rfl rfl .g1 rfl rfl (by decide) rfl .z ?_
 refine Y.dskip rfl rfl rfl .g2 rfl rfl (by decide) rfl .z ?_
 refine Y.dskip rfl rfl rfl .g3 rfl rfl (by decide) rfl .z ?_
 refine Y.dskip rfl rfl rfl .g4 rfl rfl (by decide) rfl .z ?_
 refine Y.dk rfl rfl .z (q_pickF rfl (.t .g5) .c) (Y.dm rfl rfl .z .z ?_)
 refine Y.dskip rfl rfl rfl .z rfl rfl (by decide) rfl .z ?_
 refine Y.dskip rfl rfl rfl .g1 rfl rfl (by decide) rfl .z ?_
 refine Y.dskip rfl rfl rfl .g2 rfl rfl (by decide) rfl .z ?_
 refine Y.dk rfl rfl .z (q_pickF rfl (.t .g3) .c) (Y.dm rfl rfl .z .z ?_)
 refine Y.dskip rfl rfl rfl .z rfl rfl (by decide) rfl .z ?_
 refine Y.dskip rfl rfl rfl .g1 rfl rfl (by decide) rfl .z ?_
 refine Y.dskip rfl rfl rfl .g2 rfl rfl (by decide) rfl .z ?_
 refine Y.dskip rfl rfl rfl .g3 rfl rfl (by decide) rfl .z ?_
 refine Y.dskip rfl rfl rfl .g4 rfl rfl (by decide) rfl .z ?_
 refine Y.dskip rfl rfl rfl .g5 rfl rfl (by decide) rfl .z ?_
 refine Y.dskip rfl rfl rfl .g6 rfl rfl (by decide) rfl .z ?_
 refine Y.dskip rfl rfl rfl .g7 rfl rfl (by decide) rfl .z ?_
 refine Y.dskip rfl rfl rfl .g8 rfl rfl (by decide) rfl .z ?_
 refine Y.dskip rfl rfl rfl .g9 rfl rfl (by decide) rfl .z ?_
 refine Y.dskip rfl rfl rfl .g10 rfl rfl (by decide) rfl .z ?_
 refine Y.dk rfl rfl .z (q_pickF rfl (.t .g11) .c) (Y.er (.s16 (.s16 (.s16 (.s16 (.s16 (.s16 .g1)))))) ?_)
 refine Y.q (goes_sch rfl rfl) rfl (by decide) rfl (q_assign rfl (.t .z)) ?_
 refine Y.sl rfl ?_
 refine Y.schN ?_
 refine Y.drawN (by kernel_rfl) ?_
 refine Y.then_ (Y.ret ?_)
 refine Y.upR (fun l w h => aa _ _ (ab _ _ (h))) ?_
 refine Y.doneS (res1 rfl .z) .n ?_
 first | (focus (refine ⟨congrArg Value.bool ?_, rfl⟩; have K6 := K5 (by omega); simp_all; done)) | (focus (exfalso; have K6 := K5 (by omega); simp_all; done)) | (focus (exfalso; have K6 := K4 (by omega); simp_all; done)) | (focus (exfalso; have K7 := bytesR_0 R1; simp_all; done)) | exact ⟨rfl, rfl⟩ | (focus (exfalso; omega)) | (focus (exfalso; simp_all; done)) | (focus (refine ⟨congrArg Value.bool ?_, rfl⟩; simp_all; done)) | (focus (refine ⟨congrArg Value.bool ?_, rfl⟩; simp_all; omega))
 refine Y.sc (qs 4 42 ++ [(46, false)]) (by kernel_rfl) ?_
 refine Y.dskip rfl rfl rfl .z rfl rfl (by decide) rfl .z ?_
 refine Y.dskip rfl rfl rfl .g1 rfl rfl (by decide) rfl .z ?_
 refine Y.dskip rfl rfl rfl .g2 rfl rfl (by decide) rfl .z ?_
 refine Y.dk rfl rfl .z (q_pickF rfl (.t .g3) .c) (Y.dm rfl rfl .z .z ?_)
 refine Y.dskip rfl rfl rfl .z rfl rfl (by decide) rfl .z ?_
 refine Y.dskip rfl rfl rfl .g1 rfl rfl (by decide) rfl .z ?_
 refine Y.dskip rfl rfl rfl .g2 rfl rfl (by decide) rfl .z ?_
 refine Y.dskip rfl rfl rfl .g3 rfl rfl (by decide) rfl .z ?_
 refine Y.dskip rfl rfl rfl .g4 rfl rfl (by decide) rfl .z ?_
 refine Y.dskip rfl rfl rfl .g5 rfl rfl (by decide) rfl .z ?_
 refine Y.dskip rfl rfl rfl .g6 rfl rfl (by decide) rfl .z ?_
 refine Y.dskip rfl rfl rfl .g7 rfl rfl (by decide) rfl .z ?_
 refine Y.dskip rfl rfl rfl .g8 rfl rfl (by decide) rfl .z ?_
 refine Y.dskip rfl rfl rfl .g9 rfl rfl (by decide) rfl .z ?_
 refine Y.dskip rfl rfl rfl .g10 rfl rfl (by decide) rfl .z ?_
 refine Y.dk rfl rfl .z (q_pickF rfl (.t .g11) .c) (Y.dm rfl rfl .z .z ?_)
 refine Y.dskip rfl rfl rfl .z rfl rfl (by decide) rfl .z ?_
 refine Y.dskip rfl rfl rfl .g1 rfl rfl (by decide) rfl .z ?_
 refine Y.dskip rfl rfl rfl .g2 rfl rfl (by decide) rfl .z ?_
 refine Y.dskip rfl rfl rfl .g3 rfl rfl (by decide) rfl .z ?_
 refine Y.dskip rfl rfl rfl .g4 rfl rfl (by decide) rfl .z ?_
 refine Y.dk rfl rfl .z (q_pickF rfl (.t .g5) .c) (Y.dm rfl rfl .z .z ?_)
 refine Y.dskip rfl rfl rfl .z rfl rfl (by decide) rfl .z ?_
 refine Y.dskip rfl rfl rfl .g1 rfl rfl (by decide) rfl .z ?_
 refine Y.dskip rfl rfl rfl .g2 rfl rfl (by decide) rfl .z ?_
 refine Y.dk rfl rfl .z (q_pickF rfl (.t .g3) .c) (Y.dm rfl rfl .z .z ?_)
 refine Y.dskip rfl rfl rfl .z rfl rfl (by decide) rfl .z ?_
 refine Y.dskip rfl rfl rfl .g1 rfl rfl (by decide) rfl .z ?_
 refine Y.dskip rfl rfl rfl .g2 rfl rfl (by decide) rfl .z ?_
 refine Y.dskip rfl rfl rfl .g3 rfl rfl (by decide) rfl .z ?_
 refine Y.dskip rfl rfl rfl .g4 rfl rfl (by decide) rfl .z ?_
 refine Y.dskip rfl rfl rfl .g5 rfl rfl (by decide) rfl .z ?_
 refine Y.dskip rfl rfl rfl .g6 rfl rfl (by decide) rfl .z ?_
 refine Y.dskip rfl rfl rfl .g7 rfl rfl (by decide) rfl .z ?_
 refine Y.dskip rfl rfl rfl .g8 rfl rfl (by decide) rfl .z ?_
 refine Y.dskip rfl rfl rfl .g9 rfl rfl (by decide) rfl .z ?_
 refine Y.dskip rfl rfl rfl .g10 rfl rfl (by decide) rfl .z ?_
 refine Y.dk rfl rfl .z (q_pickF rfl (.t .g11) .c) (Y.er (.s16 (.s16 (.s16 (.s16 (.s16 (.s16 .g1)))))) ?_)
 refine Y.q (goes_sch rfl rfl) rfl (by decide) rfl (q_assign rfl (.t .z)) ?_
 refine Y.sl rfl ?_
 refine Y.schN ?_
 refine Y.drawN (by kernel_rfl) ?_
 refine Y.then_ (Y.ret ?_)
 refine Y.upR (fun l w h => aa _ _ (ab _ _ (h))) ?_
 refine Y.doneS (res1 rfl .z) .n ?_
 first | (focus (refine ⟨congrArg Value.bool ?_, rfl⟩; have K6 := K5 (by omega); simp_all; done)) | (focus (exfalso; have K6 := K5 (by omega); simp_all; done)) | (focus (exfalso; have K6 := K4 (by omega); simp_all; done)) | (focus (exfalso; have K7 := bytesR_0 R1; simp_all; done)) | exact ⟨rfl, rfl⟩ | (focus (exfalso; omega)) | (focus (exfalso; simp_all; done)) | (focus (refine ⟨congrArg Value.bool ?_, rfl⟩; simp_all; done)) | (focus (refine ⟨congrArg Value.bool ?_, rfl⟩; simp_all; omega))

end Go.Proofs.YtmejbfmhaoilmaaGreat

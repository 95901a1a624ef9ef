/- What is proved: contracts of functions, one a function. No condition. -/
import Derived.Test.YtmejbfmhaoilmaaGreatBase1
import Derived.Test.YtmejbfmhaoilmaaGreatW88
import Derived.Test.YtmejbfmhaoilmaaGreatW57
import Derived.Test.YtmejbfmhaoilmaaGreatW6
import Derived.Test.YtmejbfmhaoilmaaGreatW30
import Derived.Test.YtmejbfmhaoilmaaGreatW25
import Derived.Test.YtmejbfmhaoilmaaGreatTypesA
import Derived.Test.YtmejbfmhaoilmaaGreatBase2
namespace Go.Proofs.YtmejbfmhaoilmaaGreat
open Go Go.RowKit
set_option linter.unusedVariables false
set_option linter.unusedSimpArgs false
set_option maxHeartbeats 1000000
set_option maxRecDepth 20000
theorem c_4 {w0 : World} {S0 : Bs} {cd : (List UInt8)} {v0 : Value} (h0 : kSl_5.ro w0 (FF w0 S0) cd [v0])  :
    Calls Tryz.prog 4 #[v0] w0 (TriPost w0 S0 (fun r l => r = .bool true ∧ l = [])) := by
 obtain ⟨A0, c0, rfl, dw, dx, dy, dz⟩ := ro_form h0
 refine Y.enter (N := 129) Tryz.func4 rfl rfl (by simp) [(0, .slice A0 cd.length c0)] (by simp) (l0 := []) trivial ?_
 refine Y.seq (Y.region (Y.ql rfl (q_assign rfl .c) (Y.nt (Y.seq (Y.seq (Y.region (Y.mv rfl .g1 ?_)))))))
 refine Y.cl rfl rfl Tryz.func8 rfl rfl (args1 (.t .z)) .n (fun _ _ hs tr => c_8 (tr.ctx h0)) ?_
 rintro _ _ ⟨rfl, rfl⟩
 refine Y.cat .n ?_
 refine Y.nt ?_
 refine Y.condP (.t .z) (fun b2 => ?_) (fun b2 => ?_)
 refine Y.seq (Y.region (Y.er .g2 (Y.ql rfl (q_assign rfl .c) (Y.nt (Y.ret (Y.thenR ?_))))))
 refine Y.doneS (res1 rfl .z) .n ?_
 exact ⟨rfl, rfl⟩
 refine Y.skip (Y.then_ (Y.seq (Y.region (Y.mv rfl .g3 ?_))))
 refine Y.cl rfl rfl Tryz.func14 rfl rfl (args1 (.t .z)) .n (fun _ _ hs tr => c_14 (tr.ctx h0) (by omega)) ?_
 rintro _ _ ⟨af, v4, v6, cm, rfl, rfl⟩
 refine Y.cat (.c (.c .n)) ?_
 obtain ⟨TA, TB, TC, TD, TE, TF, TG⟩ := @trees_law af
 refine Y.know (WS.kform .z) ?_
 rintro ⟨c8, br, rfl, c9, da, db⟩
 refine Y.know (WS.kform .g1) ?_
 rintro ⟨bs, bt, rfl, dc, dd, dg⟩
 refine Y.freezeF .z ?_
 intro w0 S0 a2 ad aa
 replace h0 := a2 h0
 refine Y.freezeF .z ?_
 intro w0 S0 an ae ab
 replace ad := an ad
 replace h0 := an h0
 refine Y.el rfl (e_alloc rfl z_27 rfl rfl) ?_
 rintro _ _ ⟨g21, rfl, rfl⟩
 refine Y.es (goes_list rfl) rfl (esW rfl (.t .z) (.t .g1) .z sz_27 rfl rfl) ?_
 refine Y.nt (Y.seq (Y.region (Y.ql rfl (qW rfl ag_27 (.t .z) .z sz_27) ?_)))
 refine Y.cl rfl rfl Tryz.func15 rfl rfl (args1 (.t .z)) .n (fun _ _ hs tr => c_15 (kT_27_mk af (tr.ctx ad) (tr.ctx ae))) ?_
 rintro _ _ ⟨d0, rfl, rfl⟩
 refine Y.cat (.c .n) ?_
 refine Y.know (WS.oform .z) ?_
 rintro ⟨ao, ap, rfl, cn, co, cp⟩
 refine Y.freeze .z ?_
 intro w0 S0 ak ah ac
 replace ad := ak ad
 replace ae := ak ae
 replace h0 := ak h0
 refine Y.el rfl (e_alloc rfl z_38 rfl rfl) ?_
 rintro _ _ ⟨g36, rfl, rfl⟩
 refine Y.es (goes_list rfl) rfl (esW rfl (.t .z) (.t .g1) .z sz_38 rfl rfl) ?_
 refine Y.nt (Y.seq (Y.seq (Y.region (Y.fa rfl .z fa_38_0 (Y.ld rfl ag_2 .z .z (Y.ql rfl (q_neq rfl (.t .z) .c) (Y.nil ?_)))))))
 refine Y.then_ ?_
 refine Y.condN (.t .z) (fun dh => ?_) (fun dh => ?_)
 refine Y.seq ?_
 refine Y.dr .z 13 mixo ?_
 refine Y.sc [(0, true), (3, true), (4, true), (1, false), (2, true), (5, true), (6, true)] (by kernel_rfl) ?_
 refine Y.dk rfl rfl .z (qW rfl ag_27 (.t .g6) .g1 sz_27) (Y.df rfl rfl .z .g4 fa_38_0 (Y.dl rfl rfl .z ag_2 .z .z ?_))
 refine Y.call (goes_sch rfl rfl) rfl (by decide) rfl (c_call rfl Tryz.func16 rfl rfl (args1 (.t .g2))) .n (fun _ _ hs tr => c_16 (kT_27_mk af (tr.ctx ad) (tr.ctx ae))) ?_
 rintro _ _ ⟨d1, rfl, rfl⟩
 refine Y.cat (.c .n) ?_
 refine Y.know (WS.oform .z) ?_
 rintro ⟨bu, bv, rfl, cq, cr, ct⟩
 refine Y.sk .g1 ?_
 refine Y.dk rfl rfl .g1 (q_field rfl (.t .z) (fun w => fv_38_0 w (.int .i64 ((reachR af).code)) (.slice bu ((reachR af).list).length bv))) (Y.dk rfl rfl .g1 (q_eql rfl (.t .z) (.t .g2)) (Y.dm rfl rfl .g1 .z (Y.schN ?_)))
 refine Y.caseP .z (fun g41 => ?_) (fun g41 => ?_)
 refine Y.sc [(7, true), (9, true), (10, true), (8, false), (11, true), (12, true), (13, false)] (by kernel_rfl) ?_
 refine Y.dqg rfl rfl rfl .z rfl (by decide) rfl .g1 (qW rfl ag_27 (.t .g13) .g1 sz_27) ?_
 refine Y.dqg rfl rfl rfl .g1 rfl (by decide) rfl .g1 (q_fieldAddr rfl (.t .g11) (fun _ => fa_38_0 _ _)) ?_
 refine Y.dqg rfl rfl rfl .g2 rfl (by decide) rfl .g1 (q_load rfl ag_2 (.t .z) (WS.row .z rfl)) ?_
 refine Y.call (goes_schg rfl rfl rfl .g3) rfl (by decide) rfl (c_call rfl Tryz.func17 rfl rfl (args1 (.t .g2))) .n (fun _ _ hs tr => c_17 (kT_27_mk af (tr.ctx ad) (tr.ctx ae))) ?_
 rintro _ _ ⟨rfl, rfl⟩
 refine Y.cat .n ?_
 refine Y.sk .g1 ?_
 refine Y.dqg rfl rfl rfl .g4 rfl (by decide) rfl .g1 (q_eql rfl (.t .z) (.t .g1)) ?_
 refine Y.dk rfl rfl .g1 (q_pickT rfl (.t .g5) (.t .z)) (Y.er (.s16 .g8) ?_)
 refine Y.q (goes_sch rfl rfl) rfl (by decide) rfl (q_assign rfl (.t .z)) ?_
 refine Y.sl rfl ?_
 refine Y.schN ?_
 refine Y.drawN (by kernel_rfl) ?_
 refine Y.then_ (Y.ret (Y.thenR ?_))
 refine Y.upR (fun l w h => aa _ _ (ab _ _ (ac _ _ (h)))) ?_
 refine Y.doneS (res1 rfl .z) .n ?_
 first | exact ⟨rfl, rfl⟩ | (focus (exfalso; omega)) | (focus (exfalso; simp_all; done)) | (focus (refine ⟨congrArg Value.bool ?_, rfl⟩; simp_all; done)) | (focus (refine ⟨congrArg Value.bool ?_, rfl⟩; simp_all; omega))
 refine Y.sc (qs 7 6 ++ [(13, false)]) (by kernel_rfl) ?_
 refine Y.dskip rfl rfl rfl .z rfl rfl (by decide) rfl .g1 ?_
 refine Y.dskip rfl rfl rfl .g1 rfl rfl (by decide) rfl .g1 ?_
 refine Y.dskip rfl rfl rfl .g2 rfl rfl (by decide) rfl .g1 ?_
 refine Y.dskip rfl rfl rfl .g3 rfl rfl (by decide) rfl .g1 ?_
 refine Y.dskip rfl rfl rfl .g4 rfl rfl (by decide) rfl .g1 ?_
 refine Y.dk rfl rfl .g1 (q_pickF rfl (.t .g5) .c) (Y.er (.s16 .g8) ?_)
 refine Y.q (goes_sch rfl rfl) rfl (by decide) rfl (q_assign rfl (.t .z)) ?_
 refine Y.sl rfl ?_
 refine Y.schN ?_
 refine Y.drawN (by kernel_rfl) ?_
 refine Y.then_ (Y.ret (Y.thenR ?_))
 refine Y.upR (fun l w h => aa _ _ (ab _ _ (ac _ _ (h)))) ?_
 refine Y.doneS (res1 rfl .z) .n ?_
 first | exact ⟨rfl, rfl⟩ | (focus (exfalso; omega)) | (focus (exfalso; simp_all; done)) | (focus (refine ⟨congrArg Value.bool ?_, rfl⟩; simp_all; done)) | (focus (refine ⟨congrArg Value.bool ?_, rfl⟩; simp_all; omega))
 refine Y.skip (Y.then_ (Y.seq (Y.seq (Y.region (Y.ql rfl (q_assign rfl .c) (Y.nt (Y.block ?_)))))))
 refine Y.loopi (γ := Nat) (fun i => [(5, .int .i64 (i : Int)), (4, .pointer (some ⟨g36, 0, none⟩)), (3, .pointer (some ⟨g21, 0, none⟩))]) (fun i => [rowA g36 38 2 1 [.int .i64 ((reachR af).code), .slice ao ((reachR af).list).length ap], rowA g21 27 2 1 [.slice c8 af.inodes.length br, .slice bs af.data.length bt]]) (fun i => i ≤ af.inodes.length) (fun i => af.inodes.length - i) 0 (Nat.zero_le _) (.c .z (.c .g4 (.c .g7 .n))) (fun _ h => h.sel (.c .z (.c .z .n))) ?_
 rintro i hi
 refine Y.seq (Y.seq (Y.region (Y.mv rfl .z (Y.fa rfl .g3 fa_27_0 (Y.ld rfl ag_24 .z .g1 (Y.ql rfl (q_len rfl u_24 (.t .z)) (Y.ql rfl (q_lss rfl (.t .g3) (.t .z)) (Y.nil ?_))))))))
 refine Y.then_ ?_
 refine Y.condP (.t .z) (fun di => ?_) (fun di => ?_)
 refine Y.skip (Y.then_ (Y.seq (Y.block (Y.seq (Y.region (Y.fa rfl .g6 fa_38_1 (Y.ld rfl ag_36 .z .z (Y.mv rfl .g7 ?_))))))))
 refine Y.cl rfl rfl Tryz.func18 rfl rfl (args2 (.t .g1) (.t .z)) .n (fun _ _ hs tr => c_18 (tr.ctx ah) _) ?_
 rintro _ _ ⟨rfl, rfl⟩
 refine Y.cat .n ?_
 refine Y.as rfl .z (Y.nt (Y.seq (Y.seq (Y.region (Y.mv rfl .z (Y.mv rfl .z ?_))))))
 refine Y.caseP .z (fun g43 => ?_) (fun g43 => ?_)
 refine Y.qg rfl rfl .z rfl rfl rfl (q_fieldAddr rfl (.t .g14) (fun _ => fa_27_0 _ _)) ?_
 refine Y.qg rfl rfl .g1 rfl rfl rfl (q_load rfl ag_24 (.t .z) (WS.row .g1 rfl)) ?_
 refine Y.qg rfl rfl .g2 rfl rfl rfl (q_move rfl (.t .g14)) ?_
 obtain ⟨bw, aq, ar⟩ := (ro_he ad) (by omega)
 subst aq
 obtain ⟨bx, ag⟩ := get_ex (xs := af.inodes) (j := i) (by omega)
 obtain ⟨cu, a3, ai, aj⟩ := ar.elem ag
 obtain ⟨bz, b0, rfl, au, av⟩ := kT_44_ro a3
 obtain ⟨b1, b3, rfl, bb, bc, bd, be⟩ := ro_form au
 obtain ⟨b4, b5, rfl, bf, bg, bh, am⟩ := ro_form av
 refine Y.qg rfl rfl .g3 rfl rfl rfl (q_indexAddr (j := i) rfl u_24 sz_44 (.t .g1) (.t .z) rfl (by omega)) ?_
 refine Y.qg rfl rfl .g4 rfl rfl rfl (q_fieldAddr rfl (.t .z) (fun _ => fa_44_0 _ _)) ?_
 refine Y.qg rfl rfl .g5 rfl rfl rfl (q_load rfl ag_2 (.t .z) (WS.el ai aj rfl)) ?_
 refine Y.qg rfl rfl .g6 rfl rfl rfl (q_eql rfl (.t .z) .c) ?_
 refine Y.ql rfl (q_pickT rfl (.t .g7) (.t .z)) (Y.nt ?_)
 refine Y.condP (.t .z) (fun dj => ?_) (fun dj => ?_)
 refine Y.seq (Y.region (Y.ql rfl (q_assign rfl .c) (Y.nt (Y.ret (Y.thenR (Y.inBR (Y.thenR ?_)))))))
 refine Y.thenR (Y.inBR (Y.thenR ?_))
 refine Y.upR (fun l w h => aa _ _ (ab _ _ (ac _ _ (h)))) ?_
 refine Y.doneS (res1 rfl .z) .n ?_
 first | (focus (exact absurd (by assumption) (TB _ _ ag (by assumption)))) | (focus (exact absurd (TD (by assumption) _ _ ag (by assumption)) (by assumption))) | (focus (have T9 := TB _ _ ag; have T8 := fun q => TD q _ _ ag; exfalso; simp_all; done)) | exact ⟨rfl, rfl⟩ | (focus (exfalso; omega)) | (focus (exfalso; simp_all; done)) | (focus (refine ⟨congrArg Value.bool ?_, rfl⟩; simp_all; done)) | (focus (refine ⟨congrArg Value.bool ?_, rfl⟩; simp_all; omega))
 refine Y.skip (Y.then_ (Y.seq (Y.seq (Y.region (Y.ql rfl (q_assign rfl .c) (Y.nt (Y.block ?_)))))))
 refine Y.loopi (γ := Nat) (fun k => [(7, .int .i64 (k : Int)), (6, .bool (decide ((i : Int) ∈ ((reachR af).list)))), (5, .int .i64 (i : Int)), (4, .pointer (some ⟨g36, 0, none⟩)), (3, .pointer (some ⟨g21, 0, none⟩))]) (fun k => [rowA g36 38 2 1 [.int .i64 ((reachR af).code), .slice ao ((reachR af).list).length ap], rowA g21 27 2 1 [.slice (some bw) af.inodes.length br, .slice bs af.data.length bt]]) (fun k => k ≤ bx.ents.length) (fun k => bx.ents.length - k) 0 (Nat.zero_le _) (.c .z (.c .g11 (.c (.s16 .g5) (.c (.s16 .g6) (.c (.s16 .g7) .n))))) (fun _ h => h.sel (.c .z (.c .z .n))) ?_
 rintro k hk
 refine Y.seq (Y.seq (Y.region (Y.mv rfl .g1 (Y.mv rfl .z ?_))))
 refine Y.caseP .z (fun g50 => ?_) (fun g50 => ?_)
 refine Y.qg rfl rfl .z rfl rfl rfl (q_move rfl (.t .g2)) ?_
 refine Y.qg rfl rfl .g1 rfl rfl rfl (q_fieldAddr rfl (.t .g7) (fun _ => fa_27_0 _ _)) ?_
 refine Y.qg rfl rfl .g2 rfl rfl rfl (q_load rfl ag_24 (.t .z) (WS.row .g1 rfl)) ?_
 refine Y.qg rfl rfl .g3 rfl rfl rfl (q_move rfl (.t .g7)) ?_
 refine Y.qg rfl rfl .g4 rfl rfl rfl (q_indexAddr (j := i) rfl u_24 sz_44 (.t .g1) (.t .z) rfl (by omega)) ?_
 refine Y.qg rfl rfl .g5 rfl rfl rfl (q_fieldAddr rfl (.t .z) (fun _ => fa_44_4 _ _)) ?_
 refine Y.qg rfl rfl .g6 rfl rfl rfl (q_load rfl ag_42 (.t .z) (WS.el ai aj rfl)) ?_
 refine Y.qg rfl rfl .g7 rfl rfl rfl (q_len rfl u_42 (.t .z)) ?_
 refine Y.qg rfl rfl .g8 rfl rfl rfl (q_lss rfl (.t .g7) (.t .z)) ?_
 refine Y.ql rfl (q_pickT rfl (.t .g9) (.t .z)) (Y.nt ?_)
 refine Y.condP (.t .z) (fun dp => ?_) (fun dp => ?_)
 refine Y.skip (Y.then_ (Y.seq (Y.block (Y.seq ?_))))
 refine Y.dr .z 14 mixo ?_
 refine Y.sc (qs 0 12 ++ [(12, false), (13, true)]) (by kernel_rfl) ?_
 refine Y.df rfl rfl .z .g15 fa_38_1 (Y.dl rfl rfl .z ag_36 .z .z (Y.df rfl rfl .z (.s16 .g2) fa_27_0 (Y.dl rfl rfl .z ag_24 .z .g1 (Y.dm rfl rfl .z (.s16 .g2) ?_))))
 refine Y.dk rfl rfl .z (q_indexAddr (j := i) rfl u_24 sz_44 (.t .g1) (.t .z) rfl (by omega)) ?_
 refine Y.df rfl rfl .z .z fa_44_4 (Y.de rfl rfl .z ag_42 .z ai aj (Y.dm rfl rfl .z (.s16 .g4) ?_))
 obtain ⟨ds, aw, ax⟩ := am (by omega)
 subst aw
 obtain ⟨d2, a4⟩ := get_ex (xs := bx.ents) (j := k) (by omega)
 obtain ⟨cv, a5, a6, a7⟩ := ax.elem a4
 obtain ⟨rfl, b6⟩ := kT_46_ro a5
 refine Y.dk rfl rfl .z (q_indexAddr (j := k) rfl u_42 sz_46 (.t .g1) (.t .z) rfl (by omega)) ?_
 refine Y.df rfl rfl .z .z fa_46_1 (Y.de rfl rfl .z ag_2 .z a6 a7 ?_)
 refine Y.call (goes_sch rfl rfl) rfl (by decide) rfl (c_call rfl Tryz.func18 rfl rfl (args2 (.t .g10) (.t .z))) .n (fun _ _ hs tr => c_18 (tr.ctx ah) _) ?_
 rintro _ _ ⟨rfl, rfl⟩
 refine Y.cat .n ?_
 refine Y.sk .z ?_
 refine Y.dk rfl rfl .z (q_not rfl (.t .z)) (Y.schN ?_)
 refine Y.drawN (by kernel_rfl) ?_
 refine Y.then_ ?_
 refine Y.condN (.t .z) (fun dt => ?_) (fun dt => ?_)
 refine Y.seq (Y.region (Y.ql rfl (q_assign rfl .c) (Y.nt (Y.ret (Y.inBR (Y.thenR (Y.thenR ?_)))))))
 refine Y.inBR (Y.thenR (Y.inBR (Y.thenR (Y.thenR (Y.inBR (Y.thenR ?_))))))
 refine Y.upR (fun l w h => aa _ _ (ab _ _ (ac _ _ (h)))) ?_
 refine Y.doneS (res1 rfl .z) .n ?_
 first | (focus (exact absurd (by assumption) (TB _ _ ag (by assumption)))) | (focus (exact absurd (TC _ _ _ _ ag (by assumption) a4) (by assumption))) | (focus (exact absurd (TD (by assumption) _ _ ag (by assumption)) (by assumption))) | (focus (have T9 := TB _ _ ag; have T8 := fun q => TD q _ _ ag; exfalso; simp_all; done)) | exact ⟨rfl, rfl⟩ | (focus (exfalso; omega)) | (focus (exfalso; simp_all; done)) | (focus (refine ⟨congrArg Value.bool ?_, rfl⟩; simp_all; done)) | (focus (refine ⟨congrArg Value.bool ?_, rfl⟩; simp_all; omega))
 refine Y.skip (Y.inBN (Y.then_ (Y.region (Y.mv rfl (.s16 .g10) ?_))))
 refine Y.ql rfl (q_add (c := ((k + 1 : Nat) : Int)) rfl (.t .z) .c (wr (by omega) (by omega) (by omega))) ?_
 refine Y.er (.s16 .g12) (Y.as rfl .z (Y.nil ?_))
 refine Y.again (k + 1) (by omega) (by first | omega | (dsimp only; omega)) (.c .z (.c (.s16 .g13) (.c (.s16 .g14) (.c (.s16 .g15) (.c (.s16 .g16) .n))))) (fun _ h => h.sel (.c .z (.c .z .n)))
 refine Y.exit (Y.thenE (Y.thenE (Y.inB (Y.then_ (Y.seq (Y.region (Y.ql rfl (qW rfl ag_27 (.t .g16) .g1 sz_27) ?_)))))))
 refine Y.cl rfl rfl Tryz.func17 rfl rfl (args1 (.t .z)) .n (fun _ _ hs tr => c_17 (kT_27_mk af (tr.ctx ad) (tr.ctx ae))) ?_
 rintro _ _ ⟨rfl, rfl⟩
 refine Y.cat .n ?_
 refine Y.ql rfl (q_eql rfl (.t .z) .c) (Y.mv rfl .z ?_)
 refine Y.caseP .z (fun g56 => ?_) (fun g56 => ?_)
 refine Y.qg rfl rfl .z rfl rfl rfl (q_move rfl (.t (.s16 .g1))) ?_
 refine Y.qg rfl rfl .g1 rfl rfl rfl (q_fieldAddr rfl (.t (.s16 .g5)) (fun _ => fa_27_0 _ _)) ?_
 refine Y.qg rfl rfl .g2 rfl rfl rfl (q_load rfl ag_24 (.t .z) (WS.row .g1 rfl)) ?_
 refine Y.qg rfl rfl .g3 rfl rfl rfl (q_move rfl (.t (.s16 .g5))) ?_
 refine Y.qg rfl rfl .g4 rfl rfl rfl (q_indexAddr (j := i) rfl u_24 sz_44 (.t .g1) (.t .z) rfl (by omega)) ?_
 refine Y.qg rfl rfl .g5 rfl rfl rfl (q_fieldAddr rfl (.t .z) (fun _ => fa_44_0 _ _)) ?_
 refine Y.qg rfl rfl .g6 rfl rfl rfl (q_load rfl ag_2 (.t .z) (WS.el ai aj rfl)) ?_
 refine Y.qg rfl rfl .g7 rfl rfl rfl (q_neq rfl (.t .z) .c) ?_
 refine Y.qg rfl rfl .g8 rfl rfl rfl (q_bneq rfl u_4 (.t .g7) (.t .z)) ?_
 refine Y.ql rfl (q_pickT rfl (.t .g9) (.t .z)) (Y.nt ?_)
 refine Y.cond (.t .z) (fun du => ?_) (fun du => ?_)
 refine Y.seq (Y.region (Y.ql rfl (q_assign rfl .c) (Y.nt (Y.ret (Y.inBR (Y.thenR (Y.thenR ?_)))))))
 refine Y.inBR (Y.thenR ?_)
 refine Y.upR (fun l w h => aa _ _ (ab _ _ (ac _ _ (h)))) ?_
 refine Y.doneS (res1 rfl .z) .n ?_
 first | (focus (exact absurd (by assumption) (TB _ _ ag (by assumption)))) | (focus (exact absurd (TD (by assumption) _ _ ag (by assumption)) (by assumption))) | (focus (have T9 := TB _ _ ag; have T8 := fun q => TD q _ _ ag; exfalso; simp_all; done)) | exact ⟨rfl, rfl⟩ | (focus (exfalso; omega)) | (focus (exfalso; simp_all; done)) | (focus (refine ⟨congrArg Value.bool ?_, rfl⟩; simp_all; done)) | (focus (refine ⟨congrArg Value.bool ?_, rfl⟩; simp_all; omega))
 refine Y.skip (Y.inBN (Y.then_ (Y.region (Y.mv rfl (.s16 .g12) ?_))))
 refine Y.ql rfl (q_add (c := ((i + 1 : Nat) : Int)) rfl (.t .z) .c (wr (by omega) (by omega) (by omega))) ?_
 refine Y.er (.s16 .g14) (Y.as rfl .z (Y.nil ?_))
 refine Y.again (i + 1) (by omega) (by first | omega | (dsimp only; omega)) (.c .z (.c (.s16 .g15) (.c (.s16 .g16) .n))) (fun _ h => h.sel (.c .z (.c .z .n)))
 refine Y.skipl rfl rfl .z rfl rfl (by decide) rfl ?_
 refine Y.skipl rfl rfl .g1 rfl rfl (by decide) rfl ?_
 refine Y.skipl rfl rfl .g2 rfl rfl (by decide) rfl ?_
 refine Y.skipl rfl rfl .g3 rfl rfl (by decide) rfl ?_
 refine Y.skipl rfl rfl .g4 rfl rfl (by decide) rfl ?_
 refine Y.skipl rfl rfl .g5 rfl rfl (by decide) rfl ?_
 refine Y.skipl rfl rfl .g6 rfl rfl (by decide) rfl ?_
 refine Y.skipl rfl rfl .g7 rfl rfl (by decide) rfl ?_
 refine Y.skipl rfl rfl .g8 rfl rfl (by decide) rfl ?_
 refine Y.ql rfl (q_pickF rfl (.t .g9) .c) (Y.nt ?_)
 refine Y.condF (.t .z) ?_
 refine Y.skip (Y.inBN (Y.then_ (Y.region (Y.mv rfl (.s16 .g12) ?_))))
 refine Y.ql rfl (q_add (c := ((i + 1 : Nat) : Int)) rfl (.t .z) .c (wr (by omega) (by omega) (by omega))) ?_
 refine Y.er (.s16 .g14) (Y.as rfl .z (Y.nil ?_))
 refine Y.again (i + 1) (by omega) (by first | omega | (dsimp only; omega)) (.c .z (.c (.s16 .g15) (.c (.s16 .g16) .n))) (fun _ h => h.sel (.c .z (.c .z .n)))
 exfalso; first | omega | contradiction
 refine Y.skipl rfl rfl .z rfl rfl (by decide) rfl ?_
 refine Y.skipl rfl rfl .g1 rfl rfl (by decide) rfl ?_
 refine Y.skipl rfl rfl .g2 rfl rfl (by decide) rfl ?_
 refine Y.skipl rfl rfl .g3 rfl rfl (by decide) rfl ?_
 refine Y.skipl rfl rfl .g4 rfl rfl (by decide) rfl ?_
 refine Y.skipl rfl rfl .g5 rfl rfl (by decide) rfl ?_
 refine Y.skipl rfl rfl .g6 rfl rfl (by decide) rfl ?_
 refine Y.ql rfl (q_pickF rfl (.t .g7) .c) (Y.nt ?_)
 refine Y.condF (.t .z) ?_
 refine Y.skip (Y.then_ (Y.seq (Y.seq (Y.region (Y.ql rfl (q_assign rfl .c) (Y.nt (Y.block ?_)))))))
 obtain ⟨b7, ay, az⟩ := (ro_he ad) (by omega)
 subst ay
 obtain ⟨cw, al⟩ := get_ex (xs := af.inodes) (j := i) (by omega)
 obtain ⟨cx, a8, a9, ba⟩ := az.elem al
 obtain ⟨b8, b9, rfl, a0, a1⟩ := kT_44_ro a8
 obtain ⟨ca, cb, rfl, bi, bj, bk, bm⟩ := ro_form a0
 obtain ⟨cc, ce, rfl, bn, bo, bp, bq⟩ := ro_form a1
 refine Y.loopi (γ := Nat) (fun k => [(7, .int .i64 (k : Int)), (6, .bool (decide ((i : Int) ∈ ((reachR af).list)))), (5, .int .i64 (i : Int)), (4, .pointer (some ⟨g36, 0, none⟩)), (3, .pointer (some ⟨g21, 0, none⟩))]) (fun k => [rowA g36 38 2 1 [.int .i64 ((reachR af).code), .slice ao ((reachR af).list).length ap], rowA g21 27 2 1 [.slice (some b7) af.inodes.length br, .slice bs af.data.length bt]]) (fun k => k ≤ cw.ents.length) (fun k => cw.ents.length - k) 0 (Nat.zero_le _) (.c .z (.c .g11 (.c (.s16 .g5) (.c (.s16 .g6) (.c (.s16 .g7) .n))))) (fun _ h => h.sel (.c .z (.c .z .n))) ?_
 rintro k hk
 refine Y.seq (Y.seq (Y.region (Y.mv rfl .g1 (Y.mv rfl .z ?_))))
 refine Y.caseP .z (fun g63 => ?_) (fun g63 => ?_)
 exfalso; first | omega | contradiction
 refine Y.skipl rfl rfl .z rfl rfl (by decide) rfl ?_
 refine Y.skipl rfl rfl .g1 rfl rfl (by decide) rfl ?_
 refine Y.skipl rfl rfl .g2 rfl rfl (by decide) rfl ?_
 refine Y.skipl rfl rfl .g3 rfl rfl (by decide) rfl ?_
 refine Y.skipl rfl rfl .g4 rfl rfl (by decide) rfl ?_
 refine Y.skipl rfl rfl .g5 rfl rfl (by decide) rfl ?_
 refine Y.skipl rfl rfl .g6 rfl rfl (by decide) rfl ?_
 refine Y.skipl rfl rfl .g7 rfl rfl (by decide) rfl ?_
 refine Y.skipl rfl rfl .g8 rfl rfl (by decide) rfl ?_
 refine Y.ql rfl (q_pickF rfl (.t .g9) .c) (Y.nt ?_)
 refine Y.condF (.t .z) ?_
 refine Y.exit (Y.thenE (Y.thenE (Y.inB (Y.then_ (Y.seq (Y.region (Y.ql rfl (qW rfl ag_27 (.t .g16) .g1 sz_27) ?_)))))))
 refine Y.cl rfl rfl Tryz.func17 rfl rfl (args1 (.t .z)) .n (fun _ _ hs tr => c_17 (kT_27_mk af (tr.ctx ad) (tr.ctx ae))) ?_
 rintro _ _ ⟨rfl, rfl⟩
 refine Y.cat .n ?_
 refine Y.ql rfl (q_eql rfl (.t .z) .c) (Y.mv rfl .z ?_)
 refine Y.caseP .z (fun g64 => ?_) (fun g64 => ?_)
 refine Y.qg rfl rfl .z rfl rfl rfl (q_move rfl (.t (.s16 .g1))) ?_
 refine Y.qg rfl rfl .g1 rfl rfl rfl (q_fieldAddr rfl (.t (.s16 .g5)) (fun _ => fa_27_0 _ _)) ?_
 refine Y.qg rfl rfl .g2 rfl rfl rfl (q_load rfl ag_24 (.t .z) (WS.row .g1 rfl)) ?_
 refine Y.qg rfl rfl .g3 rfl rfl rfl (q_move rfl (.t (.s16 .g5))) ?_
 refine Y.qg rfl rfl .g4 rfl rfl rfl (q_indexAddr (j := i) rfl u_24 sz_44 (.t .g1) (.t .z) rfl (by omega)) ?_
 refine Y.qg rfl rfl .g5 rfl rfl rfl (q_fieldAddr rfl (.t .z) (fun _ => fa_44_0 _ _)) ?_
 refine Y.qg rfl rfl .g6 rfl rfl rfl (q_load rfl ag_2 (.t .z) (WS.el a9 ba rfl)) ?_
 refine Y.qg rfl rfl .g7 rfl rfl rfl (q_neq rfl (.t .z) .c) ?_
 refine Y.qg rfl rfl .g8 rfl rfl rfl (q_bneq rfl u_4 (.t .g7) (.t .z)) ?_
 refine Y.ql rfl (q_pickT rfl (.t .g9) (.t .z)) (Y.nt ?_)
 refine Y.cond (.t .z) (fun dv => ?_) (fun dv => ?_)
 refine Y.seq (Y.region (Y.ql rfl (q_assign rfl .c) (Y.nt (Y.ret (Y.inBR (Y.thenR (Y.thenR ?_)))))))
 refine Y.inBR (Y.thenR ?_)
 refine Y.upR (fun l w h => aa _ _ (ab _ _ (ac _ _ (h)))) ?_
 refine Y.doneS (res1 rfl .z) .n ?_
 first | (focus (exact absurd (by assumption) (TB _ _ al (by assumption)))) | (focus (exact absurd (TD (by assumption) _ _ al (by assumption)) (by assumption))) | (focus (have T9 := TB _ _ al; have T8 := fun q => TD q _ _ al; exfalso; simp_all; done)) | exact ⟨rfl, rfl⟩ | (focus (exfalso; omega)) | (focus (exfalso; simp_all; done)) | (focus (refine ⟨congrArg Value.bool ?_, rfl⟩; simp_all; done)) | (focus (refine ⟨congrArg Value.bool ?_, rfl⟩; simp_all; omega))
 refine Y.skip (Y.inBN (Y.then_ (Y.region (Y.mv rfl (.s16 .g12) ?_))))
 refine Y.ql rfl (q_add (c := ((i + 1 : Nat) : Int)) rfl (.t .z) .c (wr (by omega) (by omega) (by omega))) ?_
 refine Y.er (.s16 .g14) (Y.as rfl .z (Y.nil ?_))
 refine Y.again (i + 1) (by omega) (by first | omega | (dsimp only; omega)) (.c .z (.c (.s16 .g15) (.c (.s16 .g16) .n))) (fun _ h => h.sel (.c .z (.c .z .n)))
 refine Y.skipl rfl rfl .z rfl rfl (by decide) rfl ?_
 refine Y.skipl rfl rfl .g1 rfl rfl (by decide) rfl ?_
 refine Y.skipl rfl rfl .g2 rfl rfl (by decide) rfl ?_
 refine Y.skipl rfl rfl .g3 rfl rfl (by decide) rfl ?_
 refine Y.skipl rfl rfl .g4 rfl rfl (by decide) rfl ?_
 refine Y.skipl rfl rfl .g5 rfl rfl (by decide) rfl ?_
 refine Y.skipl rfl rfl .g6 rfl rfl (by decide) rfl ?_
 refine Y.skipl rfl rfl .g7 rfl rfl (by decide) rfl ?_
 refine Y.skipl rfl rfl .g8 rfl rfl (by decide) rfl ?_
 refine Y.ql rfl (q_pickF rfl (.t .g9) .c) (Y.nt ?_)
 refine Y.condF (.t .z) ?_
 refine Y.skip (Y.inBN (Y.then_ (Y.region (Y.mv rfl (.s16 .g12) ?_))))
 refine Y.ql rfl (q_add (c := ((i + 1 : Nat) : Int)) rfl (.t .z) .c (wr (by omega) (by omega) (by omega))) ?_
 refine Y.er (.s16 .g14) (Y.as rfl .z (Y.nil ?_))
 refine Y.again (i + 1) (by omega) (by first | omega | (dsimp only; omega)) (.c .z (.c (.s16 .g15) (.c (.s16 .g16) .n))) (fun _ h => h.sel (.c .z (.c .z .n)))
 refine Y.exit (Y.thenE (Y.thenE (Y.inB (Y.then_ (Y.seq (Y.region ?_))))))
 refine Y.cl rfl rfl Tryz.func19 rfl rfl (args1 .c) .n (fun _ _ hs tr => c_19 ro_nil) ?_
 rintro _ _ ⟨d3, d4, rfl, rfl⟩
 refine Y.cat (.c (.c .n)) ?_
 refine Y.know (WS.oform .z) ?_
 rintro ⟨cf, cg, rfl, cy, cz, c1⟩
 refine Y.know (WS.oform .g1) ?_
 rintro ⟨ch, ci, rfl, c2, c3, c4⟩
 refine Y.el rfl (e_alloc rfl z_48 rfl rfl) ?_
 rintro _ _ ⟨g72, rfl, rfl⟩
 refine Y.es (goes_list rfl) rfl (esW rfl (.t .z) (.t .g1) .z sz_48 rfl rfl) ?_
 refine Y.nt (Y.seq ?_)
 refine Y.sel (.c .g1 (.c .g1 (.c .z (.c .z (.c .z .n))))) ?_
 refine Y.dr .g2 34 mixo ?_
 refine Y.sc [(0, true), (2, true), (1, false), (3, false), (4, true), (5, true)] (by kernel_rfl) ?_
 refine Y.dk rfl rfl .g2 (qW rfl ag_27 (.t .g9) .g2 sz_27) (Y.dk rfl rfl .g2 (qW rfl ag_27 (.t .g10) .g2 sz_27) ?_)
 refine Y.call (goes_sch rfl rfl) rfl (by decide) rfl (c_call rfl Tryz.func17 rfl rfl (args1 (.t .g1))) .n (fun _ _ hs tr => c_17 (kT_27_mk af (tr.ctx ad) (tr.ctx ae))) ?_
 rintro _ _ ⟨rfl, rfl⟩
 refine Y.cat .n ?_
 refine Y.sk .g2 ?_
 refine Y.call (goes_sch rfl rfl) rfl (by decide) rfl (c_call rfl Tryz.func20 rfl rfl (args1 (.t .g1))) .n (fun _ _ hs tr => c_20 (kT_27_mk af (tr.ctx ad) (tr.ctx ae))) ?_
 rintro _ _ ⟨rfl, rfl⟩
 refine Y.cat .n ?_
 refine Y.sk .g2 ?_
 refine Y.dk rfl rfl .g2 (q_eql rfl (.t .g1) (.t .z)) (Y.dm rfl rfl .g2 .z (Y.schN ?_))
 refine Y.caseP .z (fun g73 => ?_) (fun g73 => ?_)
 refine Y.sc [(6, true), (7, true), (8, false), (9, true), (10, true)] (by kernel_rfl) ?_
 refine Y.dqg rfl rfl rfl .z rfl (by decide) rfl .g2 (q_fieldAddr rfl (.t .g14) (fun _ => fa_38_1 _ _)) ?_
 refine Y.dqg rfl rfl rfl .g1 rfl (by decide) rfl .g2 (q_load rfl ag_36 (.t .z) (WS.row .g1 rfl)) ?_
 refine Y.call (goes_schg rfl rfl rfl .g2) rfl (by decide) rfl (c_call rfl Tryz.func18 rfl rfl (args2 (.t .z) .c)) .n (fun _ _ hs tr => c_18 (tr.ctx ah) _) ?_
 rintro _ _ ⟨rfl, rfl⟩
 refine Y.cat .n ?_
 refine Y.sk .g2 ?_
 refine Y.dk rfl rfl .g2 (q_pickT rfl (.t .g3) (.t .z)) (Y.dm rfl rfl .g2 .z (Y.schN ?_))
 refine Y.caseP .z (fun g74 => ?_) (fun g74 => ?_)
 refine Y.sc (qs 11 5) (by kernel_rfl) ?_
 refine Y.dqg rfl rfl rfl .z rfl (by decide) rfl .g2 (q_fieldAddr rfl (.t .g11) (fun _ => fa_48_0 _ _)) ?_
 refine Y.dqg rfl rfl rfl .g1 rfl (by decide) rfl .g2 (q_load rfl ag_2 (.t .z) (WS.row .z rfl)) ?_
 refine Y.dqg rfl rfl rfl .g2 rfl (by decide) rfl .g2 (q_eql rfl (.t .z) .c) ?_
 refine Y.dk rfl rfl .g2 (q_pickT rfl (.t .g3) (.t .z)) (Y.dm rfl rfl .g2 .z (Y.schN ?_))
 refine Y.caseP .z (fun g75 => ?_) (fun g75 => ?_)
 refine Y.sc ([(16, true), (17, true), (18, false)] ++ qs 19 3) (by kernel_rfl) ?_
 refine Y.dqg rfl rfl rfl .z rfl (by decide) rfl .g2 (q_fieldAddr rfl (.t .g16) (fun _ => fa_48_1 _ _)) ?_
 refine Y.dqg rfl rfl rfl .g1 rfl (by decide) rfl .g2 (q_loadA (cs := [.slice cf ((newR ([])).fs.inodes).length cg, .slice ch ((newR ([])).fs.data).length ci]) rfl ag_27 sz_27 (.t .z) (WS.rows .z (sub_at rfl))) ?_
 refine Y.call (goes_schg rfl rfl rfl .g2) rfl (by decide) rfl (c_call rfl Tryz.func17 rfl rfl (args1 (.t .z))) .n (fun _ _ hs tr => c_17 (kT_27_mk ((newR ([])).fs) (tr.own .z) (tr.own .g1))) ?_
 rintro _ _ ⟨rfl, rfl⟩
 refine Y.cat .n ?_
 refine Y.sk .g2 ?_
 refine Y.dqg rfl rfl rfl .g3 rfl (by decide) rfl .g2 (q_eql rfl (.t .z) .c) ?_
 refine Y.dk rfl rfl .g2 (q_pickT rfl (.t .g4) (.t .z)) (Y.dm rfl rfl .g2 .z (Y.schN ?_))
 refine Y.caseP .z (fun g76 => ?_) (fun g76 => ?_)
 refine Y.sc [(22, true), (23, true), (24, false), (25, true), (26, true)] (by kernel_rfl) ?_
 refine Y.dqg rfl rfl rfl .z rfl (by decide) rfl .g2 (qW rfl ag_27 (.t (.s16 .g15)) .g2 sz_27) ?_
 refine Y.dqg rfl rfl rfl .g1 rfl (by decide) rfl .g2 (qW rfl ag_27 (.t (.s16 .g16)) .g2 sz_27) ?_
 refine Y.call (goes_schg rfl rfl rfl .g2) rfl (by decide) rfl (c_call rfl Tryz.func21 rfl rfl (args2 (.t .g1) (.t .z))) .n (fun _ _ hs tr => c_21 (kT_27_mk af (tr.ctx ad) (tr.ctx ae)) (kT_27_mk af (tr.ctx ad) (tr.ctx ae))) ?_
 rintro _ _ ⟨rfl, rfl⟩
 refine Y.cat .n ?_
 refine Y.sk .g2 ?_
 refine Y.dk rfl rfl .g2 (q_pickT rfl (.t .g3) (.t .z)) (Y.dm rfl rfl .g2 .z (Y.schN ?_))
 refine Y.caseP .z (fun g77 => ?_) (fun g77 => ?_)
 refine Y.sc (qs 27 3 ++ [(30, false), (31, true), (32, false), (33, true), (34, false)]) (by kernel_rfl) ?_
 refine Y.dqg rfl rfl rfl .z rfl (by decide) rfl .g2 (q_fieldAddr rfl (.t (.s16 (.s16 .g3))) (fun _ => fa_38_1 _ _)) ?_
 refine Y.dqg rfl rfl rfl .g1 rfl (by decide) rfl .g2 (q_load rfl ag_36 (.t .z) (WS.row .g1 rfl)) ?_
 refine Y.dqg rfl rfl rfl .g2 rfl (by decide) rfl .g2 (qW rfl ag_27 (.t (.s16 (.s16 .g6))) .g2 sz_27) ?_
 refine Y.call (goes_schg rfl rfl rfl .g3) rfl (by decide) rfl (c_call rfl Tryz.func16 rfl rfl (args1 (.t .z))) .n (fun _ _ hs tr => c_16 (kT_27_mk af (tr.ctx ad) (tr.ctx ae))) ?_
 rintro _ _ ⟨d5, rfl, rfl⟩
 refine Y.cat (.c .n) ?_
 refine Y.know (WS.oform .z) ?_
 rintro ⟨cj, ck, rfl, c5, c6, c7⟩
 refine Y.sk .g3 ?_
 refine Y.dqg rfl rfl rfl .g4 rfl (by decide) rfl .g3 (q_field rfl (.t .z) (fun w => fv_38_1 w (.int .i64 ((reachR af).code)) (.slice cj ((reachR af).list).length ck))) ?_
 refine Y.call (goes_schg rfl rfl rfl .g5) rfl (by decide) rfl (c_call rfl Tryz.func22 rfl rfl (args2 (.t .g3) (.t .z))) .n (fun _ _ hs tr => c_22 (tr.ctx ah) (tr.own .z)) ?_
 rintro _ _ ⟨rfl, rfl⟩
 refine Y.cat .n ?_
 refine Y.sk .g3 ?_
 refine Y.dk rfl rfl .g3 (q_pickT rfl (.t .g6) (.t .z)) ?_
 refine Y.q (goes_sch rfl rfl) rfl (by decide) rfl (q_assign rfl (.t .z)) ?_
 refine Y.sl rfl ?_
 refine Y.schN ?_
 refine Y.drawN (by kernel_rfl) ?_
 refine Y.then_ (Y.ret ?_)
 refine Y.upR (fun l w h => aa _ _ (ab _ _ (ac _ _ (h)))) ?_
 refine Y.doneS (res1 rfl .z) .n ?_
 first | exact ⟨rfl, rfl⟩ | (focus (exfalso; omega)) | (focus (exfalso; simp_all; done)) | (focus (refine ⟨congrArg Value.bool ?_, rfl⟩; simp_all; done)) | (focus (refine ⟨congrArg Value.bool ?_, rfl⟩; simp_all; omega))
 refine Y.sc (qs 27 7 ++ [(34, false)]) (by kernel_rfl) ?_
 refine Y.dskip rfl rfl rfl .z rfl rfl (by decide) rfl .g2 ?_
 refine Y.dskip rfl rfl rfl .g1 rfl rfl (by decide) rfl .g2 ?_
 refine Y.dskip rfl rfl rfl .g2 rfl rfl (by decide) rfl .g2 ?_
 refine Y.dskip rfl rfl rfl .g3 rfl rfl (by decide) rfl .g2 ?_
 refine Y.dskip rfl rfl rfl .g4 rfl rfl (by decide) rfl .g2 ?_
 refine Y.dskip rfl rfl rfl .g5 rfl rfl (by decide) rfl .g2 ?_
 refine Y.dk rfl rfl .g2 (q_pickF rfl (.t .g6) .c) ?_
 refine Y.q (goes_sch rfl rfl) rfl (by decide) rfl (q_assign rfl (.t .z)) ?_
 refine Y.sl rfl ?_
 refine Y.schN ?_
 refine Y.drawN (by kernel_rfl) ?_
 refine Y.then_ (Y.ret ?_)
 refine Y.upR (fun l w h => aa _ _ (ab _ _ (ac _ _ (h)))) ?_
 refine Y.doneS (res1 rfl .z) .n ?_
 first | exact ⟨rfl, rfl⟩ | (focus (exfalso; omega)) | (focus (exfalso; simp_all; done)) | (focus (refine ⟨congrArg Value.bool ?_, rfl⟩; simp_all; done)) | (focus (refine ⟨congrArg Value.bool ?_, rfl⟩; simp_all; omega))
 refine Y.sc (qs 22 12 ++ [(34, false)]) (by kernel_rfl) ?_
 refine Y.dskip rfl rfl rfl .z rfl rfl (by decide) rfl .g2 ?_
 refine Y.dskip rfl rfl rfl .g1 rfl rfl (by decide) rfl .g2 ?_
 refine Y.dskip rfl rfl rfl .g2 rfl rfl (by decide) rfl .g2 ?_
 refine Y.dk rfl rfl .g2 (q_pickF rfl (.t .g3) .c) (Y.dm rfl rfl .g2 .z ?_)
 refine Y.dskip rfl rfl rfl .z rfl rfl (by decide) rfl .g2 ?_
 refine Y.dskip rfl rfl rfl .g1 rfl rfl (by decide) rfl .g2 ?_
 refine Y.dskip rfl rfl rfl .g2 rfl rfl (by decide) rfl .g2 ?_
 refine Y.dskip rfl rfl rfl .g3 rfl rfl (by decide) rfl .g2 ?_
 refine Y.dskip rfl rfl rfl .g4 rfl rfl (by decide) rfl .g2 ?_
 refine Y.dskip rfl rfl rfl .g5 rfl rfl (by decide) rfl .g2 ?_
 refine Y.dk rfl rfl .g2 (q_pickF rfl (.t .g6) .c) ?_
 refine Y.q (goes_sch rfl rfl) rfl (by decide) rfl (q_assign rfl (.t .z)) ?_
 refine Y.sl rfl ?_
 refine Y.schN ?_
 refine Y.drawN (by kernel_rfl) ?_
 refine Y.then_ (Y.ret ?_)
 refine Y.upR (fun l w h => aa _ _ (ab _ _ (ac _ _ (h)))) ?_
 refine Y.doneS (res1 rfl .z) .n ?_
 first | exact ⟨rfl, rfl⟩ | (focus (exfalso; omega)) | (focus (exfalso; simp_all; done)) | (focus (refine ⟨congrArg Value.bool ?_, rfl⟩; simp_all; done)) | (focus (refine ⟨congrArg Value.bool ?_, rfl⟩; simp_all; omega))
 refine Y.sc (qs 16 18 ++ [(34, false)]) (by kernel_rfl) ?_
 refine Y.dskip rfl rfl rfl .z rfl rfl (by decide) rfl .g2 ?_
 refine Y.dskip rfl rfl rfl .g1 rfl rfl (by decide) rfl .g2 ?_
 refine Y.dskip rfl rfl rfl .g2 rfl rfl (by decide) rfl .g2 ?_
 refine Y.dskip rfl rfl rfl .g3 rfl rfl (by decide) rfl .g2 ?_
 refine Y.dk rfl rfl .g2 (q_pickF rfl (.t .g4) .c) (Y.dm rfl rfl .g2 .z ?_)
 refine Y.dskip rfl rfl rfl .z rfl rfl (by decide) rfl .g2 ?_
 refine Y.dskip rfl rfl rfl .g1 rfl rfl (by decide) rfl .g2 ?_
 refine Y.dskip rfl rfl rfl .g2 rfl rfl (by decide) rfl .g2 ?_
 refine Y.dk rfl rfl .g2 (q_pickF rfl (.t .g3) .c) (Y.dm rfl rfl .g2 .z ?_)
 refine Y.dskip rfl rfl rfl .z rfl rfl (by decide) rfl .g2 ?_
 refine Y.dskip rfl rfl rfl .g1 rfl rfl (by decide) rfl .g2 ?_
 refine Y.dskip rfl rfl rfl .g2 rfl rfl (by decide) rfl .g2 ?_
 refine Y.dskip rfl rfl rfl .g3 rfl rfl (by decide) rfl .g2 ?_
 refine Y.dskip rfl rfl rfl .g4 rfl rfl (by decide) rfl .g2 ?_
 refine Y.dskip rfl rfl rfl .g5 rfl rfl (by decide) rfl .g2 ?_
 refine Y.dk rfl rfl .g2 (q_pickF rfl (.t .g6) .c) ?_
 refine Y.q (goes_sch rfl rfl) rfl (by decide) rfl (q_assign rfl (.t .z)) ?_
 refine Y.sl rfl ?_
 refine Y.schN ?_
 refine Y.drawN (by kernel_rfl) ?_
 refine Y.then_ (Y.ret ?_)
 refine Y.upR (fun l w h => aa _ _ (ab _ _ (ac _ _ (h)))) ?_
 refine Y.doneS (res1 rfl .z) .n ?_
 first | exact ⟨rfl, rfl⟩ | (focus (exfalso; omega)) | (focus (exfalso; simp_all; done)) | (focus (refine ⟨congrArg Value.bool ?_, rfl⟩; simp_all; done)) | (focus (refine ⟨congrArg Value.bool ?_, rfl⟩; simp_all; omega))
 refine Y.sc (qs 11 23 ++ [(34, false)]) (by kernel_rfl) ?_
 refine Y.dskip rfl rfl rfl .z rfl rfl (by decide) rfl .g2 ?_
 refine Y.dskip rfl rfl rfl .g1 rfl rfl (by decide) rfl .g2 ?_
 refine Y.dskip rfl rfl rfl .g2 rfl rfl (by decide) rfl .g2 ?_
 refine Y.dk rfl rfl .g2 (q_pickF rfl (.t .g3) .c) (Y.dm rfl rfl .g2 .z ?_)
 refine Y.dskip rfl rfl rfl .z rfl rfl (by decide) rfl .g2 ?_
 refine Y.dskip rfl rfl rfl .g1 rfl rfl (by decide) rfl .g2 ?_
 refine Y.dskip rfl rfl rfl .g2 rfl rfl (by decide) rfl .g2 ?_
 refine Y.dskip rfl rfl rfl .g3 rfl rfl (by decide) rfl .g2 ?_
 refine Y.dk rfl rfl .g2 (q_pickF rfl (.t .g4) .c) (Y.dm rfl rfl .g2 .z ?_)
 refine Y.dskip rfl rfl rfl .z rfl rfl (by decide) rfl .g2 ?_
 refine Y.dskip rfl rfl rfl .g1 rfl rfl (by decide) rfl .g2 ?_
 refine Y.dskip rfl rfl rfl .g2 rfl rfl (by decide) rfl .g2 ?_
 refine Y.dk rfl rfl .g2 (q_pickF rfl (.t .g3) .c) (Y.dm rfl rfl .g2 .z ?_)
 refine Y.dskip rfl rfl rfl .z rfl rfl (by decide) rfl .g2 ?_
 refine Y.dskip rfl rfl rfl .g1 rfl rfl (by decide) rfl .g2 ?_
 refine Y.dskip rfl rfl rfl .g2 rfl rfl (by decide) rfl .g2 ?_
 refine Y.dskip rfl rfl rfl .g3 rfl rfl (by decide) rfl .g2 ?_
 refine Y.dskip rfl rfl rfl .g4 rfl rfl (by decide) rfl .g2 ?_
 refine Y.dskip rfl rfl rfl .g5 rfl rfl (by decide) rfl .g2 ?_
 refine Y.dk rfl rfl .g2 (q_pickF rfl (.t .g6) .c) ?_
 refine Y.q (goes_sch rfl rfl) rfl (by decide) rfl (q_assign rfl (.t .z)) ?_
 refine Y.sl rfl ?_
 refine Y.schN ?_
 refine Y.drawN (by kernel_rfl) ?_
 refine Y.then_ (Y.ret ?_)
 refine Y.upR (fun l w h => aa _ _ (ab _ _ (ac _ _ (h)))) ?_
 refine Y.doneS (res1 rfl .z) .n ?_
 first | exact ⟨rfl, rfl⟩ | (focus (exfalso; omega)) | (focus (exfalso; simp_all; done)) | (focus (refine ⟨congrArg Value.bool ?_, rfl⟩; simp_all; done)) | (focus (refine ⟨congrArg Value.bool ?_, rfl⟩; simp_all; omega))
 refine Y.sc (qs 6 28 ++ [(34, false)]) (by kernel_rfl) ?_
 refine Y.dskip rfl rfl rfl .z rfl rfl (by decide) rfl .g2 ?_
 refine Y.dskip rfl rfl rfl .g1 rfl rfl (by decide) rfl .g2 ?_
 refine Y.dskip rfl rfl rfl .g2 rfl rfl (by decide) rfl .g2 ?_
 refine Y.dk rfl rfl .g2 (q_pickF rfl (.t .g3) .c) (Y.dm rfl rfl .g2 .z ?_)
 refine Y.dskip rfl rfl rfl .z rfl rfl (by decide) rfl .g2 ?_
 refine Y.dskip rfl rfl rfl .g1 rfl rfl (by decide) rfl .g2 ?_
 refine Y.dskip rfl rfl rfl .g2 rfl rfl (by decide) rfl .g2 ?_
 refine Y.dk rfl rfl .g2 (q_pickF rfl (.t .g3) .c) (Y.dm rfl rfl .g2 .z ?_)
 refine Y.dskip rfl rfl rfl .z rfl rfl (by decide) rfl .g2 ?_
 refine Y.dskip rfl rfl rfl .g1 rfl rfl (by decide) rfl .g2 ?_
 refine Y.dskip rfl rfl rfl .g2 rfl rfl (by decide) rfl .g2 ?_
 refine Y.dskip rfl rfl rfl .g3 rfl rfl (by decide) rfl .g2 ?_
 refine Y.dk rfl rfl .g2 (q_pickF rfl (.t .g4) .c) (Y.dm rfl rfl .g2 .z ?_)
 refine Y.dskip rfl rfl rfl .z rfl rfl (by decide) rfl .g2 ?_
 refine Y.dskip rfl rfl rfl .g1 rfl rfl (by decide) rfl .g2 ?_
 refine Y.dskip rfl rfl rfl .g2 rfl rfl (by decide) rfl .g2 ?_
 refine Y.dk rfl rfl .g2 (q_pickF rfl (.t .g3) .c) (Y.dm rfl rfl .g2 .z ?_)
 refine Y.dskip rfl rfl rfl .z rfl rfl (by decide) rfl .g2 ?_
 refine Y.dskip rfl rfl rfl .g1 rfl rfl (by decide) rfl .g2 ?_
 refine Y.dskip rfl rfl rfl .g2 rfl rfl (by decide) rfl .g2 ?_
 refine Y.dskip rfl rfl rfl .g3 rfl rfl (by decide) rfl .g2 ?_
 refine Y.dskip rfl rfl rfl .g4 rfl rfl (by decide) rfl .g2 ?_
 refine Y.dskip rfl rfl rfl .g5 rfl rfl (by decide) rfl .g2 ?_
 refine Y.dk rfl rfl .g2 (q_pickF rfl (.t .g6) .c) ?_
 refine Y.q (goes_sch rfl rfl) rfl (by decide) rfl (q_assign rfl (.t .z)) ?_
 refine Y.sl rfl ?_
 refine Y.schN ?_
 refine Y.drawN (by kernel_rfl) ?_
 refine Y.then_ (Y.ret ?_)
 refine Y.upR (fun l w h => aa _ _ (ab _ _ (ac _ _ (h)))) ?_
 refine Y.doneS (res1 rfl .z) .n ?_
 first | exact ⟨rfl, rfl⟩ | (focus (exfalso; omega)) | (focus (exfalso; simp_all; done)) | (focus (refine ⟨congrArg Value.bool ?_, rfl⟩; simp_all; done)) | (focus (refine ⟨congrArg Value.bool ?_, rfl⟩; simp_all; omega))

end Go.Proofs.YtmejbfmhaoilmaaGreat

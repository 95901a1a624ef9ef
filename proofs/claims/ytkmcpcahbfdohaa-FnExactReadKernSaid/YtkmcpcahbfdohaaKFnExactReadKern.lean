/- What is proved: contracts of functions, one a function. No condition. -/
import Derived.Test.YtkmcpcahbfdohaaW32
import Derived.Test.YtkmcpcahbfdohaaBase1
namespace Go.Proofs.Ytkmcpcahbfdohaa
open Go Go.RowKit
set_option linter.unusedVariables false
set_option linter.unusedSimpArgs false
set_option maxHeartbeats 1000000 in
set_option maxRecDepth 20000 in
theorem c_17 {w0 : World} {S0 : Bs} {x : DKern} {cs0 : List Value} (h0 : kT_69.ro w0 (FF w0 S0) x cs0) (a : Int) (b : Int)  :
    Calls Try.prog 17 #[.agg cs0.toArray, .int .i64 a, .int .i64 b] w0 (TriPost w0 S0 (fun r l => r = .bool true ∧ l = [])) := by
 obtain ⟨u0_0, u0_1, u0_2, rfl, h0_0, h0_1, h0_2⟩ := kT_69_ro h0
 obtain ⟨A0_0, c0_0, rfl, hl0_0, hm0_0, hb0_0, he0_0⟩ := ro_form h0_0
 obtain ⟨A0_1, c0_1, rfl, hl0_1, hm0_1, hb0_1, he0_1⟩ := ro_form h0_1
 obtain ⟨A0_2, c0_2, rfl, hl0_2, hm0_2, hb0_2, he0_2⟩ := ro_form h0_2
 have hb := readKern_cnt x a b
 have hw := kern_cnt_wt x
 refine FJ.enter (N := 79) Try.func17 rfl rfl (by simp) [(0, .agg #[.slice A0_0 x.disk.blocks.length c0_0, .slice A0_1 x.disk.cache.length c0_1, .slice A0_2 x.exts.length c0_2]), (1, .int .i64 a), (2, .int .i64 b)] (by simp) (l0 := []) trivial ?_
 refine FJ.seq (FJ.region ?_)
 refine FJ.e (goes_list rfl) rfl (by decide) rfl (e_box (cs := [.slice A0_0 x.disk.blocks.length c0_0, .slice A0_1 x.disk.cache.length c0_1, .slice A0_2 x.exts.length c0_2]) (n := 3) rfl (.t .z) rfl rfl) ?_
 rintro _ _ ⟨g4, rfl, rfl⟩
 refine FJ.ql rfl (q_assign rfl .c) (FJ.nil (FJ.then_ (FJ.seq (FJ.region ?_))))
 refine FJ.ql rfl (q_assign rfl .c) (FJ.nil (FJ.then_ (FJ.seq (FJ.region ?_))))
 refine FJ.ql rfl (q_loadA (cs := [.slice A0_0 x.disk.blocks.length c0_0, .slice A0_1 x.disk.cache.length c0_1, .slice A0_2 x.exts.length c0_2]) rfl ag_69 sz_69 (.t (.s (.s .z))) (WS.rows0 .z (fun i u h => by exact h))) ?_
 refine FJ.ql rfl (q_move rfl (.t (.s .z))) ?_
 refine FJ.call (goes_list rfl) rfl (by decide) rfl (c_call rfl Try.func47 rfl rfl (args2 (.t (.s .z)) (.t .z))) .n (fun w1 S1 hs tr => c_47 (kT_69_mk x (tr.ctx h0_0) (tr.ctx h0_1) (tr.ctx h0_2)) _ (by omega) (by omega)) ?_
 rintro _ _ ⟨c5, rfl, hc5, wc5, rfl⟩
 refine FJ.cat .n ?_
 refine FJ.er (.s (.s (.s .z))) (FJ.ql rfl (q_assign rfl (.t .z)) (FJ.nil (FJ.then_ (FJ.seq ?_))))
 refine FJ.seq (FJ.region (FJ.ql rfl (q_move rfl (.t .z)) (FJ.ql rfl (q_lss rfl (.t .z) .c) (FJ.nil ?_))))
 refine FJ.then_ ?_
 refine FJ.condP (.t .z) (fun b6 => ?_) (fun b6 => ?_)
 refine FJ.seq (FJ.region (FJ.er (.s4 (.s (.s .z))) (FJ.ql rfl (q_assign rfl .c) (FJ.nil ?_))))
 refine FJ.then_ (FJ.ret (FJ.thenR ?_))
 refine FJ.doneS (res1 rfl .z) .n ?_
 exact ⟨rfl, rfl⟩
 refine FJ.skip (FJ.then_ (FJ.seq (FJ.region ?_)))
 refine FJ.ql rfl (q_loadA (cs := [.slice A0_0 x.disk.blocks.length c0_0, .slice A0_1 x.disk.cache.length c0_1, .slice A0_2 x.exts.length c0_2]) rfl ag_69 sz_69 (.t (.s4 (.s (.s (.s .z))))) (WS.rows0 .z (fun i u h => by exact h))) ?_
 refine FJ.call (goes_list rfl) rfl (by decide) rfl (c_call rfl Try.func49 rfl rfl (args1 (.t .z))) .n (fun w1 S1 hs tr => c_49 (kT_69_mk x (tr.ctx h0_0) (tr.ctx h0_1) (tr.ctx h0_2))) ?_
 rintro _ _ ⟨v7, v9, v11, rfl, rfl⟩
 refine FJ.cat (.c (.c (.c .n))) ?_
 refine FJ.know (WS.oform .z) ?_
 rintro ⟨Ao13, co13, rfl, hlo13, hmo13, hbo13⟩
 refine FJ.know (WS.oform (.s .z)) ?_
 rintro ⟨Ao14, co14, rfl, hlo14, hmo14, hbo14⟩
 refine FJ.know (WS.oform (.s (.s .z))) ?_
 rintro ⟨Ao15, co15, rfl, hlo15, hmo15, hbo15⟩
 refine FJ.ql rfl (q_move rfl (.t (.s4 (.s4 (.s (.s (.s .z))))))) (FJ.ql rfl (q_move rfl (.t (.s4 (.s4 (.s4 (.s .z)))))) ?_)
 refine FJ.call (goes_list rfl) rfl (by decide) rfl (c_call rfl Try.func76 rfl rfl (args3 (.t (.s (.s .z))) (.t (.s .z)) (.t .z))) .n (fun w1 S1 hs tr => c_76 (kT_43_mk x (tr.own .z) (tr.own (.s .z)) (tr.own (.s (.s .z)))) _ _) ?_
 rintro _ _ ⟨v16, v18, v20, v22, rfl, rfl⟩
 refine FJ.cat (.c (.c (.c (.c .n)))) ?_
 refine FJ.know (WS.oform .z) ?_
 rintro ⟨Ao24, co24, rfl, hlo24, hmo24, hbo24⟩
 refine FJ.know (WS.oform (.s .z)) ?_
 rintro ⟨Ao25, co25, rfl, hlo25, hmo25, hbo25⟩
 refine FJ.know (WS.oform (.s (.s .z))) ?_
 rintro ⟨Ao26, co26, rfl, hlo26, hmo26, hbo26⟩
 refine FJ.know (WS.oform (.s (.s (.s .z)))) ?_
 rintro ⟨Ao27, co27, rfl, hlo27, hmo27, hbo27⟩
 refine FJ.e (goes_list rfl) rfl (by decide) rfl (e_alloc rfl z_45 rfl rfl) ?_
 rintro _ _ ⟨g28, rfl, rfl⟩
 refine FJ.es (goes_list rfl) rfl (es_store (off := 0) (cs := [.int .i64 ((readKern x a b).code), .slice Ao24 ((readKern x a b).words).length co24, .slice Ao25 ((readKern x a b).kern.disk.blocks).length co25, .slice Ao26 ((readKern x a b).kern.disk.cache).length co26, .slice Ao27 ((readKern x a b).kern.exts).length co27]) rfl sz_45 (.t .z) (.t (.s .z)) rfl (ones rfl) .z (Nat.le_of_ble_eq_true rfl) (.c .z (.c (.s .z) (.c (.s (.s .z)) (.c (.s (.s (.s .z))) (.c (.s (.s (.s (.s .z)))) .n)))))) ?_
 refine FJ.nil (FJ.then_ (FJ.seq (FJ.region ?_)))
 refine FJ.ql rfl (q_loadA (cs := [.slice A0_0 x.disk.blocks.length c0_0, .slice A0_1 x.disk.cache.length c0_1, .slice A0_2 x.exts.length c0_2]) rfl ag_69 sz_69 (.t (.s4 (.s4 (.s4 (.s .z))))) (WS.rows0 (.s4 (.s4 .z)) (fun i u h => by exact h))) ?_
 refine FJ.call (goes_list rfl) rfl (by decide) rfl (c_call rfl Try.func49 rfl rfl (args1 (.t .z))) .n (fun w1 S1 hs tr => c_49 (kT_69_mk x (tr.ctx h0_0) (tr.ctx h0_1) (tr.ctx h0_2))) ?_
 rintro _ _ ⟨v29, v31, v33, rfl, rfl⟩
 refine FJ.cat (.c (.c (.c .n))) ?_
 refine FJ.know (WS.oform .z) ?_
 rintro ⟨Ao35, co35, rfl, hlo35, hmo35, hbo35⟩
 refine FJ.know (WS.oform (.s .z)) ?_
 rintro ⟨Ao36, co36, rfl, hlo36, hmo36, hbo36⟩
 refine FJ.know (WS.oform (.s (.s .z))) ?_
 rintro ⟨Ao37, co37, rfl, hlo37, hmo37, hbo37⟩
 refine FJ.e (goes_list rfl) rfl (by decide) rfl (e_alloc rfl z_43 rfl rfl) ?_
 rintro _ _ ⟨g38, rfl, rfl⟩
 refine FJ.es (goes_list rfl) rfl (es_store (off := 0) (cs := [.slice Ao35 x.disk.blocks.length co35, .slice Ao36 x.disk.cache.length co36, .slice Ao37 x.exts.length co37]) rfl sz_43 (.t .z) (.t (.s .z)) rfl (ones rfl) .z (Nat.le_of_ble_eq_true rfl) (.c .z (.c (.s .z) (.c (.s (.s .z)) .n)))) ?_
 refine FJ.nil (FJ.then_ (FJ.seq (FJ.region ?_)))
 refine FJ.ql rfl (q_loadA (cs := [.slice Ao35 x.disk.blocks.length co35, .slice Ao36 x.disk.cache.length co36, .slice Ao37 x.exts.length co37]) rfl ag_43 sz_43 (.t .z) (WS.rows0 .z (fun i u h => by exact h))) ?_
 refine FJ.ql rfl (q_move rfl (.t (.s16 (.s (.s (.s .z)))))) (FJ.ql rfl (q_move rfl (.t (.s16 (.s4 (.s .z))))) ?_)
 refine FJ.call (goes_list rfl) rfl (by decide) rfl (c_call rfl Try.func70 rfl rfl (args3 (.t (.s (.s .z))) (.t (.s .z)) (.t .z))) .n (fun w1 S1 hs tr => c_70 (kT_43_mk x (tr.own (.s .z)) (tr.own (.s (.s .z))) (tr.own (.s (.s (.s .z))))) _ _) ?_
 rintro _ _ ⟨v39, v41, v43, v45, rfl, rfl⟩
 refine FJ.cat (.c (.c (.c (.c .n)))) ?_
 refine FJ.know (WS.oform .z) ?_
 rintro ⟨Ao47, co47, rfl, hlo47, hmo47, hbo47⟩
 refine FJ.know (WS.oform (.s .z)) ?_
 rintro ⟨Ao48, co48, rfl, hlo48, hmo48, hbo48⟩
 refine FJ.know (WS.oform (.s (.s .z))) ?_
 rintro ⟨Ao49, co49, rfl, hlo49, hmo49, hbo49⟩
 refine FJ.know (WS.oform (.s (.s (.s .z)))) ?_
 rintro ⟨Ao50, co50, rfl, hlo50, hmo50, hbo50⟩
 refine FJ.e (goes_list rfl) rfl (by decide) rfl (e_alloc rfl z_45 rfl rfl) ?_
 rintro _ _ ⟨g51, rfl, rfl⟩
 refine FJ.es (goes_list rfl) rfl (es_store (off := 0) (cs := [.int .i64 ((readKern x a b).code), .slice Ao47 ((readKern x a b).words).length co47, .slice Ao48 ((readKern x a b).kern.disk.blocks).length co48, .slice Ao49 ((readKern x a b).kern.disk.cache).length co49, .slice Ao50 ((readKern x a b).kern.exts).length co50]) rfl sz_45 (.t .z) (.t (.s .z)) rfl (ones rfl) .z (Nat.le_of_ble_eq_true rfl) (.c .z (.c (.s .z) (.c (.s (.s .z)) (.c (.s (.s (.s .z))) (.c (.s (.s (.s (.s .z)))) .n)))))) ?_
 refine FJ.nil (FJ.then_ (FJ.seq (FJ.seq (FJ.region ?_))))
 refine FJ.ql rfl (q_loadA (cs := [.int .i64 ((readKern x a b).code), .slice Ao47 ((readKern x a b).words).length co47, .slice Ao48 ((readKern x a b).kern.disk.blocks).length co48, .slice Ao49 ((readKern x a b).kern.disk.cache).length co49, .slice Ao50 ((readKern x a b).kern.exts).length co50]) rfl ag_45 sz_45 (.t .z) (WS.rows0 .z (fun i u h => by exact h))) ?_
 refine FJ.ql rfl (q_loadA (cs := [.int .i64 ((readKern x a b).code), .slice Ao24 ((readKern x a b).words).length co24, .slice Ao25 ((readKern x a b).kern.disk.blocks).length co25, .slice Ao26 ((readKern x a b).kern.disk.cache).length co26, .slice Ao27 ((readKern x a b).kern.exts).length co27]) rfl ag_45 sz_45 (.t (.s4 (.s4 (.s .z)))) (WS.rows0 (.s4 (.s4 (.s .z))) (fun i u h => by exact h))) ?_
 refine FJ.call (goes_list rfl) rfl (by decide) rfl (c_call rfl Try.func32 rfl rfl (args2 (.t (.s .z)) (.t .z))) .n (fun w1 S1 hs tr => c_32 (kT_45_mk (readKern x a b) (tr.own (.s .z)) (tr.own (.s (.s .z))) (tr.own (.s (.s (.s .z)))) (tr.own (.s4 .z))) (kT_45_mk (readKern x a b) (tr.own (.s4 (.s4 (.s (.s .z))))) (tr.own (.s4 (.s4 (.s (.s (.s .z)))))) (tr.own (.s4 (.s4 (.s4 .z)))) (tr.own (.s4 (.s4 (.s4 (.s .z))))))) ?_
 rintro _ _ ⟨rfl, rfl⟩
 refine FJ.cat .n ?_
 refine FJ.ql rfl (q_not rfl (.t .z)) (FJ.nil (FJ.then_ ?_))
 refine FJ.condN (.t .z) (fun b52 => ?_) (fun b52 => ?_)
 refine FJ.seq (FJ.region (FJ.er (.s16 (.s4 (.s4 .z))) (FJ.ql rfl (q_assign rfl .c) (FJ.nil ?_))))
 refine FJ.then_ (FJ.ret (FJ.thenR ?_))
 refine FJ.doneS (res1 rfl .z) .n ?_
 exfalso; first | exact absurd rfl (by assumption) | omega | focus (simp_all; done)
 refine FJ.skip (FJ.then_ (FJ.seq (FJ.seq ?_)))
 refine FJ.sel (.c (.s .z) (.c (.s .z) (.c (.s .z) (.c (.s .z) (.c (.s (.s .z)) (.c (.s (.s .z)) (.c (.s (.s .z)) (.c (.s (.s (.s .z))) (.c (.s (.s (.s .z))) (.c (.s (.s (.s .z))) (.c (.s (.s (.s .z))) (.c (.s (.s (.s .z))) (.c (.s (.s (.s .z))) (.c (.s (.s (.s .z))) (.c .z (.c .z (.c .z (.c .z .n)))))))))))))))))) ?_
 refine FJ.draw [rowA g51 45 5 1 [.int .i64 ((readKern x a b).code), .slice Ao47 ((readKern x a b).words).length co47, .slice Ao48 ((readKern x a b).kern.disk.blocks).length co48, .slice Ao49 ((readKern x a b).kern.disk.cache).length co49, .slice Ao50 ((readKern x a b).kern.exts).length co50], rowA g38 43 3 1 [.slice Ao35 x.disk.blocks.length co35, .slice Ao36 x.disk.cache.length co36, .slice Ao37 x.exts.length co37], rowA g28 45 5 1 [.int .i64 ((readKern x a b).code), .slice Ao24 ((readKern x a b).words).length co24, .slice Ao25 ((readKern x a b).kern.disk.blocks).length co25, .slice Ao26 ((readKern x a b).kern.disk.cache).length co26, .slice Ao27 ((readKern x a b).kern.exts).length co27], rowA g4 69 3 1 [.slice A0_0 x.disk.blocks.length c0_0, .slice A0_1 x.disk.cache.length c0_1, .slice A0_2 x.exts.length c0_2]] 5 (by kernel_rfl) ?_
 refine FJ.sch [(0, true), (1, true), (2, false), (3, false), (4, true)] 0 #[true, true, true, true, true] (by rfl) (by kernel_rfl) ?_
 refine FJ.dq rfl rfl rfl (by decide) rfl (.s4 (.s4 (.s4 (.s (.s .z))))) (q_loadA (cs := [.slice Ao35 x.disk.blocks.length co35, .slice Ao36 x.disk.cache.length co36, .slice Ao37 x.exts.length co37]) rfl ag_43 sz_43 (.t (.s4 (.s4 (.s .z)))) (WS.rows0 (.s .z) (fun i u h => by exact h))) ?_
 refine FJ.dq rfl rfl rfl (by decide) rfl (.s4 (.s4 (.s4 (.s (.s .z))))) (q_loadA (cs := [.slice A0_0 x.disk.blocks.length c0_0, .slice A0_1 x.disk.cache.length c0_1, .slice A0_2 x.exts.length c0_2]) rfl ag_69 sz_69 (.t (.s16 (.s4 (.s4 (.s (.s .z)))))) (WS.rows0 (.s (.s (.s .z))) (fun i u h => by exact h))) ?_
 refine FJ.call (goes_sch rfl rfl) rfl (by decide) rfl (c_call rfl Try.func49 rfl rfl (args1 (.t .z))) .n (fun w1 S1 hs tr => c_49 (kT_69_mk x (tr.ctx h0_0) (tr.ctx h0_1) (tr.ctx h0_2))) ?_
 rintro _ _ ⟨v53, v55, v57, rfl, rfl⟩
 refine FJ.cat (.c (.c (.c .n))) ?_
 refine FJ.know (WS.oform .z) ?_
 rintro ⟨Ao59, co59, rfl, hlo59, hmo59, hbo59⟩
 refine FJ.know (WS.oform (.s .z)) ?_
 rintro ⟨Ao60, co60, rfl, hlo60, hmo60, hbo60⟩
 refine FJ.know (WS.oform (.s (.s .z))) ?_
 rintro ⟨Ao61, co61, rfl, hlo61, hmo61, hbo61⟩
 refine FJ.sk (.s16 (.s .z)) ?_
 refine FJ.call (goes_sch rfl rfl) rfl (by decide) rfl (c_call rfl Try.func51 rfl rfl (args2 (.t (.s (.s .z))) (.t .z))) .n (fun w1 S1 hs tr => c_51 (kT_43_mk x (tr.own (.s4 (.s (.s (.s .z))))) (tr.own (.s4 (.s4 .z))) (tr.own (.s4 (.s4 (.s .z))))) (kT_43_mk x (tr.own .z) (tr.own (.s .z)) (tr.own (.s (.s .z))))) ?_
 rintro _ _ ⟨rfl, rfl⟩
 refine FJ.cat .n ?_
 refine FJ.sk (.s16 (.s .z)) ?_
 refine FJ.dq rfl rfl rfl (by decide) rfl (.s16 (.s .z)) (q_not rfl (.t .z)) (FJ.schN ?_)
 refine FJ.drawN (by kernel_rfl) ?_
 refine FJ.then_ ?_
 refine FJ.condN (.t .z) (fun b62 => ?_) (fun b62 => ?_)
 refine FJ.seq (FJ.region (FJ.er (.s16 (.s4 (.s4 (.s4 (.s .z))))) (FJ.ql rfl (q_assign rfl .c) (FJ.nil ?_))))
 refine FJ.then_ (FJ.ret (FJ.thenR ?_))
 refine FJ.doneS (res1 rfl .z) .n ?_
 exfalso; first | exact absurd rfl (by assumption) | omega | focus (simp_all; done)
 refine FJ.skip (FJ.then_ (FJ.seq (FJ.region (FJ.ql rfl (q_assign rfl .c) ?_))))
 refine FJ.nil (FJ.then_ (FJ.seq (FJ.region ?_)))
 refine FJ.ql rfl (q_loadA (cs := [.slice Ao35 x.disk.blocks.length co35, .slice Ao36 x.disk.cache.length co36, .slice Ao37 x.exts.length co37]) rfl ag_43 sz_43 (.t (.s4 (.s4 (.s4 (.s (.s (.s .z))))))) (WS.rows0 (.s16 (.s (.s .z))) (fun i u h => by exact h))) ?_
 refine FJ.ql rfl (q_move rfl (.t (.s .z))) ?_
 refine FJ.call (goes_list rfl) rfl (by decide) rfl (c_call rfl Try.func74 rfl rfl (args2 (.t (.s .z)) (.t .z))) (.c (.s4 (.s (.s (.s .z)))) (.c (.s4 (.s (.s (.s .z)))) (.c (.s4 (.s (.s (.s .z)))) .n))) (fun w1 S1 hs tr => c_74 _ hs (by omega) (by first | omega | (omega))) ?_
 rintro _ _ ⟨rfl, rfl⟩
 refine FJ.cat (.c (.c (.c .n))) ?_
 refine FJ.er (.s (.s (.s .z))) (FJ.ql rfl (q_assign rfl (.t .z)) (FJ.nil (FJ.then_ (FJ.seq ?_))))
 refine FJ.seq (FJ.region (FJ.ql rfl (q_move rfl (.t .z)) (FJ.ql rfl (q_lss rfl (.t .z) .c) (FJ.ql rfl (q_move rfl (.t .z)) ?_))))
 refine FJ.caseP .z (fun g63 => ?_) (fun g63 => ?_)
 refine FJ.skipl rfl rfl .z rfl rfl (by decide) rfl ?_
 refine FJ.skipl rfl rfl (.s .z) rfl rfl (by decide) rfl ?_
 refine FJ.skipl rfl rfl (.s (.s .z)) rfl rfl (by decide) rfl ?_
 refine FJ.skipl rfl rfl (.s (.s (.s .z))) rfl rfl (by decide) rfl ?_
 refine FJ.ql rfl (q_pickT rfl (.t (.s4 .z)) .c) (FJ.nil (FJ.then_ ?_))
 refine FJ.condT (.t .z) ?_
 refine FJ.seq (FJ.region (FJ.er (.s16 (.s16 (.s4 (.s4 (.s .z))))) (FJ.ql rfl (q_assign rfl .c) (FJ.nil ?_))))
 refine FJ.then_ (FJ.ret (FJ.thenR ?_))
 refine FJ.doneS (res1 rfl .z) .n ?_
 exfalso; first | exact absurd rfl (by assumption) | omega | focus (simp_all; done)
 refine FJ.q (goes_listg rfl rfl .z) rfl (by decide) rfl (q_loadA (cs := [.int .i64 ((readKern x a b).code), .slice Ao47 ((readKern x a b).words).length co47, .slice Ao48 ((readKern x a b).kern.disk.blocks).length co48, .slice Ao49 ((readKern x a b).kern.disk.cache).length co49, .slice Ao50 ((readKern x a b).kern.exts).length co50]) rfl ag_45 sz_45 (.t (.s16 .z)) (WS.rows0 (.s16 (.s .z)) (fun i u h => by exact h))) ?_
 refine FJ.q (goes_listg rfl rfl (.s .z)) rfl (by decide) rfl (q_loadA (cs := [.int .i64 ((readKern x a b).code), .slice Ao24 ((readKern x a b).words).length co24, .slice Ao25 ((readKern x a b).kern.disk.blocks).length co25, .slice Ao26 ((readKern x a b).kern.disk.cache).length co26, .slice Ao27 ((readKern x a b).kern.exts).length co27]) rfl ag_45 sz_45 (.t (.s16 (.s4 (.s4 (.s .z))))) (WS.rows0 (.s16 (.s (.s (.s .z)))) (fun i u h => by exact h))) ?_
 refine FJ.call (goes_listg rfl rfl (.s (.s .z))) rfl (by decide) rfl (c_call rfl Try.func32 rfl rfl (args2 (.t (.s .z)) (.t .z))) .n (fun w1 S1 hs tr => c_32 (kT_45_mk (readKern x a b) (tr.own (.s4 (.s (.s .z)))) (tr.own (.s4 (.s (.s (.s .z))))) (tr.own (.s4 (.s4 .z))) (tr.own (.s4 (.s4 (.s .z))))) (kT_45_mk (readKern x a b) (tr.own (.s4 (.s4 (.s (.s .z))))) (tr.own (.s4 (.s4 (.s (.s (.s .z)))))) (tr.own (.s4 (.s4 (.s4 .z)))) (tr.own (.s4 (.s4 (.s4 (.s .z))))))) ?_
 rintro _ _ ⟨rfl, rfl⟩
 refine FJ.cat .n ?_
 refine FJ.q (goes_listg rfl rfl (.s (.s (.s .z)))) rfl (by decide) rfl (q_not rfl (.t .z)) ?_
 refine FJ.ql rfl (q_pickF rfl (.t (.s4 .z)) (.t .z)) (FJ.nil (FJ.then_ ?_))
 refine FJ.condN (.t .z) (fun b64 => ?_) (fun b64 => ?_)
 exfalso; first | omega | contradiction
 refine FJ.skip (FJ.then_ (FJ.seq (FJ.region (FJ.ql rfl (q_assign rfl .c) ?_))))
 refine FJ.nil (FJ.then_ (FJ.seq (FJ.region ?_)))
 refine FJ.ql rfl (q_loadA (cs := [.int .i64 ((readKern x a b).code), .slice Ao47 ((readKern x a b).words).length co47, .slice Ao48 ((readKern x a b).kern.disk.blocks).length co48, .slice Ao49 ((readKern x a b).kern.disk.cache).length co49, .slice Ao50 ((readKern x a b).kern.exts).length co50]) rfl ag_45 sz_45 (.t (.s16 (.s4 (.s (.s .z))))) (WS.rows0 (.s16 (.s .z)) (fun i u h => by exact h))) ?_
 refine FJ.ql rfl (q_move rfl (.t (.s .z))) ?_
 refine FJ.call (goes_list rfl) rfl (by decide) rfl (c_call rfl Try.func33 rfl rfl (args2 (.t (.s .z)) (.t .z))) (.c (.s4 (.s (.s .z))) (.c (.s4 (.s (.s .z))) (.c (.s4 (.s (.s .z))) (.c (.s4 (.s (.s .z))) .n)))) (fun w1 S1 hs tr => c_33 _ hs (by omega) (by first | omega | (omega))) ?_
 rintro _ _ ⟨rfl, rfl⟩
 refine FJ.cat (.c (.c (.c (.c .n)))) ?_
 refine FJ.er (.s (.s (.s .z))) (FJ.ql rfl (q_assign rfl (.t .z)) (FJ.nil (FJ.then_ (FJ.seq ?_))))
 refine FJ.region (FJ.ql rfl (q_assign rfl .c) (FJ.nil (FJ.then_ (FJ.seq ?_))))
 refine FJ.region ?_
 refine FJ.ql rfl (q_loadA (cs := [.int .i64 ((readKern x a b).code), .slice Ao47 ((readKern x a b).words).length co47, .slice Ao48 ((readKern x a b).kern.disk.blocks).length co48, .slice Ao49 ((readKern x a b).kern.disk.cache).length co49, .slice Ao50 ((readKern x a b).kern.exts).length co50]) rfl ag_45 sz_45 (.t (.s16 (.s4 (.s4 (.s (.s .z)))))) (WS.rows0 (.s16 (.s .z)) (fun i u h => by exact h))) ?_
 refine FJ.ql rfl (q_move rfl (.t (.s .z))) ?_
 refine FJ.call (goes_list rfl) rfl (by decide) rfl (c_call rfl Try.func34 rfl rfl (args2 (.t (.s .z)) (.t .z))) .n (fun w1 S1 hs tr => c_34 (kT_45_mk (⟨(readKern x a b).code, (vmark_RKern 1 (readKern x a b)).words, (⟨(⟨(vmark_RKern 1 (readKern x a b)).kern.disk.blocks, (vmark_RKern 1 (readKern x a b)).kern.disk.cache⟩ : DDisk), (vmark_RKern 1 (readKern x a b)).kern.exts⟩ : DKern)⟩ : RKern) (tr.own .z) (tr.own (.s .z)) (tr.own (.s (.s .z))) (tr.own (.s (.s (.s .z))))) _ (readKern x a b) rfl (by omega) (by first | omega | (omega))) ?_
 rintro _ _ ⟨rfl, rfl⟩
 refine FJ.cat .n ?_
 refine FJ.er (.s (.s (.s .z))) (FJ.ql rfl (q_assign rfl (.t .z)) (FJ.nil (FJ.then_ (FJ.seq ?_))))
 refine FJ.seq (FJ.region (FJ.ql rfl (q_move rfl (.t .z)) (FJ.ql rfl (q_lss rfl (.t .z) .c) (FJ.nil ?_))))
 refine FJ.then_ ?_
 refine FJ.condP (.t .z) (fun b65 => ?_) (fun b65 => ?_)
 refine FJ.seq (FJ.region (FJ.er (.s16 (.s16 (.s16 (.s (.s (.s .z)))))) (FJ.ql rfl (q_assign rfl .c) (FJ.nil ?_))))
 refine FJ.then_ (FJ.ret (FJ.thenR ?_))
 refine FJ.doneS (res1 rfl .z) .n ?_
 exfalso; first | exact absurd rfl (by assumption) | omega | focus (simp_all; done)
 refine FJ.skip (FJ.then_ (FJ.seq (FJ.seq (FJ.region ?_))))
 refine FJ.ql rfl (q_move rfl (.t (.s (.s .z)))) (FJ.ql rfl (q_move rfl (.t (.s4 (.s (.s (.s .z)))))) (FJ.ql rfl (q_neq rfl (.t (.s .z)) (.t .z)) (FJ.nil (FJ.then_ ?_))))
 refine FJ.condN (.t .z) (fun b66 => ?_) (fun b66 => ?_)
 refine FJ.seq (FJ.region (FJ.er (.s16 (.s16 (.s16 (.s4 (.s (.s .z)))))) (FJ.ql rfl (q_assign rfl .c) (FJ.nil ?_))))
 refine FJ.then_ (FJ.ret (FJ.thenR ?_))
 refine FJ.doneS (res1 rfl .z) .n ?_
 exfalso; first | exact absurd rfl (by assumption) | omega | focus (simp_all; done)
 refine FJ.skip (FJ.then_ (FJ.seq (FJ.region ?_)))
 refine FJ.ql rfl (q_loadA (cs := [.slice A0_0 x.disk.blocks.length c0_0, .slice A0_1 x.disk.cache.length c0_1, .slice A0_2 x.exts.length c0_2]) rfl ag_69 sz_69 (.t (.s16 (.s16 (.s16 (.s4 (.s (.s (.s .z)))))))) (WS.rows0 (.s16 (.s4 .z)) (fun i u h => by exact h))) ?_
 refine FJ.call (goes_list rfl) rfl (by decide) rfl (c_call rfl Try.func49 rfl rfl (args1 (.t .z))) .n (fun w1 S1 hs tr => c_49 (kT_69_mk x (tr.ctx h0_0) (tr.ctx h0_1) (tr.ctx h0_2))) ?_
 rintro _ _ ⟨v67, v69, v71, rfl, rfl⟩
 refine FJ.cat (.c (.c (.c .n))) ?_
 refine FJ.know (WS.oform .z) ?_
 rintro ⟨Ao73, co73, rfl, hlo73, hmo73, hbo73⟩
 refine FJ.know (WS.oform (.s .z)) ?_
 rintro ⟨Ao74, co74, rfl, hlo74, hmo74, hbo74⟩
 refine FJ.know (WS.oform (.s (.s .z))) ?_
 rintro ⟨Ao75, co75, rfl, hlo75, hmo75, hbo75⟩
 refine FJ.ql rfl (q_move rfl (.t (.s16 (.s16 (.s16 (.s4 (.s4 (.s (.s (.s .z)))))))))) (FJ.ql rfl (q_move rfl (.t (.s16 (.s16 (.s16 (.s4 (.s4 (.s4 (.s .z))))))))) ?_)
 refine FJ.call (goes_list rfl) rfl (by decide) rfl (c_call rfl Try.func70 rfl rfl (args3 (.t (.s (.s .z))) (.t (.s .z)) (.t .z))) .n (fun w1 S1 hs tr => c_70 (kT_43_mk x (tr.own .z) (tr.own (.s .z)) (tr.own (.s (.s .z)))) _ _) ?_
 rintro _ _ ⟨v76, v78, v80, v82, rfl, rfl⟩
 refine FJ.cat (.c (.c (.c (.c .n)))) ?_
 refine FJ.know (WS.oform .z) ?_
 rintro ⟨Ao84, co84, rfl, hlo84, hmo84, hbo84⟩
 refine FJ.know (WS.oform (.s .z)) ?_
 rintro ⟨Ao85, co85, rfl, hlo85, hmo85, hbo85⟩
 refine FJ.know (WS.oform (.s (.s .z))) ?_
 rintro ⟨Ao86, co86, rfl, hlo86, hmo86, hbo86⟩
 refine FJ.know (WS.oform (.s (.s (.s .z)))) ?_
 rintro ⟨Ao87, co87, rfl, hlo87, hmo87, hbo87⟩
 refine FJ.e (goes_list rfl) rfl (by decide) rfl (e_alloc rfl z_45 rfl rfl) ?_
 rintro _ _ ⟨g88, rfl, rfl⟩
 refine FJ.es (goes_list rfl) rfl (es_store (off := 0) (cs := [.int .i64 ((readKern x a b).code), .slice Ao84 ((readKern x a b).words).length co84, .slice Ao85 ((readKern x a b).kern.disk.blocks).length co85, .slice Ao86 ((readKern x a b).kern.disk.cache).length co86, .slice Ao87 ((readKern x a b).kern.exts).length co87]) rfl sz_45 (.t .z) (.t (.s .z)) rfl (ones rfl) .z (Nat.le_of_ble_eq_true rfl) (.c .z (.c (.s .z) (.c (.s (.s .z)) (.c (.s (.s (.s .z))) (.c (.s (.s (.s (.s .z)))) .n)))))) ?_
 refine FJ.nil (FJ.then_ (FJ.seq (FJ.seq (FJ.region ?_))))
 refine FJ.ql rfl (q_loadA (cs := [.int .i64 ((readKern x a b).code), .slice Ao84 ((readKern x a b).words).length co84, .slice Ao85 ((readKern x a b).kern.disk.blocks).length co85, .slice Ao86 ((readKern x a b).kern.disk.cache).length co86, .slice Ao87 ((readKern x a b).kern.exts).length co87]) rfl ag_45 sz_45 (.t .z) (WS.rows0 .z (fun i u h => by exact h))) ?_
 refine FJ.ql rfl (q_loadA (cs := [.int .i64 ((readKern x a b).code), .slice Ao24 ((readKern x a b).words).length co24, .slice Ao25 ((readKern x a b).kern.disk.blocks).length co25, .slice Ao26 ((readKern x a b).kern.disk.cache).length co26, .slice Ao27 ((readKern x a b).kern.exts).length co27]) rfl ag_45 sz_45 (.t (.s16 (.s16 (.s16 (.s .z))))) (WS.rows0 (.s16 (.s4 (.s4 (.s (.s (.s .z)))))) (fun i u h => by exact h))) ?_
 refine FJ.call (goes_list rfl) rfl (by decide) rfl (c_call rfl Try.func32 rfl rfl (args2 (.t (.s .z)) (.t .z))) .n (fun w1 S1 hs tr => c_32 (kT_45_mk (readKern x a b) (tr.own (.s .z)) (tr.own (.s (.s .z))) (tr.own (.s (.s (.s .z)))) (tr.own (.s4 .z))) (kT_45_mk (readKern x a b) (tr.own (.s16 (.s (.s .z)))) (tr.own (.s16 (.s (.s (.s .z))))) (tr.own (.s16 (.s4 .z))) (tr.own (.s16 (.s4 (.s .z)))))) ?_
 rintro _ _ ⟨rfl, rfl⟩
 refine FJ.cat .n ?_
 refine FJ.ql rfl (q_not rfl (.t .z)) (FJ.nil (FJ.then_ ?_))
 refine FJ.condN (.t .z) (fun b89 => ?_) (fun b89 => ?_)
 exfalso; first | omega | contradiction
 refine FJ.skip (FJ.then_ (FJ.seq (FJ.region (FJ.er (.s4 (.s4 (.s4 (.s (.s (.s .z)))))) ?_))))
 refine FJ.ql rfl (q_assign rfl .c) (FJ.nil (FJ.then_ (FJ.seq (FJ.region ?_))))
 refine FJ.ql rfl (q_loadA (cs := [.int .i64 ((readKern x a b).code), .slice Ao47 ((readKern x a b).words).length co47, .slice Ao48 ((readKern x a b).kern.disk.blocks).length co48, .slice Ao49 ((readKern x a b).kern.disk.cache).length co49, .slice Ao50 ((readKern x a b).kern.exts).length co50]) rfl ag_45 sz_45 (.t (.s16 (.s16 (.s4 (.s4 (.s4 .z)))))) (WS.rows0 (.s16 (.s4 (.s4 (.s .z)))) (fun i u h => by exact h))) ?_
 refine FJ.ql rfl (q_move rfl (.t (.s .z))) ?_
 refine FJ.call (goes_list rfl) rfl (by decide) rfl (c_call rfl Try.func34 rfl rfl (args2 (.t (.s .z)) (.t .z))) .n (fun w1 S1 hs tr => c_34 (kT_45_mk (⟨(readKern x a b).code, (vmark_RKern 1 (readKern x a b)).words, (⟨(⟨(vmark_RKern 1 (readKern x a b)).kern.disk.blocks, (vmark_RKern 1 (readKern x a b)).kern.disk.cache⟩ : DDisk), (vmark_RKern 1 (readKern x a b)).kern.exts⟩ : DKern)⟩ : RKern) (tr.own (.s4 (.s4 .z))) (tr.own (.s4 (.s4 (.s .z)))) (tr.own (.s4 (.s4 (.s (.s .z))))) (tr.own (.s4 (.s4 (.s (.s (.s .z))))))) _ (readKern x a b) rfl (by omega) (by first | omega | (omega))) ?_
 rintro _ _ ⟨rfl, rfl⟩
 refine FJ.cat .n ?_
 refine FJ.er (.s (.s (.s .z))) (FJ.ql rfl (q_assign rfl (.t .z)) (FJ.nil (FJ.then_ (FJ.seq ?_))))
 refine FJ.seq (FJ.region (FJ.ql rfl (q_move rfl (.t .z)) (FJ.ql rfl (q_lss rfl (.t .z) .c) (FJ.nil ?_))))
 refine FJ.then_ ?_
 refine FJ.condP (.t .z) (fun b90 => ?_) (fun b90 => ?_)
 exfalso; first | omega | contradiction
 refine FJ.skip (FJ.then_ (FJ.seq (FJ.seq (FJ.region ?_))))
 refine FJ.ql rfl (q_move rfl (.t (.s (.s .z)))) (FJ.ql rfl (q_move rfl (.t (.s16 (.s4 (.s4 (.s .z)))))) (FJ.ql rfl (q_neq rfl (.t (.s .z)) (.t .z)) (FJ.nil (FJ.then_ ?_))))
 refine FJ.condN (.t .z) (fun b91 => ?_) (fun b91 => ?_)
 exfalso; first | omega | contradiction
 refine FJ.skip (FJ.then_ (FJ.seq (FJ.region (FJ.er (.s16 (.s16 (.s16 (.s16 (.s4 (.s4 .z)))))) ?_))))
 refine FJ.ql rfl (q_assign rfl .c) (FJ.nil (FJ.then_ (FJ.ret ?_)))
 refine FJ.doneS (res1 rfl .z) .n ?_
 exact ⟨rfl, rfl⟩

end Go.Proofs.Ytkmcpcahbfdohaa

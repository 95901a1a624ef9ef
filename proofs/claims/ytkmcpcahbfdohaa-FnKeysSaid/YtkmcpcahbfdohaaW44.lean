/- What is proved: contracts of functions, one a function. No condition. -/
import Derived.Test.YtkmcpcahbfdohaaW41
import Derived.Test.YtkmcpcahbfdohaaW30
import Derived.Test.YtkmcpcahbfdohaaBase2
namespace Go.Proofs.Ytkmcpcahbfdohaa
open Go Go.RowKit
set_option linter.unusedVariables false
set_option linter.unusedSimpArgs false
set_option maxHeartbeats 1000000 in
set_option maxRecDepth 20000 in
theorem c_119 {w0 : World} {S0 : Bs} {g0 e0 s0 : Nat} {post0 : List Value} {cd : List UInt8} {Ac : Option Addr} {cc : Nat} (hcd : kSl_5.ro w0 (FF w0 S0) cd [.slice Ac cd.length cc]) {a : Int} (hs : Star [rowA g0 e0 s0 1 ((.slice Ac cd.length cc) :: (.int .i64 a) :: post0)] w0 S0) (ha : 0 ≤ a ∧ a ≤ 900000) :
    Calls Try.prog 119 #[.pointer (some ⟨g0, 0, none⟩)] w0 (TriPost w0 S0 (fun r l => ∃ (x : DKern) (w0_ w1_ w2_ : Value) (u : Int), (x.disk.blocks.length ≤ 61 ∧ x.disk.cache.length ≤ 201 ∧ x.exts.length ≤ 9 ∧ a ≤ u ∧ u ≤ a + 600) ∧ r = .agg #[w0_, w1_, w2_] ∧ l = [ownA kSl_40 x.disk.blocks [w0_], ownA kSl_57 x.disk.cache [w1_], ownA kSl_135 x.exts [w2_], rowA g0 e0 s0 1 (.slice Ac cd.length cc :: .int .i64 u :: post0)])) := by
 obtain ⟨hlc, hmc, hbc⟩ := src_hl hcd
 refine FJ.enter (N := 72) Try.func119 rfl rfl (by simp) [(0, .pointer (some ⟨g0, 0, none⟩))] (by simp) hs ?_
 refine FJ.seq (FJ.region ?_)
 refine FJ.e (goes_list rfl) rfl (by decide) rfl (e_alloc rfl z_43 rfl rfl) ?_
 rintro _ _ ⟨g2, rfl, rfl⟩
 refine FJ.nil (FJ.then_ (FJ.seq (FJ.region (FJ.ql rfl (q_move rfl (.t (.s .z))) ?_))))
 refine FJ.call (goes_list rfl) rfl (by decide) rfl (c_call rfl Try.func93 rfl rfl (args1 (.t .z))) (.c (.s .z) .n) (fun w1 S1 hs tr => c_93 (tr.ctx hcd) hs (by omega)) ?_
 rintro _ _ ⟨d3, v5, v7, u4, hzd3, rfl, rfl⟩
 refine FJ.cat (.c (.c (.c .n))) ?_
 refine FJ.know (WS.oform .z) ?_
 rintro ⟨Ao9, co9, rfl, hlo9, hmo9, hbo9⟩
 refine FJ.know (WS.oform (.s .z)) ?_
 rintro ⟨Ao10, co10, rfl, hlo10, hmo10, hbo10⟩
 refine FJ.e (goes_list rfl) rfl (by decide) rfl (e_alloc rfl z_25 rfl rfl) ?_
 rintro _ _ ⟨g11, rfl, rfl⟩
 refine FJ.es (goes_list rfl) rfl (es_store (off := 0) (cs := [.slice Ao9 d3.blocks.length co9, .slice Ao10 d3.cache.length co10]) rfl sz_25 (.t .z) (.t (.s .z)) rfl (ones rfl) .z (Nat.le_of_ble_eq_true rfl) (.c .z (.c (.s .z) .n))) ?_
 refine FJ.nil (FJ.then_ (FJ.seq (FJ.seq (FJ.region ?_))))
 refine FJ.ql rfl (q_assign rfl .c) (FJ.nil (FJ.then_ (FJ.block ?_)))
 refine FJ.loopi (γ := Nat × (Option Addr) × Nat × (Option Addr) × Nat × Int × DDisk) (fun ⟨k, Agk0, cgk0, Agk1, cgk1, z, D⟩ => [(4, .int .i64 (k : Int)), (3, .pointer (some ⟨g11, 0, none⟩)), (2, .pointer (some ⟨g2, 0, none⟩)), (0, .pointer (some ⟨g0, 0, none⟩))]) (fun ⟨k, Agk0, cgk0, Agk1, cgk1, z, D⟩ => [rowA g11 25 2 1 [.slice Agk0 D.blocks.length cgk0, .slice Agk1 D.cache.length cgk1], ownA kSl_40 D.blocks [.slice Agk0 D.blocks.length cgk0], ownA kSl_57 D.cache [.slice Agk1 D.cache.length cgk1], rowA g0 e0 s0 1 ((.slice Ac cd.length cc) :: (.int .i64 z) :: post0), rowA g2 43 3 1 [.slice none 0 0, .slice none 0 0, .slice none 0 0]]) (fun ⟨k, Agk0, cgk0, Agk1, cgk1, z, D⟩ => k ≤ 4 ∧ (a ≤ z ∧ z ≤ a + 60 + 60 * k) ∧ (D.blocks.length ≤ 61 ∧ D.cache.length ≤ 201)) (fun ⟨k, Agk0, cgk0, Agk1, cgk1, z, D⟩ => 4 - k) (0, Ao9, co9, Ao10, co10, u4, d3) ⟨Nat.zero_le _, by omega, by omega⟩ (.c .z (.c (.s .z) (.c (.s4 .z) (.c (.s4 (.s .z)) .n)))) (fun _ h => h.sel (.c .z (.c .z (.c .z (.c .z (.c .z .n)))))) ?_
 rintro ⟨k, Agk0, cgk0, Agk1, cgk1, z, D⟩ ⟨hk, hz, hD⟩
 refine FJ.seq (FJ.seq (FJ.region (FJ.ql rfl (q_move rfl (.t .z)) (FJ.ql rfl (q_lss rfl (.t .z) .c) ?_))))
 refine FJ.ql rfl (q_move rfl (.t .z)) ?_
 refine FJ.caseP .z (fun g12 => ?_) (fun g12 => ?_)
 refine FJ.call (goes_listg rfl rfl .z) rfl (by decide) rfl (c_call rfl Try.func83 rfl rfl (args1 (.t (.s4 .z)))) .n (fun w1 S1 hs tr => c_83 (tr.ptr .z (kT_25_mk D (tr.own (.s .z)) (tr.own (.s (.s .z)))))) ?_
 rintro _ _ ⟨rfl, rfl⟩
 refine FJ.cat .n ?_
 refine FJ.q (goes_listg rfl rfl (.s .z)) rfl (by decide) rfl (q_neq rfl (.t .z) .c) ?_
 refine FJ.ql rfl (q_pickT rfl (.t (.s (.s .z))) (.t .z)) (FJ.nil (FJ.then_ ?_))
 refine FJ.condN (.t .z) (fun b13 => ?_) (fun b13 => ?_)
 refine FJ.skip (FJ.then_ (FJ.seq (FJ.block (FJ.region ?_))))
 refine FJ.ql rfl (q_move rfl (.t (.s4 (.s4 (.s .z))))) ?_
 refine FJ.call (goes_list rfl) rfl (by decide) rfl (c_call rfl Try.func93 rfl rfl (args1 (.t .z))) (.c (.s (.s (.s .z))) .n) (fun w1 S1 hs tr => c_93 (tr.ctx hcd) hs (by omega)) ?_
 rintro _ _ ⟨d14, v16, v18, u15, hzd14, rfl, rfl⟩
 refine FJ.cat (.c (.c (.c .n))) ?_
 refine FJ.know (WS.oform .z) ?_
 rintro ⟨Ao20, co20, rfl, hlo20, hmo20, hbo20⟩
 refine FJ.know (WS.oform (.s .z)) ?_
 rintro ⟨Ao21, co21, rfl, hlo21, hmo21, hbo21⟩
 refine FJ.es (goes_list rfl) rfl (es_store (off := 0) (cs := [.slice Ao20 d14.blocks.length co20, .slice Ao21 d14.cache.length co21]) rfl sz_25 (.t (.s4 (.s4 (.s .z)))) (.t .z) rfl (ones rfl) (.s (.s (.s .z))) (Nat.le_of_ble_eq_true rfl) (.c .z (.c (.s .z) .n))) ?_
 refine FJ.nil (FJ.inBN (FJ.then_ (FJ.region (FJ.ql rfl (q_move rfl (.t (.s4 (.s4 .z)))) ?_))))
 refine FJ.ql rfl (q_add (c := ((k + 1 : Nat) : Int)) rfl (.t .z) .c (wr (by omega) (by omega) (by omega))) ?_
 refine FJ.er (.s4 (.s4 (.s (.s .z)))) (FJ.ql rfl (q_assign rfl (.t .z)) (FJ.nil ?_))
 refine FJ.again ((k + 1), Ao20, co20, Ao21, co21, u15, d14) ⟨by omega, ⟨by omega, by omega⟩⟩ (by first | omega | (dsimp only; omega)) (.c .z (.c (.s4 (.s4 (.s (.s (.s .z))))) (.c (.s4 (.s4 (.s4 .z))) (.c (.s4 (.s4 (.s4 (.s .z)))) .n)))) (fun _ h => h.sel (.c .z (.c .z (.c .z (.c .z (.c (.s (.s .z)) .n))))))
 refine FJ.exit (FJ.thenE (FJ.thenE (FJ.inB (FJ.then_ ?_))))
 refine FJ.seq (FJ.region ?_)
 refine FJ.ql rfl (q_loadA (cs := [.slice Agk0 D.blocks.length cgk0, .slice Agk1 D.cache.length cgk1]) rfl ag_25 sz_25 (.t (.s4 (.s (.s (.s .z))))) (WS.rows0 .z (fun i u h => by exact h))) ?_
 refine FJ.ql rfl (q_build (ps := [(0, .agg #[.slice Agk0 D.blocks.length cgk0, .slice Agk1 D.cache.length cgk1])]) (cs := [.slice Agk0 D.blocks.length cgk0, .slice Agk1 D.cache.length cgk1, .slice none 0 0]) rfl bl_43 (by intro act hact; simp only [List.map_toArray, List.map_cons, List.map_nil, (show Val _ _ _ from (.t .z)) act hact]) rfl) ?_
 refine FJ.e (goes_list rfl) rfl (by decide) rfl (e_alloc rfl z_43 rfl rfl) ?_
 rintro _ _ ⟨g22, rfl, rfl⟩
 refine FJ.es (goes_list rfl) rfl (es_store (off := 0) (cs := [.slice Agk0 D.blocks.length cgk0, .slice Agk1 D.cache.length cgk1, .slice none 0 0]) rfl sz_43 (.t .z) (.t (.s .z)) rfl (ones rfl) .z (Nat.le_of_ble_eq_true rfl) (.c .z (.c (.s .z) (.c (.s (.s .z)) .n)))) ?_
 refine FJ.nil (FJ.then_ (FJ.seq (FJ.seq (FJ.region ?_))))
 refine FJ.ql rfl (q_move rfl (.t (.s4 (.s4 (.s4 .z))))) ?_
 refine FJ.call (goes_list rfl) rfl (by decide) rfl (c_call rfl Try.func95 rfl rfl (args2 (.t .z) .c)) (.c (.s4 .z) .n) (fun w1 S1 hs tr => c_95 (tr.ctx hcd) _ hs (by omega) (by omega)) ?_
 rintro _ _ ⟨m23, h0m23, h1m23, rfl, rfl⟩
 refine FJ.cat (.c .n) ?_
 refine FJ.ql rfl (q_assign rfl (.t .z)) (FJ.nil (FJ.then_ (FJ.block ?_)))
 refine FJ.add (c := ownA kSl_135 [] [.slice none 0 0]) (fun w S => own_nil w S none) ?_
 refine FJ.sel (.c .z (.c .z (.c .z (.c (.s .z) (.c (.s .z) (.c (.s .z) .n)))))) ?_
 refine FJ.loopi (γ := (Option Addr) × Nat × (Option Addr) × Nat × (Option Addr) × Nat × Int × Int × DKern) (fun ⟨Agq0, cgq0, Agq1, cgq1, Agq2, cgq2, n, y, E⟩ => [(6, .int .i64 n), (5, .pointer (some ⟨g22, 0, none⟩)), (2, .pointer (some ⟨g2, 0, none⟩)), (0, .pointer (some ⟨g0, 0, none⟩))]) (fun ⟨Agq0, cgq0, Agq1, cgq1, Agq2, cgq2, n, y, E⟩ => [ownA kSl_135 E.exts [.slice Agq2 E.exts.length cgq2], rowA g0 e0 s0 1 ((.slice Ac cd.length cc) :: (.int .i64 y) :: post0), rowA g22 43 3 1 [.slice Agq0 E.disk.blocks.length cgq0, .slice Agq1 E.disk.cache.length cgq1, .slice Agq2 E.exts.length cgq2], ownA kSl_40 E.disk.blocks [.slice Agq0 E.disk.blocks.length cgq0], ownA kSl_57 E.disk.cache [.slice Agq1 E.disk.cache.length cgq1], rowA g2 43 3 1 [.slice none 0 0, .slice none 0 0, .slice none 0 0]]) (fun ⟨Agq0, cgq0, Agq1, cgq1, Agq2, cgq2, n, y, E⟩ => (0 ≤ n ∧ n ≤ 3) ∧ (a ≤ y ∧ y + 3 * n ≤ a + 400) ∧ (E.disk.blocks.length ≤ 61 ∧ E.disk.cache.length ≤ 201 ∧ E.exts.length ≤ 8)) (fun ⟨Agq0, cgq0, Agq1, cgq1, Agq2, cgq2, n, y, E⟩ => n.toNat) (Agk0, cgk0, Agk1, cgk1, none, 0, m23, (z + 1), (⟨⟨D.blocks, D.cache⟩, []⟩ : DKern)) ⟨by omega, by omega, by dsimp only; exact ⟨by omega, by omega, by simp only [List.length_nil]; omega⟩⟩ (.c .z (.c (.s (.s (.s .z))) (.c (.s4 (.s4 (.s4 (.s (.s .z))))) (.c (.s4 (.s4 (.s4 (.s (.s (.s .z)))))) .n)))) (fun _ h => h.sel (.c .z (.c .z (.c .z (.c .z (.c .z (.c .z .n))))))) ?_
 rintro ⟨Agq0, cgq0, Agq1, cgq1, Agq2, cgq2, n, y, E⟩ ⟨hn, hy, hE⟩
 refine FJ.seq (FJ.seq (FJ.region (FJ.ql rfl (q_move rfl (.t .z)) (FJ.ql rfl (q_gtr rfl (.t .z) .c) ?_))))
 refine FJ.nil (FJ.then_ ?_)
 refine FJ.condP (.t .z) (fun b25 => ?_) (fun b25 => ?_)
 refine FJ.skip (FJ.then_ (FJ.seq (FJ.block (FJ.seq ?_))))
 refine FJ.sel (.c .z (.c .z (.c (.s .z) (.c (.s .z) (.c .z (.c .z .n)))))) ?_
 refine FJ.draw [rowA g22 43 3 1 [.slice Agq0 E.disk.blocks.length cgq0, .slice Agq1 E.disk.cache.length cgq1, .slice Agq2 E.exts.length cgq2], rowA g2 43 3 1 [.slice none 0 0, .slice none 0 0, .slice none 0 0]] 11 (by kernel_rfl) ?_
 refine FJ.sch [(0, true), (1, true), (3, true), (6, true)] 8 #[true, true, false, true, false, false, true, false, false, false, false, false] (by rfl) (by kernel_rfl) ?_
 refine FJ.dq rfl rfl rfl (by decide) rfl (.s4 .z) (q_loadA (cs := [.slice Agq0 E.disk.blocks.length cgq0, .slice Agq1 E.disk.cache.length cgq1, .slice Agq2 E.exts.length cgq2]) rfl ag_43 sz_43 (.t (.s (.s (.s .z)))) (WS.rows0 .z (fun i u h => by exact h))) ?_
 refine FJ.dq rfl rfl rfl (by decide) rfl (.s4 .z) (q_move rfl (.t (.s4 (.s (.s .z))))) (FJ.dq rfl rfl rfl (by decide) rfl (.s4 .z) (q_move rfl (.t (.s4 (.s (.s (.s .z)))))) (FJ.dq rfl rfl rfl (by decide) rfl (.s4 .z) (q_move rfl (.t (.s4 (.s4 .z)))) (FJ.schN ?_)))
 refine FJ.fork2 (i := 2) (j := 10) (by kernel_rfl) ?_ ?_
 refine FJ.call (goes_sch rfl rfl) rfl (by decide) rfl (c_call rfl Try.func95 rfl rfl (args2 (.t (.s (.s .z))) .c)) (.c (.s .z) .n) (fun w1 S1 hs tr => c_95 (tr.ctx hcd) _ hs (by omega) (by omega)) ?_
 rintro _ _ ⟨m26, h0m26, h1m26, rfl, rfl⟩
 refine FJ.cat (.c .n) ?_
 refine FJ.sk (.s4 .z) ?_
 refine FJ.schN ?_
 refine FJ.sch [] 7 #[true, true, true, true, false, false, true, false, false, false, false, false] (by rfl) (by kernel_rfl) ?_
 refine FJ.schN ?_
 refine FJ.fork2 (i := 4) (j := 10) (by kernel_rfl) ?_ ?_
 refine FJ.call (goes_sch rfl rfl) rfl (by decide) rfl (c_call rfl Try.func95 rfl rfl (args2 (.t (.s (.s .z))) .c)) (.c .z .n) (fun w1 S1 hs tr => c_95 (tr.ctx hcd) _ hs (by omega) (by omega)) ?_
 rintro _ _ ⟨m27, h0m27, h1m27, rfl, rfl⟩
 refine FJ.cat (.c .n) ?_
 refine FJ.sk (.s4 .z) ?_
 refine FJ.schN ?_
 refine FJ.sch [(5, true)] 5 #[true, true, true, true, true, true, true, false, false, false, false, false] (by rfl) (by kernel_rfl) ?_
 refine FJ.dq rfl rfl rfl (by decide) rfl (.s4 .z) (q_add (c := 1 + m27) rfl .c (.t .z) (wr (by omega) (by omega) (by omega))) ?_
 refine FJ.schN ?_
 refine FJ.fork2 (i := 7) (j := 10) (by kernel_rfl) ?_ ?_
 refine FJ.call (goes_sch rfl rfl) rfl (by decide) rfl (c_call rfl Try.func95 rfl rfl (args2 (.t (.s (.s (.s .z)))) .c)) (.c .z .n) (fun w1 S1 hs tr => c_95 (tr.ctx hcd) _ hs (by omega) (by omega)) ?_
 rintro _ _ ⟨m28, h0m28, h1m28, rfl, rfl⟩
 refine FJ.cat (.c .n) ?_
 refine FJ.sk (.s4 .z) ?_
 refine FJ.schN ?_
 refine FJ.sch [(8, true)] 3 #[true, true, true, true, true, true, true, true, true, false, false, false] (by rfl) (by kernel_rfl) ?_
 refine FJ.dq rfl rfl rfl (by decide) rfl (.s4 .z) (q_add (c := 1 + m28) rfl .c (.t .z) (wr (by omega) (by omega) (by omega))) ?_
 refine FJ.schN ?_
 refine FJ.fork2 (i := 9) (j := 10) (by kernel_rfl) ?_ ?_
 refine FJ.call (goes_sch rfl rfl) rfl (by decide) rfl (c_call rfl Try.func66 rfl rfl (args4 (.t (.s4 (.s4 .z))) (.t (.s4 .z)) (.t (.s (.s .z))) (.t .z))) .n (fun w1 S1 hs tr => c_66 (kT_43_mk E (tr.own (.s (.s .z))) (tr.own (.s (.s (.s .z)))) (tr.own (.s .z))) _ _ _) ?_
 rintro _ _ ⟨v29, v31, v33, v35, rfl, rfl⟩
 refine FJ.cat (.c (.c (.c (.c .n)))) ?_
 refine FJ.know (WS.oform .z) ?_
 rintro ⟨Ao37, co37, rfl, hlo37, hmo37, hbo37⟩
 refine FJ.know (WS.oform (.s .z)) ?_
 rintro ⟨Ao38, co38, rfl, hlo38, hmo38, hbo38⟩
 refine FJ.know (WS.oform (.s (.s .z))) ?_
 rintro ⟨Ao39, co39, rfl, hlo39, hmo39, hbo39⟩
 refine FJ.know (WS.oform (.s (.s (.s .z)))) ?_
 rintro ⟨Ao40, co40, rfl, hlo40, hmo40, hbo40⟩
 refine FJ.sk (.s4 (.s4 .z)) ?_
 refine FJ.schN ?_
 refine FJ.sch [(10, false), (11, false)] 0 #[true, true, true, true, true, true, true, true, true, true, true, true] (by rfl) (by kernel_rfl) ?_
 refine FJ.e (goes_sch rfl rfl) rfl (by decide) rfl (e_alloc rfl z_45 rfl rfl) ?_
 rintro _ _ ⟨g41, rfl, rfl⟩
 refine FJ.sk (.s4 (.s4 (.s .z))) ?_
 refine FJ.es (goes_sch rfl rfl) rfl (es_store (off := 0) (cs := [.int .i64 ((grant E ⟨m26, 1 + m27, 1 + m28⟩).code), .slice Ao37 ((grant E ⟨m26, 1 + m27, 1 + m28⟩).words).length co37, .slice Ao38 ((grant E ⟨m26, 1 + m27, 1 + m28⟩).kern.disk.blocks).length co38, .slice Ao39 ((grant E ⟨m26, 1 + m27, 1 + m28⟩).kern.disk.cache).length co39, .slice Ao40 ((grant E ⟨m26, 1 + m27, 1 + m28⟩).kern.exts).length co40]) rfl sz_45 (.t .z) (.t (.s .z)) rfl (ones rfl) .z (Nat.le_of_ble_eq_true rfl) (.c .z (.c (.s .z) (.c (.s (.s .z)) (.c (.s (.s (.s .z))) (.c (.s (.s (.s (.s .z)))) .n)))))) ?_
 refine FJ.sl rfl ?_
 refine FJ.schN ?_
 refine FJ.drawN (by kernel_rfl) ?_
 refine FJ.then_ (FJ.seq (FJ.region (FJ.ql rfl (q_fieldAddr rfl (.t .z) (fun _ => fa_45_0 _ _)) (FJ.ql rfl (q_load rfl ag_2 (.t .z) (WS.row .z rfl)) ?_))))
 refine FJ.ql rfl (q_eql rfl (.t .z) .c) (FJ.nil (FJ.then_ ?_))
 refine FJ.condP (.t .z) (fun b42 => ?_) (fun b42 => ?_)
 refine FJ.region (FJ.ql rfl (q_fieldAddr rfl (.t (.s (.s (.s .z)))) (fun _ => fa_45_2 _ _)) (FJ.ql rfl (q_loadA (cs := [.slice Ao38 ((grant E ⟨m26, 1 + m27, 1 + m28⟩).kern.disk.blocks).length co38, .slice Ao39 ((grant E ⟨m26, 1 + m27, 1 + m28⟩).kern.disk.cache).length co39, .slice Ao40 ((grant E ⟨m26, 1 + m27, 1 + m28⟩).kern.exts).length co40]) rfl ag_43 sz_43 (.t .z) (WS.rows .z (sub_at rfl))) ?_))
 refine FJ.es (goes_list rfl) rfl (es_store (off := 0) (cs := [.slice Ao38 ((grant E ⟨m26, 1 + m27, 1 + m28⟩).kern.disk.blocks).length co38, .slice Ao39 ((grant E ⟨m26, 1 + m27, 1 + m28⟩).kern.disk.cache).length co39, .slice Ao40 ((grant E ⟨m26, 1 + m27, 1 + m28⟩).kern.exts).length co40]) rfl sz_43 (.t (.s16 (.s (.s (.s .z))))) (.t .z) rfl (ones rfl) (.s4 (.s4 (.s .z))) (Nat.le_of_ble_eq_true rfl) (.c .z (.c (.s .z) (.c (.s (.s .z)) .n)))) ?_
 refine FJ.nil (FJ.inBN (FJ.then_ (FJ.region (FJ.ql rfl (q_move rfl (.t (.s16 (.s (.s .z))))) ?_))))
 refine FJ.ql rfl (q_sub (c := n - 1) rfl (.t .z) .c (wr (by omega) (by omega) (by omega))) ?_
 refine FJ.er (.s16 (.s4 .z)) (FJ.ql rfl (q_assign rfl (.t .z)) (FJ.nil ?_))
 refine FJ.again (Ao38, co38, Ao39, co39, Ao40, co40, n - 1, (((y + 1) + 1) + 1), (grant E ⟨m26, 1 + m27, 1 + m28⟩).kern) ⟨by omega, by omega, (by first | exact hE | exact grant_len hE (by assumption))⟩ (by first | omega | (dsimp only; omega)) (.c .z (.c (.s16 (.s4 (.s .z))) (.c (.s16 (.s4 (.s (.s .z)))) (.c (.s16 (.s4 (.s (.s (.s .z))))) .n)))) (fun _ h => h.sel (.c (.s4 (.s .z)) (.c (.s4 (.s .z)) (.c .z (.c (.s (.s .z)) (.c (.s (.s .z)) (.c (.s4 (.s .z)) .n)))))))
 refine FJ.skip (FJ.inBN (FJ.then_ (FJ.region (FJ.ql rfl (q_move rfl (.t (.s16 .z))) ?_))))
 refine FJ.ql rfl (q_sub (c := n - 1) rfl (.t .z) .c (wr (by omega) (by omega) (by omega))) ?_
 refine FJ.er (.s16 (.s (.s .z))) (FJ.ql rfl (q_assign rfl (.t .z)) (FJ.nil ?_))
 refine FJ.again (Agq0, cgq0, Agq1, cgq1, Agq2, cgq2, n - 1, (((y + 1) + 1) + 1), E) ⟨by omega, by omega, (by first | exact hE | exact grant_len hE (by assumption))⟩ (by first | omega | (dsimp only; omega)) (.c .z (.c (.s16 (.s (.s (.s .z)))) (.c (.s16 (.s4 .z)) (.c (.s16 (.s4 (.s .z))) .n)))) (fun _ h => h.sel (.c (.s4 (.s (.s .z))) (.c (.s4 (.s .z)) (.c (.s4 (.s (.s (.s .z)))) (.c (.s4 (.s .z)) (.c (.s4 (.s .z)) (.c (.s4 (.s .z)) .n)))))))
 refine FJ.e (goes_sch rfl rfl) rfl (by decide) rfl (e_alloc rfl z_45 rfl rfl) ?_
 rintro _ _ ⟨g43, rfl, rfl⟩
 refine FJ.sk (.s4 (.s .z)) ?_
 refine FJ.schN ?_
 refine FJ.sch [(9, false), (11, false)] 0 #[true, true, true, true, true, true, true, true, true, true, true, true] (by rfl) (by kernel_rfl) ?_
 refine FJ.call (goes_sch rfl rfl) rfl (by decide) rfl (c_call rfl Try.func66 rfl rfl (args4 (.t (.s4 (.s4 (.s .z)))) (.t (.s4 (.s .z))) (.t (.s (.s (.s .z)))) (.t (.s .z)))) .n (fun w1 S1 hs tr => c_66 (kT_43_mk E (tr.own (.s (.s (.s .z)))) (tr.own (.s4 .z)) (tr.own (.s (.s .z)))) _ _ _) ?_
 rintro _ _ ⟨v44, v46, v48, v50, rfl, rfl⟩
 refine FJ.cat (.c (.c (.c (.c .n)))) ?_
 refine FJ.know (WS.oform .z) ?_
 rintro ⟨Ao52, co52, rfl, hlo52, hmo52, hbo52⟩
 refine FJ.know (WS.oform (.s .z)) ?_
 rintro ⟨Ao53, co53, rfl, hlo53, hmo53, hbo53⟩
 refine FJ.know (WS.oform (.s (.s .z))) ?_
 rintro ⟨Ao54, co54, rfl, hlo54, hmo54, hbo54⟩
 refine FJ.know (WS.oform (.s (.s (.s .z)))) ?_
 rintro ⟨Ao55, co55, rfl, hlo55, hmo55, hbo55⟩
 refine FJ.sk (.s4 (.s4 (.s .z))) ?_
 refine FJ.es (goes_sch rfl rfl) rfl (es_store (off := 0) (cs := [.int .i64 ((grant E ⟨m26, 1 + m27, 1 + m28⟩).code), .slice Ao52 ((grant E ⟨m26, 1 + m27, 1 + m28⟩).words).length co52, .slice Ao53 ((grant E ⟨m26, 1 + m27, 1 + m28⟩).kern.disk.blocks).length co53, .slice Ao54 ((grant E ⟨m26, 1 + m27, 1 + m28⟩).kern.disk.cache).length co54, .slice Ao55 ((grant E ⟨m26, 1 + m27, 1 + m28⟩).kern.exts).length co55]) rfl sz_45 (.t (.s .z)) (.t .z) rfl (ones rfl) (.s4 .z) (Nat.le_of_ble_eq_true rfl) (.c .z (.c (.s .z) (.c (.s (.s .z)) (.c (.s (.s (.s .z))) (.c (.s (.s (.s (.s .z)))) .n)))))) ?_
 refine FJ.sl rfl ?_
 refine FJ.schN ?_
 refine FJ.drawN (by kernel_rfl) ?_
 refine FJ.then_ (FJ.seq (FJ.region (FJ.ql rfl (q_fieldAddr rfl (.t (.s .z)) (fun _ => fa_45_0 _ _)) (FJ.ql rfl (q_load rfl ag_2 (.t .z) (WS.row .z rfl)) ?_))))
 refine FJ.ql rfl (q_eql rfl (.t .z) .c) (FJ.nil (FJ.then_ ?_))
 refine FJ.condP (.t .z) (fun b56 => ?_) (fun b56 => ?_)
 refine FJ.region (FJ.ql rfl (q_fieldAddr rfl (.t (.s4 .z)) (fun _ => fa_45_2 _ _)) (FJ.ql rfl (q_loadA (cs := [.slice Ao53 ((grant E ⟨m26, 1 + m27, 1 + m28⟩).kern.disk.blocks).length co53, .slice Ao54 ((grant E ⟨m26, 1 + m27, 1 + m28⟩).kern.disk.cache).length co54, .slice Ao55 ((grant E ⟨m26, 1 + m27, 1 + m28⟩).kern.exts).length co55]) rfl ag_43 sz_43 (.t .z) (WS.rows .z (sub_at rfl))) ?_))
 refine FJ.es (goes_list rfl) rfl (es_store (off := 0) (cs := [.slice Ao53 ((grant E ⟨m26, 1 + m27, 1 + m28⟩).kern.disk.blocks).length co53, .slice Ao54 ((grant E ⟨m26, 1 + m27, 1 + m28⟩).kern.disk.cache).length co54, .slice Ao55 ((grant E ⟨m26, 1 + m27, 1 + m28⟩).kern.exts).length co55]) rfl sz_43 (.t (.s16 (.s (.s (.s .z))))) (.t .z) rfl (ones rfl) (.s4 (.s4 (.s .z))) (Nat.le_of_ble_eq_true rfl) (.c .z (.c (.s .z) (.c (.s (.s .z)) .n)))) ?_
 refine FJ.nil (FJ.inBN (FJ.then_ (FJ.region (FJ.ql rfl (q_move rfl (.t (.s16 (.s (.s .z))))) ?_))))
 refine FJ.ql rfl (q_sub (c := n - 1) rfl (.t .z) .c (wr (by omega) (by omega) (by omega))) ?_
 refine FJ.er (.s16 (.s4 .z)) (FJ.ql rfl (q_assign rfl (.t .z)) (FJ.nil ?_))
 refine FJ.again (Ao53, co53, Ao54, co54, Ao55, co55, n - 1, (((y + 1) + 1) + 1), (grant E ⟨m26, 1 + m27, 1 + m28⟩).kern) ⟨by omega, by omega, (by first | exact hE | exact grant_len hE (by assumption))⟩ (by first | omega | (dsimp only; omega)) (.c .z (.c (.s16 (.s4 (.s .z))) (.c (.s16 (.s4 (.s (.s .z)))) (.c (.s16 (.s4 (.s (.s (.s .z))))) .n)))) (fun _ h => h.sel (.c (.s4 (.s .z)) (.c (.s4 (.s .z)) (.c .z (.c (.s (.s .z)) (.c (.s (.s .z)) (.c (.s4 (.s .z)) .n)))))))
 refine FJ.skip (FJ.inBN (FJ.then_ (FJ.region (FJ.ql rfl (q_move rfl (.t (.s16 .z))) ?_))))
 refine FJ.ql rfl (q_sub (c := n - 1) rfl (.t .z) .c (wr (by omega) (by omega) (by omega))) ?_
 refine FJ.er (.s16 (.s (.s .z))) (FJ.ql rfl (q_assign rfl (.t .z)) (FJ.nil ?_))
 refine FJ.again (Agq0, cgq0, Agq1, cgq1, Agq2, cgq2, n - 1, (((y + 1) + 1) + 1), E) ⟨by omega, by omega, (by first | exact hE | exact grant_len hE (by assumption))⟩ (by first | omega | (dsimp only; omega)) (.c .z (.c (.s16 (.s (.s (.s .z)))) (.c (.s16 (.s4 .z)) (.c (.s16 (.s4 (.s .z))) .n)))) (fun _ h => h.sel (.c (.s4 (.s (.s .z))) (.c (.s4 (.s .z)) (.c (.s4 (.s (.s (.s .z)))) (.c (.s4 (.s .z)) (.c (.s4 (.s .z)) (.c (.s4 (.s .z)) .n)))))))
 refine FJ.e (goes_sch rfl rfl) rfl (by decide) rfl (e_alloc rfl z_45 rfl rfl) ?_
 rintro _ _ ⟨g57, rfl, rfl⟩
 refine FJ.sk (.s4 (.s .z)) ?_
 refine FJ.schN ?_
 refine FJ.sch [(7, false), (8, true), (9, false), (11, false)] 0 #[true, true, true, true, true, true, true, true, true, true, true, true] (by rfl) (by kernel_rfl) ?_
 refine FJ.call (goes_sch rfl rfl) rfl (by decide) rfl (c_call rfl Try.func95 rfl rfl (args2 (.t (.s4 .z)) .c)) (.c (.s .z) .n) (fun w1 S1 hs tr => c_95 (tr.ctx hcd) _ hs (by omega) (by omega)) ?_
 rintro _ _ ⟨m58, h0m58, h1m58, rfl, rfl⟩
 refine FJ.cat (.c .n) ?_
 refine FJ.sk (.s4 (.s .z)) ?_
 refine FJ.dq rfl rfl rfl (by decide) rfl (.s4 (.s .z)) (q_add (c := 1 + m58) rfl .c (.t .z) (wr (by omega) (by omega) (by omega))) ?_
 refine FJ.call (goes_sch rfl rfl) rfl (by decide) rfl (c_call rfl Try.func66 rfl rfl (args4 (.t (.s4 (.s4 (.s .z)))) (.t (.s4 (.s .z))) (.t (.s (.s (.s .z)))) (.t .z))) .n (fun w1 S1 hs tr => c_66 (kT_43_mk E (tr.own (.s (.s (.s .z)))) (tr.own (.s4 .z)) (tr.own (.s (.s .z)))) _ _ _) ?_
 rintro _ _ ⟨v59, v61, v63, v65, rfl, rfl⟩
 refine FJ.cat (.c (.c (.c (.c .n)))) ?_
 refine FJ.know (WS.oform .z) ?_
 rintro ⟨Ao67, co67, rfl, hlo67, hmo67, hbo67⟩
 refine FJ.know (WS.oform (.s .z)) ?_
 rintro ⟨Ao68, co68, rfl, hlo68, hmo68, hbo68⟩
 refine FJ.know (WS.oform (.s (.s .z))) ?_
 rintro ⟨Ao69, co69, rfl, hlo69, hmo69, hbo69⟩
 refine FJ.know (WS.oform (.s (.s (.s .z)))) ?_
 rintro ⟨Ao70, co70, rfl, hlo70, hmo70, hbo70⟩
 refine FJ.sk (.s4 (.s4 (.s .z))) ?_
 refine FJ.es (goes_sch rfl rfl) rfl (es_store (off := 0) (cs := [.int .i64 ((grant E ⟨m26, 1 + m27, 1 + m58⟩).code), .slice Ao67 ((grant E ⟨m26, 1 + m27, 1 + m58⟩).words).length co67, .slice Ao68 ((grant E ⟨m26, 1 + m27, 1 + m58⟩).kern.disk.blocks).length co68, .slice Ao69 ((grant E ⟨m26, 1 + m27, 1 + m58⟩).kern.disk.cache).length co69, .slice Ao70 ((grant E ⟨m26, 1 + m27, 1 + m58⟩).kern.exts).length co70]) rfl sz_45 (.t (.s (.s (.s .z)))) (.t .z) rfl (ones rfl) (.s4 (.s .z)) (Nat.le_of_ble_eq_true rfl) (.c .z (.c (.s .z) (.c (.s (.s .z)) (.c (.s (.s (.s .z))) (.c (.s (.s (.s (.s .z)))) .n)))))) ?_
 refine FJ.sl rfl ?_
 refine FJ.schN ?_
 refine FJ.drawN (by kernel_rfl) ?_
 refine FJ.then_ (FJ.seq (FJ.region (FJ.ql rfl (q_fieldAddr rfl (.t (.s (.s (.s .z)))) (fun _ => fa_45_0 _ _)) (FJ.ql rfl (q_load rfl ag_2 (.t .z) (WS.row .z rfl)) ?_))))
 refine FJ.ql rfl (q_eql rfl (.t .z) .c) (FJ.nil (FJ.then_ ?_))
 refine FJ.condP (.t .z) (fun b71 => ?_) (fun b71 => ?_)
 refine FJ.region (FJ.ql rfl (q_fieldAddr rfl (.t (.s4 (.s (.s .z)))) (fun _ => fa_45_2 _ _)) (FJ.ql rfl (q_loadA (cs := [.slice Ao68 ((grant E ⟨m26, 1 + m27, 1 + m58⟩).kern.disk.blocks).length co68, .slice Ao69 ((grant E ⟨m26, 1 + m27, 1 + m58⟩).kern.disk.cache).length co69, .slice Ao70 ((grant E ⟨m26, 1 + m27, 1 + m58⟩).kern.exts).length co70]) rfl ag_43 sz_43 (.t .z) (WS.rows .z (sub_at rfl))) ?_))
 refine FJ.es (goes_list rfl) rfl (es_store (off := 0) (cs := [.slice Ao68 ((grant E ⟨m26, 1 + m27, 1 + m58⟩).kern.disk.blocks).length co68, .slice Ao69 ((grant E ⟨m26, 1 + m27, 1 + m58⟩).kern.disk.cache).length co69, .slice Ao70 ((grant E ⟨m26, 1 + m27, 1 + m58⟩).kern.exts).length co70]) rfl sz_43 (.t (.s16 (.s (.s (.s .z))))) (.t .z) rfl (ones rfl) (.s4 (.s4 (.s .z))) (Nat.le_of_ble_eq_true rfl) (.c .z (.c (.s .z) (.c (.s (.s .z)) .n)))) ?_
 refine FJ.nil (FJ.inBN (FJ.then_ (FJ.region (FJ.ql rfl (q_move rfl (.t (.s16 (.s (.s .z))))) ?_))))
 refine FJ.ql rfl (q_sub (c := n - 1) rfl (.t .z) .c (wr (by omega) (by omega) (by omega))) ?_
 refine FJ.er (.s16 (.s4 .z)) (FJ.ql rfl (q_assign rfl (.t .z)) (FJ.nil ?_))
 refine FJ.again (Ao68, co68, Ao69, co69, Ao70, co70, n - 1, (((y + 1) + 1) + 1), (grant E ⟨m26, 1 + m27, 1 + m58⟩).kern) ⟨by omega, by omega, (by first | exact hE | exact grant_len hE (by assumption))⟩ (by first | omega | (dsimp only; omega)) (.c .z (.c (.s16 (.s4 (.s .z))) (.c (.s16 (.s4 (.s (.s .z)))) (.c (.s16 (.s4 (.s (.s (.s .z))))) .n)))) (fun _ h => h.sel (.c (.s4 (.s .z)) (.c (.s4 (.s .z)) (.c .z (.c (.s (.s .z)) (.c (.s (.s .z)) (.c (.s4 (.s .z)) .n)))))))
 refine FJ.skip (FJ.inBN (FJ.then_ (FJ.region (FJ.ql rfl (q_move rfl (.t (.s16 .z))) ?_))))
 refine FJ.ql rfl (q_sub (c := n - 1) rfl (.t .z) .c (wr (by omega) (by omega) (by omega))) ?_
 refine FJ.er (.s16 (.s (.s .z))) (FJ.ql rfl (q_assign rfl (.t .z)) (FJ.nil ?_))
 refine FJ.again (Agq0, cgq0, Agq1, cgq1, Agq2, cgq2, n - 1, (((y + 1) + 1) + 1), E) ⟨by omega, by omega, (by first | exact hE | exact grant_len hE (by assumption))⟩ (by first | omega | (dsimp only; omega)) (.c .z (.c (.s16 (.s (.s (.s .z)))) (.c (.s16 (.s4 .z)) (.c (.s16 (.s4 (.s .z))) .n)))) (fun _ h => h.sel (.c (.s4 (.s (.s .z))) (.c (.s4 (.s .z)) (.c (.s4 (.s (.s (.s .z)))) (.c (.s4 (.s .z)) (.c (.s4 (.s .z)) (.c (.s4 (.s .z)) .n)))))))
 refine FJ.e (goes_sch rfl rfl) rfl (by decide) rfl (e_alloc rfl z_45 rfl rfl) ?_
 rintro _ _ ⟨g72, rfl, rfl⟩
 refine FJ.sk (.s4 (.s .z)) ?_
 refine FJ.schN ?_
 refine FJ.sch [(4, false), (5, true), (7, false), (8, true), (9, false), (11, false)] 0 #[true, true, true, true, true, true, true, true, true, true, true, true] (by rfl) (by kernel_rfl) ?_
 refine FJ.call (goes_sch rfl rfl) rfl (by decide) rfl (c_call rfl Try.func95 rfl rfl (args2 (.t (.s (.s (.s .z)))) .c)) (.c (.s .z) .n) (fun w1 S1 hs tr => c_95 (tr.ctx hcd) _ hs (by omega) (by omega)) ?_
 rintro _ _ ⟨m73, h0m73, h1m73, rfl, rfl⟩
 refine FJ.cat (.c .n) ?_
 refine FJ.sk (.s4 (.s .z)) ?_
 refine FJ.dq rfl rfl rfl (by decide) rfl (.s4 (.s .z)) (q_add (c := 1 + m73) rfl .c (.t .z) (wr (by omega) (by omega) (by omega))) ?_
 refine FJ.call (goes_sch rfl rfl) rfl (by decide) rfl (c_call rfl Try.func95 rfl rfl (args2 (.t (.s4 .z)) .c)) (.c .z .n) (fun w1 S1 hs tr => c_95 (tr.ctx hcd) _ hs (by omega) (by omega)) ?_
 rintro _ _ ⟨m74, h0m74, h1m74, rfl, rfl⟩
 refine FJ.cat (.c .n) ?_
 refine FJ.sk (.s4 (.s .z)) ?_
 refine FJ.dq rfl rfl rfl (by decide) rfl (.s4 (.s .z)) (q_add (c := 1 + m74) rfl .c (.t .z) (wr (by omega) (by omega) (by omega))) ?_
 refine FJ.call (goes_sch rfl rfl) rfl (by decide) rfl (c_call rfl Try.func66 rfl rfl (args4 (.t (.s4 (.s4 (.s .z)))) (.t (.s4 (.s .z))) (.t (.s (.s .z))) (.t .z))) .n (fun w1 S1 hs tr => c_66 (kT_43_mk E (tr.own (.s (.s (.s .z)))) (tr.own (.s4 .z)) (tr.own (.s (.s .z)))) _ _ _) ?_
 rintro _ _ ⟨v75, v77, v79, v81, rfl, rfl⟩
 refine FJ.cat (.c (.c (.c (.c .n)))) ?_
 refine FJ.know (WS.oform .z) ?_
 rintro ⟨Ao83, co83, rfl, hlo83, hmo83, hbo83⟩
 refine FJ.know (WS.oform (.s .z)) ?_
 rintro ⟨Ao84, co84, rfl, hlo84, hmo84, hbo84⟩
 refine FJ.know (WS.oform (.s (.s .z))) ?_
 rintro ⟨Ao85, co85, rfl, hlo85, hmo85, hbo85⟩
 refine FJ.know (WS.oform (.s (.s (.s .z)))) ?_
 rintro ⟨Ao86, co86, rfl, hlo86, hmo86, hbo86⟩
 refine FJ.sk (.s4 (.s4 (.s .z))) ?_
 refine FJ.es (goes_sch rfl rfl) rfl (es_store (off := 0) (cs := [.int .i64 ((grant E ⟨m26, 1 + m73, 1 + m74⟩).code), .slice Ao83 ((grant E ⟨m26, 1 + m73, 1 + m74⟩).words).length co83, .slice Ao84 ((grant E ⟨m26, 1 + m73, 1 + m74⟩).kern.disk.blocks).length co84, .slice Ao85 ((grant E ⟨m26, 1 + m73, 1 + m74⟩).kern.disk.cache).length co85, .slice Ao86 ((grant E ⟨m26, 1 + m73, 1 + m74⟩).kern.exts).length co86]) rfl sz_45 (.t (.s4 (.s .z))) (.t .z) rfl (ones rfl) (.s4 (.s .z)) (Nat.le_of_ble_eq_true rfl) (.c .z (.c (.s .z) (.c (.s (.s .z)) (.c (.s (.s (.s .z))) (.c (.s (.s (.s (.s .z)))) .n)))))) ?_
 refine FJ.sl rfl ?_
 refine FJ.schN ?_
 refine FJ.drawN (by kernel_rfl) ?_
 refine FJ.then_ (FJ.seq (FJ.region (FJ.ql rfl (q_fieldAddr rfl (.t (.s4 (.s .z))) (fun _ => fa_45_0 _ _)) (FJ.ql rfl (q_load rfl ag_2 (.t .z) (WS.row .z rfl)) ?_))))
 refine FJ.ql rfl (q_eql rfl (.t .z) .c) (FJ.nil (FJ.then_ ?_))
 refine FJ.condP (.t .z) (fun b87 => ?_) (fun b87 => ?_)
 refine FJ.region (FJ.ql rfl (q_fieldAddr rfl (.t (.s4 (.s4 .z))) (fun _ => fa_45_2 _ _)) (FJ.ql rfl (q_loadA (cs := [.slice Ao84 ((grant E ⟨m26, 1 + m73, 1 + m74⟩).kern.disk.blocks).length co84, .slice Ao85 ((grant E ⟨m26, 1 + m73, 1 + m74⟩).kern.disk.cache).length co85, .slice Ao86 ((grant E ⟨m26, 1 + m73, 1 + m74⟩).kern.exts).length co86]) rfl ag_43 sz_43 (.t .z) (WS.rows .z (sub_at rfl))) ?_))
 refine FJ.es (goes_list rfl) rfl (es_store (off := 0) (cs := [.slice Ao84 ((grant E ⟨m26, 1 + m73, 1 + m74⟩).kern.disk.blocks).length co84, .slice Ao85 ((grant E ⟨m26, 1 + m73, 1 + m74⟩).kern.disk.cache).length co85, .slice Ao86 ((grant E ⟨m26, 1 + m73, 1 + m74⟩).kern.exts).length co86]) rfl sz_43 (.t (.s16 (.s (.s (.s .z))))) (.t .z) rfl (ones rfl) (.s4 (.s4 (.s .z))) (Nat.le_of_ble_eq_true rfl) (.c .z (.c (.s .z) (.c (.s (.s .z)) .n)))) ?_
 refine FJ.nil (FJ.inBN (FJ.then_ (FJ.region (FJ.ql rfl (q_move rfl (.t (.s16 (.s (.s .z))))) ?_))))
 refine FJ.ql rfl (q_sub (c := n - 1) rfl (.t .z) .c (wr (by omega) (by omega) (by omega))) ?_
 refine FJ.er (.s16 (.s4 .z)) (FJ.ql rfl (q_assign rfl (.t .z)) (FJ.nil ?_))
 refine FJ.again (Ao84, co84, Ao85, co85, Ao86, co86, n - 1, (((y + 1) + 1) + 1), (grant E ⟨m26, 1 + m73, 1 + m74⟩).kern) ⟨by omega, by omega, (by first | exact hE | exact grant_len hE (by assumption))⟩ (by first | omega | (dsimp only; omega)) (.c .z (.c (.s16 (.s4 (.s .z))) (.c (.s16 (.s4 (.s (.s .z)))) (.c (.s16 (.s4 (.s (.s (.s .z))))) .n)))) (fun _ h => h.sel (.c (.s4 (.s .z)) (.c (.s4 (.s .z)) (.c .z (.c (.s (.s .z)) (.c (.s (.s .z)) (.c (.s4 (.s .z)) .n)))))))
 refine FJ.skip (FJ.inBN (FJ.then_ (FJ.region (FJ.ql rfl (q_move rfl (.t (.s16 .z))) ?_))))
 refine FJ.ql rfl (q_sub (c := n - 1) rfl (.t .z) .c (wr (by omega) (by omega) (by omega))) ?_
 refine FJ.er (.s16 (.s (.s .z))) (FJ.ql rfl (q_assign rfl (.t .z)) (FJ.nil ?_))
 refine FJ.again (Agq0, cgq0, Agq1, cgq1, Agq2, cgq2, n - 1, (((y + 1) + 1) + 1), E) ⟨by omega, by omega, (by first | exact hE | exact grant_len hE (by assumption))⟩ (by first | omega | (dsimp only; omega)) (.c .z (.c (.s16 (.s (.s (.s .z)))) (.c (.s16 (.s4 .z)) (.c (.s16 (.s4 (.s .z))) .n)))) (fun _ h => h.sel (.c (.s4 (.s (.s .z))) (.c (.s4 (.s .z)) (.c (.s4 (.s (.s (.s .z)))) (.c (.s4 (.s .z)) (.c (.s4 (.s .z)) (.c (.s4 (.s .z)) .n)))))))
 refine FJ.e (goes_sch rfl rfl) rfl (by decide) rfl (e_alloc rfl z_45 rfl rfl) ?_
 rintro _ _ ⟨g88, rfl, rfl⟩
 refine FJ.sk (.s4 (.s .z)) ?_
 refine FJ.schN ?_
 refine FJ.sch [(2, false), (4, false), (5, true), (7, false), (8, true), (9, false), (11, false)] 0 #[true, true, true, true, true, true, true, true, true, true, true, true] (by rfl) (by kernel_rfl) ?_
 refine FJ.call (goes_sch rfl rfl) rfl (by decide) rfl (c_call rfl Try.func95 rfl rfl (args2 (.t (.s (.s (.s .z)))) .c)) (.c (.s (.s .z)) .n) (fun w1 S1 hs tr => c_95 (tr.ctx hcd) _ hs (by omega) (by omega)) ?_
 rintro _ _ ⟨m89, h0m89, h1m89, rfl, rfl⟩
 refine FJ.cat (.c .n) ?_
 refine FJ.sk (.s4 (.s .z)) ?_
 refine FJ.call (goes_sch rfl rfl) rfl (by decide) rfl (c_call rfl Try.func95 rfl rfl (args2 (.t (.s (.s (.s .z)))) .c)) (.c .z .n) (fun w1 S1 hs tr => c_95 (tr.ctx hcd) _ hs (by omega) (by omega)) ?_
 rintro _ _ ⟨m90, h0m90, h1m90, rfl, rfl⟩
 refine FJ.cat (.c .n) ?_
 refine FJ.sk (.s4 (.s .z)) ?_
 refine FJ.dq rfl rfl rfl (by decide) rfl (.s4 (.s .z)) (q_add (c := 1 + m90) rfl .c (.t .z) (wr (by omega) (by omega) (by omega))) ?_
 refine FJ.call (goes_sch rfl rfl) rfl (by decide) rfl (c_call rfl Try.func95 rfl rfl (args2 (.t (.s4 .z)) .c)) (.c .z .n) (fun w1 S1 hs tr => c_95 (tr.ctx hcd) _ hs (by omega) (by omega)) ?_
 rintro _ _ ⟨m91, h0m91, h1m91, rfl, rfl⟩
 refine FJ.cat (.c .n) ?_
 refine FJ.sk (.s4 (.s .z)) ?_
 refine FJ.dq rfl rfl rfl (by decide) rfl (.s4 (.s .z)) (q_add (c := 1 + m91) rfl .c (.t .z) (wr (by omega) (by omega) (by omega))) ?_
 refine FJ.call (goes_sch rfl rfl) rfl (by decide) rfl (c_call rfl Try.func66 rfl rfl (args4 (.t (.s4 (.s4 (.s .z)))) (.t (.s4 .z)) (.t (.s (.s .z))) (.t .z))) .n (fun w1 S1 hs tr => c_66 (kT_43_mk E (tr.own (.s (.s (.s .z)))) (tr.own (.s4 .z)) (tr.own (.s (.s .z)))) _ _ _) ?_
 rintro _ _ ⟨v92, v94, v96, v98, rfl, rfl⟩
 refine FJ.cat (.c (.c (.c (.c .n)))) ?_
 refine FJ.know (WS.oform .z) ?_
 rintro ⟨Ao100, co100, rfl, hlo100, hmo100, hbo100⟩
 refine FJ.know (WS.oform (.s .z)) ?_
 rintro ⟨Ao101, co101, rfl, hlo101, hmo101, hbo101⟩
 refine FJ.know (WS.oform (.s (.s .z))) ?_
 rintro ⟨Ao102, co102, rfl, hlo102, hmo102, hbo102⟩
 refine FJ.know (WS.oform (.s (.s (.s .z)))) ?_
 rintro ⟨Ao103, co103, rfl, hlo103, hmo103, hbo103⟩
 refine FJ.sk (.s4 (.s4 (.s .z))) ?_
 refine FJ.es (goes_sch rfl rfl) rfl (es_store (off := 0) (cs := [.int .i64 ((grant E ⟨m89, 1 + m90, 1 + m91⟩).code), .slice Ao100 ((grant E ⟨m89, 1 + m90, 1 + m91⟩).words).length co100, .slice Ao101 ((grant E ⟨m89, 1 + m90, 1 + m91⟩).kern.disk.blocks).length co101, .slice Ao102 ((grant E ⟨m89, 1 + m90, 1 + m91⟩).kern.disk.cache).length co102, .slice Ao103 ((grant E ⟨m89, 1 + m90, 1 + m91⟩).kern.exts).length co103]) rfl sz_45 (.t (.s4 (.s (.s .z)))) (.t .z) rfl (ones rfl) (.s4 (.s .z)) (Nat.le_of_ble_eq_true rfl) (.c .z (.c (.s .z) (.c (.s (.s .z)) (.c (.s (.s (.s .z))) (.c (.s (.s (.s (.s .z)))) .n)))))) ?_
 refine FJ.sl rfl ?_
 refine FJ.schN ?_
 refine FJ.drawN (by kernel_rfl) ?_
 refine FJ.then_ (FJ.seq (FJ.region (FJ.ql rfl (q_fieldAddr rfl (.t (.s4 (.s (.s .z)))) (fun _ => fa_45_0 _ _)) (FJ.ql rfl (q_load rfl ag_2 (.t .z) (WS.row .z rfl)) ?_))))
 refine FJ.ql rfl (q_eql rfl (.t .z) .c) (FJ.nil (FJ.then_ ?_))
 refine FJ.condP (.t .z) (fun b104 => ?_) (fun b104 => ?_)
 refine FJ.region (FJ.ql rfl (q_fieldAddr rfl (.t (.s4 (.s4 (.s .z)))) (fun _ => fa_45_2 _ _)) (FJ.ql rfl (q_loadA (cs := [.slice Ao101 ((grant E ⟨m89, 1 + m90, 1 + m91⟩).kern.disk.blocks).length co101, .slice Ao102 ((grant E ⟨m89, 1 + m90, 1 + m91⟩).kern.disk.cache).length co102, .slice Ao103 ((grant E ⟨m89, 1 + m90, 1 + m91⟩).kern.exts).length co103]) rfl ag_43 sz_43 (.t .z) (WS.rows .z (sub_at rfl))) ?_))
 refine FJ.es (goes_list rfl) rfl (es_store (off := 0) (cs := [.slice Ao101 ((grant E ⟨m89, 1 + m90, 1 + m91⟩).kern.disk.blocks).length co101, .slice Ao102 ((grant E ⟨m89, 1 + m90, 1 + m91⟩).kern.disk.cache).length co102, .slice Ao103 ((grant E ⟨m89, 1 + m90, 1 + m91⟩).kern.exts).length co103]) rfl sz_43 (.t (.s16 (.s (.s (.s .z))))) (.t .z) rfl (ones rfl) (.s4 (.s4 (.s .z))) (Nat.le_of_ble_eq_true rfl) (.c .z (.c (.s .z) (.c (.s (.s .z)) .n)))) ?_
 refine FJ.nil (FJ.inBN (FJ.then_ (FJ.region (FJ.ql rfl (q_move rfl (.t (.s16 (.s (.s .z))))) ?_))))
 refine FJ.ql rfl (q_sub (c := n - 1) rfl (.t .z) .c (wr (by omega) (by omega) (by omega))) ?_
 refine FJ.er (.s16 (.s4 .z)) (FJ.ql rfl (q_assign rfl (.t .z)) (FJ.nil ?_))
 refine FJ.again (Ao101, co101, Ao102, co102, Ao103, co103, n - 1, (((y + 1) + 1) + 1), (grant E ⟨m89, 1 + m90, 1 + m91⟩).kern) ⟨by omega, by omega, (by first | exact hE | exact grant_len hE (by assumption))⟩ (by first | omega | (dsimp only; omega)) (.c .z (.c (.s16 (.s4 (.s .z))) (.c (.s16 (.s4 (.s (.s .z)))) (.c (.s16 (.s4 (.s (.s (.s .z))))) .n)))) (fun _ h => h.sel (.c (.s4 (.s .z)) (.c (.s4 (.s .z)) (.c .z (.c (.s (.s .z)) (.c (.s (.s .z)) (.c (.s4 (.s .z)) .n)))))))
 refine FJ.skip (FJ.inBN (FJ.then_ (FJ.region (FJ.ql rfl (q_move rfl (.t (.s16 .z))) ?_))))
 refine FJ.ql rfl (q_sub (c := n - 1) rfl (.t .z) .c (wr (by omega) (by omega) (by omega))) ?_
 refine FJ.er (.s16 (.s (.s .z))) (FJ.ql rfl (q_assign rfl (.t .z)) (FJ.nil ?_))
 refine FJ.again (Agq0, cgq0, Agq1, cgq1, Agq2, cgq2, n - 1, (((y + 1) + 1) + 1), E) ⟨by omega, by omega, (by first | exact hE | exact grant_len hE (by assumption))⟩ (by first | omega | (dsimp only; omega)) (.c .z (.c (.s16 (.s (.s (.s .z)))) (.c (.s16 (.s4 .z)) (.c (.s16 (.s4 (.s .z))) .n)))) (fun _ h => h.sel (.c (.s4 (.s (.s .z))) (.c (.s4 (.s .z)) (.c (.s4 (.s (.s (.s .z)))) (.c (.s4 (.s .z)) (.c (.s4 (.s .z)) (.c (.s4 (.s .z)) .n)))))))
 refine FJ.exit (FJ.thenE (FJ.thenE (FJ.inB (FJ.then_ ?_))))
 refine FJ.seq (FJ.seq (FJ.region (FJ.ql rfl (q_move rfl (.t (.s4 (.s .z)))) ?_)))
 refine FJ.call (goes_list rfl) rfl (by decide) rfl (c_call rfl Try.func95 rfl rfl (args2 (.t .z) .c)) (.c (.s .z) .n) (fun w1 S1 hs tr => c_95 (tr.ctx hcd) _ hs (by omega) (by omega)) ?_
 rintro _ _ ⟨m105, h0m105, h1m105, rfl, rfl⟩
 refine FJ.cat (.c .n) ?_
 refine FJ.nil (FJ.then_ (FJ.block (FJ.seq (FJ.region ?_))))
 refine FJ.ql rfl (q_eql rfl (.t .z) .c) (FJ.ql rfl (q_assign rfl (.t .z)) (FJ.nil (FJ.then_ ?_)))
 refine FJ.condP (.t .z) (fun b106 => ?_) (fun b106 => ?_)
 refine FJ.region (FJ.ql rfl (q_move rfl (.t (.s4 (.s4 (.s .z))))) ?_)
 refine FJ.call (goes_list rfl) rfl (by decide) rfl (c_call rfl Try.func93 rfl rfl (args1 (.t .z))) (.c .z .n) (fun w1 S1 hs tr => c_93 (tr.ctx hcd) hs (by omega)) ?_
 rintro _ _ ⟨d107, v109, v111, u108, hzd107, rfl, rfl⟩
 refine FJ.cat (.c (.c (.c .n))) ?_
 refine FJ.know (WS.oform .z) ?_
 rintro ⟨Ao113, co113, rfl, hlo113, hmo113, hbo113⟩
 refine FJ.know (WS.oform (.s .z)) ?_
 rintro ⟨Ao114, co114, rfl, hlo114, hmo114, hbo114⟩
 refine FJ.ql rfl (q_fieldAddr rfl (.t (.s4 (.s4 (.s .z)))) (fun _ => fa_43_0 _ _)) ?_
 refine FJ.es (goes_list rfl) rfl (es_store (off := 0) (cs := [.slice Ao113 d107.blocks.length co113, .slice Ao114 d107.cache.length co114]) rfl sz_25 (.t .z) (.t (.s .z)) rfl (ones rfl) (.s4 .z) (Nat.le_of_ble_eq_true rfl) (.c .z (.c (.s .z) .n))) ?_
 refine FJ.nil (FJ.inBN (FJ.then_ (FJ.seq (FJ.region ?_))))
 refine FJ.ql rfl (q_loadA (cs := [.slice Ao113 d107.blocks.length co113, .slice Ao114 d107.cache.length co114, .slice Agq2 E.exts.length cgq2]) rfl ag_43 sz_43 (.t (.s4 (.s4 (.s (.s .z))))) (WS.rows0 .z (fun i u h => by exact h))) ?_
 refine FJ.es (goes_list rfl) rfl (es_store (off := 0) (cs := [.slice Ao113 d107.blocks.length co113, .slice Ao114 d107.cache.length co114, .slice Agq2 E.exts.length cgq2]) rfl sz_43 (.t (.s4 (.s4 (.s4 .z)))) (.t .z) rfl (ones rfl) (.s4 (.s (.s (.s .z)))) (Nat.le_of_ble_eq_true rfl) (.c .z (.c (.s .z) (.c (.s (.s .z)) .n)))) ?_
 refine FJ.nil (FJ.then_ (FJ.ret ?_))
 refine FJ.doneS (resC (cs := [.slice Ao113 d107.blocks.length co113, .slice Ao114 d107.cache.length co114, .slice Agq2 E.exts.length cgq2]) rfl (.s4 (.s4 (.s4 .z))) ag_43 sz_43 (WS.rows0 (cs := [.slice Ao113 d107.blocks.length co113, .slice Ao114 d107.cache.length co114, .slice Agq2 E.exts.length cgq2]) .z (fun _ _ h => h))) (.c (.s (.s .z)) (.c (.s (.s .z)) (.c (.s (.s (.s .z))) (.c (.s (.s .z)) .n)))) ?_
 exact ⟨⟨⟨d107.blocks, d107.cache⟩, E.exts⟩, _, _, _, _, ⟨by first | omega | (dsimp only; omega) | (simp only [List.length_append, List.length_cons, List.length_nil, List.length_replicate]; omega), by first | omega | (dsimp only; omega) | (simp only [List.length_append, List.length_cons, List.length_nil, List.length_replicate]; omega), by first | omega | (dsimp only; omega) | (simp only [List.length_append, List.length_cons, List.length_nil, List.length_replicate]; omega), by omega, by omega⟩, rfl, rfl⟩
 refine FJ.seq (FJ.region (FJ.ql rfl (q_eql rfl (.t (.s (.s .z))) .c) (FJ.ql rfl (q_assign rfl (.t .z)) (FJ.nil ?_))))
 refine FJ.then_ ?_
 refine FJ.condP (.t .z) (fun b115 => ?_) (fun b115 => ?_)
 refine FJ.sel (.c .z (.c .z (.c (.s .z) (.c (.s .z) (.c .z (.c .z .n)))))) ?_
 refine FJ.draw [rowA g22 43 3 1 [.slice Agq0 E.disk.blocks.length cgq0, .slice Agq1 E.disk.cache.length cgq1, .slice Agq2 E.exts.length cgq2], rowA g2 43 3 1 [.slice none 0 0, .slice none 0 0, .slice none 0 0]] 15 (by kernel_rfl) ?_
 refine FJ.sch [(0, true), (1, true), (2, true), (5, true), (8, true)] 11 #[true, true, true, false, false, true, false, false, true, false, false, false, false, false, false, false] (by rfl) (by kernel_rfl) ?_
 refine FJ.dq rfl rfl rfl (by decide) rfl (.s4 .z) (q_fieldAddr rfl (.t (.s4 (.s4 (.s .z)))) (fun _ => fa_43_1 _ _)) (FJ.dq rfl rfl rfl (by decide) rfl (.s4 .z) (q_load rfl ag_41 (.t .z) (WS.row .z rfl)) (FJ.dq rfl rfl rfl (by decide) rfl (.s4 .z) (q_move rfl (.t (.s4 (.s4 (.s4 (.s .z)))))) (FJ.dq rfl rfl rfl (by decide) rfl (.s4 .z) (q_move rfl (.t (.s4 (.s4 (.s4 (.s (.s .z))))))) (FJ.dq rfl rfl rfl (by decide) rfl (.s4 .z) (q_move rfl (.t (.s4 (.s4 (.s4 (.s (.s (.s .z)))))))) ?_))))
 refine FJ.schN ?_
 refine FJ.fork3 (i := 3) (j := 6) (k := 9) (by kernel_rfl) ?_ ?_ ?_
 refine FJ.e (goes_sch rfl rfl) rfl (by decide) rfl (e_buildSliceL (ps := [(0, .int .i64 0), (1, .int .i64 3), (2, .int .i64 (-1))]) (cs := [.int .i64 0, .int .i64 3, .int .i64 (-1)]) rfl u_40 (inz inf_2) (by decide) (by intro act hact; simp only [List.map_toArray, List.map_cons, List.map_nil, (show Val _ _ _ from .c) act hact, (show Val _ _ _ from .c) act hact, (show Val _ _ _ from .c) act hact]) rfl rfl (by decide) rfl rfl) ?_
 rintro _ _ ⟨g116, rfl, rfl⟩
 refine FJ.sk (.s4 (.s .z)) ?_
 refine FJ.schN ?_
 refine FJ.sch [] 10 #[true, true, true, true, false, true, false, false, true, false, false, false, false, false, false, false] (by rfl) (by kernel_rfl) ?_
 refine FJ.schN ?_
 refine FJ.fork3 (i := 4) (j := 6) (k := 9) (by kernel_rfl) ?_ ?_ ?_
 refine FJ.turns (c := ownA kSl_2 ([0, 3, (-1)] : (List Int)) [.slice (some ⟨g116, 0, none⟩) 3 3]) (.c .z .n) (fun w S h => lit_own (xs := ([0, 3, (-1)] : (List Int))) h rfl (by simp) (by omega) (by omega)) ?_
 refine FJ.call (goes_sch rfl rfl) rfl (by decide) rfl (c_call rfl Try.func120 rfl rfl (args2 (.t (.s (.s (.s .z)))) (.t .z))) (.c (.s .z) .n) (fun w1 S1 hs tr => c_120 (tr.ctx hcd) (tr.own .z) hs (by omega) (by simp)) ?_
 rintro _ _ ⟨m118, hm118, rfl, rfl⟩
 refine FJ.cat (.c .n) ?_
 simp only [List.mem_cons, List.not_mem_nil, or_false] at hm118
 refine FJ.sk (.s4 (.s .z)) ?_
 refine FJ.schN ?_
 refine FJ.sch [] 9 #[true, true, true, true, true, true, false, false, true, false, false, false, false, false, false, false] (by rfl) (by kernel_rfl) ?_
 refine FJ.schN ?_
 refine FJ.fork2 (i := 6) (j := 9) (by kernel_rfl) ?_ ?_
 refine FJ.e (goes_sch rfl rfl) rfl (by decide) rfl (e_buildSliceL (ps := [(0, .int .i64 1), (1, .int .i64 0), (2, .int .i64 60)]) (cs := [.int .i64 1, .int .i64 0, .int .i64 60]) rfl u_40 (inz inf_2) (by decide) (by intro act hact; simp only [List.map_toArray, List.map_cons, List.map_nil, (show Val _ _ _ from .c) act hact, (show Val _ _ _ from .c) act hact, (show Val _ _ _ from .c) act hact]) rfl rfl (by decide) rfl rfl) ?_
 rintro _ _ ⟨g119, rfl, rfl⟩
 refine FJ.sk (.s4 (.s (.s .z))) ?_
 refine FJ.schN ?_
 refine FJ.sch [] 8 #[true, true, true, true, true, true, true, false, true, false, false, false, false, false, false, false] (by rfl) (by kernel_rfl) ?_
 refine FJ.schN ?_
 refine FJ.fork2 (i := 7) (j := 9) (by kernel_rfl) ?_ ?_
 refine FJ.turns (c := ownA kSl_2 ([1, 0, 60] : (List Int)) [.slice (some ⟨g119, 0, none⟩) 3 3]) (.c .z .n) (fun w S h => lit_own (xs := ([1, 0, 60] : (List Int))) h rfl (by simp) (by omega) (by omega)) ?_
 refine FJ.call (goes_sch rfl rfl) rfl (by decide) rfl (c_call rfl Try.func120 rfl rfl (args2 (.t (.s4 .z)) (.t .z))) (.c (.s .z) .n) (fun w1 S1 hs tr => c_120 (tr.ctx hcd) (tr.own .z) hs (by omega) (by simp)) ?_
 rintro _ _ ⟨m121, hm121, rfl, rfl⟩
 refine FJ.cat (.c .n) ?_
 simp only [List.mem_cons, List.not_mem_nil, or_false] at hm121
 refine FJ.sk (.s4 (.s (.s .z))) ?_
 refine FJ.schN ?_
 refine FJ.sch [(9, false), (10, false), (11, true), (12, false), (13, false), (14, true), (15, false)] 0 #[true, true, true, true, true, true, true, true, true, true, true, true, true, true, true, true] (by rfl) (by kernel_rfl) ?_
 refine FJ.e (goes_sch rfl rfl) rfl (by decide) rfl (e_buildSliceL (ps := [(0, .int .i64 1), (1, .int .i64 0), (2, .int .i64 10000)]) (cs := [.int .i64 1, .int .i64 0, .int .i64 10000]) rfl u_40 (inz inf_2) (by decide) (by intro act hact; simp only [List.map_toArray, List.map_cons, List.map_nil, (show Val _ _ _ from .c) act hact, (show Val _ _ _ from .c) act hact, (show Val _ _ _ from .c) act hact]) rfl rfl (by decide) rfl rfl) ?_
 rintro _ _ ⟨g122, rfl, rfl⟩
 refine FJ.sk (.s4 (.s (.s (.s .z)))) ?_
 refine FJ.turns (c := ownA kSl_2 ([1, 0, 10000] : (List Int)) [.slice (some ⟨g122, 0, none⟩) 3 3]) (.c .z .n) (fun w S h => lit_own (xs := ([1, 0, 10000] : (List Int))) h rfl (by simp) (by omega) (by omega)) ?_
 refine FJ.call (goes_sch rfl rfl) rfl (by decide) rfl (c_call rfl Try.func120 rfl rfl (args2 (.t (.s4 (.s .z))) (.t .z))) (.c (.s .z) .n) (fun w1 S1 hs tr => c_120 (tr.ctx hcd) (tr.own .z) hs (by omega) (by simp)) ?_
 rintro _ _ ⟨m124, hm124, rfl, rfl⟩
 refine FJ.cat (.c .n) ?_
 simp only [List.mem_cons, List.not_mem_nil, or_false] at hm124
 refine FJ.sk (.s4 (.s (.s (.s .z)))) ?_
 refine FJ.dq rfl rfl rfl (by decide) rfl (.s4 (.s (.s (.s .z)))) (q_build (ps := [(0, .int .i64 m118), (1, .int .i64 m121), (2, .int .i64 m124)]) (cs := [.int .i64 m118, .int .i64 m121, .int .i64 m124]) rfl bl_135 (by intro act hact; simp only [List.map_toArray, List.map_cons, List.map_nil, (show Val _ _ _ from (.t (.s4 .z))) act hact, (show Val _ _ _ from (.t (.s (.s .z)))) act hact, (show Val _ _ _ from (.t .z)) act hact]) rfl) ?_
 refine FJ.e (goes_sch rfl rfl) rfl (by decide) rfl (e_buildSliceL (ps := [(0, .agg #[.int .i64 m118, .int .i64 m121, .int .i64 m124])]) (cs := [.int .i64 m118, .int .i64 m121, .int .i64 m124]) rfl u_41 (inz inf_135) (by decide) (by intro act hact; simp only [List.map_toArray, List.map_cons, List.map_nil, (show Val _ _ _ from (.t .z)) act hact]) rfl rfl (by decide) rfl rfl) ?_
 rintro _ _ ⟨g125, rfl, rfl⟩
 refine FJ.sk (.s4 (.s4 .z)) ?_
 refine FJ.turns (c := ownA kT_135 (⟨m118, m121, m124⟩ : DExt) [.int .i64 m118, .int .i64 m121, .int .i64 m124]) .n (fun w S h => kT_135_omk (⟨m118, m121, m124⟩ : DExt) h) ?_
 refine FJ.e (goes_sch rfl rfl) rfl (by decide) rfl (e_append1 rfl u_41 inf_135 rfl (.t (.s4 (.s4 (.s (.s (.s .z)))))) (.t .z) (.c (.s4 (.s (.s .z))) (.c (.s .z) (.c .z .n))) (by first | omega | (simp only [List.length_append, List.length_cons, List.length_nil, List.length_replicate]; omega)) (by first | omega | (simp only [List.length_append, List.length_cons, List.length_nil, List.length_replicate]; omega))) ?_
 rintro _ _ rfl
 refine FJ.know (WS.oform .z) ?_
 rintro ⟨Ao127, co127, rfl, hlo127, hmo127, hbo127⟩
 refine FJ.sk (.s4 (.s (.s (.s .z)))) ?_
 refine FJ.dq rfl rfl rfl (by decide) rfl (.s4 (.s (.s (.s .z)))) (q_fieldAddr rfl (.t (.s16 (.s4 (.s (.s (.s .z)))))) (fun _ => fa_43_1 _ _)) ?_
 refine FJ.es (goes_sch rfl rfl) rfl (es_store (off := 2) (cs := [.slice Ao127 (E.exts ++ [(⟨m118, m121, m124⟩ : DExt)]).length co127]) rfl sz_41 (.t .z) (.t (.s .z)) rfl (ones rfl) (.s4 (.s (.s (.s .z)))) (Nat.le_of_ble_eq_true rfl) (.c (.s (.s .z)) .n)) ?_
 refine FJ.sl rfl ?_
 refine FJ.schN ?_
 refine FJ.drawN (by kernel_rfl) ?_
 refine FJ.inBN (FJ.then_ (FJ.seq (FJ.region ?_)))
 refine FJ.ql rfl (q_loadA (cs := [.slice Agq0 E.disk.blocks.length cgq0, .slice Agq1 E.disk.cache.length cgq1, .slice Ao127 (E.exts ++ [(⟨m118, m121, m124⟩ : DExt)]).length co127]) rfl ag_43 sz_43 (.t (.s16 (.s4 (.s4 .z)))) (WS.rows0 .z (fun i u h => by exact h))) ?_
 refine FJ.es (goes_list rfl) rfl (es_store (off := 0) (cs := [.slice Agq0 E.disk.blocks.length cgq0, .slice Agq1 E.disk.cache.length cgq1, .slice Ao127 (E.exts ++ [(⟨m118, m121, m124⟩ : DExt)]).length co127]) rfl sz_43 (.t (.s16 (.s4 (.s4 (.s (.s .z)))))) (.t .z) rfl (ones rfl) (.s4 (.s4 .z)) (Nat.le_of_ble_eq_true rfl) (.c .z (.c (.s .z) (.c (.s (.s .z)) .n)))) ?_
 refine FJ.nil (FJ.then_ (FJ.ret ?_))
 refine FJ.doneS (resC (cs := [.slice Agq0 E.disk.blocks.length cgq0, .slice Agq1 E.disk.cache.length cgq1, .slice Ao127 (E.exts ++ [(⟨m118, m121, m124⟩ : DExt)]).length co127]) rfl (.s16 (.s4 (.s4 (.s (.s .z))))) ag_43 sz_43 (WS.rows0 (cs := [.slice Agq0 E.disk.blocks.length cgq0, .slice Agq1 E.disk.cache.length cgq1, .slice Ao127 (E.exts ++ [(⟨m118, m121, m124⟩ : DExt)]).length co127]) .z (fun _ _ h => h))) (.c (.s4 (.s (.s (.s .z)))) (.c (.s4 (.s (.s (.s .z)))) (.c (.s (.s .z)) (.c (.s (.s .z)) .n)))) ?_
 exact ⟨⟨⟨E.disk.blocks, E.disk.cache⟩, E.exts ++ [(⟨m118, m121, m124⟩ : DExt)]⟩, _, _, _, _, ⟨by first | omega | (dsimp only; omega) | (simp only [List.length_append, List.length_cons, List.length_nil, List.length_replicate]; omega), by first | omega | (dsimp only; omega) | (simp only [List.length_append, List.length_cons, List.length_nil, List.length_replicate]; omega), by first | omega | (dsimp only; omega) | (simp only [List.length_append, List.length_cons, List.length_nil, List.length_replicate]; omega), by omega, by omega⟩, rfl, rfl⟩
 refine FJ.e (goes_sch rfl rfl) rfl (by decide) rfl (e_buildSliceL (ps := [(0, .int .i64 1), (1, .int .i64 0), (2, .int .i64 10000)]) (cs := [.int .i64 1, .int .i64 0, .int .i64 10000]) rfl u_40 (inz inf_2) (by decide) (by intro act hact; simp only [List.map_toArray, List.map_cons, List.map_nil, (show Val _ _ _ from .c) act hact, (show Val _ _ _ from .c) act hact, (show Val _ _ _ from .c) act hact]) rfl rfl (by decide) rfl rfl) ?_
 rintro _ _ ⟨g128, rfl, rfl⟩
 refine FJ.sk (.s4 (.s (.s (.s .z)))) ?_
 refine FJ.schN ?_
 refine FJ.sch [(7, false), (10, false), (11, true), (12, false), (13, false), (14, true), (15, false)] 0 #[true, true, true, true, true, true, true, true, true, true, true, true, true, true, true, true] (by rfl) (by kernel_rfl) ?_
 refine FJ.turns (c := ownA kSl_2 ([1, 0, 60] : (List Int)) [.slice (some ⟨g119, 0, none⟩) 3 3]) (.c (.s .z) .n) (fun w S h => lit_own (xs := ([1, 0, 60] : (List Int))) h rfl (by simp) (by omega) (by omega)) ?_
 refine FJ.call (goes_sch rfl rfl) rfl (by decide) rfl (c_call rfl Try.func120 rfl rfl (args2 (.t (.s4 (.s .z))) (.t (.s .z)))) (.c (.s (.s .z)) .n) (fun w1 S1 hs tr => c_120 (tr.ctx hcd) (tr.own .z) hs (by omega) (by simp)) ?_
 rintro _ _ ⟨m130, hm130, rfl, rfl⟩
 refine FJ.cat (.c .n) ?_
 simp only [List.mem_cons, List.not_mem_nil, or_false] at hm130
 refine FJ.sk (.s4 (.s (.s (.s .z)))) ?_
 refine FJ.turns (c := ownA kSl_2 ([1, 0, 10000] : (List Int)) [.slice (some ⟨g128, 0, none⟩) 3 3]) (.c (.s (.s .z)) .n) (fun w S h => lit_own (xs := ([1, 0, 10000] : (List Int))) h rfl (by simp) (by omega) (by omega)) ?_
 refine FJ.call (goes_sch rfl rfl) rfl (by decide) rfl (c_call rfl Try.func120 rfl rfl (args2 (.t (.s4 (.s .z))) (.t (.s .z)))) (.c (.s .z) .n) (fun w1 S1 hs tr => c_120 (tr.ctx hcd) (tr.own .z) hs (by omega) (by simp)) ?_
 rintro _ _ ⟨m132, hm132, rfl, rfl⟩
 refine FJ.cat (.c .n) ?_
 simp only [List.mem_cons, List.not_mem_nil, or_false] at hm132
 refine FJ.sk (.s4 (.s (.s (.s .z)))) ?_
 refine FJ.dq rfl rfl rfl (by decide) rfl (.s4 (.s (.s (.s .z)))) (q_build (ps := [(0, .int .i64 m118), (1, .int .i64 m130), (2, .int .i64 m132)]) (cs := [.int .i64 m118, .int .i64 m130, .int .i64 m132]) rfl bl_135 (by intro act hact; simp only [List.map_toArray, List.map_cons, List.map_nil, (show Val _ _ _ from (.t (.s4 .z))) act hact, (show Val _ _ _ from (.t (.s .z))) act hact, (show Val _ _ _ from (.t .z)) act hact]) rfl) ?_
 refine FJ.e (goes_sch rfl rfl) rfl (by decide) rfl (e_buildSliceL (ps := [(0, .agg #[.int .i64 m118, .int .i64 m130, .int .i64 m132])]) (cs := [.int .i64 m118, .int .i64 m130, .int .i64 m132]) rfl u_41 (inz inf_135) (by decide) (by intro act hact; simp only [List.map_toArray, List.map_cons, List.map_nil, (show Val _ _ _ from (.t .z)) act hact]) rfl rfl (by decide) rfl rfl) ?_
 rintro _ _ ⟨g133, rfl, rfl⟩
 refine FJ.sk (.s4 (.s4 .z)) ?_
 refine FJ.turns (c := ownA kT_135 (⟨m118, m130, m132⟩ : DExt) [.int .i64 m118, .int .i64 m130, .int .i64 m132]) .n (fun w S h => kT_135_omk (⟨m118, m130, m132⟩ : DExt) h) ?_
 refine FJ.e (goes_sch rfl rfl) rfl (by decide) rfl (e_append1 rfl u_41 inf_135 rfl (.t (.s4 (.s4 (.s (.s (.s .z)))))) (.t .z) (.c (.s4 (.s (.s .z))) (.c (.s .z) (.c .z .n))) (by first | omega | (simp only [List.length_append, List.length_cons, List.length_nil, List.length_replicate]; omega)) (by first | omega | (simp only [List.length_append, List.length_cons, List.length_nil, List.length_replicate]; omega))) ?_
 rintro _ _ rfl
 refine FJ.know (WS.oform .z) ?_
 rintro ⟨Ao135, co135, rfl, hlo135, hmo135, hbo135⟩
 refine FJ.sk (.s4 (.s (.s (.s .z)))) ?_
 refine FJ.dq rfl rfl rfl (by decide) rfl (.s4 (.s (.s (.s .z)))) (q_fieldAddr rfl (.t (.s16 (.s4 (.s (.s (.s .z)))))) (fun _ => fa_43_1 _ _)) ?_
 refine FJ.es (goes_sch rfl rfl) rfl (es_store (off := 2) (cs := [.slice Ao135 (E.exts ++ [(⟨m118, m130, m132⟩ : DExt)]).length co135]) rfl sz_41 (.t .z) (.t (.s .z)) rfl (ones rfl) (.s4 (.s (.s (.s .z)))) (Nat.le_of_ble_eq_true rfl) (.c (.s (.s .z)) .n)) ?_
 refine FJ.sl rfl ?_
 refine FJ.schN ?_
 refine FJ.drawN (by kernel_rfl) ?_
 refine FJ.inBN (FJ.then_ (FJ.seq (FJ.region ?_)))
 refine FJ.ql rfl (q_loadA (cs := [.slice Agq0 E.disk.blocks.length cgq0, .slice Agq1 E.disk.cache.length cgq1, .slice Ao135 (E.exts ++ [(⟨m118, m130, m132⟩ : DExt)]).length co135]) rfl ag_43 sz_43 (.t (.s16 (.s4 (.s4 .z)))) (WS.rows0 .z (fun i u h => by exact h))) ?_
 refine FJ.es (goes_list rfl) rfl (es_store (off := 0) (cs := [.slice Agq0 E.disk.blocks.length cgq0, .slice Agq1 E.disk.cache.length cgq1, .slice Ao135 (E.exts ++ [(⟨m118, m130, m132⟩ : DExt)]).length co135]) rfl sz_43 (.t (.s16 (.s4 (.s4 (.s (.s .z)))))) (.t .z) rfl (ones rfl) (.s4 (.s4 .z)) (Nat.le_of_ble_eq_true rfl) (.c .z (.c (.s .z) (.c (.s (.s .z)) .n)))) ?_
 refine FJ.nil (FJ.then_ (FJ.ret ?_))
 refine FJ.doneS (resC (cs := [.slice Agq0 E.disk.blocks.length cgq0, .slice Agq1 E.disk.cache.length cgq1, .slice Ao135 (E.exts ++ [(⟨m118, m130, m132⟩ : DExt)]).length co135]) rfl (.s16 (.s4 (.s4 (.s (.s .z))))) ag_43 sz_43 (WS.rows0 (cs := [.slice Agq0 E.disk.blocks.length cgq0, .slice Agq1 E.disk.cache.length cgq1, .slice Ao135 (E.exts ++ [(⟨m118, m130, m132⟩ : DExt)]).length co135]) .z (fun _ _ h => h))) (.c (.s4 (.s (.s (.s .z)))) (.c (.s4 (.s (.s (.s .z)))) (.c (.s (.s .z)) (.c (.s (.s .z)) .n)))) ?_
 exact ⟨⟨⟨E.disk.blocks, E.disk.cache⟩, E.exts ++ [(⟨m118, m130, m132⟩ : DExt)]⟩, _, _, _, _, ⟨by first | omega | (dsimp only; omega) | (simp only [List.length_append, List.length_cons, List.length_nil, List.length_replicate]; omega), by first | omega | (dsimp only; omega) | (simp only [List.length_append, List.length_cons, List.length_nil, List.length_replicate]; omega), by first | omega | (dsimp only; omega) | (simp only [List.length_append, List.length_cons, List.length_nil, List.length_replicate]; omega), by omega, by omega⟩, rfl, rfl⟩
 refine FJ.e (goes_sch rfl rfl) rfl (by decide) rfl (e_buildSliceL (ps := [(0, .int .i64 1), (1, .int .i64 0), (2, .int .i64 10000)]) (cs := [.int .i64 1, .int .i64 0, .int .i64 10000]) rfl u_40 (inz inf_2) (by decide) (by intro act hact; simp only [List.map_toArray, List.map_cons, List.map_nil, (show Val _ _ _ from .c) act hact, (show Val _ _ _ from .c) act hact, (show Val _ _ _ from .c) act hact]) rfl rfl (by decide) rfl rfl) ?_
 rintro _ _ ⟨g136, rfl, rfl⟩
 refine FJ.sk (.s4 (.s (.s .z))) ?_
 refine FJ.schN ?_
 refine FJ.sch [(6, false), (7, false), (10, false), (11, true), (12, false), (13, false), (14, true), (15, false)] 0 #[true, true, true, true, true, true, true, true, true, true, true, true, true, true, true, true] (by rfl) (by kernel_rfl) ?_
 refine FJ.e (goes_sch rfl rfl) rfl (by decide) rfl (e_buildSliceL (ps := [(0, .int .i64 1), (1, .int .i64 0), (2, .int .i64 60)]) (cs := [.int .i64 1, .int .i64 0, .int .i64 60]) rfl u_40 (inz inf_2) (by decide) (by intro act hact; simp only [List.map_toArray, List.map_cons, List.map_nil, (show Val _ _ _ from .c) act hact, (show Val _ _ _ from .c) act hact, (show Val _ _ _ from .c) act hact]) rfl rfl (by decide) rfl rfl) ?_
 rintro _ _ ⟨g137, rfl, rfl⟩
 refine FJ.sk (.s4 (.s (.s (.s .z)))) ?_
 refine FJ.turns (c := ownA kSl_2 ([1, 0, 60] : (List Int)) [.slice (some ⟨g137, 0, none⟩) 3 3]) (.c .z .n) (fun w S h => lit_own (xs := ([1, 0, 60] : (List Int))) h rfl (by simp) (by omega) (by omega)) ?_
 refine FJ.call (goes_sch rfl rfl) rfl (by decide) rfl (c_call rfl Try.func120 rfl rfl (args2 (.t (.s4 (.s .z))) (.t .z))) (.c (.s (.s .z)) .n) (fun w1 S1 hs tr => c_120 (tr.ctx hcd) (tr.own .z) hs (by omega) (by simp)) ?_
 rintro _ _ ⟨m139, hm139, rfl, rfl⟩
 refine FJ.cat (.c .n) ?_
 simp only [List.mem_cons, List.not_mem_nil, or_false] at hm139
 refine FJ.sk (.s4 (.s (.s (.s .z)))) ?_
 refine FJ.turns (c := ownA kSl_2 ([1, 0, 10000] : (List Int)) [.slice (some ⟨g136, 0, none⟩) 3 3]) (.c (.s (.s .z)) .n) (fun w S h => lit_own (xs := ([1, 0, 10000] : (List Int))) h rfl (by simp) (by omega) (by omega)) ?_
 refine FJ.call (goes_sch rfl rfl) rfl (by decide) rfl (c_call rfl Try.func120 rfl rfl (args2 (.t (.s4 (.s .z))) (.t (.s (.s .z))))) (.c (.s .z) .n) (fun w1 S1 hs tr => c_120 (tr.ctx hcd) (tr.own .z) hs (by omega) (by simp)) ?_
 rintro _ _ ⟨m141, hm141, rfl, rfl⟩
 refine FJ.cat (.c .n) ?_
 simp only [List.mem_cons, List.not_mem_nil, or_false] at hm141
 refine FJ.sk (.s4 (.s (.s (.s .z)))) ?_
 refine FJ.dq rfl rfl rfl (by decide) rfl (.s4 (.s (.s (.s .z)))) (q_build (ps := [(0, .int .i64 m118), (1, .int .i64 m139), (2, .int .i64 m141)]) (cs := [.int .i64 m118, .int .i64 m139, .int .i64 m141]) rfl bl_135 (by intro act hact; simp only [List.map_toArray, List.map_cons, List.map_nil, (show Val _ _ _ from (.t (.s4 .z))) act hact, (show Val _ _ _ from (.t (.s .z))) act hact, (show Val _ _ _ from (.t .z)) act hact]) rfl) ?_
 refine FJ.e (goes_sch rfl rfl) rfl (by decide) rfl (e_buildSliceL (ps := [(0, .agg #[.int .i64 m118, .int .i64 m139, .int .i64 m141])]) (cs := [.int .i64 m118, .int .i64 m139, .int .i64 m141]) rfl u_41 (inz inf_135) (by decide) (by intro act hact; simp only [List.map_toArray, List.map_cons, List.map_nil, (show Val _ _ _ from (.t .z)) act hact]) rfl rfl (by decide) rfl rfl) ?_
 rintro _ _ ⟨g142, rfl, rfl⟩
 refine FJ.sk (.s4 (.s4 .z)) ?_
 refine FJ.turns (c := ownA kT_135 (⟨m118, m139, m141⟩ : DExt) [.int .i64 m118, .int .i64 m139, .int .i64 m141]) .n (fun w S h => kT_135_omk (⟨m118, m139, m141⟩ : DExt) h) ?_
 refine FJ.e (goes_sch rfl rfl) rfl (by decide) rfl (e_append1 rfl u_41 inf_135 rfl (.t (.s4 (.s4 (.s (.s (.s .z)))))) (.t .z) (.c (.s4 (.s (.s .z))) (.c (.s .z) (.c .z .n))) (by first | omega | (simp only [List.length_append, List.length_cons, List.length_nil, List.length_replicate]; omega)) (by first | omega | (simp only [List.length_append, List.length_cons, List.length_nil, List.length_replicate]; omega))) ?_
 rintro _ _ rfl
 refine FJ.know (WS.oform .z) ?_
 rintro ⟨Ao144, co144, rfl, hlo144, hmo144, hbo144⟩
 refine FJ.sk (.s4 (.s (.s (.s .z)))) ?_
 refine FJ.dq rfl rfl rfl (by decide) rfl (.s4 (.s (.s (.s .z)))) (q_fieldAddr rfl (.t (.s16 (.s4 (.s (.s (.s .z)))))) (fun _ => fa_43_1 _ _)) ?_
 refine FJ.es (goes_sch rfl rfl) rfl (es_store (off := 2) (cs := [.slice Ao144 (E.exts ++ [(⟨m118, m139, m141⟩ : DExt)]).length co144]) rfl sz_41 (.t .z) (.t (.s .z)) rfl (ones rfl) (.s4 (.s (.s (.s .z)))) (Nat.le_of_ble_eq_true rfl) (.c (.s (.s .z)) .n)) ?_
 refine FJ.sl rfl ?_
 refine FJ.schN ?_
 refine FJ.drawN (by kernel_rfl) ?_
 refine FJ.inBN (FJ.then_ (FJ.seq (FJ.region ?_)))
 refine FJ.ql rfl (q_loadA (cs := [.slice Agq0 E.disk.blocks.length cgq0, .slice Agq1 E.disk.cache.length cgq1, .slice Ao144 (E.exts ++ [(⟨m118, m139, m141⟩ : DExt)]).length co144]) rfl ag_43 sz_43 (.t (.s16 (.s4 (.s4 .z)))) (WS.rows0 .z (fun i u h => by exact h))) ?_
 refine FJ.es (goes_list rfl) rfl (es_store (off := 0) (cs := [.slice Agq0 E.disk.blocks.length cgq0, .slice Agq1 E.disk.cache.length cgq1, .slice Ao144 (E.exts ++ [(⟨m118, m139, m141⟩ : DExt)]).length co144]) rfl sz_43 (.t (.s16 (.s4 (.s4 (.s (.s .z)))))) (.t .z) rfl (ones rfl) (.s4 (.s4 .z)) (Nat.le_of_ble_eq_true rfl) (.c .z (.c (.s .z) (.c (.s (.s .z)) .n)))) ?_
 refine FJ.nil (FJ.then_ (FJ.ret ?_))
 refine FJ.doneS (resC (cs := [.slice Agq0 E.disk.blocks.length cgq0, .slice Agq1 E.disk.cache.length cgq1, .slice Ao144 (E.exts ++ [(⟨m118, m139, m141⟩ : DExt)]).length co144]) rfl (.s16 (.s4 (.s4 (.s (.s .z))))) ag_43 sz_43 (WS.rows0 (cs := [.slice Agq0 E.disk.blocks.length cgq0, .slice Agq1 E.disk.cache.length cgq1, .slice Ao144 (E.exts ++ [(⟨m118, m139, m141⟩ : DExt)]).length co144]) .z (fun _ _ h => h))) (.c (.s4 (.s (.s (.s .z)))) (.c (.s4 (.s (.s (.s .z)))) (.c (.s (.s .z)) (.c (.s (.s .z)) .n)))) ?_
 exact ⟨⟨⟨E.disk.blocks, E.disk.cache⟩, E.exts ++ [(⟨m118, m139, m141⟩ : DExt)]⟩, _, _, _, _, ⟨by first | omega | (dsimp only; omega) | (simp only [List.length_append, List.length_cons, List.length_nil, List.length_replicate]; omega), by first | omega | (dsimp only; omega) | (simp only [List.length_append, List.length_cons, List.length_nil, List.length_replicate]; omega), by first | omega | (dsimp only; omega) | (simp only [List.length_append, List.length_cons, List.length_nil, List.length_replicate]; omega), by omega, by omega⟩, rfl, rfl⟩
 refine FJ.e (goes_sch rfl rfl) rfl (by decide) rfl (e_buildSliceL (ps := [(0, .int .i64 1), (1, .int .i64 0), (2, .int .i64 60)]) (cs := [.int .i64 1, .int .i64 0, .int .i64 60]) rfl u_40 (inz inf_2) (by decide) (by intro act hact; simp only [List.map_toArray, List.map_cons, List.map_nil, (show Val _ _ _ from .c) act hact, (show Val _ _ _ from .c) act hact, (show Val _ _ _ from .c) act hact]) rfl rfl (by decide) rfl rfl) ?_
 rintro _ _ ⟨g145, rfl, rfl⟩
 refine FJ.sk (.s4 (.s (.s .z))) ?_
 refine FJ.schN ?_
 refine FJ.sch [] 9 #[true, true, true, true, false, true, true, false, true, false, false, false, false, false, false, false] (by rfl) (by kernel_rfl) ?_
 refine FJ.schN ?_
 refine FJ.fork2 (i := 4) (j := 9) (by kernel_rfl) ?_ ?_
 refine FJ.turns (c := ownA kSl_2 ([0, 3, (-1)] : (List Int)) [.slice (some ⟨g116, 0, none⟩) 3 3]) (.c (.s .z) .n) (fun w S h => lit_own (xs := ([0, 3, (-1)] : (List Int))) h rfl (by simp) (by omega) (by omega)) ?_
 refine FJ.call (goes_sch rfl rfl) rfl (by decide) rfl (c_call rfl Try.func120 rfl rfl (args2 (.t (.s4 .z)) (.t (.s .z)))) (.c (.s (.s .z)) .n) (fun w1 S1 hs tr => c_120 (tr.ctx hcd) (tr.own .z) hs (by omega) (by simp)) ?_
 rintro _ _ ⟨m147, hm147, rfl, rfl⟩
 refine FJ.cat (.c .n) ?_
 simp only [List.mem_cons, List.not_mem_nil, or_false] at hm147
 refine FJ.sk (.s4 (.s (.s .z))) ?_
 refine FJ.schN ?_
 refine FJ.sch [] 8 #[true, true, true, true, true, true, true, false, true, false, false, false, false, false, false, false] (by rfl) (by kernel_rfl) ?_
 refine FJ.schN ?_
 refine FJ.fork2 (i := 7) (j := 9) (by kernel_rfl) ?_ ?_
 refine FJ.turns (c := ownA kSl_2 ([1, 0, 60] : (List Int)) [.slice (some ⟨g145, 0, none⟩) 3 3]) (.c (.s (.s .z)) .n) (fun w S h => lit_own (xs := ([1, 0, 60] : (List Int))) h rfl (by simp) (by omega) (by omega)) ?_
 refine FJ.call (goes_sch rfl rfl) rfl (by decide) rfl (c_call rfl Try.func120 rfl rfl (args2 (.t (.s4 .z)) (.t (.s .z)))) (.c (.s .z) .n) (fun w1 S1 hs tr => c_120 (tr.ctx hcd) (tr.own .z) hs (by omega) (by simp)) ?_
 rintro _ _ ⟨m149, hm149, rfl, rfl⟩
 refine FJ.cat (.c .n) ?_
 simp only [List.mem_cons, List.not_mem_nil, or_false] at hm149
 refine FJ.sk (.s4 (.s (.s .z))) ?_
 refine FJ.schN ?_
 refine FJ.sch [(9, false), (10, false), (11, true), (12, false), (13, false), (14, true), (15, false)] 0 #[true, true, true, true, true, true, true, true, true, true, true, true, true, true, true, true] (by rfl) (by kernel_rfl) ?_
 refine FJ.e (goes_sch rfl rfl) rfl (by decide) rfl (e_buildSliceL (ps := [(0, .int .i64 1), (1, .int .i64 0), (2, .int .i64 10000)]) (cs := [.int .i64 1, .int .i64 0, .int .i64 10000]) rfl u_40 (inz inf_2) (by decide) (by intro act hact; simp only [List.map_toArray, List.map_cons, List.map_nil, (show Val _ _ _ from .c) act hact, (show Val _ _ _ from .c) act hact, (show Val _ _ _ from .c) act hact]) rfl rfl (by decide) rfl rfl) ?_
 rintro _ _ ⟨g150, rfl, rfl⟩
 refine FJ.sk (.s4 (.s (.s (.s .z)))) ?_
 refine FJ.turns (c := ownA kSl_2 ([1, 0, 10000] : (List Int)) [.slice (some ⟨g150, 0, none⟩) 3 3]) (.c .z .n) (fun w S h => lit_own (xs := ([1, 0, 10000] : (List Int))) h rfl (by simp) (by omega) (by omega)) ?_
 refine FJ.call (goes_sch rfl rfl) rfl (by decide) rfl (c_call rfl Try.func120 rfl rfl (args2 (.t (.s4 (.s .z))) (.t .z))) (.c (.s .z) .n) (fun w1 S1 hs tr => c_120 (tr.ctx hcd) (tr.own .z) hs (by omega) (by simp)) ?_
 rintro _ _ ⟨m152, hm152, rfl, rfl⟩
 refine FJ.cat (.c .n) ?_
 simp only [List.mem_cons, List.not_mem_nil, or_false] at hm152
 refine FJ.sk (.s4 (.s (.s (.s .z)))) ?_
 refine FJ.dq rfl rfl rfl (by decide) rfl (.s4 (.s (.s (.s .z)))) (q_build (ps := [(0, .int .i64 m147), (1, .int .i64 m149), (2, .int .i64 m152)]) (cs := [.int .i64 m147, .int .i64 m149, .int .i64 m152]) rfl bl_135 (by intro act hact; simp only [List.map_toArray, List.map_cons, List.map_nil, (show Val _ _ _ from (.t (.s (.s (.s .z))))) act hact, (show Val _ _ _ from (.t (.s (.s .z)))) act hact, (show Val _ _ _ from (.t .z)) act hact]) rfl) ?_
 refine FJ.e (goes_sch rfl rfl) rfl (by decide) rfl (e_buildSliceL (ps := [(0, .agg #[.int .i64 m147, .int .i64 m149, .int .i64 m152])]) (cs := [.int .i64 m147, .int .i64 m149, .int .i64 m152]) rfl u_41 (inz inf_135) (by decide) (by intro act hact; simp only [List.map_toArray, List.map_cons, List.map_nil, (show Val _ _ _ from (.t .z)) act hact]) rfl rfl (by decide) rfl rfl) ?_
 rintro _ _ ⟨g153, rfl, rfl⟩
 refine FJ.sk (.s4 (.s4 .z)) ?_
 refine FJ.turns (c := ownA kT_135 (⟨m147, m149, m152⟩ : DExt) [.int .i64 m147, .int .i64 m149, .int .i64 m152]) .n (fun w S h => kT_135_omk (⟨m147, m149, m152⟩ : DExt) h) ?_
 refine FJ.e (goes_sch rfl rfl) rfl (by decide) rfl (e_append1 rfl u_41 inf_135 rfl (.t (.s4 (.s4 (.s (.s (.s .z)))))) (.t .z) (.c (.s4 (.s (.s .z))) (.c (.s .z) (.c .z .n))) (by first | omega | (simp only [List.length_append, List.length_cons, List.length_nil, List.length_replicate]; omega)) (by first | omega | (simp only [List.length_append, List.length_cons, List.length_nil, List.length_replicate]; omega))) ?_
 rintro _ _ rfl
 refine FJ.know (WS.oform .z) ?_
 rintro ⟨Ao155, co155, rfl, hlo155, hmo155, hbo155⟩
 refine FJ.sk (.s4 (.s (.s (.s .z)))) ?_
 refine FJ.dq rfl rfl rfl (by decide) rfl (.s4 (.s (.s (.s .z)))) (q_fieldAddr rfl (.t (.s16 (.s4 (.s (.s (.s .z)))))) (fun _ => fa_43_1 _ _)) ?_
 refine FJ.es (goes_sch rfl rfl) rfl (es_store (off := 2) (cs := [.slice Ao155 (E.exts ++ [(⟨m147, m149, m152⟩ : DExt)]).length co155]) rfl sz_41 (.t .z) (.t (.s .z)) rfl (ones rfl) (.s4 (.s (.s (.s .z)))) (Nat.le_of_ble_eq_true rfl) (.c (.s (.s .z)) .n)) ?_
 refine FJ.sl rfl ?_
 refine FJ.schN ?_
 refine FJ.drawN (by kernel_rfl) ?_
 refine FJ.inBN (FJ.then_ (FJ.seq (FJ.region ?_)))
 refine FJ.ql rfl (q_loadA (cs := [.slice Agq0 E.disk.blocks.length cgq0, .slice Agq1 E.disk.cache.length cgq1, .slice Ao155 (E.exts ++ [(⟨m147, m149, m152⟩ : DExt)]).length co155]) rfl ag_43 sz_43 (.t (.s16 (.s4 (.s4 .z)))) (WS.rows0 .z (fun i u h => by exact h))) ?_
 refine FJ.es (goes_list rfl) rfl (es_store (off := 0) (cs := [.slice Agq0 E.disk.blocks.length cgq0, .slice Agq1 E.disk.cache.length cgq1, .slice Ao155 (E.exts ++ [(⟨m147, m149, m152⟩ : DExt)]).length co155]) rfl sz_43 (.t (.s16 (.s4 (.s4 (.s (.s .z)))))) (.t .z) rfl (ones rfl) (.s4 (.s4 .z)) (Nat.le_of_ble_eq_true rfl) (.c .z (.c (.s .z) (.c (.s (.s .z)) .n)))) ?_
 refine FJ.nil (FJ.then_ (FJ.ret ?_))
 refine FJ.doneS (resC (cs := [.slice Agq0 E.disk.blocks.length cgq0, .slice Agq1 E.disk.cache.length cgq1, .slice Ao155 (E.exts ++ [(⟨m147, m149, m152⟩ : DExt)]).length co155]) rfl (.s16 (.s4 (.s4 (.s (.s .z))))) ag_43 sz_43 (WS.rows0 (cs := [.slice Agq0 E.disk.blocks.length cgq0, .slice Agq1 E.disk.cache.length cgq1, .slice Ao155 (E.exts ++ [(⟨m147, m149, m152⟩ : DExt)]).length co155]) .z (fun _ _ h => h))) (.c (.s4 (.s (.s (.s .z)))) (.c (.s4 (.s (.s (.s .z)))) (.c (.s (.s .z)) (.c (.s (.s .z)) .n)))) ?_
 exact ⟨⟨⟨E.disk.blocks, E.disk.cache⟩, E.exts ++ [(⟨m147, m149, m152⟩ : DExt)]⟩, _, _, _, _, ⟨by first | omega | (dsimp only; omega) | (simp only [List.length_append, List.length_cons, List.length_nil, List.length_replicate]; omega), by first | omega | (dsimp only; omega) | (simp only [List.length_append, List.length_cons, List.length_nil, List.length_replicate]; omega), by first | omega | (dsimp only; omega) | (simp only [List.length_append, List.length_cons, List.length_nil, List.length_replicate]; omega), by omega, by omega⟩, rfl, rfl⟩
 refine FJ.e (goes_sch rfl rfl) rfl (by decide) rfl (e_buildSliceL (ps := [(0, .int .i64 1), (1, .int .i64 0), (2, .int .i64 10000)]) (cs := [.int .i64 1, .int .i64 0, .int .i64 10000]) rfl u_40 (inz inf_2) (by decide) (by intro act hact; simp only [List.map_toArray, List.map_cons, List.map_nil, (show Val _ _ _ from .c) act hact, (show Val _ _ _ from .c) act hact, (show Val _ _ _ from .c) act hact]) rfl rfl (by decide) rfl rfl) ?_
 rintro _ _ ⟨g156, rfl, rfl⟩
 refine FJ.sk (.s4 (.s (.s (.s .z)))) ?_
 refine FJ.schN ?_
 refine FJ.sch [(7, false), (10, false), (11, true), (12, false), (13, false), (14, true), (15, false)] 0 #[true, true, true, true, true, true, true, true, true, true, true, true, true, true, true, true] (by rfl) (by kernel_rfl) ?_
 refine FJ.turns (c := ownA kSl_2 ([1, 0, 60] : (List Int)) [.slice (some ⟨g145, 0, none⟩) 3 3]) (.c (.s (.s (.s .z))) .n) (fun w S h => lit_own (xs := ([1, 0, 60] : (List Int))) h rfl (by simp) (by omega) (by omega)) ?_
 refine FJ.call (goes_sch rfl rfl) rfl (by decide) rfl (c_call rfl Try.func120 rfl rfl (args2 (.t (.s4 (.s .z))) (.t (.s (.s .z))))) (.c (.s (.s .z)) .n) (fun w1 S1 hs tr => c_120 (tr.ctx hcd) (tr.own .z) hs (by omega) (by simp)) ?_
 rintro _ _ ⟨m158, hm158, rfl, rfl⟩
 refine FJ.cat (.c .n) ?_
 simp only [List.mem_cons, List.not_mem_nil, or_false] at hm158
 refine FJ.sk (.s4 (.s (.s (.s .z)))) ?_
 refine FJ.turns (c := ownA kSl_2 ([1, 0, 10000] : (List Int)) [.slice (some ⟨g156, 0, none⟩) 3 3]) (.c (.s (.s .z)) .n) (fun w S h => lit_own (xs := ([1, 0, 10000] : (List Int))) h rfl (by simp) (by omega) (by omega)) ?_
 refine FJ.call (goes_sch rfl rfl) rfl (by decide) rfl (c_call rfl Try.func120 rfl rfl (args2 (.t (.s4 (.s .z))) (.t (.s .z)))) (.c (.s .z) .n) (fun w1 S1 hs tr => c_120 (tr.ctx hcd) (tr.own .z) hs (by omega) (by simp)) ?_
 rintro _ _ ⟨m160, hm160, rfl, rfl⟩
 refine FJ.cat (.c .n) ?_
 simp only [List.mem_cons, List.not_mem_nil, or_false] at hm160
 refine FJ.sk (.s4 (.s (.s (.s .z)))) ?_
 refine FJ.dq rfl rfl rfl (by decide) rfl (.s4 (.s (.s (.s .z)))) (q_build (ps := [(0, .int .i64 m147), (1, .int .i64 m158), (2, .int .i64 m160)]) (cs := [.int .i64 m147, .int .i64 m158, .int .i64 m160]) rfl bl_135 (by intro act hact; simp only [List.map_toArray, List.map_cons, List.map_nil, (show Val _ _ _ from (.t (.s (.s (.s .z))))) act hact, (show Val _ _ _ from (.t (.s .z))) act hact, (show Val _ _ _ from (.t .z)) act hact]) rfl) ?_
 refine FJ.e (goes_sch rfl rfl) rfl (by decide) rfl (e_buildSliceL (ps := [(0, .agg #[.int .i64 m147, .int .i64 m158, .int .i64 m160])]) (cs := [.int .i64 m147, .int .i64 m158, .int .i64 m160]) rfl u_41 (inz inf_135) (by decide) (by intro act hact; simp only [List.map_toArray, List.map_cons, List.map_nil, (show Val _ _ _ from (.t .z)) act hact]) rfl rfl (by decide) rfl rfl) ?_
 rintro _ _ ⟨g161, rfl, rfl⟩
 refine FJ.sk (.s4 (.s4 .z)) ?_
 refine FJ.turns (c := ownA kT_135 (⟨m147, m158, m160⟩ : DExt) [.int .i64 m147, .int .i64 m158, .int .i64 m160]) .n (fun w S h => kT_135_omk (⟨m147, m158, m160⟩ : DExt) h) ?_
 refine FJ.e (goes_sch rfl rfl) rfl (by decide) rfl (e_append1 rfl u_41 inf_135 rfl (.t (.s4 (.s4 (.s (.s (.s .z)))))) (.t .z) (.c (.s4 (.s (.s .z))) (.c (.s .z) (.c .z .n))) (by first | omega | (simp only [List.length_append, List.length_cons, List.length_nil, List.length_replicate]; omega)) (by first | omega | (simp only [List.length_append, List.length_cons, List.length_nil, List.length_replicate]; omega))) ?_
 rintro _ _ rfl
 refine FJ.know (WS.oform .z) ?_
 rintro ⟨Ao163, co163, rfl, hlo163, hmo163, hbo163⟩
 refine FJ.sk (.s4 (.s (.s (.s .z)))) ?_
 refine FJ.dq rfl rfl rfl (by decide) rfl (.s4 (.s (.s (.s .z)))) (q_fieldAddr rfl (.t (.s16 (.s4 (.s (.s (.s .z)))))) (fun _ => fa_43_1 _ _)) ?_
 refine FJ.es (goes_sch rfl rfl) rfl (es_store (off := 2) (cs := [.slice Ao163 (E.exts ++ [(⟨m147, m158, m160⟩ : DExt)]).length co163]) rfl sz_41 (.t .z) (.t (.s .z)) rfl (ones rfl) (.s4 (.s (.s (.s .z)))) (Nat.le_of_ble_eq_true rfl) (.c (.s (.s .z)) .n)) ?_
 refine FJ.sl rfl ?_
 refine FJ.schN ?_
 refine FJ.drawN (by kernel_rfl) ?_
 refine FJ.inBN (FJ.then_ (FJ.seq (FJ.region ?_)))
 refine FJ.ql rfl (q_loadA (cs := [.slice Agq0 E.disk.blocks.length cgq0, .slice Agq1 E.disk.cache.length cgq1, .slice Ao163 (E.exts ++ [(⟨m147, m158, m160⟩ : DExt)]).length co163]) rfl ag_43 sz_43 (.t (.s16 (.s4 (.s4 .z)))) (WS.rows0 .z (fun i u h => by exact h))) ?_
 refine FJ.es (goes_list rfl) rfl (es_store (off := 0) (cs := [.slice Agq0 E.disk.blocks.length cgq0, .slice Agq1 E.disk.cache.length cgq1, .slice Ao163 (E.exts ++ [(⟨m147, m158, m160⟩ : DExt)]).length co163]) rfl sz_43 (.t (.s16 (.s4 (.s4 (.s (.s .z)))))) (.t .z) rfl (ones rfl) (.s4 (.s4 .z)) (Nat.le_of_ble_eq_true rfl) (.c .z (.c (.s .z) (.c (.s (.s .z)) .n)))) ?_
 refine FJ.nil (FJ.then_ (FJ.ret ?_))
 refine FJ.doneS (resC (cs := [.slice Agq0 E.disk.blocks.length cgq0, .slice Agq1 E.disk.cache.length cgq1, .slice Ao163 (E.exts ++ [(⟨m147, m158, m160⟩ : DExt)]).length co163]) rfl (.s16 (.s4 (.s4 (.s (.s .z))))) ag_43 sz_43 (WS.rows0 (cs := [.slice Agq0 E.disk.blocks.length cgq0, .slice Agq1 E.disk.cache.length cgq1, .slice Ao163 (E.exts ++ [(⟨m147, m158, m160⟩ : DExt)]).length co163]) .z (fun _ _ h => h))) (.c (.s4 (.s (.s (.s .z)))) (.c (.s4 (.s (.s (.s .z)))) (.c (.s (.s .z)) (.c (.s (.s .z)) .n)))) ?_
 exact ⟨⟨⟨E.disk.blocks, E.disk.cache⟩, E.exts ++ [(⟨m147, m158, m160⟩ : DExt)]⟩, _, _, _, _, ⟨by first | omega | (dsimp only; omega) | (simp only [List.length_append, List.length_cons, List.length_nil, List.length_replicate]; omega), by first | omega | (dsimp only; omega) | (simp only [List.length_append, List.length_cons, List.length_nil, List.length_replicate]; omega), by first | omega | (dsimp only; omega) | (simp only [List.length_append, List.length_cons, List.length_nil, List.length_replicate]; omega), by omega, by omega⟩, rfl, rfl⟩
 refine FJ.e (goes_sch rfl rfl) rfl (by decide) rfl (e_buildSliceL (ps := [(0, .int .i64 1), (1, .int .i64 0), (2, .int .i64 10000)]) (cs := [.int .i64 1, .int .i64 0, .int .i64 10000]) rfl u_40 (inz inf_2) (by decide) (by intro act hact; simp only [List.map_toArray, List.map_cons, List.map_nil, (show Val _ _ _ from .c) act hact, (show Val _ _ _ from .c) act hact, (show Val _ _ _ from .c) act hact]) rfl rfl (by decide) rfl rfl) ?_
 rintro _ _ ⟨g164, rfl, rfl⟩
 refine FJ.sk (.s4 (.s (.s (.s .z)))) ?_
 refine FJ.schN ?_
 refine FJ.sch [(4, false), (7, false), (10, false), (11, true), (12, false), (13, false), (14, true), (15, false)] 0 #[true, true, true, true, true, true, true, true, true, true, true, true, true, true, true, true] (by rfl) (by kernel_rfl) ?_
 refine FJ.turns (c := ownA kSl_2 ([0, 3, (-1)] : (List Int)) [.slice (some ⟨g116, 0, none⟩) 3 3]) (.c (.s (.s .z)) .n) (fun w S h => lit_own (xs := ([0, 3, (-1)] : (List Int))) h rfl (by simp) (by omega) (by omega)) ?_
 refine FJ.call (goes_sch rfl rfl) rfl (by decide) rfl (c_call rfl Try.func120 rfl rfl (args2 (.t (.s4 (.s .z))) (.t (.s (.s .z))))) (.c (.s (.s (.s .z))) .n) (fun w1 S1 hs tr => c_120 (tr.ctx hcd) (tr.own .z) hs (by omega) (by simp)) ?_
 rintro _ _ ⟨m166, hm166, rfl, rfl⟩
 refine FJ.cat (.c .n) ?_
 simp only [List.mem_cons, List.not_mem_nil, or_false] at hm166
 refine FJ.sk (.s4 (.s (.s (.s .z)))) ?_
 refine FJ.turns (c := ownA kSl_2 ([1, 0, 60] : (List Int)) [.slice (some ⟨g145, 0, none⟩) 3 3]) (.c (.s (.s (.s .z))) .n) (fun w S h => lit_own (xs := ([1, 0, 60] : (List Int))) h rfl (by simp) (by omega) (by omega)) ?_
 refine FJ.call (goes_sch rfl rfl) rfl (by decide) rfl (c_call rfl Try.func120 rfl rfl (args2 (.t (.s4 (.s .z))) (.t (.s (.s .z))))) (.c (.s .z) .n) (fun w1 S1 hs tr => c_120 (tr.ctx hcd) (tr.own .z) hs (by omega) (by simp)) ?_
 rintro _ _ ⟨m168, hm168, rfl, rfl⟩
 refine FJ.cat (.c .n) ?_
 simp only [List.mem_cons, List.not_mem_nil, or_false] at hm168
 refine FJ.sk (.s4 (.s (.s (.s .z)))) ?_
 refine FJ.turns (c := ownA kSl_2 ([1, 0, 10000] : (List Int)) [.slice (some ⟨g164, 0, none⟩) 3 3]) (.c (.s (.s (.s .z))) .n) (fun w S h => lit_own (xs := ([1, 0, 10000] : (List Int))) h rfl (by simp) (by omega) (by omega)) ?_
 refine FJ.call (goes_sch rfl rfl) rfl (by decide) rfl (c_call rfl Try.func120 rfl rfl (args2 (.t (.s4 (.s .z))) (.t (.s (.s .z))))) (.c (.s .z) .n) (fun w1 S1 hs tr => c_120 (tr.ctx hcd) (tr.own .z) hs (by omega) (by simp)) ?_
 rintro _ _ ⟨m170, hm170, rfl, rfl⟩
 refine FJ.cat (.c .n) ?_
 simp only [List.mem_cons, List.not_mem_nil, or_false] at hm170
 refine FJ.sk (.s4 (.s (.s (.s .z)))) ?_
 refine FJ.dq rfl rfl rfl (by decide) rfl (.s4 (.s (.s (.s .z)))) (q_build (ps := [(0, .int .i64 m166), (1, .int .i64 m168), (2, .int .i64 m170)]) (cs := [.int .i64 m166, .int .i64 m168, .int .i64 m170]) rfl bl_135 (by intro act hact; simp only [List.map_toArray, List.map_cons, List.map_nil, (show Val _ _ _ from (.t (.s (.s .z)))) act hact, (show Val _ _ _ from (.t (.s .z))) act hact, (show Val _ _ _ from (.t .z)) act hact]) rfl) ?_
 refine FJ.e (goes_sch rfl rfl) rfl (by decide) rfl (e_buildSliceL (ps := [(0, .agg #[.int .i64 m166, .int .i64 m168, .int .i64 m170])]) (cs := [.int .i64 m166, .int .i64 m168, .int .i64 m170]) rfl u_41 (inz inf_135) (by decide) (by intro act hact; simp only [List.map_toArray, List.map_cons, List.map_nil, (show Val _ _ _ from (.t .z)) act hact]) rfl rfl (by decide) rfl rfl) ?_
 rintro _ _ ⟨g171, rfl, rfl⟩
 refine FJ.sk (.s4 (.s4 .z)) ?_
 refine FJ.turns (c := ownA kT_135 (⟨m166, m168, m170⟩ : DExt) [.int .i64 m166, .int .i64 m168, .int .i64 m170]) .n (fun w S h => kT_135_omk (⟨m166, m168, m170⟩ : DExt) h) ?_
 refine FJ.e (goes_sch rfl rfl) rfl (by decide) rfl (e_append1 rfl u_41 inf_135 rfl (.t (.s4 (.s4 (.s (.s (.s .z)))))) (.t .z) (.c (.s4 (.s (.s .z))) (.c (.s .z) (.c .z .n))) (by first | omega | (simp only [List.length_append, List.length_cons, List.length_nil, List.length_replicate]; omega)) (by first | omega | (simp only [List.length_append, List.length_cons, List.length_nil, List.length_replicate]; omega))) ?_
 rintro _ _ rfl
 refine FJ.know (WS.oform .z) ?_
 rintro ⟨Ao173, co173, rfl, hlo173, hmo173, hbo173⟩
 refine FJ.sk (.s4 (.s (.s (.s .z)))) ?_
 refine FJ.dq rfl rfl rfl (by decide) rfl (.s4 (.s (.s (.s .z)))) (q_fieldAddr rfl (.t (.s16 (.s4 (.s (.s (.s .z)))))) (fun _ => fa_43_1 _ _)) ?_
 refine FJ.es (goes_sch rfl rfl) rfl (es_store (off := 2) (cs := [.slice Ao173 (E.exts ++ [(⟨m166, m168, m170⟩ : DExt)]).length co173]) rfl sz_41 (.t .z) (.t (.s .z)) rfl (ones rfl) (.s4 (.s (.s (.s .z)))) (Nat.le_of_ble_eq_true rfl) (.c (.s (.s .z)) .n)) ?_
 refine FJ.sl rfl ?_
 refine FJ.schN ?_
 refine FJ.drawN (by kernel_rfl) ?_
 refine FJ.inBN (FJ.then_ (FJ.seq (FJ.region ?_)))
 refine FJ.ql rfl (q_loadA (cs := [.slice Agq0 E.disk.blocks.length cgq0, .slice Agq1 E.disk.cache.length cgq1, .slice Ao173 (E.exts ++ [(⟨m166, m168, m170⟩ : DExt)]).length co173]) rfl ag_43 sz_43 (.t (.s16 (.s4 (.s4 .z)))) (WS.rows0 .z (fun i u h => by exact h))) ?_
 refine FJ.es (goes_list rfl) rfl (es_store (off := 0) (cs := [.slice Agq0 E.disk.blocks.length cgq0, .slice Agq1 E.disk.cache.length cgq1, .slice Ao173 (E.exts ++ [(⟨m166, m168, m170⟩ : DExt)]).length co173]) rfl sz_43 (.t (.s16 (.s4 (.s4 (.s (.s .z)))))) (.t .z) rfl (ones rfl) (.s4 (.s4 .z)) (Nat.le_of_ble_eq_true rfl) (.c .z (.c (.s .z) (.c (.s (.s .z)) .n)))) ?_
 refine FJ.nil (FJ.then_ (FJ.ret ?_))
 refine FJ.doneS (resC (cs := [.slice Agq0 E.disk.blocks.length cgq0, .slice Agq1 E.disk.cache.length cgq1, .slice Ao173 (E.exts ++ [(⟨m166, m168, m170⟩ : DExt)]).length co173]) rfl (.s16 (.s4 (.s4 (.s (.s .z))))) ag_43 sz_43 (WS.rows0 (cs := [.slice Agq0 E.disk.blocks.length cgq0, .slice Agq1 E.disk.cache.length cgq1, .slice Ao173 (E.exts ++ [(⟨m166, m168, m170⟩ : DExt)]).length co173]) .z (fun _ _ h => h))) (.c (.s4 (.s (.s (.s .z)))) (.c (.s4 (.s (.s (.s .z)))) (.c (.s (.s .z)) (.c (.s (.s .z)) .n)))) ?_
 exact ⟨⟨⟨E.disk.blocks, E.disk.cache⟩, E.exts ++ [(⟨m166, m168, m170⟩ : DExt)]⟩, _, _, _, _, ⟨by first | omega | (dsimp only; omega) | (simp only [List.length_append, List.length_cons, List.length_nil, List.length_replicate]; omega), by first | omega | (dsimp only; omega) | (simp only [List.length_append, List.length_cons, List.length_nil, List.length_replicate]; omega), by first | omega | (dsimp only; omega) | (simp only [List.length_append, List.length_cons, List.length_nil, List.length_replicate]; omega), by omega, by omega⟩, rfl, rfl⟩
 refine FJ.e (goes_sch rfl rfl) rfl (by decide) rfl (e_buildSliceL (ps := [(0, .int .i64 1), (1, .int .i64 0), (2, .int .i64 10000)]) (cs := [.int .i64 1, .int .i64 0, .int .i64 10000]) rfl u_40 (inz inf_2) (by decide) (by intro act hact; simp only [List.map_toArray, List.map_cons, List.map_nil, (show Val _ _ _ from .c) act hact, (show Val _ _ _ from .c) act hact, (show Val _ _ _ from .c) act hact]) rfl rfl (by decide) rfl rfl) ?_
 rintro _ _ ⟨g174, rfl, rfl⟩
 refine FJ.sk (.s4 (.s (.s .z))) ?_
 refine FJ.schN ?_
 refine FJ.sch [] 9 #[true, true, true, true, false, true, false, false, true, true, false, false, false, false, false, false] (by rfl) (by kernel_rfl) ?_
 refine FJ.schN ?_
 refine FJ.fork2 (i := 4) (j := 6) (by kernel_rfl) ?_ ?_
 refine FJ.turns (c := ownA kSl_2 ([0, 3, (-1)] : (List Int)) [.slice (some ⟨g116, 0, none⟩) 3 3]) (.c (.s .z) .n) (fun w S h => lit_own (xs := ([0, 3, (-1)] : (List Int))) h rfl (by simp) (by omega) (by omega)) ?_
 refine FJ.call (goes_sch rfl rfl) rfl (by decide) rfl (c_call rfl Try.func120 rfl rfl (args2 (.t (.s4 .z)) (.t (.s .z)))) (.c (.s (.s .z)) .n) (fun w1 S1 hs tr => c_120 (tr.ctx hcd) (tr.own .z) hs (by omega) (by simp)) ?_
 rintro _ _ ⟨m176, hm176, rfl, rfl⟩
 refine FJ.cat (.c .n) ?_
 simp only [List.mem_cons, List.not_mem_nil, or_false] at hm176
 refine FJ.sk (.s4 (.s (.s .z))) ?_
 refine FJ.schN ?_
 refine FJ.sch [(6, false), (7, false), (10, false), (11, true), (12, false), (13, false), (14, true), (15, false)] 0 #[true, true, true, true, true, true, true, true, true, true, true, true, true, true, true, true] (by rfl) (by kernel_rfl) ?_
 refine FJ.e (goes_sch rfl rfl) rfl (by decide) rfl (e_buildSliceL (ps := [(0, .int .i64 1), (1, .int .i64 0), (2, .int .i64 60)]) (cs := [.int .i64 1, .int .i64 0, .int .i64 60]) rfl u_40 (inz inf_2) (by decide) (by intro act hact; simp only [List.map_toArray, List.map_cons, List.map_nil, (show Val _ _ _ from .c) act hact, (show Val _ _ _ from .c) act hact, (show Val _ _ _ from .c) act hact]) rfl rfl (by decide) rfl rfl) ?_
 rintro _ _ ⟨g177, rfl, rfl⟩
 refine FJ.sk (.s4 (.s (.s (.s .z)))) ?_
 refine FJ.turns (c := ownA kSl_2 ([1, 0, 60] : (List Int)) [.slice (some ⟨g177, 0, none⟩) 3 3]) (.c .z .n) (fun w S h => lit_own (xs := ([1, 0, 60] : (List Int))) h rfl (by simp) (by omega) (by omega)) ?_
 refine FJ.call (goes_sch rfl rfl) rfl (by decide) rfl (c_call rfl Try.func120 rfl rfl (args2 (.t (.s4 (.s .z))) (.t .z))) (.c (.s .z) .n) (fun w1 S1 hs tr => c_120 (tr.ctx hcd) (tr.own .z) hs (by omega) (by simp)) ?_
 rintro _ _ ⟨m179, hm179, rfl, rfl⟩
 refine FJ.cat (.c .n) ?_
 simp only [List.mem_cons, List.not_mem_nil, or_false] at hm179
 refine FJ.sk (.s4 (.s (.s (.s .z)))) ?_
 refine FJ.turns (c := ownA kSl_2 ([1, 0, 10000] : (List Int)) [.slice (some ⟨g174, 0, none⟩) 3 3]) (.c (.s (.s (.s .z))) .n) (fun w S h => lit_own (xs := ([1, 0, 10000] : (List Int))) h rfl (by simp) (by omega) (by omega)) ?_
 refine FJ.call (goes_sch rfl rfl) rfl (by decide) rfl (c_call rfl Try.func120 rfl rfl (args2 (.t (.s4 (.s .z))) (.t (.s (.s (.s .z)))))) (.c (.s .z) .n) (fun w1 S1 hs tr => c_120 (tr.ctx hcd) (tr.own .z) hs (by omega) (by simp)) ?_
 rintro _ _ ⟨m181, hm181, rfl, rfl⟩
 refine FJ.cat (.c .n) ?_
 simp only [List.mem_cons, List.not_mem_nil, or_false] at hm181
 refine FJ.sk (.s4 (.s (.s (.s .z)))) ?_
 refine FJ.dq rfl rfl rfl (by decide) rfl (.s4 (.s (.s (.s .z)))) (q_build (ps := [(0, .int .i64 m176), (1, .int .i64 m179), (2, .int .i64 m181)]) (cs := [.int .i64 m176, .int .i64 m179, .int .i64 m181]) rfl bl_135 (by intro act hact; simp only [List.map_toArray, List.map_cons, List.map_nil, (show Val _ _ _ from (.t (.s (.s (.s .z))))) act hact, (show Val _ _ _ from (.t (.s .z))) act hact, (show Val _ _ _ from (.t .z)) act hact]) rfl) ?_
 refine FJ.e (goes_sch rfl rfl) rfl (by decide) rfl (e_buildSliceL (ps := [(0, .agg #[.int .i64 m176, .int .i64 m179, .int .i64 m181])]) (cs := [.int .i64 m176, .int .i64 m179, .int .i64 m181]) rfl u_41 (inz inf_135) (by decide) (by intro act hact; simp only [List.map_toArray, List.map_cons, List.map_nil, (show Val _ _ _ from (.t .z)) act hact]) rfl rfl (by decide) rfl rfl) ?_
 rintro _ _ ⟨g182, rfl, rfl⟩
 refine FJ.sk (.s4 (.s4 .z)) ?_
 refine FJ.turns (c := ownA kT_135 (⟨m176, m179, m181⟩ : DExt) [.int .i64 m176, .int .i64 m179, .int .i64 m181]) .n (fun w S h => kT_135_omk (⟨m176, m179, m181⟩ : DExt) h) ?_
 refine FJ.e (goes_sch rfl rfl) rfl (by decide) rfl (e_append1 rfl u_41 inf_135 rfl (.t (.s4 (.s4 (.s (.s (.s .z)))))) (.t .z) (.c (.s4 (.s (.s .z))) (.c (.s .z) (.c .z .n))) (by first | omega | (simp only [List.length_append, List.length_cons, List.length_nil, List.length_replicate]; omega)) (by first | omega | (simp only [List.length_append, List.length_cons, List.length_nil, List.length_replicate]; omega))) ?_
 rintro _ _ rfl
 refine FJ.know (WS.oform .z) ?_
 rintro ⟨Ao184, co184, rfl, hlo184, hmo184, hbo184⟩
 refine FJ.sk (.s4 (.s (.s (.s .z)))) ?_
 refine FJ.dq rfl rfl rfl (by decide) rfl (.s4 (.s (.s (.s .z)))) (q_fieldAddr rfl (.t (.s16 (.s4 (.s (.s (.s .z)))))) (fun _ => fa_43_1 _ _)) ?_
 refine FJ.es (goes_sch rfl rfl) rfl (es_store (off := 2) (cs := [.slice Ao184 (E.exts ++ [(⟨m176, m179, m181⟩ : DExt)]).length co184]) rfl sz_41 (.t .z) (.t (.s .z)) rfl (ones rfl) (.s4 (.s (.s (.s .z)))) (Nat.le_of_ble_eq_true rfl) (.c (.s (.s .z)) .n)) ?_
 refine FJ.sl rfl ?_
 refine FJ.schN ?_
 refine FJ.drawN (by kernel_rfl) ?_
 refine FJ.inBN (FJ.then_ (FJ.seq (FJ.region ?_)))
 refine FJ.ql rfl (q_loadA (cs := [.slice Agq0 E.disk.blocks.length cgq0, .slice Agq1 E.disk.cache.length cgq1, .slice Ao184 (E.exts ++ [(⟨m176, m179, m181⟩ : DExt)]).length co184]) rfl ag_43 sz_43 (.t (.s16 (.s4 (.s4 .z)))) (WS.rows0 .z (fun i u h => by exact h))) ?_
 refine FJ.es (goes_list rfl) rfl (es_store (off := 0) (cs := [.slice Agq0 E.disk.blocks.length cgq0, .slice Agq1 E.disk.cache.length cgq1, .slice Ao184 (E.exts ++ [(⟨m176, m179, m181⟩ : DExt)]).length co184]) rfl sz_43 (.t (.s16 (.s4 (.s4 (.s (.s .z)))))) (.t .z) rfl (ones rfl) (.s4 (.s4 .z)) (Nat.le_of_ble_eq_true rfl) (.c .z (.c (.s .z) (.c (.s (.s .z)) .n)))) ?_
 refine FJ.nil (FJ.then_ (FJ.ret ?_))
 refine FJ.doneS (resC (cs := [.slice Agq0 E.disk.blocks.length cgq0, .slice Agq1 E.disk.cache.length cgq1, .slice Ao184 (E.exts ++ [(⟨m176, m179, m181⟩ : DExt)]).length co184]) rfl (.s16 (.s4 (.s4 (.s (.s .z))))) ag_43 sz_43 (WS.rows0 (cs := [.slice Agq0 E.disk.blocks.length cgq0, .slice Agq1 E.disk.cache.length cgq1, .slice Ao184 (E.exts ++ [(⟨m176, m179, m181⟩ : DExt)]).length co184]) .z (fun _ _ h => h))) (.c (.s4 (.s (.s (.s .z)))) (.c (.s4 (.s (.s (.s .z)))) (.c (.s (.s .z)) (.c (.s (.s .z)) .n)))) ?_
 exact ⟨⟨⟨E.disk.blocks, E.disk.cache⟩, E.exts ++ [(⟨m176, m179, m181⟩ : DExt)]⟩, _, _, _, _, ⟨by first | omega | (dsimp only; omega) | (simp only [List.length_append, List.length_cons, List.length_nil, List.length_replicate]; omega), by first | omega | (dsimp only; omega) | (simp only [List.length_append, List.length_cons, List.length_nil, List.length_replicate]; omega), by first | omega | (dsimp only; omega) | (simp only [List.length_append, List.length_cons, List.length_nil, List.length_replicate]; omega), by omega, by omega⟩, rfl, rfl⟩
 refine FJ.e (goes_sch rfl rfl) rfl (by decide) rfl (e_buildSliceL (ps := [(0, .int .i64 1), (1, .int .i64 0), (2, .int .i64 60)]) (cs := [.int .i64 1, .int .i64 0, .int .i64 60]) rfl u_40 (inz inf_2) (by decide) (by intro act hact; simp only [List.map_toArray, List.map_cons, List.map_nil, (show Val _ _ _ from .c) act hact, (show Val _ _ _ from .c) act hact, (show Val _ _ _ from .c) act hact]) rfl rfl (by decide) rfl rfl) ?_
 rintro _ _ ⟨g185, rfl, rfl⟩
 refine FJ.sk (.s4 (.s (.s (.s .z)))) ?_
 refine FJ.schN ?_
 refine FJ.sch [(4, false), (7, false), (10, false), (11, true), (12, false), (13, false), (14, true), (15, false)] 0 #[true, true, true, true, true, true, true, true, true, true, true, true, true, true, true, true] (by rfl) (by kernel_rfl) ?_
 refine FJ.turns (c := ownA kSl_2 ([0, 3, (-1)] : (List Int)) [.slice (some ⟨g116, 0, none⟩) 3 3]) (.c (.s (.s .z)) .n) (fun w S h => lit_own (xs := ([0, 3, (-1)] : (List Int))) h rfl (by simp) (by omega) (by omega)) ?_
 refine FJ.call (goes_sch rfl rfl) rfl (by decide) rfl (c_call rfl Try.func120 rfl rfl (args2 (.t (.s4 (.s .z))) (.t (.s (.s .z))))) (.c (.s (.s (.s .z))) .n) (fun w1 S1 hs tr => c_120 (tr.ctx hcd) (tr.own .z) hs (by omega) (by simp)) ?_
 rintro _ _ ⟨m187, hm187, rfl, rfl⟩
 refine FJ.cat (.c .n) ?_
 simp only [List.mem_cons, List.not_mem_nil, or_false] at hm187
 refine FJ.sk (.s4 (.s (.s (.s .z)))) ?_
 refine FJ.turns (c := ownA kSl_2 ([1, 0, 60] : (List Int)) [.slice (some ⟨g185, 0, none⟩) 3 3]) (.c (.s (.s .z)) .n) (fun w S h => lit_own (xs := ([1, 0, 60] : (List Int))) h rfl (by simp) (by omega) (by omega)) ?_
 refine FJ.call (goes_sch rfl rfl) rfl (by decide) rfl (c_call rfl Try.func120 rfl rfl (args2 (.t (.s4 (.s .z))) (.t (.s .z)))) (.c (.s .z) .n) (fun w1 S1 hs tr => c_120 (tr.ctx hcd) (tr.own .z) hs (by omega) (by simp)) ?_
 rintro _ _ ⟨m189, hm189, rfl, rfl⟩
 refine FJ.cat (.c .n) ?_
 simp only [List.mem_cons, List.not_mem_nil, or_false] at hm189
 refine FJ.sk (.s4 (.s (.s (.s .z)))) ?_
 refine FJ.turns (c := ownA kSl_2 ([1, 0, 10000] : (List Int)) [.slice (some ⟨g174, 0, none⟩) 3 3]) (.c (.s (.s (.s .z))) .n) (fun w S h => lit_own (xs := ([1, 0, 10000] : (List Int))) h rfl (by simp) (by omega) (by omega)) ?_
 refine FJ.call (goes_sch rfl rfl) rfl (by decide) rfl (c_call rfl Try.func120 rfl rfl (args2 (.t (.s4 (.s .z))) (.t (.s (.s (.s .z)))))) (.c (.s .z) .n) (fun w1 S1 hs tr => c_120 (tr.ctx hcd) (tr.own .z) hs (by omega) (by simp)) ?_
 rintro _ _ ⟨m191, hm191, rfl, rfl⟩
 refine FJ.cat (.c .n) ?_
 simp only [List.mem_cons, List.not_mem_nil, or_false] at hm191
 refine FJ.sk (.s4 (.s (.s (.s .z)))) ?_
 refine FJ.dq rfl rfl rfl (by decide) rfl (.s4 (.s (.s (.s .z)))) (q_build (ps := [(0, .int .i64 m187), (1, .int .i64 m189), (2, .int .i64 m191)]) (cs := [.int .i64 m187, .int .i64 m189, .int .i64 m191]) rfl bl_135 (by intro act hact; simp only [List.map_toArray, List.map_cons, List.map_nil, (show Val _ _ _ from (.t (.s (.s .z)))) act hact, (show Val _ _ _ from (.t (.s .z))) act hact, (show Val _ _ _ from (.t .z)) act hact]) rfl) ?_
 refine FJ.e (goes_sch rfl rfl) rfl (by decide) rfl (e_buildSliceL (ps := [(0, .agg #[.int .i64 m187, .int .i64 m189, .int .i64 m191])]) (cs := [.int .i64 m187, .int .i64 m189, .int .i64 m191]) rfl u_41 (inz inf_135) (by decide) (by intro act hact; simp only [List.map_toArray, List.map_cons, List.map_nil, (show Val _ _ _ from (.t .z)) act hact]) rfl rfl (by decide) rfl rfl) ?_
 rintro _ _ ⟨g192, rfl, rfl⟩
 refine FJ.sk (.s4 (.s4 .z)) ?_
 refine FJ.turns (c := ownA kT_135 (⟨m187, m189, m191⟩ : DExt) [.int .i64 m187, .int .i64 m189, .int .i64 m191]) .n (fun w S h => kT_135_omk (⟨m187, m189, m191⟩ : DExt) h) ?_
 refine FJ.e (goes_sch rfl rfl) rfl (by decide) rfl (e_append1 rfl u_41 inf_135 rfl (.t (.s4 (.s4 (.s (.s (.s .z)))))) (.t .z) (.c (.s4 (.s (.s .z))) (.c (.s .z) (.c .z .n))) (by first | omega | (simp only [List.length_append, List.length_cons, List.length_nil, List.length_replicate]; omega)) (by first | omega | (simp only [List.length_append, List.length_cons, List.length_nil, List.length_replicate]; omega))) ?_
 rintro _ _ rfl
 refine FJ.know (WS.oform .z) ?_
 rintro ⟨Ao194, co194, rfl, hlo194, hmo194, hbo194⟩
 refine FJ.sk (.s4 (.s (.s (.s .z)))) ?_
 refine FJ.dq rfl rfl rfl (by decide) rfl (.s4 (.s (.s (.s .z)))) (q_fieldAddr rfl (.t (.s16 (.s4 (.s (.s (.s .z)))))) (fun _ => fa_43_1 _ _)) ?_
 refine FJ.es (goes_sch rfl rfl) rfl (es_store (off := 2) (cs := [.slice Ao194 (E.exts ++ [(⟨m187, m189, m191⟩ : DExt)]).length co194]) rfl sz_41 (.t .z) (.t (.s .z)) rfl (ones rfl) (.s4 (.s (.s (.s .z)))) (Nat.le_of_ble_eq_true rfl) (.c (.s (.s .z)) .n)) ?_
 refine FJ.sl rfl ?_
 refine FJ.schN ?_
 refine FJ.drawN (by kernel_rfl) ?_
 refine FJ.inBN (FJ.then_ (FJ.seq (FJ.region ?_)))
 refine FJ.ql rfl (q_loadA (cs := [.slice Agq0 E.disk.blocks.length cgq0, .slice Agq1 E.disk.cache.length cgq1, .slice Ao194 (E.exts ++ [(⟨m187, m189, m191⟩ : DExt)]).length co194]) rfl ag_43 sz_43 (.t (.s16 (.s4 (.s4 .z)))) (WS.rows0 .z (fun i u h => by exact h))) ?_
 refine FJ.es (goes_list rfl) rfl (es_store (off := 0) (cs := [.slice Agq0 E.disk.blocks.length cgq0, .slice Agq1 E.disk.cache.length cgq1, .slice Ao194 (E.exts ++ [(⟨m187, m189, m191⟩ : DExt)]).length co194]) rfl sz_43 (.t (.s16 (.s4 (.s4 (.s (.s .z)))))) (.t .z) rfl (ones rfl) (.s4 (.s4 .z)) (Nat.le_of_ble_eq_true rfl) (.c .z (.c (.s .z) (.c (.s (.s .z)) .n)))) ?_
 refine FJ.nil (FJ.then_ (FJ.ret ?_))
 refine FJ.doneS (resC (cs := [.slice Agq0 E.disk.blocks.length cgq0, .slice Agq1 E.disk.cache.length cgq1, .slice Ao194 (E.exts ++ [(⟨m187, m189, m191⟩ : DExt)]).length co194]) rfl (.s16 (.s4 (.s4 (.s (.s .z))))) ag_43 sz_43 (WS.rows0 (cs := [.slice Agq0 E.disk.blocks.length cgq0, .slice Agq1 E.disk.cache.length cgq1, .slice Ao194 (E.exts ++ [(⟨m187, m189, m191⟩ : DExt)]).length co194]) .z (fun _ _ h => h))) (.c (.s4 (.s (.s (.s .z)))) (.c (.s4 (.s (.s (.s .z)))) (.c (.s (.s .z)) (.c (.s (.s .z)) .n)))) ?_
 exact ⟨⟨⟨E.disk.blocks, E.disk.cache⟩, E.exts ++ [(⟨m187, m189, m191⟩ : DExt)]⟩, _, _, _, _, ⟨by first | omega | (dsimp only; omega) | (simp only [List.length_append, List.length_cons, List.length_nil, List.length_replicate]; omega), by first | omega | (dsimp only; omega) | (simp only [List.length_append, List.length_cons, List.length_nil, List.length_replicate]; omega), by first | omega | (dsimp only; omega) | (simp only [List.length_append, List.length_cons, List.length_nil, List.length_replicate]; omega), by omega, by omega⟩, rfl, rfl⟩
 refine FJ.e (goes_sch rfl rfl) rfl (by decide) rfl (e_buildSliceL (ps := [(0, .int .i64 1), (1, .int .i64 0), (2, .int .i64 60)]) (cs := [.int .i64 1, .int .i64 0, .int .i64 60]) rfl u_40 (inz inf_2) (by decide) (by intro act hact; simp only [List.map_toArray, List.map_cons, List.map_nil, (show Val _ _ _ from .c) act hact, (show Val _ _ _ from .c) act hact, (show Val _ _ _ from .c) act hact]) rfl rfl (by decide) rfl rfl) ?_
 rintro _ _ ⟨g195, rfl, rfl⟩
 refine FJ.sk (.s4 (.s .z)) ?_
 refine FJ.schN ?_
 refine FJ.sch [] 10 #[true, true, true, false, false, true, true, false, true, false, false, false, false, false, false, false] (by rfl) (by kernel_rfl) ?_
 refine FJ.schN ?_
 refine FJ.fork2 (i := 3) (j := 9) (by kernel_rfl) ?_ ?_
 refine FJ.e (goes_sch rfl rfl) rfl (by decide) rfl (e_buildSliceL (ps := [(0, .int .i64 0), (1, .int .i64 3), (2, .int .i64 (-1))]) (cs := [.int .i64 0, .int .i64 3, .int .i64 (-1)]) rfl u_40 (inz inf_2) (by decide) (by intro act hact; simp only [List.map_toArray, List.map_cons, List.map_nil, (show Val _ _ _ from .c) act hact, (show Val _ _ _ from .c) act hact, (show Val _ _ _ from .c) act hact]) rfl rfl (by decide) rfl rfl) ?_
 rintro _ _ ⟨g196, rfl, rfl⟩
 refine FJ.sk (.s4 (.s (.s .z))) ?_
 refine FJ.schN ?_
 refine FJ.sch [] 9 #[true, true, true, true, false, true, true, false, true, false, false, false, false, false, false, false] (by rfl) (by kernel_rfl) ?_
 refine FJ.schN ?_
 refine FJ.fork2 (i := 4) (j := 9) (by kernel_rfl) ?_ ?_
 refine FJ.turns (c := ownA kSl_2 ([0, 3, (-1)] : (List Int)) [.slice (some ⟨g196, 0, none⟩) 3 3]) (.c .z .n) (fun w S h => lit_own (xs := ([0, 3, (-1)] : (List Int))) h rfl (by simp) (by omega) (by omega)) ?_
 refine FJ.call (goes_sch rfl rfl) rfl (by decide) rfl (c_call rfl Try.func120 rfl rfl (args2 (.t (.s4 .z)) (.t .z))) (.c (.s (.s .z)) .n) (fun w1 S1 hs tr => c_120 (tr.ctx hcd) (tr.own .z) hs (by omega) (by simp)) ?_
 rintro _ _ ⟨m198, hm198, rfl, rfl⟩
 refine FJ.cat (.c .n) ?_
 simp only [List.mem_cons, List.not_mem_nil, or_false] at hm198
 refine FJ.sk (.s4 (.s (.s .z))) ?_
 refine FJ.schN ?_
 refine FJ.sch [] 8 #[true, true, true, true, true, true, true, false, true, false, false, false, false, false, false, false] (by rfl) (by kernel_rfl) ?_
 refine FJ.schN ?_
 refine FJ.fork2 (i := 7) (j := 9) (by kernel_rfl) ?_ ?_
 refine FJ.turns (c := ownA kSl_2 ([1, 0, 60] : (List Int)) [.slice (some ⟨g195, 0, none⟩) 3 3]) (.c (.s (.s .z)) .n) (fun w S h => lit_own (xs := ([1, 0, 60] : (List Int))) h rfl (by simp) (by omega) (by omega)) ?_
 refine FJ.call (goes_sch rfl rfl) rfl (by decide) rfl (c_call rfl Try.func120 rfl rfl (args2 (.t (.s4 .z)) (.t (.s (.s .z))))) (.c (.s .z) .n) (fun w1 S1 hs tr => c_120 (tr.ctx hcd) (tr.own .z) hs (by omega) (by simp)) ?_
 rintro _ _ ⟨m200, hm200, rfl, rfl⟩
 refine FJ.cat (.c .n) ?_
 simp only [List.mem_cons, List.not_mem_nil, or_false] at hm200
 refine FJ.sk (.s4 (.s (.s .z))) ?_
 refine FJ.schN ?_
 refine FJ.sch [(9, false), (10, false), (11, true), (12, false), (13, false), (14, true), (15, false)] 0 #[true, true, true, true, true, true, true, true, true, true, true, true, true, true, true, true] (by rfl) (by kernel_rfl) ?_
 refine FJ.e (goes_sch rfl rfl) rfl (by decide) rfl (e_buildSliceL (ps := [(0, .int .i64 1), (1, .int .i64 0), (2, .int .i64 10000)]) (cs := [.int .i64 1, .int .i64 0, .int .i64 10000]) rfl u_40 (inz inf_2) (by decide) (by intro act hact; simp only [List.map_toArray, List.map_cons, List.map_nil, (show Val _ _ _ from .c) act hact, (show Val _ _ _ from .c) act hact, (show Val _ _ _ from .c) act hact]) rfl rfl (by decide) rfl rfl) ?_
 rintro _ _ ⟨g201, rfl, rfl⟩
 refine FJ.sk (.s4 (.s (.s (.s .z)))) ?_
 refine FJ.turns (c := ownA kSl_2 ([1, 0, 10000] : (List Int)) [.slice (some ⟨g201, 0, none⟩) 3 3]) (.c .z .n) (fun w S h => lit_own (xs := ([1, 0, 10000] : (List Int))) h rfl (by simp) (by omega) (by omega)) ?_
 refine FJ.call (goes_sch rfl rfl) rfl (by decide) rfl (c_call rfl Try.func120 rfl rfl (args2 (.t (.s4 (.s .z))) (.t .z))) (.c (.s .z) .n) (fun w1 S1 hs tr => c_120 (tr.ctx hcd) (tr.own .z) hs (by omega) (by simp)) ?_
 rintro _ _ ⟨m203, hm203, rfl, rfl⟩
 refine FJ.cat (.c .n) ?_
 simp only [List.mem_cons, List.not_mem_nil, or_false] at hm203
 refine FJ.sk (.s4 (.s (.s (.s .z)))) ?_
 refine FJ.dq rfl rfl rfl (by decide) rfl (.s4 (.s (.s (.s .z)))) (q_build (ps := [(0, .int .i64 m198), (1, .int .i64 m200), (2, .int .i64 m203)]) (cs := [.int .i64 m198, .int .i64 m200, .int .i64 m203]) rfl bl_135 (by intro act hact; simp only [List.map_toArray, List.map_cons, List.map_nil, (show Val _ _ _ from (.t (.s (.s (.s .z))))) act hact, (show Val _ _ _ from (.t (.s (.s .z)))) act hact, (show Val _ _ _ from (.t .z)) act hact]) rfl) ?_
 refine FJ.e (goes_sch rfl rfl) rfl (by decide) rfl (e_buildSliceL (ps := [(0, .agg #[.int .i64 m198, .int .i64 m200, .int .i64 m203])]) (cs := [.int .i64 m198, .int .i64 m200, .int .i64 m203]) rfl u_41 (inz inf_135) (by decide) (by intro act hact; simp only [List.map_toArray, List.map_cons, List.map_nil, (show Val _ _ _ from (.t .z)) act hact]) rfl rfl (by decide) rfl rfl) ?_
 rintro _ _ ⟨g204, rfl, rfl⟩
 refine FJ.sk (.s4 (.s4 .z)) ?_
 refine FJ.turns (c := ownA kT_135 (⟨m198, m200, m203⟩ : DExt) [.int .i64 m198, .int .i64 m200, .int .i64 m203]) .n (fun w S h => kT_135_omk (⟨m198, m200, m203⟩ : DExt) h) ?_
 refine FJ.e (goes_sch rfl rfl) rfl (by decide) rfl (e_append1 rfl u_41 inf_135 rfl (.t (.s4 (.s4 (.s (.s (.s .z)))))) (.t .z) (.c (.s4 (.s (.s .z))) (.c (.s .z) (.c .z .n))) (by first | omega | (simp only [List.length_append, List.length_cons, List.length_nil, List.length_replicate]; omega)) (by first | omega | (simp only [List.length_append, List.length_cons, List.length_nil, List.length_replicate]; omega))) ?_
 rintro _ _ rfl
 refine FJ.know (WS.oform .z) ?_
 rintro ⟨Ao206, co206, rfl, hlo206, hmo206, hbo206⟩
 refine FJ.sk (.s4 (.s (.s (.s .z)))) ?_
 refine FJ.dq rfl rfl rfl (by decide) rfl (.s4 (.s (.s (.s .z)))) (q_fieldAddr rfl (.t (.s16 (.s4 (.s (.s (.s .z)))))) (fun _ => fa_43_1 _ _)) ?_
 refine FJ.es (goes_sch rfl rfl) rfl (es_store (off := 2) (cs := [.slice Ao206 (E.exts ++ [(⟨m198, m200, m203⟩ : DExt)]).length co206]) rfl sz_41 (.t .z) (.t (.s .z)) rfl (ones rfl) (.s4 (.s (.s (.s .z)))) (Nat.le_of_ble_eq_true rfl) (.c (.s (.s .z)) .n)) ?_
 refine FJ.sl rfl ?_
 refine FJ.schN ?_
 refine FJ.drawN (by kernel_rfl) ?_
 refine FJ.inBN (FJ.then_ (FJ.seq (FJ.region ?_)))
 refine FJ.ql rfl (q_loadA (cs := [.slice Agq0 E.disk.blocks.length cgq0, .slice Agq1 E.disk.cache.length cgq1, .slice Ao206 (E.exts ++ [(⟨m198, m200, m203⟩ : DExt)]).length co206]) rfl ag_43 sz_43 (.t (.s16 (.s4 (.s4 .z)))) (WS.rows0 .z (fun i u h => by exact h))) ?_
 refine FJ.es (goes_list rfl) rfl (es_store (off := 0) (cs := [.slice Agq0 E.disk.blocks.length cgq0, .slice Agq1 E.disk.cache.length cgq1, .slice Ao206 (E.exts ++ [(⟨m198, m200, m203⟩ : DExt)]).length co206]) rfl sz_43 (.t (.s16 (.s4 (.s4 (.s (.s .z)))))) (.t .z) rfl (ones rfl) (.s4 (.s4 .z)) (Nat.le_of_ble_eq_true rfl) (.c .z (.c (.s .z) (.c (.s (.s .z)) .n)))) ?_
 refine FJ.nil (FJ.then_ (FJ.ret ?_))
 refine FJ.doneS (resC (cs := [.slice Agq0 E.disk.blocks.length cgq0, .slice Agq1 E.disk.cache.length cgq1, .slice Ao206 (E.exts ++ [(⟨m198, m200, m203⟩ : DExt)]).length co206]) rfl (.s16 (.s4 (.s4 (.s (.s .z))))) ag_43 sz_43 (WS.rows0 (cs := [.slice Agq0 E.disk.blocks.length cgq0, .slice Agq1 E.disk.cache.length cgq1, .slice Ao206 (E.exts ++ [(⟨m198, m200, m203⟩ : DExt)]).length co206]) .z (fun _ _ h => h))) (.c (.s4 (.s (.s (.s .z)))) (.c (.s4 (.s (.s (.s .z)))) (.c (.s (.s .z)) (.c (.s (.s .z)) .n)))) ?_
 exact ⟨⟨⟨E.disk.blocks, E.disk.cache⟩, E.exts ++ [(⟨m198, m200, m203⟩ : DExt)]⟩, _, _, _, _, ⟨by first | omega | (dsimp only; omega) | (simp only [List.length_append, List.length_cons, List.length_nil, List.length_replicate]; omega), by first | omega | (dsimp only; omega) | (simp only [List.length_append, List.length_cons, List.length_nil, List.length_replicate]; omega), by first | omega | (dsimp only; omega) | (simp only [List.length_append, List.length_cons, List.length_nil, List.length_replicate]; omega), by omega, by omega⟩, rfl, rfl⟩
 refine FJ.e (goes_sch rfl rfl) rfl (by decide) rfl (e_buildSliceL (ps := [(0, .int .i64 1), (1, .int .i64 0), (2, .int .i64 10000)]) (cs := [.int .i64 1, .int .i64 0, .int .i64 10000]) rfl u_40 (inz inf_2) (by decide) (by intro act hact; simp only [List.map_toArray, List.map_cons, List.map_nil, (show Val _ _ _ from .c) act hact, (show Val _ _ _ from .c) act hact, (show Val _ _ _ from .c) act hact]) rfl rfl (by decide) rfl rfl) ?_
 rintro _ _ ⟨g207, rfl, rfl⟩
 refine FJ.sk (.s4 (.s (.s (.s .z)))) ?_
 refine FJ.schN ?_
 refine FJ.sch [(7, false), (10, false), (11, true), (12, false), (13, false), (14, true), (15, false)] 0 #[true, true, true, true, true, true, true, true, true, true, true, true, true, true, true, true] (by rfl) (by kernel_rfl) ?_
 refine FJ.turns (c := ownA kSl_2 ([1, 0, 60] : (List Int)) [.slice (some ⟨g195, 0, none⟩) 3 3]) (.c (.s (.s (.s .z))) .n) (fun w S h => lit_own (xs := ([1, 0, 60] : (List Int))) h rfl (by simp) (by omega) (by omega)) ?_
 refine FJ.call (goes_sch rfl rfl) rfl (by decide) rfl (c_call rfl Try.func120 rfl rfl (args2 (.t (.s4 (.s .z))) (.t (.s (.s (.s .z)))))) (.c (.s (.s .z)) .n) (fun w1 S1 hs tr => c_120 (tr.ctx hcd) (tr.own .z) hs (by omega) (by simp)) ?_
 rintro _ _ ⟨m209, hm209, rfl, rfl⟩
 refine FJ.cat (.c .n) ?_
 simp only [List.mem_cons, List.not_mem_nil, or_false] at hm209
 refine FJ.sk (.s4 (.s (.s (.s .z)))) ?_
 refine FJ.turns (c := ownA kSl_2 ([1, 0, 10000] : (List Int)) [.slice (some ⟨g207, 0, none⟩) 3 3]) (.c (.s (.s .z)) .n) (fun w S h => lit_own (xs := ([1, 0, 10000] : (List Int))) h rfl (by simp) (by omega) (by omega)) ?_
 refine FJ.call (goes_sch rfl rfl) rfl (by decide) rfl (c_call rfl Try.func120 rfl rfl (args2 (.t (.s4 (.s .z))) (.t (.s .z)))) (.c (.s .z) .n) (fun w1 S1 hs tr => c_120 (tr.ctx hcd) (tr.own .z) hs (by omega) (by simp)) ?_
 rintro _ _ ⟨m211, hm211, rfl, rfl⟩
 refine FJ.cat (.c .n) ?_
 simp only [List.mem_cons, List.not_mem_nil, or_false] at hm211
 refine FJ.sk (.s4 (.s (.s (.s .z)))) ?_
 refine FJ.dq rfl rfl rfl (by decide) rfl (.s4 (.s (.s (.s .z)))) (q_build (ps := [(0, .int .i64 m198), (1, .int .i64 m209), (2, .int .i64 m211)]) (cs := [.int .i64 m198, .int .i64 m209, .int .i64 m211]) rfl bl_135 (by intro act hact; simp only [List.map_toArray, List.map_cons, List.map_nil, (show Val _ _ _ from (.t (.s (.s (.s .z))))) act hact, (show Val _ _ _ from (.t (.s .z))) act hact, (show Val _ _ _ from (.t .z)) act hact]) rfl) ?_
 refine FJ.e (goes_sch rfl rfl) rfl (by decide) rfl (e_buildSliceL (ps := [(0, .agg #[.int .i64 m198, .int .i64 m209, .int .i64 m211])]) (cs := [.int .i64 m198, .int .i64 m209, .int .i64 m211]) rfl u_41 (inz inf_135) (by decide) (by intro act hact; simp only [List.map_toArray, List.map_cons, List.map_nil, (show Val _ _ _ from (.t .z)) act hact]) rfl rfl (by decide) rfl rfl) ?_
 rintro _ _ ⟨g212, rfl, rfl⟩
 refine FJ.sk (.s4 (.s4 .z)) ?_
 refine FJ.turns (c := ownA kT_135 (⟨m198, m209, m211⟩ : DExt) [.int .i64 m198, .int .i64 m209, .int .i64 m211]) .n (fun w S h => kT_135_omk (⟨m198, m209, m211⟩ : DExt) h) ?_
 refine FJ.e (goes_sch rfl rfl) rfl (by decide) rfl (e_append1 rfl u_41 inf_135 rfl (.t (.s4 (.s4 (.s (.s (.s .z)))))) (.t .z) (.c (.s4 (.s (.s .z))) (.c (.s .z) (.c .z .n))) (by first | omega | (simp only [List.length_append, List.length_cons, List.length_nil, List.length_replicate]; omega)) (by first | omega | (simp only [List.length_append, List.length_cons, List.length_nil, List.length_replicate]; omega))) ?_
 rintro _ _ rfl
 refine FJ.know (WS.oform .z) ?_
 rintro ⟨Ao214, co214, rfl, hlo214, hmo214, hbo214⟩
 refine FJ.sk (.s4 (.s (.s (.s .z)))) ?_
 refine FJ.dq rfl rfl rfl (by decide) rfl (.s4 (.s (.s (.s .z)))) (q_fieldAddr rfl (.t (.s16 (.s4 (.s (.s (.s .z)))))) (fun _ => fa_43_1 _ _)) ?_
 refine FJ.es (goes_sch rfl rfl) rfl (es_store (off := 2) (cs := [.slice Ao214 (E.exts ++ [(⟨m198, m209, m211⟩ : DExt)]).length co214]) rfl sz_41 (.t .z) (.t (.s .z)) rfl (ones rfl) (.s4 (.s (.s (.s .z)))) (Nat.le_of_ble_eq_true rfl) (.c (.s (.s .z)) .n)) ?_
 refine FJ.sl rfl ?_
 refine FJ.schN ?_
 refine FJ.drawN (by kernel_rfl) ?_
 refine FJ.inBN (FJ.then_ (FJ.seq (FJ.region ?_)))
 refine FJ.ql rfl (q_loadA (cs := [.slice Agq0 E.disk.blocks.length cgq0, .slice Agq1 E.disk.cache.length cgq1, .slice Ao214 (E.exts ++ [(⟨m198, m209, m211⟩ : DExt)]).length co214]) rfl ag_43 sz_43 (.t (.s16 (.s4 (.s4 .z)))) (WS.rows0 .z (fun i u h => by exact h))) ?_
 refine FJ.es (goes_list rfl) rfl (es_store (off := 0) (cs := [.slice Agq0 E.disk.blocks.length cgq0, .slice Agq1 E.disk.cache.length cgq1, .slice Ao214 (E.exts ++ [(⟨m198, m209, m211⟩ : DExt)]).length co214]) rfl sz_43 (.t (.s16 (.s4 (.s4 (.s (.s .z)))))) (.t .z) rfl (ones rfl) (.s4 (.s4 .z)) (Nat.le_of_ble_eq_true rfl) (.c .z (.c (.s .z) (.c (.s (.s .z)) .n)))) ?_
 refine FJ.nil (FJ.then_ (FJ.ret ?_))
 refine FJ.doneS (resC (cs := [.slice Agq0 E.disk.blocks.length cgq0, .slice Agq1 E.disk.cache.length cgq1, .slice Ao214 (E.exts ++ [(⟨m198, m209, m211⟩ : DExt)]).length co214]) rfl (.s16 (.s4 (.s4 (.s (.s .z))))) ag_43 sz_43 (WS.rows0 (cs := [.slice Agq0 E.disk.blocks.length cgq0, .slice Agq1 E.disk.cache.length cgq1, .slice Ao214 (E.exts ++ [(⟨m198, m209, m211⟩ : DExt)]).length co214]) .z (fun _ _ h => h))) (.c (.s4 (.s (.s (.s .z)))) (.c (.s4 (.s (.s (.s .z)))) (.c (.s (.s .z)) (.c (.s (.s .z)) .n)))) ?_
 exact ⟨⟨⟨E.disk.blocks, E.disk.cache⟩, E.exts ++ [(⟨m198, m209, m211⟩ : DExt)]⟩, _, _, _, _, ⟨by first | omega | (dsimp only; omega) | (simp only [List.length_append, List.length_cons, List.length_nil, List.length_replicate]; omega), by first | omega | (dsimp only; omega) | (simp only [List.length_append, List.length_cons, List.length_nil, List.length_replicate]; omega), by first | omega | (dsimp only; omega) | (simp only [List.length_append, List.length_cons, List.length_nil, List.length_replicate]; omega), by omega, by omega⟩, rfl, rfl⟩
 refine FJ.e (goes_sch rfl rfl) rfl (by decide) rfl (e_buildSliceL (ps := [(0, .int .i64 1), (1, .int .i64 0), (2, .int .i64 10000)]) (cs := [.int .i64 1, .int .i64 0, .int .i64 10000]) rfl u_40 (inz inf_2) (by decide) (by intro act hact; simp only [List.map_toArray, List.map_cons, List.map_nil, (show Val _ _ _ from .c) act hact, (show Val _ _ _ from .c) act hact, (show Val _ _ _ from .c) act hact]) rfl rfl (by decide) rfl rfl) ?_
 rintro _ _ ⟨g215, rfl, rfl⟩
 refine FJ.sk (.s4 (.s (.s (.s .z)))) ?_
 refine FJ.schN ?_
 refine FJ.sch [(4, false), (7, false), (10, false), (11, true), (12, false), (13, false), (14, true), (15, false)] 0 #[true, true, true, true, true, true, true, true, true, true, true, true, true, true, true, true] (by rfl) (by kernel_rfl) ?_
 refine FJ.turns (c := ownA kSl_2 ([0, 3, (-1)] : (List Int)) [.slice (some ⟨g196, 0, none⟩) 3 3]) (.c (.s .z) .n) (fun w S h => lit_own (xs := ([0, 3, (-1)] : (List Int))) h rfl (by simp) (by omega) (by omega)) ?_
 refine FJ.call (goes_sch rfl rfl) rfl (by decide) rfl (c_call rfl Try.func120 rfl rfl (args2 (.t (.s4 (.s .z))) (.t (.s .z)))) (.c (.s (.s (.s .z))) .n) (fun w1 S1 hs tr => c_120 (tr.ctx hcd) (tr.own .z) hs (by omega) (by simp)) ?_
 rintro _ _ ⟨m217, hm217, rfl, rfl⟩
 refine FJ.cat (.c .n) ?_
 simp only [List.mem_cons, List.not_mem_nil, or_false] at hm217
 refine FJ.sk (.s4 (.s (.s (.s .z)))) ?_
 refine FJ.turns (c := ownA kSl_2 ([1, 0, 60] : (List Int)) [.slice (some ⟨g195, 0, none⟩) 3 3]) (.c (.s (.s (.s .z))) .n) (fun w S h => lit_own (xs := ([1, 0, 60] : (List Int))) h rfl (by simp) (by omega) (by omega)) ?_
 refine FJ.call (goes_sch rfl rfl) rfl (by decide) rfl (c_call rfl Try.func120 rfl rfl (args2 (.t (.s4 (.s .z))) (.t (.s (.s (.s .z)))))) (.c (.s .z) .n) (fun w1 S1 hs tr => c_120 (tr.ctx hcd) (tr.own .z) hs (by omega) (by simp)) ?_
 rintro _ _ ⟨m219, hm219, rfl, rfl⟩
 refine FJ.cat (.c .n) ?_
 simp only [List.mem_cons, List.not_mem_nil, or_false] at hm219
 refine FJ.sk (.s4 (.s (.s (.s .z)))) ?_
 refine FJ.turns (c := ownA kSl_2 ([1, 0, 10000] : (List Int)) [.slice (some ⟨g215, 0, none⟩) 3 3]) (.c (.s (.s (.s .z))) .n) (fun w S h => lit_own (xs := ([1, 0, 10000] : (List Int))) h rfl (by simp) (by omega) (by omega)) ?_
 refine FJ.call (goes_sch rfl rfl) rfl (by decide) rfl (c_call rfl Try.func120 rfl rfl (args2 (.t (.s4 (.s .z))) (.t (.s (.s .z))))) (.c (.s .z) .n) (fun w1 S1 hs tr => c_120 (tr.ctx hcd) (tr.own .z) hs (by omega) (by simp)) ?_
 rintro _ _ ⟨m221, hm221, rfl, rfl⟩
 refine FJ.cat (.c .n) ?_
 simp only [List.mem_cons, List.not_mem_nil, or_false] at hm221
 refine FJ.sk (.s4 (.s (.s (.s .z)))) ?_
 refine FJ.dq rfl rfl rfl (by decide) rfl (.s4 (.s (.s (.s .z)))) (q_build (ps := [(0, .int .i64 m217), (1, .int .i64 m219), (2, .int .i64 m221)]) (cs := [.int .i64 m217, .int .i64 m219, .int .i64 m221]) rfl bl_135 (by intro act hact; simp only [List.map_toArray, List.map_cons, List.map_nil, (show Val _ _ _ from (.t (.s (.s .z)))) act hact, (show Val _ _ _ from (.t (.s .z))) act hact, (show Val _ _ _ from (.t .z)) act hact]) rfl) ?_
 refine FJ.e (goes_sch rfl rfl) rfl (by decide) rfl (e_buildSliceL (ps := [(0, .agg #[.int .i64 m217, .int .i64 m219, .int .i64 m221])]) (cs := [.int .i64 m217, .int .i64 m219, .int .i64 m221]) rfl u_41 (inz inf_135) (by decide) (by intro act hact; simp only [List.map_toArray, List.map_cons, List.map_nil, (show Val _ _ _ from (.t .z)) act hact]) rfl rfl (by decide) rfl rfl) ?_
 rintro _ _ ⟨g222, rfl, rfl⟩
 refine FJ.sk (.s4 (.s4 .z)) ?_
 refine FJ.turns (c := ownA kT_135 (⟨m217, m219, m221⟩ : DExt) [.int .i64 m217, .int .i64 m219, .int .i64 m221]) .n (fun w S h => kT_135_omk (⟨m217, m219, m221⟩ : DExt) h) ?_
 refine FJ.e (goes_sch rfl rfl) rfl (by decide) rfl (e_append1 rfl u_41 inf_135 rfl (.t (.s4 (.s4 (.s (.s (.s .z)))))) (.t .z) (.c (.s4 (.s (.s .z))) (.c (.s .z) (.c .z .n))) (by first | omega | (simp only [List.length_append, List.length_cons, List.length_nil, List.length_replicate]; omega)) (by first | omega | (simp only [List.length_append, List.length_cons, List.length_nil, List.length_replicate]; omega))) ?_
 rintro _ _ rfl
 refine FJ.know (WS.oform .z) ?_
 rintro ⟨Ao224, co224, rfl, hlo224, hmo224, hbo224⟩
 refine FJ.sk (.s4 (.s (.s (.s .z)))) ?_
 refine FJ.dq rfl rfl rfl (by decide) rfl (.s4 (.s (.s (.s .z)))) (q_fieldAddr rfl (.t (.s16 (.s4 (.s (.s (.s .z)))))) (fun _ => fa_43_1 _ _)) ?_
 refine FJ.es (goes_sch rfl rfl) rfl (es_store (off := 2) (cs := [.slice Ao224 (E.exts ++ [(⟨m217, m219, m221⟩ : DExt)]).length co224]) rfl sz_41 (.t .z) (.t (.s .z)) rfl (ones rfl) (.s4 (.s (.s (.s .z)))) (Nat.le_of_ble_eq_true rfl) (.c (.s (.s .z)) .n)) ?_
 refine FJ.sl rfl ?_
 refine FJ.schN ?_
 refine FJ.drawN (by kernel_rfl) ?_
 refine FJ.inBN (FJ.then_ (FJ.seq (FJ.region ?_)))
 refine FJ.ql rfl (q_loadA (cs := [.slice Agq0 E.disk.blocks.length cgq0, .slice Agq1 E.disk.cache.length cgq1, .slice Ao224 (E.exts ++ [(⟨m217, m219, m221⟩ : DExt)]).length co224]) rfl ag_43 sz_43 (.t (.s16 (.s4 (.s4 .z)))) (WS.rows0 .z (fun i u h => by exact h))) ?_
 refine FJ.es (goes_list rfl) rfl (es_store (off := 0) (cs := [.slice Agq0 E.disk.blocks.length cgq0, .slice Agq1 E.disk.cache.length cgq1, .slice Ao224 (E.exts ++ [(⟨m217, m219, m221⟩ : DExt)]).length co224]) rfl sz_43 (.t (.s16 (.s4 (.s4 (.s (.s .z)))))) (.t .z) rfl (ones rfl) (.s4 (.s4 .z)) (Nat.le_of_ble_eq_true rfl) (.c .z (.c (.s .z) (.c (.s (.s .z)) .n)))) ?_
 refine FJ.nil (FJ.then_ (FJ.ret ?_))
 refine FJ.doneS (resC (cs := [.slice Agq0 E.disk.blocks.length cgq0, .slice Agq1 E.disk.cache.length cgq1, .slice Ao224 (E.exts ++ [(⟨m217, m219, m221⟩ : DExt)]).length co224]) rfl (.s16 (.s4 (.s4 (.s (.s .z))))) ag_43 sz_43 (WS.rows0 (cs := [.slice Agq0 E.disk.blocks.length cgq0, .slice Agq1 E.disk.cache.length cgq1, .slice Ao224 (E.exts ++ [(⟨m217, m219, m221⟩ : DExt)]).length co224]) .z (fun _ _ h => h))) (.c (.s4 (.s (.s (.s .z)))) (.c (.s4 (.s (.s (.s .z)))) (.c (.s (.s .z)) (.c (.s (.s .z)) .n)))) ?_
 exact ⟨⟨⟨E.disk.blocks, E.disk.cache⟩, E.exts ++ [(⟨m217, m219, m221⟩ : DExt)]⟩, _, _, _, _, ⟨by first | omega | (dsimp only; omega) | (simp only [List.length_append, List.length_cons, List.length_nil, List.length_replicate]; omega), by first | omega | (dsimp only; omega) | (simp only [List.length_append, List.length_cons, List.length_nil, List.length_replicate]; omega), by first | omega | (dsimp only; omega) | (simp only [List.length_append, List.length_cons, List.length_nil, List.length_replicate]; omega), by omega, by omega⟩, rfl, rfl⟩
 refine FJ.e (goes_sch rfl rfl) rfl (by decide) rfl (e_buildSliceL (ps := [(0, .int .i64 1), (1, .int .i64 0), (2, .int .i64 10000)]) (cs := [.int .i64 1, .int .i64 0, .int .i64 10000]) rfl u_40 (inz inf_2) (by decide) (by intro act hact; simp only [List.map_toArray, List.map_cons, List.map_nil, (show Val _ _ _ from .c) act hact, (show Val _ _ _ from .c) act hact, (show Val _ _ _ from .c) act hact]) rfl rfl (by decide) rfl rfl) ?_
 rintro _ _ ⟨g225, rfl, rfl⟩
 refine FJ.sk (.s4 (.s (.s .z))) ?_
 refine FJ.schN ?_
 refine FJ.sch [(3, false), (4, false), (7, false), (10, false), (11, true), (12, false), (13, false), (14, true), (15, false)] 0 #[true, true, true, true, true, true, true, true, true, true, true, true, true, true, true, true] (by rfl) (by kernel_rfl) ?_
 refine FJ.e (goes_sch rfl rfl) rfl (by decide) rfl (e_buildSliceL (ps := [(0, .int .i64 0), (1, .int .i64 3), (2, .int .i64 (-1))]) (cs := [.int .i64 0, .int .i64 3, .int .i64 (-1)]) rfl u_40 (inz inf_2) (by decide) (by intro act hact; simp only [List.map_toArray, List.map_cons, List.map_nil, (show Val _ _ _ from .c) act hact, (show Val _ _ _ from .c) act hact, (show Val _ _ _ from .c) act hact]) rfl rfl (by decide) rfl rfl) ?_
 rintro _ _ ⟨g226, rfl, rfl⟩
 refine FJ.sk (.s4 (.s (.s (.s .z)))) ?_
 refine FJ.turns (c := ownA kSl_2 ([0, 3, (-1)] : (List Int)) [.slice (some ⟨g226, 0, none⟩) 3 3]) (.c .z .n) (fun w S h => lit_own (xs := ([0, 3, (-1)] : (List Int))) h rfl (by simp) (by omega) (by omega)) ?_
 refine FJ.call (goes_sch rfl rfl) rfl (by decide) rfl (c_call rfl Try.func120 rfl rfl (args2 (.t (.s4 (.s .z))) (.t .z))) (.c (.s (.s (.s .z))) .n) (fun w1 S1 hs tr => c_120 (tr.ctx hcd) (tr.own .z) hs (by omega) (by simp)) ?_
 rintro _ _ ⟨m228, hm228, rfl, rfl⟩
 refine FJ.cat (.c .n) ?_
 simp only [List.mem_cons, List.not_mem_nil, or_false] at hm228
 refine FJ.sk (.s4 (.s (.s (.s .z)))) ?_
 refine FJ.turns (c := ownA kSl_2 ([1, 0, 60] : (List Int)) [.slice (some ⟨g195, 0, none⟩) 3 3]) (.c (.s (.s (.s .z))) .n) (fun w S h => lit_own (xs := ([1, 0, 60] : (List Int))) h rfl (by simp) (by omega) (by omega)) ?_
 refine FJ.call (goes_sch rfl rfl) rfl (by decide) rfl (c_call rfl Try.func120 rfl rfl (args2 (.t (.s4 (.s .z))) (.t (.s (.s (.s .z)))))) (.c (.s .z) .n) (fun w1 S1 hs tr => c_120 (tr.ctx hcd) (tr.own .z) hs (by omega) (by simp)) ?_
 rintro _ _ ⟨m230, hm230, rfl, rfl⟩
 refine FJ.cat (.c .n) ?_
 simp only [List.mem_cons, List.not_mem_nil, or_false] at hm230
 refine FJ.sk (.s4 (.s (.s (.s .z)))) ?_
 refine FJ.turns (c := ownA kSl_2 ([1, 0, 10000] : (List Int)) [.slice (some ⟨g225, 0, none⟩) 3 3]) (.c (.s (.s (.s .z))) .n) (fun w S h => lit_own (xs := ([1, 0, 10000] : (List Int))) h rfl (by simp) (by omega) (by omega)) ?_
 refine FJ.call (goes_sch rfl rfl) rfl (by decide) rfl (c_call rfl Try.func120 rfl rfl (args2 (.t (.s4 (.s .z))) (.t (.s (.s (.s .z)))))) (.c (.s .z) .n) (fun w1 S1 hs tr => c_120 (tr.ctx hcd) (tr.own .z) hs (by omega) (by simp)) ?_
 rintro _ _ ⟨m232, hm232, rfl, rfl⟩
 refine FJ.cat (.c .n) ?_
 simp only [List.mem_cons, List.not_mem_nil, or_false] at hm232
 refine FJ.sk (.s4 (.s (.s (.s .z)))) ?_
 refine FJ.dq rfl rfl rfl (by decide) rfl (.s4 (.s (.s (.s .z)))) (q_build (ps := [(0, .int .i64 m228), (1, .int .i64 m230), (2, .int .i64 m232)]) (cs := [.int .i64 m228, .int .i64 m230, .int .i64 m232]) rfl bl_135 (by intro act hact; simp only [List.map_toArray, List.map_cons, List.map_nil, (show Val _ _ _ from (.t (.s (.s .z)))) act hact, (show Val _ _ _ from (.t (.s .z))) act hact, (show Val _ _ _ from (.t .z)) act hact]) rfl) ?_
 refine FJ.e (goes_sch rfl rfl) rfl (by decide) rfl (e_buildSliceL (ps := [(0, .agg #[.int .i64 m228, .int .i64 m230, .int .i64 m232])]) (cs := [.int .i64 m228, .int .i64 m230, .int .i64 m232]) rfl u_41 (inz inf_135) (by decide) (by intro act hact; simp only [List.map_toArray, List.map_cons, List.map_nil, (show Val _ _ _ from (.t .z)) act hact]) rfl rfl (by decide) rfl rfl) ?_
 rintro _ _ ⟨g233, rfl, rfl⟩
 refine FJ.sk (.s4 (.s4 .z)) ?_
 refine FJ.turns (c := ownA kT_135 (⟨m228, m230, m232⟩ : DExt) [.int .i64 m228, .int .i64 m230, .int .i64 m232]) .n (fun w S h => kT_135_omk (⟨m228, m230, m232⟩ : DExt) h) ?_
 refine FJ.e (goes_sch rfl rfl) rfl (by decide) rfl (e_append1 rfl u_41 inf_135 rfl (.t (.s4 (.s4 (.s (.s (.s .z)))))) (.t .z) (.c (.s4 (.s (.s .z))) (.c (.s .z) (.c .z .n))) (by first | omega | (simp only [List.length_append, List.length_cons, List.length_nil, List.length_replicate]; omega)) (by first | omega | (simp only [List.length_append, List.length_cons, List.length_nil, List.length_replicate]; omega))) ?_
 rintro _ _ rfl
 refine FJ.know (WS.oform .z) ?_
 rintro ⟨Ao235, co235, rfl, hlo235, hmo235, hbo235⟩
 refine FJ.sk (.s4 (.s (.s (.s .z)))) ?_
 refine FJ.dq rfl rfl rfl (by decide) rfl (.s4 (.s (.s (.s .z)))) (q_fieldAddr rfl (.t (.s16 (.s4 (.s (.s (.s .z)))))) (fun _ => fa_43_1 _ _)) ?_
 refine FJ.es (goes_sch rfl rfl) rfl (es_store (off := 2) (cs := [.slice Ao235 (E.exts ++ [(⟨m228, m230, m232⟩ : DExt)]).length co235]) rfl sz_41 (.t .z) (.t (.s .z)) rfl (ones rfl) (.s4 (.s (.s (.s .z)))) (Nat.le_of_ble_eq_true rfl) (.c (.s (.s .z)) .n)) ?_
 refine FJ.sl rfl ?_
 refine FJ.schN ?_
 refine FJ.drawN (by kernel_rfl) ?_
 refine FJ.inBN (FJ.then_ (FJ.seq (FJ.region ?_)))
 refine FJ.ql rfl (q_loadA (cs := [.slice Agq0 E.disk.blocks.length cgq0, .slice Agq1 E.disk.cache.length cgq1, .slice Ao235 (E.exts ++ [(⟨m228, m230, m232⟩ : DExt)]).length co235]) rfl ag_43 sz_43 (.t (.s16 (.s4 (.s4 .z)))) (WS.rows0 .z (fun i u h => by exact h))) ?_
 refine FJ.es (goes_list rfl) rfl (es_store (off := 0) (cs := [.slice Agq0 E.disk.blocks.length cgq0, .slice Agq1 E.disk.cache.length cgq1, .slice Ao235 (E.exts ++ [(⟨m228, m230, m232⟩ : DExt)]).length co235]) rfl sz_43 (.t (.s16 (.s4 (.s4 (.s (.s .z)))))) (.t .z) rfl (ones rfl) (.s4 (.s4 .z)) (Nat.le_of_ble_eq_true rfl) (.c .z (.c (.s .z) (.c (.s (.s .z)) .n)))) ?_
 refine FJ.nil (FJ.then_ (FJ.ret ?_))
 refine FJ.doneS (resC (cs := [.slice Agq0 E.disk.blocks.length cgq0, .slice Agq1 E.disk.cache.length cgq1, .slice Ao235 (E.exts ++ [(⟨m228, m230, m232⟩ : DExt)]).length co235]) rfl (.s16 (.s4 (.s4 (.s (.s .z))))) ag_43 sz_43 (WS.rows0 (cs := [.slice Agq0 E.disk.blocks.length cgq0, .slice Agq1 E.disk.cache.length cgq1, .slice Ao235 (E.exts ++ [(⟨m228, m230, m232⟩ : DExt)]).length co235]) .z (fun _ _ h => h))) (.c (.s4 (.s (.s (.s .z)))) (.c (.s4 (.s (.s (.s .z)))) (.c (.s (.s .z)) (.c (.s (.s .z)) .n)))) ?_
 exact ⟨⟨⟨E.disk.blocks, E.disk.cache⟩, E.exts ++ [(⟨m228, m230, m232⟩ : DExt)]⟩, _, _, _, _, ⟨by first | omega | (dsimp only; omega) | (simp only [List.length_append, List.length_cons, List.length_nil, List.length_replicate]; omega), by first | omega | (dsimp only; omega) | (simp only [List.length_append, List.length_cons, List.length_nil, List.length_replicate]; omega), by first | omega | (dsimp only; omega) | (simp only [List.length_append, List.length_cons, List.length_nil, List.length_replicate]; omega), by omega, by omega⟩, rfl, rfl⟩
 refine FJ.e (goes_sch rfl rfl) rfl (by decide) rfl (e_buildSliceL (ps := [(0, .int .i64 1), (1, .int .i64 0), (2, .int .i64 10000)]) (cs := [.int .i64 1, .int .i64 0, .int .i64 10000]) rfl u_40 (inz inf_2) (by decide) (by intro act hact; simp only [List.map_toArray, List.map_cons, List.map_nil, (show Val _ _ _ from .c) act hact, (show Val _ _ _ from .c) act hact, (show Val _ _ _ from .c) act hact]) rfl rfl (by decide) rfl rfl) ?_
 rintro _ _ ⟨g236, rfl, rfl⟩
 refine FJ.sk (.s4 (.s .z)) ?_
 refine FJ.schN ?_
 refine FJ.sch [] 10 #[true, true, true, false, false, true, false, false, true, true, false, false, false, false, false, false] (by rfl) (by kernel_rfl) ?_
 refine FJ.schN ?_
 refine FJ.fork2 (i := 3) (j := 6) (by kernel_rfl) ?_ ?_
 refine FJ.e (goes_sch rfl rfl) rfl (by decide) rfl (e_buildSliceL (ps := [(0, .int .i64 0), (1, .int .i64 3), (2, .int .i64 (-1))]) (cs := [.int .i64 0, .int .i64 3, .int .i64 (-1)]) rfl u_40 (inz inf_2) (by decide) (by intro act hact; simp only [List.map_toArray, List.map_cons, List.map_nil, (show Val _ _ _ from .c) act hact, (show Val _ _ _ from .c) act hact, (show Val _ _ _ from .c) act hact]) rfl rfl (by decide) rfl rfl) ?_
 rintro _ _ ⟨g237, rfl, rfl⟩
 refine FJ.sk (.s4 (.s (.s .z))) ?_
 refine FJ.schN ?_
 refine FJ.sch [] 9 #[true, true, true, true, false, true, false, false, true, true, false, false, false, false, false, false] (by rfl) (by kernel_rfl) ?_
 refine FJ.schN ?_
 refine FJ.fork2 (i := 4) (j := 6) (by kernel_rfl) ?_ ?_
 refine FJ.turns (c := ownA kSl_2 ([0, 3, (-1)] : (List Int)) [.slice (some ⟨g237, 0, none⟩) 3 3]) (.c .z .n) (fun w S h => lit_own (xs := ([0, 3, (-1)] : (List Int))) h rfl (by simp) (by omega) (by omega)) ?_
 refine FJ.call (goes_sch rfl rfl) rfl (by decide) rfl (c_call rfl Try.func120 rfl rfl (args2 (.t (.s4 .z)) (.t .z))) (.c (.s (.s .z)) .n) (fun w1 S1 hs tr => c_120 (tr.ctx hcd) (tr.own .z) hs (by omega) (by simp)) ?_
 rintro _ _ ⟨m239, hm239, rfl, rfl⟩
 refine FJ.cat (.c .n) ?_
 simp only [List.mem_cons, List.not_mem_nil, or_false] at hm239
 refine FJ.sk (.s4 (.s (.s .z))) ?_
 refine FJ.schN ?_
 refine FJ.sch [(6, false), (7, false), (10, false), (11, true), (12, false), (13, false), (14, true), (15, false)] 0 #[true, true, true, true, true, true, true, true, true, true, true, true, true, true, true, true] (by rfl) (by kernel_rfl) ?_
 refine FJ.e (goes_sch rfl rfl) rfl (by decide) rfl (e_buildSliceL (ps := [(0, .int .i64 1), (1, .int .i64 0), (2, .int .i64 60)]) (cs := [.int .i64 1, .int .i64 0, .int .i64 60]) rfl u_40 (inz inf_2) (by decide) (by intro act hact; simp only [List.map_toArray, List.map_cons, List.map_nil, (show Val _ _ _ from .c) act hact, (show Val _ _ _ from .c) act hact, (show Val _ _ _ from .c) act hact]) rfl rfl (by decide) rfl rfl) ?_
 rintro _ _ ⟨g240, rfl, rfl⟩
 refine FJ.sk (.s4 (.s (.s (.s .z)))) ?_
 refine FJ.turns (c := ownA kSl_2 ([1, 0, 60] : (List Int)) [.slice (some ⟨g240, 0, none⟩) 3 3]) (.c .z .n) (fun w S h => lit_own (xs := ([1, 0, 60] : (List Int))) h rfl (by simp) (by omega) (by omega)) ?_
 refine FJ.call (goes_sch rfl rfl) rfl (by decide) rfl (c_call rfl Try.func120 rfl rfl (args2 (.t (.s4 (.s .z))) (.t .z))) (.c (.s .z) .n) (fun w1 S1 hs tr => c_120 (tr.ctx hcd) (tr.own .z) hs (by omega) (by simp)) ?_
 rintro _ _ ⟨m242, hm242, rfl, rfl⟩
 refine FJ.cat (.c .n) ?_
 simp only [List.mem_cons, List.not_mem_nil, or_false] at hm242
 refine FJ.sk (.s4 (.s (.s (.s .z)))) ?_
 refine FJ.turns (c := ownA kSl_2 ([1, 0, 10000] : (List Int)) [.slice (some ⟨g236, 0, none⟩) 3 3]) (.c (.s (.s (.s .z))) .n) (fun w S h => lit_own (xs := ([1, 0, 10000] : (List Int))) h rfl (by simp) (by omega) (by omega)) ?_
 refine FJ.call (goes_sch rfl rfl) rfl (by decide) rfl (c_call rfl Try.func120 rfl rfl (args2 (.t (.s4 (.s .z))) (.t (.s4 .z)))) (.c (.s .z) .n) (fun w1 S1 hs tr => c_120 (tr.ctx hcd) (tr.own .z) hs (by omega) (by simp)) ?_
 rintro _ _ ⟨m244, hm244, rfl, rfl⟩
 refine FJ.cat (.c .n) ?_
 simp only [List.mem_cons, List.not_mem_nil, or_false] at hm244
 refine FJ.sk (.s4 (.s (.s (.s .z)))) ?_
 refine FJ.dq rfl rfl rfl (by decide) rfl (.s4 (.s (.s (.s .z)))) (q_build (ps := [(0, .int .i64 m239), (1, .int .i64 m242), (2, .int .i64 m244)]) (cs := [.int .i64 m239, .int .i64 m242, .int .i64 m244]) rfl bl_135 (by intro act hact; simp only [List.map_toArray, List.map_cons, List.map_nil, (show Val _ _ _ from (.t (.s (.s (.s .z))))) act hact, (show Val _ _ _ from (.t (.s .z))) act hact, (show Val _ _ _ from (.t .z)) act hact]) rfl) ?_
 refine FJ.e (goes_sch rfl rfl) rfl (by decide) rfl (e_buildSliceL (ps := [(0, .agg #[.int .i64 m239, .int .i64 m242, .int .i64 m244])]) (cs := [.int .i64 m239, .int .i64 m242, .int .i64 m244]) rfl u_41 (inz inf_135) (by decide) (by intro act hact; simp only [List.map_toArray, List.map_cons, List.map_nil, (show Val _ _ _ from (.t .z)) act hact]) rfl rfl (by decide) rfl rfl) ?_
 rintro _ _ ⟨g245, rfl, rfl⟩
 refine FJ.sk (.s4 (.s4 .z)) ?_
 refine FJ.turns (c := ownA kT_135 (⟨m239, m242, m244⟩ : DExt) [.int .i64 m239, .int .i64 m242, .int .i64 m244]) .n (fun w S h => kT_135_omk (⟨m239, m242, m244⟩ : DExt) h) ?_
 refine FJ.e (goes_sch rfl rfl) rfl (by decide) rfl (e_append1 rfl u_41 inf_135 rfl (.t (.s4 (.s4 (.s (.s (.s .z)))))) (.t .z) (.c (.s4 (.s (.s .z))) (.c (.s .z) (.c .z .n))) (by first | omega | (simp only [List.length_append, List.length_cons, List.length_nil, List.length_replicate]; omega)) (by first | omega | (simp only [List.length_append, List.length_cons, List.length_nil, List.length_replicate]; omega))) ?_
 rintro _ _ rfl
 refine FJ.know (WS.oform .z) ?_
 rintro ⟨Ao247, co247, rfl, hlo247, hmo247, hbo247⟩
 refine FJ.sk (.s4 (.s (.s (.s .z)))) ?_
 refine FJ.dq rfl rfl rfl (by decide) rfl (.s4 (.s (.s (.s .z)))) (q_fieldAddr rfl (.t (.s16 (.s4 (.s (.s (.s .z)))))) (fun _ => fa_43_1 _ _)) ?_
 refine FJ.es (goes_sch rfl rfl) rfl (es_store (off := 2) (cs := [.slice Ao247 (E.exts ++ [(⟨m239, m242, m244⟩ : DExt)]).length co247]) rfl sz_41 (.t .z) (.t (.s .z)) rfl (ones rfl) (.s4 (.s (.s (.s .z)))) (Nat.le_of_ble_eq_true rfl) (.c (.s (.s .z)) .n)) ?_
 refine FJ.sl rfl ?_
 refine FJ.schN ?_
 refine FJ.drawN (by kernel_rfl) ?_
 refine FJ.inBN (FJ.then_ (FJ.seq (FJ.region ?_)))
 refine FJ.ql rfl (q_loadA (cs := [.slice Agq0 E.disk.blocks.length cgq0, .slice Agq1 E.disk.cache.length cgq1, .slice Ao247 (E.exts ++ [(⟨m239, m242, m244⟩ : DExt)]).length co247]) rfl ag_43 sz_43 (.t (.s16 (.s4 (.s4 .z)))) (WS.rows0 .z (fun i u h => by exact h))) ?_
 refine FJ.es (goes_list rfl) rfl (es_store (off := 0) (cs := [.slice Agq0 E.disk.blocks.length cgq0, .slice Agq1 E.disk.cache.length cgq1, .slice Ao247 (E.exts ++ [(⟨m239, m242, m244⟩ : DExt)]).length co247]) rfl sz_43 (.t (.s16 (.s4 (.s4 (.s (.s .z)))))) (.t .z) rfl (ones rfl) (.s4 (.s4 .z)) (Nat.le_of_ble_eq_true rfl) (.c .z (.c (.s .z) (.c (.s (.s .z)) .n)))) ?_
 refine FJ.nil (FJ.then_ (FJ.ret ?_))
 refine FJ.doneS (resC (cs := [.slice Agq0 E.disk.blocks.length cgq0, .slice Agq1 E.disk.cache.length cgq1, .slice Ao247 (E.exts ++ [(⟨m239, m242, m244⟩ : DExt)]).length co247]) rfl (.s16 (.s4 (.s4 (.s (.s .z))))) ag_43 sz_43 (WS.rows0 (cs := [.slice Agq0 E.disk.blocks.length cgq0, .slice Agq1 E.disk.cache.length cgq1, .slice Ao247 (E.exts ++ [(⟨m239, m242, m244⟩ : DExt)]).length co247]) .z (fun _ _ h => h))) (.c (.s4 (.s (.s (.s .z)))) (.c (.s4 (.s (.s (.s .z)))) (.c (.s (.s .z)) (.c (.s (.s .z)) .n)))) ?_
 exact ⟨⟨⟨E.disk.blocks, E.disk.cache⟩, E.exts ++ [(⟨m239, m242, m244⟩ : DExt)]⟩, _, _, _, _, ⟨by first | omega | (dsimp only; omega) | (simp only [List.length_append, List.length_cons, List.length_nil, List.length_replicate]; omega), by first | omega | (dsimp only; omega) | (simp only [List.length_append, List.length_cons, List.length_nil, List.length_replicate]; omega), by first | omega | (dsimp only; omega) | (simp only [List.length_append, List.length_cons, List.length_nil, List.length_replicate]; omega), by omega, by omega⟩, rfl, rfl⟩
 refine FJ.e (goes_sch rfl rfl) rfl (by decide) rfl (e_buildSliceL (ps := [(0, .int .i64 1), (1, .int .i64 0), (2, .int .i64 60)]) (cs := [.int .i64 1, .int .i64 0, .int .i64 60]) rfl u_40 (inz inf_2) (by decide) (by intro act hact; simp only [List.map_toArray, List.map_cons, List.map_nil, (show Val _ _ _ from .c) act hact, (show Val _ _ _ from .c) act hact, (show Val _ _ _ from .c) act hact]) rfl rfl (by decide) rfl rfl) ?_
 rintro _ _ ⟨g248, rfl, rfl⟩
 refine FJ.sk (.s4 (.s (.s (.s .z)))) ?_
 refine FJ.schN ?_
 refine FJ.sch [(4, false), (7, false), (10, false), (11, true), (12, false), (13, false), (14, true), (15, false)] 0 #[true, true, true, true, true, true, true, true, true, true, true, true, true, true, true, true] (by rfl) (by kernel_rfl) ?_
 refine FJ.turns (c := ownA kSl_2 ([0, 3, (-1)] : (List Int)) [.slice (some ⟨g237, 0, none⟩) 3 3]) (.c (.s .z) .n) (fun w S h => lit_own (xs := ([0, 3, (-1)] : (List Int))) h rfl (by simp) (by omega) (by omega)) ?_
 refine FJ.call (goes_sch rfl rfl) rfl (by decide) rfl (c_call rfl Try.func120 rfl rfl (args2 (.t (.s4 (.s .z))) (.t (.s .z)))) (.c (.s (.s (.s .z))) .n) (fun w1 S1 hs tr => c_120 (tr.ctx hcd) (tr.own .z) hs (by omega) (by simp)) ?_
 rintro _ _ ⟨m250, hm250, rfl, rfl⟩
 refine FJ.cat (.c .n) ?_
 simp only [List.mem_cons, List.not_mem_nil, or_false] at hm250
 refine FJ.sk (.s4 (.s (.s (.s .z)))) ?_
 refine FJ.turns (c := ownA kSl_2 ([1, 0, 60] : (List Int)) [.slice (some ⟨g248, 0, none⟩) 3 3]) (.c (.s (.s .z)) .n) (fun w S h => lit_own (xs := ([1, 0, 60] : (List Int))) h rfl (by simp) (by omega) (by omega)) ?_
 refine FJ.call (goes_sch rfl rfl) rfl (by decide) rfl (c_call rfl Try.func120 rfl rfl (args2 (.t (.s4 (.s .z))) (.t (.s .z)))) (.c (.s .z) .n) (fun w1 S1 hs tr => c_120 (tr.ctx hcd) (tr.own .z) hs (by omega) (by simp)) ?_
 rintro _ _ ⟨m252, hm252, rfl, rfl⟩
 refine FJ.cat (.c .n) ?_
 simp only [List.mem_cons, List.not_mem_nil, or_false] at hm252
 refine FJ.sk (.s4 (.s (.s (.s .z)))) ?_
 refine FJ.turns (c := ownA kSl_2 ([1, 0, 10000] : (List Int)) [.slice (some ⟨g236, 0, none⟩) 3 3]) (.c (.s (.s (.s .z))) .n) (fun w S h => lit_own (xs := ([1, 0, 10000] : (List Int))) h rfl (by simp) (by omega) (by omega)) ?_
 refine FJ.call (goes_sch rfl rfl) rfl (by decide) rfl (c_call rfl Try.func120 rfl rfl (args2 (.t (.s4 (.s .z))) (.t (.s4 .z)))) (.c (.s .z) .n) (fun w1 S1 hs tr => c_120 (tr.ctx hcd) (tr.own .z) hs (by omega) (by simp)) ?_
 rintro _ _ ⟨m254, hm254, rfl, rfl⟩
 refine FJ.cat (.c .n) ?_
 simp only [List.mem_cons, List.not_mem_nil, or_false] at hm254
 refine FJ.sk (.s4 (.s (.s (.s .z)))) ?_
 refine FJ.dq rfl rfl rfl (by decide) rfl (.s4 (.s (.s (.s .z)))) (q_build (ps := [(0, .int .i64 m250), (1, .int .i64 m252), (2, .int .i64 m254)]) (cs := [.int .i64 m250, .int .i64 m252, .int .i64 m254]) rfl bl_135 (by intro act hact; simp only [List.map_toArray, List.map_cons, List.map_nil, (show Val _ _ _ from (.t (.s (.s .z)))) act hact, (show Val _ _ _ from (.t (.s .z))) act hact, (show Val _ _ _ from (.t .z)) act hact]) rfl) ?_
 refine FJ.e (goes_sch rfl rfl) rfl (by decide) rfl (e_buildSliceL (ps := [(0, .agg #[.int .i64 m250, .int .i64 m252, .int .i64 m254])]) (cs := [.int .i64 m250, .int .i64 m252, .int .i64 m254]) rfl u_41 (inz inf_135) (by decide) (by intro act hact; simp only [List.map_toArray, List.map_cons, List.map_nil, (show Val _ _ _ from (.t .z)) act hact]) rfl rfl (by decide) rfl rfl) ?_
 rintro _ _ ⟨g255, rfl, rfl⟩
 refine FJ.sk (.s4 (.s4 .z)) ?_
 refine FJ.turns (c := ownA kT_135 (⟨m250, m252, m254⟩ : DExt) [.int .i64 m250, .int .i64 m252, .int .i64 m254]) .n (fun w S h => kT_135_omk (⟨m250, m252, m254⟩ : DExt) h) ?_
 refine FJ.e (goes_sch rfl rfl) rfl (by decide) rfl (e_append1 rfl u_41 inf_135 rfl (.t (.s4 (.s4 (.s (.s (.s .z)))))) (.t .z) (.c (.s4 (.s (.s .z))) (.c (.s .z) (.c .z .n))) (by first | omega | (simp only [List.length_append, List.length_cons, List.length_nil, List.length_replicate]; omega)) (by first | omega | (simp only [List.length_append, List.length_cons, List.length_nil, List.length_replicate]; omega))) ?_
 rintro _ _ rfl
 refine FJ.know (WS.oform .z) ?_
 rintro ⟨Ao257, co257, rfl, hlo257, hmo257, hbo257⟩
 refine FJ.sk (.s4 (.s (.s (.s .z)))) ?_
 refine FJ.dq rfl rfl rfl (by decide) rfl (.s4 (.s (.s (.s .z)))) (q_fieldAddr rfl (.t (.s16 (.s4 (.s (.s (.s .z)))))) (fun _ => fa_43_1 _ _)) ?_
 refine FJ.es (goes_sch rfl rfl) rfl (es_store (off := 2) (cs := [.slice Ao257 (E.exts ++ [(⟨m250, m252, m254⟩ : DExt)]).length co257]) rfl sz_41 (.t .z) (.t (.s .z)) rfl (ones rfl) (.s4 (.s (.s (.s .z)))) (Nat.le_of_ble_eq_true rfl) (.c (.s (.s .z)) .n)) ?_
 refine FJ.sl rfl ?_
 refine FJ.schN ?_
 refine FJ.drawN (by kernel_rfl) ?_
 refine FJ.inBN (FJ.then_ (FJ.seq (FJ.region ?_)))
 refine FJ.ql rfl (q_loadA (cs := [.slice Agq0 E.disk.blocks.length cgq0, .slice Agq1 E.disk.cache.length cgq1, .slice Ao257 (E.exts ++ [(⟨m250, m252, m254⟩ : DExt)]).length co257]) rfl ag_43 sz_43 (.t (.s16 (.s4 (.s4 .z)))) (WS.rows0 .z (fun i u h => by exact h))) ?_
 refine FJ.es (goes_list rfl) rfl (es_store (off := 0) (cs := [.slice Agq0 E.disk.blocks.length cgq0, .slice Agq1 E.disk.cache.length cgq1, .slice Ao257 (E.exts ++ [(⟨m250, m252, m254⟩ : DExt)]).length co257]) rfl sz_43 (.t (.s16 (.s4 (.s4 (.s (.s .z)))))) (.t .z) rfl (ones rfl) (.s4 (.s4 .z)) (Nat.le_of_ble_eq_true rfl) (.c .z (.c (.s .z) (.c (.s (.s .z)) .n)))) ?_
 refine FJ.nil (FJ.then_ (FJ.ret ?_))
 refine FJ.doneS (resC (cs := [.slice Agq0 E.disk.blocks.length cgq0, .slice Agq1 E.disk.cache.length cgq1, .slice Ao257 (E.exts ++ [(⟨m250, m252, m254⟩ : DExt)]).length co257]) rfl (.s16 (.s4 (.s4 (.s (.s .z))))) ag_43 sz_43 (WS.rows0 (cs := [.slice Agq0 E.disk.blocks.length cgq0, .slice Agq1 E.disk.cache.length cgq1, .slice Ao257 (E.exts ++ [(⟨m250, m252, m254⟩ : DExt)]).length co257]) .z (fun _ _ h => h))) (.c (.s4 (.s (.s (.s .z)))) (.c (.s4 (.s (.s (.s .z)))) (.c (.s (.s .z)) (.c (.s (.s .z)) .n)))) ?_
 exact ⟨⟨⟨E.disk.blocks, E.disk.cache⟩, E.exts ++ [(⟨m250, m252, m254⟩ : DExt)]⟩, _, _, _, _, ⟨by first | omega | (dsimp only; omega) | (simp only [List.length_append, List.length_cons, List.length_nil, List.length_replicate]; omega), by first | omega | (dsimp only; omega) | (simp only [List.length_append, List.length_cons, List.length_nil, List.length_replicate]; omega), by first | omega | (dsimp only; omega) | (simp only [List.length_append, List.length_cons, List.length_nil, List.length_replicate]; omega), by omega, by omega⟩, rfl, rfl⟩
 refine FJ.e (goes_sch rfl rfl) rfl (by decide) rfl (e_buildSliceL (ps := [(0, .int .i64 1), (1, .int .i64 0), (2, .int .i64 60)]) (cs := [.int .i64 1, .int .i64 0, .int .i64 60]) rfl u_40 (inz inf_2) (by decide) (by intro act hact; simp only [List.map_toArray, List.map_cons, List.map_nil, (show Val _ _ _ from .c) act hact, (show Val _ _ _ from .c) act hact, (show Val _ _ _ from .c) act hact]) rfl rfl (by decide) rfl rfl) ?_
 rintro _ _ ⟨g258, rfl, rfl⟩
 refine FJ.sk (.s4 (.s (.s .z))) ?_
 refine FJ.schN ?_
 refine FJ.sch [(3, false), (4, false), (7, false), (10, false), (11, true), (12, false), (13, false), (14, true), (15, false)] 0 #[true, true, true, true, true, true, true, true, true, true, true, true, true, true, true, true] (by rfl) (by kernel_rfl) ?_
 refine FJ.e (goes_sch rfl rfl) rfl (by decide) rfl (e_buildSliceL (ps := [(0, .int .i64 0), (1, .int .i64 3), (2, .int .i64 (-1))]) (cs := [.int .i64 0, .int .i64 3, .int .i64 (-1)]) rfl u_40 (inz inf_2) (by decide) (by intro act hact; simp only [List.map_toArray, List.map_cons, List.map_nil, (show Val _ _ _ from .c) act hact, (show Val _ _ _ from .c) act hact, (show Val _ _ _ from .c) act hact]) rfl rfl (by decide) rfl rfl) ?_
 rintro _ _ ⟨g259, rfl, rfl⟩
 refine FJ.sk (.s4 (.s (.s (.s .z)))) ?_
 refine FJ.turns (c := ownA kSl_2 ([0, 3, (-1)] : (List Int)) [.slice (some ⟨g259, 0, none⟩) 3 3]) (.c .z .n) (fun w S h => lit_own (xs := ([0, 3, (-1)] : (List Int))) h rfl (by simp) (by omega) (by omega)) ?_
 refine FJ.call (goes_sch rfl rfl) rfl (by decide) rfl (c_call rfl Try.func120 rfl rfl (args2 (.t (.s4 (.s .z))) (.t .z))) (.c (.s (.s (.s .z))) .n) (fun w1 S1 hs tr => c_120 (tr.ctx hcd) (tr.own .z) hs (by omega) (by simp)) ?_
 rintro _ _ ⟨m261, hm261, rfl, rfl⟩
 refine FJ.cat (.c .n) ?_
 simp only [List.mem_cons, List.not_mem_nil, or_false] at hm261
 refine FJ.sk (.s4 (.s (.s (.s .z)))) ?_
 refine FJ.turns (c := ownA kSl_2 ([1, 0, 60] : (List Int)) [.slice (some ⟨g258, 0, none⟩) 3 3]) (.c (.s (.s .z)) .n) (fun w S h => lit_own (xs := ([1, 0, 60] : (List Int))) h rfl (by simp) (by omega) (by omega)) ?_
 refine FJ.call (goes_sch rfl rfl) rfl (by decide) rfl (c_call rfl Try.func120 rfl rfl (args2 (.t (.s4 (.s .z))) (.t (.s (.s .z))))) (.c (.s .z) .n) (fun w1 S1 hs tr => c_120 (tr.ctx hcd) (tr.own .z) hs (by omega) (by simp)) ?_
 rintro _ _ ⟨m263, hm263, rfl, rfl⟩
 refine FJ.cat (.c .n) ?_
 simp only [List.mem_cons, List.not_mem_nil, or_false] at hm263
 refine FJ.sk (.s4 (.s (.s (.s .z)))) ?_
 refine FJ.turns (c := ownA kSl_2 ([1, 0, 10000] : (List Int)) [.slice (some ⟨g236, 0, none⟩) 3 3]) (.c (.s (.s (.s .z))) .n) (fun w S h => lit_own (xs := ([1, 0, 10000] : (List Int))) h rfl (by simp) (by omega) (by omega)) ?_
 refine FJ.call (goes_sch rfl rfl) rfl (by decide) rfl (c_call rfl Try.func120 rfl rfl (args2 (.t (.s4 (.s .z))) (.t (.s4 .z)))) (.c (.s .z) .n) (fun w1 S1 hs tr => c_120 (tr.ctx hcd) (tr.own .z) hs (by omega) (by simp)) ?_
 rintro _ _ ⟨m265, hm265, rfl, rfl⟩
 refine FJ.cat (.c .n) ?_
 simp only [List.mem_cons, List.not_mem_nil, or_false] at hm265
 refine FJ.sk (.s4 (.s (.s (.s .z)))) ?_
 refine FJ.dq rfl rfl rfl (by decide) rfl (.s4 (.s (.s (.s .z)))) (q_build (ps := [(0, .int .i64 m261), (1, .int .i64 m263), (2, .int .i64 m265)]) (cs := [.int .i64 m261, .int .i64 m263, .int .i64 m265]) rfl bl_135 (by intro act hact; simp only [List.map_toArray, List.map_cons, List.map_nil, (show Val _ _ _ from (.t (.s (.s .z)))) act hact, (show Val _ _ _ from (.t (.s .z))) act hact, (show Val _ _ _ from (.t .z)) act hact]) rfl) ?_
 refine FJ.e (goes_sch rfl rfl) rfl (by decide) rfl (e_buildSliceL (ps := [(0, .agg #[.int .i64 m261, .int .i64 m263, .int .i64 m265])]) (cs := [.int .i64 m261, .int .i64 m263, .int .i64 m265]) rfl u_41 (inz inf_135) (by decide) (by intro act hact; simp only [List.map_toArray, List.map_cons, List.map_nil, (show Val _ _ _ from (.t .z)) act hact]) rfl rfl (by decide) rfl rfl) ?_
 rintro _ _ ⟨g266, rfl, rfl⟩
 refine FJ.sk (.s4 (.s4 .z)) ?_
 refine FJ.turns (c := ownA kT_135 (⟨m261, m263, m265⟩ : DExt) [.int .i64 m261, .int .i64 m263, .int .i64 m265]) .n (fun w S h => kT_135_omk (⟨m261, m263, m265⟩ : DExt) h) ?_
 refine FJ.e (goes_sch rfl rfl) rfl (by decide) rfl (e_append1 rfl u_41 inf_135 rfl (.t (.s4 (.s4 (.s (.s (.s .z)))))) (.t .z) (.c (.s4 (.s (.s .z))) (.c (.s .z) (.c .z .n))) (by first | omega | (simp only [List.length_append, List.length_cons, List.length_nil, List.length_replicate]; omega)) (by first | omega | (simp only [List.length_append, List.length_cons, List.length_nil, List.length_replicate]; omega))) ?_
 rintro _ _ rfl
 refine FJ.know (WS.oform .z) ?_
 rintro ⟨Ao268, co268, rfl, hlo268, hmo268, hbo268⟩
 refine FJ.sk (.s4 (.s (.s (.s .z)))) ?_
 refine FJ.dq rfl rfl rfl (by decide) rfl (.s4 (.s (.s (.s .z)))) (q_fieldAddr rfl (.t (.s16 (.s4 (.s (.s (.s .z)))))) (fun _ => fa_43_1 _ _)) ?_
 refine FJ.es (goes_sch rfl rfl) rfl (es_store (off := 2) (cs := [.slice Ao268 (E.exts ++ [(⟨m261, m263, m265⟩ : DExt)]).length co268]) rfl sz_41 (.t .z) (.t (.s .z)) rfl (ones rfl) (.s4 (.s (.s (.s .z)))) (Nat.le_of_ble_eq_true rfl) (.c (.s (.s .z)) .n)) ?_
 refine FJ.sl rfl ?_
 refine FJ.schN ?_
 refine FJ.drawN (by kernel_rfl) ?_
 refine FJ.inBN (FJ.then_ (FJ.seq (FJ.region ?_)))
 refine FJ.ql rfl (q_loadA (cs := [.slice Agq0 E.disk.blocks.length cgq0, .slice Agq1 E.disk.cache.length cgq1, .slice Ao268 (E.exts ++ [(⟨m261, m263, m265⟩ : DExt)]).length co268]) rfl ag_43 sz_43 (.t (.s16 (.s4 (.s4 .z)))) (WS.rows0 .z (fun i u h => by exact h))) ?_
 refine FJ.es (goes_list rfl) rfl (es_store (off := 0) (cs := [.slice Agq0 E.disk.blocks.length cgq0, .slice Agq1 E.disk.cache.length cgq1, .slice Ao268 (E.exts ++ [(⟨m261, m263, m265⟩ : DExt)]).length co268]) rfl sz_43 (.t (.s16 (.s4 (.s4 (.s (.s .z)))))) (.t .z) rfl (ones rfl) (.s4 (.s4 .z)) (Nat.le_of_ble_eq_true rfl) (.c .z (.c (.s .z) (.c (.s (.s .z)) .n)))) ?_
 refine FJ.nil (FJ.then_ (FJ.ret ?_))
 refine FJ.doneS (resC (cs := [.slice Agq0 E.disk.blocks.length cgq0, .slice Agq1 E.disk.cache.length cgq1, .slice Ao268 (E.exts ++ [(⟨m261, m263, m265⟩ : DExt)]).length co268]) rfl (.s16 (.s4 (.s4 (.s (.s .z))))) ag_43 sz_43 (WS.rows0 (cs := [.slice Agq0 E.disk.blocks.length cgq0, .slice Agq1 E.disk.cache.length cgq1, .slice Ao268 (E.exts ++ [(⟨m261, m263, m265⟩ : DExt)]).length co268]) .z (fun _ _ h => h))) (.c (.s4 (.s (.s (.s .z)))) (.c (.s4 (.s (.s (.s .z)))) (.c (.s (.s .z)) (.c (.s (.s .z)) .n)))) ?_
 exact ⟨⟨⟨E.disk.blocks, E.disk.cache⟩, E.exts ++ [(⟨m261, m263, m265⟩ : DExt)]⟩, _, _, _, _, ⟨by first | omega | (dsimp only; omega) | (simp only [List.length_append, List.length_cons, List.length_nil, List.length_replicate]; omega), by first | omega | (dsimp only; omega) | (simp only [List.length_append, List.length_cons, List.length_nil, List.length_replicate]; omega), by first | omega | (dsimp only; omega) | (simp only [List.length_append, List.length_cons, List.length_nil, List.length_replicate]; omega), by omega, by omega⟩, rfl, rfl⟩
 refine FJ.seq (FJ.region (FJ.ql rfl (q_eql rfl (.t (.s4 .z)) .c) (FJ.ql rfl (q_assign rfl (.t .z)) (FJ.nil ?_))))
 refine FJ.then_ ?_
 refine FJ.condP (.t .z) (fun b269 => ?_) (fun b269 => ?_)
 refine FJ.region ?_
 refine FJ.e (goes_list rfl) rfl (by decide) rfl (e_makeSlice (n := 9) (x0 := (⟨0, 0, 0⟩ : DExt)) rfl u_41 inf_135 rfl (fun w S => zero_135 w S) .c .c (by omega) (by omega)) ?_
 rintro _ _ rfl
 refine FJ.know (WS.oform .z) ?_
 rintro ⟨Ao271, co271, rfl, hlo271, hmo271, hbo271⟩
 refine FJ.ql rfl (q_fieldAddr rfl (.t (.s4 (.s4 (.s4 .z)))) (fun _ => fa_43_1 _ _)) ?_
 refine FJ.es (goes_list rfl) rfl (es_store (off := 2) (cs := [.slice Ao271 (List.replicate 9 (⟨0, 0, 0⟩ : DExt)).length co271]) rfl sz_41 (.t .z) (.t (.s .z)) rfl (ones rfl) (.s (.s (.s .z))) (Nat.le_of_ble_eq_true rfl) (.c (.s (.s .z)) .n)) ?_
 refine FJ.nil (FJ.inBN (FJ.then_ (FJ.seq (FJ.region ?_))))
 refine FJ.ql rfl (q_loadA (cs := [.slice Agq0 E.disk.blocks.length cgq0, .slice Agq1 E.disk.cache.length cgq1, .slice Ao271 (List.replicate 9 (⟨0, 0, 0⟩ : DExt)).length co271]) rfl ag_43 sz_43 (.t (.s4 (.s4 (.s4 (.s .z))))) (WS.rows0 .z (fun i u h => by exact h))) ?_
 refine FJ.es (goes_list rfl) rfl (es_store (off := 0) (cs := [.slice Agq0 E.disk.blocks.length cgq0, .slice Agq1 E.disk.cache.length cgq1, .slice Ao271 (List.replicate 9 (⟨0, 0, 0⟩ : DExt)).length co271]) rfl sz_43 (.t (.s4 (.s4 (.s4 (.s (.s (.s .z))))))) (.t .z) rfl (ones rfl) (.s4 (.s (.s .z))) (Nat.le_of_ble_eq_true rfl) (.c .z (.c (.s .z) (.c (.s (.s .z)) .n)))) ?_
 refine FJ.nil (FJ.then_ (FJ.ret ?_))
 refine FJ.doneS (resC (cs := [.slice Agq0 E.disk.blocks.length cgq0, .slice Agq1 E.disk.cache.length cgq1, .slice Ao271 (List.replicate 9 (⟨0, 0, 0⟩ : DExt)).length co271]) rfl (.s4 (.s4 (.s4 (.s (.s (.s .z)))))) ag_43 sz_43 (WS.rows0 (cs := [.slice Agq0 E.disk.blocks.length cgq0, .slice Agq1 E.disk.cache.length cgq1, .slice Ao271 (List.replicate 9 (⟨0, 0, 0⟩ : DExt)).length co271]) .z (fun _ _ h => h))) (.c (.s4 (.s .z)) (.c (.s4 (.s .z)) (.c (.s (.s .z)) (.c (.s (.s .z)) .n)))) ?_
 exact ⟨⟨⟨E.disk.blocks, E.disk.cache⟩, List.replicate 9 (⟨0, 0, 0⟩ : DExt)⟩, _, _, _, _, ⟨by first | omega | (dsimp only; omega) | (simp only [List.length_append, List.length_cons, List.length_nil, List.length_replicate]; omega), by first | omega | (dsimp only; omega) | (simp only [List.length_append, List.length_cons, List.length_nil, List.length_replicate]; omega), by first | omega | (dsimp only; omega) | (simp only [List.length_append, List.length_cons, List.length_nil, List.length_replicate]; omega), by omega, by omega⟩, rfl, rfl⟩
 refine FJ.skip (FJ.inBN (FJ.then_ (FJ.seq (FJ.region ?_))))
 refine FJ.ql rfl (q_loadA (cs := [.slice Agq0 E.disk.blocks.length cgq0, .slice Agq1 E.disk.cache.length cgq1, .slice Agq2 E.exts.length cgq2]) rfl ag_43 sz_43 (.t (.s4 (.s4 (.s (.s (.s .z)))))) (WS.rows0 (.s (.s .z)) (fun i u h => by exact h))) ?_
 refine FJ.es (goes_list rfl) rfl (es_store (off := 0) (cs := [.slice Agq0 E.disk.blocks.length cgq0, .slice Agq1 E.disk.cache.length cgq1, .slice Agq2 E.exts.length cgq2]) rfl sz_43 (.t (.s4 (.s4 (.s4 (.s .z))))) (.t .z) rfl (ones rfl) (.s4 (.s .z)) (Nat.le_of_ble_eq_true rfl) (.c .z (.c (.s .z) (.c (.s (.s .z)) .n)))) ?_
 refine FJ.nil (FJ.then_ (FJ.ret ?_))
 refine FJ.doneS (resC (cs := [.slice Agq0 E.disk.blocks.length cgq0, .slice Agq1 E.disk.cache.length cgq1, .slice Agq2 E.exts.length cgq2]) rfl (.s4 (.s4 (.s4 (.s .z)))) ag_43 sz_43 (WS.rows0 (cs := [.slice Agq0 E.disk.blocks.length cgq0, .slice Agq1 E.disk.cache.length cgq1, .slice Agq2 E.exts.length cgq2]) .z (fun _ _ h => h))) (.c (.s4 .z) (.c (.s4 .z) (.c (.s (.s .z)) (.c (.s .z) .n)))) ?_
 exact ⟨⟨⟨E.disk.blocks, E.disk.cache⟩, E.exts⟩, _, _, _, _, ⟨by first | omega | (dsimp only; omega) | (simp only [List.length_append, List.length_cons, List.length_nil, List.length_replicate]; omega), by first | omega | (dsimp only; omega) | (simp only [List.length_append, List.length_cons, List.length_nil, List.length_replicate]; omega), by first | omega | (dsimp only; omega) | (simp only [List.length_append, List.length_cons, List.length_nil, List.length_replicate]; omega), by omega, by omega⟩, rfl, rfl⟩
 refine FJ.skipl rfl rfl .z rfl rfl (by decide) rfl ?_
 refine FJ.skipl rfl rfl (.s .z) rfl rfl (by decide) rfl ?_
 refine FJ.ql rfl (q_pickF rfl (.t (.s (.s .z))) .c) (FJ.nil (FJ.then_ ?_))
 refine FJ.condF (.t .z) ?_
 refine FJ.exit (FJ.thenE (FJ.thenE (FJ.inB (FJ.then_ ?_))))
 refine FJ.seq (FJ.region ?_)
 refine FJ.ql rfl (q_loadA (cs := [.slice Agk0 D.blocks.length cgk0, .slice Agk1 D.cache.length cgk1]) rfl ag_25 sz_25 (.t (.s4 (.s (.s (.s .z))))) (WS.rows0 .z (fun i u h => by exact h))) ?_
 refine FJ.ql rfl (q_build (ps := [(0, .agg #[.slice Agk0 D.blocks.length cgk0, .slice Agk1 D.cache.length cgk1])]) (cs := [.slice Agk0 D.blocks.length cgk0, .slice Agk1 D.cache.length cgk1, .slice none 0 0]) rfl bl_43 (by intro act hact; simp only [List.map_toArray, List.map_cons, List.map_nil, (show Val _ _ _ from (.t .z)) act hact]) rfl) ?_
 refine FJ.e (goes_list rfl) rfl (by decide) rfl (e_alloc rfl z_43 rfl rfl) ?_
 rintro _ _ ⟨g272, rfl, rfl⟩
 refine FJ.es (goes_list rfl) rfl (es_store (off := 0) (cs := [.slice Agk0 D.blocks.length cgk0, .slice Agk1 D.cache.length cgk1, .slice none 0 0]) rfl sz_43 (.t .z) (.t (.s .z)) rfl (ones rfl) .z (Nat.le_of_ble_eq_true rfl) (.c .z (.c (.s .z) (.c (.s (.s .z)) .n)))) ?_
 refine FJ.nil (FJ.then_ (FJ.seq (FJ.seq (FJ.region ?_))))
 refine FJ.ql rfl (q_move rfl (.t (.s4 (.s4 (.s4 .z))))) ?_
 refine FJ.call (goes_list rfl) rfl (by decide) rfl (c_call rfl Try.func95 rfl rfl (args2 (.t .z) .c)) (.c (.s4 .z) .n) (fun w1 S1 hs tr => c_95 (tr.ctx hcd) _ hs (by omega) (by omega)) ?_
 rintro _ _ ⟨m273, h0m273, h1m273, rfl, rfl⟩
 refine FJ.cat (.c .n) ?_
 refine FJ.ql rfl (q_assign rfl (.t .z)) (FJ.nil (FJ.then_ (FJ.block ?_)))
 refine FJ.add (c := ownA kSl_135 [] [.slice none 0 0]) (fun w S => own_nil w S none) ?_
 refine FJ.sel (.c .z (.c .z (.c .z (.c (.s .z) (.c (.s .z) (.c (.s .z) .n)))))) ?_
 refine FJ.loopi (γ := (Option Addr) × Nat × (Option Addr) × Nat × (Option Addr) × Nat × Int × Int × DKern) (fun ⟨Agq0, cgq0, Agq1, cgq1, Agq2, cgq2, n, y, E⟩ => [(6, .int .i64 n), (5, .pointer (some ⟨g272, 0, none⟩)), (2, .pointer (some ⟨g2, 0, none⟩)), (0, .pointer (some ⟨g0, 0, none⟩))]) (fun ⟨Agq0, cgq0, Agq1, cgq1, Agq2, cgq2, n, y, E⟩ => [ownA kSl_135 E.exts [.slice Agq2 E.exts.length cgq2], rowA g0 e0 s0 1 ((.slice Ac cd.length cc) :: (.int .i64 y) :: post0), rowA g272 43 3 1 [.slice Agq0 E.disk.blocks.length cgq0, .slice Agq1 E.disk.cache.length cgq1, .slice Agq2 E.exts.length cgq2], ownA kSl_40 E.disk.blocks [.slice Agq0 E.disk.blocks.length cgq0], ownA kSl_57 E.disk.cache [.slice Agq1 E.disk.cache.length cgq1], rowA g2 43 3 1 [.slice none 0 0, .slice none 0 0, .slice none 0 0]]) (fun ⟨Agq0, cgq0, Agq1, cgq1, Agq2, cgq2, n, y, E⟩ => (0 ≤ n ∧ n ≤ 3) ∧ (a ≤ y ∧ y + 3 * n ≤ a + 400) ∧ (E.disk.blocks.length ≤ 61 ∧ E.disk.cache.length ≤ 201 ∧ E.exts.length ≤ 8)) (fun ⟨Agq0, cgq0, Agq1, cgq1, Agq2, cgq2, n, y, E⟩ => n.toNat) (Agk0, cgk0, Agk1, cgk1, none, 0, m273, (z + 1), (⟨⟨D.blocks, D.cache⟩, []⟩ : DKern)) ⟨by omega, by omega, by dsimp only; exact ⟨by omega, by omega, by simp only [List.length_nil]; omega⟩⟩ (.c .z (.c (.s (.s (.s .z))) (.c (.s4 (.s4 (.s4 (.s (.s .z))))) (.c (.s4 (.s4 (.s4 (.s (.s (.s .z)))))) .n)))) (fun _ h => h.sel (.c .z (.c .z (.c .z (.c .z (.c .z (.c .z .n))))))) ?_
 rintro ⟨Agq0, cgq0, Agq1, cgq1, Agq2, cgq2, n, y, E⟩ ⟨hn, hy, hE⟩
 refine FJ.seq (FJ.seq (FJ.region (FJ.ql rfl (q_move rfl (.t .z)) (FJ.ql rfl (q_gtr rfl (.t .z) .c) ?_))))
 refine FJ.nil (FJ.then_ ?_)
 refine FJ.condP (.t .z) (fun b275 => ?_) (fun b275 => ?_)
 refine FJ.skip (FJ.then_ (FJ.seq (FJ.block (FJ.seq ?_))))
 refine FJ.sel (.c .z (.c .z (.c (.s .z) (.c (.s .z) (.c .z (.c .z .n)))))) ?_
 refine FJ.draw [rowA g272 43 3 1 [.slice Agq0 E.disk.blocks.length cgq0, .slice Agq1 E.disk.cache.length cgq1, .slice Agq2 E.exts.length cgq2], rowA g2 43 3 1 [.slice none 0 0, .slice none 0 0, .slice none 0 0]] 11 (by kernel_rfl) ?_
 refine FJ.sch [(0, true), (1, true), (3, true), (6, true)] 8 #[true, true, false, true, false, false, true, false, false, false, false, false] (by rfl) (by kernel_rfl) ?_
 refine FJ.dq rfl rfl rfl (by decide) rfl (.s4 .z) (q_loadA (cs := [.slice Agq0 E.disk.blocks.length cgq0, .slice Agq1 E.disk.cache.length cgq1, .slice Agq2 E.exts.length cgq2]) rfl ag_43 sz_43 (.t (.s (.s (.s .z)))) (WS.rows0 .z (fun i u h => by exact h))) ?_
 refine FJ.dq rfl rfl rfl (by decide) rfl (.s4 .z) (q_move rfl (.t (.s4 (.s (.s .z))))) (FJ.dq rfl rfl rfl (by decide) rfl (.s4 .z) (q_move rfl (.t (.s4 (.s (.s (.s .z)))))) (FJ.dq rfl rfl rfl (by decide) rfl (.s4 .z) (q_move rfl (.t (.s4 (.s4 .z)))) (FJ.schN ?_)))
 refine FJ.fork2 (i := 2) (j := 10) (by kernel_rfl) ?_ ?_
 refine FJ.call (goes_sch rfl rfl) rfl (by decide) rfl (c_call rfl Try.func95 rfl rfl (args2 (.t (.s (.s .z))) .c)) (.c (.s .z) .n) (fun w1 S1 hs tr => c_95 (tr.ctx hcd) _ hs (by omega) (by omega)) ?_
 rintro _ _ ⟨m276, h0m276, h1m276, rfl, rfl⟩
 refine FJ.cat (.c .n) ?_
 refine FJ.sk (.s4 .z) ?_
 refine FJ.schN ?_
 refine FJ.sch [] 7 #[true, true, true, true, false, false, true, false, false, false, false, false] (by rfl) (by kernel_rfl) ?_
 refine FJ.schN ?_
 refine FJ.fork2 (i := 4) (j := 10) (by kernel_rfl) ?_ ?_
 refine FJ.call (goes_sch rfl rfl) rfl (by decide) rfl (c_call rfl Try.func95 rfl rfl (args2 (.t (.s (.s .z))) .c)) (.c .z .n) (fun w1 S1 hs tr => c_95 (tr.ctx hcd) _ hs (by omega) (by omega)) ?_
 rintro _ _ ⟨m277, h0m277, h1m277, rfl, rfl⟩
 refine FJ.cat (.c .n) ?_
 refine FJ.sk (.s4 .z) ?_
 refine FJ.schN ?_
 refine FJ.sch [(5, true)] 5 #[true, true, true, true, true, true, true, false, false, false, false, false] (by rfl) (by kernel_rfl) ?_
 refine FJ.dq rfl rfl rfl (by decide) rfl (.s4 .z) (q_add (c := 1 + m277) rfl .c (.t .z) (wr (by omega) (by omega) (by omega))) ?_
 refine FJ.schN ?_
 refine FJ.fork2 (i := 7) (j := 10) (by kernel_rfl) ?_ ?_
 refine FJ.call (goes_sch rfl rfl) rfl (by decide) rfl (c_call rfl Try.func95 rfl rfl (args2 (.t (.s (.s (.s .z)))) .c)) (.c .z .n) (fun w1 S1 hs tr => c_95 (tr.ctx hcd) _ hs (by omega) (by omega)) ?_
 rintro _ _ ⟨m278, h0m278, h1m278, rfl, rfl⟩
 refine FJ.cat (.c .n) ?_
 refine FJ.sk (.s4 .z) ?_
 refine FJ.schN ?_
 refine FJ.sch [(8, true)] 3 #[true, true, true, true, true, true, true, true, true, false, false, false] (by rfl) (by kernel_rfl) ?_
 refine FJ.dq rfl rfl rfl (by decide) rfl (.s4 .z) (q_add (c := 1 + m278) rfl .c (.t .z) (wr (by omega) (by omega) (by omega))) ?_
 refine FJ.schN ?_
 refine FJ.fork2 (i := 9) (j := 10) (by kernel_rfl) ?_ ?_
 refine FJ.call (goes_sch rfl rfl) rfl (by decide) rfl (c_call rfl Try.func66 rfl rfl (args4 (.t (.s4 (.s4 .z))) (.t (.s4 .z)) (.t (.s (.s .z))) (.t .z))) .n (fun w1 S1 hs tr => c_66 (kT_43_mk E (tr.own (.s (.s .z))) (tr.own (.s (.s (.s .z)))) (tr.own (.s .z))) _ _ _) ?_
 rintro _ _ ⟨v279, v281, v283, v285, rfl, rfl⟩
 refine FJ.cat (.c (.c (.c (.c .n)))) ?_
 refine FJ.know (WS.oform .z) ?_
 rintro ⟨Ao287, co287, rfl, hlo287, hmo287, hbo287⟩
 refine FJ.know (WS.oform (.s .z)) ?_
 rintro ⟨Ao288, co288, rfl, hlo288, hmo288, hbo288⟩
 refine FJ.know (WS.oform (.s (.s .z))) ?_
 rintro ⟨Ao289, co289, rfl, hlo289, hmo289, hbo289⟩
 refine FJ.know (WS.oform (.s (.s (.s .z)))) ?_
 rintro ⟨Ao290, co290, rfl, hlo290, hmo290, hbo290⟩
 refine FJ.sk (.s4 (.s4 .z)) ?_
 refine FJ.schN ?_
 refine FJ.sch [(10, false), (11, false)] 0 #[true, true, true, true, true, true, true, true, true, true, true, true] (by rfl) (by kernel_rfl) ?_
 refine FJ.e (goes_sch rfl rfl) rfl (by decide) rfl (e_alloc rfl z_45 rfl rfl) ?_
 rintro _ _ ⟨g291, rfl, rfl⟩
 refine FJ.sk (.s4 (.s4 (.s .z))) ?_
 refine FJ.es (goes_sch rfl rfl) rfl (es_store (off := 0) (cs := [.int .i64 ((grant E ⟨m276, 1 + m277, 1 + m278⟩).code), .slice Ao287 ((grant E ⟨m276, 1 + m277, 1 + m278⟩).words).length co287, .slice Ao288 ((grant E ⟨m276, 1 + m277, 1 + m278⟩).kern.disk.blocks).length co288, .slice Ao289 ((grant E ⟨m276, 1 + m277, 1 + m278⟩).kern.disk.cache).length co289, .slice Ao290 ((grant E ⟨m276, 1 + m277, 1 + m278⟩).kern.exts).length co290]) rfl sz_45 (.t .z) (.t (.s .z)) rfl (ones rfl) .z (Nat.le_of_ble_eq_true rfl) (.c .z (.c (.s .z) (.c (.s (.s .z)) (.c (.s (.s (.s .z))) (.c (.s (.s (.s (.s .z)))) .n)))))) ?_
 refine FJ.sl rfl ?_
 refine FJ.schN ?_
 refine FJ.drawN (by kernel_rfl) ?_
 refine FJ.then_ (FJ.seq (FJ.region (FJ.ql rfl (q_fieldAddr rfl (.t .z) (fun _ => fa_45_0 _ _)) (FJ.ql rfl (q_load rfl ag_2 (.t .z) (WS.row .z rfl)) ?_))))
 refine FJ.ql rfl (q_eql rfl (.t .z) .c) (FJ.nil (FJ.then_ ?_))
 refine FJ.condP (.t .z) (fun b292 => ?_) (fun b292 => ?_)
 refine FJ.region (FJ.ql rfl (q_fieldAddr rfl (.t (.s (.s (.s .z)))) (fun _ => fa_45_2 _ _)) (FJ.ql rfl (q_loadA (cs := [.slice Ao288 ((grant E ⟨m276, 1 + m277, 1 + m278⟩).kern.disk.blocks).length co288, .slice Ao289 ((grant E ⟨m276, 1 + m277, 1 + m278⟩).kern.disk.cache).length co289, .slice Ao290 ((grant E ⟨m276, 1 + m277, 1 + m278⟩).kern.exts).length co290]) rfl ag_43 sz_43 (.t .z) (WS.rows .z (sub_at rfl))) ?_))
 refine FJ.es (goes_list rfl) rfl (es_store (off := 0) (cs := [.slice Ao288 ((grant E ⟨m276, 1 + m277, 1 + m278⟩).kern.disk.blocks).length co288, .slice Ao289 ((grant E ⟨m276, 1 + m277, 1 + m278⟩).kern.disk.cache).length co289, .slice Ao290 ((grant E ⟨m276, 1 + m277, 1 + m278⟩).kern.exts).length co290]) rfl sz_43 (.t (.s16 (.s (.s (.s .z))))) (.t .z) rfl (ones rfl) (.s4 (.s4 (.s .z))) (Nat.le_of_ble_eq_true rfl) (.c .z (.c (.s .z) (.c (.s (.s .z)) .n)))) ?_
 refine FJ.nil (FJ.inBN (FJ.then_ (FJ.region (FJ.ql rfl (q_move rfl (.t (.s16 (.s (.s .z))))) ?_))))
 refine FJ.ql rfl (q_sub (c := n - 1) rfl (.t .z) .c (wr (by omega) (by omega) (by omega))) ?_
 refine FJ.er (.s16 (.s4 .z)) (FJ.ql rfl (q_assign rfl (.t .z)) (FJ.nil ?_))
 refine FJ.again (Ao288, co288, Ao289, co289, Ao290, co290, n - 1, (((y + 1) + 1) + 1), (grant E ⟨m276, 1 + m277, 1 + m278⟩).kern) ⟨by omega, by omega, (by first | exact hE | exact grant_len hE (by assumption))⟩ (by first | omega | (dsimp only; omega)) (.c .z (.c (.s16 (.s4 (.s .z))) (.c (.s16 (.s4 (.s (.s .z)))) (.c (.s16 (.s4 (.s (.s (.s .z))))) .n)))) (fun _ h => h.sel (.c (.s4 (.s .z)) (.c (.s4 (.s .z)) (.c .z (.c (.s (.s .z)) (.c (.s (.s .z)) (.c (.s4 (.s .z)) .n)))))))
 refine FJ.skip (FJ.inBN (FJ.then_ (FJ.region (FJ.ql rfl (q_move rfl (.t (.s16 .z))) ?_))))
 refine FJ.ql rfl (q_sub (c := n - 1) rfl (.t .z) .c (wr (by omega) (by omega) (by omega))) ?_
 refine FJ.er (.s16 (.s (.s .z))) (FJ.ql rfl (q_assign rfl (.t .z)) (FJ.nil ?_))
 refine FJ.again (Agq0, cgq0, Agq1, cgq1, Agq2, cgq2, n - 1, (((y + 1) + 1) + 1), E) ⟨by omega, by omega, (by first | exact hE | exact grant_len hE (by assumption))⟩ (by first | omega | (dsimp only; omega)) (.c .z (.c (.s16 (.s (.s (.s .z)))) (.c (.s16 (.s4 .z)) (.c (.s16 (.s4 (.s .z))) .n)))) (fun _ h => h.sel (.c (.s4 (.s (.s .z))) (.c (.s4 (.s .z)) (.c (.s4 (.s (.s (.s .z)))) (.c (.s4 (.s .z)) (.c (.s4 (.s .z)) (.c (.s4 (.s .z)) .n)))))))
 refine FJ.e (goes_sch rfl rfl) rfl (by decide) rfl (e_alloc rfl z_45 rfl rfl) ?_
 rintro _ _ ⟨g293, rfl, rfl⟩
 refine FJ.sk (.s4 (.s .z)) ?_
 refine FJ.schN ?_
 refine FJ.sch [(9, false), (11, false)] 0 #[true, true, true, true, true, true, true, true, true, true, true, true] (by rfl) (by kernel_rfl) ?_
 refine FJ.call (goes_sch rfl rfl) rfl (by decide) rfl (c_call rfl Try.func66 rfl rfl (args4 (.t (.s4 (.s4 (.s .z)))) (.t (.s4 (.s .z))) (.t (.s (.s (.s .z)))) (.t (.s .z)))) .n (fun w1 S1 hs tr => c_66 (kT_43_mk E (tr.own (.s (.s (.s .z)))) (tr.own (.s4 .z)) (tr.own (.s (.s .z)))) _ _ _) ?_
 rintro _ _ ⟨v294, v296, v298, v300, rfl, rfl⟩
 refine FJ.cat (.c (.c (.c (.c .n)))) ?_
 refine FJ.know (WS.oform .z) ?_
 rintro ⟨Ao302, co302, rfl, hlo302, hmo302, hbo302⟩
 refine FJ.know (WS.oform (.s .z)) ?_
 rintro ⟨Ao303, co303, rfl, hlo303, hmo303, hbo303⟩
 refine FJ.know (WS.oform (.s (.s .z))) ?_
 rintro ⟨Ao304, co304, rfl, hlo304, hmo304, hbo304⟩
 refine FJ.know (WS.oform (.s (.s (.s .z)))) ?_
 rintro ⟨Ao305, co305, rfl, hlo305, hmo305, hbo305⟩
 refine FJ.sk (.s4 (.s4 (.s .z))) ?_
 refine FJ.es (goes_sch rfl rfl) rfl (es_store (off := 0) (cs := [.int .i64 ((grant E ⟨m276, 1 + m277, 1 + m278⟩).code), .slice Ao302 ((grant E ⟨m276, 1 + m277, 1 + m278⟩).words).length co302, .slice Ao303 ((grant E ⟨m276, 1 + m277, 1 + m278⟩).kern.disk.blocks).length co303, .slice Ao304 ((grant E ⟨m276, 1 + m277, 1 + m278⟩).kern.disk.cache).length co304, .slice Ao305 ((grant E ⟨m276, 1 + m277, 1 + m278⟩).kern.exts).length co305]) rfl sz_45 (.t (.s .z)) (.t .z) rfl (ones rfl) (.s4 .z) (Nat.le_of_ble_eq_true rfl) (.c .z (.c (.s .z) (.c (.s (.s .z)) (.c (.s (.s (.s .z))) (.c (.s (.s (.s (.s .z)))) .n)))))) ?_
 refine FJ.sl rfl ?_
 refine FJ.schN ?_
 refine FJ.drawN (by kernel_rfl) ?_
 refine FJ.then_ (FJ.seq (FJ.region (FJ.ql rfl (q_fieldAddr rfl (.t (.s .z)) (fun _ => fa_45_0 _ _)) (FJ.ql rfl (q_load rfl ag_2 (.t .z) (WS.row .z rfl)) ?_))))
 refine FJ.ql rfl (q_eql rfl (.t .z) .c) (FJ.nil (FJ.then_ ?_))
 refine FJ.condP (.t .z) (fun b306 => ?_) (fun b306 => ?_)
 refine FJ.region (FJ.ql rfl (q_fieldAddr rfl (.t (.s4 .z)) (fun _ => fa_45_2 _ _)) (FJ.ql rfl (q_loadA (cs := [.slice Ao303 ((grant E ⟨m276, 1 + m277, 1 + m278⟩).kern.disk.blocks).length co303, .slice Ao304 ((grant E ⟨m276, 1 + m277, 1 + m278⟩).kern.disk.cache).length co304, .slice Ao305 ((grant E ⟨m276, 1 + m277, 1 + m278⟩).kern.exts).length co305]) rfl ag_43 sz_43 (.t .z) (WS.rows .z (sub_at rfl))) ?_))
 refine FJ.es (goes_list rfl) rfl (es_store (off := 0) (cs := [.slice Ao303 ((grant E ⟨m276, 1 + m277, 1 + m278⟩).kern.disk.blocks).length co303, .slice Ao304 ((grant E ⟨m276, 1 + m277, 1 + m278⟩).kern.disk.cache).length co304, .slice Ao305 ((grant E ⟨m276, 1 + m277, 1 + m278⟩).kern.exts).length co305]) rfl sz_43 (.t (.s16 (.s (.s (.s .z))))) (.t .z) rfl (ones rfl) (.s4 (.s4 (.s .z))) (Nat.le_of_ble_eq_true rfl) (.c .z (.c (.s .z) (.c (.s (.s .z)) .n)))) ?_
 refine FJ.nil (FJ.inBN (FJ.then_ (FJ.region (FJ.ql rfl (q_move rfl (.t (.s16 (.s (.s .z))))) ?_))))
 refine FJ.ql rfl (q_sub (c := n - 1) rfl (.t .z) .c (wr (by omega) (by omega) (by omega))) ?_
 refine FJ.er (.s16 (.s4 .z)) (FJ.ql rfl (q_assign rfl (.t .z)) (FJ.nil ?_))
 refine FJ.again (Ao303, co303, Ao304, co304, Ao305, co305, n - 1, (((y + 1) + 1) + 1), (grant E ⟨m276, 1 + m277, 1 + m278⟩).kern) ⟨by omega, by omega, (by first | exact hE | exact grant_len hE (by assumption))⟩ (by first | omega | (dsimp only; omega)) (.c .z (.c (.s16 (.s4 (.s .z))) (.c (.s16 (.s4 (.s (.s .z)))) (.c (.s16 (.s4 (.s (.s (.s .z))))) .n)))) (fun _ h => h.sel (.c (.s4 (.s .z)) (.c (.s4 (.s .z)) (.c .z (.c (.s (.s .z)) (.c (.s (.s .z)) (.c (.s4 (.s .z)) .n)))))))
 refine FJ.skip (FJ.inBN (FJ.then_ (FJ.region (FJ.ql rfl (q_move rfl (.t (.s16 .z))) ?_))))
 refine FJ.ql rfl (q_sub (c := n - 1) rfl (.t .z) .c (wr (by omega) (by omega) (by omega))) ?_
 refine FJ.er (.s16 (.s (.s .z))) (FJ.ql rfl (q_assign rfl (.t .z)) (FJ.nil ?_))
 refine FJ.again (Agq0, cgq0, Agq1, cgq1, Agq2, cgq2, n - 1, (((y + 1) + 1) + 1), E) ⟨by omega, by omega, (by first | exact hE | exact grant_len hE (by assumption))⟩ (by first | omega | (dsimp only; omega)) (.c .z (.c (.s16 (.s (.s (.s .z)))) (.c (.s16 (.s4 .z)) (.c (.s16 (.s4 (.s .z))) .n)))) (fun _ h => h.sel (.c (.s4 (.s (.s .z))) (.c (.s4 (.s .z)) (.c (.s4 (.s (.s (.s .z)))) (.c (.s4 (.s .z)) (.c (.s4 (.s .z)) (.c (.s4 (.s .z)) .n)))))))
 refine FJ.e (goes_sch rfl rfl) rfl (by decide) rfl (e_alloc rfl z_45 rfl rfl) ?_
 rintro _ _ ⟨g307, rfl, rfl⟩
 refine FJ.sk (.s4 (.s .z)) ?_
 refine FJ.schN ?_
 refine FJ.sch [(7, false), (8, true), (9, false), (11, false)] 0 #[true, true, true, true, true, true, true, true, true, true, true, true] (by rfl) (by kernel_rfl) ?_
 refine FJ.call (goes_sch rfl rfl) rfl (by decide) rfl (c_call rfl Try.func95 rfl rfl (args2 (.t (.s4 .z)) .c)) (.c (.s .z) .n) (fun w1 S1 hs tr => c_95 (tr.ctx hcd) _ hs (by omega) (by omega)) ?_
 rintro _ _ ⟨m308, h0m308, h1m308, rfl, rfl⟩
 refine FJ.cat (.c .n) ?_
 refine FJ.sk (.s4 (.s .z)) ?_
 refine FJ.dq rfl rfl rfl (by decide) rfl (.s4 (.s .z)) (q_add (c := 1 + m308) rfl .c (.t .z) (wr (by omega) (by omega) (by omega))) ?_
 refine FJ.call (goes_sch rfl rfl) rfl (by decide) rfl (c_call rfl Try.func66 rfl rfl (args4 (.t (.s4 (.s4 (.s .z)))) (.t (.s4 (.s .z))) (.t (.s (.s (.s .z)))) (.t .z))) .n (fun w1 S1 hs tr => c_66 (kT_43_mk E (tr.own (.s (.s (.s .z)))) (tr.own (.s4 .z)) (tr.own (.s (.s .z)))) _ _ _) ?_
 rintro _ _ ⟨v309, v311, v313, v315, rfl, rfl⟩
 refine FJ.cat (.c (.c (.c (.c .n)))) ?_
 refine FJ.know (WS.oform .z) ?_
 rintro ⟨Ao317, co317, rfl, hlo317, hmo317, hbo317⟩
 refine FJ.know (WS.oform (.s .z)) ?_
 rintro ⟨Ao318, co318, rfl, hlo318, hmo318, hbo318⟩
 refine FJ.know (WS.oform (.s (.s .z))) ?_
 rintro ⟨Ao319, co319, rfl, hlo319, hmo319, hbo319⟩
 refine FJ.know (WS.oform (.s (.s (.s .z)))) ?_
 rintro ⟨Ao320, co320, rfl, hlo320, hmo320, hbo320⟩
 refine FJ.sk (.s4 (.s4 (.s .z))) ?_
 refine FJ.es (goes_sch rfl rfl) rfl (es_store (off := 0) (cs := [.int .i64 ((grant E ⟨m276, 1 + m277, 1 + m308⟩).code), .slice Ao317 ((grant E ⟨m276, 1 + m277, 1 + m308⟩).words).length co317, .slice Ao318 ((grant E ⟨m276, 1 + m277, 1 + m308⟩).kern.disk.blocks).length co318, .slice Ao319 ((grant E ⟨m276, 1 + m277, 1 + m308⟩).kern.disk.cache).length co319, .slice Ao320 ((grant E ⟨m276, 1 + m277, 1 + m308⟩).kern.exts).length co320]) rfl sz_45 (.t (.s (.s (.s .z)))) (.t .z) rfl (ones rfl) (.s4 (.s .z)) (Nat.le_of_ble_eq_true rfl) (.c .z (.c (.s .z) (.c (.s (.s .z)) (.c (.s (.s (.s .z))) (.c (.s (.s (.s (.s .z)))) .n)))))) ?_
 refine FJ.sl rfl ?_
 refine FJ.schN ?_
 refine FJ.drawN (by kernel_rfl) ?_
 refine FJ.then_ (FJ.seq (FJ.region (FJ.ql rfl (q_fieldAddr rfl (.t (.s (.s (.s .z)))) (fun _ => fa_45_0 _ _)) (FJ.ql rfl (q_load rfl ag_2 (.t .z) (WS.row .z rfl)) ?_))))
 refine FJ.ql rfl (q_eql rfl (.t .z) .c) (FJ.nil (FJ.then_ ?_))
 refine FJ.condP (.t .z) (fun b321 => ?_) (fun b321 => ?_)
 refine FJ.region (FJ.ql rfl (q_fieldAddr rfl (.t (.s4 (.s (.s .z)))) (fun _ => fa_45_2 _ _)) (FJ.ql rfl (q_loadA (cs := [.slice Ao318 ((grant E ⟨m276, 1 + m277, 1 + m308⟩).kern.disk.blocks).length co318, .slice Ao319 ((grant E ⟨m276, 1 + m277, 1 + m308⟩).kern.disk.cache).length co319, .slice Ao320 ((grant E ⟨m276, 1 + m277, 1 + m308⟩).kern.exts).length co320]) rfl ag_43 sz_43 (.t .z) (WS.rows .z (sub_at rfl))) ?_))
 refine FJ.es (goes_list rfl) rfl (es_store (off := 0) (cs := [.slice Ao318 ((grant E ⟨m276, 1 + m277, 1 + m308⟩).kern.disk.blocks).length co318, .slice Ao319 ((grant E ⟨m276, 1 + m277, 1 + m308⟩).kern.disk.cache).length co319, .slice Ao320 ((grant E ⟨m276, 1 + m277, 1 + m308⟩).kern.exts).length co320]) rfl sz_43 (.t (.s16 (.s (.s (.s .z))))) (.t .z) rfl (ones rfl) (.s4 (.s4 (.s .z))) (Nat.le_of_ble_eq_true rfl) (.c .z (.c (.s .z) (.c (.s (.s .z)) .n)))) ?_
 refine FJ.nil (FJ.inBN (FJ.then_ (FJ.region (FJ.ql rfl (q_move rfl (.t (.s16 (.s (.s .z))))) ?_))))
 refine FJ.ql rfl (q_sub (c := n - 1) rfl (.t .z) .c (wr (by omega) (by omega) (by omega))) ?_
 refine FJ.er (.s16 (.s4 .z)) (FJ.ql rfl (q_assign rfl (.t .z)) (FJ.nil ?_))
 refine FJ.again (Ao318, co318, Ao319, co319, Ao320, co320, n - 1, (((y + 1) + 1) + 1), (grant E ⟨m276, 1 + m277, 1 + m308⟩).kern) ⟨by omega, by omega, (by first | exact hE | exact grant_len hE (by assumption))⟩ (by first | omega | (dsimp only; omega)) (.c .z (.c (.s16 (.s4 (.s .z))) (.c (.s16 (.s4 (.s (.s .z)))) (.c (.s16 (.s4 (.s (.s (.s .z))))) .n)))) (fun _ h => h.sel (.c (.s4 (.s .z)) (.c (.s4 (.s .z)) (.c .z (.c (.s (.s .z)) (.c (.s (.s .z)) (.c (.s4 (.s .z)) .n)))))))
 refine FJ.skip (FJ.inBN (FJ.then_ (FJ.region (FJ.ql rfl (q_move rfl (.t (.s16 .z))) ?_))))
 refine FJ.ql rfl (q_sub (c := n - 1) rfl (.t .z) .c (wr (by omega) (by omega) (by omega))) ?_
 refine FJ.er (.s16 (.s (.s .z))) (FJ.ql rfl (q_assign rfl (.t .z)) (FJ.nil ?_))
 refine FJ.again (Agq0, cgq0, Agq1, cgq1, Agq2, cgq2, n - 1, (((y + 1) + 1) + 1), E) ⟨by omega, by omega, (by first | exact hE | exact grant_len hE (by assumption))⟩ (by first | omega | (dsimp only; omega)) (.c .z (.c (.s16 (.s (.s (.s .z)))) (.c (.s16 (.s4 .z)) (.c (.s16 (.s4 (.s .z))) .n)))) (fun _ h => h.sel (.c (.s4 (.s (.s .z))) (.c (.s4 (.s .z)) (.c (.s4 (.s (.s (.s .z)))) (.c (.s4 (.s .z)) (.c (.s4 (.s .z)) (.c (.s4 (.s .z)) .n)))))))
 refine FJ.e (goes_sch rfl rfl) rfl (by decide) rfl (e_alloc rfl z_45 rfl rfl) ?_
 rintro _ _ ⟨g322, rfl, rfl⟩
 refine FJ.sk (.s4 (.s .z)) ?_
 refine FJ.schN ?_
 refine FJ.sch [(4, false), (5, true), (7, false), (8, true), (9, false), (11, false)] 0 #[true, true, true, true, true, true, true, true, true, true, true, true] (by rfl) (by kernel_rfl) ?_
 refine FJ.call (goes_sch rfl rfl) rfl (by decide) rfl (c_call rfl Try.func95 rfl rfl (args2 (.t (.s (.s (.s .z)))) .c)) (.c (.s .z) .n) (fun w1 S1 hs tr => c_95 (tr.ctx hcd) _ hs (by omega) (by omega)) ?_
 rintro _ _ ⟨m323, h0m323, h1m323, rfl, rfl⟩
 refine FJ.cat (.c .n) ?_
 refine FJ.sk (.s4 (.s .z)) ?_
 refine FJ.dq rfl rfl rfl (by decide) rfl (.s4 (.s .z)) (q_add (c := 1 + m323) rfl .c (.t .z) (wr (by omega) (by omega) (by omega))) ?_
 refine FJ.call (goes_sch rfl rfl) rfl (by decide) rfl (c_call rfl Try.func95 rfl rfl (args2 (.t (.s4 .z)) .c)) (.c .z .n) (fun w1 S1 hs tr => c_95 (tr.ctx hcd) _ hs (by omega) (by omega)) ?_
 rintro _ _ ⟨m324, h0m324, h1m324, rfl, rfl⟩
 refine FJ.cat (.c .n) ?_
 refine FJ.sk (.s4 (.s .z)) ?_
 refine FJ.dq rfl rfl rfl (by decide) rfl (.s4 (.s .z)) (q_add (c := 1 + m324) rfl .c (.t .z) (wr (by omega) (by omega) (by omega))) ?_
 refine FJ.call (goes_sch rfl rfl) rfl (by decide) rfl (c_call rfl Try.func66 rfl rfl (args4 (.t (.s4 (.s4 (.s .z)))) (.t (.s4 (.s .z))) (.t (.s (.s .z))) (.t .z))) .n (fun w1 S1 hs tr => c_66 (kT_43_mk E (tr.own (.s (.s (.s .z)))) (tr.own (.s4 .z)) (tr.own (.s (.s .z)))) _ _ _) ?_
 rintro _ _ ⟨v325, v327, v329, v331, rfl, rfl⟩
 refine FJ.cat (.c (.c (.c (.c .n)))) ?_
 refine FJ.know (WS.oform .z) ?_
 rintro ⟨Ao333, co333, rfl, hlo333, hmo333, hbo333⟩
 refine FJ.know (WS.oform (.s .z)) ?_
 rintro ⟨Ao334, co334, rfl, hlo334, hmo334, hbo334⟩
 refine FJ.know (WS.oform (.s (.s .z))) ?_
 rintro ⟨Ao335, co335, rfl, hlo335, hmo335, hbo335⟩
 refine FJ.know (WS.oform (.s (.s (.s .z)))) ?_
 rintro ⟨Ao336, co336, rfl, hlo336, hmo336, hbo336⟩
 refine FJ.sk (.s4 (.s4 (.s .z))) ?_
 refine FJ.es (goes_sch rfl rfl) rfl (es_store (off := 0) (cs := [.int .i64 ((grant E ⟨m276, 1 + m323, 1 + m324⟩).code), .slice Ao333 ((grant E ⟨m276, 1 + m323, 1 + m324⟩).words).length co333, .slice Ao334 ((grant E ⟨m276, 1 + m323, 1 + m324⟩).kern.disk.blocks).length co334, .slice Ao335 ((grant E ⟨m276, 1 + m323, 1 + m324⟩).kern.disk.cache).length co335, .slice Ao336 ((grant E ⟨m276, 1 + m323, 1 + m324⟩).kern.exts).length co336]) rfl sz_45 (.t (.s4 (.s .z))) (.t .z) rfl (ones rfl) (.s4 (.s .z)) (Nat.le_of_ble_eq_true rfl) (.c .z (.c (.s .z) (.c (.s (.s .z)) (.c (.s (.s (.s .z))) (.c (.s (.s (.s (.s .z)))) .n)))))) ?_
 refine FJ.sl rfl ?_
 refine FJ.schN ?_
 refine FJ.drawN (by kernel_rfl) ?_
 refine FJ.then_ (FJ.seq (FJ.region (FJ.ql rfl (q_fieldAddr rfl (.t (.s4 (.s .z))) (fun _ => fa_45_0 _ _)) (FJ.ql rfl (q_load rfl ag_2 (.t .z) (WS.row .z rfl)) ?_))))
 refine FJ.ql rfl (q_eql rfl (.t .z) .c) (FJ.nil (FJ.then_ ?_))
 refine FJ.condP (.t .z) (fun b337 => ?_) (fun b337 => ?_)
 refine FJ.region (FJ.ql rfl (q_fieldAddr rfl (.t (.s4 (.s4 .z))) (fun _ => fa_45_2 _ _)) (FJ.ql rfl (q_loadA (cs := [.slice Ao334 ((grant E ⟨m276, 1 + m323, 1 + m324⟩).kern.disk.blocks).length co334, .slice Ao335 ((grant E ⟨m276, 1 + m323, 1 + m324⟩).kern.disk.cache).length co335, .slice Ao336 ((grant E ⟨m276, 1 + m323, 1 + m324⟩).kern.exts).length co336]) rfl ag_43 sz_43 (.t .z) (WS.rows .z (sub_at rfl))) ?_))
 refine FJ.es (goes_list rfl) rfl (es_store (off := 0) (cs := [.slice Ao334 ((grant E ⟨m276, 1 + m323, 1 + m324⟩).kern.disk.blocks).length co334, .slice Ao335 ((grant E ⟨m276, 1 + m323, 1 + m324⟩).kern.disk.cache).length co335, .slice Ao336 ((grant E ⟨m276, 1 + m323, 1 + m324⟩).kern.exts).length co336]) rfl sz_43 (.t (.s16 (.s (.s (.s .z))))) (.t .z) rfl (ones rfl) (.s4 (.s4 (.s .z))) (Nat.le_of_ble_eq_true rfl) (.c .z (.c (.s .z) (.c (.s (.s .z)) .n)))) ?_
 refine FJ.nil (FJ.inBN (FJ.then_ (FJ.region (FJ.ql rfl (q_move rfl (.t (.s16 (.s (.s .z))))) ?_))))
 refine FJ.ql rfl (q_sub (c := n - 1) rfl (.t .z) .c (wr (by omega) (by omega) (by omega))) ?_
 refine FJ.er (.s16 (.s4 .z)) (FJ.ql rfl (q_assign rfl (.t .z)) (FJ.nil ?_))
 refine FJ.again (Ao334, co334, Ao335, co335, Ao336, co336, n - 1, (((y + 1) + 1) + 1), (grant E ⟨m276, 1 + m323, 1 + m324⟩).kern) ⟨by omega, by omega, (by first | exact hE | exact grant_len hE (by assumption))⟩ (by first | omega | (dsimp only; omega)) (.c .z (.c (.s16 (.s4 (.s .z))) (.c (.s16 (.s4 (.s (.s .z)))) (.c (.s16 (.s4 (.s (.s (.s .z))))) .n)))) (fun _ h => h.sel (.c (.s4 (.s .z)) (.c (.s4 (.s .z)) (.c .z (.c (.s (.s .z)) (.c (.s (.s .z)) (.c (.s4 (.s .z)) .n)))))))
 refine FJ.skip (FJ.inBN (FJ.then_ (FJ.region (FJ.ql rfl (q_move rfl (.t (.s16 .z))) ?_))))
 refine FJ.ql rfl (q_sub (c := n - 1) rfl (.t .z) .c (wr (by omega) (by omega) (by omega))) ?_
 refine FJ.er (.s16 (.s (.s .z))) (FJ.ql rfl (q_assign rfl (.t .z)) (FJ.nil ?_))
 refine FJ.again (Agq0, cgq0, Agq1, cgq1, Agq2, cgq2, n - 1, (((y + 1) + 1) + 1), E) ⟨by omega, by omega, (by first | exact hE | exact grant_len hE (by assumption))⟩ (by first | omega | (dsimp only; omega)) (.c .z (.c (.s16 (.s (.s (.s .z)))) (.c (.s16 (.s4 .z)) (.c (.s16 (.s4 (.s .z))) .n)))) (fun _ h => h.sel (.c (.s4 (.s (.s .z))) (.c (.s4 (.s .z)) (.c (.s4 (.s (.s (.s .z)))) (.c (.s4 (.s .z)) (.c (.s4 (.s .z)) (.c (.s4 (.s .z)) .n)))))))
 refine FJ.e (goes_sch rfl rfl) rfl (by decide) rfl (e_alloc rfl z_45 rfl rfl) ?_
 rintro _ _ ⟨g338, rfl, rfl⟩
 refine FJ.sk (.s4 (.s .z)) ?_
 refine FJ.schN ?_
 refine FJ.sch [(2, false), (4, false), (5, true), (7, false), (8, true), (9, false), (11, false)] 0 #[true, true, true, true, true, true, true, true, true, true, true, true] (by rfl) (by kernel_rfl) ?_
 refine FJ.call (goes_sch rfl rfl) rfl (by decide) rfl (c_call rfl Try.func95 rfl rfl (args2 (.t (.s (.s (.s .z)))) .c)) (.c (.s (.s .z)) .n) (fun w1 S1 hs tr => c_95 (tr.ctx hcd) _ hs (by omega) (by omega)) ?_
 rintro _ _ ⟨m339, h0m339, h1m339, rfl, rfl⟩
 refine FJ.cat (.c .n) ?_
 refine FJ.sk (.s4 (.s .z)) ?_
 refine FJ.call (goes_sch rfl rfl) rfl (by decide) rfl (c_call rfl Try.func95 rfl rfl (args2 (.t (.s (.s (.s .z)))) .c)) (.c .z .n) (fun w1 S1 hs tr => c_95 (tr.ctx hcd) _ hs (by omega) (by omega)) ?_
 rintro _ _ ⟨m340, h0m340, h1m340, rfl, rfl⟩
 refine FJ.cat (.c .n) ?_
 refine FJ.sk (.s4 (.s .z)) ?_
 refine FJ.dq rfl rfl rfl (by decide) rfl (.s4 (.s .z)) (q_add (c := 1 + m340) rfl .c (.t .z) (wr (by omega) (by omega) (by omega))) ?_
 refine FJ.call (goes_sch rfl rfl) rfl (by decide) rfl (c_call rfl Try.func95 rfl rfl (args2 (.t (.s4 .z)) .c)) (.c .z .n) (fun w1 S1 hs tr => c_95 (tr.ctx hcd) _ hs (by omega) (by omega)) ?_
 rintro _ _ ⟨m341, h0m341, h1m341, rfl, rfl⟩
 refine FJ.cat (.c .n) ?_
 refine FJ.sk (.s4 (.s .z)) ?_
 refine FJ.dq rfl rfl rfl (by decide) rfl (.s4 (.s .z)) (q_add (c := 1 + m341) rfl .c (.t .z) (wr (by omega) (by omega) (by omega))) ?_
 refine FJ.call (goes_sch rfl rfl) rfl (by decide) rfl (c_call rfl Try.func66 rfl rfl (args4 (.t (.s4 (.s4 (.s .z)))) (.t (.s4 .z)) (.t (.s (.s .z))) (.t .z))) .n (fun w1 S1 hs tr => c_66 (kT_43_mk E (tr.own (.s (.s (.s .z)))) (tr.own (.s4 .z)) (tr.own (.s (.s .z)))) _ _ _) ?_
 rintro _ _ ⟨v342, v344, v346, v348, rfl, rfl⟩
 refine FJ.cat (.c (.c (.c (.c .n)))) ?_
 refine FJ.know (WS.oform .z) ?_
 rintro ⟨Ao350, co350, rfl, hlo350, hmo350, hbo350⟩
 refine FJ.know (WS.oform (.s .z)) ?_
 rintro ⟨Ao351, co351, rfl, hlo351, hmo351, hbo351⟩
 refine FJ.know (WS.oform (.s (.s .z))) ?_
 rintro ⟨Ao352, co352, rfl, hlo352, hmo352, hbo352⟩
 refine FJ.know (WS.oform (.s (.s (.s .z)))) ?_
 rintro ⟨Ao353, co353, rfl, hlo353, hmo353, hbo353⟩
 refine FJ.sk (.s4 (.s4 (.s .z))) ?_
 refine FJ.es (goes_sch rfl rfl) rfl (es_store (off := 0) (cs := [.int .i64 ((grant E ⟨m339, 1 + m340, 1 + m341⟩).code), .slice Ao350 ((grant E ⟨m339, 1 + m340, 1 + m341⟩).words).length co350, .slice Ao351 ((grant E ⟨m339, 1 + m340, 1 + m341⟩).kern.disk.blocks).length co351, .slice Ao352 ((grant E ⟨m339, 1 + m340, 1 + m341⟩).kern.disk.cache).length co352, .slice Ao353 ((grant E ⟨m339, 1 + m340, 1 + m341⟩).kern.exts).length co353]) rfl sz_45 (.t (.s4 (.s (.s .z)))) (.t .z) rfl (ones rfl) (.s4 (.s .z)) (Nat.le_of_ble_eq_true rfl) (.c .z (.c (.s .z) (.c (.s (.s .z)) (.c (.s (.s (.s .z))) (.c (.s (.s (.s (.s .z)))) .n)))))) ?_
 refine FJ.sl rfl ?_
 refine FJ.schN ?_
 refine FJ.drawN (by kernel_rfl) ?_
 refine FJ.then_ (FJ.seq (FJ.region (FJ.ql rfl (q_fieldAddr rfl (.t (.s4 (.s (.s .z)))) (fun _ => fa_45_0 _ _)) (FJ.ql rfl (q_load rfl ag_2 (.t .z) (WS.row .z rfl)) ?_))))
 refine FJ.ql rfl (q_eql rfl (.t .z) .c) (FJ.nil (FJ.then_ ?_))
 refine FJ.condP (.t .z) (fun b354 => ?_) (fun b354 => ?_)
 refine FJ.region (FJ.ql rfl (q_fieldAddr rfl (.t (.s4 (.s4 (.s .z)))) (fun _ => fa_45_2 _ _)) (FJ.ql rfl (q_loadA (cs := [.slice Ao351 ((grant E ⟨m339, 1 + m340, 1 + m341⟩).kern.disk.blocks).length co351, .slice Ao352 ((grant E ⟨m339, 1 + m340, 1 + m341⟩).kern.disk.cache).length co352, .slice Ao353 ((grant E ⟨m339, 1 + m340, 1 + m341⟩).kern.exts).length co353]) rfl ag_43 sz_43 (.t .z) (WS.rows .z (sub_at rfl))) ?_))
 refine FJ.es (goes_list rfl) rfl (es_store (off := 0) (cs := [.slice Ao351 ((grant E ⟨m339, 1 + m340, 1 + m341⟩).kern.disk.blocks).length co351, .slice Ao352 ((grant E ⟨m339, 1 + m340, 1 + m341⟩).kern.disk.cache).length co352, .slice Ao353 ((grant E ⟨m339, 1 + m340, 1 + m341⟩).kern.exts).length co353]) rfl sz_43 (.t (.s16 (.s (.s (.s .z))))) (.t .z) rfl (ones rfl) (.s4 (.s4 (.s .z))) (Nat.le_of_ble_eq_true rfl) (.c .z (.c (.s .z) (.c (.s (.s .z)) .n)))) ?_
 refine FJ.nil (FJ.inBN (FJ.then_ (FJ.region (FJ.ql rfl (q_move rfl (.t (.s16 (.s (.s .z))))) ?_))))
 refine FJ.ql rfl (q_sub (c := n - 1) rfl (.t .z) .c (wr (by omega) (by omega) (by omega))) ?_
 refine FJ.er (.s16 (.s4 .z)) (FJ.ql rfl (q_assign rfl (.t .z)) (FJ.nil ?_))
 refine FJ.again (Ao351, co351, Ao352, co352, Ao353, co353, n - 1, (((y + 1) + 1) + 1), (grant E ⟨m339, 1 + m340, 1 + m341⟩).kern) ⟨by omega, by omega, (by first | exact hE | exact grant_len hE (by assumption))⟩ (by first | omega | (dsimp only; omega)) (.c .z (.c (.s16 (.s4 (.s .z))) (.c (.s16 (.s4 (.s (.s .z)))) (.c (.s16 (.s4 (.s (.s (.s .z))))) .n)))) (fun _ h => h.sel (.c (.s4 (.s .z)) (.c (.s4 (.s .z)) (.c .z (.c (.s (.s .z)) (.c (.s (.s .z)) (.c (.s4 (.s .z)) .n)))))))
 refine FJ.skip (FJ.inBN (FJ.then_ (FJ.region (FJ.ql rfl (q_move rfl (.t (.s16 .z))) ?_))))
 refine FJ.ql rfl (q_sub (c := n - 1) rfl (.t .z) .c (wr (by omega) (by omega) (by omega))) ?_
 refine FJ.er (.s16 (.s (.s .z))) (FJ.ql rfl (q_assign rfl (.t .z)) (FJ.nil ?_))
 refine FJ.again (Agq0, cgq0, Agq1, cgq1, Agq2, cgq2, n - 1, (((y + 1) + 1) + 1), E) ⟨by omega, by omega, (by first | exact hE | exact grant_len hE (by assumption))⟩ (by first | omega | (dsimp only; omega)) (.c .z (.c (.s16 (.s (.s (.s .z)))) (.c (.s16 (.s4 .z)) (.c (.s16 (.s4 (.s .z))) .n)))) (fun _ h => h.sel (.c (.s4 (.s (.s .z))) (.c (.s4 (.s .z)) (.c (.s4 (.s (.s (.s .z)))) (.c (.s4 (.s .z)) (.c (.s4 (.s .z)) (.c (.s4 (.s .z)) .n)))))))
 refine FJ.exit (FJ.thenE (FJ.thenE (FJ.inB (FJ.then_ ?_))))
 refine FJ.seq (FJ.seq (FJ.region (FJ.ql rfl (q_move rfl (.t (.s4 (.s .z)))) ?_)))
 refine FJ.call (goes_list rfl) rfl (by decide) rfl (c_call rfl Try.func95 rfl rfl (args2 (.t .z) .c)) (.c (.s .z) .n) (fun w1 S1 hs tr => c_95 (tr.ctx hcd) _ hs (by omega) (by omega)) ?_
 rintro _ _ ⟨m355, h0m355, h1m355, rfl, rfl⟩
 refine FJ.cat (.c .n) ?_
 refine FJ.nil (FJ.then_ (FJ.block (FJ.seq (FJ.region ?_))))
 refine FJ.ql rfl (q_eql rfl (.t .z) .c) (FJ.ql rfl (q_assign rfl (.t .z)) (FJ.nil (FJ.then_ ?_)))
 refine FJ.condP (.t .z) (fun b356 => ?_) (fun b356 => ?_)
 refine FJ.region (FJ.ql rfl (q_move rfl (.t (.s4 (.s4 (.s .z))))) ?_)
 refine FJ.call (goes_list rfl) rfl (by decide) rfl (c_call rfl Try.func93 rfl rfl (args1 (.t .z))) (.c .z .n) (fun w1 S1 hs tr => c_93 (tr.ctx hcd) hs (by omega)) ?_
 rintro _ _ ⟨d357, v359, v361, u358, hzd357, rfl, rfl⟩
 refine FJ.cat (.c (.c (.c .n))) ?_
 refine FJ.know (WS.oform .z) ?_
 rintro ⟨Ao363, co363, rfl, hlo363, hmo363, hbo363⟩
 refine FJ.know (WS.oform (.s .z)) ?_
 rintro ⟨Ao364, co364, rfl, hlo364, hmo364, hbo364⟩
 refine FJ.ql rfl (q_fieldAddr rfl (.t (.s4 (.s4 (.s .z)))) (fun _ => fa_43_0 _ _)) ?_
 refine FJ.es (goes_list rfl) rfl (es_store (off := 0) (cs := [.slice Ao363 d357.blocks.length co363, .slice Ao364 d357.cache.length co364]) rfl sz_25 (.t .z) (.t (.s .z)) rfl (ones rfl) (.s4 .z) (Nat.le_of_ble_eq_true rfl) (.c .z (.c (.s .z) .n))) ?_
 refine FJ.nil (FJ.inBN (FJ.then_ (FJ.seq (FJ.region ?_))))
 refine FJ.ql rfl (q_loadA (cs := [.slice Ao363 d357.blocks.length co363, .slice Ao364 d357.cache.length co364, .slice Agq2 E.exts.length cgq2]) rfl ag_43 sz_43 (.t (.s4 (.s4 (.s (.s .z))))) (WS.rows0 .z (fun i u h => by exact h))) ?_
 refine FJ.es (goes_list rfl) rfl (es_store (off := 0) (cs := [.slice Ao363 d357.blocks.length co363, .slice Ao364 d357.cache.length co364, .slice Agq2 E.exts.length cgq2]) rfl sz_43 (.t (.s4 (.s4 (.s4 .z)))) (.t .z) rfl (ones rfl) (.s4 (.s (.s (.s .z)))) (Nat.le_of_ble_eq_true rfl) (.c .z (.c (.s .z) (.c (.s (.s .z)) .n)))) ?_
 refine FJ.nil (FJ.then_ (FJ.ret ?_))
 refine FJ.doneS (resC (cs := [.slice Ao363 d357.blocks.length co363, .slice Ao364 d357.cache.length co364, .slice Agq2 E.exts.length cgq2]) rfl (.s4 (.s4 (.s4 .z))) ag_43 sz_43 (WS.rows0 (cs := [.slice Ao363 d357.blocks.length co363, .slice Ao364 d357.cache.length co364, .slice Agq2 E.exts.length cgq2]) .z (fun _ _ h => h))) (.c (.s (.s .z)) (.c (.s (.s .z)) (.c (.s (.s (.s .z))) (.c (.s (.s .z)) .n)))) ?_
 exact ⟨⟨⟨d357.blocks, d357.cache⟩, E.exts⟩, _, _, _, _, ⟨by first | omega | (dsimp only; omega) | (simp only [List.length_append, List.length_cons, List.length_nil, List.length_replicate]; omega), by first | omega | (dsimp only; omega) | (simp only [List.length_append, List.length_cons, List.length_nil, List.length_replicate]; omega), by first | omega | (dsimp only; omega) | (simp only [List.length_append, List.length_cons, List.length_nil, List.length_replicate]; omega), by omega, by omega⟩, rfl, rfl⟩
 refine FJ.seq (FJ.region (FJ.ql rfl (q_eql rfl (.t (.s (.s .z))) .c) (FJ.ql rfl (q_assign rfl (.t .z)) (FJ.nil ?_))))
 refine FJ.then_ ?_
 refine FJ.condP (.t .z) (fun b365 => ?_) (fun b365 => ?_)
 refine FJ.sel (.c .z (.c .z (.c (.s .z) (.c (.s .z) (.c .z (.c .z .n)))))) ?_
 refine FJ.draw [rowA g272 43 3 1 [.slice Agq0 E.disk.blocks.length cgq0, .slice Agq1 E.disk.cache.length cgq1, .slice Agq2 E.exts.length cgq2], rowA g2 43 3 1 [.slice none 0 0, .slice none 0 0, .slice none 0 0]] 15 (by kernel_rfl) ?_
 refine FJ.sch [(0, true), (1, true), (2, true), (5, true), (8, true)] 11 #[true, true, true, false, false, true, false, false, true, false, false, false, false, false, false, false] (by rfl) (by kernel_rfl) ?_
 refine FJ.dq rfl rfl rfl (by decide) rfl (.s4 .z) (q_fieldAddr rfl (.t (.s4 (.s4 (.s .z)))) (fun _ => fa_43_1 _ _)) (FJ.dq rfl rfl rfl (by decide) rfl (.s4 .z) (q_load rfl ag_41 (.t .z) (WS.row .z rfl)) (FJ.dq rfl rfl rfl (by decide) rfl (.s4 .z) (q_move rfl (.t (.s4 (.s4 (.s4 (.s .z)))))) (FJ.dq rfl rfl rfl (by decide) rfl (.s4 .z) (q_move rfl (.t (.s4 (.s4 (.s4 (.s (.s .z))))))) (FJ.dq rfl rfl rfl (by decide) rfl (.s4 .z) (q_move rfl (.t (.s4 (.s4 (.s4 (.s (.s (.s .z)))))))) ?_))))
 refine FJ.schN ?_
 refine FJ.fork3 (i := 3) (j := 6) (k := 9) (by kernel_rfl) ?_ ?_ ?_
 refine FJ.e (goes_sch rfl rfl) rfl (by decide) rfl (e_buildSliceL (ps := [(0, .int .i64 0), (1, .int .i64 3), (2, .int .i64 (-1))]) (cs := [.int .i64 0, .int .i64 3, .int .i64 (-1)]) rfl u_40 (inz inf_2) (by decide) (by intro act hact; simp only [List.map_toArray, List.map_cons, List.map_nil, (show Val _ _ _ from .c) act hact, (show Val _ _ _ from .c) act hact, (show Val _ _ _ from .c) act hact]) rfl rfl (by decide) rfl rfl) ?_
 rintro _ _ ⟨g366, rfl, rfl⟩
 refine FJ.sk (.s4 (.s .z)) ?_
 refine FJ.schN ?_
 refine FJ.sch [] 10 #[true, true, true, true, false, true, false, false, true, false, false, false, false, false, false, false] (by rfl) (by kernel_rfl) ?_
 refine FJ.schN ?_
 refine FJ.fork3 (i := 4) (j := 6) (k := 9) (by kernel_rfl) ?_ ?_ ?_
 refine FJ.turns (c := ownA kSl_2 ([0, 3, (-1)] : (List Int)) [.slice (some ⟨g366, 0, none⟩) 3 3]) (.c .z .n) (fun w S h => lit_own (xs := ([0, 3, (-1)] : (List Int))) h rfl (by simp) (by omega) (by omega)) ?_
 refine FJ.call (goes_sch rfl rfl) rfl (by decide) rfl (c_call rfl Try.func120 rfl rfl (args2 (.t (.s (.s (.s .z)))) (.t .z))) (.c (.s .z) .n) (fun w1 S1 hs tr => c_120 (tr.ctx hcd) (tr.own .z) hs (by omega) (by simp)) ?_
 rintro _ _ ⟨m368, hm368, rfl, rfl⟩
 refine FJ.cat (.c .n) ?_
 simp only [List.mem_cons, List.not_mem_nil, or_false] at hm368
 refine FJ.sk (.s4 (.s .z)) ?_
 refine FJ.schN ?_
 refine FJ.sch [] 9 #[true, true, true, true, true, true, false, false, true, false, false, false, false, false, false, false] (by rfl) (by kernel_rfl) ?_
 refine FJ.schN ?_
 refine FJ.fork2 (i := 6) (j := 9) (by kernel_rfl) ?_ ?_
 refine FJ.e (goes_sch rfl rfl) rfl (by decide) rfl (e_buildSliceL (ps := [(0, .int .i64 1), (1, .int .i64 0), (2, .int .i64 60)]) (cs := [.int .i64 1, .int .i64 0, .int .i64 60]) rfl u_40 (inz inf_2) (by decide) (by intro act hact; simp only [List.map_toArray, List.map_cons, List.map_nil, (show Val _ _ _ from .c) act hact, (show Val _ _ _ from .c) act hact, (show Val _ _ _ from .c) act hact]) rfl rfl (by decide) rfl rfl) ?_
 rintro _ _ ⟨g369, rfl, rfl⟩
 refine FJ.sk (.s4 (.s (.s .z))) ?_
 refine FJ.schN ?_
 refine FJ.sch [] 8 #[true, true, true, true, true, true, true, false, true, false, false, false, false, false, false, false] (by rfl) (by kernel_rfl) ?_
 refine FJ.schN ?_
 refine FJ.fork2 (i := 7) (j := 9) (by kernel_rfl) ?_ ?_
 refine FJ.turns (c := ownA kSl_2 ([1, 0, 60] : (List Int)) [.slice (some ⟨g369, 0, none⟩) 3 3]) (.c .z .n) (fun w S h => lit_own (xs := ([1, 0, 60] : (List Int))) h rfl (by simp) (by omega) (by omega)) ?_
 refine FJ.call (goes_sch rfl rfl) rfl (by decide) rfl (c_call rfl Try.func120 rfl rfl (args2 (.t (.s4 .z)) (.t .z))) (.c (.s .z) .n) (fun w1 S1 hs tr => c_120 (tr.ctx hcd) (tr.own .z) hs (by omega) (by simp)) ?_
 rintro _ _ ⟨m371, hm371, rfl, rfl⟩
 refine FJ.cat (.c .n) ?_
 simp only [List.mem_cons, List.not_mem_nil, or_false] at hm371
 refine FJ.sk (.s4 (.s (.s .z))) ?_
 refine FJ.schN ?_
 refine FJ.sch [(9, false), (10, false), (11, true), (12, false), (13, false), (14, true), (15, false)] 0 #[true, true, true, true, true, true, true, true, true, true, true, true, true, true, true, true] (by rfl) (by kernel_rfl) ?_
 refine FJ.e (goes_sch rfl rfl) rfl (by decide) rfl (e_buildSliceL (ps := [(0, .int .i64 1), (1, .int .i64 0), (2, .int .i64 10000)]) (cs := [.int .i64 1, .int .i64 0, .int .i64 10000]) rfl u_40 (inz inf_2) (by decide) (by intro act hact; simp only [List.map_toArray, List.map_cons, List.map_nil, (show Val _ _ _ from .c) act hact, (show Val _ _ _ from .c) act hact, (show Val _ _ _ from .c) act hact]) rfl rfl (by decide) rfl rfl) ?_
 rintro _ _ ⟨g372, rfl, rfl⟩
 refine FJ.sk (.s4 (.s (.s (.s .z)))) ?_
 refine FJ.turns (c := ownA kSl_2 ([1, 0, 10000] : (List Int)) [.slice (some ⟨g372, 0, none⟩) 3 3]) (.c .z .n) (fun w S h => lit_own (xs := ([1, 0, 10000] : (List Int))) h rfl (by simp) (by omega) (by omega)) ?_
 refine FJ.call (goes_sch rfl rfl) rfl (by decide) rfl (c_call rfl Try.func120 rfl rfl (args2 (.t (.s4 (.s .z))) (.t .z))) (.c (.s .z) .n) (fun w1 S1 hs tr => c_120 (tr.ctx hcd) (tr.own .z) hs (by omega) (by simp)) ?_
 rintro _ _ ⟨m374, hm374, rfl, rfl⟩
 refine FJ.cat (.c .n) ?_
 simp only [List.mem_cons, List.not_mem_nil, or_false] at hm374
 refine FJ.sk (.s4 (.s (.s (.s .z)))) ?_
 refine FJ.dq rfl rfl rfl (by decide) rfl (.s4 (.s (.s (.s .z)))) (q_build (ps := [(0, .int .i64 m368), (1, .int .i64 m371), (2, .int .i64 m374)]) (cs := [.int .i64 m368, .int .i64 m371, .int .i64 m374]) rfl bl_135 (by intro act hact; simp only [List.map_toArray, List.map_cons, List.map_nil, (show Val _ _ _ from (.t (.s4 .z))) act hact, (show Val _ _ _ from (.t (.s (.s .z)))) act hact, (show Val _ _ _ from (.t .z)) act hact]) rfl) ?_
 refine FJ.e (goes_sch rfl rfl) rfl (by decide) rfl (e_buildSliceL (ps := [(0, .agg #[.int .i64 m368, .int .i64 m371, .int .i64 m374])]) (cs := [.int .i64 m368, .int .i64 m371, .int .i64 m374]) rfl u_41 (inz inf_135) (by decide) (by intro act hact; simp only [List.map_toArray, List.map_cons, List.map_nil, (show Val _ _ _ from (.t .z)) act hact]) rfl rfl (by decide) rfl rfl) ?_
 rintro _ _ ⟨g375, rfl, rfl⟩
 refine FJ.sk (.s4 (.s4 .z)) ?_
 refine FJ.turns (c := ownA kT_135 (⟨m368, m371, m374⟩ : DExt) [.int .i64 m368, .int .i64 m371, .int .i64 m374]) .n (fun w S h => kT_135_omk (⟨m368, m371, m374⟩ : DExt) h) ?_
 refine FJ.e (goes_sch rfl rfl) rfl (by decide) rfl (e_append1 rfl u_41 inf_135 rfl (.t (.s4 (.s4 (.s (.s (.s .z)))))) (.t .z) (.c (.s4 (.s (.s .z))) (.c (.s .z) (.c .z .n))) (by first | omega | (simp only [List.length_append, List.length_cons, List.length_nil, List.length_replicate]; omega)) (by first | omega | (simp only [List.length_append, List.length_cons, List.length_nil, List.length_replicate]; omega))) ?_
 rintro _ _ rfl
 refine FJ.know (WS.oform .z) ?_
 rintro ⟨Ao377, co377, rfl, hlo377, hmo377, hbo377⟩
 refine FJ.sk (.s4 (.s (.s (.s .z)))) ?_
 refine FJ.dq rfl rfl rfl (by decide) rfl (.s4 (.s (.s (.s .z)))) (q_fieldAddr rfl (.t (.s16 (.s4 (.s (.s (.s .z)))))) (fun _ => fa_43_1 _ _)) ?_
 refine FJ.es (goes_sch rfl rfl) rfl (es_store (off := 2) (cs := [.slice Ao377 (E.exts ++ [(⟨m368, m371, m374⟩ : DExt)]).length co377]) rfl sz_41 (.t .z) (.t (.s .z)) rfl (ones rfl) (.s4 (.s (.s (.s .z)))) (Nat.le_of_ble_eq_true rfl) (.c (.s (.s .z)) .n)) ?_
 refine FJ.sl rfl ?_
 refine FJ.schN ?_
 refine FJ.drawN (by kernel_rfl) ?_
 refine FJ.inBN (FJ.then_ (FJ.seq (FJ.region ?_)))
 refine FJ.ql rfl (q_loadA (cs := [.slice Agq0 E.disk.blocks.length cgq0, .slice Agq1 E.disk.cache.length cgq1, .slice Ao377 (E.exts ++ [(⟨m368, m371, m374⟩ : DExt)]).length co377]) rfl ag_43 sz_43 (.t (.s16 (.s4 (.s4 .z)))) (WS.rows0 .z (fun i u h => by exact h))) ?_
 refine FJ.es (goes_list rfl) rfl (es_store (off := 0) (cs := [.slice Agq0 E.disk.blocks.length cgq0, .slice Agq1 E.disk.cache.length cgq1, .slice Ao377 (E.exts ++ [(⟨m368, m371, m374⟩ : DExt)]).length co377]) rfl sz_43 (.t (.s16 (.s4 (.s4 (.s (.s .z)))))) (.t .z) rfl (ones rfl) (.s4 (.s4 .z)) (Nat.le_of_ble_eq_true rfl) (.c .z (.c (.s .z) (.c (.s (.s .z)) .n)))) ?_
 refine FJ.nil (FJ.then_ (FJ.ret ?_))
 refine FJ.doneS (resC (cs := [.slice Agq0 E.disk.blocks.length cgq0, .slice Agq1 E.disk.cache.length cgq1, .slice Ao377 (E.exts ++ [(⟨m368, m371, m374⟩ : DExt)]).length co377]) rfl (.s16 (.s4 (.s4 (.s (.s .z))))) ag_43 sz_43 (WS.rows0 (cs := [.slice Agq0 E.disk.blocks.length cgq0, .slice Agq1 E.disk.cache.length cgq1, .slice Ao377 (E.exts ++ [(⟨m368, m371, m374⟩ : DExt)]).length co377]) .z (fun _ _ h => h))) (.c (.s4 (.s (.s (.s .z)))) (.c (.s4 (.s (.s (.s .z)))) (.c (.s (.s .z)) (.c (.s (.s .z)) .n)))) ?_
 exact ⟨⟨⟨E.disk.blocks, E.disk.cache⟩, E.exts ++ [(⟨m368, m371, m374⟩ : DExt)]⟩, _, _, _, _, ⟨by first | omega | (dsimp only; omega) | (simp only [List.length_append, List.length_cons, List.length_nil, List.length_replicate]; omega), by first | omega | (dsimp only; omega) | (simp only [List.length_append, List.length_cons, List.length_nil, List.length_replicate]; omega), by first | omega | (dsimp only; omega) | (simp only [List.length_append, List.length_cons, List.length_nil, List.length_replicate]; omega), by omega, by omega⟩, rfl, rfl⟩
 refine FJ.e (goes_sch rfl rfl) rfl (by decide) rfl (e_buildSliceL (ps := [(0, .int .i64 1), (1, .int .i64 0), (2, .int .i64 10000)]) (cs := [.int .i64 1, .int .i64 0, .int .i64 10000]) rfl u_40 (inz inf_2) (by decide) (by intro act hact; simp only [List.map_toArray, List.map_cons, List.map_nil, (show Val _ _ _ from .c) act hact, (show Val _ _ _ from .c) act hact, (show Val _ _ _ from .c) act hact]) rfl rfl (by decide) rfl rfl) ?_
 rintro _ _ ⟨g378, rfl, rfl⟩
 refine FJ.sk (.s4 (.s (.s (.s .z)))) ?_
 refine FJ.schN ?_
 refine FJ.sch [(7, false), (10, false), (11, true), (12, false), (13, false), (14, true), (15, false)] 0 #[true, true, true, true, true, true, true, true, true, true, true, true, true, true, true, true] (by rfl) (by kernel_rfl) ?_
 refine FJ.turns (c := ownA kSl_2 ([1, 0, 60] : (List Int)) [.slice (some ⟨g369, 0, none⟩) 3 3]) (.c (.s .z) .n) (fun w S h => lit_own (xs := ([1, 0, 60] : (List Int))) h rfl (by simp) (by omega) (by omega)) ?_
 refine FJ.call (goes_sch rfl rfl) rfl (by decide) rfl (c_call rfl Try.func120 rfl rfl (args2 (.t (.s4 (.s .z))) (.t (.s .z)))) (.c (.s (.s .z)) .n) (fun w1 S1 hs tr => c_120 (tr.ctx hcd) (tr.own .z) hs (by omega) (by simp)) ?_
 rintro _ _ ⟨m380, hm380, rfl, rfl⟩
 refine FJ.cat (.c .n) ?_
 simp only [List.mem_cons, List.not_mem_nil, or_false] at hm380
 refine FJ.sk (.s4 (.s (.s (.s .z)))) ?_
 refine FJ.turns (c := ownA kSl_2 ([1, 0, 10000] : (List Int)) [.slice (some ⟨g378, 0, none⟩) 3 3]) (.c (.s (.s .z)) .n) (fun w S h => lit_own (xs := ([1, 0, 10000] : (List Int))) h rfl (by simp) (by omega) (by omega)) ?_
 refine FJ.call (goes_sch rfl rfl) rfl (by decide) rfl (c_call rfl Try.func120 rfl rfl (args2 (.t (.s4 (.s .z))) (.t (.s .z)))) (.c (.s .z) .n) (fun w1 S1 hs tr => c_120 (tr.ctx hcd) (tr.own .z) hs (by omega) (by simp)) ?_
 rintro _ _ ⟨m382, hm382, rfl, rfl⟩
 refine FJ.cat (.c .n) ?_
 simp only [List.mem_cons, List.not_mem_nil, or_false] at hm382
 refine FJ.sk (.s4 (.s (.s (.s .z)))) ?_
 refine FJ.dq rfl rfl rfl (by decide) rfl (.s4 (.s (.s (.s .z)))) (q_build (ps := [(0, .int .i64 m368), (1, .int .i64 m380), (2, .int .i64 m382)]) (cs := [.int .i64 m368, .int .i64 m380, .int .i64 m382]) rfl bl_135 (by intro act hact; simp only [List.map_toArray, List.map_cons, List.map_nil, (show Val _ _ _ from (.t (.s4 .z))) act hact, (show Val _ _ _ from (.t (.s .z))) act hact, (show Val _ _ _ from (.t .z)) act hact]) rfl) ?_
 refine FJ.e (goes_sch rfl rfl) rfl (by decide) rfl (e_buildSliceL (ps := [(0, .agg #[.int .i64 m368, .int .i64 m380, .int .i64 m382])]) (cs := [.int .i64 m368, .int .i64 m380, .int .i64 m382]) rfl u_41 (inz inf_135) (by decide) (by intro act hact; simp only [List.map_toArray, List.map_cons, List.map_nil, (show Val _ _ _ from (.t .z)) act hact]) rfl rfl (by decide) rfl rfl) ?_
 rintro _ _ ⟨g383, rfl, rfl⟩
 refine FJ.sk (.s4 (.s4 .z)) ?_
 refine FJ.turns (c := ownA kT_135 (⟨m368, m380, m382⟩ : DExt) [.int .i64 m368, .int .i64 m380, .int .i64 m382]) .n (fun w S h => kT_135_omk (⟨m368, m380, m382⟩ : DExt) h) ?_
 refine FJ.e (goes_sch rfl rfl) rfl (by decide) rfl (e_append1 rfl u_41 inf_135 rfl (.t (.s4 (.s4 (.s (.s (.s .z)))))) (.t .z) (.c (.s4 (.s (.s .z))) (.c (.s .z) (.c .z .n))) (by first | omega | (simp only [List.length_append, List.length_cons, List.length_nil, List.length_replicate]; omega)) (by first | omega | (simp only [List.length_append, List.length_cons, List.length_nil, List.length_replicate]; omega))) ?_
 rintro _ _ rfl
 refine FJ.know (WS.oform .z) ?_
 rintro ⟨Ao385, co385, rfl, hlo385, hmo385, hbo385⟩
 refine FJ.sk (.s4 (.s (.s (.s .z)))) ?_
 refine FJ.dq rfl rfl rfl (by decide) rfl (.s4 (.s (.s (.s .z)))) (q_fieldAddr rfl (.t (.s16 (.s4 (.s (.s (.s .z)))))) (fun _ => fa_43_1 _ _)) ?_
 refine FJ.es (goes_sch rfl rfl) rfl (es_store (off := 2) (cs := [.slice Ao385 (E.exts ++ [(⟨m368, m380, m382⟩ : DExt)]).length co385]) rfl sz_41 (.t .z) (.t (.s .z)) rfl (ones rfl) (.s4 (.s (.s (.s .z)))) (Nat.le_of_ble_eq_true rfl) (.c (.s (.s .z)) .n)) ?_
 refine FJ.sl rfl ?_
 refine FJ.schN ?_
 refine FJ.drawN (by kernel_rfl) ?_
 refine FJ.inBN (FJ.then_ (FJ.seq (FJ.region ?_)))
 refine FJ.ql rfl (q_loadA (cs := [.slice Agq0 E.disk.blocks.length cgq0, .slice Agq1 E.disk.cache.length cgq1, .slice Ao385 (E.exts ++ [(⟨m368, m380, m382⟩ : DExt)]).length co385]) rfl ag_43 sz_43 (.t (.s16 (.s4 (.s4 .z)))) (WS.rows0 .z (fun i u h => by exact h))) ?_
 refine FJ.es (goes_list rfl) rfl (es_store (off := 0) (cs := [.slice Agq0 E.disk.blocks.length cgq0, .slice Agq1 E.disk.cache.length cgq1, .slice Ao385 (E.exts ++ [(⟨m368, m380, m382⟩ : DExt)]).length co385]) rfl sz_43 (.t (.s16 (.s4 (.s4 (.s (.s .z)))))) (.t .z) rfl (ones rfl) (.s4 (.s4 .z)) (Nat.le_of_ble_eq_true rfl) (.c .z (.c (.s .z) (.c (.s (.s .z)) .n)))) ?_
 refine FJ.nil (FJ.then_ (FJ.ret ?_))
 refine FJ.doneS (resC (cs := [.slice Agq0 E.disk.blocks.length cgq0, .slice Agq1 E.disk.cache.length cgq1, .slice Ao385 (E.exts ++ [(⟨m368, m380, m382⟩ : DExt)]).length co385]) rfl (.s16 (.s4 (.s4 (.s (.s .z))))) ag_43 sz_43 (WS.rows0 (cs := [.slice Agq0 E.disk.blocks.length cgq0, .slice Agq1 E.disk.cache.length cgq1, .slice Ao385 (E.exts ++ [(⟨m368, m380, m382⟩ : DExt)]).length co385]) .z (fun _ _ h => h))) (.c (.s4 (.s (.s (.s .z)))) (.c (.s4 (.s (.s (.s .z)))) (.c (.s (.s .z)) (.c (.s (.s .z)) .n)))) ?_
 exact ⟨⟨⟨E.disk.blocks, E.disk.cache⟩, E.exts ++ [(⟨m368, m380, m382⟩ : DExt)]⟩, _, _, _, _, ⟨by first | omega | (dsimp only; omega) | (simp only [List.length_append, List.length_cons, List.length_nil, List.length_replicate]; omega), by first | omega | (dsimp only; omega) | (simp only [List.length_append, List.length_cons, List.length_nil, List.length_replicate]; omega), by first | omega | (dsimp only; omega) | (simp only [List.length_append, List.length_cons, List.length_nil, List.length_replicate]; omega), by omega, by omega⟩, rfl, rfl⟩
 refine FJ.e (goes_sch rfl rfl) rfl (by decide) rfl (e_buildSliceL (ps := [(0, .int .i64 1), (1, .int .i64 0), (2, .int .i64 10000)]) (cs := [.int .i64 1, .int .i64 0, .int .i64 10000]) rfl u_40 (inz inf_2) (by decide) (by intro act hact; simp only [List.map_toArray, List.map_cons, List.map_nil, (show Val _ _ _ from .c) act hact, (show Val _ _ _ from .c) act hact, (show Val _ _ _ from .c) act hact]) rfl rfl (by decide) rfl rfl) ?_
 rintro _ _ ⟨g386, rfl, rfl⟩
 refine FJ.sk (.s4 (.s (.s .z))) ?_
 refine FJ.schN ?_
 refine FJ.sch [(6, false), (7, false), (10, false), (11, true), (12, false), (13, false), (14, true), (15, false)] 0 #[true, true, true, true, true, true, true, true, true, true, true, true, true, true, true, true] (by rfl) (by kernel_rfl) ?_
 refine FJ.e (goes_sch rfl rfl) rfl (by decide) rfl (e_buildSliceL (ps := [(0, .int .i64 1), (1, .int .i64 0), (2, .int .i64 60)]) (cs := [.int .i64 1, .int .i64 0, .int .i64 60]) rfl u_40 (inz inf_2) (by decide) (by intro act hact; simp only [List.map_toArray, List.map_cons, List.map_nil, (show Val _ _ _ from .c) act hact, (show Val _ _ _ from .c) act hact, (show Val _ _ _ from .c) act hact]) rfl rfl (by decide) rfl rfl) ?_
 rintro _ _ ⟨g387, rfl, rfl⟩
 refine FJ.sk (.s4 (.s (.s (.s .z)))) ?_
 refine FJ.turns (c := ownA kSl_2 ([1, 0, 60] : (List Int)) [.slice (some ⟨g387, 0, none⟩) 3 3]) (.c .z .n) (fun w S h => lit_own (xs := ([1, 0, 60] : (List Int))) h rfl (by simp) (by omega) (by omega)) ?_
 refine FJ.call (goes_sch rfl rfl) rfl (by decide) rfl (c_call rfl Try.func120 rfl rfl (args2 (.t (.s4 (.s .z))) (.t .z))) (.c (.s (.s .z)) .n) (fun w1 S1 hs tr => c_120 (tr.ctx hcd) (tr.own .z) hs (by omega) (by simp)) ?_
 rintro _ _ ⟨m389, hm389, rfl, rfl⟩
 refine FJ.cat (.c .n) ?_
 simp only [List.mem_cons, List.not_mem_nil, or_false] at hm389
 refine FJ.sk (.s4 (.s (.s (.s .z)))) ?_
 refine FJ.turns (c := ownA kSl_2 ([1, 0, 10000] : (List Int)) [.slice (some ⟨g386, 0, none⟩) 3 3]) (.c (.s (.s .z)) .n) (fun w S h => lit_own (xs := ([1, 0, 10000] : (List Int))) h rfl (by simp) (by omega) (by omega)) ?_
 refine FJ.call (goes_sch rfl rfl) rfl (by decide) rfl (c_call rfl Try.func120 rfl rfl (args2 (.t (.s4 (.s .z))) (.t (.s (.s .z))))) (.c (.s .z) .n) (fun w1 S1 hs tr => c_120 (tr.ctx hcd) (tr.own .z) hs (by omega) (by simp)) ?_
 rintro _ _ ⟨m391, hm391, rfl, rfl⟩
 refine FJ.cat (.c .n) ?_
 simp only [List.mem_cons, List.not_mem_nil, or_false] at hm391
 refine FJ.sk (.s4 (.s (.s (.s .z)))) ?_
 refine FJ.dq rfl rfl rfl (by decide) rfl (.s4 (.s (.s (.s .z)))) (q_build (ps := [(0, .int .i64 m368), (1, .int .i64 m389), (2, .int .i64 m391)]) (cs := [.int .i64 m368, .int .i64 m389, .int .i64 m391]) rfl bl_135 (by intro act hact; simp only [List.map_toArray, List.map_cons, List.map_nil, (show Val _ _ _ from (.t (.s4 .z))) act hact, (show Val _ _ _ from (.t (.s .z))) act hact, (show Val _ _ _ from (.t .z)) act hact]) rfl) ?_
 refine FJ.e (goes_sch rfl rfl) rfl (by decide) rfl (e_buildSliceL (ps := [(0, .agg #[.int .i64 m368, .int .i64 m389, .int .i64 m391])]) (cs := [.int .i64 m368, .int .i64 m389, .int .i64 m391]) rfl u_41 (inz inf_135) (by decide) (by intro act hact; simp only [List.map_toArray, List.map_cons, List.map_nil, (show Val _ _ _ from (.t .z)) act hact]) rfl rfl (by decide) rfl rfl) ?_
 rintro _ _ ⟨g392, rfl, rfl⟩
 refine FJ.sk (.s4 (.s4 .z)) ?_
 refine FJ.turns (c := ownA kT_135 (⟨m368, m389, m391⟩ : DExt) [.int .i64 m368, .int .i64 m389, .int .i64 m391]) .n (fun w S h => kT_135_omk (⟨m368, m389, m391⟩ : DExt) h) ?_
 refine FJ.e (goes_sch rfl rfl) rfl (by decide) rfl (e_append1 rfl u_41 inf_135 rfl (.t (.s4 (.s4 (.s (.s (.s .z)))))) (.t .z) (.c (.s4 (.s (.s .z))) (.c (.s .z) (.c .z .n))) (by first | omega | (simp only [List.length_append, List.length_cons, List.length_nil, List.length_replicate]; omega)) (by first | omega | (simp only [List.length_append, List.length_cons, List.length_nil, List.length_replicate]; omega))) ?_
 rintro _ _ rfl
 refine FJ.know (WS.oform .z) ?_
 rintro ⟨Ao394, co394, rfl, hlo394, hmo394, hbo394⟩
 refine FJ.sk (.s4 (.s (.s (.s .z)))) ?_
 refine FJ.dq rfl rfl rfl (by decide) rfl (.s4 (.s (.s (.s .z)))) (q_fieldAddr rfl (.t (.s16 (.s4 (.s (.s (.s .z)))))) (fun _ => fa_43_1 _ _)) ?_
 refine FJ.es (goes_sch rfl rfl) rfl (es_store (off := 2) (cs := [.slice Ao394 (E.exts ++ [(⟨m368, m389, m391⟩ : DExt)]).length co394]) rfl sz_41 (.t .z) (.t (.s .z)) rfl (ones rfl) (.s4 (.s (.s (.s .z)))) (Nat.le_of_ble_eq_true rfl) (.c (.s (.s .z)) .n)) ?_
 refine FJ.sl rfl ?_
 refine FJ.schN ?_
 refine FJ.drawN (by kernel_rfl) ?_
 refine FJ.inBN (FJ.then_ (FJ.seq (FJ.region ?_)))
 refine FJ.ql rfl (q_loadA (cs := [.slice Agq0 E.disk.blocks.length cgq0, .slice Agq1 E.disk.cache.length cgq1, .slice Ao394 (E.exts ++ [(⟨m368, m389, m391⟩ : DExt)]).length co394]) rfl ag_43 sz_43 (.t (.s16 (.s4 (.s4 .z)))) (WS.rows0 .z (fun i u h => by exact h))) ?_
 refine FJ.es (goes_list rfl) rfl (es_store (off := 0) (cs := [.slice Agq0 E.disk.blocks.length cgq0, .slice Agq1 E.disk.cache.length cgq1, .slice Ao394 (E.exts ++ [(⟨m368, m389, m391⟩ : DExt)]).length co394]) rfl sz_43 (.t (.s16 (.s4 (.s4 (.s (.s .z)))))) (.t .z) rfl (ones rfl) (.s4 (.s4 .z)) (Nat.le_of_ble_eq_true rfl) (.c .z (.c (.s .z) (.c (.s (.s .z)) .n)))) ?_
 refine FJ.nil (FJ.then_ (FJ.ret ?_))
 refine FJ.doneS (resC (cs := [.slice Agq0 E.disk.blocks.length cgq0, .slice Agq1 E.disk.cache.length cgq1, .slice Ao394 (E.exts ++ [(⟨m368, m389, m391⟩ : DExt)]).length co394]) rfl (.s16 (.s4 (.s4 (.s (.s .z))))) ag_43 sz_43 (WS.rows0 (cs := [.slice Agq0 E.disk.blocks.length cgq0, .slice Agq1 E.disk.cache.length cgq1, .slice Ao394 (E.exts ++ [(⟨m368, m389, m391⟩ : DExt)]).length co394]) .z (fun _ _ h => h))) (.c (.s4 (.s (.s (.s .z)))) (.c (.s4 (.s (.s (.s .z)))) (.c (.s (.s .z)) (.c (.s (.s .z)) .n)))) ?_
 exact ⟨⟨⟨E.disk.blocks, E.disk.cache⟩, E.exts ++ [(⟨m368, m389, m391⟩ : DExt)]⟩, _, _, _, _, ⟨by first | omega | (dsimp only; omega) | (simp only [List.length_append, List.length_cons, List.length_nil, List.length_replicate]; omega), by first | omega | (dsimp only; omega) | (simp only [List.length_append, List.length_cons, List.length_nil, List.length_replicate]; omega), by first | omega | (dsimp only; omega) | (simp only [List.length_append, List.length_cons, List.length_nil, List.length_replicate]; omega), by omega, by omega⟩, rfl, rfl⟩
 refine FJ.e (goes_sch rfl rfl) rfl (by decide) rfl (e_buildSliceL (ps := [(0, .int .i64 1), (1, .int .i64 0), (2, .int .i64 60)]) (cs := [.int .i64 1, .int .i64 0, .int .i64 60]) rfl u_40 (inz inf_2) (by decide) (by intro act hact; simp only [List.map_toArray, List.map_cons, List.map_nil, (show Val _ _ _ from .c) act hact, (show Val _ _ _ from .c) act hact, (show Val _ _ _ from .c) act hact]) rfl rfl (by decide) rfl rfl) ?_
 rintro _ _ ⟨g395, rfl, rfl⟩
 refine FJ.sk (.s4 (.s (.s .z))) ?_
 refine FJ.schN ?_
 refine FJ.sch [] 9 #[true, true, true, true, false, true, true, false, true, false, false, false, false, false, false, false] (by rfl) (by kernel_rfl) ?_
 refine FJ.schN ?_
 refine FJ.fork2 (i := 4) (j := 9) (by kernel_rfl) ?_ ?_
 refine FJ.turns (c := ownA kSl_2 ([0, 3, (-1)] : (List Int)) [.slice (some ⟨g366, 0, none⟩) 3 3]) (.c (.s .z) .n) (fun w S h => lit_own (xs := ([0, 3, (-1)] : (List Int))) h rfl (by simp) (by omega) (by omega)) ?_
 refine FJ.call (goes_sch rfl rfl) rfl (by decide) rfl (c_call rfl Try.func120 rfl rfl (args2 (.t (.s4 .z)) (.t (.s .z)))) (.c (.s (.s .z)) .n) (fun w1 S1 hs tr => c_120 (tr.ctx hcd) (tr.own .z) hs (by omega) (by simp)) ?_
 rintro _ _ ⟨m397, hm397, rfl, rfl⟩
 refine FJ.cat (.c .n) ?_
 simp only [List.mem_cons, List.not_mem_nil, or_false] at hm397
 refine FJ.sk (.s4 (.s (.s .z))) ?_
 refine FJ.schN ?_
 refine FJ.sch [] 8 #[true, true, true, true, true, true, true, false, true, false, false, false, false, false, false, false] (by rfl) (by kernel_rfl) ?_
 refine FJ.schN ?_
 refine FJ.fork2 (i := 7) (j := 9) (by kernel_rfl) ?_ ?_
 refine FJ.turns (c := ownA kSl_2 ([1, 0, 60] : (List Int)) [.slice (some ⟨g395, 0, none⟩) 3 3]) (.c (.s (.s .z)) .n) (fun w S h => lit_own (xs := ([1, 0, 60] : (List Int))) h rfl (by simp) (by omega) (by omega)) ?_
 refine FJ.call (goes_sch rfl rfl) rfl (by decide) rfl (c_call rfl Try.func120 rfl rfl (args2 (.t (.s4 .z)) (.t (.s .z)))) (.c (.s .z) .n) (fun w1 S1 hs tr => c_120 (tr.ctx hcd) (tr.own .z) hs (by omega) (by simp)) ?_
 rintro _ _ ⟨m399, hm399, rfl, rfl⟩
 refine FJ.cat (.c .n) ?_
 simp only [List.mem_cons, List.not_mem_nil, or_false] at hm399
 refine FJ.sk (.s4 (.s (.s .z))) ?_
 refine FJ.schN ?_
 refine FJ.sch [(9, false), (10, false), (11, true), (12, false), (13, false), (14, true), (15, false)] 0 #[true, true, true, true, true, true, true, true, true, true, true, true, true, true, true, true] (by rfl) (by kernel_rfl) ?_
 refine FJ.e (goes_sch rfl rfl) rfl (by decide) rfl (e_buildSliceL (ps := [(0, .int .i64 1), (1, .int .i64 0), (2, .int .i64 10000)]) (cs := [.int .i64 1, .int .i64 0, .int .i64 10000]) rfl u_40 (inz inf_2) (by decide) (by intro act hact; simp only [List.map_toArray, List.map_cons, List.map_nil, (show Val _ _ _ from .c) act hact, (show Val _ _ _ from .c) act hact, (show Val _ _ _ from .c) act hact]) rfl rfl (by decide) rfl rfl) ?_
 rintro _ _ ⟨g400, rfl, rfl⟩
 refine FJ.sk (.s4 (.s (.s (.s .z)))) ?_
 refine FJ.turns (c := ownA kSl_2 ([1, 0, 10000] : (List Int)) [.slice (some ⟨g400, 0, none⟩) 3 3]) (.c .z .n) (fun w S h => lit_own (xs := ([1, 0, 10000] : (List Int))) h rfl (by simp) (by omega) (by omega)) ?_
 refine FJ.call (goes_sch rfl rfl) rfl (by decide) rfl (c_call rfl Try.func120 rfl rfl (args2 (.t (.s4 (.s .z))) (.t .z))) (.c (.s .z) .n) (fun w1 S1 hs tr => c_120 (tr.ctx hcd) (tr.own .z) hs (by omega) (by simp)) ?_
 rintro _ _ ⟨m402, hm402, rfl, rfl⟩
 refine FJ.cat (.c .n) ?_
 simp only [List.mem_cons, List.not_mem_nil, or_false] at hm402
 refine FJ.sk (.s4 (.s (.s (.s .z)))) ?_
 refine FJ.dq rfl rfl rfl (by decide) rfl (.s4 (.s (.s (.s .z)))) (q_build (ps := [(0, .int .i64 m397), (1, .int .i64 m399), (2, .int .i64 m402)]) (cs := [.int .i64 m397, .int .i64 m399, .int .i64 m402]) rfl bl_135 (by intro act hact; simp only [List.map_toArray, List.map_cons, List.map_nil, (show Val _ _ _ from (.t (.s (.s (.s .z))))) act hact, (show Val _ _ _ from (.t (.s (.s .z)))) act hact, (show Val _ _ _ from (.t .z)) act hact]) rfl) ?_
 refine FJ.e (goes_sch rfl rfl) rfl (by decide) rfl (e_buildSliceL (ps := [(0, .agg #[.int .i64 m397, .int .i64 m399, .int .i64 m402])]) (cs := [.int .i64 m397, .int .i64 m399, .int .i64 m402]) rfl u_41 (inz inf_135) (by decide) (by intro act hact; simp only [List.map_toArray, List.map_cons, List.map_nil, (show Val _ _ _ from (.t .z)) act hact]) rfl rfl (by decide) rfl rfl) ?_
 rintro _ _ ⟨g403, rfl, rfl⟩
 refine FJ.sk (.s4 (.s4 .z)) ?_
 refine FJ.turns (c := ownA kT_135 (⟨m397, m399, m402⟩ : DExt) [.int .i64 m397, .int .i64 m399, .int .i64 m402]) .n (fun w S h => kT_135_omk (⟨m397, m399, m402⟩ : DExt) h) ?_
 refine FJ.e (goes_sch rfl rfl) rfl (by decide) rfl (e_append1 rfl u_41 inf_135 rfl (.t (.s4 (.s4 (.s (.s (.s .z)))))) (.t .z) (.c (.s4 (.s (.s .z))) (.c (.s .z) (.c .z .n))) (by first | omega | (simp only [List.length_append, List.length_cons, List.length_nil, List.length_replicate]; omega)) (by first | omega | (simp only [List.length_append, List.length_cons, List.length_nil, List.length_replicate]; omega))) ?_
 rintro _ _ rfl
 refine FJ.know (WS.oform .z) ?_
 rintro ⟨Ao405, co405, rfl, hlo405, hmo405, hbo405⟩
 refine FJ.sk (.s4 (.s (.s (.s .z)))) ?_
 refine FJ.dq rfl rfl rfl (by decide) rfl (.s4 (.s (.s (.s .z)))) (q_fieldAddr rfl (.t (.s16 (.s4 (.s (.s (.s .z)))))) (fun _ => fa_43_1 _ _)) ?_
 refine FJ.es (goes_sch rfl rfl) rfl (es_store (off := 2) (cs := [.slice Ao405 (E.exts ++ [(⟨m397, m399, m402⟩ : DExt)]).length co405]) rfl sz_41 (.t .z) (.t (.s .z)) rfl (ones rfl) (.s4 (.s (.s (.s .z)))) (Nat.le_of_ble_eq_true rfl) (.c (.s (.s .z)) .n)) ?_
 refine FJ.sl rfl ?_
 refine FJ.schN ?_
 refine FJ.drawN (by kernel_rfl) ?_
 refine FJ.inBN (FJ.then_ (FJ.seq (FJ.region ?_)))
 refine FJ.ql rfl (q_loadA (cs := [.slice Agq0 E.disk.blocks.length cgq0, .slice Agq1 E.disk.cache.length cgq1, .slice Ao405 (E.exts ++ [(⟨m397, m399, m402⟩ : DExt)]).length co405]) rfl ag_43 sz_43 (.t (.s16 (.s4 (.s4 .z)))) (WS.rows0 .z (fun i u h => by exact h))) ?_
 refine FJ.es (goes_list rfl) rfl (es_store (off := 0) (cs := [.slice Agq0 E.disk.blocks.length cgq0, .slice Agq1 E.disk.cache.length cgq1, .slice Ao405 (E.exts ++ [(⟨m397, m399, m402⟩ : DExt)]).length co405]) rfl sz_43 (.t (.s16 (.s4 (.s4 (.s (.s .z)))))) (.t .z) rfl (ones rfl) (.s4 (.s4 .z)) (Nat.le_of_ble_eq_true rfl) (.c .z (.c (.s .z) (.c (.s (.s .z)) .n)))) ?_
 refine FJ.nil (FJ.then_ (FJ.ret ?_))
 refine FJ.doneS (resC (cs := [.slice Agq0 E.disk.blocks.length cgq0, .slice Agq1 E.disk.cache.length cgq1, .slice Ao405 (E.exts ++ [(⟨m397, m399, m402⟩ : DExt)]).length co405]) rfl (.s16 (.s4 (.s4 (.s (.s .z))))) ag_43 sz_43 (WS.rows0 (cs := [.slice Agq0 E.disk.blocks.length cgq0, .slice Agq1 E.disk.cache.length cgq1, .slice Ao405 (E.exts ++ [(⟨m397, m399, m402⟩ : DExt)]).length co405]) .z (fun _ _ h => h))) (.c (.s4 (.s (.s (.s .z)))) (.c (.s4 (.s (.s (.s .z)))) (.c (.s (.s .z)) (.c (.s (.s .z)) .n)))) ?_
 exact ⟨⟨⟨E.disk.blocks, E.disk.cache⟩, E.exts ++ [(⟨m397, m399, m402⟩ : DExt)]⟩, _, _, _, _, ⟨by first | omega | (dsimp only; omega) | (simp only [List.length_append, List.length_cons, List.length_nil, List.length_replicate]; omega), by first | omega | (dsimp only; omega) | (simp only [List.length_append, List.length_cons, List.length_nil, List.length_replicate]; omega), by first | omega | (dsimp only; omega) | (simp only [List.length_append, List.length_cons, List.length_nil, List.length_replicate]; omega), by omega, by omega⟩, rfl, rfl⟩
 refine FJ.e (goes_sch rfl rfl) rfl (by decide) rfl (e_buildSliceL (ps := [(0, .int .i64 1), (1, .int .i64 0), (2, .int .i64 10000)]) (cs := [.int .i64 1, .int .i64 0, .int .i64 10000]) rfl u_40 (inz inf_2) (by decide) (by intro act hact; simp only [List.map_toArray, List.map_cons, List.map_nil, (show Val _ _ _ from .c) act hact, (show Val _ _ _ from .c) act hact, (show Val _ _ _ from .c) act hact]) rfl rfl (by decide) rfl rfl) ?_
 rintro _ _ ⟨g406, rfl, rfl⟩
 refine FJ.sk (.s4 (.s (.s (.s .z)))) ?_
 refine FJ.schN ?_
 refine FJ.sch [(7, false), (10, false), (11, true), (12, false), (13, false), (14, true), (15, false)] 0 #[true, true, true, true, true, true, true, true, true, true, true, true, true, true, true, true] (by rfl) (by kernel_rfl) ?_
 refine FJ.turns (c := ownA kSl_2 ([1, 0, 60] : (List Int)) [.slice (some ⟨g395, 0, none⟩) 3 3]) (.c (.s (.s (.s .z))) .n) (fun w S h => lit_own (xs := ([1, 0, 60] : (List Int))) h rfl (by simp) (by omega) (by omega)) ?_
 refine FJ.call (goes_sch rfl rfl) rfl (by decide) rfl (c_call rfl Try.func120 rfl rfl (args2 (.t (.s4 (.s .z))) (.t (.s (.s .z))))) (.c (.s (.s .z)) .n) (fun w1 S1 hs tr => c_120 (tr.ctx hcd) (tr.own .z) hs (by omega) (by simp)) ?_
 rintro _ _ ⟨m408, hm408, rfl, rfl⟩
 refine FJ.cat (.c .n) ?_
 simp only [List.mem_cons, List.not_mem_nil, or_false] at hm408
 refine FJ.sk (.s4 (.s (.s (.s .z)))) ?_
 refine FJ.turns (c := ownA kSl_2 ([1, 0, 10000] : (List Int)) [.slice (some ⟨g406, 0, none⟩) 3 3]) (.c (.s (.s .z)) .n) (fun w S h => lit_own (xs := ([1, 0, 10000] : (List Int))) h rfl (by simp) (by omega) (by omega)) ?_
 refine FJ.call (goes_sch rfl rfl) rfl (by decide) rfl (c_call rfl Try.func120 rfl rfl (args2 (.t (.s4 (.s .z))) (.t (.s .z)))) (.c (.s .z) .n) (fun w1 S1 hs tr => c_120 (tr.ctx hcd) (tr.own .z) hs (by omega) (by simp)) ?_
 rintro _ _ ⟨m410, hm410, rfl, rfl⟩
 refine FJ.cat (.c .n) ?_
 simp only [List.mem_cons, List.not_mem_nil, or_false] at hm410
 refine FJ.sk (.s4 (.s (.s (.s .z)))) ?_
 refine FJ.dq rfl rfl rfl (by decide) rfl (.s4 (.s (.s (.s .z)))) (q_build (ps := [(0, .int .i64 m397), (1, .int .i64 m408), (2, .int .i64 m410)]) (cs := [.int .i64 m397, .int .i64 m408, .int .i64 m410]) rfl bl_135 (by intro act hact; simp only [List.map_toArray, List.map_cons, List.map_nil, (show Val _ _ _ from (.t (.s (.s (.s .z))))) act hact, (show Val _ _ _ from (.t (.s .z))) act hact, (show Val _ _ _ from (.t .z)) act hact]) rfl) ?_
 refine FJ.e (goes_sch rfl rfl) rfl (by decide) rfl (e_buildSliceL (ps := [(0, .agg #[.int .i64 m397, .int .i64 m408, .int .i64 m410])]) (cs := [.int .i64 m397, .int .i64 m408, .int .i64 m410]) rfl u_41 (inz inf_135) (by decide) (by intro act hact; simp only [List.map_toArray, List.map_cons, List.map_nil, (show Val _ _ _ from (.t .z)) act hact]) rfl rfl (by decide) rfl rfl) ?_
 rintro _ _ ⟨g411, rfl, rfl⟩
 refine FJ.sk (.s4 (.s4 .z)) ?_
 refine FJ.turns (c := ownA kT_135 (⟨m397, m408, m410⟩ : DExt) [.int .i64 m397, .int .i64 m408, .int .i64 m410]) .n (fun w S h => kT_135_omk (⟨m397, m408, m410⟩ : DExt) h) ?_
 refine FJ.e (goes_sch rfl rfl) rfl (by decide) rfl (e_append1 rfl u_41 inf_135 rfl (.t (.s4 (.s4 (.s (.s (.s .z)))))) (.t .z) (.c (.s4 (.s (.s .z))) (.c (.s .z) (.c .z .n))) (by first | omega | (simp only [List.length_append, List.length_cons, List.length_nil, List.length_replicate]; omega)) (by first | omega | (simp only [List.length_append, List.length_cons, List.length_nil, List.length_replicate]; omega))) ?_
 rintro _ _ rfl
 refine FJ.know (WS.oform .z) ?_
 rintro ⟨Ao413, co413, rfl, hlo413, hmo413, hbo413⟩
 refine FJ.sk (.s4 (.s (.s (.s .z)))) ?_
 refine FJ.dq rfl rfl rfl (by decide) rfl (.s4 (.s (.s (.s .z)))) (q_fieldAddr rfl (.t (.s16 (.s4 (.s (.s (.s .z)))))) (fun _ => fa_43_1 _ _)) ?_
 refine FJ.es (goes_sch rfl rfl) rfl (es_store (off := 2) (cs := [.slice Ao413 (E.exts ++ [(⟨m397, m408, m410⟩ : DExt)]).length co413]) rfl sz_41 (.t .z) (.t (.s .z)) rfl (ones rfl) (.s4 (.s (.s (.s .z)))) (Nat.le_of_ble_eq_true rfl) (.c (.s (.s .z)) .n)) ?_
 refine FJ.sl rfl ?_
 refine FJ.schN ?_
 refine FJ.drawN (by kernel_rfl) ?_
 refine FJ.inBN (FJ.then_ (FJ.seq (FJ.region ?_)))
 refine FJ.ql rfl (q_loadA (cs := [.slice Agq0 E.disk.blocks.length cgq0, .slice Agq1 E.disk.cache.length cgq1, .slice Ao413 (E.exts ++ [(⟨m397, m408, m410⟩ : DExt)]).length co413]) rfl ag_43 sz_43 (.t (.s16 (.s4 (.s4 .z)))) (WS.rows0 .z (fun i u h => by exact h))) ?_
 refine FJ.es (goes_list rfl) rfl (es_store (off := 0) (cs := [.slice Agq0 E.disk.blocks.length cgq0, .slice Agq1 E.disk.cache.length cgq1, .slice Ao413 (E.exts ++ [(⟨m397, m408, m410⟩ : DExt)]).length co413]) rfl sz_43 (.t (.s16 (.s4 (.s4 (.s (.s .z)))))) (.t .z) rfl (ones rfl) (.s4 (.s4 .z)) (Nat.le_of_ble_eq_true rfl) (.c .z (.c (.s .z) (.c (.s (.s .z)) .n)))) ?_
 refine FJ.nil (FJ.then_ (FJ.ret ?_))
 refine FJ.doneS (resC (cs := [.slice Agq0 E.disk.blocks.length cgq0, .slice Agq1 E.disk.cache.length cgq1, .slice Ao413 (E.exts ++ [(⟨m397, m408, m410⟩ : DExt)]).length co413]) rfl (.s16 (.s4 (.s4 (.s (.s .z))))) ag_43 sz_43 (WS.rows0 (cs := [.slice Agq0 E.disk.blocks.length cgq0, .slice Agq1 E.disk.cache.length cgq1, .slice Ao413 (E.exts ++ [(⟨m397, m408, m410⟩ : DExt)]).length co413]) .z (fun _ _ h => h))) (.c (.s4 (.s (.s (.s .z)))) (.c (.s4 (.s (.s (.s .z)))) (.c (.s (.s .z)) (.c (.s (.s .z)) .n)))) ?_
 exact ⟨⟨⟨E.disk.blocks, E.disk.cache⟩, E.exts ++ [(⟨m397, m408, m410⟩ : DExt)]⟩, _, _, _, _, ⟨by first | omega | (dsimp only; omega) | (simp only [List.length_append, List.length_cons, List.length_nil, List.length_replicate]; omega), by first | omega | (dsimp only; omega) | (simp only [List.length_append, List.length_cons, List.length_nil, List.length_replicate]; omega), by first | omega | (dsimp only; omega) | (simp only [List.length_append, List.length_cons, List.length_nil, List.length_replicate]; omega), by omega, by omega⟩, rfl, rfl⟩
 refine FJ.e (goes_sch rfl rfl) rfl (by decide) rfl (e_buildSliceL (ps := [(0, .int .i64 1), (1, .int .i64 0), (2, .int .i64 10000)]) (cs := [.int .i64 1, .int .i64 0, .int .i64 10000]) rfl u_40 (inz inf_2) (by decide) (by intro act hact; simp only [List.map_toArray, List.map_cons, List.map_nil, (show Val _ _ _ from .c) act hact, (show Val _ _ _ from .c) act hact, (show Val _ _ _ from .c) act hact]) rfl rfl (by decide) rfl rfl) ?_
 rintro _ _ ⟨g414, rfl, rfl⟩
 refine FJ.sk (.s4 (.s (.s (.s .z)))) ?_
 refine FJ.schN ?_
 refine FJ.sch [(4, false), (7, false), (10, false), (11, true), (12, false), (13, false), (14, true), (15, false)] 0 #[true, true, true, true, true, true, true, true, true, true, true, true, true, true, true, true] (by rfl) (by kernel_rfl) ?_
 refine FJ.turns (c := ownA kSl_2 ([0, 3, (-1)] : (List Int)) [.slice (some ⟨g366, 0, none⟩) 3 3]) (.c (.s (.s .z)) .n) (fun w S h => lit_own (xs := ([0, 3, (-1)] : (List Int))) h rfl (by simp) (by omega) (by omega)) ?_
 refine FJ.call (goes_sch rfl rfl) rfl (by decide) rfl (c_call rfl Try.func120 rfl rfl (args2 (.t (.s4 (.s .z))) (.t (.s (.s .z))))) (.c (.s (.s (.s .z))) .n) (fun w1 S1 hs tr => c_120 (tr.ctx hcd) (tr.own .z) hs (by omega) (by simp)) ?_
 rintro _ _ ⟨m416, hm416, rfl, rfl⟩
 refine FJ.cat (.c .n) ?_
 simp only [List.mem_cons, List.not_mem_nil, or_false] at hm416
 refine FJ.sk (.s4 (.s (.s (.s .z)))) ?_
 refine FJ.turns (c := ownA kSl_2 ([1, 0, 60] : (List Int)) [.slice (some ⟨g395, 0, none⟩) 3 3]) (.c (.s (.s (.s .z))) .n) (fun w S h => lit_own (xs := ([1, 0, 60] : (List Int))) h rfl (by simp) (by omega) (by omega)) ?_
 refine FJ.call (goes_sch rfl rfl) rfl (by decide) rfl (c_call rfl Try.func120 rfl rfl (args2 (.t (.s4 (.s .z))) (.t (.s (.s .z))))) (.c (.s .z) .n) (fun w1 S1 hs tr => c_120 (tr.ctx hcd) (tr.own .z) hs (by omega) (by simp)) ?_
 rintro _ _ ⟨m418, hm418, rfl, rfl⟩
 refine FJ.cat (.c .n) ?_
 simp only [List.mem_cons, List.not_mem_nil, or_false] at hm418
 refine FJ.sk (.s4 (.s (.s (.s .z)))) ?_
 refine FJ.turns (c := ownA kSl_2 ([1, 0, 10000] : (List Int)) [.slice (some ⟨g414, 0, none⟩) 3 3]) (.c (.s (.s (.s .z))) .n) (fun w S h => lit_own (xs := ([1, 0, 10000] : (List Int))) h rfl (by simp) (by omega) (by omega)) ?_
 refine FJ.call (goes_sch rfl rfl) rfl (by decide) rfl (c_call rfl Try.func120 rfl rfl (args2 (.t (.s4 (.s .z))) (.t (.s (.s .z))))) (.c (.s .z) .n) (fun w1 S1 hs tr => c_120 (tr.ctx hcd) (tr.own .z) hs (by omega) (by simp)) ?_
 rintro _ _ ⟨m420, hm420, rfl, rfl⟩
 refine FJ.cat (.c .n) ?_
 simp only [List.mem_cons, List.not_mem_nil, or_false] at hm420
 refine FJ.sk (.s4 (.s (.s (.s .z)))) ?_
 refine FJ.dq rfl rfl rfl (by decide) rfl (.s4 (.s (.s (.s .z)))) (q_build (ps := [(0, .int .i64 m416), (1, .int .i64 m418), (2, .int .i64 m420)]) (cs := [.int .i64 m416, .int .i64 m418, .int .i64 m420]) rfl bl_135 (by intro act hact; simp only [List.map_toArray, List.map_cons, List.map_nil, (show Val _ _ _ from (.t (.s (.s .z)))) act hact, (show Val _ _ _ from (.t (.s .z))) act hact, (show Val _ _ _ from (.t .z)) act hact]) rfl) ?_
 refine FJ.e (goes_sch rfl rfl) rfl (by decide) rfl (e_buildSliceL (ps := [(0, .agg #[.int .i64 m416, .int .i64 m418, .int .i64 m420])]) (cs := [.int .i64 m416, .int .i64 m418, .int .i64 m420]) rfl u_41 (inz inf_135) (by decide) (by intro act hact; simp only [List.map_toArray, List.map_cons, List.map_nil, (show Val _ _ _ from (.t .z)) act hact]) rfl rfl (by decide) rfl rfl) ?_
 rintro _ _ ⟨g421, rfl, rfl⟩
 refine FJ.sk (.s4 (.s4 .z)) ?_
 refine FJ.turns (c := ownA kT_135 (⟨m416, m418, m420⟩ : DExt) [.int .i64 m416, .int .i64 m418, .int .i64 m420]) .n (fun w S h => kT_135_omk (⟨m416, m418, m420⟩ : DExt) h) ?_
 refine FJ.e (goes_sch rfl rfl) rfl (by decide) rfl (e_append1 rfl u_41 inf_135 rfl (.t (.s4 (.s4 (.s (.s (.s .z)))))) (.t .z) (.c (.s4 (.s (.s .z))) (.c (.s .z) (.c .z .n))) (by first | omega | (simp only [List.length_append, List.length_cons, List.length_nil, List.length_replicate]; omega)) (by first | omega | (simp only [List.length_append, List.length_cons, List.length_nil, List.length_replicate]; omega))) ?_
 rintro _ _ rfl
 refine FJ.know (WS.oform .z) ?_
 rintro ⟨Ao423, co423, rfl, hlo423, hmo423, hbo423⟩
 refine FJ.sk (.s4 (.s (.s (.s .z)))) ?_
 refine FJ.dq rfl rfl rfl (by decide) rfl (.s4 (.s (.s (.s .z)))) (q_fieldAddr rfl (.t (.s16 (.s4 (.s (.s (.s .z)))))) (fun _ => fa_43_1 _ _)) ?_
 refine FJ.es (goes_sch rfl rfl) rfl (es_store (off := 2) (cs := [.slice Ao423 (E.exts ++ [(⟨m416, m418, m420⟩ : DExt)]).length co423]) rfl sz_41 (.t .z) (.t (.s .z)) rfl (ones rfl) (.s4 (.s (.s (.s .z)))) (Nat.le_of_ble_eq_true rfl) (.c (.s (.s .z)) .n)) ?_
 refine FJ.sl rfl ?_
 refine FJ.schN ?_
 refine FJ.drawN (by kernel_rfl) ?_
 refine FJ.inBN (FJ.then_ (FJ.seq (FJ.region ?_)))
 refine FJ.ql rfl (q_loadA (cs := [.slice Agq0 E.disk.blocks.length cgq0, .slice Agq1 E.disk.cache.length cgq1, .slice Ao423 (E.exts ++ [(⟨m416, m418, m420⟩ : DExt)]).length co423]) rfl ag_43 sz_43 (.t (.s16 (.s4 (.s4 .z)))) (WS.rows0 .z (fun i u h => by exact h))) ?_
 refine FJ.es (goes_list rfl) rfl (es_store (off := 0) (cs := [.slice Agq0 E.disk.blocks.length cgq0, .slice Agq1 E.disk.cache.length cgq1, .slice Ao423 (E.exts ++ [(⟨m416, m418, m420⟩ : DExt)]).length co423]) rfl sz_43 (.t (.s16 (.s4 (.s4 (.s (.s .z)))))) (.t .z) rfl (ones rfl) (.s4 (.s4 .z)) (Nat.le_of_ble_eq_true rfl) (.c .z (.c (.s .z) (.c (.s (.s .z)) .n)))) ?_
 refine FJ.nil (FJ.then_ (FJ.ret ?_))
 refine FJ.doneS (resC (cs := [.slice Agq0 E.disk.blocks.length cgq0, .slice Agq1 E.disk.cache.length cgq1, .slice Ao423 (E.exts ++ [(⟨m416, m418, m420⟩ : DExt)]).length co423]) rfl (.s16 (.s4 (.s4 (.s (.s .z))))) ag_43 sz_43 (WS.rows0 (cs := [.slice Agq0 E.disk.blocks.length cgq0, .slice Agq1 E.disk.cache.length cgq1, .slice Ao423 (E.exts ++ [(⟨m416, m418, m420⟩ : DExt)]).length co423]) .z (fun _ _ h => h))) (.c (.s4 (.s (.s (.s .z)))) (.c (.s4 (.s (.s (.s .z)))) (.c (.s (.s .z)) (.c (.s (.s .z)) .n)))) ?_
 exact ⟨⟨⟨E.disk.blocks, E.disk.cache⟩, E.exts ++ [(⟨m416, m418, m420⟩ : DExt)]⟩, _, _, _, _, ⟨by first | omega | (dsimp only; omega) | (simp only [List.length_append, List.length_cons, List.length_nil, List.length_replicate]; omega), by first | omega | (dsimp only; omega) | (simp only [List.length_append, List.length_cons, List.length_nil, List.length_replicate]; omega), by first | omega | (dsimp only; omega) | (simp only [List.length_append, List.length_cons, List.length_nil, List.length_replicate]; omega), by omega, by omega⟩, rfl, rfl⟩
 refine FJ.e (goes_sch rfl rfl) rfl (by decide) rfl (e_buildSliceL (ps := [(0, .int .i64 1), (1, .int .i64 0), (2, .int .i64 10000)]) (cs := [.int .i64 1, .int .i64 0, .int .i64 10000]) rfl u_40 (inz inf_2) (by decide) (by intro act hact; simp only [List.map_toArray, List.map_cons, List.map_nil, (show Val _ _ _ from .c) act hact, (show Val _ _ _ from .c) act hact, (show Val _ _ _ from .c) act hact]) rfl rfl (by decide) rfl rfl) ?_
 rintro _ _ ⟨g424, rfl, rfl⟩
 refine FJ.sk (.s4 (.s (.s .z))) ?_
 refine FJ.schN ?_
 refine FJ.sch [] 9 #[true, true, true, true, false, true, false, false, true, true, false, false, false, false, false, false] (by rfl) (by kernel_rfl) ?_
 refine FJ.schN ?_
 refine FJ.fork2 (i := 4) (j := 6) (by kernel_rfl) ?_ ?_
 refine FJ.turns (c := ownA kSl_2 ([0, 3, (-1)] : (List Int)) [.slice (some ⟨g366, 0, none⟩) 3 3]) (.c (.s .z) .n) (fun w S h => lit_own (xs := ([0, 3, (-1)] : (List Int))) h rfl (by simp) (by omega) (by omega)) ?_
 refine FJ.call (goes_sch rfl rfl) rfl (by decide) rfl (c_call rfl Try.func120 rfl rfl (args2 (.t (.s4 .z)) (.t (.s .z)))) (.c (.s (.s .z)) .n) (fun w1 S1 hs tr => c_120 (tr.ctx hcd) (tr.own .z) hs (by omega) (by simp)) ?_
 rintro _ _ ⟨m426, hm426, rfl, rfl⟩
 refine FJ.cat (.c .n) ?_
 simp only [List.mem_cons, List.not_mem_nil, or_false] at hm426
 refine FJ.sk (.s4 (.s (.s .z))) ?_
 refine FJ.schN ?_
 refine FJ.sch [(6, false), (7, false), (10, false), (11, true), (12, false), (13, false), (14, true), (15, false)] 0 #[true, true, true, true, true, true, true, true, true, true, true, true, true, true, true, true] (by rfl) (by kernel_rfl) ?_
 refine FJ.e (goes_sch rfl rfl) rfl (by decide) rfl (e_buildSliceL (ps := [(0, .int .i64 1), (1, .int .i64 0), (2, .int .i64 60)]) (cs := [.int .i64 1, .int .i64 0, .int .i64 60]) rfl u_40 (inz inf_2) (by decide) (by intro act hact; simp only [List.map_toArray, List.map_cons, List.map_nil, (show Val _ _ _ from .c) act hact, (show Val _ _ _ from .c) act hact, (show Val _ _ _ from .c) act hact]) rfl rfl (by decide) rfl rfl) ?_
 rintro _ _ ⟨g427, rfl, rfl⟩
 refine FJ.sk (.s4 (.s (.s (.s .z)))) ?_
 refine FJ.turns (c := ownA kSl_2 ([1, 0, 60] : (List Int)) [.slice (some ⟨g427, 0, none⟩) 3 3]) (.c .z .n) (fun w S h => lit_own (xs := ([1, 0, 60] : (List Int))) h rfl (by simp) (by omega) (by omega)) ?_
 refine FJ.call (goes_sch rfl rfl) rfl (by decide) rfl (c_call rfl Try.func120 rfl rfl (args2 (.t (.s4 (.s .z))) (.t .z))) (.c (.s .z) .n) (fun w1 S1 hs tr => c_120 (tr.ctx hcd) (tr.own .z) hs (by omega) (by simp)) ?_
 rintro _ _ ⟨m429, hm429, rfl, rfl⟩
 refine FJ.cat (.c .n) ?_
 simp only [List.mem_cons, List.not_mem_nil, or_false] at hm429
 refine FJ.sk (.s4 (.s (.s (.s .z)))) ?_
 refine FJ.turns (c := ownA kSl_2 ([1, 0, 10000] : (List Int)) [.slice (some ⟨g424, 0, none⟩) 3 3]) (.c (.s (.s (.s .z))) .n) (fun w S h => lit_own (xs := ([1, 0, 10000] : (List Int))) h rfl (by simp) (by omega) (by omega)) ?_
 refine FJ.call (goes_sch rfl rfl) rfl (by decide) rfl (c_call rfl Try.func120 rfl rfl (args2 (.t (.s4 (.s .z))) (.t (.s (.s (.s .z)))))) (.c (.s .z) .n) (fun w1 S1 hs tr => c_120 (tr.ctx hcd) (tr.own .z) hs (by omega) (by simp)) ?_
 rintro _ _ ⟨m431, hm431, rfl, rfl⟩
 refine FJ.cat (.c .n) ?_
 simp only [List.mem_cons, List.not_mem_nil, or_false] at hm431
 refine FJ.sk (.s4 (.s (.s (.s .z)))) ?_
 refine FJ.dq rfl rfl rfl (by decide) rfl (.s4 (.s (.s (.s .z)))) (q_build (ps := [(0, .int .i64 m426), (1, .int .i64 m429), (2, .int .i64 m431)]) (cs := [.int .i64 m426, .int .i64 m429, .int .i64 m431]) rfl bl_135 (by intro act hact; simp only [List.map_toArray, List.map_cons, List.map_nil, (show Val _ _ _ from (.t (.s (.s (.s .z))))) act hact, (show Val _ _ _ from (.t (.s .z))) act hact, (show Val _ _ _ from (.t .z)) act hact]) rfl) ?_
 refine FJ.e (goes_sch rfl rfl) rfl (by decide) rfl (e_buildSliceL (ps := [(0, .agg #[.int .i64 m426, .int .i64 m429, .int .i64 m431])]) (cs := [.int .i64 m426, .int .i64 m429, .int .i64 m431]) rfl u_41 (inz inf_135) (by decide) (by intro act hact; simp only [List.map_toArray, List.map_cons, List.map_nil, (show Val _ _ _ from (.t .z)) act hact]) rfl rfl (by decide) rfl rfl) ?_
 rintro _ _ ⟨g432, rfl, rfl⟩
 refine FJ.sk (.s4 (.s4 .z)) ?_
 refine FJ.turns (c := ownA kT_135 (⟨m426, m429, m431⟩ : DExt) [.int .i64 m426, .int .i64 m429, .int .i64 m431]) .n (fun w S h => kT_135_omk (⟨m426, m429, m431⟩ : DExt) h) ?_
 refine FJ.e (goes_sch rfl rfl) rfl (by decide) rfl (e_append1 rfl u_41 inf_135 rfl (.t (.s4 (.s4 (.s (.s (.s .z)))))) (.t .z) (.c (.s4 (.s (.s .z))) (.c (.s .z) (.c .z .n))) (by first | omega | (simp only [List.length_append, List.length_cons, List.length_nil, List.length_replicate]; omega)) (by first | omega | (simp only [List.length_append, List.length_cons, List.length_nil, List.length_replicate]; omega))) ?_
 rintro _ _ rfl
 refine FJ.know (WS.oform .z) ?_
 rintro ⟨Ao434, co434, rfl, hlo434, hmo434, hbo434⟩
 refine FJ.sk (.s4 (.s (.s (.s .z)))) ?_
 refine FJ.dq rfl rfl rfl (by decide) rfl (.s4 (.s (.s (.s .z)))) (q_fieldAddr rfl (.t (.s16 (.s4 (.s (.s (.s .z)))))) (fun _ => fa_43_1 _ _)) ?_
 refine FJ.es (goes_sch rfl rfl) rfl (es_store (off := 2) (cs := [.slice Ao434 (E.exts ++ [(⟨m426, m429, m431⟩ : DExt)]).length co434]) rfl sz_41 (.t .z) (.t (.s .z)) rfl (ones rfl) (.s4 (.s (.s (.s .z)))) (Nat.le_of_ble_eq_true rfl) (.c (.s (.s .z)) .n)) ?_
 refine FJ.sl rfl ?_
 refine FJ.schN ?_
 refine FJ.drawN (by kernel_rfl) ?_
 refine FJ.inBN (FJ.then_ (FJ.seq (FJ.region ?_)))
 refine FJ.ql rfl (q_loadA (cs := [.slice Agq0 E.disk.blocks.length cgq0, .slice Agq1 E.disk.cache.length cgq1, .slice Ao434 (E.exts ++ [(⟨m426, m429, m431⟩ : DExt)]).length co434]) rfl ag_43 sz_43 (.t (.s16 (.s4 (.s4 .z)))) (WS.rows0 .z (fun i u h => by exact h))) ?_
 refine FJ.es (goes_list rfl) rfl (es_store (off := 0) (cs := [.slice Agq0 E.disk.blocks.length cgq0, .slice Agq1 E.disk.cache.length cgq1, .slice Ao434 (E.exts ++ [(⟨m426, m429, m431⟩ : DExt)]).length co434]) rfl sz_43 (.t (.s16 (.s4 (.s4 (.s (.s .z)))))) (.t .z) rfl (ones rfl) (.s4 (.s4 .z)) (Nat.le_of_ble_eq_true rfl) (.c .z (.c (.s .z) (.c (.s (.s .z)) .n)))) ?_
 refine FJ.nil (FJ.then_ (FJ.ret ?_))
 refine FJ.doneS (resC (cs := [.slice Agq0 E.disk.blocks.length cgq0, .slice Agq1 E.disk.cache.length cgq1, .slice Ao434 (E.exts ++ [(⟨m426, m429, m431⟩ : DExt)]).length co434]) rfl (.s16 (.s4 (.s4 (.s (.s .z))))) ag_43 sz_43 (WS.rows0 (cs := [.slice Agq0 E.disk.blocks.length cgq0, .slice Agq1 E.disk.cache.length cgq1, .slice Ao434 (E.exts ++ [(⟨m426, m429, m431⟩ : DExt)]).length co434]) .z (fun _ _ h => h))) (.c (.s4 (.s (.s (.s .z)))) (.c (.s4 (.s (.s (.s .z)))) (.c (.s (.s .z)) (.c (.s (.s .z)) .n)))) ?_
 exact ⟨⟨⟨E.disk.blocks, E.disk.cache⟩, E.exts ++ [(⟨m426, m429, m431⟩ : DExt)]⟩, _, _, _, _, ⟨by first | omega | (dsimp only; omega) | (simp only [List.length_append, List.length_cons, List.length_nil, List.length_replicate]; omega), by first | omega | (dsimp only; omega) | (simp only [List.length_append, List.length_cons, List.length_nil, List.length_replicate]; omega), by first | omega | (dsimp only; omega) | (simp only [List.length_append, List.length_cons, List.length_nil, List.length_replicate]; omega), by omega, by omega⟩, rfl, rfl⟩
 refine FJ.e (goes_sch rfl rfl) rfl (by decide) rfl (e_buildSliceL (ps := [(0, .int .i64 1), (1, .int .i64 0), (2, .int .i64 60)]) (cs := [.int .i64 1, .int .i64 0, .int .i64 60]) rfl u_40 (inz inf_2) (by decide) (by intro act hact; simp only [List.map_toArray, List.map_cons, List.map_nil, (show Val _ _ _ from .c) act hact, (show Val _ _ _ from .c) act hact, (show Val _ _ _ from .c) act hact]) rfl rfl (by decide) rfl rfl) ?_
 rintro _ _ ⟨g435, rfl, rfl⟩
 refine FJ.sk (.s4 (.s (.s (.s .z)))) ?_
 refine FJ.schN ?_
 refine FJ.sch [(4, false), (7, false), (10, false), (11, true), (12, false), (13, false), (14, true), (15, false)] 0 #[true, true, true, true, true, true, true, true, true, true, true, true, true, true, true, true] (by rfl) (by kernel_rfl) ?_
 refine FJ.turns (c := ownA kSl_2 ([0, 3, (-1)] : (List Int)) [.slice (some ⟨g366, 0, none⟩) 3 3]) (.c (.s (.s .z)) .n) (fun w S h => lit_own (xs := ([0, 3, (-1)] : (List Int))) h rfl (by simp) (by omega) (by omega)) ?_
 refine FJ.call (goes_sch rfl rfl) rfl (by decide) rfl (c_call rfl Try.func120 rfl rfl (args2 (.t (.s4 (.s .z))) (.t (.s (.s .z))))) (.c (.s (.s (.s .z))) .n) (fun w1 S1 hs tr => c_120 (tr.ctx hcd) (tr.own .z) hs (by omega) (by simp)) ?_
 rintro _ _ ⟨m437, hm437, rfl, rfl⟩
 refine FJ.cat (.c .n) ?_
 simp only [List.mem_cons, List.not_mem_nil, or_false] at hm437
 refine FJ.sk (.s4 (.s (.s (.s .z)))) ?_
 refine FJ.turns (c := ownA kSl_2 ([1, 0, 60] : (List Int)) [.slice (some ⟨g435, 0, none⟩) 3 3]) (.c (.s (.s .z)) .n) (fun w S h => lit_own (xs := ([1, 0, 60] : (List Int))) h rfl (by simp) (by omega) (by omega)) ?_
 refine FJ.call (goes_sch rfl rfl) rfl (by decide) rfl (c_call rfl Try.func120 rfl rfl (args2 (.t (.s4 (.s .z))) (.t (.s .z)))) (.c (.s .z) .n) (fun w1 S1 hs tr => c_120 (tr.ctx hcd) (tr.own .z) hs (by omega) (by simp)) ?_
 rintro _ _ ⟨m439, hm439, rfl, rfl⟩
 refine FJ.cat (.c .n) ?_
 simp only [List.mem_cons, List.not_mem_nil, or_false] at hm439
 refine FJ.sk (.s4 (.s (.s (.s .z)))) ?_
 refine FJ.turns (c := ownA kSl_2 ([1, 0, 10000] : (List Int)) [.slice (some ⟨g424, 0, none⟩) 3 3]) (.c (.s (.s (.s .z))) .n) (fun w S h => lit_own (xs := ([1, 0, 10000] : (List Int))) h rfl (by simp) (by omega) (by omega)) ?_
 refine FJ.call (goes_sch rfl rfl) rfl (by decide) rfl (c_call rfl Try.func120 rfl rfl (args2 (.t (.s4 (.s .z))) (.t (.s (.s (.s .z)))))) (.c (.s .z) .n) (fun w1 S1 hs tr => c_120 (tr.ctx hcd) (tr.own .z) hs (by omega) (by simp)) ?_
 rintro _ _ ⟨m441, hm441, rfl, rfl⟩
 refine FJ.cat (.c .n) ?_
 simp only [List.mem_cons, List.not_mem_nil, or_false] at hm441
 refine FJ.sk (.s4 (.s (.s (.s .z)))) ?_
 refine FJ.dq rfl rfl rfl (by decide) rfl (.s4 (.s (.s (.s .z)))) (q_build (ps := [(0, .int .i64 m437), (1, .int .i64 m439), (2, .int .i64 m441)]) (cs := [.int .i64 m437, .int .i64 m439, .int .i64 m441]) rfl bl_135 (by intro act hact; simp only [List.map_toArray, List.map_cons, List.map_nil, (show Val _ _ _ from (.t (.s (.s .z)))) act hact, (show Val _ _ _ from (.t (.s .z))) act hact, (show Val _ _ _ from (.t .z)) act hact]) rfl) ?_
 refine FJ.e (goes_sch rfl rfl) rfl (by decide) rfl (e_buildSliceL (ps := [(0, .agg #[.int .i64 m437, .int .i64 m439, .int .i64 m441])]) (cs := [.int .i64 m437, .int .i64 m439, .int .i64 m441]) rfl u_41 (inz inf_135) (by decide) (by intro act hact; simp only [List.map_toArray, List.map_cons, List.map_nil, (show Val _ _ _ from (.t .z)) act hact]) rfl rfl (by decide) rfl rfl) ?_
 rintro _ _ ⟨g442, rfl, rfl⟩
 refine FJ.sk (.s4 (.s4 .z)) ?_
 refine FJ.turns (c := ownA kT_135 (⟨m437, m439, m441⟩ : DExt) [.int .i64 m437, .int .i64 m439, .int .i64 m441]) .n (fun w S h => kT_135_omk (⟨m437, m439, m441⟩ : DExt) h) ?_
 refine FJ.e (goes_sch rfl rfl) rfl (by decide) rfl (e_append1 rfl u_41 inf_135 rfl (.t (.s4 (.s4 (.s (.s (.s .z)))))) (.t .z) (.c (.s4 (.s (.s .z))) (.c (.s .z) (.c .z .n))) (by first | omega | (simp only [List.length_append, List.length_cons, List.length_nil, List.length_replicate]; omega)) (by first | omega | (simp only [List.length_append, List.length_cons, List.length_nil, List.length_replicate]; omega))) ?_
 rintro _ _ rfl
 refine FJ.know (WS.oform .z) ?_
 rintro ⟨Ao444, co444, rfl, hlo444, hmo444, hbo444⟩
 refine FJ.sk (.s4 (.s (.s (.s .z)))) ?_
 refine FJ.dq rfl rfl rfl (by decide) rfl (.s4 (.s (.s (.s .z)))) (q_fieldAddr rfl (.t (.s16 (.s4 (.s (.s (.s .z)))))) (fun _ => fa_43_1 _ _)) ?_
 refine FJ.es (goes_sch rfl rfl) rfl (es_store (off := 2) (cs := [.slice Ao444 (E.exts ++ [(⟨m437, m439, m441⟩ : DExt)]).length co444]) rfl sz_41 (.t .z) (.t (.s .z)) rfl (ones rfl) (.s4 (.s (.s (.s .z)))) (Nat.le_of_ble_eq_true rfl) (.c (.s (.s .z)) .n)) ?_
 refine FJ.sl rfl ?_
 refine FJ.schN ?_
 refine FJ.drawN (by kernel_rfl) ?_
 refine FJ.inBN (FJ.then_ (FJ.seq (FJ.region ?_)))
 refine FJ.ql rfl (q_loadA (cs := [.slice Agq0 E.disk.blocks.length cgq0, .slice Agq1 E.disk.cache.length cgq1, .slice Ao444 (E.exts ++ [(⟨m437, m439, m441⟩ : DExt)]).length co444]) rfl ag_43 sz_43 (.t (.s16 (.s4 (.s4 .z)))) (WS.rows0 .z (fun i u h => by exact h))) ?_
 refine FJ.es (goes_list rfl) rfl (es_store (off := 0) (cs := [.slice Agq0 E.disk.blocks.length cgq0, .slice Agq1 E.disk.cache.length cgq1, .slice Ao444 (E.exts ++ [(⟨m437, m439, m441⟩ : DExt)]).length co444]) rfl sz_43 (.t (.s16 (.s4 (.s4 (.s (.s .z)))))) (.t .z) rfl (ones rfl) (.s4 (.s4 .z)) (Nat.le_of_ble_eq_true rfl) (.c .z (.c (.s .z) (.c (.s (.s .z)) .n)))) ?_
 refine FJ.nil (FJ.then_ (FJ.ret ?_))
 refine FJ.doneS (resC (cs := [.slice Agq0 E.disk.blocks.length cgq0, .slice Agq1 E.disk.cache.length cgq1, .slice Ao444 (E.exts ++ [(⟨m437, m439, m441⟩ : DExt)]).length co444]) rfl (.s16 (.s4 (.s4 (.s (.s .z))))) ag_43 sz_43 (WS.rows0 (cs := [.slice Agq0 E.disk.blocks.length cgq0, .slice Agq1 E.disk.cache.length cgq1, .slice Ao444 (E.exts ++ [(⟨m437, m439, m441⟩ : DExt)]).length co444]) .z (fun _ _ h => h))) (.c (.s4 (.s (.s (.s .z)))) (.c (.s4 (.s (.s (.s .z)))) (.c (.s (.s .z)) (.c (.s (.s .z)) .n)))) ?_
 exact ⟨⟨⟨E.disk.blocks, E.disk.cache⟩, E.exts ++ [(⟨m437, m439, m441⟩ : DExt)]⟩, _, _, _, _, ⟨by first | omega | (dsimp only; omega) | (simp only [List.length_append, List.length_cons, List.length_nil, List.length_replicate]; omega), by first | omega | (dsimp only; omega) | (simp only [List.length_append, List.length_cons, List.length_nil, List.length_replicate]; omega), by first | omega | (dsimp only; omega) | (simp only [List.length_append, List.length_cons, List.length_nil, List.length_replicate]; omega), by omega, by omega⟩, rfl, rfl⟩
 refine FJ.e (goes_sch rfl rfl) rfl (by decide) rfl (e_buildSliceL (ps := [(0, .int .i64 1), (1, .int .i64 0), (2, .int .i64 60)]) (cs := [.int .i64 1, .int .i64 0, .int .i64 60]) rfl u_40 (inz inf_2) (by decide) (by intro act hact; simp only [List.map_toArray, List.map_cons, List.map_nil, (show Val _ _ _ from .c) act hact, (show Val _ _ _ from .c) act hact, (show Val _ _ _ from .c) act hact]) rfl rfl (by decide) rfl rfl) ?_
 rintro _ _ ⟨g445, rfl, rfl⟩
 refine FJ.sk (.s4 (.s .z)) ?_
 refine FJ.schN ?_
 refine FJ.sch [] 10 #[true, true, true, false, false, true, true, false, true, false, false, false, false, false, false, false] (by rfl) (by kernel_rfl) ?_
 refine FJ.schN ?_
 refine FJ.fork2 (i := 3) (j := 9) (by kernel_rfl) ?_ ?_
 refine FJ.e (goes_sch rfl rfl) rfl (by decide) rfl (e_buildSliceL (ps := [(0, .int .i64 0), (1, .int .i64 3), (2, .int .i64 (-1))]) (cs := [.int .i64 0, .int .i64 3, .int .i64 (-1)]) rfl u_40 (inz inf_2) (by decide) (by intro act hact; simp only [List.map_toArray, List.map_cons, List.map_nil, (show Val _ _ _ from .c) act hact, (show Val _ _ _ from .c) act hact, (show Val _ _ _ from .c) act hact]) rfl rfl (by decide) rfl rfl) ?_
 rintro _ _ ⟨g446, rfl, rfl⟩
 refine FJ.sk (.s4 (.s (.s .z))) ?_
 refine FJ.schN ?_
 refine FJ.sch [] 9 #[true, true, true, true, false, true, true, false, true, false, false, false, false, false, false, false] (by rfl) (by kernel_rfl) ?_
 refine FJ.schN ?_
 refine FJ.fork2 (i := 4) (j := 9) (by kernel_rfl) ?_ ?_
 refine FJ.turns (c := ownA kSl_2 ([0, 3, (-1)] : (List Int)) [.slice (some ⟨g446, 0, none⟩) 3 3]) (.c .z .n) (fun w S h => lit_own (xs := ([0, 3, (-1)] : (List Int))) h rfl (by simp) (by omega) (by omega)) ?_
 refine FJ.call (goes_sch rfl rfl) rfl (by decide) rfl (c_call rfl Try.func120 rfl rfl (args2 (.t (.s4 .z)) (.t .z))) (.c (.s (.s .z)) .n) (fun w1 S1 hs tr => c_120 (tr.ctx hcd) (tr.own .z) hs (by omega) (by simp)) ?_
 rintro _ _ ⟨m448, hm448, rfl, rfl⟩
 refine FJ.cat (.c .n) ?_
 simp only [List.mem_cons, List.not_mem_nil, or_false] at hm448
 refine FJ.sk (.s4 (.s (.s .z))) ?_
 refine FJ.schN ?_
 refine FJ.sch [] 8 #[true, true, true, true, true, true, true, false, true, false, false, false, false, false, false, false] (by rfl) (by kernel_rfl) ?_
 refine FJ.schN ?_
 refine FJ.fork2 (i := 7) (j := 9) (by kernel_rfl) ?_ ?_
 refine FJ.turns (c := ownA kSl_2 ([1, 0, 60] : (List Int)) [.slice (some ⟨g445, 0, none⟩) 3 3]) (.c (.s (.s .z)) .n) (fun w S h => lit_own (xs := ([1, 0, 60] : (List Int))) h rfl (by simp) (by omega) (by omega)) ?_
 refine FJ.call (goes_sch rfl rfl) rfl (by decide) rfl (c_call rfl Try.func120 rfl rfl (args2 (.t (.s4 .z)) (.t (.s (.s .z))))) (.c (.s .z) .n) (fun w1 S1 hs tr => c_120 (tr.ctx hcd) (tr.own .z) hs (by omega) (by simp)) ?_
 rintro _ _ ⟨m450, hm450, rfl, rfl⟩
 refine FJ.cat (.c .n) ?_
 simp only [List.mem_cons, List.not_mem_nil, or_false] at hm450
 refine FJ.sk (.s4 (.s (.s .z))) ?_
 refine FJ.schN ?_
 refine FJ.sch [(9, false), (10, false), (11, true), (12, false), (13, false), (14, true), (15, false)] 0 #[true, true, true, true, true, true, true, true, true, true, true, true, true, true, true, true] (by rfl) (by kernel_rfl) ?_
 refine FJ.e (goes_sch rfl rfl) rfl (by decide) rfl (e_buildSliceL (ps := [(0, .int .i64 1), (1, .int .i64 0), (2, .int .i64 10000)]) (cs := [.int .i64 1, .int .i64 0, .int .i64 10000]) rfl u_40 (inz inf_2) (by decide) (by intro act hact; simp only [List.map_toArray, List.map_cons, List.map_nil, (show Val _ _ _ from .c) act hact, (show Val _ _ _ from .c) act hact, (show Val _ _ _ from .c) act hact]) rfl rfl (by decide) rfl rfl) ?_
 rintro _ _ ⟨g451, rfl, rfl⟩
 refine FJ.sk (.s4 (.s (.s (.s .z)))) ?_
 refine FJ.turns (c := ownA kSl_2 ([1, 0, 10000] : (List Int)) [.slice (some ⟨g451, 0, none⟩) 3 3]) (.c .z .n) (fun w S h => lit_own (xs := ([1, 0, 10000] : (List Int))) h rfl (by simp) (by omega) (by omega)) ?_
 refine FJ.call (goes_sch rfl rfl) rfl (by decide) rfl (c_call rfl Try.func120 rfl rfl (args2 (.t (.s4 (.s .z))) (.t .z))) (.c (.s .z) .n) (fun w1 S1 hs tr => c_120 (tr.ctx hcd) (tr.own .z) hs (by omega) (by simp)) ?_
 rintro _ _ ⟨m453, hm453, rfl, rfl⟩
 refine FJ.cat (.c .n) ?_
 simp only [List.mem_cons, List.not_mem_nil, or_false] at hm453
 refine FJ.sk (.s4 (.s (.s (.s .z)))) ?_
 refine FJ.dq rfl rfl rfl (by decide) rfl (.s4 (.s (.s (.s .z)))) (q_build (ps := [(0, .int .i64 m448), (1, .int .i64 m450), (2, .int .i64 m453)]) (cs := [.int .i64 m448, .int .i64 m450, .int .i64 m453]) rfl bl_135 (by intro act hact; simp only [List.map_toArray, List.map_cons, List.map_nil, (show Val _ _ _ from (.t (.s (.s (.s .z))))) act hact, (show Val _ _ _ from (.t (.s (.s .z)))) act hact, (show Val _ _ _ from (.t .z)) act hact]) rfl) ?_
 refine FJ.e (goes_sch rfl rfl) rfl (by decide) rfl (e_buildSliceL (ps := [(0, .agg #[.int .i64 m448, .int .i64 m450, .int .i64 m453])]) (cs := [.int .i64 m448, .int .i64 m450, .int .i64 m453]) rfl u_41 (inz inf_135) (by decide) (by intro act hact; simp only [List.map_toArray, List.map_cons, List.map_nil, (show Val _ _ _ from (.t .z)) act hact]) rfl rfl (by decide) rfl rfl) ?_
 rintro _ _ ⟨g454, rfl, rfl⟩
 refine FJ.sk (.s4 (.s4 .z)) ?_
 refine FJ.turns (c := ownA kT_135 (⟨m448, m450, m453⟩ : DExt) [.int .i64 m448, .int .i64 m450, .int .i64 m453]) .n (fun w S h => kT_135_omk (⟨m448, m450, m453⟩ : DExt) h) ?_
 refine FJ.e (goes_sch rfl rfl) rfl (by decide) rfl (e_append1 rfl u_41 inf_135 rfl (.t (.s4 (.s4 (.s (.s (.s .z)))))) (.t .z) (.c (.s4 (.s (.s .z))) (.c (.s .z) (.c .z .n))) (by first | omega | (simp only [List.length_append, List.length_cons, List.length_nil, List.length_replicate]; omega)) (by first | omega | (simp only [List.length_append, List.length_cons, List.length_nil, List.length_replicate]; omega))) ?_
 rintro _ _ rfl
 refine FJ.know (WS.oform .z) ?_
 rintro ⟨Ao456, co456, rfl, hlo456, hmo456, hbo456⟩
 refine FJ.sk (.s4 (.s (.s (.s .z)))) ?_
 refine FJ.dq rfl rfl rfl (by decide) rfl (.s4 (.s (.s (.s .z)))) (q_fieldAddr rfl (.t (.s16 (.s4 (.s (.s (.s .z)))))) (fun _ => fa_43_1 _ _)) ?_
 refine FJ.es (goes_sch rfl rfl) rfl (es_store (off := 2) (cs := [.slice Ao456 (E.exts ++ [(⟨m448, m450, m453⟩ : DExt)]).length co456]) rfl sz_41 (.t .z) (.t (.s .z)) rfl (ones rfl) (.s4 (.s (.s (.s .z)))) (Nat.le_of_ble_eq_true rfl) (.c (.s (.s .z)) .n)) ?_
 refine FJ.sl rfl ?_
 refine FJ.schN ?_
 refine FJ.drawN (by kernel_rfl) ?_
 refine FJ.inBN (FJ.then_ (FJ.seq (FJ.region ?_)))
 refine FJ.ql rfl (q_loadA (cs := [.slice Agq0 E.disk.blocks.length cgq0, .slice Agq1 E.disk.cache.length cgq1, .slice Ao456 (E.exts ++ [(⟨m448, m450, m453⟩ : DExt)]).length co456]) rfl ag_43 sz_43 (.t (.s16 (.s4 (.s4 .z)))) (WS.rows0 .z (fun i u h => by exact h))) ?_
 refine FJ.es (goes_list rfl) rfl (es_store (off := 0) (cs := [.slice Agq0 E.disk.blocks.length cgq0, .slice Agq1 E.disk.cache.length cgq1, .slice Ao456 (E.exts ++ [(⟨m448, m450, m453⟩ : DExt)]).length co456]) rfl sz_43 (.t (.s16 (.s4 (.s4 (.s (.s .z)))))) (.t .z) rfl (ones rfl) (.s4 (.s4 .z)) (Nat.le_of_ble_eq_true rfl) (.c .z (.c (.s .z) (.c (.s (.s .z)) .n)))) ?_
 refine FJ.nil (FJ.then_ (FJ.ret ?_))
 refine FJ.doneS (resC (cs := [.slice Agq0 E.disk.blocks.length cgq0, .slice Agq1 E.disk.cache.length cgq1, .slice Ao456 (E.exts ++ [(⟨m448, m450, m453⟩ : DExt)]).length co456]) rfl (.s16 (.s4 (.s4 (.s (.s .z))))) ag_43 sz_43 (WS.rows0 (cs := [.slice Agq0 E.disk.blocks.length cgq0, .slice Agq1 E.disk.cache.length cgq1, .slice Ao456 (E.exts ++ [(⟨m448, m450, m453⟩ : DExt)]).length co456]) .z (fun _ _ h => h))) (.c (.s4 (.s (.s (.s .z)))) (.c (.s4 (.s (.s (.s .z)))) (.c (.s (.s .z)) (.c (.s (.s .z)) .n)))) ?_
 exact ⟨⟨⟨E.disk.blocks, E.disk.cache⟩, E.exts ++ [(⟨m448, m450, m453⟩ : DExt)]⟩, _, _, _, _, ⟨by first | omega | (dsimp only; omega) | (simp only [List.length_append, List.length_cons, List.length_nil, List.length_replicate]; omega), by first | omega | (dsimp only; omega) | (simp only [List.length_append, List.length_cons, List.length_nil, List.length_replicate]; omega), by first | omega | (dsimp only; omega) | (simp only [List.length_append, List.length_cons, List.length_nil, List.length_replicate]; omega), by omega, by omega⟩, rfl, rfl⟩
 refine FJ.e (goes_sch rfl rfl) rfl (by decide) rfl (e_buildSliceL (ps := [(0, .int .i64 1), (1, .int .i64 0), (2, .int .i64 10000)]) (cs := [.int .i64 1, .int .i64 0, .int .i64 10000]) rfl u_40 (inz inf_2) (by decide) (by intro act hact; simp only [List.map_toArray, List.map_cons, List.map_nil, (show Val _ _ _ from .c) act hact, (show Val _ _ _ from .c) act hact, (show Val _ _ _ from .c) act hact]) rfl rfl (by decide) rfl rfl) ?_
 rintro _ _ ⟨g457, rfl, rfl⟩
 refine FJ.sk (.s4 (.s (.s (.s .z)))) ?_
 refine FJ.schN ?_
 refine FJ.sch [(7, false), (10, false), (11, true), (12, false), (13, false), (14, true), (15, false)] 0 #[true, true, true, true, true, true, true, true, true, true, true, true, true, true, true, true] (by rfl) (by kernel_rfl) ?_
 refine FJ.turns (c := ownA kSl_2 ([1, 0, 60] : (List Int)) [.slice (some ⟨g445, 0, none⟩) 3 3]) (.c (.s (.s (.s .z))) .n) (fun w S h => lit_own (xs := ([1, 0, 60] : (List Int))) h rfl (by simp) (by omega) (by omega)) ?_
 refine FJ.call (goes_sch rfl rfl) rfl (by decide) rfl (c_call rfl Try.func120 rfl rfl (args2 (.t (.s4 (.s .z))) (.t (.s (.s (.s .z)))))) (.c (.s (.s .z)) .n) (fun w1 S1 hs tr => c_120 (tr.ctx hcd) (tr.own .z) hs (by omega) (by simp)) ?_
 rintro _ _ ⟨m459, hm459, rfl, rfl⟩
 refine FJ.cat (.c .n) ?_
 simp only [List.mem_cons, List.not_mem_nil, or_false] at hm459
 refine FJ.sk (.s4 (.s (.s (.s .z)))) ?_
 refine FJ.turns (c := ownA kSl_2 ([1, 0, 10000] : (List Int)) [.slice (some ⟨g457, 0, none⟩) 3 3]) (.c (.s (.s .z)) .n) (fun w S h => lit_own (xs := ([1, 0, 10000] : (List Int))) h rfl (by simp) (by omega) (by omega)) ?_
 refine FJ.call (goes_sch rfl rfl) rfl (by decide) rfl (c_call rfl Try.func120 rfl rfl (args2 (.t (.s4 (.s .z))) (.t (.s .z)))) (.c (.s .z) .n) (fun w1 S1 hs tr => c_120 (tr.ctx hcd) (tr.own .z) hs (by omega) (by simp)) ?_
 rintro _ _ ⟨m461, hm461, rfl, rfl⟩
 refine FJ.cat (.c .n) ?_
 simp only [List.mem_cons, List.not_mem_nil, or_false] at hm461
 refine FJ.sk (.s4 (.s (.s (.s .z)))) ?_
 refine FJ.dq rfl rfl rfl (by decide) rfl (.s4 (.s (.s (.s .z)))) (q_build (ps := [(0, .int .i64 m448), (1, .int .i64 m459), (2, .int .i64 m461)]) (cs := [.int .i64 m448, .int .i64 m459, .int .i64 m461]) rfl bl_135 (by intro act hact; simp only [List.map_toArray, List.map_cons, List.map_nil, (show Val _ _ _ from (.t (.s (.s (.s .z))))) act hact, (show Val _ _ _ from (.t (.s .z))) act hact, (show Val _ _ _ from (.t .z)) act hact]) rfl) ?_
 refine FJ.e (goes_sch rfl rfl) rfl (by decide) rfl (e_buildSliceL (ps := [(0, .agg #[.int .i64 m448, .int .i64 m459, .int .i64 m461])]) (cs := [.int .i64 m448, .int .i64 m459, .int .i64 m461]) rfl u_41 (inz inf_135) (by decide) (by intro act hact; simp only [List.map_toArray, List.map_cons, List.map_nil, (show Val _ _ _ from (.t .z)) act hact]) rfl rfl (by decide) rfl rfl) ?_
 rintro _ _ ⟨g462, rfl, rfl⟩
 refine FJ.sk (.s4 (.s4 .z)) ?_
 refine FJ.turns (c := ownA kT_135 (⟨m448, m459, m461⟩ : DExt) [.int .i64 m448, .int .i64 m459, .int .i64 m461]) .n (fun w S h => kT_135_omk (⟨m448, m459, m461⟩ : DExt) h) ?_
 refine FJ.e (goes_sch rfl rfl) rfl (by decide) rfl (e_append1 rfl u_41 inf_135 rfl (.t (.s4 (.s4 (.s (.s (.s .z)))))) (.t .z) (.c (.s4 (.s (.s .z))) (.c (.s .z) (.c .z .n))) (by first | omega | (simp only [List.length_append, List.length_cons, List.length_nil, List.length_replicate]; omega)) (by first | omega | (simp only [List.length_append, List.length_cons, List.length_nil, List.length_replicate]; omega))) ?_
 rintro _ _ rfl
 refine FJ.know (WS.oform .z) ?_
 rintro ⟨Ao464, co464, rfl, hlo464, hmo464, hbo464⟩
 refine FJ.sk (.s4 (.s (.s (.s .z)))) ?_
 refine FJ.dq rfl rfl rfl (by decide) rfl (.s4 (.s (.s (.s .z)))) (q_fieldAddr rfl (.t (.s16 (.s4 (.s (.s (.s .z)))))) (fun _ => fa_43_1 _ _)) ?_
 refine FJ.es (goes_sch rfl rfl) rfl (es_store (off := 2) (cs := [.slice Ao464 (E.exts ++ [(⟨m448, m459, m461⟩ : DExt)]).length co464]) rfl sz_41 (.t .z) (.t (.s .z)) rfl (ones rfl) (.s4 (.s (.s (.s .z)))) (Nat.le_of_ble_eq_true rfl) (.c (.s (.s .z)) .n)) ?_
 refine FJ.sl rfl ?_
 refine FJ.schN ?_
 refine FJ.drawN (by kernel_rfl) ?_
 refine FJ.inBN (FJ.then_ (FJ.seq (FJ.region ?_)))
 refine FJ.ql rfl (q_loadA (cs := [.slice Agq0 E.disk.blocks.length cgq0, .slice Agq1 E.disk.cache.length cgq1, .slice Ao464 (E.exts ++ [(⟨m448, m459, m461⟩ : DExt)]).length co464]) rfl ag_43 sz_43 (.t (.s16 (.s4 (.s4 .z)))) (WS.rows0 .z (fun i u h => by exact h))) ?_
 refine FJ.es (goes_list rfl) rfl (es_store (off := 0) (cs := [.slice Agq0 E.disk.blocks.length cgq0, .slice Agq1 E.disk.cache.length cgq1, .slice Ao464 (E.exts ++ [(⟨m448, m459, m461⟩ : DExt)]).length co464]) rfl sz_43 (.t (.s16 (.s4 (.s4 (.s (.s .z)))))) (.t .z) rfl (ones rfl) (.s4 (.s4 .z)) (Nat.le_of_ble_eq_true rfl) (.c .z (.c (.s .z) (.c (.s (.s .z)) .n)))) ?_
 refine FJ.nil (FJ.then_ (FJ.ret ?_))
 refine FJ.doneS (resC (cs := [.slice Agq0 E.disk.blocks.length cgq0, .slice Agq1 E.disk.cache.length cgq1, .slice Ao464 (E.exts ++ [(⟨m448, m459, m461⟩ : DExt)]).length co464]) rfl (.s16 (.s4 (.s4 (.s (.s .z))))) ag_43 sz_43 (WS.rows0 (cs := [.slice Agq0 E.disk.blocks.length cgq0, .slice Agq1 E.disk.cache.length cgq1, .slice Ao464 (E.exts ++ [(⟨m448, m459, m461⟩ : DExt)]).length co464]) .z (fun _ _ h => h))) (.c (.s4 (.s (.s (.s .z)))) (.c (.s4 (.s (.s (.s .z)))) (.c (.s (.s .z)) (.c (.s (.s .z)) .n)))) ?_
 exact ⟨⟨⟨E.disk.blocks, E.disk.cache⟩, E.exts ++ [(⟨m448, m459, m461⟩ : DExt)]⟩, _, _, _, _, ⟨by first | omega | (dsimp only; omega) | (simp only [List.length_append, List.length_cons, List.length_nil, List.length_replicate]; omega), by first | omega | (dsimp only; omega) | (simp only [List.length_append, List.length_cons, List.length_nil, List.length_replicate]; omega), by first | omega | (dsimp only; omega) | (simp only [List.length_append, List.length_cons, List.length_nil, List.length_replicate]; omega), by omega, by omega⟩, rfl, rfl⟩
 refine FJ.e (goes_sch rfl rfl) rfl (by decide) rfl (e_buildSliceL (ps := [(0, .int .i64 1), (1, .int .i64 0), (2, .int .i64 10000)]) (cs := [.int .i64 1, .int .i64 0, .int .i64 10000]) rfl u_40 (inz inf_2) (by decide) (by intro act hact; simp only [List.map_toArray, List.map_cons, List.map_nil, (show Val _ _ _ from .c) act hact, (show Val _ _ _ from .c) act hact, (show Val _ _ _ from .c) act hact]) rfl rfl (by decide) rfl rfl) ?_
 rintro _ _ ⟨g465, rfl, rfl⟩
 refine FJ.sk (.s4 (.s (.s (.s .z)))) ?_
 refine FJ.schN ?_
 refine FJ.sch [(4, false), (7, false), (10, false), (11, true), (12, false), (13, false), (14, true), (15, false)] 0 #[true, true, true, true, true, true, true, true, true, true, true, true, true, true, true, true] (by rfl) (by kernel_rfl) ?_
 refine FJ.turns (c := ownA kSl_2 ([0, 3, (-1)] : (List Int)) [.slice (some ⟨g446, 0, none⟩) 3 3]) (.c (.s .z) .n) (fun w S h => lit_own (xs := ([0, 3, (-1)] : (List Int))) h rfl (by simp) (by omega) (by omega)) ?_
 refine FJ.call (goes_sch rfl rfl) rfl (by decide) rfl (c_call rfl Try.func120 rfl rfl (args2 (.t (.s4 (.s .z))) (.t (.s .z)))) (.c (.s (.s (.s .z))) .n) (fun w1 S1 hs tr => c_120 (tr.ctx hcd) (tr.own .z) hs (by omega) (by simp)) ?_
 rintro _ _ ⟨m467, hm467, rfl, rfl⟩
 refine FJ.cat (.c .n) ?_
 simp only [List.mem_cons, List.not_mem_nil, or_false] at hm467
 refine FJ.sk (.s4 (.s (.s (.s .z)))) ?_
 refine FJ.turns (c := ownA kSl_2 ([1, 0, 60] : (List Int)) [.slice (some ⟨g445, 0, none⟩) 3 3]) (.c (.s (.s (.s .z))) .n) (fun w S h => lit_own (xs := ([1, 0, 60] : (List Int))) h rfl (by simp) (by omega) (by omega)) ?_
 refine FJ.call (goes_sch rfl rfl) rfl (by decide) rfl (c_call rfl Try.func120 rfl rfl (args2 (.t (.s4 (.s .z))) (.t (.s (.s (.s .z)))))) (.c (.s .z) .n) (fun w1 S1 hs tr => c_120 (tr.ctx hcd) (tr.own .z) hs (by omega) (by simp)) ?_
 rintro _ _ ⟨m469, hm469, rfl, rfl⟩
 refine FJ.cat (.c .n) ?_
 simp only [List.mem_cons, List.not_mem_nil, or_false] at hm469
 refine FJ.sk (.s4 (.s (.s (.s .z)))) ?_
 refine FJ.turns (c := ownA kSl_2 ([1, 0, 10000] : (List Int)) [.slice (some ⟨g465, 0, none⟩) 3 3]) (.c (.s (.s (.s .z))) .n) (fun w S h => lit_own (xs := ([1, 0, 10000] : (List Int))) h rfl (by simp) (by omega) (by omega)) ?_
 refine FJ.call (goes_sch rfl rfl) rfl (by decide) rfl (c_call rfl Try.func120 rfl rfl (args2 (.t (.s4 (.s .z))) (.t (.s (.s .z))))) (.c (.s .z) .n) (fun w1 S1 hs tr => c_120 (tr.ctx hcd) (tr.own .z) hs (by omega) (by simp)) ?_
 rintro _ _ ⟨m471, hm471, rfl, rfl⟩
 refine FJ.cat (.c .n) ?_
 simp only [List.mem_cons, List.not_mem_nil, or_false] at hm471
 refine FJ.sk (.s4 (.s (.s (.s .z)))) ?_
 refine FJ.dq rfl rfl rfl (by decide) rfl (.s4 (.s (.s (.s .z)))) (q_build (ps := [(0, .int .i64 m467), (1, .int .i64 m469), (2, .int .i64 m471)]) (cs := [.int .i64 m467, .int .i64 m469, .int .i64 m471]) rfl bl_135 (by intro act hact; simp only [List.map_toArray, List.map_cons, List.map_nil, (show Val _ _ _ from (.t (.s (.s .z)))) act hact, (show Val _ _ _ from (.t (.s .z))) act hact, (show Val _ _ _ from (.t .z)) act hact]) rfl) ?_
 refine FJ.e (goes_sch rfl rfl) rfl (by decide) rfl (e_buildSliceL (ps := [(0, .agg #[.int .i64 m467, .int .i64 m469, .int .i64 m471])]) (cs := [.int .i64 m467, .int .i64 m469, .int .i64 m471]) rfl u_41 (inz inf_135) (by decide) (by intro act hact; simp only [List.map_toArray, List.map_cons, List.map_nil, (show Val _ _ _ from (.t .z)) act hact]) rfl rfl (by decide) rfl rfl) ?_
 rintro _ _ ⟨g472, rfl, rfl⟩
 refine FJ.sk (.s4 (.s4 .z)) ?_
 refine FJ.turns (c := ownA kT_135 (⟨m467, m469, m471⟩ : DExt) [.int .i64 m467, .int .i64 m469, .int .i64 m471]) .n (fun w S h => kT_135_omk (⟨m467, m469, m471⟩ : DExt) h) ?_
 refine FJ.e (goes_sch rfl rfl) rfl (by decide) rfl (e_append1 rfl u_41 inf_135 rfl (.t (.s4 (.s4 (.s (.s (.s .z)))))) (.t .z) (.c (.s4 (.s (.s .z))) (.c (.s .z) (.c .z .n))) (by first | omega | (simp only [List.length_append, List.length_cons, List.length_nil, List.length_replicate]; omega)) (by first | omega | (simp only [List.length_append, List.length_cons, List.length_nil, List.length_replicate]; omega))) ?_
 rintro _ _ rfl
 refine FJ.know (WS.oform .z) ?_
 rintro ⟨Ao474, co474, rfl, hlo474, hmo474, hbo474⟩
 refine FJ.sk (.s4 (.s (.s (.s .z)))) ?_
 refine FJ.dq rfl rfl rfl (by decide) rfl (.s4 (.s (.s (.s .z)))) (q_fieldAddr rfl (.t (.s16 (.s4 (.s (.s (.s .z)))))) (fun _ => fa_43_1 _ _)) ?_
 refine FJ.es (goes_sch rfl rfl) rfl (es_store (off := 2) (cs := [.slice Ao474 (E.exts ++ [(⟨m467, m469, m471⟩ : DExt)]).length co474]) rfl sz_41 (.t .z) (.t (.s .z)) rfl (ones rfl) (.s4 (.s (.s (.s .z)))) (Nat.le_of_ble_eq_true rfl) (.c (.s (.s .z)) .n)) ?_
 refine FJ.sl rfl ?_
 refine FJ.schN ?_
 refine FJ.drawN (by kernel_rfl) ?_
 refine FJ.inBN (FJ.then_ (FJ.seq (FJ.region ?_)))
 refine FJ.ql rfl (q_loadA (cs := [.slice Agq0 E.disk.blocks.length cgq0, .slice Agq1 E.disk.cache.length cgq1, .slice Ao474 (E.exts ++ [(⟨m467, m469, m471⟩ : DExt)]).length co474]) rfl ag_43 sz_43 (.t (.s16 (.s4 (.s4 .z)))) (WS.rows0 .z (fun i u h => by exact h))) ?_
 refine FJ.es (goes_list rfl) rfl (es_store (off := 0) (cs := [.slice Agq0 E.disk.blocks.length cgq0, .slice Agq1 E.disk.cache.length cgq1, .slice Ao474 (E.exts ++ [(⟨m467, m469, m471⟩ : DExt)]).length co474]) rfl sz_43 (.t (.s16 (.s4 (.s4 (.s (.s .z)))))) (.t .z) rfl (ones rfl) (.s4 (.s4 .z)) (Nat.le_of_ble_eq_true rfl) (.c .z (.c (.s .z) (.c (.s (.s .z)) .n)))) ?_
 refine FJ.nil (FJ.then_ (FJ.ret ?_))
 refine FJ.doneS (resC (cs := [.slice Agq0 E.disk.blocks.length cgq0, .slice Agq1 E.disk.cache.length cgq1, .slice Ao474 (E.exts ++ [(⟨m467, m469, m471⟩ : DExt)]).length co474]) rfl (.s16 (.s4 (.s4 (.s (.s .z))))) ag_43 sz_43 (WS.rows0 (cs := [.slice Agq0 E.disk.blocks.length cgq0, .slice Agq1 E.disk.cache.length cgq1, .slice Ao474 (E.exts ++ [(⟨m467, m469, m471⟩ : DExt)]).length co474]) .z (fun _ _ h => h))) (.c (.s4 (.s (.s (.s .z)))) (.c (.s4 (.s (.s (.s .z)))) (.c (.s (.s .z)) (.c (.s (.s .z)) .n)))) ?_
 exact ⟨⟨⟨E.disk.blocks, E.disk.cache⟩, E.exts ++ [(⟨m467, m469, m471⟩ : DExt)]⟩, _, _, _, _, ⟨by first | omega | (dsimp only; omega) | (simp only [List.length_append, List.length_cons, List.length_nil, List.length_replicate]; omega), by first | omega | (dsimp only; omega) | (simp only [List.length_append, List.length_cons, List.length_nil, List.length_replicate]; omega), by first | omega | (dsimp only; omega) | (simp only [List.length_append, List.length_cons, List.length_nil, List.length_replicate]; omega), by omega, by omega⟩, rfl, rfl⟩
 refine FJ.e (goes_sch rfl rfl) rfl (by decide) rfl (e_buildSliceL (ps := [(0, .int .i64 1), (1, .int .i64 0), (2, .int .i64 10000)]) (cs := [.int .i64 1, .int .i64 0, .int .i64 10000]) rfl u_40 (inz inf_2) (by decide) (by intro act hact; simp only [List.map_toArray, List.map_cons, List.map_nil, (show Val _ _ _ from .c) act hact, (show Val _ _ _ from .c) act hact, (show Val _ _ _ from .c) act hact]) rfl rfl (by decide) rfl rfl) ?_
 rintro _ _ ⟨g475, rfl, rfl⟩
 refine FJ.sk (.s4 (.s (.s .z))) ?_
 refine FJ.schN ?_
 refine FJ.sch [(3, false), (4, false), (7, false), (10, false), (11, true), (12, false), (13, false), (14, true), (15, false)] 0 #[true, true, true, true, true, true, true, true, true, true, true, true, true, true, true, true] (by rfl) (by kernel_rfl) ?_
 refine FJ.e (goes_sch rfl rfl) rfl (by decide) rfl (e_buildSliceL (ps := [(0, .int .i64 0), (1, .int .i64 3), (2, .int .i64 (-1))]) (cs := [.int .i64 0, .int .i64 3, .int .i64 (-1)]) rfl u_40 (inz inf_2) (by decide) (by intro act hact; simp only [List.map_toArray, List.map_cons, List.map_nil, (show Val _ _ _ from .c) act hact, (show Val _ _ _ from .c) act hact, (show Val _ _ _ from .c) act hact]) rfl rfl (by decide) rfl rfl) ?_
 rintro _ _ ⟨g476, rfl, rfl⟩
 refine FJ.sk (.s4 (.s (.s (.s .z)))) ?_
 refine FJ.turns (c := ownA kSl_2 ([0, 3, (-1)] : (List Int)) [.slice (some ⟨g476, 0, none⟩) 3 3]) (.c .z .n) (fun w S h => lit_own (xs := ([0, 3, (-1)] : (List Int))) h rfl (by simp) (by omega) (by omega)) ?_
 refine FJ.call (goes_sch rfl rfl) rfl (by decide) rfl (c_call rfl Try.func120 rfl rfl (args2 (.t (.s4 (.s .z))) (.t .z))) (.c (.s (.s (.s .z))) .n) (fun w1 S1 hs tr => c_120 (tr.ctx hcd) (tr.own .z) hs (by omega) (by simp)) ?_
 rintro _ _ ⟨m478, hm478, rfl, rfl⟩
 refine FJ.cat (.c .n) ?_
 simp only [List.mem_cons, List.not_mem_nil, or_false] at hm478
 refine FJ.sk (.s4 (.s (.s (.s .z)))) ?_
 refine FJ.turns (c := ownA kSl_2 ([1, 0, 60] : (List Int)) [.slice (some ⟨g445, 0, none⟩) 3 3]) (.c (.s (.s (.s .z))) .n) (fun w S h => lit_own (xs := ([1, 0, 60] : (List Int))) h rfl (by simp) (by omega) (by omega)) ?_
 refine FJ.call (goes_sch rfl rfl) rfl (by decide) rfl (c_call rfl Try.func120 rfl rfl (args2 (.t (.s4 (.s .z))) (.t (.s (.s (.s .z)))))) (.c (.s .z) .n) (fun w1 S1 hs tr => c_120 (tr.ctx hcd) (tr.own .z) hs (by omega) (by simp)) ?_
 rintro _ _ ⟨m480, hm480, rfl, rfl⟩
 refine FJ.cat (.c .n) ?_
 simp only [List.mem_cons, List.not_mem_nil, or_false] at hm480
 refine FJ.sk (.s4 (.s (.s (.s .z)))) ?_
 refine FJ.turns (c := ownA kSl_2 ([1, 0, 10000] : (List Int)) [.slice (some ⟨g475, 0, none⟩) 3 3]) (.c (.s (.s (.s .z))) .n) (fun w S h => lit_own (xs := ([1, 0, 10000] : (List Int))) h rfl (by simp) (by omega) (by omega)) ?_
 refine FJ.call (goes_sch rfl rfl) rfl (by decide) rfl (c_call rfl Try.func120 rfl rfl (args2 (.t (.s4 (.s .z))) (.t (.s (.s (.s .z)))))) (.c (.s .z) .n) (fun w1 S1 hs tr => c_120 (tr.ctx hcd) (tr.own .z) hs (by omega) (by simp)) ?_
 rintro _ _ ⟨m482, hm482, rfl, rfl⟩
 refine FJ.cat (.c .n) ?_
 simp only [List.mem_cons, List.not_mem_nil, or_false] at hm482
 refine FJ.sk (.s4 (.s (.s (.s .z)))) ?_
 refine FJ.dq rfl rfl rfl (by decide) rfl (.s4 (.s (.s (.s .z)))) (q_build (ps := [(0, .int .i64 m478), (1, .int .i64 m480), (2, .int .i64 m482)]) (cs := [.int .i64 m478, .int .i64 m480, .int .i64 m482]) rfl bl_135 (by intro act hact; simp only [List.map_toArray, List.map_cons, List.map_nil, (show Val _ _ _ from (.t (.s (.s .z)))) act hact, (show Val _ _ _ from (.t (.s .z))) act hact, (show Val _ _ _ from (.t .z)) act hact]) rfl) ?_
 refine FJ.e (goes_sch rfl rfl) rfl (by decide) rfl (e_buildSliceL (ps := [(0, .agg #[.int .i64 m478, .int .i64 m480, .int .i64 m482])]) (cs := [.int .i64 m478, .int .i64 m480, .int .i64 m482]) rfl u_41 (inz inf_135) (by decide) (by intro act hact; simp only [List.map_toArray, List.map_cons, List.map_nil, (show Val _ _ _ from (.t .z)) act hact]) rfl rfl (by decide) rfl rfl) ?_
 rintro _ _ ⟨g483, rfl, rfl⟩
 refine FJ.sk (.s4 (.s4 .z)) ?_
 refine FJ.turns (c := ownA kT_135 (⟨m478, m480, m482⟩ : DExt) [.int .i64 m478, .int .i64 m480, .int .i64 m482]) .n (fun w S h => kT_135_omk (⟨m478, m480, m482⟩ : DExt) h) ?_
 refine FJ.e (goes_sch rfl rfl) rfl (by decide) rfl (e_append1 rfl u_41 inf_135 rfl (.t (.s4 (.s4 (.s (.s (.s .z)))))) (.t .z) (.c (.s4 (.s (.s .z))) (.c (.s .z) (.c .z .n))) (by first | omega | (simp only [List.length_append, List.length_cons, List.length_nil, List.length_replicate]; omega)) (by first | omega | (simp only [List.length_append, List.length_cons, List.length_nil, List.length_replicate]; omega))) ?_
 rintro _ _ rfl
 refine FJ.know (WS.oform .z) ?_
 rintro ⟨Ao485, co485, rfl, hlo485, hmo485, hbo485⟩
 refine FJ.sk (.s4 (.s (.s (.s .z)))) ?_
 refine FJ.dq rfl rfl rfl (by decide) rfl (.s4 (.s (.s (.s .z)))) (q_fieldAddr rfl (.t (.s16 (.s4 (.s (.s (.s .z)))))) (fun _ => fa_43_1 _ _)) ?_
 refine FJ.es (goes_sch rfl rfl) rfl (es_store (off := 2) (cs := [.slice Ao485 (E.exts ++ [(⟨m478, m480, m482⟩ : DExt)]).length co485]) rfl sz_41 (.t .z) (.t (.s .z)) rfl (ones rfl) (.s4 (.s (.s (.s .z)))) (Nat.le_of_ble_eq_true rfl) (.c (.s (.s .z)) .n)) ?_
 refine FJ.sl rfl ?_
 refine FJ.schN ?_
 refine FJ.drawN (by kernel_rfl) ?_
 refine FJ.inBN (FJ.then_ (FJ.seq (FJ.region ?_)))
 refine FJ.ql rfl (q_loadA (cs := [.slice Agq0 E.disk.blocks.length cgq0, .slice Agq1 E.disk.cache.length cgq1, .slice Ao485 (E.exts ++ [(⟨m478, m480, m482⟩ : DExt)]).length co485]) rfl ag_43 sz_43 (.t (.s16 (.s4 (.s4 .z)))) (WS.rows0 .z (fun i u h => by exact h))) ?_
 refine FJ.es (goes_list rfl) rfl (es_store (off := 0) (cs := [.slice Agq0 E.disk.blocks.length cgq0, .slice Agq1 E.disk.cache.length cgq1, .slice Ao485 (E.exts ++ [(⟨m478, m480, m482⟩ : DExt)]).length co485]) rfl sz_43 (.t (.s16 (.s4 (.s4 (.s (.s .z)))))) (.t .z) rfl (ones rfl) (.s4 (.s4 .z)) (Nat.le_of_ble_eq_true rfl) (.c .z (.c (.s .z) (.c (.s (.s .z)) .n)))) ?_
 refine FJ.nil (FJ.then_ (FJ.ret ?_))
 refine FJ.doneS (resC (cs := [.slice Agq0 E.disk.blocks.length cgq0, .slice Agq1 E.disk.cache.length cgq1, .slice Ao485 (E.exts ++ [(⟨m478, m480, m482⟩ : DExt)]).length co485]) rfl (.s16 (.s4 (.s4 (.s (.s .z))))) ag_43 sz_43 (WS.rows0 (cs := [.slice Agq0 E.disk.blocks.length cgq0, .slice Agq1 E.disk.cache.length cgq1, .slice Ao485 (E.exts ++ [(⟨m478, m480, m482⟩ : DExt)]).length co485]) .z (fun _ _ h => h))) (.c (.s4 (.s (.s (.s .z)))) (.c (.s4 (.s (.s (.s .z)))) (.c (.s (.s .z)) (.c (.s (.s .z)) .n)))) ?_
 exact ⟨⟨⟨E.disk.blocks, E.disk.cache⟩, E.exts ++ [(⟨m478, m480, m482⟩ : DExt)]⟩, _, _, _, _, ⟨by first | omega | (dsimp only; omega) | (simp only [List.length_append, List.length_cons, List.length_nil, List.length_replicate]; omega), by first | omega | (dsimp only; omega) | (simp only [List.length_append, List.length_cons, List.length_nil, List.length_replicate]; omega), by first | omega | (dsimp only; omega) | (simp only [List.length_append, List.length_cons, List.length_nil, List.length_replicate]; omega), by omega, by omega⟩, rfl, rfl⟩
 refine FJ.e (goes_sch rfl rfl) rfl (by decide) rfl (e_buildSliceL (ps := [(0, .int .i64 1), (1, .int .i64 0), (2, .int .i64 10000)]) (cs := [.int .i64 1, .int .i64 0, .int .i64 10000]) rfl u_40 (inz inf_2) (by decide) (by intro act hact; simp only [List.map_toArray, List.map_cons, List.map_nil, (show Val _ _ _ from .c) act hact, (show Val _ _ _ from .c) act hact, (show Val _ _ _ from .c) act hact]) rfl rfl (by decide) rfl rfl) ?_
 rintro _ _ ⟨g486, rfl, rfl⟩
 refine FJ.sk (.s4 (.s .z)) ?_
 refine FJ.schN ?_
 refine FJ.sch [] 10 #[true, true, true, false, false, true, false, false, true, true, false, false, false, false, false, false] (by rfl) (by kernel_rfl) ?_
 refine FJ.schN ?_
 refine FJ.fork2 (i := 3) (j := 6) (by kernel_rfl) ?_ ?_
 refine FJ.e (goes_sch rfl rfl) rfl (by decide) rfl (e_buildSliceL (ps := [(0, .int .i64 0), (1, .int .i64 3), (2, .int .i64 (-1))]) (cs := [.int .i64 0, .int .i64 3, .int .i64 (-1)]) rfl u_40 (inz inf_2) (by decide) (by intro act hact; simp only [List.map_toArray, List.map_cons, List.map_nil, (show Val _ _ _ from .c) act hact, (show Val _ _ _ from .c) act hact, (show Val _ _ _ from .c) act hact]) rfl rfl (by decide) rfl rfl) ?_
 rintro _ _ ⟨g487, rfl, rfl⟩
 refine FJ.sk (.s4 (.s (.s .z))) ?_
 refine FJ.schN ?_
 refine FJ.sch [] 9 #[true, true, true, true, false, true, false, false, true, true, false, false, false, false, false, false] (by rfl) (by kernel_rfl) ?_
 refine FJ.schN ?_
 refine FJ.fork2 (i := 4) (j := 6) (by kernel_rfl) ?_ ?_
 refine FJ.turns (c := ownA kSl_2 ([0, 3, (-1)] : (List Int)) [.slice (some ⟨g487, 0, none⟩) 3 3]) (.c .z .n) (fun w S h => lit_own (xs := ([0, 3, (-1)] : (List Int))) h rfl (by simp) (by omega) (by omega)) ?_
 refine FJ.call (goes_sch rfl rfl) rfl (by decide) rfl (c_call rfl Try.func120 rfl rfl (args2 (.t (.s4 .z)) (.t .z))) (.c (.s (.s .z)) .n) (fun w1 S1 hs tr => c_120 (tr.ctx hcd) (tr.own .z) hs (by omega) (by simp)) ?_
 rintro _ _ ⟨m489, hm489, rfl, rfl⟩
 refine FJ.cat (.c .n) ?_
 simp only [List.mem_cons, List.not_mem_nil, or_false] at hm489
 refine FJ.sk (.s4 (.s (.s .z))) ?_
 refine FJ.schN ?_
 refine FJ.sch [(6, false), (7, false), (10, false), (11, true), (12, false), (13, false), (14, true), (15, false)] 0 #[true, true, true, true, true, true, true, true, true, true, true, true, true, true, true, true] (by rfl) (by kernel_rfl) ?_
 refine FJ.e (goes_sch rfl rfl) rfl (by decide) rfl (e_buildSliceL (ps := [(0, .int .i64 1), (1, .int .i64 0), (2, .int .i64 60)]) (cs := [.int .i64 1, .int .i64 0, .int .i64 60]) rfl u_40 (inz inf_2) (by decide) (by intro act hact; simp only [List.map_toArray, List.map_cons, List.map_nil, (show Val _ _ _ from .c) act hact, (show Val _ _ _ from .c) act hact, (show Val _ _ _ from .c) act hact]) rfl rfl (by decide) rfl rfl) ?_
 rintro _ _ ⟨g490, rfl, rfl⟩
 refine FJ.sk (.s4 (.s (.s (.s .z)))) ?_
 refine FJ.turns (c := ownA kSl_2 ([1, 0, 60] : (List Int)) [.slice (some ⟨g490, 0, none⟩) 3 3]) (.c .z .n) (fun w S h => lit_own (xs := ([1, 0, 60] : (List Int))) h rfl (by simp) (by omega) (by omega)) ?_
 refine FJ.call (goes_sch rfl rfl) rfl (by decide) rfl (c_call rfl Try.func120 rfl rfl (args2 (.t (.s4 (.s .z))) (.t .z))) (.c (.s .z) .n) (fun w1 S1 hs tr => c_120 (tr.ctx hcd) (tr.own .z) hs (by omega) (by simp)) ?_
 rintro _ _ ⟨m492, hm492, rfl, rfl⟩
 refine FJ.cat (.c .n) ?_
 simp only [List.mem_cons, List.not_mem_nil, or_false] at hm492
 refine FJ.sk (.s4 (.s (.s (.s .z)))) ?_
 refine FJ.turns (c := ownA kSl_2 ([1, 0, 10000] : (List Int)) [.slice (some ⟨g486, 0, none⟩) 3 3]) (.c (.s (.s (.s .z))) .n) (fun w S h => lit_own (xs := ([1, 0, 10000] : (List Int))) h rfl (by simp) (by omega) (by omega)) ?_
 refine FJ.call (goes_sch rfl rfl) rfl (by decide) rfl (c_call rfl Try.func120 rfl rfl (args2 (.t (.s4 (.s .z))) (.t (.s4 .z)))) (.c (.s .z) .n) (fun w1 S1 hs tr => c_120 (tr.ctx hcd) (tr.own .z) hs (by omega) (by simp)) ?_
 rintro _ _ ⟨m494, hm494, rfl, rfl⟩
 refine FJ.cat (.c .n) ?_
 simp only [List.mem_cons, List.not_mem_nil, or_false] at hm494
 refine FJ.sk (.s4 (.s (.s (.s .z)))) ?_
 refine FJ.dq rfl rfl rfl (by decide) rfl (.s4 (.s (.s (.s .z)))) (q_build (ps := [(0, .int .i64 m489), (1, .int .i64 m492), (2, .int .i64 m494)]) (cs := [.int .i64 m489, .int .i64 m492, .int .i64 m494]) rfl bl_135 (by intro act hact; simp only [List.map_toArray, List.map_cons, List.map_nil, (show Val _ _ _ from (.t (.s (.s (.s .z))))) act hact, (show Val _ _ _ from (.t (.s .z))) act hact, (show Val _ _ _ from (.t .z)) act hact]) rfl) ?_
 refine FJ.e (goes_sch rfl rfl) rfl (by decide) rfl (e_buildSliceL (ps := [(0, .agg #[.int .i64 m489, .int .i64 m492, .int .i64 m494])]) (cs := [.int .i64 m489, .int .i64 m492, .int .i64 m494]) rfl u_41 (inz inf_135) (by decide) (by intro act hact; simp only [List.map_toArray, List.map_cons, List.map_nil, (show Val _ _ _ from (.t .z)) act hact]) rfl rfl (by decide) rfl rfl) ?_
 rintro _ _ ⟨g495, rfl, rfl⟩
 refine FJ.sk (.s4 (.s4 .z)) ?_
 refine FJ.turns (c := ownA kT_135 (⟨m489, m492, m494⟩ : DExt) [.int .i64 m489, .int .i64 m492, .int .i64 m494]) .n (fun w S h => kT_135_omk (⟨m489, m492, m494⟩ : DExt) h) ?_
 refine FJ.e (goes_sch rfl rfl) rfl (by decide) rfl (e_append1 rfl u_41 inf_135 rfl (.t (.s4 (.s4 (.s (.s (.s .z)))))) (.t .z) (.c (.s4 (.s (.s .z))) (.c (.s .z) (.c .z .n))) (by first | omega | (simp only [List.length_append, List.length_cons, List.length_nil, List.length_replicate]; omega)) (by first | omega | (simp only [List.length_append, List.length_cons, List.length_nil, List.length_replicate]; omega))) ?_
 rintro _ _ rfl
 refine FJ.know (WS.oform .z) ?_
 rintro ⟨Ao497, co497, rfl, hlo497, hmo497, hbo497⟩
 refine FJ.sk (.s4 (.s (.s (.s .z)))) ?_
 refine FJ.dq rfl rfl rfl (by decide) rfl (.s4 (.s (.s (.s .z)))) (q_fieldAddr rfl (.t (.s16 (.s4 (.s (.s (.s .z)))))) (fun _ => fa_43_1 _ _)) ?_
 refine FJ.es (goes_sch rfl rfl) rfl (es_store (off := 2) (cs := [.slice Ao497 (E.exts ++ [(⟨m489, m492, m494⟩ : DExt)]).length co497]) rfl sz_41 (.t .z) (.t (.s .z)) rfl (ones rfl) (.s4 (.s (.s (.s .z)))) (Nat.le_of_ble_eq_true rfl) (.c (.s (.s .z)) .n)) ?_
 refine FJ.sl rfl ?_
 refine FJ.schN ?_
 refine FJ.drawN (by kernel_rfl) ?_
 refine FJ.inBN (FJ.then_ (FJ.seq (FJ.region ?_)))
 refine FJ.ql rfl (q_loadA (cs := [.slice Agq0 E.disk.blocks.length cgq0, .slice Agq1 E.disk.cache.length cgq1, .slice Ao497 (E.exts ++ [(⟨m489, m492, m494⟩ : DExt)]).length co497]) rfl ag_43 sz_43 (.t (.s16 (.s4 (.s4 .z)))) (WS.rows0 .z (fun i u h => by exact h))) ?_
 refine FJ.es (goes_list rfl) rfl (es_store (off := 0) (cs := [.slice Agq0 E.disk.blocks.length cgq0, .slice Agq1 E.disk.cache.length cgq1, .slice Ao497 (E.exts ++ [(⟨m489, m492, m494⟩ : DExt)]).length co497]) rfl sz_43 (.t (.s16 (.s4 (.s4 (.s (.s .z)))))) (.t .z) rfl (ones rfl) (.s4 (.s4 .z)) (Nat.le_of_ble_eq_true rfl) (.c .z (.c (.s .z) (.c (.s (.s .z)) .n)))) ?_
 refine FJ.nil (FJ.then_ (FJ.ret ?_))
 refine FJ.doneS (resC (cs := [.slice Agq0 E.disk.blocks.length cgq0, .slice Agq1 E.disk.cache.length cgq1, .slice Ao497 (E.exts ++ [(⟨m489, m492, m494⟩ : DExt)]).length co497]) rfl (.s16 (.s4 (.s4 (.s (.s .z))))) ag_43 sz_43 (WS.rows0 (cs := [.slice Agq0 E.disk.blocks.length cgq0, .slice Agq1 E.disk.cache.length cgq1, .slice Ao497 (E.exts ++ [(⟨m489, m492, m494⟩ : DExt)]).length co497]) .z (fun _ _ h => h))) (.c (.s4 (.s (.s (.s .z)))) (.c (.s4 (.s (.s (.s .z)))) (.c (.s (.s .z)) (.c (.s (.s .z)) .n)))) ?_
 exact ⟨⟨⟨E.disk.blocks, E.disk.cache⟩, E.exts ++ [(⟨m489, m492, m494⟩ : DExt)]⟩, _, _, _, _, ⟨by first | omega | (dsimp only; omega) | (simp only [List.length_append, List.length_cons, List.length_nil, List.length_replicate]; omega), by first | omega | (dsimp only; omega) | (simp only [List.length_append, List.length_cons, List.length_nil, List.length_replicate]; omega), by first | omega | (dsimp only; omega) | (simp only [List.length_append, List.length_cons, List.length_nil, List.length_replicate]; omega), by omega, by omega⟩, rfl, rfl⟩
 refine FJ.e (goes_sch rfl rfl) rfl (by decide) rfl (e_buildSliceL (ps := [(0, .int .i64 1), (1, .int .i64 0), (2, .int .i64 60)]) (cs := [.int .i64 1, .int .i64 0, .int .i64 60]) rfl u_40 (inz inf_2) (by decide) (by intro act hact; simp only [List.map_toArray, List.map_cons, List.map_nil, (show Val _ _ _ from .c) act hact, (show Val _ _ _ from .c) act hact, (show Val _ _ _ from .c) act hact]) rfl rfl (by decide) rfl rfl) ?_
 rintro _ _ ⟨g498, rfl, rfl⟩
 refine FJ.sk (.s4 (.s (.s (.s .z)))) ?_
 refine FJ.schN ?_
 refine FJ.sch [(4, false), (7, false), (10, false), (11, true), (12, false), (13, false), (14, true), (15, false)] 0 #[true, true, true, true, true, true, true, true, true, true, true, true, true, true, true, true] (by rfl) (by kernel_rfl) ?_
 refine FJ.turns (c := ownA kSl_2 ([0, 3, (-1)] : (List Int)) [.slice (some ⟨g487, 0, none⟩) 3 3]) (.c (.s .z) .n) (fun w S h => lit_own (xs := ([0, 3, (-1)] : (List Int))) h rfl (by simp) (by omega) (by omega)) ?_
 refine FJ.call (goes_sch rfl rfl) rfl (by decide) rfl (c_call rfl Try.func120 rfl rfl (args2 (.t (.s4 (.s .z))) (.t (.s .z)))) (.c (.s (.s (.s .z))) .n) (fun w1 S1 hs tr => c_120 (tr.ctx hcd) (tr.own .z) hs (by omega) (by simp)) ?_
 rintro _ _ ⟨m500, hm500, rfl, rfl⟩
 refine FJ.cat (.c .n) ?_
 simp only [List.mem_cons, List.not_mem_nil, or_false] at hm500
 refine FJ.sk (.s4 (.s (.s (.s .z)))) ?_
 refine FJ.turns (c := ownA kSl_2 ([1, 0, 60] : (List Int)) [.slice (some ⟨g498, 0, none⟩) 3 3]) (.c (.s (.s .z)) .n) (fun w S h => lit_own (xs := ([1, 0, 60] : (List Int))) h rfl (by simp) (by omega) (by omega)) ?_
 refine FJ.call (goes_sch rfl rfl) rfl (by decide) rfl (c_call rfl Try.func120 rfl rfl (args2 (.t (.s4 (.s .z))) (.t (.s .z)))) (.c (.s .z) .n) (fun w1 S1 hs tr => c_120 (tr.ctx hcd) (tr.own .z) hs (by omega) (by simp)) ?_
 rintro _ _ ⟨m502, hm502, rfl, rfl⟩
 refine FJ.cat (.c .n) ?_
 simp only [List.mem_cons, List.not_mem_nil, or_false] at hm502
 refine FJ.sk (.s4 (.s (.s (.s .z)))) ?_
 refine FJ.turns (c := ownA kSl_2 ([1, 0, 10000] : (List Int)) [.slice (some ⟨g486, 0, none⟩) 3 3]) (.c (.s (.s (.s .z))) .n) (fun w S h => lit_own (xs := ([1, 0, 10000] : (List Int))) h rfl (by simp) (by omega) (by omega)) ?_
 refine FJ.call (goes_sch rfl rfl) rfl (by decide) rfl (c_call rfl Try.func120 rfl rfl (args2 (.t (.s4 (.s .z))) (.t (.s4 .z)))) (.c (.s .z) .n) (fun w1 S1 hs tr => c_120 (tr.ctx hcd) (tr.own .z) hs (by omega) (by simp)) ?_
 rintro _ _ ⟨m504, hm504, rfl, rfl⟩
 refine FJ.cat (.c .n) ?_
 simp only [List.mem_cons, List.not_mem_nil, or_false] at hm504
 refine FJ.sk (.s4 (.s (.s (.s .z)))) ?_
 refine FJ.dq rfl rfl rfl (by decide) rfl (.s4 (.s (.s (.s .z)))) (q_build (ps := [(0, .int .i64 m500), (1, .int .i64 m502), (2, .int .i64 m504)]) (cs := [.int .i64 m500, .int .i64 m502, .int .i64 m504]) rfl bl_135 (by intro act hact; simp only [List.map_toArray, List.map_cons, List.map_nil, (show Val _ _ _ from (.t (.s (.s .z)))) act hact, (show Val _ _ _ from (.t (.s .z))) act hact, (show Val _ _ _ from (.t .z)) act hact]) rfl) ?_
 refine FJ.e (goes_sch rfl rfl) rfl (by decide) rfl (e_buildSliceL (ps := [(0, .agg #[.int .i64 m500, .int .i64 m502, .int .i64 m504])]) (cs := [.int .i64 m500, .int .i64 m502, .int .i64 m504]) rfl u_41 (inz inf_135) (by decide) (by intro act hact; simp only [List.map_toArray, List.map_cons, List.map_nil, (show Val _ _ _ from (.t .z)) act hact]) rfl rfl (by decide) rfl rfl) ?_
 rintro _ _ ⟨g505, rfl, rfl⟩
 refine FJ.sk (.s4 (.s4 .z)) ?_
 refine FJ.turns (c := ownA kT_135 (⟨m500, m502, m504⟩ : DExt) [.int .i64 m500, .int .i64 m502, .int .i64 m504]) .n (fun w S h => kT_135_omk (⟨m500, m502, m504⟩ : DExt) h) ?_
 refine FJ.e (goes_sch rfl rfl) rfl (by decide) rfl (e_append1 rfl u_41 inf_135 rfl (.t (.s4 (.s4 (.s (.s (.s .z)))))) (.t .z) (.c (.s4 (.s (.s .z))) (.c (.s .z) (.c .z .n))) (by first | omega | (simp only [List.length_append, List.length_cons, List.length_nil, List.length_replicate]; omega)) (by first | omega | (simp only [List.length_append, List.length_cons, List.length_nil, List.length_replicate]; omega))) ?_
 rintro _ _ rfl
 refine FJ.know (WS.oform .z) ?_
 rintro ⟨Ao507, co507, rfl, hlo507, hmo507, hbo507⟩
 refine FJ.sk (.s4 (.s (.s (.s .z)))) ?_
 refine FJ.dq rfl rfl rfl (by decide) rfl (.s4 (.s (.s (.s .z)))) (q_fieldAddr rfl (.t (.s16 (.s4 (.s (.s (.s .z)))))) (fun _ => fa_43_1 _ _)) ?_
 refine FJ.es (goes_sch rfl rfl) rfl (es_store (off := 2) (cs := [.slice Ao507 (E.exts ++ [(⟨m500, m502, m504⟩ : DExt)]).length co507]) rfl sz_41 (.t .z) (.t (.s .z)) rfl (ones rfl) (.s4 (.s (.s (.s .z)))) (Nat.le_of_ble_eq_true rfl) (.c (.s (.s .z)) .n)) ?_
 refine FJ.sl rfl ?_
 refine FJ.schN ?_
 refine FJ.drawN (by kernel_rfl) ?_
 refine FJ.inBN (FJ.then_ (FJ.seq (FJ.region ?_)))
 refine FJ.ql rfl (q_loadA (cs := [.slice Agq0 E.disk.blocks.length cgq0, .slice Agq1 E.disk.cache.length cgq1, .slice Ao507 (E.exts ++ [(⟨m500, m502, m504⟩ : DExt)]).length co507]) rfl ag_43 sz_43 (.t (.s16 (.s4 (.s4 .z)))) (WS.rows0 .z (fun i u h => by exact h))) ?_
 refine FJ.es (goes_list rfl) rfl (es_store (off := 0) (cs := [.slice Agq0 E.disk.blocks.length cgq0, .slice Agq1 E.disk.cache.length cgq1, .slice Ao507 (E.exts ++ [(⟨m500, m502, m504⟩ : DExt)]).length co507]) rfl sz_43 (.t (.s16 (.s4 (.s4 (.s (.s .z)))))) (.t .z) rfl (ones rfl) (.s4 (.s4 .z)) (Nat.le_of_ble_eq_true rfl) (.c .z (.c (.s .z) (.c (.s (.s .z)) .n)))) ?_
 refine FJ.nil (FJ.then_ (FJ.ret ?_))
 refine FJ.doneS (resC (cs := [.slice Agq0 E.disk.blocks.length cgq0, .slice Agq1 E.disk.cache.length cgq1, .slice Ao507 (E.exts ++ [(⟨m500, m502, m504⟩ : DExt)]).length co507]) rfl (.s16 (.s4 (.s4 (.s (.s .z))))) ag_43 sz_43 (WS.rows0 (cs := [.slice Agq0 E.disk.blocks.length cgq0, .slice Agq1 E.disk.cache.length cgq1, .slice Ao507 (E.exts ++ [(⟨m500, m502, m504⟩ : DExt)]).length co507]) .z (fun _ _ h => h))) (.c (.s4 (.s (.s (.s .z)))) (.c (.s4 (.s (.s (.s .z)))) (.c (.s (.s .z)) (.c (.s (.s .z)) .n)))) ?_
 exact ⟨⟨⟨E.disk.blocks, E.disk.cache⟩, E.exts ++ [(⟨m500, m502, m504⟩ : DExt)]⟩, _, _, _, _, ⟨by first | omega | (dsimp only; omega) | (simp only [List.length_append, List.length_cons, List.length_nil, List.length_replicate]; omega), by first | omega | (dsimp only; omega) | (simp only [List.length_append, List.length_cons, List.length_nil, List.length_replicate]; omega), by first | omega | (dsimp only; omega) | (simp only [List.length_append, List.length_cons, List.length_nil, List.length_replicate]; omega), by omega, by omega⟩, rfl, rfl⟩
 refine FJ.e (goes_sch rfl rfl) rfl (by decide) rfl (e_buildSliceL (ps := [(0, .int .i64 1), (1, .int .i64 0), (2, .int .i64 60)]) (cs := [.int .i64 1, .int .i64 0, .int .i64 60]) rfl u_40 (inz inf_2) (by decide) (by intro act hact; simp only [List.map_toArray, List.map_cons, List.map_nil, (show Val _ _ _ from .c) act hact, (show Val _ _ _ from .c) act hact, (show Val _ _ _ from .c) act hact]) rfl rfl (by decide) rfl rfl) ?_
 rintro _ _ ⟨g508, rfl, rfl⟩
 refine FJ.sk (.s4 (.s (.s .z))) ?_
 refine FJ.schN ?_
 refine FJ.sch [(3, false), (4, false), (7, false), (10, false), (11, true), (12, false), (13, false), (14, true), (15, false)] 0 #[true, true, true, true, true, true, true, true, true, true, true, true, true, true, true, true] (by rfl) (by kernel_rfl) ?_
 refine FJ.e (goes_sch rfl rfl) rfl (by decide) rfl (e_buildSliceL (ps := [(0, .int .i64 0), (1, .int .i64 3), (2, .int .i64 (-1))]) (cs := [.int .i64 0, .int .i64 3, .int .i64 (-1)]) rfl u_40 (inz inf_2) (by decide) (by intro act hact; simp only [List.map_toArray, List.map_cons, List.map_nil, (show Val _ _ _ from .c) act hact, (show Val _ _ _ from .c) act hact, (show Val _ _ _ from .c) act hact]) rfl rfl (by decide) rfl rfl) ?_
 rintro _ _ ⟨g509, rfl, rfl⟩
 refine FJ.sk (.s4 (.s (.s (.s .z)))) ?_
 refine FJ.turns (c := ownA kSl_2 ([0, 3, (-1)] : (List Int)) [.slice (some ⟨g509, 0, none⟩) 3 3]) (.c .z .n) (fun w S h => lit_own (xs := ([0, 3, (-1)] : (List Int))) h rfl (by simp) (by omega) (by omega)) ?_
 refine FJ.call (goes_sch rfl rfl) rfl (by decide) rfl (c_call rfl Try.func120 rfl rfl (args2 (.t (.s4 (.s .z))) (.t .z))) (.c (.s (.s (.s .z))) .n) (fun w1 S1 hs tr => c_120 (tr.ctx hcd) (tr.own .z) hs (by omega) (by simp)) ?_
 rintro _ _ ⟨m511, hm511, rfl, rfl⟩
 refine FJ.cat (.c .n) ?_
 simp only [List.mem_cons, List.not_mem_nil, or_false] at hm511
 refine FJ.sk (.s4 (.s (.s (.s .z)))) ?_
 refine FJ.turns (c := ownA kSl_2 ([1, 0, 60] : (List Int)) [.slice (some ⟨g508, 0, none⟩) 3 3]) (.c (.s (.s .z)) .n) (fun w S h => lit_own (xs := ([1, 0, 60] : (List Int))) h rfl (by simp) (by omega) (by omega)) ?_
 refine FJ.call (goes_sch rfl rfl) rfl (by decide) rfl (c_call rfl Try.func120 rfl rfl (args2 (.t (.s4 (.s .z))) (.t (.s (.s .z))))) (.c (.s .z) .n) (fun w1 S1 hs tr => c_120 (tr.ctx hcd) (tr.own .z) hs (by omega) (by simp)) ?_
 rintro _ _ ⟨m513, hm513, rfl, rfl⟩
 refine FJ.cat (.c .n) ?_
 simp only [List.mem_cons, List.not_mem_nil, or_false] at hm513
 refine FJ.sk (.s4 (.s (.s (.s .z)))) ?_
 refine FJ.turns (c := ownA kSl_2 ([1, 0, 10000] : (List Int)) [.slice (some ⟨g486, 0, none⟩) 3 3]) (.c (.s (.s (.s .z))) .n) (fun w S h => lit_own (xs := ([1, 0, 10000] : (List Int))) h rfl (by simp) (by omega) (by omega)) ?_
 refine FJ.call (goes_sch rfl rfl) rfl (by decide) rfl (c_call rfl Try.func120 rfl rfl (args2 (.t (.s4 (.s .z))) (.t (.s4 .z)))) (.c (.s .z) .n) (fun w1 S1 hs tr => c_120 (tr.ctx hcd) (tr.own .z) hs (by omega) (by simp)) ?_
 rintro _ _ ⟨m515, hm515, rfl, rfl⟩
 refine FJ.cat (.c .n) ?_
 simp only [List.mem_cons, List.not_mem_nil, or_false] at hm515
 refine FJ.sk (.s4 (.s (.s (.s .z)))) ?_
 refine FJ.dq rfl rfl rfl (by decide) rfl (.s4 (.s (.s (.s .z)))) (q_build (ps := [(0, .int .i64 m511), (1, .int .i64 m513), (2, .int .i64 m515)]) (cs := [.int .i64 m511, .int .i64 m513, .int .i64 m515]) rfl bl_135 (by intro act hact; simp only [List.map_toArray, List.map_cons, List.map_nil, (show Val _ _ _ from (.t (.s (.s .z)))) act hact, (show Val _ _ _ from (.t (.s .z))) act hact, (show Val _ _ _ from (.t .z)) act hact]) rfl) ?_
 refine FJ.e (goes_sch rfl rfl) rfl (by decide) rfl (e_buildSliceL (ps := [(0, .agg #[.int .i64 m511, .int .i64 m513, .int .i64 m515])]) (cs := [.int .i64 m511, .int .i64 m513, .int .i64 m515]) rfl u_41 (inz inf_135) (by decide) (by intro act hact; simp only [List.map_toArray, List.map_cons, List.map_nil, (show Val _ _ _ from (.t .z)) act hact]) rfl rfl (by decide) rfl rfl) ?_
 rintro _ _ ⟨g516, rfl, rfl⟩
 refine FJ.sk (.s4 (.s4 .z)) ?_
 refine FJ.turns (c := ownA kT_135 (⟨m511, m513, m515⟩ : DExt) [.int .i64 m511, .int .i64 m513, .int .i64 m515]) .n (fun w S h => kT_135_omk (⟨m511, m513, m515⟩ : DExt) h) ?_
 refine FJ.e (goes_sch rfl rfl) rfl (by decide) rfl (e_append1 rfl u_41 inf_135 rfl (.t (.s4 (.s4 (.s (.s (.s .z)))))) (.t .z) (.c (.s4 (.s (.s .z))) (.c (.s .z) (.c .z .n))) (by first | omega | (simp only [List.length_append, List.length_cons, List.length_nil, List.length_replicate]; omega)) (by first | omega | (simp only [List.length_append, List.length_cons, List.length_nil, List.length_replicate]; omega))) ?_
 rintro _ _ rfl
 refine FJ.know (WS.oform .z) ?_
 rintro ⟨Ao518, co518, rfl, hlo518, hmo518, hbo518⟩
 refine FJ.sk (.s4 (.s (.s (.s .z)))) ?_
 refine FJ.dq rfl rfl rfl (by decide) rfl (.s4 (.s (.s (.s .z)))) (q_fieldAddr rfl (.t (.s16 (.s4 (.s (.s (.s .z)))))) (fun _ => fa_43_1 _ _)) ?_
 refine FJ.es (goes_sch rfl rfl) rfl (es_store (off := 2) (cs := [.slice Ao518 (E.exts ++ [(⟨m511, m513, m515⟩ : DExt)]).length co518]) rfl sz_41 (.t .z) (.t (.s .z)) rfl (ones rfl) (.s4 (.s (.s (.s .z)))) (Nat.le_of_ble_eq_true rfl) (.c (.s (.s .z)) .n)) ?_
 refine FJ.sl rfl ?_
 refine FJ.schN ?_
 refine FJ.drawN (by kernel_rfl) ?_
 refine FJ.inBN (FJ.then_ (FJ.seq (FJ.region ?_)))
 refine FJ.ql rfl (q_loadA (cs := [.slice Agq0 E.disk.blocks.length cgq0, .slice Agq1 E.disk.cache.length cgq1, .slice Ao518 (E.exts ++ [(⟨m511, m513, m515⟩ : DExt)]).length co518]) rfl ag_43 sz_43 (.t (.s16 (.s4 (.s4 .z)))) (WS.rows0 .z (fun i u h => by exact h))) ?_
 refine FJ.es (goes_list rfl) rfl (es_store (off := 0) (cs := [.slice Agq0 E.disk.blocks.length cgq0, .slice Agq1 E.disk.cache.length cgq1, .slice Ao518 (E.exts ++ [(⟨m511, m513, m515⟩ : DExt)]).length co518]) rfl sz_43 (.t (.s16 (.s4 (.s4 (.s (.s .z)))))) (.t .z) rfl (ones rfl) (.s4 (.s4 .z)) (Nat.le_of_ble_eq_true rfl) (.c .z (.c (.s .z) (.c (.s (.s .z)) .n)))) ?_
 refine FJ.nil (FJ.then_ (FJ.ret ?_))
 refine FJ.doneS (resC (cs := [.slice Agq0 E.disk.blocks.length cgq0, .slice Agq1 E.disk.cache.length cgq1, .slice Ao518 (E.exts ++ [(⟨m511, m513, m515⟩ : DExt)]).length co518]) rfl (.s16 (.s4 (.s4 (.s (.s .z))))) ag_43 sz_43 (WS.rows0 (cs := [.slice Agq0 E.disk.blocks.length cgq0, .slice Agq1 E.disk.cache.length cgq1, .slice Ao518 (E.exts ++ [(⟨m511, m513, m515⟩ : DExt)]).length co518]) .z (fun _ _ h => h))) (.c (.s4 (.s (.s (.s .z)))) (.c (.s4 (.s (.s (.s .z)))) (.c (.s (.s .z)) (.c (.s (.s .z)) .n)))) ?_
 exact ⟨⟨⟨E.disk.blocks, E.disk.cache⟩, E.exts ++ [(⟨m511, m513, m515⟩ : DExt)]⟩, _, _, _, _, ⟨by first | omega | (dsimp only; omega) | (simp only [List.length_append, List.length_cons, List.length_nil, List.length_replicate]; omega), by first | omega | (dsimp only; omega) | (simp only [List.length_append, List.length_cons, List.length_nil, List.length_replicate]; omega), by first | omega | (dsimp only; omega) | (simp only [List.length_append, List.length_cons, List.length_nil, List.length_replicate]; omega), by omega, by omega⟩, rfl, rfl⟩
 refine FJ.seq (FJ.region (FJ.ql rfl (q_eql rfl (.t (.s4 .z)) .c) (FJ.ql rfl (q_assign rfl (.t .z)) (FJ.nil ?_))))
 refine FJ.then_ ?_
 refine FJ.condP (.t .z) (fun b519 => ?_) (fun b519 => ?_)
 refine FJ.region ?_
 refine FJ.e (goes_list rfl) rfl (by decide) rfl (e_makeSlice (n := 9) (x0 := (⟨0, 0, 0⟩ : DExt)) rfl u_41 inf_135 rfl (fun w S => zero_135 w S) .c .c (by omega) (by omega)) ?_
 rintro _ _ rfl
 refine FJ.know (WS.oform .z) ?_
 rintro ⟨Ao521, co521, rfl, hlo521, hmo521, hbo521⟩
 refine FJ.ql rfl (q_fieldAddr rfl (.t (.s4 (.s4 (.s4 .z)))) (fun _ => fa_43_1 _ _)) ?_
 refine FJ.es (goes_list rfl) rfl (es_store (off := 2) (cs := [.slice Ao521 (List.replicate 9 (⟨0, 0, 0⟩ : DExt)).length co521]) rfl sz_41 (.t .z) (.t (.s .z)) rfl (ones rfl) (.s (.s (.s .z))) (Nat.le_of_ble_eq_true rfl) (.c (.s (.s .z)) .n)) ?_
 refine FJ.nil (FJ.inBN (FJ.then_ (FJ.seq (FJ.region ?_))))
 refine FJ.ql rfl (q_loadA (cs := [.slice Agq0 E.disk.blocks.length cgq0, .slice Agq1 E.disk.cache.length cgq1, .slice Ao521 (List.replicate 9 (⟨0, 0, 0⟩ : DExt)).length co521]) rfl ag_43 sz_43 (.t (.s4 (.s4 (.s4 (.s .z))))) (WS.rows0 .z (fun i u h => by exact h))) ?_
 refine FJ.es (goes_list rfl) rfl (es_store (off := 0) (cs := [.slice Agq0 E.disk.blocks.length cgq0, .slice Agq1 E.disk.cache.length cgq1, .slice Ao521 (List.replicate 9 (⟨0, 0, 0⟩ : DExt)).length co521]) rfl sz_43 (.t (.s4 (.s4 (.s4 (.s (.s (.s .z))))))) (.t .z) rfl (ones rfl) (.s4 (.s (.s .z))) (Nat.le_of_ble_eq_true rfl) (.c .z (.c (.s .z) (.c (.s (.s .z)) .n)))) ?_
 refine FJ.nil (FJ.then_ (FJ.ret ?_))
 refine FJ.doneS (resC (cs := [.slice Agq0 E.disk.blocks.length cgq0, .slice Agq1 E.disk.cache.length cgq1, .slice Ao521 (List.replicate 9 (⟨0, 0, 0⟩ : DExt)).length co521]) rfl (.s4 (.s4 (.s4 (.s (.s (.s .z)))))) ag_43 sz_43 (WS.rows0 (cs := [.slice Agq0 E.disk.blocks.length cgq0, .slice Agq1 E.disk.cache.length cgq1, .slice Ao521 (List.replicate 9 (⟨0, 0, 0⟩ : DExt)).length co521]) .z (fun _ _ h => h))) (.c (.s4 (.s .z)) (.c (.s4 (.s .z)) (.c (.s (.s .z)) (.c (.s (.s .z)) .n)))) ?_
 exact ⟨⟨⟨E.disk.blocks, E.disk.cache⟩, List.replicate 9 (⟨0, 0, 0⟩ : DExt)⟩, _, _, _, _, ⟨by first | omega | (dsimp only; omega) | (simp only [List.length_append, List.length_cons, List.length_nil, List.length_replicate]; omega), by first | omega | (dsimp only; omega) | (simp only [List.length_append, List.length_cons, List.length_nil, List.length_replicate]; omega), by first | omega | (dsimp only; omega) | (simp only [List.length_append, List.length_cons, List.length_nil, List.length_replicate]; omega), by omega, by omega⟩, rfl, rfl⟩
 refine FJ.skip (FJ.inBN (FJ.then_ (FJ.seq (FJ.region ?_))))
 refine FJ.ql rfl (q_loadA (cs := [.slice Agq0 E.disk.blocks.length cgq0, .slice Agq1 E.disk.cache.length cgq1, .slice Agq2 E.exts.length cgq2]) rfl ag_43 sz_43 (.t (.s4 (.s4 (.s (.s (.s .z)))))) (WS.rows0 (.s (.s .z)) (fun i u h => by exact h))) ?_
 refine FJ.es (goes_list rfl) rfl (es_store (off := 0) (cs := [.slice Agq0 E.disk.blocks.length cgq0, .slice Agq1 E.disk.cache.length cgq1, .slice Agq2 E.exts.length cgq2]) rfl sz_43 (.t (.s4 (.s4 (.s4 (.s .z))))) (.t .z) rfl (ones rfl) (.s4 (.s .z)) (Nat.le_of_ble_eq_true rfl) (.c .z (.c (.s .z) (.c (.s (.s .z)) .n)))) ?_
 refine FJ.nil (FJ.then_ (FJ.ret ?_))
 refine FJ.doneS (resC (cs := [.slice Agq0 E.disk.blocks.length cgq0, .slice Agq1 E.disk.cache.length cgq1, .slice Agq2 E.exts.length cgq2]) rfl (.s4 (.s4 (.s4 (.s .z)))) ag_43 sz_43 (WS.rows0 (cs := [.slice Agq0 E.disk.blocks.length cgq0, .slice Agq1 E.disk.cache.length cgq1, .slice Agq2 E.exts.length cgq2]) .z (fun _ _ h => h))) (.c (.s4 .z) (.c (.s4 .z) (.c (.s (.s .z)) (.c (.s .z) .n)))) ?_
 exact ⟨⟨⟨E.disk.blocks, E.disk.cache⟩, E.exts⟩, _, _, _, _, ⟨by first | omega | (dsimp only; omega) | (simp only [List.length_append, List.length_cons, List.length_nil, List.length_replicate]; omega), by first | omega | (dsimp only; omega) | (simp only [List.length_append, List.length_cons, List.length_nil, List.length_replicate]; omega), by first | omega | (dsimp only; omega) | (simp only [List.length_append, List.length_cons, List.length_nil, List.length_replicate]; omega), by omega, by omega⟩, rfl, rfl⟩

end Go.Proofs.Ytkmcpcahbfdohaa

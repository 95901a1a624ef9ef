/- What is proved: contracts of functions, one a function. No condition. -/
import Derived.Test.YtkmcpcahbfdohaaW44
import Derived.Test.YtkmcpcahbfdohaaBase2
namespace Go.Proofs.Ytkmcpcahbfdohaa
open Go Go.RowKit
set_option linter.unusedVariables false
set_option linter.unusedSimpArgs false
set_option maxHeartbeats 1000000 in
set_option maxRecDepth 20000 in
theorem c_131 {w0 : World} {S0 : Bs} {cd : (List UInt8)} {v0 : Value} (h0 : kSl_5.ro w0 (FF w0 S0) cd [v0])  :
    Calls Try.prog 131 #[v0] w0 (TriPost w0 S0 (fun r l => ∃ (x : DKern) (w0_ w1_ w2_ : Value) (n0_ : Int) (n1_ : Int), (x.disk.blocks.length ≤ 61 ∧ x.disk.cache.length ≤ 201 ∧ x.exts.length ≤ 9) ∧ r = .tuple #[.agg #[w0_, w1_, w2_], .int .i64 n0_, .int .i64 n1_] ∧ l = [ownA kSl_40 x.disk.blocks [w0_], ownA kSl_57 x.disk.cache [w1_], ownA kSl_135 x.exts [w2_]])) := by
 obtain ⟨A0, c0, rfl, hl0, hm0, hb0, he0⟩ := ro_form h0
 refine FJ.enter (N := 50) Try.func131 rfl rfl (by simp) [(0, .slice A0 cd.length c0)] (by simp) (l0 := []) trivial ?_
 refine FJ.seq (FJ.region ?_)
 refine FJ.e (goes_list rfl) rfl (by decide) rfl (e_alloc rfl z_43 rfl rfl) ?_
 rintro _ _ ⟨g2, rfl, rfl⟩
 refine FJ.ql rfl (q_assign rfl .c) (FJ.ql rfl (q_assign rfl .c) (FJ.nil (FJ.then_ (FJ.seq ?_))))
 refine FJ.region (FJ.ql rfl (q_move rfl (.t (.s (.s (.s .z))))) ?_)
 refine FJ.call (goes_list rfl) rfl (by decide) rfl (c_call rfl Try.func92 rfl rfl (args1 (.t .z))) .n (fun w1 S1 hs tr => c_92 (tr.ctx h0)) ?_
 rintro _ _ ⟨g3, rfl, rfl⟩
 refine FJ.cat (.c .n) ?_
 refine FJ.ql rfl (q_assign rfl (.t .z)) (FJ.nil (FJ.then_ (FJ.seq (FJ.region ?_))))
 refine FJ.ql rfl (q_move rfl (.t .z)) ?_
 refine FJ.call (goes_list rfl) rfl (by decide) rfl (c_call rfl Try.func119 rfl rfl (args1 (.t .z))) (.c .z .n) (fun w1 S1 hs tr => c_119 (tr.ctx h0) hs (by omega)) ?_
 rintro _ _ ⟨kn4, v6, v8, v10, u5, hzkn4, rfl, rfl⟩
 refine FJ.cat (.c (.c (.c (.c .n)))) ?_
 refine FJ.know (WS.oform .z) ?_
 rintro ⟨Ao12, co12, rfl, hlo12, hmo12, hbo12⟩
 refine FJ.know (WS.oform (.s .z)) ?_
 rintro ⟨Ao13, co13, rfl, hlo13, hmo13, hbo13⟩
 refine FJ.know (WS.oform (.s (.s .z))) ?_
 rintro ⟨Ao14, co14, rfl, hlo14, hmo14, hbo14⟩
 refine FJ.e (goes_list rfl) rfl (by decide) rfl (e_alloc rfl z_43 rfl rfl) ?_
 rintro _ _ ⟨g15, rfl, rfl⟩
 refine FJ.es (goes_list rfl) rfl (es_store (off := 0) (cs := [.slice Ao12 kn4.disk.blocks.length co12, .slice Ao13 kn4.disk.cache.length co13, .slice Ao14 kn4.exts.length co14]) rfl sz_43 (.t .z) (.t (.s .z)) rfl (ones rfl) .z (Nat.le_of_ble_eq_true rfl) (.c .z (.c (.s .z) (.c (.s (.s .z)) .n)))) ?_
 refine FJ.nil (FJ.then_ (FJ.seq (FJ.region (FJ.ql rfl (q_move rfl (.t (.s (.s (.s .z))))) ?_))))
 refine FJ.ql rfl (q_fieldAddr rfl (.t (.s .z)) (fun _ => fa_43_0 _ _)) (FJ.ql rfl (q_fieldAddrA (k := 0) rfl (.t .z) (fun _ => fa_25_0 _ _) rfl) (FJ.ql rfl (q_load rfl ag_22 (.t .z) (WS.row .z rfl)) (FJ.ql rfl (q_len rfl u_22 (.t .z)) ?_)))
 refine FJ.ql rfl (q_add (c := ((kn4.disk.blocks.length + 2 : Nat) : Int)) rfl (.t .z) .c (wr (by omega) (by omega) (by omega))) ?_
 refine FJ.call (goes_list rfl) rfl (by decide) rfl (c_call rfl Try.func95 rfl rfl (args2 (.t (.s4 (.s .z))) (.t .z))) (.c (.s4 .z) .n) (fun w1 S1 hs tr => c_95 (tr.ctx h0) _ hs (by omega) (by omega)) ?_
 rintro _ _ ⟨m16, h0m16, h1m16, rfl, rfl⟩
 refine FJ.cat (.c .n) ?_
 refine FJ.ql rfl (q_sub (c := m16 - 1) rfl (.t .z) .c (wr (by omega) (by omega) (by omega))) ?_
 refine FJ.ql rfl (q_assign rfl (.t .z)) (FJ.nil (FJ.then_ (FJ.seq (FJ.region ?_))))
 refine FJ.ql rfl (q_move rfl (.t (.s4 (.s4 (.s4 .z))))) ?_
 refine FJ.call (goes_list rfl) rfl (by decide) rfl (c_call rfl Try.func95 rfl rfl (args2 (.t .z) .c)) (.c .z .n) (fun w1 S1 hs tr => c_95 (tr.ctx h0) _ hs (by omega) (by omega)) ?_
 rintro _ _ ⟨m17, h0m17, h1m17, rfl, rfl⟩
 refine FJ.cat (.c .n) ?_
 refine FJ.ql rfl (q_add (c := 1 + m17) rfl .c (.t .z) (wr (by omega) (by omega) (by omega))) ?_
 refine FJ.ql rfl (q_assign rfl (.t .z)) (FJ.nil (FJ.then_ (FJ.seq (FJ.seq ?_))))
 refine FJ.region (FJ.ql rfl (q_fieldAddr rfl (.t (.s4 (.s4 (.s4 (.s .z))))) (fun _ => fa_43_1 _ _)) (FJ.ql rfl (q_load rfl ag_41 (.t .z) (WS.row (.s .z) rfl)) (FJ.ql rfl (q_len rfl u_41 (.t .z)) (FJ.ql rfl (q_gtr rfl (.t .z) .c) ?_))))
 refine FJ.ql rfl (q_move rfl (.t .z)) ?_
 refine FJ.caseP .z (fun g18 => ?_) (fun g18 => ?_)
 refine FJ.q (goes_listg rfl rfl .z) rfl (by decide) rfl (q_move rfl (.t (.s16 (.s4 (.s .z))))) ?_
 refine FJ.call (goes_listg rfl rfl (.s .z)) rfl (by decide) rfl (c_call rfl Try.func146 rfl rfl (args2 (.t .z) .c)) (.c .z .n) (fun w1 S1 hs tr => c_146 (tr.ctx h0) _ hs (by omega) (by omega)) ?_
 rintro _ _ ⟨b19, rfl, rfl⟩
 refine FJ.cat (.c .n) ?_
 refine FJ.ql rfl (q_pickT rfl (.t (.s (.s .z))) (.t .z)) (FJ.nil (FJ.then_ ?_))
 refine FJ.cond (.t .z) (fun b20 => ?_) (fun b20 => ?_)
 refine FJ.seq ?_
 refine FJ.sel (.c .z (.c (.s4 .z) (.c .z (.c .z (.c .z (.c .z .n)))))) ?_
 refine FJ.draw [rowA g15 43 3 1 [.slice Ao12 kn4.disk.blocks.length co12, .slice Ao13 kn4.disk.cache.length co13, .slice Ao14 kn4.exts.length co14], ownA kSl_40 kn4.disk.blocks [.slice Ao12 kn4.disk.blocks.length co12], ownA kSl_57 kn4.disk.cache [.slice Ao13 kn4.disk.cache.length co13], ownA kSl_135 kn4.exts [.slice Ao14 kn4.exts.length co14]] 10 (by kernel_rfl) ?_
 refine FJ.sch [(0, true), (1, true), (2, true), (3, true), (4, true), (5, true)] 5 #[true, true, true, true, true, true, false, false, false, false, false] (by rfl) (by kernel_rfl) ?_
 refine FJ.dq rfl rfl rfl (by decide) rfl (.s (.s .z)) (q_fieldAddr rfl (.t (.s16 (.s4 (.s .z)))) (fun _ => fa_43_1 _ _)) (FJ.dq rfl rfl rfl (by decide) rfl (.s (.s .z)) (q_load rfl ag_41 (.t .z) (WS.row .z rfl)) (FJ.dq rfl rfl rfl (by decide) rfl (.s (.s .z)) (q_move rfl (.t (.s16 (.s4 (.s4 (.s (.s .z))))))) (FJ.dq rfl rfl rfl (by decide) rfl (.s (.s .z)) (q_fieldAddr rfl (.t (.s16 (.s4 (.s4 .z)))) (fun _ => fa_43_1 _ _)) (FJ.dq rfl rfl rfl (by decide) rfl (.s (.s .z)) (q_load rfl ag_41 (.t .z) (WS.row .z rfl)) ?_))))
 refine FJ.dq rfl rfl rfl (by decide) rfl (.s (.s .z)) (q_len rfl u_41 (.t .z)) (FJ.schN ?_)
 refine FJ.fork2 (i := 6) (j := 9) (by kernel_rfl) ?_ ?_
 refine FJ.call (goes_sch rfl rfl) rfl (by decide) rfl (c_call rfl Try.func95 rfl rfl (args2 (.t (.s (.s (.s .z)))) (.t .z))) (.c .z .n) (fun w1 S1 hs tr => c_95 (tr.ctx h0) _ hs (by omega) (by omega)) ?_
 rintro _ _ ⟨m21, h0m21, h1m21, rfl, rfl⟩
 refine FJ.cat (.c .n) ?_
 refine FJ.sk (.s (.s .z)) ?_
 refine FJ.schN ?_
 refine FJ.sch [(7, true), (8, true), (9, false), (10, false)] 0 #[true, true, true, true, true, true, true, true, true, true, true] (by rfl) (by kernel_rfl) ?_
 refine FJ.know (WS.oad (.s4 (.s .z)) (by omega)) ?_
 rintro ⟨ad22, rfl⟩
 refine FJ.dq rfl rfl rfl (by decide) rfl (.s (.s .z)) (q_indexAddr (j := Int.toNat m21) rfl u_41 sz_135 (.t (.s4 (.s .z))) (.t .z) (by omega) (by omega)) ?_
 obtain ⟨x23, hx23⟩ := get_ex (xs := kn4.exts) (j := Int.toNat m21) (by omega)
 refine FJ.dq rfl rfl rfl (by decide) rfl (.s (.s .z)) (q_loadA (cs := [.int .i64 x23.frm, .int .i64 x23.cnt, .int .i64 x23.key]) rfl ag_135 sz_135 (.t .z) (WS.oels (K := kT_135) (fun w F ecs h => kT_135_ro h) (.s (.s (.s .z))) hx23)) ?_
 refine FJ.e (goes_sch rfl rfl) rfl (by decide) rfl (e_alloc rfl z_135 rfl rfl) ?_
 rintro _ _ ⟨g24, rfl, rfl⟩
 refine FJ.sk (.s (.s (.s .z))) ?_
 refine FJ.es (goes_sch rfl rfl) rfl (es_store (off := 0) (cs := [.int .i64 x23.frm, .int .i64 x23.cnt, .int .i64 x23.key]) rfl sz_135 (.t .z) (.t (.s .z)) rfl (ones rfl) .z (Nat.le_of_ble_eq_true rfl) (.c .z (.c (.s .z) (.c (.s (.s .z)) .n)))) ?_
 refine FJ.sl rfl ?_
 refine FJ.schN ?_
 refine FJ.drawN (by kernel_rfl) ?_
 refine FJ.then_ (FJ.seq ?_)
 refine FJ.sel (.c (.s .z) (.c (.s .z) (.c .z (.c .z (.c .z (.c .z (.c .z .n))))))) ?_
 refine FJ.draw [rowA g24 135 3 1 [.int .i64 x23.frm, .int .i64 x23.cnt, .int .i64 x23.key], rowA g15 43 3 1 [.slice Ao12 kn4.disk.blocks.length co12, .slice Ao13 kn4.disk.cache.length co13, .slice (some ad22) kn4.exts.length co14], ownA kSl_40 kn4.disk.blocks [.slice Ao12 kn4.disk.blocks.length co12], ownA kSl_57 kn4.disk.cache [.slice Ao13 kn4.disk.cache.length co13], ownA kSl_135 kn4.exts [.slice (some ad22) kn4.exts.length co14]] 7 (by kernel_rfl) ?_
 refine FJ.sch [(0, true), (1, true), (2, true), (3, true), (4, true), (5, false), (6, true), (7, false)] 0 #[true, true, true, true, true, true, true, true] (by rfl) (by kernel_rfl) ?_
 refine FJ.dq rfl rfl rfl (by decide) rfl (.s (.s .z)) (q_loadA (cs := [.slice Ao12 kn4.disk.blocks.length co12, .slice Ao13 kn4.disk.cache.length co13, .slice (some ad22) kn4.exts.length co14]) rfl ag_43 sz_43 (.t (.s16 (.s4 (.s4 (.s4 (.s (.s (.s .z)))))))) (WS.rows0 (.s .z) (fun i u h => by exact h))) ?_
 refine FJ.dq rfl rfl rfl (by decide) rfl (.s (.s .z)) (q_fieldAddr rfl (.t (.s .z)) (fun _ => fa_135_2 _ _)) (FJ.dq rfl rfl rfl (by decide) rfl (.s (.s .z)) (q_load rfl ag_2 (.t .z) (WS.row .z rfl)) (FJ.dq rfl rfl rfl (by decide) rfl (.s (.s .z)) (q_fieldAddr rfl (.t (.s (.s (.s .z)))) (fun _ => fa_135_0 _ _)) (FJ.dq rfl rfl rfl (by decide) rfl (.s (.s .z)) (q_load rfl ag_2 (.t .z) (WS.row .z rfl)) ?_)))
 refine FJ.es (goes_sch rfl rfl) rfl (es_store (off := 0) (cs := [.slice Ao12 kn4.disk.blocks.length co12, .slice Ao13 kn4.disk.cache.length co13, .slice (some ad22) kn4.exts.length co14]) rfl sz_43 (.t (.s16 (.s16 (.s4 (.s4 (.s4 .z)))))) (.t (.s4 .z)) rfl (ones rfl) (.s .z) (Nat.le_of_ble_eq_true rfl) (.c .z (.c (.s .z) (.c (.s (.s .z)) .n)))) ?_
 refine FJ.sk (.s (.s .z)) ?_
 refine FJ.er (.s16 (.s16 (.s4 (.s4 (.s (.s (.s .z))))))) (FJ.dq rfl rfl rfl (by decide) rfl (.s (.s .z)) (q_assign rfl (.t (.s (.s .z)))) (FJ.er (.s16 (.s16 (.s4 (.s4 (.s (.s (.s .z))))))) ?_))
 refine FJ.q (goes_sch rfl rfl) rfl (by decide) rfl (q_assign rfl (.t (.s .z))) ?_
 refine FJ.sl rfl ?_
 refine FJ.schN ?_
 refine FJ.drawN (by kernel_rfl) ?_
 refine FJ.then_ (FJ.ret (FJ.thenR ?_))
 refine FJ.doneS (res_ctt (cs := [.slice Ao12 kn4.disk.blocks.length co12, .slice Ao13 kn4.disk.cache.length co13, .slice (some ad22) kn4.exts.length co14]) rfl (.s16 (.s16 (.s4 (.s4 (.s4 .z))))) ag_43 sz_43 (WS.rows0 (cs := [.slice Ao12 kn4.disk.blocks.length co12, .slice Ao13 kn4.disk.cache.length co13, .slice (some ad22) kn4.exts.length co14]) .z (fun _ _ h => h)) (.s .z) .z) (.c (.s4 .z) (.c (.s4 .z) (.c (.s4 .z) .n))) ?_
 exact ⟨⟨⟨kn4.disk.blocks, kn4.disk.cache⟩, kn4.exts⟩, _, _, _, _, _, ⟨by first | omega | (dsimp only; omega), by first | omega | (dsimp only; omega), by first | omega | (dsimp only; omega)⟩, rfl, rfl⟩
 refine FJ.e (goes_sch rfl rfl) rfl (by decide) rfl (e_alloc rfl z_135 rfl rfl) ?_
 rintro _ _ ⟨g25, rfl, rfl⟩
 refine FJ.sk (.s (.s (.s .z))) ?_
 refine FJ.schN ?_
 refine FJ.sch [(6, false), (7, false), (8, false), (10, false)] 0 #[true, true, true, true, true, true, true, true, true, true, true] (by rfl) (by kernel_rfl) ?_
 refine FJ.call (goes_sch rfl rfl) rfl (by decide) rfl (c_call rfl Try.func95 rfl rfl (args2 (.t (.s4 .z)) (.t (.s .z)))) (.c (.s .z) .n) (fun w1 S1 hs tr => c_95 (tr.ctx h0) _ hs (by omega) (by omega)) ?_
 rintro _ _ ⟨m26, h0m26, h1m26, rfl, rfl⟩
 refine FJ.cat (.c .n) ?_
 refine FJ.sk (.s (.s (.s .z))) ?_
 refine FJ.know (WS.oad (.s4 (.s (.s .z))) (by omega)) ?_
 rintro ⟨ad27, rfl⟩
 refine FJ.q (goes_sch rfl rfl) rfl (by decide) rfl (q_indexAddr (j := Int.toNat m26) rfl u_41 sz_135 (.t (.s4 (.s (.s .z)))) (.t .z) (by omega) (by omega)) ?_
 refine FJ.sk (.s (.s (.s .z))) ?_
 obtain ⟨x28, hx28⟩ := get_ex (xs := kn4.exts) (j := Int.toNat m26) (by omega)
 refine FJ.q (goes_sch rfl rfl) rfl (by decide) rfl (q_loadA (cs := [.int .i64 x28.frm, .int .i64 x28.cnt, .int .i64 x28.key]) rfl ag_135 sz_135 (.t .z) (WS.oels (K := kT_135) (fun w F ecs h => kT_135_ro h) (.s4 (.s (.s .z))) hx28)) ?_
 refine FJ.sk (.s (.s (.s .z))) ?_
 refine FJ.es (goes_sch rfl rfl) rfl (es_store (off := 0) (cs := [.int .i64 x28.frm, .int .i64 x28.cnt, .int .i64 x28.key]) rfl sz_135 (.t (.s (.s (.s .z)))) (.t .z) rfl (ones rfl) (.s .z) (Nat.le_of_ble_eq_true rfl) (.c .z (.c (.s .z) (.c (.s (.s .z)) .n)))) ?_
 refine FJ.sl rfl ?_
 refine FJ.schN ?_
 refine FJ.drawN (by kernel_rfl) ?_
 refine FJ.then_ (FJ.seq ?_)
 refine FJ.sel (.c (.s .z) (.c (.s .z) (.c .z (.c .z (.c .z (.c .z (.c .z .n))))))) ?_
 refine FJ.draw [rowA g25 135 3 1 [.int .i64 x28.frm, .int .i64 x28.cnt, .int .i64 x28.key], rowA g15 43 3 1 [.slice Ao12 kn4.disk.blocks.length co12, .slice Ao13 kn4.disk.cache.length co13, .slice (some ad27) kn4.exts.length co14], ownA kSl_40 kn4.disk.blocks [.slice Ao12 kn4.disk.blocks.length co12], ownA kSl_57 kn4.disk.cache [.slice Ao13 kn4.disk.cache.length co13], ownA kSl_135 kn4.exts [.slice (some ad27) kn4.exts.length co14]] 7 (by kernel_rfl) ?_
 refine FJ.sch [(0, true), (1, true), (2, true), (3, true), (4, true), (5, false), (6, true), (7, false)] 0 #[true, true, true, true, true, true, true, true] (by rfl) (by kernel_rfl) ?_
 refine FJ.dq rfl rfl rfl (by decide) rfl (.s (.s .z)) (q_loadA (cs := [.slice Ao12 kn4.disk.blocks.length co12, .slice Ao13 kn4.disk.cache.length co13, .slice (some ad27) kn4.exts.length co14]) rfl ag_43 sz_43 (.t (.s16 (.s4 (.s4 (.s4 (.s (.s (.s .z)))))))) (WS.rows0 (.s .z) (fun i u h => by exact h))) ?_
 refine FJ.dq rfl rfl rfl (by decide) rfl (.s (.s .z)) (q_fieldAddr rfl (.t (.s4 .z)) (fun _ => fa_135_2 _ _)) (FJ.dq rfl rfl rfl (by decide) rfl (.s (.s .z)) (q_load rfl ag_2 (.t .z) (WS.row .z rfl)) (FJ.dq rfl rfl rfl (by decide) rfl (.s (.s .z)) (q_fieldAddr rfl (.t (.s4 (.s (.s .z)))) (fun _ => fa_135_0 _ _)) (FJ.dq rfl rfl rfl (by decide) rfl (.s (.s .z)) (q_load rfl ag_2 (.t .z) (WS.row .z rfl)) ?_)))
 refine FJ.es (goes_sch rfl rfl) rfl (es_store (off := 0) (cs := [.slice Ao12 kn4.disk.blocks.length co12, .slice Ao13 kn4.disk.cache.length co13, .slice (some ad27) kn4.exts.length co14]) rfl sz_43 (.t (.s16 (.s16 (.s4 (.s4 (.s4 .z)))))) (.t (.s4 .z)) rfl (ones rfl) (.s .z) (Nat.le_of_ble_eq_true rfl) (.c .z (.c (.s .z) (.c (.s (.s .z)) .n)))) ?_
 refine FJ.sk (.s (.s .z)) ?_
 refine FJ.er (.s16 (.s16 (.s4 (.s4 (.s (.s (.s .z))))))) (FJ.dq rfl rfl rfl (by decide) rfl (.s (.s .z)) (q_assign rfl (.t (.s (.s .z)))) (FJ.er (.s16 (.s16 (.s4 (.s4 (.s (.s (.s .z))))))) ?_))
 refine FJ.q (goes_sch rfl rfl) rfl (by decide) rfl (q_assign rfl (.t (.s .z))) ?_
 refine FJ.sl rfl ?_
 refine FJ.schN ?_
 refine FJ.drawN (by kernel_rfl) ?_
 refine FJ.then_ (FJ.ret (FJ.thenR ?_))
 refine FJ.doneS (res_ctt (cs := [.slice Ao12 kn4.disk.blocks.length co12, .slice Ao13 kn4.disk.cache.length co13, .slice (some ad27) kn4.exts.length co14]) rfl (.s16 (.s16 (.s4 (.s4 (.s4 .z))))) ag_43 sz_43 (WS.rows0 (cs := [.slice Ao12 kn4.disk.blocks.length co12, .slice Ao13 kn4.disk.cache.length co13, .slice (some ad27) kn4.exts.length co14]) .z (fun _ _ h => h)) (.s .z) .z) (.c (.s4 .z) (.c (.s4 .z) (.c (.s4 .z) .n))) ?_
 exact ⟨⟨⟨kn4.disk.blocks, kn4.disk.cache⟩, kn4.exts⟩, _, _, _, _, _, ⟨by first | omega | (dsimp only; omega), by first | omega | (dsimp only; omega), by first | omega | (dsimp only; omega)⟩, rfl, rfl⟩
 refine FJ.skip (FJ.then_ (FJ.seq (FJ.region ?_)))
 refine FJ.ql rfl (q_loadA (cs := [.slice Ao12 kn4.disk.blocks.length co12, .slice Ao13 kn4.disk.cache.length co13, .slice Ao14 kn4.exts.length co14]) rfl ag_43 sz_43 (.t (.s16 (.s4 (.s .z)))) (WS.rows0 (.s .z) (fun i u h => by exact h))) ?_
 refine FJ.ql rfl (q_move rfl (.t (.s4 (.s4 (.s .z))))) (FJ.ql rfl (q_move rfl (.t (.s4 (.s4 (.s4 (.s (.s .z))))))) ?_)
 refine FJ.es (goes_list rfl) rfl (es_store (off := 0) (cs := [.slice Ao12 kn4.disk.blocks.length co12, .slice Ao13 kn4.disk.cache.length co13, .slice Ao14 kn4.exts.length co14]) rfl sz_43 (.t (.s16 (.s16 .z))) (.t (.s (.s .z))) rfl (ones rfl) (.s4 (.s .z)) (Nat.le_of_ble_eq_true rfl) (.c .z (.c (.s .z) (.c (.s (.s .z)) .n)))) ?_
 refine FJ.er (.s16 (.s4 (.s4 (.s4 (.s (.s (.s .z))))))) (FJ.ql rfl (q_assign rfl (.t (.s .z))) (FJ.er (.s16 (.s4 (.s4 (.s4 (.s (.s (.s .z))))))) (FJ.ql rfl (q_assign rfl (.t (.s .z))) (FJ.nil ?_))))
 refine FJ.then_ (FJ.ret ?_)
 refine FJ.doneS (res_ctt (cs := [.slice Ao12 kn4.disk.blocks.length co12, .slice Ao13 kn4.disk.cache.length co13, .slice Ao14 kn4.exts.length co14]) rfl (.s16 (.s16 .z)) ag_43 sz_43 (WS.rows0 (cs := [.slice Ao12 kn4.disk.blocks.length co12, .slice Ao13 kn4.disk.cache.length co13, .slice Ao14 kn4.exts.length co14]) .z (fun _ _ h => h)) (.s .z) .z) (.c (.s (.s (.s .z))) (.c (.s (.s (.s .z))) (.c (.s (.s (.s .z))) .n))) ?_
 exact ⟨⟨⟨kn4.disk.blocks, kn4.disk.cache⟩, kn4.exts⟩, _, _, _, _, _, ⟨by first | omega | (dsimp only; omega), by first | omega | (dsimp only; omega), by first | omega | (dsimp only; omega)⟩, rfl, rfl⟩
 refine FJ.skipl rfl rfl .z rfl rfl (by decide) rfl ?_
 refine FJ.skipl rfl rfl (.s .z) rfl rfl (by decide) rfl ?_
 refine FJ.ql rfl (q_pickF rfl (.t (.s (.s .z))) .c) (FJ.nil (FJ.then_ ?_))
 refine FJ.condF (.t .z) ?_
 refine FJ.skip (FJ.then_ (FJ.seq (FJ.region ?_)))
 refine FJ.ql rfl (q_loadA (cs := [.slice Ao12 kn4.disk.blocks.length co12, .slice Ao13 kn4.disk.cache.length co13, .slice Ao14 kn4.exts.length co14]) rfl ag_43 sz_43 (.t (.s16 (.s4 (.s .z)))) (WS.rows0 (.s .z) (fun i u h => by exact h))) ?_
 refine FJ.ql rfl (q_move rfl (.t (.s4 (.s4 (.s .z))))) (FJ.ql rfl (q_move rfl (.t (.s4 (.s4 (.s4 (.s (.s .z))))))) ?_)
 refine FJ.es (goes_list rfl) rfl (es_store (off := 0) (cs := [.slice Ao12 kn4.disk.blocks.length co12, .slice Ao13 kn4.disk.cache.length co13, .slice Ao14 kn4.exts.length co14]) rfl sz_43 (.t (.s16 (.s16 .z))) (.t (.s (.s .z))) rfl (ones rfl) (.s4 (.s .z)) (Nat.le_of_ble_eq_true rfl) (.c .z (.c (.s .z) (.c (.s (.s .z)) .n)))) ?_
 refine FJ.er (.s16 (.s4 (.s4 (.s4 (.s (.s (.s .z))))))) (FJ.ql rfl (q_assign rfl (.t (.s .z))) (FJ.er (.s16 (.s4 (.s4 (.s4 (.s (.s (.s .z))))))) (FJ.ql rfl (q_assign rfl (.t (.s .z))) (FJ.nil ?_))))
 refine FJ.then_ (FJ.ret ?_)
 refine FJ.doneS (res_ctt (cs := [.slice Ao12 kn4.disk.blocks.length co12, .slice Ao13 kn4.disk.cache.length co13, .slice Ao14 kn4.exts.length co14]) rfl (.s16 (.s16 .z)) ag_43 sz_43 (WS.rows0 (cs := [.slice Ao12 kn4.disk.blocks.length co12, .slice Ao13 kn4.disk.cache.length co13, .slice Ao14 kn4.exts.length co14]) .z (fun _ _ h => h)) (.s .z) .z) (.c (.s (.s (.s .z))) (.c (.s (.s (.s .z))) (.c (.s (.s (.s .z))) .n))) ?_
 exact ⟨⟨⟨kn4.disk.blocks, kn4.disk.cache⟩, kn4.exts⟩, _, _, _, _, _, ⟨by first | omega | (dsimp only; omega), by first | omega | (dsimp only; omega), by first | omega | (dsimp only; omega)⟩, rfl, rfl⟩

end Go.Proofs.Ytkmcpcahbfdohaa

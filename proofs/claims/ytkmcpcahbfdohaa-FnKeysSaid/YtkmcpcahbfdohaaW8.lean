/- What is proved: contracts of functions, one a function. No condition. -/
import Derived.Test.YtkmcpcahbfdohaaW7
namespace Go.Proofs.Ytkmcpcahbfdohaa
open Go Go.RowKit
set_option linter.unusedVariables false
set_option linter.unusedSimpArgs false
set_option maxHeartbeats 1000000 in
set_option maxRecDepth 20000 in
theorem c_110 {w0 : World} {S0 : Bs} {k : DKern} {ad0 : Addr} (h0 : PtrRo kT_43 w0 (FF w0 S0) ad0 k)  :
    Calls Try.prog 110 #[.pointer (some ad0)] w0 (TriPost w0 S0 (fun r l => r = .int .i64 (kernFault k) ∧ l = [])) := by
 obtain ⟨ec0, hF0, hr0, hc0⟩ := id h0
 obtain ⟨u0_0, u0_1, u0_2, rfl, h0_0, h0_1, h0_2⟩ := kT_43_ro hr0
 obtain ⟨A0_0, c0_0, rfl, hl0_0, hm0_0, hb0_0, he0_0⟩ := ro_form h0_0
 obtain ⟨A0_1, c0_1, rfl, hl0_1, hm0_1, hb0_1, he0_1⟩ := ro_form h0_1
 obtain ⟨A0_2, c0_2, rfl, hl0_2, hm0_2, hb0_2, he0_2⟩ := ro_form h0_2
 refine FJ.enter (N := 74) Try.func110 rfl rfl (by simp) [(0, .pointer (some ad0))] (by simp) (l0 := []) trivial ?_
 refine FJ.seq (FJ.region (FJ.ql rfl (q_assign rfl .c) (FJ.nil (FJ.then_ ?_))))
 refine FJ.seq (FJ.seq (FJ.region (FJ.ql rfl (q_move rfl (.t (.s .z))) (FJ.ql rfl (q_nilCheck rfl (.t .z)) ?_))))
 refine FJ.ql rfl (q_fieldAddr rfl (.t .z) (fun _ => fa_43_0 _ _)) ?_
 refine FJ.call (goes_list rfl) rfl (by decide) rfl (c_call rfl Try.func83 rfl rfl (args1 (.t .z))) .n (fun w1 S1 hs tr => c_83 (tr.elsub hF0 (kT_25_mk k.disk h0_0 h0_1) hc0 (sub_at (cs := [.slice A0_0 k.disk.blocks.length c0_0, .slice A0_1 k.disk.cache.length c0_1]) rfl))) ?_
 rintro _ _ ⟨rfl, rfl⟩
 refine FJ.cat .n ?_
 refine FJ.ql rfl (q_assign rfl (.t .z)) (FJ.nil (FJ.then_ (FJ.seq (FJ.region ?_))))
 refine FJ.ql rfl (q_move rfl (.t .z)) (FJ.ql rfl (q_neq rfl (.t .z) .c) (FJ.nil (FJ.then_ ?_)))
 refine FJ.condN (.t .z) (fun b4 => ?_) (fun b4 => ?_)
 refine FJ.seq (FJ.region (FJ.ql rfl (q_move rfl (.t (.s (.s .z)))) (FJ.er (.s4 (.s4 .z)) (FJ.ql rfl (q_assign rfl (.t .z)) ?_))))
 refine FJ.nil (FJ.then_ (FJ.ret (FJ.thenR ?_)))
 refine FJ.doneS (res1 rfl .z) .n ?_
 exact ⟨by rw [kernFault_d (by assumption)], rfl⟩
 refine FJ.skip (FJ.then_ (FJ.seq (FJ.seq (FJ.region ?_))))
 refine FJ.ql rfl (q_move rfl (.t (.s4 (.s4 .z)))) (FJ.ql rfl (q_nilCheck rfl (.t .z)) (FJ.ql rfl (q_fieldAddr rfl (.t .z) (fun _ => fa_43_1 _ _)) (FJ.ql rfl (q_load rfl ag_41 (.t .z) (WS.el hF0 hc0 rfl)) (FJ.ql rfl (q_len rfl u_41 (.t .z)) ?_))))
 refine FJ.ql rfl (q_gtr rfl (.t .z) .c) (FJ.nil (FJ.then_ ?_))
 refine FJ.condP (.t .z) (fun b5 => ?_) (fun b5 => ?_)
 refine FJ.seq (FJ.region (FJ.er (.s4 (.s4 (.s4 (.s .z)))) (FJ.ql rfl (q_assign rfl .c) (FJ.nil ?_))))
 refine FJ.then_ (FJ.ret (FJ.thenR ?_))
 refine FJ.doneS (res1 rfl .z) .n ?_
 exact ⟨by rw [kernFault_2 (by assumption) (by assumption)], rfl⟩
 refine FJ.skip (FJ.then_ (FJ.seq (FJ.seq (FJ.region ?_))))
 refine FJ.ql rfl (q_assign rfl .c) (FJ.nil (FJ.then_ (FJ.block ?_)))
 have h60 := diskFault_60 (show diskFault k.disk = 0 by assumption)
 refine FJ.loopi (γ := Nat × Int) (fun ⟨q, lo⟩ => [(4, .int .i64 (q : Int)), (0, .pointer (some ad0))]) (fun ⟨q, lo⟩ => []) (fun ⟨q, lo⟩ => q ≤ k.exts.length ∧ extsFault k.disk.blocks.length lo (k.exts.drop q) = extsFault k.disk.blocks.length 0 k.exts ∧ (q = 0 → lo = 0) ∧ (∀ e, (0 : Int) < (q : Int) → k.exts[Int.toNat ((q : Int) - 1)]? = some e → lo = e.frm + e.cnt ∧ isExt k.disk.blocks.length e)) (fun ⟨q, lo⟩ => k.exts.length - q) (0, 0) ⟨Nat.zero_le _, rfl, fun _ => rfl, fun e h => absurd h (by omega)⟩ (.c .z (.c (.s4 (.s4 (.s4 (.s (.s (.s .z)))))) .n)) (fun _ h => h) ?_
 rintro ⟨q, lo⟩ ⟨hq, hinv, hz, hprev⟩
 refine FJ.seq (FJ.seq (FJ.region (FJ.ql rfl (q_move rfl (.t .z)) (FJ.ql rfl (q_move rfl (.t (.s (.s .z)))) ?_))))
 refine FJ.ql rfl (q_nilCheck rfl (.t .z)) (FJ.ql rfl (q_fieldAddr rfl (.t .z) (fun _ => fa_43_1 _ _)) (FJ.ql rfl (q_load rfl ag_41 (.t .z) (WS.el hF0 hc0 rfl)) (FJ.ql rfl (q_len rfl u_41 (.t .z)) (FJ.ql rfl (q_lss rfl (.t (.s4 (.s .z))) (.t .z)) ?_))))
 refine FJ.nil (FJ.then_ ?_)
 refine FJ.condP (.t .z) (fun b6 => ?_) (fun b6 => ?_)
 refine FJ.skip (FJ.then_ (FJ.seq (FJ.block (FJ.seq ?_))))
 refine FJ.seq ?_
 refine FJ.draw [] 15 (by kernel_rfl) ?_
 refine FJ.sch [(0, true), (1, true), (2, true), (3, true), (4, true), (5, true), (6, true), (7, true), (8, true), (9, true), (10, true), (11, true), (12, true), (13, false), (14, true)] 0 #[true, true, true, true, true, true, true, true, true, true, true, true, true, true, true] (by rfl) (by kernel_rfl) ?_
 refine FJ.dq rfl rfl rfl (by decide) rfl .z (q_move rfl (.t (.s4 (.s4 .z)))) (FJ.dq rfl rfl rfl (by decide) rfl .z (q_nilCheck rfl (.t .z)) (FJ.dq rfl rfl rfl (by decide) rfl .z (q_fieldAddr rfl (.t .z) (fun _ => fa_43_1 _ _)) (FJ.dq rfl rfl rfl (by decide) rfl .z (q_load rfl ag_41 (.t .z) (WS.el hF0 hc0 rfl)) (FJ.dq rfl rfl rfl (by decide) rfl .z (q_move rfl (.t (.s4 (.s4 (.s (.s (.s .z))))))) ?_))))
 obtain ⟨ad7, hAad7, hrad7⟩ := he0_2 (by omega)
 subst hAad7
 obtain ⟨x8, hx8⟩ := get_ex (xs := k.exts) (j := q) (by omega)
 obtain ⟨ece9, hre9, hFe9, hce9⟩ := hrad7.elem hx8
 obtain rfl := kT_135_ro hre9
 refine FJ.dq rfl rfl rfl (by decide) rfl .z (q_indexAddr (j := q) rfl u_41 sz_135 (.t (.s .z)) (.t .z) rfl (by omega)) ?_
 refine FJ.dq rfl rfl rfl (by decide) rfl .z (q_loadA (cs := [.int .i64 x8.frm, .int .i64 x8.cnt, .int .i64 x8.key]) rfl ag_135 sz_135 (.t .z) (WS.els hFe9 hce9)) (FJ.dq rfl rfl rfl (by decide) rfl .z (q_move rfl (.t (.s4 (.s4 (.s4 (.s (.s (.s .z)))))))) (FJ.dq rfl rfl rfl (by decide) rfl .z (q_nilCheck rfl (.t .z)) (FJ.dq rfl rfl rfl (by decide) rfl .z (q_fieldAddr rfl (.t .z) (fun _ => fa_43_0 _ _)) (FJ.dq rfl rfl rfl (by decide) rfl .z (q_fieldAddrA (k := 0) rfl (.t .z) (fun _ => fa_25_0 _ _) rfl) ?_))))
 refine FJ.dq rfl rfl rfl (by decide) rfl .z (q_load rfl ag_22 (.t .z) (WS.el hF0 hc0 rfl)) (FJ.dq rfl rfl rfl (by decide) rfl .z (q_len rfl u_22 (.t .z)) ?_)
 refine FJ.call (goes_sch rfl rfl) rfl (by decide) rfl (c_call rfl Try.func126 rfl rfl (args2 (.t (.s4 (.s (.s .z)))) (.t .z))) .n (fun w1 S1 hs tr => c_126 (tr.ctx hre9) _ (by omega)) ?_
 rintro _ _ ⟨rfl, rfl⟩
 refine FJ.cat .n ?_
 refine FJ.sk .z ?_
 refine FJ.dq rfl rfl rfl (by decide) rfl .z (q_not rfl (.t .z)) (FJ.schN ?_)
 refine FJ.drawN (by kernel_rfl) ?_
 refine FJ.then_ ?_
 refine FJ.condN (.t .z) (fun b10 => ?_) (fun b10 => ?_)
 refine FJ.seq (FJ.region (FJ.ql rfl (q_assign rfl .c) (FJ.nil (FJ.then_ ?_))))
 refine FJ.ret (FJ.thenR (FJ.inBR (FJ.thenR (FJ.thenR ?_))))
 refine FJ.inBR (FJ.thenR ?_)
 refine FJ.doneS (res1 rfl .z) .n ?_
 exact ⟨by rw [kernFault_e (by assumption) (by assumption), ← hinv, extsFault_3 hx8 (by assumption)], rfl⟩
 have hxb10 : isExt _ _ := b10; unfold isExt at hxb10
 refine FJ.skip (FJ.then_ (FJ.seq ?_))
 refine FJ.draw [] 32 (by kernel_rfl) ?_
 refine FJ.sch [(0, true), (1, true), (2, true)] 29 #[true, true, true, false, false, false, false, false, false, false, false, false, false, false, false, false, false, false, false, false, false, false, false, false, false, false, false, false, false, false, false, false] (by rfl) (by kernel_rfl) ?_
 refine FJ.dq rfl rfl rfl (by decide) rfl .z (q_move rfl (.t (.s16 (.s4 (.s (.s .z)))))) (FJ.dq rfl rfl rfl (by decide) rfl .z (q_gtr rfl (.t .z) .c) (FJ.dq rfl rfl rfl (by decide) rfl .z (q_move rfl (.t .z)) (FJ.schN ?_)))
 refine FJ.caseP .z (fun g11 => ?_) (fun g11 => ?_)
 refine FJ.sch [(3, true), (4, true), (5, true), (6, true), (7, true), (8, true), (9, true), (10, true), (11, true), (12, true), (13, true), (14, true), (15, true), (16, true), (17, true), (18, true), (19, true), (20, true), (21, true), (22, true), (23, true), (24, true), (25, true), (26, true), (27, true), (28, true), (29, true), (30, true), (31, true)] 0 #[true, true, true, true, true, true, true, true, true, true, true, true, true, true, true, true, true, true, true, true, true, true, true, true, true, true, true, true, true, true, true, true] (by rfl) (by kernel_rfl) ?_
 refine FJ.dqg rfl rfl rfl .z rfl (by decide) rfl .z (q_move rfl (.t (.s16 (.s4 (.s4 (.s (.s .z))))))) ?_
 refine FJ.dqg rfl rfl rfl (.s .z) rfl (by decide) rfl .z (q_nilCheck rfl (.t .z)) ?_
 refine FJ.dqg rfl rfl rfl (.s (.s .z)) rfl (by decide) rfl .z (q_fieldAddr rfl (.t .z) (fun _ => fa_43_1 _ _)) ?_
 refine FJ.dqg rfl rfl rfl (.s (.s (.s .z))) rfl (by decide) rfl .z (q_load rfl ag_41 (.t .z) (WS.el hF0 hc0 rfl)) ?_
 refine FJ.dqg rfl rfl rfl (.s4 .z) rfl (by decide) rfl .z (q_move rfl (.t (.s16 (.s4 (.s4 (.s4 (.s .z))))))) ?_
 refine FJ.dqg rfl rfl rfl (.s4 (.s .z)) rfl (by decide) rfl .z (q_indexAddr (j := q) rfl u_41 sz_135 (.t (.s .z)) (.t .z) rfl (by omega)) ?_
 refine FJ.dqg rfl rfl rfl (.s4 (.s (.s .z))) rfl (by decide) rfl .z (q_fieldAddr rfl (.t .z) (fun _ => fa_135_0 _ _)) ?_
 refine FJ.dqg rfl rfl rfl (.s4 (.s (.s (.s .z)))) rfl (by decide) rfl .z (q_load rfl ag_2 (.t .z) (WS.el hFe9 hce9 rfl)) ?_
 refine FJ.dqg rfl rfl rfl (.s4 (.s4 .z)) rfl (by decide) rfl .z (q_move rfl (.t (.s16 (.s16 (.s (.s .z)))))) ?_
 refine FJ.dqg rfl rfl rfl (.s4 (.s4 (.s .z))) rfl (by decide) rfl .z (q_nilCheck rfl (.t .z)) ?_
 refine FJ.dqg rfl rfl rfl (.s4 (.s4 (.s (.s .z)))) rfl (by decide) rfl .z (q_fieldAddr rfl (.t .z) (fun _ => fa_43_1 _ _)) ?_
 refine FJ.dqg rfl rfl rfl (.s4 (.s4 (.s (.s (.s .z))))) rfl (by decide) rfl .z (q_load rfl ag_41 (.t .z) (WS.el hF0 hc0 rfl)) ?_
 refine FJ.dqg rfl rfl rfl (.s4 (.s4 (.s4 .z))) rfl (by decide) rfl .z (q_move rfl (.t (.s16 (.s16 (.s4 (.s .z)))))) ?_
 refine FJ.dqg rfl rfl rfl (.s4 (.s4 (.s4 (.s .z)))) rfl (by decide) rfl .z (q_sub (c := (q : Int) - 1) rfl (.t .z) .c (wr (by omega) (by omega) (by omega))) ?_
 obtain ⟨x12, hx12⟩ := get_ex (xs := k.exts) (j := Int.toNat ((q : Int) - 1)) (by omega)
 obtain ⟨ece13, hre13, hFe13, hce13⟩ := hrad7.elem hx12
 obtain rfl := kT_135_ro hre13
 obtain ⟨hlo, hp⟩ := hprev _ (by omega) hx12
 unfold isExt at hp
 refine FJ.dqg rfl rfl rfl (.s4 (.s4 (.s4 (.s (.s .z))))) rfl (by decide) rfl .z (q_indexAddr (j := Int.toNat ((q : Int) - 1)) rfl u_41 sz_135 (.t (.s (.s .z))) (.t .z) (by omega) (by omega)) ?_
 refine FJ.dqg rfl rfl rfl (.s4 (.s4 (.s4 (.s (.s (.s .z)))))) rfl (by decide) rfl .z (q_fieldAddr rfl (.t .z) (fun _ => fa_135_0 _ _)) ?_
 refine FJ.dqg rfl rfl rfl (.s16 .z) rfl (by decide) rfl .z (q_load rfl ag_2 (.t .z) (WS.el hFe13 hce13 rfl)) ?_
 refine FJ.dqg rfl rfl rfl (.s16 (.s .z)) rfl (by decide) rfl .z (q_move rfl (.t (.s16 (.s16 (.s4 (.s4 (.s (.s (.s .z))))))))) ?_
 refine FJ.dqg rfl rfl rfl (.s16 (.s (.s .z))) rfl (by decide) rfl .z (q_nilCheck rfl (.t .z)) ?_
 refine FJ.dqg rfl rfl rfl (.s16 (.s (.s (.s .z)))) rfl (by decide) rfl .z (q_fieldAddr rfl (.t .z) (fun _ => fa_43_1 _ _)) ?_
 refine FJ.dqg rfl rfl rfl (.s16 (.s4 .z)) rfl (by decide) rfl .z (q_load rfl ag_41 (.t .z) (WS.el hF0 hc0 rfl)) ?_
 refine FJ.dqg rfl rfl rfl (.s16 (.s4 (.s .z))) rfl (by decide) rfl .z (q_move rfl (.t (.s16 (.s16 (.s4 (.s4 (.s4 (.s (.s .z))))))))) ?_
 refine FJ.dqg rfl rfl rfl (.s16 (.s4 (.s (.s .z)))) rfl (by decide) rfl .z (q_sub (c := (q : Int) - 1) rfl (.t .z) .c (wr (by omega) (by omega) (by omega))) ?_
 refine FJ.dqg rfl rfl rfl (.s16 (.s4 (.s (.s (.s .z))))) rfl (by decide) rfl .z (q_indexAddr (j := Int.toNat ((q : Int) - 1)) rfl u_41 sz_135 (.t (.s (.s .z))) (.t .z) (by omega) (by omega)) ?_
 refine FJ.dqg rfl rfl rfl (.s16 (.s4 (.s4 .z))) rfl (by decide) rfl .z (q_fieldAddr rfl (.t .z) (fun _ => fa_135_1 _ _)) ?_
 refine FJ.dqg rfl rfl rfl (.s16 (.s4 (.s4 (.s .z)))) rfl (by decide) rfl .z (q_load rfl ag_2 (.t .z) (WS.el hFe13 hce13 rfl)) ?_
 refine FJ.dqg rfl rfl rfl (.s16 (.s4 (.s4 (.s (.s .z))))) rfl (by decide) rfl .z (q_add (c := x12.frm + x12.cnt) rfl (.t (.s4 (.s4 (.s .z)))) (.t .z) (wr (by omega) (by omega) (by omega))) ?_
 refine FJ.dqg rfl rfl rfl (.s16 (.s4 (.s4 (.s (.s (.s .z)))))) rfl (by decide) rfl .z (q_lss rfl (.t (.s16 (.s (.s (.s .z))))) (.t .z)) ?_
 refine FJ.dq rfl rfl rfl (by decide) rfl .z (q_pickT rfl (.t (.s16 (.s4 (.s4 (.s4 .z))))) (.t .z)) (FJ.schN ?_)
 refine FJ.drawN (by kernel_rfl) ?_
 refine FJ.then_ ?_
 refine FJ.condP (.t .z) (fun b14 => ?_) (fun b14 => ?_)
 refine FJ.seq (FJ.region (FJ.ql rfl (q_assign rfl .c) (FJ.nil (FJ.then_ ?_))))
 refine FJ.ret (FJ.inBR (FJ.thenR (FJ.thenR (FJ.inBR ?_))))
 refine FJ.thenR ?_
 refine FJ.doneS (res1 rfl .z) .n ?_
 exact ⟨by rw [kernFault_e (by assumption) (by assumption), ← hinv, extsFault_1 hx8 (by assumption) (by omega)], rfl⟩
 refine FJ.skip (FJ.inBN (FJ.then_ (FJ.region (FJ.ql rfl (q_move rfl (.t (.s16 (.s16 (.s16 (.s4 (.s (.s .z)))))))) ?_))))
 refine FJ.ql rfl (q_add (c := ((q + 1 : Nat) : Int)) rfl (.t .z) .c (wr (by omega) (by omega) (by omega))) ?_
 refine FJ.er (.s16 (.s16 (.s16 (.s4 (.s4 .z))))) (FJ.ql rfl (q_assign rfl (.t .z)) (FJ.nil ?_))
 refine FJ.again ((q + 1), (x8.frm + x8.cnt)) ⟨by omega, (extsFault_s hx8 (by assumption) (by omega)).symm.trans hinv, fun h => absurd h (by omega), fun e he he2 => ext_at hx8 (by assumption) he2 (by omega)⟩ (by first | omega | (dsimp only; omega)) (.c .z (.c (.s16 (.s16 (.s16 (.s4 (.s4 (.s .z)))))) .n)) (fun _ h => h)
 refine FJ.sch [(3, true), (4, true), (5, true), (6, true), (7, true), (8, true), (9, true), (10, true), (11, true), (12, true), (13, true), (14, true), (15, true), (16, true), (17, true), (18, true), (19, true), (20, true), (21, true), (22, true), (23, true), (24, true), (25, true), (26, true), (27, true), (28, true), (29, true), (30, true), (31, true)] 0 #[true, true, true, true, true, true, true, true, true, true, true, true, true, true, true, true, true, true, true, true, true, true, true, true, true, true, true, true, true, true, true, true] (by rfl) (by kernel_rfl) ?_
 refine FJ.dskip rfl rfl rfl .z rfl rfl (by decide) rfl .z ?_
 refine FJ.dskip rfl rfl rfl (.s .z) rfl rfl (by decide) rfl .z ?_
 refine FJ.dskip rfl rfl rfl (.s (.s .z)) rfl rfl (by decide) rfl .z ?_
 refine FJ.dskip rfl rfl rfl (.s (.s (.s .z))) rfl rfl (by decide) rfl .z ?_
 refine FJ.dskip rfl rfl rfl (.s4 .z) rfl rfl (by decide) rfl .z ?_
 refine FJ.dskip rfl rfl rfl (.s4 (.s .z)) rfl rfl (by decide) rfl .z ?_
 refine FJ.dskip rfl rfl rfl (.s4 (.s (.s .z))) rfl rfl (by decide) rfl .z ?_
 refine FJ.dskip rfl rfl rfl (.s4 (.s (.s (.s .z)))) rfl rfl (by decide) rfl .z ?_
 refine FJ.dskip rfl rfl rfl (.s4 (.s4 .z)) rfl rfl (by decide) rfl .z ?_
 refine FJ.dskip rfl rfl rfl (.s4 (.s4 (.s .z))) rfl rfl (by decide) rfl .z ?_
 refine FJ.dskip rfl rfl rfl (.s4 (.s4 (.s (.s .z)))) rfl rfl (by decide) rfl .z ?_
 refine FJ.dskip rfl rfl rfl (.s4 (.s4 (.s (.s (.s .z))))) rfl rfl (by decide) rfl .z ?_
 refine FJ.dskip rfl rfl rfl (.s4 (.s4 (.s4 .z))) rfl rfl (by decide) rfl .z ?_
 refine FJ.dskip rfl rfl rfl (.s4 (.s4 (.s4 (.s .z)))) rfl rfl (by decide) rfl .z ?_
 refine FJ.dskip rfl rfl rfl (.s4 (.s4 (.s4 (.s (.s .z))))) rfl rfl (by decide) rfl .z ?_
 refine FJ.dskip rfl rfl rfl (.s4 (.s4 (.s4 (.s (.s (.s .z)))))) rfl rfl (by decide) rfl .z ?_
 refine FJ.dskip rfl rfl rfl (.s16 .z) rfl rfl (by decide) rfl .z ?_
 refine FJ.dskip rfl rfl rfl (.s16 (.s .z)) rfl rfl (by decide) rfl .z ?_
 refine FJ.dskip rfl rfl rfl (.s16 (.s (.s .z))) rfl rfl (by decide) rfl .z ?_
 refine FJ.dskip rfl rfl rfl (.s16 (.s (.s (.s .z)))) rfl rfl (by decide) rfl .z ?_
 refine FJ.dskip rfl rfl rfl (.s16 (.s4 .z)) rfl rfl (by decide) rfl .z ?_
 refine FJ.dskip rfl rfl rfl (.s16 (.s4 (.s .z))) rfl rfl (by decide) rfl .z ?_
 refine FJ.dskip rfl rfl rfl (.s16 (.s4 (.s (.s .z)))) rfl rfl (by decide) rfl .z ?_
 refine FJ.dskip rfl rfl rfl (.s16 (.s4 (.s (.s (.s .z))))) rfl rfl (by decide) rfl .z ?_
 refine FJ.dskip rfl rfl rfl (.s16 (.s4 (.s4 .z))) rfl rfl (by decide) rfl .z ?_
 refine FJ.dskip rfl rfl rfl (.s16 (.s4 (.s4 (.s .z)))) rfl rfl (by decide) rfl .z ?_
 refine FJ.dskip rfl rfl rfl (.s16 (.s4 (.s4 (.s (.s .z))))) rfl rfl (by decide) rfl .z ?_
 refine FJ.dskip rfl rfl rfl (.s16 (.s4 (.s4 (.s (.s (.s .z)))))) rfl rfl (by decide) rfl .z ?_
 refine FJ.dq rfl rfl rfl (by decide) rfl .z (q_pickF rfl (.t (.s16 (.s4 (.s4 (.s4 .z))))) .c) (FJ.schN ?_)
 refine FJ.drawN (by kernel_rfl) ?_
 refine FJ.then_ ?_
 refine FJ.condF (.t .z) ?_
 refine FJ.skip (FJ.inBN (FJ.then_ (FJ.region (FJ.ql rfl (q_move rfl (.t (.s16 (.s16 (.s16 (.s4 (.s (.s .z)))))))) ?_))))
 refine FJ.ql rfl (q_add (c := ((q + 1 : Nat) : Int)) rfl (.t .z) .c (wr (by omega) (by omega) (by omega))) ?_
 refine FJ.er (.s16 (.s16 (.s16 (.s4 (.s4 .z))))) (FJ.ql rfl (q_assign rfl (.t .z)) (FJ.nil ?_))
 refine FJ.again ((q + 1), (x8.frm + x8.cnt)) ⟨by omega, (extsFault_s hx8 (by assumption) (by omega)).symm.trans hinv, fun h => absurd h (by omega), fun e he he2 => ext_at hx8 (by assumption) he2 (by omega)⟩ (by first | omega | (dsimp only; omega)) (.c .z (.c (.s16 (.s16 (.s16 (.s4 (.s4 (.s .z)))))) .n)) (fun _ h => h)
 refine FJ.exit (FJ.thenE (FJ.thenE (FJ.inB (FJ.then_ ?_))))
 refine FJ.seq (FJ.region (FJ.ql rfl (q_assign rfl .c) (FJ.nil (FJ.then_ ?_))))
 refine FJ.ret ?_
 refine FJ.doneS (res1 rfl .z) .n ?_
 exact ⟨by rw [kernFault_e (by assumption) (by assumption), ← hinv, extsFault_0 (by omega)], rfl⟩
end Go.Proofs.Ytkmcpcahbfdohaa

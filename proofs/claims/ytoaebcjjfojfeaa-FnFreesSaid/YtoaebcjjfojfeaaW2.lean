/- What is proved: contracts of functions, one a function. No condition. -/
import Derived.Test.YtoaebcjjfojfeaaW1
namespace Go.Proofs.Ytoaebcjjfojfeaa
open Go Go.RowKit
set_option linter.unusedVariables false
set_option linter.unusedSimpArgs false
set_option maxHeartbeats 1000000 in
set_option maxRecDepth 20000 in
theorem c_118 {w0 : World} {S0 : Bs} {x : DInode} {ad0 : Addr} (h0 : PtrRo kT_30 w0 (FF w0 S0) ad0 x)  :
    Calls Try.prog 118 #[.pointer (some ad0)] w0 (TriPost w0 S0 (fun r l => r = .int .i64 (fileFault x) ∧ l = [])) := by
 obtain ⟨ec0, hF0, hr0, hc0⟩ := id h0
 obtain ⟨u0_3, u0_4, rfl, h0_3, h0_4⟩ := kT_30_ro hr0
 obtain ⟨A0_3, c0_3, rfl, hl0_3, hm0_3, hb0_3, he0_3⟩ := ro_form h0_3
 obtain ⟨A0_4, c0_4, rfl, hl0_4, hm0_4, hb0_4, he0_4⟩ := ro_form h0_4
 refine FJ.enter (N := 78) Try.func118 rfl rfl (by simp) [(0, .pointer (some ad0))] (by simp) (l0 := []) trivial ?_
 refine FJ.seq (FJ.region (FJ.ql rfl (q_assign rfl .c) (FJ.nil (FJ.then_ ?_))))
 refine FJ.seq (FJ.seq (FJ.region (FJ.ql rfl (q_move rfl (.t (.s .z))) (FJ.ql rfl (q_nilCheck rfl (.t .z)) ?_))))
 refine FJ.ql rfl (q_fieldAddr rfl (.t .z) (fun _ => fa_30_1 _ _)) (FJ.ql rfl (q_load rfl ag_2 (.t .z) (WS.el hF0 hc0 rfl)) ?_)
 refine FJ.call (goes_list rfl) rfl (by decide) rfl (c_call rfl Try.func82 rfl rfl (args3 (.t .z) .c .c)) .n (fun w1 S1 hs tr => c_82 _ _ _) ?_
 rintro _ _ ⟨rfl, rfl⟩
 refine FJ.cat .n ?_
 refine FJ.ql rfl (q_not rfl (.t .z)) (FJ.ql rfl (q_move rfl (.t .z)) ?_)
 refine FJ.caseN .z (fun g3 => ?_) (fun g3 => ?_)
 refine FJ.skipl rfl rfl .z rfl rfl (by decide) rfl ?_
 refine FJ.skipl rfl rfl (.s .z) rfl rfl (by decide) rfl ?_
 refine FJ.skipl rfl rfl (.s (.s .z)) rfl rfl (by decide) rfl ?_
 refine FJ.skipl rfl rfl (.s (.s (.s .z))) rfl rfl (by decide) rfl ?_
 refine FJ.skipl rfl rfl (.s4 .z) rfl rfl (by decide) rfl ?_
 refine FJ.skipl rfl rfl (.s4 (.s .z)) rfl rfl (by decide) rfl ?_
 refine FJ.ql rfl (q_pickT rfl (.t (.s4 (.s (.s .z)))) .c) (FJ.nil (FJ.then_ ?_))
 refine FJ.condT (.t .z) ?_
 refine FJ.seq (FJ.region (FJ.er (.s4 (.s4 (.s4 (.s (.s .z))))) (FJ.ql rfl (q_assign rfl .c) (FJ.nil ?_))))
 refine FJ.then_ (FJ.ret (FJ.thenR ?_))
 refine FJ.doneS (res1 rfl .z) .n ?_
 have h60 : (1 ≤ x.links ∧ x.links ≤ 60) ∨ ¬ (1 ≤ x.links ∧ x.links ≤ 60) := Classical.em _; exact ⟨by first | (rw [fileFault_3 (by omega)]; done) | (rw [fileFault_1 ⟨by assumption, by assumption⟩ (by omega)]; done) | (rw [fileFault_0 ⟨by assumption, by assumption⟩ (by omega) (any_ok (fun j b hj hb => hallk j b (by omega) hb)) (by rw [List.take_of_length_le (by omega)] at hnd; exact hnd)]; done), rfl⟩
 refine FJ.q (goes_listg rfl rfl .z) rfl (by decide) rfl (q_move rfl (.t (.s4 (.s4 .z)))) ?_
 refine FJ.q (goes_listg rfl rfl (.s .z)) rfl (by decide) rfl (q_nilCheck rfl (.t .z)) ?_
 refine FJ.q (goes_listg rfl rfl (.s (.s .z))) rfl (by decide) rfl (q_fieldAddr rfl (.t .z) (fun _ => fa_30_2 _ _)) ?_
 refine FJ.q (goes_listg rfl rfl (.s (.s (.s .z)))) rfl (by decide) rfl (q_load rfl ag_2 (.t .z) (WS.el hF0 hc0 rfl)) ?_
 refine FJ.call (goes_listg rfl rfl (.s4 .z)) rfl (by decide) rfl (c_call rfl Try.func146 rfl rfl (args1 (.t .z))) .n (fun w1 S1 hs tr => c_146 _) ?_
 rintro _ _ ⟨rfl, rfl⟩
 refine FJ.cat .n ?_
 refine FJ.q (goes_listg rfl rfl (.s4 (.s .z))) rfl (by decide) rfl (q_not rfl (.t .z)) ?_
 refine FJ.ql rfl (q_pickF rfl (.t (.s4 (.s (.s .z)))) (.t .z)) (FJ.nil (FJ.then_ ?_))
 refine FJ.condN (.t .z) (fun b4 => ?_) (fun b4 => ?_)
 refine FJ.seq (FJ.region (FJ.er (.s4 (.s4 (.s4 (.s (.s .z))))) (FJ.ql rfl (q_assign rfl .c) (FJ.nil ?_))))
 refine FJ.then_ (FJ.ret (FJ.thenR ?_))
 refine FJ.doneS (res1 rfl .z) .n ?_
 have h60 : (1 ≤ x.links ∧ x.links ≤ 60) ∨ ¬ (1 ≤ x.links ∧ x.links ≤ 60) := Classical.em _; exact ⟨by first | (rw [fileFault_3 (by omega)]; done) | (rw [fileFault_1 ⟨by assumption, by assumption⟩ (by omega)]; done) | (rw [fileFault_0 ⟨by assumption, by assumption⟩ (by omega) (any_ok (fun j b hj hb => hallk j b (by omega) hb)) (by rw [List.take_of_length_le (by omega)] at hnd; exact hnd)]; done), rfl⟩
 refine FJ.skip (FJ.then_ (FJ.seq (FJ.seq ?_)))
 refine FJ.draw [] 11 (by kernel_rfl) ?_
 refine FJ.sch [(0, true), (1, true), (2, true), (3, true), (4, true), (5, true), (6, true), (7, true), (8, true), (9, false), (10, true)] 0 #[true, true, true, true, true, true, true, true, true, true, true] (by rfl) (by kernel_rfl) ?_
 refine FJ.dq rfl rfl rfl (by decide) rfl .z (q_move rfl (.t (.s4 (.s4 (.s4 (.s (.s (.s .z)))))))) (FJ.dq rfl rfl rfl (by decide) rfl .z (q_nilCheck rfl (.t .z)) (FJ.dq rfl rfl rfl (by decide) rfl .z (q_fieldAddr rfl (.t .z) (fun _ => fa_30_3 _ _)) (FJ.dq rfl rfl rfl (by decide) rfl .z (q_load rfl ag_22 (.t .z) (WS.el hF0 hc0 rfl)) (FJ.dq rfl rfl rfl (by decide) rfl .z (q_len rfl u_22 (.t .z)) ?_))))
 refine FJ.dq rfl rfl rfl (by decide) rfl .z (q_move rfl (.t (.s16 (.s4 .z)))) (FJ.dq rfl rfl rfl (by decide) rfl .z (q_nilCheck rfl (.t .z)) (FJ.dq rfl rfl rfl (by decide) rfl .z (q_fieldAddr rfl (.t .z) (fun _ => fa_30_2 _ _)) (FJ.dq rfl rfl rfl (by decide) rfl .z (q_load rfl ag_2 (.t .z) (WS.el hF0 hc0 rfl)) ?_)))
 refine FJ.call (goes_sch rfl rfl) rfl (by decide) rfl (c_call rfl Try.func129 rfl rfl (args1 (.t .z))) .n (fun w1 S1 hs tr => c_129 _ (by omega) (by omega)) ?_
 rintro _ _ ⟨rfl, rfl⟩
 refine FJ.cat .n ?_
 refine FJ.sk .z ?_
 refine FJ.dq rfl rfl rfl (by decide) rfl .z (q_neq rfl (.t (.s4 (.s .z))) (.t .z)) (FJ.schN ?_)
 refine FJ.drawN (by kernel_rfl) ?_
 refine FJ.then_ ?_
 refine FJ.condN (.t .z) (fun b5 => ?_) (fun b5 => ?_)
 refine FJ.seq (FJ.region (FJ.er (.s16 (.s4 (.s4 (.s .z)))) (FJ.ql rfl (q_assign rfl .c) (FJ.nil ?_))))
 refine FJ.then_ (FJ.ret (FJ.thenR ?_))
 refine FJ.doneS (res1 rfl .z) .n ?_
 have h60 : (1 ≤ x.links ∧ x.links ≤ 60) ∨ ¬ (1 ≤ x.links ∧ x.links ≤ 60) := Classical.em _; exact ⟨by first | (rw [fileFault_3 (by omega)]; done) | (rw [fileFault_1 ⟨by assumption, by assumption⟩ (by omega)]; done) | (rw [fileFault_0 ⟨by assumption, by assumption⟩ (by omega) (any_ok (fun j b hj hb => hallk j b (by omega) hb)) (by rw [List.take_of_length_le (by omega)] at hnd; exact hnd)]; done), rfl⟩
 refine FJ.skip (FJ.then_ (FJ.seq (FJ.seq (FJ.region ?_))))
 refine FJ.ql rfl (q_assign rfl .c) (FJ.nil (FJ.then_ (FJ.block ?_)))
 refine FJ.loopi (γ := Nat) (fun k => [(3, .int .i64 (k : Int)), (0, .pointer (some ad0))]) (fun k => []) (fun k => k ≤ x.blocks.length ∧ ∀ j b, j < k → x.blocks[j]? = some b → 0 ≤ b ∧ b ≤ 19) (fun k => x.blocks.length - k) 0 ⟨Nat.zero_le _, all_zero (q := fun _ b => (0 : Int) ≤ b ∧ b ≤ 19)⟩ (.c .z (.c (.s16 (.s4 (.s4 (.s (.s (.s .z)))))) .n)) (fun _ h => h) ?_
 rintro k ⟨hk, hallk⟩
 refine FJ.seq (FJ.seq (FJ.region (FJ.ql rfl (q_move rfl (.t .z)) (FJ.ql rfl (q_move rfl (.t (.s (.s .z)))) ?_))))
 refine FJ.ql rfl (q_nilCheck rfl (.t .z)) (FJ.ql rfl (q_fieldAddr rfl (.t .z) (fun _ => fa_30_3 _ _)) (FJ.ql rfl (q_load rfl ag_22 (.t .z) (WS.el hF0 hc0 rfl)) (FJ.ql rfl (q_len rfl u_22 (.t .z)) (FJ.ql rfl (q_lss rfl (.t (.s4 (.s .z))) (.t .z)) ?_))))
 refine FJ.nil (FJ.then_ ?_)
 refine FJ.condP (.t .z) (fun b6 => ?_) (fun b6 => ?_)
 refine FJ.skip (FJ.then_ (FJ.seq (FJ.block (FJ.seq ?_))))
 refine FJ.region (FJ.ql rfl (q_move rfl (.t (.s4 (.s4 .z)))) (FJ.ql rfl (q_nilCheck rfl (.t .z)) (FJ.ql rfl (q_fieldAddr rfl (.t .z) (fun _ => fa_30_3 _ _)) (FJ.ql rfl (q_load rfl ag_22 (.t .z) (WS.el hF0 hc0 rfl)) ?_))))
 refine FJ.ql rfl (q_move rfl (.t (.s4 (.s4 (.s (.s (.s .z))))))) ?_
 obtain ⟨ad7, hAad7, hrad7⟩ := he0_3 (by omega)
 subst hAad7
 obtain ⟨x8, hx8⟩ := get_ex (xs := x.blocks) (j := k) (by omega)
 obtain ⟨ece9, hre9, hFe9, hce9⟩ := hrad7.elem hx8
 obtain ⟨rfl, se9⟩ := hre9
 refine FJ.ql rfl (q_indexAddr (j := k) rfl u_22 sz_2 (.t (.s .z)) (.t .z) rfl (by omega)) ?_
 refine FJ.ql rfl (q_load rfl ag_2 (.t .z) (WS.el0 hFe9 hce9 rfl)) ?_
 refine FJ.call (goes_list rfl) rfl (by decide) rfl (c_call rfl Try.func82 rfl rfl (args3 (.t .z) .c .c)) .n (fun w1 S1 hs tr => c_82 _ _ _) ?_
 rintro _ _ ⟨rfl, rfl⟩
 refine FJ.cat .n ?_
 refine FJ.ql rfl (q_not rfl (.t .z)) (FJ.nil (FJ.then_ ?_))
 refine FJ.condN (.t .z) (fun b10 => ?_) (fun b10 => ?_)
 refine FJ.seq (FJ.region (FJ.ql rfl (q_assign rfl .c) (FJ.nil (FJ.then_ ?_))))
 refine FJ.ret (FJ.inBR (FJ.thenR (FJ.thenR (FJ.inBR ?_))))
 refine FJ.thenR ?_
 refine FJ.doneS (res1 rfl .z) .n ?_
 have h60 : (1 ≤ x.links ∧ x.links ≤ 60) ∨ ¬ (1 ≤ x.links ∧ x.links ≤ 60) := Classical.em _; exact ⟨by first | (rw [fileFault_3 (by omega)]; done) | (rw [fileFault_1 ⟨by assumption, by assumption⟩ (by omega)]; done) | (rw [fileFault_3' ⟨by assumption, by assumption⟩ (by omega) (any_bad hx8 (by assumption))]; done) | (rw [fileFault_0 ⟨by assumption, by assumption⟩ (by omega) (any_ok (fun j b hj hb => hallk j b (by omega) hb)) (by rw [List.take_of_length_le (by omega)] at hnd; exact hnd)]; done), rfl⟩
 refine FJ.skip (FJ.inBN (FJ.then_ (FJ.region (FJ.ql rfl (q_move rfl (.t (.s16 .z))) ?_))))
 refine FJ.ql rfl (q_add (c := ((k + 1 : Nat) : Int)) rfl (.t .z) .c (wr (by omega) (by omega) (by omega))) ?_
 refine FJ.er (.s16 (.s (.s .z))) (FJ.ql rfl (q_assign rfl (.t .z)) (FJ.nil ?_))
 refine FJ.again (k + 1) ⟨by omega, all_succ (q := fun _ b => (0 : Int) ≤ b ∧ b ≤ 19) hallk hx8 b10⟩ (by first | omega | (dsimp only; omega)) (.c .z (.c (.s16 (.s (.s (.s .z)))) .n)) (fun _ h => h)
 refine FJ.exit (FJ.thenE (FJ.thenE (FJ.inB (FJ.then_ ?_))))
 refine FJ.seq (FJ.seq (FJ.region (FJ.ql rfl (q_assign rfl .c) (FJ.nil ?_))))
 refine FJ.then_ (FJ.block ?_)
 refine FJ.loopi (γ := Nat) (fun i => [(4, .int .i64 (i : Int)), (0, .pointer (some ad0))]) (fun i => []) (fun i => i ≤ x.blocks.length ∧ (x.blocks.take i).Nodup) (fun i => x.blocks.length - i) 0 ⟨Nat.zero_le _, List.Pairwise.nil⟩ (.c .z (.c (.s4 (.s4 (.s .z))) .n)) (fun _ h => h) ?_
 rintro i ⟨hi, hnd⟩
 refine FJ.seq (FJ.seq (FJ.region (FJ.ql rfl (q_move rfl (.t .z)) (FJ.ql rfl (q_move rfl (.t (.s (.s .z)))) ?_))))
 refine FJ.ql rfl (q_nilCheck rfl (.t .z)) (FJ.ql rfl (q_fieldAddr rfl (.t .z) (fun _ => fa_30_3 _ _)) (FJ.ql rfl (q_load rfl ag_22 (.t .z) (WS.el hF0 hc0 rfl)) (FJ.ql rfl (q_len rfl u_22 (.t .z)) (FJ.ql rfl (q_lss rfl (.t (.s4 (.s .z))) (.t .z)) ?_))))
 refine FJ.nil (FJ.then_ ?_)
 refine FJ.condP (.t .z) (fun b11 => ?_) (fun b11 => ?_)
 refine FJ.skip (FJ.then_ (FJ.seq (FJ.block (FJ.seq ?_))))
 refine FJ.region (FJ.ql rfl (q_assign rfl .c) (FJ.nil (FJ.then_ (FJ.block ?_))))
 obtain ⟨ad12, hAad12, hrad12⟩ := he0_3 (by omega)
 subst hAad12
 obtain ⟨x13, hx13⟩ := get_ex (xs := x.blocks) (j := i) (by omega)
 obtain ⟨ece14, hre14, hFe14, hce14⟩ := hrad12.elem hx13
 obtain ⟨rfl, se14⟩ := hre14
 refine FJ.loopi (γ := Nat) (fun j => [(5, .int .i64 (j : Int)), (4, .int .i64 (i : Int)), (0, .pointer (some ad0))]) (fun j => []) (fun j => j ≤ i ∧ ∀ r y, r < j → x.blocks[r]? = some y → ¬ y = x13) (fun j => i - j) 0 ⟨Nat.zero_le _, all_zero (q := fun _ y => ¬ y = x13)⟩ (.c .z (.c (.s4 (.s4 .z)) (.c (.s4 (.s4 (.s .z))) .n))) (fun _ h => h) ?_
 rintro j ⟨hj, hallj⟩
 refine FJ.seq (FJ.seq (FJ.region (FJ.ql rfl (q_move rfl (.t .z)) (FJ.ql rfl (q_move rfl (.t (.s (.s .z)))) ?_))))
 refine FJ.ql rfl (q_lss rfl (.t (.s .z)) (.t .z)) (FJ.nil (FJ.then_ ?_))
 refine FJ.condP (.t .z) (fun b15 => ?_) (fun b15 => ?_)
 refine FJ.skip (FJ.then_ (FJ.seq (FJ.block (FJ.seq ?_))))
 refine FJ.draw [] 15 (by kernel_rfl) ?_
 refine FJ.sch [(0, true), (1, true), (2, true), (3, true), (4, true), (5, true), (6, true), (7, true), (8, true), (9, true), (10, true), (11, true), (12, true), (13, true), (14, true)] 0 #[true, true, true, true, true, true, true, true, true, true, true, true, true, true, true] (by rfl) (by kernel_rfl) ?_
 refine FJ.dq rfl rfl rfl (by decide) rfl .z (q_move rfl (.t (.s4 (.s .z)))) (FJ.dq rfl rfl rfl (by decide) rfl .z (q_nilCheck rfl (.t .z)) (FJ.dq rfl rfl rfl (by decide) rfl .z (q_fieldAddr rfl (.t .z) (fun _ => fa_30_3 _ _)) (FJ.dq rfl rfl rfl (by decide) rfl .z (q_load rfl ag_22 (.t .z) (WS.el hF0 hc0 rfl)) (FJ.dq rfl rfl rfl (by decide) rfl .z (q_move rfl (.t (.s4 (.s (.s (.s .z)))))) ?_))))
 obtain ⟨x16, hx16⟩ := get_ex (xs := x.blocks) (j := j) (by omega)
 obtain ⟨ece17, hre17, hFe17, hce17⟩ := hrad12.elem hx16
 obtain ⟨rfl, se17⟩ := hre17
 refine FJ.dq rfl rfl rfl (by decide) rfl .z (q_indexAddr (j := j) rfl u_22 sz_2 (.t (.s .z)) (.t .z) rfl (by omega)) ?_
 refine FJ.dq rfl rfl rfl (by decide) rfl .z (q_load rfl ag_2 (.t .z) (WS.el0 hFe17 hce17 rfl)) (FJ.dq rfl rfl rfl (by decide) rfl .z (q_move rfl (.t (.s4 (.s4 (.s4 .z))))) (FJ.dq rfl rfl rfl (by decide) rfl .z (q_nilCheck rfl (.t .z)) (FJ.dq rfl rfl rfl (by decide) rfl .z (q_fieldAddr rfl (.t .z) (fun _ => fa_30_3 _ _)) (FJ.dq rfl rfl rfl (by decide) rfl .z (q_load rfl ag_22 (.t .z) (WS.el hF0 hc0 rfl)) ?_))))
 refine FJ.dq rfl rfl rfl (by decide) rfl .z (q_move rfl (.t (.s4 (.s4 (.s4 (.s (.s (.s .z)))))))) ?_
 refine FJ.dq rfl rfl rfl (by decide) rfl .z (q_indexAddr (j := i) rfl u_22 sz_2 (.t (.s .z)) (.t .z) rfl (by omega)) ?_
 refine FJ.dq rfl rfl rfl (by decide) rfl .z (q_load rfl ag_2 (.t .z) (WS.el0 hFe14 hce14 rfl)) (FJ.dq rfl rfl rfl (by decide) rfl .z (q_eql rfl (.t (.s4 (.s (.s (.s .z))))) (.t .z)) (FJ.schN ?_))
 refine FJ.drawN (by kernel_rfl) ?_
 refine FJ.then_ ?_
 refine FJ.condP (.t .z) (fun b18 => ?_) (fun b18 => ?_)
 refine FJ.seq (FJ.region (FJ.ql rfl (q_assign rfl .c) (FJ.nil (FJ.then_ ?_))))
 refine FJ.ret (FJ.inBR (FJ.thenR (FJ.thenR (FJ.inBR ?_))))
 refine FJ.inBR (FJ.thenR (FJ.thenR (FJ.inBR (FJ.thenR ?_))))
 refine FJ.doneS (res1 rfl .z) .n ?_
 have h60 : (1 ≤ x.links ∧ x.links ≤ 60) ∨ ¬ (1 ≤ x.links ∧ x.links ≤ 60) := Classical.em _; exact ⟨by first | (rw [fileFault_3 (by omega)]; done) | (rw [fileFault_1 ⟨by assumption, by assumption⟩ (by omega)]; done) | (rw [fileFault_7 ⟨by assumption, by assumption⟩ (by omega) (any_ok (fun j b hj hb => hallk j b (by omega) hb)) (not_nodup hx13 ((show x16 = x13 by assumption) ▸ mem_take_of hx16 (by omega)))]; done) | (rw [fileFault_0 ⟨by assumption, by assumption⟩ (by omega) (any_ok (fun j b hj hb => hallk j b (by omega) hb)) (by rw [List.take_of_length_le (by omega)] at hnd; exact hnd)]; done), rfl⟩
 refine FJ.skip (FJ.inBN (FJ.then_ (FJ.region (FJ.ql rfl (q_move rfl (.t (.s16 (.s (.s .z))))) ?_))))
 refine FJ.ql rfl (q_add (c := ((j + 1 : Nat) : Int)) rfl (.t .z) .c (wr (by omega) (by omega) (by omega))) ?_
 refine FJ.er (.s16 (.s4 .z)) (FJ.ql rfl (q_assign rfl (.t .z)) (FJ.nil ?_))
 refine FJ.again (j + 1) ⟨by omega, all_succ (q := fun _ y => ¬ y = x13) hallj hx16 (by assumption)⟩ (by first | omega | (dsimp only; omega)) (.c .z (.c (.s16 (.s4 (.s .z))) (.c (.s16 (.s4 (.s (.s .z)))) .n))) (fun _ h => h)
 refine FJ.exit (FJ.thenE (FJ.thenE (FJ.inB (FJ.inBN ?_))))
 refine FJ.then_ (FJ.region (FJ.ql rfl (q_move rfl (.t (.s4 .z))) ?_))
 refine FJ.ql rfl (q_add (c := ((i + 1 : Nat) : Int)) rfl (.t .z) .c (wr (by omega) (by omega) (by omega))) ?_
 refine FJ.er (.s4 (.s (.s .z))) (FJ.ql rfl (q_assign rfl (.t .z)) (FJ.nil ?_))
 refine FJ.again (i + 1) ⟨by omega, nodup_s hnd hx13 (not_mem_take (fun j y hj hy => hallj j y (by omega) hy))⟩ (by first | omega | (dsimp only; omega)) (.c .z (.c (.s4 (.s (.s (.s .z)))) .n)) (fun _ h => h)
 refine FJ.exit (FJ.thenE (FJ.thenE (FJ.inB (FJ.then_ ?_))))
 refine FJ.seq (FJ.region (FJ.ql rfl (q_assign rfl .c) (FJ.nil (FJ.then_ ?_))))
 refine FJ.ret ?_
 refine FJ.doneS (res1 rfl .z) .n ?_
 have h60 : (1 ≤ x.links ∧ x.links ≤ 60) ∨ ¬ (1 ≤ x.links ∧ x.links ≤ 60) := Classical.em _; exact ⟨by first | (rw [fileFault_3 (by omega)]; done) | (rw [fileFault_1 ⟨by assumption, by assumption⟩ (by omega)]; done) | (rw [fileFault_0 ⟨by assumption, by assumption⟩ (by omega) (any_ok (fun j b hj hb => hallk j b (by omega) hb)) (by rw [List.take_of_length_le (by omega)] at hnd; exact hnd)]; done), rfl⟩

set_option maxHeartbeats 1000000 in
set_option maxRecDepth 20000 in
theorem c_120 {w0 : World} {S0 : Bs} {x : DInode} {cs0 : List Value} (h0 : kT_30.ro w0 (FF w0 S0) x cs0)  :
    Calls Try.prog 120 #[.agg cs0.toArray] w0 (TriPost w0 S0 (fun r l => r = .int .i64 (fileFault x) ∧ l = [])) := by
 obtain ⟨u0_3, u0_4, rfl, h0_3, h0_4⟩ := kT_30_ro h0
 obtain ⟨A0_3, c0_3, rfl, hl0_3, hm0_3, hb0_3, he0_3⟩ := ro_form h0_3
 obtain ⟨A0_4, c0_4, rfl, hl0_4, hm0_4, hb0_4, he0_4⟩ := ro_form h0_4
 refine FJ.enter (N := 43) Try.func120 rfl rfl (by simp) [(0, .agg #[.int .i64 x.kind, .int .i64 x.links, .int .i64 x.size, .slice A0_3 x.blocks.length c0_3, .slice A0_4 x.ents.length c0_4])] (by simp) (l0 := []) trivial ?_
 refine FJ.seq (FJ.region ?_)
 refine FJ.e (goes_list rfl) rfl (by decide) rfl (e_box (cs := [.int .i64 x.kind, .int .i64 x.links, .int .i64 x.size, .slice A0_3 x.blocks.length c0_3, .slice A0_4 x.ents.length c0_4]) (n := 5) rfl (.t .z) rfl rfl) ?_
 rintro _ _ ⟨g3, rfl, rfl⟩
 refine FJ.ql rfl (q_assign rfl .c) (FJ.nil (FJ.then_ (FJ.seq (FJ.block ?_))))
 refine FJ.seq (FJ.region (FJ.ql rfl (q_fieldAddr rfl (.t (.s .z)) (fun _ => fa_30_1 _ _)) (FJ.ql rfl (q_load rfl ag_2 (.t .z) (WS.row .z rfl)) ?_)))
 refine FJ.call (goes_list rfl) rfl (by decide) rfl (c_call rfl Try.func84 rfl rfl (args3 (.t .z) .c .c)) .n (fun w1 S1 hs tr => c_84 _ _ _) ?_
 rintro _ _ ⟨rfl, rfl⟩
 refine FJ.cat .n ?_
 refine FJ.ql rfl (q_not rfl (.t .z)) (FJ.ql rfl (q_move rfl (.t .z)) ?_)
 refine FJ.caseN .z (fun g4 => ?_) (fun g4 => ?_)
 refine FJ.skipl rfl rfl .z rfl rfl (by decide) rfl ?_
 refine FJ.skipl rfl rfl (.s .z) rfl rfl (by decide) rfl ?_
 refine FJ.skipl rfl rfl (.s (.s .z)) rfl rfl (by decide) rfl ?_
 refine FJ.skipl rfl rfl (.s (.s (.s .z))) rfl rfl (by decide) rfl ?_
 refine FJ.ql rfl (q_pickT rfl (.t (.s4 .z)) .c) (FJ.ql rfl (q_assign rfl (.t .z)) (FJ.nil (FJ.then_ ?_)))
 refine FJ.condT (.t .z) ?_
 refine FJ.seq (FJ.region (FJ.er (.s4 (.s4 (.s (.s (.s .z))))) (FJ.ql rfl (q_assign rfl .c) (FJ.nil ?_))))
 refine FJ.then_ (FJ.ret (FJ.inBR (FJ.thenR ?_)))
 refine FJ.doneS (res1 rfl .z) .n ?_
 have h60 : (1 ≤ x.links ∧ x.links ≤ 60) ∨ ¬ (1 ≤ x.links ∧ x.links ≤ 60) := Classical.em _; exact ⟨by first | (rw [fileFault_3 (by omega)]; done) | (rw [fileFault_1 ⟨by assumption, by assumption⟩ (by omega)]; done) | (rw [fileFault_3' ⟨by assumption, by assumption⟩ (by omega) (by assumption)]; done) | (rw [fileFault_0 ⟨by assumption, by assumption⟩ (by omega) (by assumption) (by rw [List.take_of_length_le (by omega)] at hnd; exact hnd)]; done), rfl⟩
 refine FJ.q (goes_listg rfl rfl .z) rfl (by decide) rfl (q_fieldAddr rfl (.t (.s4 (.s (.s .z)))) (fun _ => fa_30_2 _ _)) ?_
 refine FJ.q (goes_listg rfl rfl (.s .z)) rfl (by decide) rfl (q_load rfl ag_2 (.t .z) (WS.row .z rfl)) ?_
 refine FJ.call (goes_listg rfl rfl (.s (.s .z))) rfl (by decide) rfl (c_call rfl Try.func84 rfl rfl (args3 (.t .z) .c .c)) .n (fun w1 S1 hs tr => c_84 _ _ _) ?_
 rintro _ _ ⟨rfl, rfl⟩
 refine FJ.cat .n ?_
 refine FJ.q (goes_listg rfl rfl (.s (.s (.s .z)))) rfl (by decide) rfl (q_not rfl (.t .z)) ?_
 refine FJ.ql rfl (q_pickF rfl (.t (.s4 .z)) (.t .z)) (FJ.ql rfl (q_assign rfl (.t .z)) (FJ.nil (FJ.then_ ?_)))
 refine FJ.condN (.t .z) (fun b5 => ?_) (fun b5 => ?_)
 refine FJ.seq (FJ.region (FJ.er (.s4 (.s4 (.s (.s (.s .z))))) (FJ.ql rfl (q_assign rfl .c) (FJ.nil ?_))))
 refine FJ.then_ (FJ.ret (FJ.inBR (FJ.thenR ?_)))
 refine FJ.doneS (res1 rfl .z) .n ?_
 have h60 : (1 ≤ x.links ∧ x.links ≤ 60) ∨ ¬ (1 ≤ x.links ∧ x.links ≤ 60) := Classical.em _; exact ⟨by first | (rw [fileFault_3 (by omega)]; done) | (rw [fileFault_1 ⟨by assumption, by assumption⟩ (by omega)]; done) | (rw [fileFault_3' ⟨by assumption, by assumption⟩ (by omega) (by assumption)]; done) | (rw [fileFault_0 ⟨by assumption, by assumption⟩ (by omega) (by assumption) (by rw [List.take_of_length_le (by omega)] at hnd; exact hnd)]; done), rfl⟩
 refine FJ.seq ?_
 refine FJ.draw [rowA g3 30 5 1 [.int .i64 x.kind, .int .i64 x.links, .int .i64 x.size, .slice A0_3 x.blocks.length c0_3, .slice A0_4 x.ents.length c0_4]] 7 (by kernel_rfl) ?_
 refine FJ.sch [] 8 #[false, false, false, false, false, false, false, false] (by rfl) (by kernel_rfl) ?_
 refine FJ.schN ?_
 refine FJ.fork2 (i := 0) (j := 3) (by kernel_rfl) ?_ ?_
 refine FJ.q (goes_sch rfl rfl) rfl (by decide) rfl (q_fieldAddr rfl (.t (.s4 (.s4 (.s4 .z)))) (fun _ => fa_30_3 _ _)) ?_
 refine FJ.sk .z ?_
 refine FJ.schN ?_
 refine FJ.sch [] 7 #[true, false, false, false, false, false, false, false] (by rfl) (by kernel_rfl) ?_
 refine FJ.schN ?_
 refine FJ.fork2 (i := 1) (j := 3) (by kernel_rfl) ?_ ?_
 refine FJ.q (goes_sch rfl rfl) rfl (by decide) rfl (q_load rfl ag_22 (.t .z) (WS.row .z rfl)) ?_
 refine FJ.sk .z ?_
 refine FJ.schN ?_
 refine FJ.sch [] 6 #[true, true, false, false, false, false, false, false] (by rfl) (by kernel_rfl) ?_
 refine FJ.schN ?_
 refine FJ.fork2 (i := 2) (j := 3) (by kernel_rfl) ?_ ?_
 refine FJ.call (goes_sch rfl rfl) rfl (by decide) rfl (c_call rfl Try.func145 rfl rfl (args1 (.t .z))) .n (fun w1 S1 hs tr => c_145 (tr.ctx h0_3)) ?_
 rintro _ _ ⟨rfl, rfl⟩
 refine FJ.cat .n ?_
 refine FJ.sk .z ?_
 refine FJ.schN ?_
 refine FJ.sch [(3, false), (4, false), (5, false), (6, true), (7, false)] 0 #[true, true, true, true, true, true, true, true] (by rfl) (by kernel_rfl) ?_
 refine FJ.q (goes_sch rfl rfl) rfl (by decide) rfl (q_fieldAddr rfl (.t (.s4 (.s4 (.s4 (.s (.s (.s .z))))))) (fun _ => fa_30_2 _ _)) ?_
 refine FJ.sk .z ?_
 refine FJ.q (goes_sch rfl rfl) rfl (by decide) rfl (q_load rfl ag_2 (.t .z) (WS.row .z rfl)) ?_
 refine FJ.sk .z ?_
 refine FJ.call (goes_sch rfl rfl) rfl (by decide) rfl (c_call rfl Try.func100 rfl rfl (args1 (.t .z))) .n (fun w1 S1 hs tr => c_100 _ (by omega) (by omega)) ?_
 rintro _ _ ⟨rfl, rfl⟩
 refine FJ.cat .n ?_
 refine FJ.sk .z ?_
 refine FJ.dq rfl rfl rfl (by decide) rfl .z (q_neq rfl (.t (.s (.s (.s .z)))) (.t .z)) ?_
 refine FJ.q (goes_sch rfl rfl) rfl (by decide) rfl (q_assign rfl (.t .z)) ?_
 refine FJ.sl rfl ?_
 refine FJ.schN ?_
 refine FJ.drawN (by kernel_rfl) ?_
 refine FJ.then_ ?_
 refine FJ.condN (.t .z) (fun b6 => ?_) (fun b6 => ?_)
 refine FJ.seq (FJ.region (FJ.er (.s16 (.s (.s (.s .z)))) (FJ.ql rfl (q_assign rfl .c) (FJ.nil ?_))))
 refine FJ.then_ (FJ.ret (FJ.inBR (FJ.thenR ?_)))
 refine FJ.doneS (res1 rfl .z) .n ?_
 have h60 : (1 ≤ x.links ∧ x.links ≤ 60) ∨ ¬ (1 ≤ x.links ∧ x.links ≤ 60) := Classical.em _; exact ⟨by first | (rw [fileFault_3 (by omega)]; done) | (rw [fileFault_1 ⟨by assumption, by assumption⟩ (by omega)]; done) | (rw [fileFault_3' ⟨by assumption, by assumption⟩ (by omega) (by assumption)]; done) | (rw [fileFault_0 ⟨by assumption, by assumption⟩ (by omega) (by assumption) (by rw [List.take_of_length_le (by omega)] at hnd; exact hnd)]; done), rfl⟩
 refine FJ.seq (FJ.region (FJ.ql rfl (q_fieldAddr rfl (.t (.s16 (.s4 .z))) (fun _ => fa_30_3 _ _)) (FJ.ql rfl (q_load rfl ag_22 (.t .z) (WS.row .z rfl)) ?_)))
 refine FJ.call (goes_list rfl) rfl (by decide) rfl (c_call rfl Try.func142 rfl rfl (args2 (.t .z) .f)) .n (fun w1 S1 hs tr => c_142 (tr.ctx h0_3) Try.func148 rfl rfl (fun w2 S2 h2 x => c_148 x)) ?_
 rintro _ _ ⟨rfl, rfl⟩
 refine FJ.cat .n ?_
 refine FJ.ql rfl (q_assign rfl (.t .z)) (FJ.nil (FJ.then_ ?_))
 refine FJ.cond (.t .z) (fun b7 => ?_) (fun b7 => ?_)
 refine FJ.seq (FJ.region (FJ.er (.s16 (.s4 (.s (.s (.s .z))))) (FJ.ql rfl (q_assign rfl .c) (FJ.nil ?_))))
 refine FJ.then_ (FJ.ret (FJ.inBR (FJ.thenR ?_)))
 refine FJ.doneS (res1 rfl .z) .n ?_
 have h60 : (1 ≤ x.links ∧ x.links ≤ 60) ∨ ¬ (1 ≤ x.links ∧ x.links ≤ 60) := Classical.em _; exact ⟨by first | (rw [fileFault_3 (by omega)]; done) | (rw [fileFault_1 ⟨by assumption, by assumption⟩ (by omega)]; done) | (rw [fileFault_3' ⟨by assumption, by assumption⟩ (by omega) (by assumption)]; done) | (rw [fileFault_0 ⟨by assumption, by assumption⟩ (by omega) (by assumption) (by rw [List.take_of_length_le (by omega)] at hnd; exact hnd)]; done), rfl⟩
 refine FJ.skip (FJ.inBN (FJ.then_ (FJ.seq (FJ.seq ?_))))
 refine FJ.region (FJ.ql rfl (q_fieldAddr rfl (.t (.s16 (.s4 (.s4 .z)))) (fun _ => fa_30_3 _ _)) (FJ.ql rfl (q_load rfl ag_22 (.t .z) (WS.row .z rfl)) (FJ.ql rfl (q_len rfl u_22 (.t .z)) (FJ.ql rfl (q_move rfl .c) ?_))))
 refine FJ.nil (FJ.then_ (FJ.block ?_))
 refine FJ.loopi (γ := Nat) (fun k => [(31, .int .i64 (k : Int)), (30, .int .i64 (x.blocks.length : Int)), (29, .slice A0_3 x.blocks.length c0_3), (1, .pointer (some ⟨g3, 0, none⟩))]) (fun k => [rowA g3 30 5 1 [.int .i64 x.kind, .int .i64 x.links, .int .i64 x.size, .slice A0_3 x.blocks.length c0_3, .slice A0_4 x.ents.length c0_4]]) (fun k => k ≤ x.blocks.length ∧ (x.blocks.take k).Nodup) (fun k => x.blocks.length - k) 0 ⟨Nat.zero_le _, List.Pairwise.nil⟩ (.c .z (.c (.s .z) (.c (.s (.s .z)) (.c (.s16 (.s4 (.s4 (.s4 .z)))) .n)))) (fun _ h => h.sel (.c .z .n)) ?_
 rintro k ⟨hk, hnd⟩
 refine FJ.seq (FJ.region (FJ.ql rfl (q_lss rfl (.t .z) (.t (.s .z))) (FJ.nil (FJ.then_ ?_))))
 refine FJ.seq ?_
 refine FJ.condP (.t .z) (fun b8 => ?_) (fun b8 => ?_)
 refine FJ.skip (FJ.then_ (FJ.seq (FJ.block (FJ.seq ?_))))
 refine FJ.region (FJ.ql rfl (q_move rfl (.t (.s .z))) ?_)
 obtain ⟨ad9, hAad9, hrad9⟩ := he0_3 (by omega)
 subst hAad9
 obtain ⟨x10, hx10⟩ := get_ex (xs := x.blocks) (j := k) (by omega)
 obtain ⟨ece11, hre11, hFe11, hce11⟩ := hrad9.elem hx10
 obtain ⟨rfl, se11⟩ := hre11
 refine FJ.ql rfl (q_indexAddr (j := k) rfl u_22 sz_2 (.t (.s4 .z)) (.t (.s (.s .z))) rfl (by omega)) ?_
 refine FJ.ql rfl (q_load rfl ag_2 (.t .z) (WS.el0 hFe11 hce11 rfl)) (FJ.ql rfl (q_assign rfl (.t (.s (.s .z)))) (FJ.ql rfl (q_assign rfl (.t (.s .z))) (FJ.nil (FJ.then_ ?_))))
 refine FJ.seq (FJ.region (FJ.ql rfl (q_fieldAddr rfl (.t (.s4 (.s4 (.s .z)))) (fun _ => fa_30_3 _ _)) (FJ.ql rfl (q_load rfl ag_22 (.t .z) (WS.row .z rfl)) (FJ.ql rfl (q_move rfl (.t (.s (.s (.s .z))))) ?_))))
 obtain ⟨As12, hAs12⟩ : ∃ A' : Option Addr, A' = (if c0_3 = 0 then (some ad9) else Option.map (fun z => Addr.add z (0 * 1)) (some ad9)) := ⟨_, rfl⟩
 have hs12 := ro_sub (a := 0) (b := k) hAs12 h0_3 (by omega) (by omega)
 have ls12 := subL_len (xs := x.blocks) (a := 0) (b := k) (by omega)
 refine FJ.ql rfl (q_sliceL (a := 0) (b := k) rfl u_22 sz_2 (.t (.s .z)) hAs12 (.inl ⟨rfl, rfl⟩) (.inr ⟨_, _, rfl, (.t .z)⟩) (by omega) (by omega) (by omega)) ?_
 refine FJ.ql rfl (q_move rfl (.t (.s4 .z))) ?_
 refine FJ.call (goes_list rfl) rfl (by decide) rfl (c_call rfl Try.func144 rfl rfl (args2 (.t (.s .z)) (.t .z))) .n (fun w1 S1 hs tr => c_144 (tr.ctx hs12) _) ?_
 rintro _ _ ⟨rfl, rfl⟩
 refine FJ.cat .n ?_
 refine FJ.nil (FJ.then_ ?_)
 refine FJ.condP (.t .z) (fun b14 => ?_) (fun b14 => ?_)
 refine FJ.seq (FJ.region (FJ.ql rfl (q_assign rfl .c) (FJ.nil (FJ.then_ ?_))))
 refine FJ.ret (FJ.inBR (FJ.thenR (FJ.thenR (FJ.inBR ?_))))
 refine FJ.thenR ?_
 refine FJ.doneS (res1 rfl .z) .n ?_
 have h60 : (1 ≤ x.links ∧ x.links ≤ 60) ∨ ¬ (1 ≤ x.links ∧ x.links ≤ 60) := Classical.em _; exact ⟨by first | (rw [fileFault_3 (by omega)]; done) | (rw [fileFault_1 ⟨by assumption, by assumption⟩ (by omega)]; done) | (rw [fileFault_3' ⟨by assumption, by assumption⟩ (by omega) (by assumption)]; done) | (rw [fileFault_7 ⟨by assumption, by assumption⟩ (by omega) (by assumption) (not_nodup hx10 (by assumption))]; done) | (rw [fileFault_0 ⟨by assumption, by assumption⟩ (by omega) (by assumption) (by rw [List.take_of_length_le (by omega)] at hnd; exact hnd)]; done), rfl⟩
 refine FJ.skip (FJ.inBN (FJ.then_ (FJ.region ?_)))
 refine FJ.ql rfl (q_add (c := ((k + 1 : Nat) : Int)) rfl (.t (.s4 (.s4 (.s4 .z)))) .c (wr (by omega) (by omega) (by omega))) ?_
 refine FJ.er (.s4 (.s4 (.s4 (.s .z)))) (FJ.ql rfl (q_move rfl (.t .z)) (FJ.nil ?_))
 refine FJ.again (k + 1) ⟨by omega, nodup_s hnd hx10 (by assumption)⟩ (by first | omega | (dsimp only; omega)) (.c .z (.c (.s4 (.s4 (.s4 (.s (.s .z))))) (.c (.s4 (.s4 (.s4 (.s (.s (.s .z)))))) (.c (.s16 .z) .n)))) (fun _ h => h.sel (.c .z .n))
 refine FJ.exit (FJ.thenE (FJ.thenE (FJ.inB (FJ.then_ ?_))))
 refine FJ.seq (FJ.region (FJ.ql rfl (q_assign rfl .c) (FJ.nil (FJ.then_ ?_))))
 refine FJ.ret ?_
 refine FJ.doneS (res1 rfl .z) .n ?_
 have h60 : (1 ≤ x.links ∧ x.links ≤ 60) ∨ ¬ (1 ≤ x.links ∧ x.links ≤ 60) := Classical.em _; exact ⟨by first | (rw [fileFault_3 (by omega)]; done) | (rw [fileFault_1 ⟨by assumption, by assumption⟩ (by omega)]; done) | (rw [fileFault_3' ⟨by assumption, by assumption⟩ (by omega) (by assumption)]; done) | (rw [fileFault_0 ⟨by assumption, by assumption⟩ (by omega) (by assumption) (by rw [List.take_of_length_le (by omega)] at hnd; exact hnd)]; done), rfl⟩
 refine FJ.q (goes_sch rfl rfl) rfl (by decide) rfl (q_fieldAddr rfl (.t (.s4 (.s4 (.s4 (.s (.s .z)))))) (fun _ => fa_30_2 _ _)) ?_
 refine FJ.sk .z ?_
 refine FJ.schN ?_
 refine FJ.sch [] 5 #[true, true, false, true, false, false, false, false] (by rfl) (by kernel_rfl) ?_
 refine FJ.schN ?_
 refine FJ.fork2 (i := 2) (j := 4) (by kernel_rfl) ?_ ?_
 refine FJ.call (goes_sch rfl rfl) rfl (by decide) rfl (c_call rfl Try.func145 rfl rfl (args1 (.t (.s .z)))) .n (fun w1 S1 hs tr => c_145 (tr.ctx h0_3)) ?_
 rintro _ _ ⟨rfl, rfl⟩
 refine FJ.cat .n ?_
 refine FJ.sk .z ?_
 refine FJ.schN ?_
 refine FJ.sch [(4, false), (5, false), (6, true), (7, false)] 0 #[true, true, true, true, true, true, true, true] (by rfl) (by kernel_rfl) ?_
 refine FJ.q (goes_sch rfl rfl) rfl (by decide) rfl (q_load rfl ag_2 (.t (.s .z)) (WS.row .z rfl)) ?_
 refine FJ.sk .z ?_
 refine FJ.call (goes_sch rfl rfl) rfl (by decide) rfl (c_call rfl Try.func100 rfl rfl (args1 (.t .z))) .n (fun w1 S1 hs tr => c_100 _ (by omega) (by omega)) ?_
 rintro _ _ ⟨rfl, rfl⟩
 refine FJ.cat .n ?_
 refine FJ.sk .z ?_
 refine FJ.dq rfl rfl rfl (by decide) rfl .z (q_neq rfl (.t (.s (.s .z))) (.t .z)) ?_
 refine FJ.q (goes_sch rfl rfl) rfl (by decide) rfl (q_assign rfl (.t .z)) ?_
 refine FJ.sl rfl ?_
 refine FJ.schN ?_
 refine FJ.drawN (by kernel_rfl) ?_
 refine FJ.then_ ?_
 refine FJ.condN (.t .z) (fun b15 => ?_) (fun b15 => ?_)
 refine FJ.seq (FJ.region (FJ.er (.s16 (.s (.s (.s .z)))) (FJ.ql rfl (q_assign rfl .c) (FJ.nil ?_))))
 refine FJ.then_ (FJ.ret (FJ.inBR (FJ.thenR ?_)))
 refine FJ.doneS (res1 rfl .z) .n ?_
 have h60 : (1 ≤ x.links ∧ x.links ≤ 60) ∨ ¬ (1 ≤ x.links ∧ x.links ≤ 60) := Classical.em _; exact ⟨by first | (rw [fileFault_3 (by omega)]; done) | (rw [fileFault_1 ⟨by assumption, by assumption⟩ (by omega)]; done) | (rw [fileFault_3' ⟨by assumption, by assumption⟩ (by omega) (by assumption)]; done) | (rw [fileFault_0 ⟨by assumption, by assumption⟩ (by omega) (by assumption) (by rw [List.take_of_length_le (by omega)] at hnd; exact hnd)]; done), rfl⟩
 refine FJ.seq (FJ.region (FJ.ql rfl (q_fieldAddr rfl (.t (.s16 (.s4 .z))) (fun _ => fa_30_3 _ _)) (FJ.ql rfl (q_load rfl ag_22 (.t .z) (WS.row .z rfl)) ?_)))
 refine FJ.call (goes_list rfl) rfl (by decide) rfl (c_call rfl Try.func142 rfl rfl (args2 (.t .z) .f)) .n (fun w1 S1 hs tr => c_142 (tr.ctx h0_3) Try.func148 rfl rfl (fun w2 S2 h2 x => c_148 x)) ?_
 rintro _ _ ⟨rfl, rfl⟩
 refine FJ.cat .n ?_
 refine FJ.ql rfl (q_assign rfl (.t .z)) (FJ.nil (FJ.then_ ?_))
 refine FJ.cond (.t .z) (fun b16 => ?_) (fun b16 => ?_)
 refine FJ.seq (FJ.region (FJ.er (.s16 (.s4 (.s (.s (.s .z))))) (FJ.ql rfl (q_assign rfl .c) (FJ.nil ?_))))
 refine FJ.then_ (FJ.ret (FJ.inBR (FJ.thenR ?_)))
 refine FJ.doneS (res1 rfl .z) .n ?_
 have h60 : (1 ≤ x.links ∧ x.links ≤ 60) ∨ ¬ (1 ≤ x.links ∧ x.links ≤ 60) := Classical.em _; exact ⟨by first | (rw [fileFault_3 (by omega)]; done) | (rw [fileFault_1 ⟨by assumption, by assumption⟩ (by omega)]; done) | (rw [fileFault_3' ⟨by assumption, by assumption⟩ (by omega) (by assumption)]; done) | (rw [fileFault_0 ⟨by assumption, by assumption⟩ (by omega) (by assumption) (by rw [List.take_of_length_le (by omega)] at hnd; exact hnd)]; done), rfl⟩
 refine FJ.skip (FJ.inBN (FJ.then_ (FJ.seq (FJ.seq ?_))))
 refine FJ.region (FJ.ql rfl (q_fieldAddr rfl (.t (.s16 (.s4 (.s4 .z)))) (fun _ => fa_30_3 _ _)) (FJ.ql rfl (q_load rfl ag_22 (.t .z) (WS.row .z rfl)) (FJ.ql rfl (q_len rfl u_22 (.t .z)) (FJ.ql rfl (q_move rfl .c) ?_))))
 refine FJ.nil (FJ.then_ (FJ.block ?_))
 refine FJ.loopi (γ := Nat) (fun k => [(31, .int .i64 (k : Int)), (30, .int .i64 (x.blocks.length : Int)), (29, .slice A0_3 x.blocks.length c0_3), (1, .pointer (some ⟨g3, 0, none⟩))]) (fun k => [rowA g3 30 5 1 [.int .i64 x.kind, .int .i64 x.links, .int .i64 x.size, .slice A0_3 x.blocks.length c0_3, .slice A0_4 x.ents.length c0_4]]) (fun k => k ≤ x.blocks.length ∧ (x.blocks.take k).Nodup) (fun k => x.blocks.length - k) 0 ⟨Nat.zero_le _, List.Pairwise.nil⟩ (.c .z (.c (.s .z) (.c (.s (.s .z)) (.c (.s16 (.s4 (.s4 (.s4 .z)))) .n)))) (fun _ h => h.sel (.c .z .n)) ?_
 rintro k ⟨hk, hnd⟩
 refine FJ.seq (FJ.region (FJ.ql rfl (q_lss rfl (.t .z) (.t (.s .z))) (FJ.nil (FJ.then_ ?_))))
 refine FJ.seq ?_
 refine FJ.condP (.t .z) (fun b17 => ?_) (fun b17 => ?_)
 refine FJ.skip (FJ.then_ (FJ.seq (FJ.block (FJ.seq ?_))))
 refine FJ.region (FJ.ql rfl (q_move rfl (.t (.s .z))) ?_)
 obtain ⟨ad18, hAad18, hrad18⟩ := he0_3 (by omega)
 subst hAad18
 obtain ⟨x19, hx19⟩ := get_ex (xs := x.blocks) (j := k) (by omega)
 obtain ⟨ece20, hre20, hFe20, hce20⟩ := hrad18.elem hx19
 obtain ⟨rfl, se20⟩ := hre20
 refine FJ.ql rfl (q_indexAddr (j := k) rfl u_22 sz_2 (.t (.s4 .z)) (.t (.s (.s .z))) rfl (by omega)) ?_
 refine FJ.ql rfl (q_load rfl ag_2 (.t .z) (WS.el0 hFe20 hce20 rfl)) (FJ.ql rfl (q_assign rfl (.t (.s (.s .z)))) (FJ.ql rfl (q_assign rfl (.t (.s .z))) (FJ.nil (FJ.then_ ?_))))
 refine FJ.seq (FJ.region (FJ.ql rfl (q_fieldAddr rfl (.t (.s4 (.s4 (.s .z)))) (fun _ => fa_30_3 _ _)) (FJ.ql rfl (q_load rfl ag_22 (.t .z) (WS.row .z rfl)) (FJ.ql rfl (q_move rfl (.t (.s (.s (.s .z))))) ?_))))
 obtain ⟨As21, hAs21⟩ : ∃ A' : Option Addr, A' = (if c0_3 = 0 then (some ad18) else Option.map (fun z => Addr.add z (0 * 1)) (some ad18)) := ⟨_, rfl⟩
 have hs21 := ro_sub (a := 0) (b := k) hAs21 h0_3 (by omega) (by omega)
 have ls21 := subL_len (xs := x.blocks) (a := 0) (b := k) (by omega)
 refine FJ.ql rfl (q_sliceL (a := 0) (b := k) rfl u_22 sz_2 (.t (.s .z)) hAs21 (.inl ⟨rfl, rfl⟩) (.inr ⟨_, _, rfl, (.t .z)⟩) (by omega) (by omega) (by omega)) ?_
 refine FJ.ql rfl (q_move rfl (.t (.s4 .z))) ?_
 refine FJ.call (goes_list rfl) rfl (by decide) rfl (c_call rfl Try.func144 rfl rfl (args2 (.t (.s .z)) (.t .z))) .n (fun w1 S1 hs tr => c_144 (tr.ctx hs21) _) ?_
 rintro _ _ ⟨rfl, rfl⟩
 refine FJ.cat .n ?_
 refine FJ.nil (FJ.then_ ?_)
 refine FJ.condP (.t .z) (fun b23 => ?_) (fun b23 => ?_)
 refine FJ.seq (FJ.region (FJ.ql rfl (q_assign rfl .c) (FJ.nil (FJ.then_ ?_))))
 refine FJ.ret (FJ.inBR (FJ.thenR (FJ.thenR (FJ.inBR ?_))))
 refine FJ.thenR ?_
 refine FJ.doneS (res1 rfl .z) .n ?_
 have h60 : (1 ≤ x.links ∧ x.links ≤ 60) ∨ ¬ (1 ≤ x.links ∧ x.links ≤ 60) := Classical.em _; exact ⟨by first | (rw [fileFault_3 (by omega)]; done) | (rw [fileFault_1 ⟨by assumption, by assumption⟩ (by omega)]; done) | (rw [fileFault_3' ⟨by assumption, by assumption⟩ (by omega) (by assumption)]; done) | (rw [fileFault_7 ⟨by assumption, by assumption⟩ (by omega) (by assumption) (not_nodup hx19 (by assumption))]; done) | (rw [fileFault_0 ⟨by assumption, by assumption⟩ (by omega) (by assumption) (by rw [List.take_of_length_le (by omega)] at hnd; exact hnd)]; done), rfl⟩
 refine FJ.skip (FJ.inBN (FJ.then_ (FJ.region ?_)))
 refine FJ.ql rfl (q_add (c := ((k + 1 : Nat) : Int)) rfl (.t (.s4 (.s4 (.s4 .z)))) .c (wr (by omega) (by omega) (by omega))) ?_
 refine FJ.er (.s4 (.s4 (.s4 (.s .z)))) (FJ.ql rfl (q_move rfl (.t .z)) (FJ.nil ?_))
 refine FJ.again (k + 1) ⟨by omega, nodup_s hnd hx19 (by assumption)⟩ (by first | omega | (dsimp only; omega)) (.c .z (.c (.s4 (.s4 (.s4 (.s (.s .z))))) (.c (.s4 (.s4 (.s4 (.s (.s (.s .z)))))) (.c (.s16 .z) .n)))) (fun _ h => h.sel (.c .z .n))
 refine FJ.exit (FJ.thenE (FJ.thenE (FJ.inB (FJ.then_ ?_))))
 refine FJ.seq (FJ.region (FJ.ql rfl (q_assign rfl .c) (FJ.nil (FJ.then_ ?_))))
 refine FJ.ret ?_
 refine FJ.doneS (res1 rfl .z) .n ?_
 have h60 : (1 ≤ x.links ∧ x.links ≤ 60) ∨ ¬ (1 ≤ x.links ∧ x.links ≤ 60) := Classical.em _; exact ⟨by first | (rw [fileFault_3 (by omega)]; done) | (rw [fileFault_1 ⟨by assumption, by assumption⟩ (by omega)]; done) | (rw [fileFault_3' ⟨by assumption, by assumption⟩ (by omega) (by assumption)]; done) | (rw [fileFault_0 ⟨by assumption, by assumption⟩ (by omega) (by assumption) (by rw [List.take_of_length_le (by omega)] at hnd; exact hnd)]; done), rfl⟩
 refine FJ.q (goes_sch rfl rfl) rfl (by decide) rfl (q_load rfl ag_2 (.t .z) (WS.row .z rfl)) ?_
 refine FJ.sk .z ?_
 refine FJ.schN ?_
 refine FJ.sch [(2, false), (5, false), (6, true), (7, false)] 0 #[true, true, true, true, true, true, true, true] (by rfl) (by kernel_rfl) ?_
 refine FJ.call (goes_sch rfl rfl) rfl (by decide) rfl (c_call rfl Try.func145 rfl rfl (args1 (.t (.s (.s .z))))) .n (fun w1 S1 hs tr => c_145 (tr.ctx h0_3)) ?_
 rintro _ _ ⟨rfl, rfl⟩
 refine FJ.cat .n ?_
 refine FJ.sk .z ?_
 refine FJ.call (goes_sch rfl rfl) rfl (by decide) rfl (c_call rfl Try.func100 rfl rfl (args1 (.t (.s .z)))) .n (fun w1 S1 hs tr => c_100 _ (by omega) (by omega)) ?_
 rintro _ _ ⟨rfl, rfl⟩
 refine FJ.cat .n ?_
 refine FJ.sk .z ?_
 refine FJ.dq rfl rfl rfl (by decide) rfl .z (q_neq rfl (.t (.s .z)) (.t .z)) ?_
 refine FJ.q (goes_sch rfl rfl) rfl (by decide) rfl (q_assign rfl (.t .z)) ?_
 refine FJ.sl rfl ?_
 refine FJ.schN ?_
 refine FJ.drawN (by kernel_rfl) ?_
 refine FJ.then_ ?_
 refine FJ.condN (.t .z) (fun b24 => ?_) (fun b24 => ?_)
 refine FJ.seq (FJ.region (FJ.er (.s16 (.s (.s (.s .z)))) (FJ.ql rfl (q_assign rfl .c) (FJ.nil ?_))))
 refine FJ.then_ (FJ.ret (FJ.inBR (FJ.thenR ?_)))
 refine FJ.doneS (res1 rfl .z) .n ?_
 have h60 : (1 ≤ x.links ∧ x.links ≤ 60) ∨ ¬ (1 ≤ x.links ∧ x.links ≤ 60) := Classical.em _; exact ⟨by first | (rw [fileFault_3 (by omega)]; done) | (rw [fileFault_1 ⟨by assumption, by assumption⟩ (by omega)]; done) | (rw [fileFault_3' ⟨by assumption, by assumption⟩ (by omega) (by assumption)]; done) | (rw [fileFault_0 ⟨by assumption, by assumption⟩ (by omega) (by assumption) (by rw [List.take_of_length_le (by omega)] at hnd; exact hnd)]; done), rfl⟩
 refine FJ.seq (FJ.region (FJ.ql rfl (q_fieldAddr rfl (.t (.s16 (.s4 .z))) (fun _ => fa_30_3 _ _)) (FJ.ql rfl (q_load rfl ag_22 (.t .z) (WS.row .z rfl)) ?_)))
 refine FJ.call (goes_list rfl) rfl (by decide) rfl (c_call rfl Try.func142 rfl rfl (args2 (.t .z) .f)) .n (fun w1 S1 hs tr => c_142 (tr.ctx h0_3) Try.func148 rfl rfl (fun w2 S2 h2 x => c_148 x)) ?_
 rintro _ _ ⟨rfl, rfl⟩
 refine FJ.cat .n ?_
 refine FJ.ql rfl (q_assign rfl (.t .z)) (FJ.nil (FJ.then_ ?_))
 refine FJ.cond (.t .z) (fun b25 => ?_) (fun b25 => ?_)
 refine FJ.seq (FJ.region (FJ.er (.s16 (.s4 (.s (.s (.s .z))))) (FJ.ql rfl (q_assign rfl .c) (FJ.nil ?_))))
 refine FJ.then_ (FJ.ret (FJ.inBR (FJ.thenR ?_)))
 refine FJ.doneS (res1 rfl .z) .n ?_
 have h60 : (1 ≤ x.links ∧ x.links ≤ 60) ∨ ¬ (1 ≤ x.links ∧ x.links ≤ 60) := Classical.em _; exact ⟨by first | (rw [fileFault_3 (by omega)]; done) | (rw [fileFault_1 ⟨by assumption, by assumption⟩ (by omega)]; done) | (rw [fileFault_3' ⟨by assumption, by assumption⟩ (by omega) (by assumption)]; done) | (rw [fileFault_0 ⟨by assumption, by assumption⟩ (by omega) (by assumption) (by rw [List.take_of_length_le (by omega)] at hnd; exact hnd)]; done), rfl⟩
 refine FJ.skip (FJ.inBN (FJ.then_ (FJ.seq (FJ.seq ?_))))
 refine FJ.region (FJ.ql rfl (q_fieldAddr rfl (.t (.s16 (.s4 (.s4 .z)))) (fun _ => fa_30_3 _ _)) (FJ.ql rfl (q_load rfl ag_22 (.t .z) (WS.row .z rfl)) (FJ.ql rfl (q_len rfl u_22 (.t .z)) (FJ.ql rfl (q_move rfl .c) ?_))))
 refine FJ.nil (FJ.then_ (FJ.block ?_))
 refine FJ.loopi (γ := Nat) (fun k => [(31, .int .i64 (k : Int)), (30, .int .i64 (x.blocks.length : Int)), (29, .slice A0_3 x.blocks.length c0_3), (1, .pointer (some ⟨g3, 0, none⟩))]) (fun k => [rowA g3 30 5 1 [.int .i64 x.kind, .int .i64 x.links, .int .i64 x.size, .slice A0_3 x.blocks.length c0_3, .slice A0_4 x.ents.length c0_4]]) (fun k => k ≤ x.blocks.length ∧ (x.blocks.take k).Nodup) (fun k => x.blocks.length - k) 0 ⟨Nat.zero_le _, List.Pairwise.nil⟩ (.c .z (.c (.s .z) (.c (.s (.s .z)) (.c (.s16 (.s4 (.s4 (.s4 .z)))) .n)))) (fun _ h => h.sel (.c .z .n)) ?_
 rintro k ⟨hk, hnd⟩
 refine FJ.seq (FJ.region (FJ.ql rfl (q_lss rfl (.t .z) (.t (.s .z))) (FJ.nil (FJ.then_ ?_))))
 refine FJ.seq ?_
 refine FJ.condP (.t .z) (fun b26 => ?_) (fun b26 => ?_)
 refine FJ.skip (FJ.then_ (FJ.seq (FJ.block (FJ.seq ?_))))
 refine FJ.region (FJ.ql rfl (q_move rfl (.t (.s .z))) ?_)
 obtain ⟨ad27, hAad27, hrad27⟩ := he0_3 (by omega)
 subst hAad27
 obtain ⟨x28, hx28⟩ := get_ex (xs := x.blocks) (j := k) (by omega)
 obtain ⟨ece29, hre29, hFe29, hce29⟩ := hrad27.elem hx28
 obtain ⟨rfl, se29⟩ := hre29
 refine FJ.ql rfl (q_indexAddr (j := k) rfl u_22 sz_2 (.t (.s4 .z)) (.t (.s (.s .z))) rfl (by omega)) ?_
 refine FJ.ql rfl (q_load rfl ag_2 (.t .z) (WS.el0 hFe29 hce29 rfl)) (FJ.ql rfl (q_assign rfl (.t (.s (.s .z)))) (FJ.ql rfl (q_assign rfl (.t (.s .z))) (FJ.nil (FJ.then_ ?_))))
 refine FJ.seq (FJ.region (FJ.ql rfl (q_fieldAddr rfl (.t (.s4 (.s4 (.s .z)))) (fun _ => fa_30_3 _ _)) (FJ.ql rfl (q_load rfl ag_22 (.t .z) (WS.row .z rfl)) (FJ.ql rfl (q_move rfl (.t (.s (.s (.s .z))))) ?_))))
 obtain ⟨As30, hAs30⟩ : ∃ A' : Option Addr, A' = (if c0_3 = 0 then (some ad27) else Option.map (fun z => Addr.add z (0 * 1)) (some ad27)) := ⟨_, rfl⟩
 have hs30 := ro_sub (a := 0) (b := k) hAs30 h0_3 (by omega) (by omega)
 have ls30 := subL_len (xs := x.blocks) (a := 0) (b := k) (by omega)
 refine FJ.ql rfl (q_sliceL (a := 0) (b := k) rfl u_22 sz_2 (.t (.s .z)) hAs30 (.inl ⟨rfl, rfl⟩) (.inr ⟨_, _, rfl, (.t .z)⟩) (by omega) (by omega) (by omega)) ?_
 refine FJ.ql rfl (q_move rfl (.t (.s4 .z))) ?_
 refine FJ.call (goes_list rfl) rfl (by decide) rfl (c_call rfl Try.func144 rfl rfl (args2 (.t (.s .z)) (.t .z))) .n (fun w1 S1 hs tr => c_144 (tr.ctx hs30) _) ?_
 rintro _ _ ⟨rfl, rfl⟩
 refine FJ.cat .n ?_
 refine FJ.nil (FJ.then_ ?_)
 refine FJ.condP (.t .z) (fun b32 => ?_) (fun b32 => ?_)
 refine FJ.seq (FJ.region (FJ.ql rfl (q_assign rfl .c) (FJ.nil (FJ.then_ ?_))))
 refine FJ.ret (FJ.inBR (FJ.thenR (FJ.thenR (FJ.inBR ?_))))
 refine FJ.thenR ?_
 refine FJ.doneS (res1 rfl .z) .n ?_
 have h60 : (1 ≤ x.links ∧ x.links ≤ 60) ∨ ¬ (1 ≤ x.links ∧ x.links ≤ 60) := Classical.em _; exact ⟨by first | (rw [fileFault_3 (by omega)]; done) | (rw [fileFault_1 ⟨by assumption, by assumption⟩ (by omega)]; done) | (rw [fileFault_3' ⟨by assumption, by assumption⟩ (by omega) (by assumption)]; done) | (rw [fileFault_7 ⟨by assumption, by assumption⟩ (by omega) (by assumption) (not_nodup hx28 (by assumption))]; done) | (rw [fileFault_0 ⟨by assumption, by assumption⟩ (by omega) (by assumption) (by rw [List.take_of_length_le (by omega)] at hnd; exact hnd)]; done), rfl⟩
 refine FJ.skip (FJ.inBN (FJ.then_ (FJ.region ?_)))
 refine FJ.ql rfl (q_add (c := ((k + 1 : Nat) : Int)) rfl (.t (.s4 (.s4 (.s4 .z)))) .c (wr (by omega) (by omega) (by omega))) ?_
 refine FJ.er (.s4 (.s4 (.s4 (.s .z)))) (FJ.ql rfl (q_move rfl (.t .z)) (FJ.nil ?_))
 refine FJ.again (k + 1) ⟨by omega, nodup_s hnd hx28 (by assumption)⟩ (by first | omega | (dsimp only; omega)) (.c .z (.c (.s4 (.s4 (.s4 (.s (.s .z))))) (.c (.s4 (.s4 (.s4 (.s (.s (.s .z)))))) (.c (.s16 .z) .n)))) (fun _ h => h.sel (.c .z .n))
 refine FJ.exit (FJ.thenE (FJ.thenE (FJ.inB (FJ.then_ ?_))))
 refine FJ.seq (FJ.region (FJ.ql rfl (q_assign rfl .c) (FJ.nil (FJ.then_ ?_))))
 refine FJ.ret ?_
 refine FJ.doneS (res1 rfl .z) .n ?_
 have h60 : (1 ≤ x.links ∧ x.links ≤ 60) ∨ ¬ (1 ≤ x.links ∧ x.links ≤ 60) := Classical.em _; exact ⟨by first | (rw [fileFault_3 (by omega)]; done) | (rw [fileFault_1 ⟨by assumption, by assumption⟩ (by omega)]; done) | (rw [fileFault_3' ⟨by assumption, by assumption⟩ (by omega) (by assumption)]; done) | (rw [fileFault_0 ⟨by assumption, by assumption⟩ (by omega) (by assumption) (by rw [List.take_of_length_le (by omega)] at hnd; exact hnd)]; done), rfl⟩
 refine FJ.q (goes_sch rfl rfl) rfl (by decide) rfl (q_fieldAddr rfl (.t (.s4 (.s4 (.s4 (.s .z))))) (fun _ => fa_30_2 _ _)) ?_
 refine FJ.sk .z ?_
 refine FJ.schN ?_
 refine FJ.sch [] 6 #[true, false, false, true, false, false, false, false] (by rfl) (by kernel_rfl) ?_
 refine FJ.schN ?_
 refine FJ.fork2 (i := 1) (j := 4) (by kernel_rfl) ?_ ?_
 refine FJ.q (goes_sch rfl rfl) rfl (by decide) rfl (q_load rfl ag_22 (.t (.s .z)) (WS.row .z rfl)) ?_
 refine FJ.sk .z ?_
 refine FJ.schN ?_
 refine FJ.sch [] 5 #[true, true, false, true, false, false, false, false] (by rfl) (by kernel_rfl) ?_
 refine FJ.schN ?_
 refine FJ.fork2 (i := 2) (j := 4) (by kernel_rfl) ?_ ?_
 refine FJ.call (goes_sch rfl rfl) rfl (by decide) rfl (c_call rfl Try.func145 rfl rfl (args1 (.t .z))) .n (fun w1 S1 hs tr => c_145 (tr.ctx h0_3)) ?_
 rintro _ _ ⟨rfl, rfl⟩
 refine FJ.cat .n ?_
 refine FJ.sk .z ?_
 refine FJ.schN ?_
 refine FJ.sch [(4, false), (5, false), (6, true), (7, false)] 0 #[true, true, true, true, true, true, true, true] (by rfl) (by kernel_rfl) ?_
 refine FJ.q (goes_sch rfl rfl) rfl (by decide) rfl (q_load rfl ag_2 (.t (.s (.s .z))) (WS.row .z rfl)) ?_
 refine FJ.sk .z ?_
 refine FJ.call (goes_sch rfl rfl) rfl (by decide) rfl (c_call rfl Try.func100 rfl rfl (args1 (.t .z))) .n (fun w1 S1 hs tr => c_100 _ (by omega) (by omega)) ?_
 rintro _ _ ⟨rfl, rfl⟩
 refine FJ.cat .n ?_
 refine FJ.sk .z ?_
 refine FJ.dq rfl rfl rfl (by decide) rfl .z (q_neq rfl (.t (.s (.s .z))) (.t .z)) ?_
 refine FJ.q (goes_sch rfl rfl) rfl (by decide) rfl (q_assign rfl (.t .z)) ?_
 refine FJ.sl rfl ?_
 refine FJ.schN ?_
 refine FJ.drawN (by kernel_rfl) ?_
 refine FJ.then_ ?_
 refine FJ.condN (.t .z) (fun b33 => ?_) (fun b33 => ?_)
 refine FJ.seq (FJ.region (FJ.er (.s16 (.s (.s (.s .z)))) (FJ.ql rfl (q_assign rfl .c) (FJ.nil ?_))))
 refine FJ.then_ (FJ.ret (FJ.inBR (FJ.thenR ?_)))
 refine FJ.doneS (res1 rfl .z) .n ?_
 have h60 : (1 ≤ x.links ∧ x.links ≤ 60) ∨ ¬ (1 ≤ x.links ∧ x.links ≤ 60) := Classical.em _; exact ⟨by first | (rw [fileFault_3 (by omega)]; done) | (rw [fileFault_1 ⟨by assumption, by assumption⟩ (by omega)]; done) | (rw [fileFault_3' ⟨by assumption, by assumption⟩ (by omega) (by assumption)]; done) | (rw [fileFault_0 ⟨by assumption, by assumption⟩ (by omega) (by assumption) (by rw [List.take_of_length_le (by omega)] at hnd; exact hnd)]; done), rfl⟩
 refine FJ.seq (FJ.region (FJ.ql rfl (q_fieldAddr rfl (.t (.s16 (.s4 .z))) (fun _ => fa_30_3 _ _)) (FJ.ql rfl (q_load rfl ag_22 (.t .z) (WS.row .z rfl)) ?_)))
 refine FJ.call (goes_list rfl) rfl (by decide) rfl (c_call rfl Try.func142 rfl rfl (args2 (.t .z) .f)) .n (fun w1 S1 hs tr => c_142 (tr.ctx h0_3) Try.func148 rfl rfl (fun w2 S2 h2 x => c_148 x)) ?_
 rintro _ _ ⟨rfl, rfl⟩
 refine FJ.cat .n ?_
 refine FJ.ql rfl (q_assign rfl (.t .z)) (FJ.nil (FJ.then_ ?_))
 refine FJ.cond (.t .z) (fun b34 => ?_) (fun b34 => ?_)
 refine FJ.seq (FJ.region (FJ.er (.s16 (.s4 (.s (.s (.s .z))))) (FJ.ql rfl (q_assign rfl .c) (FJ.nil ?_))))
 refine FJ.then_ (FJ.ret (FJ.inBR (FJ.thenR ?_)))
 refine FJ.doneS (res1 rfl .z) .n ?_
 have h60 : (1 ≤ x.links ∧ x.links ≤ 60) ∨ ¬ (1 ≤ x.links ∧ x.links ≤ 60) := Classical.em _; exact ⟨by first | (rw [fileFault_3 (by omega)]; done) | (rw [fileFault_1 ⟨by assumption, by assumption⟩ (by omega)]; done) | (rw [fileFault_3' ⟨by assumption, by assumption⟩ (by omega) (by assumption)]; done) | (rw [fileFault_0 ⟨by assumption, by assumption⟩ (by omega) (by assumption) (by rw [List.take_of_length_le (by omega)] at hnd; exact hnd)]; done), rfl⟩
 refine FJ.skip (FJ.inBN (FJ.then_ (FJ.seq (FJ.seq ?_))))
 refine FJ.region (FJ.ql rfl (q_fieldAddr rfl (.t (.s16 (.s4 (.s4 .z)))) (fun _ => fa_30_3 _ _)) (FJ.ql rfl (q_load rfl ag_22 (.t .z) (WS.row .z rfl)) (FJ.ql rfl (q_len rfl u_22 (.t .z)) (FJ.ql rfl (q_move rfl .c) ?_))))
 refine FJ.nil (FJ.then_ (FJ.block ?_))
 refine FJ.loopi (γ := Nat) (fun k => [(31, .int .i64 (k : Int)), (30, .int .i64 (x.blocks.length : Int)), (29, .slice A0_3 x.blocks.length c0_3), (1, .pointer (some ⟨g3, 0, none⟩))]) (fun k => [rowA g3 30 5 1 [.int .i64 x.kind, .int .i64 x.links, .int .i64 x.size, .slice A0_3 x.blocks.length c0_3, .slice A0_4 x.ents.length c0_4]]) (fun k => k ≤ x.blocks.length ∧ (x.blocks.take k).Nodup) (fun k => x.blocks.length - k) 0 ⟨Nat.zero_le _, List.Pairwise.nil⟩ (.c .z (.c (.s .z) (.c (.s (.s .z)) (.c (.s16 (.s4 (.s4 (.s4 .z)))) .n)))) (fun _ h => h.sel (.c .z .n)) ?_
 rintro k ⟨hk, hnd⟩
 refine FJ.seq (FJ.region (FJ.ql rfl (q_lss rfl (.t .z) (.t (.s .z))) (FJ.nil (FJ.then_ ?_))))
 refine FJ.seq ?_
 refine FJ.condP (.t .z) (fun b35 => ?_) (fun b35 => ?_)
 refine FJ.skip (FJ.then_ (FJ.seq (FJ.block (FJ.seq ?_))))
 refine FJ.region (FJ.ql rfl (q_move rfl (.t (.s .z))) ?_)
 obtain ⟨ad36, hAad36, hrad36⟩ := he0_3 (by omega)
 subst hAad36
 obtain ⟨x37, hx37⟩ := get_ex (xs := x.blocks) (j := k) (by omega)
 obtain ⟨ece38, hre38, hFe38, hce38⟩ := hrad36.elem hx37
 obtain ⟨rfl, se38⟩ := hre38
 refine FJ.ql rfl (q_indexAddr (j := k) rfl u_22 sz_2 (.t (.s4 .z)) (.t (.s (.s .z))) rfl (by omega)) ?_
 refine FJ.ql rfl (q_load rfl ag_2 (.t .z) (WS.el0 hFe38 hce38 rfl)) (FJ.ql rfl (q_assign rfl (.t (.s (.s .z)))) (FJ.ql rfl (q_assign rfl (.t (.s .z))) (FJ.nil (FJ.then_ ?_))))
 refine FJ.seq (FJ.region (FJ.ql rfl (q_fieldAddr rfl (.t (.s4 (.s4 (.s .z)))) (fun _ => fa_30_3 _ _)) (FJ.ql rfl (q_load rfl ag_22 (.t .z) (WS.row .z rfl)) (FJ.ql rfl (q_move rfl (.t (.s (.s (.s .z))))) ?_))))
 obtain ⟨As39, hAs39⟩ : ∃ A' : Option Addr, A' = (if c0_3 = 0 then (some ad36) else Option.map (fun z => Addr.add z (0 * 1)) (some ad36)) := ⟨_, rfl⟩
 have hs39 := ro_sub (a := 0) (b := k) hAs39 h0_3 (by omega) (by omega)
 have ls39 := subL_len (xs := x.blocks) (a := 0) (b := k) (by omega)
 refine FJ.ql rfl (q_sliceL (a := 0) (b := k) rfl u_22 sz_2 (.t (.s .z)) hAs39 (.inl ⟨rfl, rfl⟩) (.inr ⟨_, _, rfl, (.t .z)⟩) (by omega) (by omega) (by omega)) ?_
 refine FJ.ql rfl (q_move rfl (.t (.s4 .z))) ?_
 refine FJ.call (goes_list rfl) rfl (by decide) rfl (c_call rfl Try.func144 rfl rfl (args2 (.t (.s .z)) (.t .z))) .n (fun w1 S1 hs tr => c_144 (tr.ctx hs39) _) ?_
 rintro _ _ ⟨rfl, rfl⟩
 refine FJ.cat .n ?_
 refine FJ.nil (FJ.then_ ?_)
 refine FJ.condP (.t .z) (fun b41 => ?_) (fun b41 => ?_)
 refine FJ.seq (FJ.region (FJ.ql rfl (q_assign rfl .c) (FJ.nil (FJ.then_ ?_))))
 refine FJ.ret (FJ.inBR (FJ.thenR (FJ.thenR (FJ.inBR ?_))))
 refine FJ.thenR ?_
 refine FJ.doneS (res1 rfl .z) .n ?_
 have h60 : (1 ≤ x.links ∧ x.links ≤ 60) ∨ ¬ (1 ≤ x.links ∧ x.links ≤ 60) := Classical.em _; exact ⟨by first | (rw [fileFault_3 (by omega)]; done) | (rw [fileFault_1 ⟨by assumption, by assumption⟩ (by omega)]; done) | (rw [fileFault_3' ⟨by assumption, by assumption⟩ (by omega) (by assumption)]; done) | (rw [fileFault_7 ⟨by assumption, by assumption⟩ (by omega) (by assumption) (not_nodup hx37 (by assumption))]; done) | (rw [fileFault_0 ⟨by assumption, by assumption⟩ (by omega) (by assumption) (by rw [List.take_of_length_le (by omega)] at hnd; exact hnd)]; done), rfl⟩
 refine FJ.skip (FJ.inBN (FJ.then_ (FJ.region ?_)))
 refine FJ.ql rfl (q_add (c := ((k + 1 : Nat) : Int)) rfl (.t (.s4 (.s4 (.s4 .z)))) .c (wr (by omega) (by omega) (by omega))) ?_
 refine FJ.er (.s4 (.s4 (.s4 (.s .z)))) (FJ.ql rfl (q_move rfl (.t .z)) (FJ.nil ?_))
 refine FJ.again (k + 1) ⟨by omega, nodup_s hnd hx37 (by assumption)⟩ (by first | omega | (dsimp only; omega)) (.c .z (.c (.s4 (.s4 (.s4 (.s (.s .z))))) (.c (.s4 (.s4 (.s4 (.s (.s (.s .z)))))) (.c (.s16 .z) .n)))) (fun _ h => h.sel (.c .z .n))
 refine FJ.exit (FJ.thenE (FJ.thenE (FJ.inB (FJ.then_ ?_))))
 refine FJ.seq (FJ.region (FJ.ql rfl (q_assign rfl .c) (FJ.nil (FJ.then_ ?_))))
 refine FJ.ret ?_
 refine FJ.doneS (res1 rfl .z) .n ?_
 have h60 : (1 ≤ x.links ∧ x.links ≤ 60) ∨ ¬ (1 ≤ x.links ∧ x.links ≤ 60) := Classical.em _; exact ⟨by first | (rw [fileFault_3 (by omega)]; done) | (rw [fileFault_1 ⟨by assumption, by assumption⟩ (by omega)]; done) | (rw [fileFault_3' ⟨by assumption, by assumption⟩ (by omega) (by assumption)]; done) | (rw [fileFault_0 ⟨by assumption, by assumption⟩ (by omega) (by assumption) (by rw [List.take_of_length_le (by omega)] at hnd; exact hnd)]; done), rfl⟩
 refine FJ.q (goes_sch rfl rfl) rfl (by decide) rfl (q_load rfl ag_2 (.t (.s .z)) (WS.row .z rfl)) ?_
 refine FJ.sk .z ?_
 refine FJ.schN ?_
 refine FJ.sch [(2, false), (5, false), (6, true), (7, false)] 0 #[true, true, true, true, true, true, true, true] (by rfl) (by kernel_rfl) ?_
 refine FJ.call (goes_sch rfl rfl) rfl (by decide) rfl (c_call rfl Try.func145 rfl rfl (args1 (.t (.s .z)))) .n (fun w1 S1 hs tr => c_145 (tr.ctx h0_3)) ?_
 rintro _ _ ⟨rfl, rfl⟩
 refine FJ.cat .n ?_
 refine FJ.sk .z ?_
 refine FJ.call (goes_sch rfl rfl) rfl (by decide) rfl (c_call rfl Try.func100 rfl rfl (args1 (.t (.s .z)))) .n (fun w1 S1 hs tr => c_100 _ (by omega) (by omega)) ?_
 rintro _ _ ⟨rfl, rfl⟩
 refine FJ.cat .n ?_
 refine FJ.sk .z ?_
 refine FJ.dq rfl rfl rfl (by decide) rfl .z (q_neq rfl (.t (.s .z)) (.t .z)) ?_
 refine FJ.q (goes_sch rfl rfl) rfl (by decide) rfl (q_assign rfl (.t .z)) ?_
 refine FJ.sl rfl ?_
 refine FJ.schN ?_
 refine FJ.drawN (by kernel_rfl) ?_
 refine FJ.then_ ?_
 refine FJ.condN (.t .z) (fun b42 => ?_) (fun b42 => ?_)
 refine FJ.seq (FJ.region (FJ.er (.s16 (.s (.s (.s .z)))) (FJ.ql rfl (q_assign rfl .c) (FJ.nil ?_))))
 refine FJ.then_ (FJ.ret (FJ.inBR (FJ.thenR ?_)))
 refine FJ.doneS (res1 rfl .z) .n ?_
 have h60 : (1 ≤ x.links ∧ x.links ≤ 60) ∨ ¬ (1 ≤ x.links ∧ x.links ≤ 60) := Classical.em _; exact ⟨by first | (rw [fileFault_3 (by omega)]; done) | (rw [fileFault_1 ⟨by assumption, by assumption⟩ (by omega)]; done) | (rw [fileFault_3' ⟨by assumption, by assumption⟩ (by omega) (by assumption)]; done) | (rw [fileFault_0 ⟨by assumption, by assumption⟩ (by omega) (by assumption) (by rw [List.take_of_length_le (by omega)] at hnd; exact hnd)]; done), rfl⟩
 refine FJ.seq (FJ.region (FJ.ql rfl (q_fieldAddr rfl (.t (.s16 (.s4 .z))) (fun _ => fa_30_3 _ _)) (FJ.ql rfl (q_load rfl ag_22 (.t .z) (WS.row .z rfl)) ?_)))
 refine FJ.call (goes_list rfl) rfl (by decide) rfl (c_call rfl Try.func142 rfl rfl (args2 (.t .z) .f)) .n (fun w1 S1 hs tr => c_142 (tr.ctx h0_3) Try.func148 rfl rfl (fun w2 S2 h2 x => c_148 x)) ?_
 rintro _ _ ⟨rfl, rfl⟩
 refine FJ.cat .n ?_
 refine FJ.ql rfl (q_assign rfl (.t .z)) (FJ.nil (FJ.then_ ?_))
 refine FJ.cond (.t .z) (fun b43 => ?_) (fun b43 => ?_)
 refine FJ.seq (FJ.region (FJ.er (.s16 (.s4 (.s (.s (.s .z))))) (FJ.ql rfl (q_assign rfl .c) (FJ.nil ?_))))
 refine FJ.then_ (FJ.ret (FJ.inBR (FJ.thenR ?_)))
 refine FJ.doneS (res1 rfl .z) .n ?_
 have h60 : (1 ≤ x.links ∧ x.links ≤ 60) ∨ ¬ (1 ≤ x.links ∧ x.links ≤ 60) := Classical.em _; exact ⟨by first | (rw [fileFault_3 (by omega)]; done) | (rw [fileFault_1 ⟨by assumption, by assumption⟩ (by omega)]; done) | (rw [fileFault_3' ⟨by assumption, by assumption⟩ (by omega) (by assumption)]; done) | (rw [fileFault_0 ⟨by assumption, by assumption⟩ (by omega) (by assumption) (by rw [List.take_of_length_le (by omega)] at hnd; exact hnd)]; done), rfl⟩
 refine FJ.skip (FJ.inBN (FJ.then_ (FJ.seq (FJ.seq ?_))))
 refine FJ.region (FJ.ql rfl (q_fieldAddr rfl (.t (.s16 (.s4 (.s4 .z)))) (fun _ => fa_30_3 _ _)) (FJ.ql rfl (q_load rfl ag_22 (.t .z) (WS.row .z rfl)) (FJ.ql rfl (q_len rfl u_22 (.t .z)) (FJ.ql rfl (q_move rfl .c) ?_))))
 refine FJ.nil (FJ.then_ (FJ.block ?_))
 refine FJ.loopi (γ := Nat) (fun k => [(31, .int .i64 (k : Int)), (30, .int .i64 (x.blocks.length : Int)), (29, .slice A0_3 x.blocks.length c0_3), (1, .pointer (some ⟨g3, 0, none⟩))]) (fun k => [rowA g3 30 5 1 [.int .i64 x.kind, .int .i64 x.links, .int .i64 x.size, .slice A0_3 x.blocks.length c0_3, .slice A0_4 x.ents.length c0_4]]) (fun k => k ≤ x.blocks.length ∧ (x.blocks.take k).Nodup) (fun k => x.blocks.length - k) 0 ⟨Nat.zero_le _, List.Pairwise.nil⟩ (.c .z (.c (.s .z) (.c (.s (.s .z)) (.c (.s16 (.s4 (.s4 (.s4 .z)))) .n)))) (fun _ h => h.sel (.c .z .n)) ?_
 rintro k ⟨hk, hnd⟩
 refine FJ.seq (FJ.region (FJ.ql rfl (q_lss rfl (.t .z) (.t (.s .z))) (FJ.nil (FJ.then_ ?_))))
 refine FJ.seq ?_
 refine FJ.condP (.t .z) (fun b44 => ?_) (fun b44 => ?_)
 refine FJ.skip (FJ.then_ (FJ.seq (FJ.block (FJ.seq ?_))))
 refine FJ.region (FJ.ql rfl (q_move rfl (.t (.s .z))) ?_)
 obtain ⟨ad45, hAad45, hrad45⟩ := he0_3 (by omega)
 subst hAad45
 obtain ⟨x46, hx46⟩ := get_ex (xs := x.blocks) (j := k) (by omega)
 obtain ⟨ece47, hre47, hFe47, hce47⟩ := hrad45.elem hx46
 obtain ⟨rfl, se47⟩ := hre47
 refine FJ.ql rfl (q_indexAddr (j := k) rfl u_22 sz_2 (.t (.s4 .z)) (.t (.s (.s .z))) rfl (by omega)) ?_
 refine FJ.ql rfl (q_load rfl ag_2 (.t .z) (WS.el0 hFe47 hce47 rfl)) (FJ.ql rfl (q_assign rfl (.t (.s (.s .z)))) (FJ.ql rfl (q_assign rfl (.t (.s .z))) (FJ.nil (FJ.then_ ?_))))
 refine FJ.seq (FJ.region (FJ.ql rfl (q_fieldAddr rfl (.t (.s4 (.s4 (.s .z)))) (fun _ => fa_30_3 _ _)) (FJ.ql rfl (q_load rfl ag_22 (.t .z) (WS.row .z rfl)) (FJ.ql rfl (q_move rfl (.t (.s (.s (.s .z))))) ?_))))
 obtain ⟨As48, hAs48⟩ : ∃ A' : Option Addr, A' = (if c0_3 = 0 then (some ad45) else Option.map (fun z => Addr.add z (0 * 1)) (some ad45)) := ⟨_, rfl⟩
 have hs48 := ro_sub (a := 0) (b := k) hAs48 h0_3 (by omega) (by omega)
 have ls48 := subL_len (xs := x.blocks) (a := 0) (b := k) (by omega)
 refine FJ.ql rfl (q_sliceL (a := 0) (b := k) rfl u_22 sz_2 (.t (.s .z)) hAs48 (.inl ⟨rfl, rfl⟩) (.inr ⟨_, _, rfl, (.t .z)⟩) (by omega) (by omega) (by omega)) ?_
 refine FJ.ql rfl (q_move rfl (.t (.s4 .z))) ?_
 refine FJ.call (goes_list rfl) rfl (by decide) rfl (c_call rfl Try.func144 rfl rfl (args2 (.t (.s .z)) (.t .z))) .n (fun w1 S1 hs tr => c_144 (tr.ctx hs48) _) ?_
 rintro _ _ ⟨rfl, rfl⟩
 refine FJ.cat .n ?_
 refine FJ.nil (FJ.then_ ?_)
 refine FJ.condP (.t .z) (fun b50 => ?_) (fun b50 => ?_)
 refine FJ.seq (FJ.region (FJ.ql rfl (q_assign rfl .c) (FJ.nil (FJ.then_ ?_))))
 refine FJ.ret (FJ.inBR (FJ.thenR (FJ.thenR (FJ.inBR ?_))))
 refine FJ.thenR ?_
 refine FJ.doneS (res1 rfl .z) .n ?_
 have h60 : (1 ≤ x.links ∧ x.links ≤ 60) ∨ ¬ (1 ≤ x.links ∧ x.links ≤ 60) := Classical.em _; exact ⟨by first | (rw [fileFault_3 (by omega)]; done) | (rw [fileFault_1 ⟨by assumption, by assumption⟩ (by omega)]; done) | (rw [fileFault_3' ⟨by assumption, by assumption⟩ (by omega) (by assumption)]; done) | (rw [fileFault_7 ⟨by assumption, by assumption⟩ (by omega) (by assumption) (not_nodup hx46 (by assumption))]; done) | (rw [fileFault_0 ⟨by assumption, by assumption⟩ (by omega) (by assumption) (by rw [List.take_of_length_le (by omega)] at hnd; exact hnd)]; done), rfl⟩
 refine FJ.skip (FJ.inBN (FJ.then_ (FJ.region ?_)))
 refine FJ.ql rfl (q_add (c := ((k + 1 : Nat) : Int)) rfl (.t (.s4 (.s4 (.s4 .z)))) .c (wr (by omega) (by omega) (by omega))) ?_
 refine FJ.er (.s4 (.s4 (.s4 (.s .z)))) (FJ.ql rfl (q_move rfl (.t .z)) (FJ.nil ?_))
 refine FJ.again (k + 1) ⟨by omega, nodup_s hnd hx46 (by assumption)⟩ (by first | omega | (dsimp only; omega)) (.c .z (.c (.s4 (.s4 (.s4 (.s (.s .z))))) (.c (.s4 (.s4 (.s4 (.s (.s (.s .z)))))) (.c (.s16 .z) .n)))) (fun _ h => h.sel (.c .z .n))
 refine FJ.exit (FJ.thenE (FJ.thenE (FJ.inB (FJ.then_ ?_))))
 refine FJ.seq (FJ.region (FJ.ql rfl (q_assign rfl .c) (FJ.nil (FJ.then_ ?_))))
 refine FJ.ret ?_
 refine FJ.doneS (res1 rfl .z) .n ?_
 have h60 : (1 ≤ x.links ∧ x.links ≤ 60) ∨ ¬ (1 ≤ x.links ∧ x.links ≤ 60) := Classical.em _; exact ⟨by first | (rw [fileFault_3 (by omega)]; done) | (rw [fileFault_1 ⟨by assumption, by assumption⟩ (by omega)]; done) | (rw [fileFault_3' ⟨by assumption, by assumption⟩ (by omega) (by assumption)]; done) | (rw [fileFault_0 ⟨by assumption, by assumption⟩ (by omega) (by assumption) (by rw [List.take_of_length_le (by omega)] at hnd; exact hnd)]; done), rfl⟩
 refine FJ.q (goes_sch rfl rfl) rfl (by decide) rfl (q_load rfl ag_2 (.t .z) (WS.row .z rfl)) ?_
 refine FJ.sk .z ?_
 refine FJ.schN ?_
 refine FJ.sch [(1, false), (2, false), (5, false), (6, true), (7, false)] 0 #[true, true, true, true, true, true, true, true] (by rfl) (by kernel_rfl) ?_
 refine FJ.q (goes_sch rfl rfl) rfl (by decide) rfl (q_load rfl ag_22 (.t (.s (.s .z))) (WS.row .z rfl)) ?_
 refine FJ.sk .z ?_
 refine FJ.call (goes_sch rfl rfl) rfl (by decide) rfl (c_call rfl Try.func145 rfl rfl (args1 (.t .z))) .n (fun w1 S1 hs tr => c_145 (tr.ctx h0_3)) ?_
 rintro _ _ ⟨rfl, rfl⟩
 refine FJ.cat .n ?_
 refine FJ.sk .z ?_
 refine FJ.call (goes_sch rfl rfl) rfl (by decide) rfl (c_call rfl Try.func100 rfl rfl (args1 (.t (.s (.s .z))))) .n (fun w1 S1 hs tr => c_100 _ (by omega) (by omega)) ?_
 rintro _ _ ⟨rfl, rfl⟩
 refine FJ.cat .n ?_
 refine FJ.sk .z ?_
 refine FJ.dq rfl rfl rfl (by decide) rfl .z (q_neq rfl (.t (.s .z)) (.t .z)) ?_
 refine FJ.q (goes_sch rfl rfl) rfl (by decide) rfl (q_assign rfl (.t .z)) ?_
 refine FJ.sl rfl ?_
 refine FJ.schN ?_
 refine FJ.drawN (by kernel_rfl) ?_
 refine FJ.then_ ?_
 refine FJ.condN (.t .z) (fun b51 => ?_) (fun b51 => ?_)
 refine FJ.seq (FJ.region (FJ.er (.s16 (.s (.s (.s .z)))) (FJ.ql rfl (q_assign rfl .c) (FJ.nil ?_))))
 refine FJ.then_ (FJ.ret (FJ.inBR (FJ.thenR ?_)))
 refine FJ.doneS (res1 rfl .z) .n ?_
 have h60 : (1 ≤ x.links ∧ x.links ≤ 60) ∨ ¬ (1 ≤ x.links ∧ x.links ≤ 60) := Classical.em _; exact ⟨by first | (rw [fileFault_3 (by omega)]; done) | (rw [fileFault_1 ⟨by assumption, by assumption⟩ (by omega)]; done) | (rw [fileFault_3' ⟨by assumption, by assumption⟩ (by omega) (by assumption)]; done) | (rw [fileFault_0 ⟨by assumption, by assumption⟩ (by omega) (by assumption) (by rw [List.take_of_length_le (by omega)] at hnd; exact hnd)]; done), rfl⟩
 refine FJ.seq (FJ.region (FJ.ql rfl (q_fieldAddr rfl (.t (.s16 (.s4 .z))) (fun _ => fa_30_3 _ _)) (FJ.ql rfl (q_load rfl ag_22 (.t .z) (WS.row .z rfl)) ?_)))
 refine FJ.call (goes_list rfl) rfl (by decide) rfl (c_call rfl Try.func142 rfl rfl (args2 (.t .z) .f)) .n (fun w1 S1 hs tr => c_142 (tr.ctx h0_3) Try.func148 rfl rfl (fun w2 S2 h2 x => c_148 x)) ?_
 rintro _ _ ⟨rfl, rfl⟩
 refine FJ.cat .n ?_
 refine FJ.ql rfl (q_assign rfl (.t .z)) (FJ.nil (FJ.then_ ?_))
 refine FJ.cond (.t .z) (fun b52 => ?_) (fun b52 => ?_)
 refine FJ.seq (FJ.region (FJ.er (.s16 (.s4 (.s (.s (.s .z))))) (FJ.ql rfl (q_assign rfl .c) (FJ.nil ?_))))
 refine FJ.then_ (FJ.ret (FJ.inBR (FJ.thenR ?_)))
 refine FJ.doneS (res1 rfl .z) .n ?_
 have h60 : (1 ≤ x.links ∧ x.links ≤ 60) ∨ ¬ (1 ≤ x.links ∧ x.links ≤ 60) := Classical.em _; exact ⟨by first | (rw [fileFault_3 (by omega)]; done) | (rw [fileFault_1 ⟨by assumption, by assumption⟩ (by omega)]; done) | (rw [fileFault_3' ⟨by assumption, by assumption⟩ (by omega) (by assumption)]; done) | (rw [fileFault_0 ⟨by assumption, by assumption⟩ (by omega) (by assumption) (by rw [List.take_of_length_le (by omega)] at hnd; exact hnd)]; done), rfl⟩
 refine FJ.skip (FJ.inBN (FJ.then_ (FJ.seq (FJ.seq ?_))))
 refine FJ.region (FJ.ql rfl (q_fieldAddr rfl (.t (.s16 (.s4 (.s4 .z)))) (fun _ => fa_30_3 _ _)) (FJ.ql rfl (q_load rfl ag_22 (.t .z) (WS.row .z rfl)) (FJ.ql rfl (q_len rfl u_22 (.t .z)) (FJ.ql rfl (q_move rfl .c) ?_))))
 refine FJ.nil (FJ.then_ (FJ.block ?_))
 refine FJ.loopi (γ := Nat) (fun k => [(31, .int .i64 (k : Int)), (30, .int .i64 (x.blocks.length : Int)), (29, .slice A0_3 x.blocks.length c0_3), (1, .pointer (some ⟨g3, 0, none⟩))]) (fun k => [rowA g3 30 5 1 [.int .i64 x.kind, .int .i64 x.links, .int .i64 x.size, .slice A0_3 x.blocks.length c0_3, .slice A0_4 x.ents.length c0_4]]) (fun k => k ≤ x.blocks.length ∧ (x.blocks.take k).Nodup) (fun k => x.blocks.length - k) 0 ⟨Nat.zero_le _, List.Pairwise.nil⟩ (.c .z (.c (.s .z) (.c (.s (.s .z)) (.c (.s16 (.s4 (.s4 (.s4 .z)))) .n)))) (fun _ h => h.sel (.c .z .n)) ?_
 rintro k ⟨hk, hnd⟩
 refine FJ.seq (FJ.region (FJ.ql rfl (q_lss rfl (.t .z) (.t (.s .z))) (FJ.nil (FJ.then_ ?_))))
 refine FJ.seq ?_
 refine FJ.condP (.t .z) (fun b53 => ?_) (fun b53 => ?_)
 refine FJ.skip (FJ.then_ (FJ.seq (FJ.block (FJ.seq ?_))))
 refine FJ.region (FJ.ql rfl (q_move rfl (.t (.s .z))) ?_)
 obtain ⟨ad54, hAad54, hrad54⟩ := he0_3 (by omega)
 subst hAad54
 obtain ⟨x55, hx55⟩ := get_ex (xs := x.blocks) (j := k) (by omega)
 obtain ⟨ece56, hre56, hFe56, hce56⟩ := hrad54.elem hx55
 obtain ⟨rfl, se56⟩ := hre56
 refine FJ.ql rfl (q_indexAddr (j := k) rfl u_22 sz_2 (.t (.s4 .z)) (.t (.s (.s .z))) rfl (by omega)) ?_
 refine FJ.ql rfl (q_load rfl ag_2 (.t .z) (WS.el0 hFe56 hce56 rfl)) (FJ.ql rfl (q_assign rfl (.t (.s (.s .z)))) (FJ.ql rfl (q_assign rfl (.t (.s .z))) (FJ.nil (FJ.then_ ?_))))
 refine FJ.seq (FJ.region (FJ.ql rfl (q_fieldAddr rfl (.t (.s4 (.s4 (.s .z)))) (fun _ => fa_30_3 _ _)) (FJ.ql rfl (q_load rfl ag_22 (.t .z) (WS.row .z rfl)) (FJ.ql rfl (q_move rfl (.t (.s (.s (.s .z))))) ?_))))
 obtain ⟨As57, hAs57⟩ : ∃ A' : Option Addr, A' = (if c0_3 = 0 then (some ad54) else Option.map (fun z => Addr.add z (0 * 1)) (some ad54)) := ⟨_, rfl⟩
 have hs57 := ro_sub (a := 0) (b := k) hAs57 h0_3 (by omega) (by omega)
 have ls57 := subL_len (xs := x.blocks) (a := 0) (b := k) (by omega)
 refine FJ.ql rfl (q_sliceL (a := 0) (b := k) rfl u_22 sz_2 (.t (.s .z)) hAs57 (.inl ⟨rfl, rfl⟩) (.inr ⟨_, _, rfl, (.t .z)⟩) (by omega) (by omega) (by omega)) ?_
 refine FJ.ql rfl (q_move rfl (.t (.s4 .z))) ?_
 refine FJ.call (goes_list rfl) rfl (by decide) rfl (c_call rfl Try.func144 rfl rfl (args2 (.t (.s .z)) (.t .z))) .n (fun w1 S1 hs tr => c_144 (tr.ctx hs57) _) ?_
 rintro _ _ ⟨rfl, rfl⟩
 refine FJ.cat .n ?_
 refine FJ.nil (FJ.then_ ?_)
 refine FJ.condP (.t .z) (fun b59 => ?_) (fun b59 => ?_)
 refine FJ.seq (FJ.region (FJ.ql rfl (q_assign rfl .c) (FJ.nil (FJ.then_ ?_))))
 refine FJ.ret (FJ.inBR (FJ.thenR (FJ.thenR (FJ.inBR ?_))))
 refine FJ.thenR ?_
 refine FJ.doneS (res1 rfl .z) .n ?_
 have h60 : (1 ≤ x.links ∧ x.links ≤ 60) ∨ ¬ (1 ≤ x.links ∧ x.links ≤ 60) := Classical.em _; exact ⟨by first | (rw [fileFault_3 (by omega)]; done) | (rw [fileFault_1 ⟨by assumption, by assumption⟩ (by omega)]; done) | (rw [fileFault_3' ⟨by assumption, by assumption⟩ (by omega) (by assumption)]; done) | (rw [fileFault_7 ⟨by assumption, by assumption⟩ (by omega) (by assumption) (not_nodup hx55 (by assumption))]; done) | (rw [fileFault_0 ⟨by assumption, by assumption⟩ (by omega) (by assumption) (by rw [List.take_of_length_le (by omega)] at hnd; exact hnd)]; done), rfl⟩
 refine FJ.skip (FJ.inBN (FJ.then_ (FJ.region ?_)))
 refine FJ.ql rfl (q_add (c := ((k + 1 : Nat) : Int)) rfl (.t (.s4 (.s4 (.s4 .z)))) .c (wr (by omega) (by omega) (by omega))) ?_
 refine FJ.er (.s4 (.s4 (.s4 (.s .z)))) (FJ.ql rfl (q_move rfl (.t .z)) (FJ.nil ?_))
 refine FJ.again (k + 1) ⟨by omega, nodup_s hnd hx55 (by assumption)⟩ (by first | omega | (dsimp only; omega)) (.c .z (.c (.s4 (.s4 (.s4 (.s (.s .z))))) (.c (.s4 (.s4 (.s4 (.s (.s (.s .z)))))) (.c (.s16 .z) .n)))) (fun _ h => h.sel (.c .z .n))
 refine FJ.exit (FJ.thenE (FJ.thenE (FJ.inB (FJ.then_ ?_))))
 refine FJ.seq (FJ.region (FJ.ql rfl (q_assign rfl .c) (FJ.nil (FJ.then_ ?_))))
 refine FJ.ret ?_
 refine FJ.doneS (res1 rfl .z) .n ?_
 have h60 : (1 ≤ x.links ∧ x.links ≤ 60) ∨ ¬ (1 ≤ x.links ∧ x.links ≤ 60) := Classical.em _; exact ⟨by first | (rw [fileFault_3 (by omega)]; done) | (rw [fileFault_1 ⟨by assumption, by assumption⟩ (by omega)]; done) | (rw [fileFault_3' ⟨by assumption, by assumption⟩ (by omega) (by assumption)]; done) | (rw [fileFault_0 ⟨by assumption, by assumption⟩ (by omega) (by assumption) (by rw [List.take_of_length_le (by omega)] at hnd; exact hnd)]; done), rfl⟩
 refine FJ.q (goes_sch rfl rfl) rfl (by decide) rfl (q_fieldAddr rfl (.t (.s4 (.s4 (.s4 .z)))) (fun _ => fa_30_2 _ _)) ?_
 refine FJ.sk .z ?_
 refine FJ.schN ?_
 refine FJ.sch [] 7 #[false, false, false, true, false, false, false, false] (by rfl) (by kernel_rfl) ?_
 refine FJ.schN ?_
 refine FJ.fork2 (i := 0) (j := 4) (by kernel_rfl) ?_ ?_
 refine FJ.q (goes_sch rfl rfl) rfl (by decide) rfl (q_fieldAddr rfl (.t (.s4 (.s4 (.s4 (.s .z))))) (fun _ => fa_30_3 _ _)) ?_
 refine FJ.sk .z ?_
 refine FJ.schN ?_
 refine FJ.sch [] 6 #[true, false, false, true, false, false, false, false] (by rfl) (by kernel_rfl) ?_
 refine FJ.schN ?_
 refine FJ.fork2 (i := 1) (j := 4) (by kernel_rfl) ?_ ?_
 refine FJ.q (goes_sch rfl rfl) rfl (by decide) rfl (q_load rfl ag_22 (.t .z) (WS.row .z rfl)) ?_
 refine FJ.sk .z ?_
 refine FJ.schN ?_
 refine FJ.sch [] 5 #[true, true, false, true, false, false, false, false] (by rfl) (by kernel_rfl) ?_
 refine FJ.schN ?_
 refine FJ.fork2 (i := 2) (j := 4) (by kernel_rfl) ?_ ?_
 refine FJ.call (goes_sch rfl rfl) rfl (by decide) rfl (c_call rfl Try.func145 rfl rfl (args1 (.t .z))) .n (fun w1 S1 hs tr => c_145 (tr.ctx h0_3)) ?_
 rintro _ _ ⟨rfl, rfl⟩
 refine FJ.cat .n ?_
 refine FJ.sk .z ?_
 refine FJ.schN ?_
 refine FJ.sch [(4, false), (5, false), (6, true), (7, false)] 0 #[true, true, true, true, true, true, true, true] (by rfl) (by kernel_rfl) ?_
 refine FJ.q (goes_sch rfl rfl) rfl (by decide) rfl (q_load rfl ag_2 (.t (.s (.s (.s .z)))) (WS.row .z rfl)) ?_
 refine FJ.sk .z ?_
 refine FJ.call (goes_sch rfl rfl) rfl (by decide) rfl (c_call rfl Try.func100 rfl rfl (args1 (.t .z))) .n (fun w1 S1 hs tr => c_100 _ (by omega) (by omega)) ?_
 rintro _ _ ⟨rfl, rfl⟩
 refine FJ.cat .n ?_
 refine FJ.sk .z ?_
 refine FJ.dq rfl rfl rfl (by decide) rfl .z (q_neq rfl (.t (.s (.s .z))) (.t .z)) ?_
 refine FJ.q (goes_sch rfl rfl) rfl (by decide) rfl (q_assign rfl (.t .z)) ?_
 refine FJ.sl rfl ?_
 refine FJ.schN ?_
 refine FJ.drawN (by kernel_rfl) ?_
 refine FJ.then_ ?_
 refine FJ.condN (.t .z) (fun b60 => ?_) (fun b60 => ?_)
 refine FJ.seq (FJ.region (FJ.er (.s16 (.s (.s (.s .z)))) (FJ.ql rfl (q_assign rfl .c) (FJ.nil ?_))))
 refine FJ.then_ (FJ.ret (FJ.inBR (FJ.thenR ?_)))
 refine FJ.doneS (res1 rfl .z) .n ?_
 have h60 : (1 ≤ x.links ∧ x.links ≤ 60) ∨ ¬ (1 ≤ x.links ∧ x.links ≤ 60) := Classical.em _; exact ⟨by first | (rw [fileFault_3 (by omega)]; done) | (rw [fileFault_1 ⟨by assumption, by assumption⟩ (by omega)]; done) | (rw [fileFault_3' ⟨by assumption, by assumption⟩ (by omega) (by assumption)]; done) | (rw [fileFault_0 ⟨by assumption, by assumption⟩ (by omega) (by assumption) (by rw [List.take_of_length_le (by omega)] at hnd; exact hnd)]; done), rfl⟩
 refine FJ.seq (FJ.region (FJ.ql rfl (q_fieldAddr rfl (.t (.s16 (.s4 .z))) (fun _ => fa_30_3 _ _)) (FJ.ql rfl (q_load rfl ag_22 (.t .z) (WS.row .z rfl)) ?_)))
 refine FJ.call (goes_list rfl) rfl (by decide) rfl (c_call rfl Try.func142 rfl rfl (args2 (.t .z) .f)) .n (fun w1 S1 hs tr => c_142 (tr.ctx h0_3) Try.func148 rfl rfl (fun w2 S2 h2 x => c_148 x)) ?_
 rintro _ _ ⟨rfl, rfl⟩
 refine FJ.cat .n ?_
 refine FJ.ql rfl (q_assign rfl (.t .z)) (FJ.nil (FJ.then_ ?_))
 refine FJ.cond (.t .z) (fun b61 => ?_) (fun b61 => ?_)
 refine FJ.seq (FJ.region (FJ.er (.s16 (.s4 (.s (.s (.s .z))))) (FJ.ql rfl (q_assign rfl .c) (FJ.nil ?_))))
 refine FJ.then_ (FJ.ret (FJ.inBR (FJ.thenR ?_)))
 refine FJ.doneS (res1 rfl .z) .n ?_
 have h60 : (1 ≤ x.links ∧ x.links ≤ 60) ∨ ¬ (1 ≤ x.links ∧ x.links ≤ 60) := Classical.em _; exact ⟨by first | (rw [fileFault_3 (by omega)]; done) | (rw [fileFault_1 ⟨by assumption, by assumption⟩ (by omega)]; done) | (rw [fileFault_3' ⟨by assumption, by assumption⟩ (by omega) (by assumption)]; done) | (rw [fileFault_0 ⟨by assumption, by assumption⟩ (by omega) (by assumption) (by rw [List.take_of_length_le (by omega)] at hnd; exact hnd)]; done), rfl⟩
 refine FJ.skip (FJ.inBN (FJ.then_ (FJ.seq (FJ.seq ?_))))
 refine FJ.region (FJ.ql rfl (q_fieldAddr rfl (.t (.s16 (.s4 (.s4 .z)))) (fun _ => fa_30_3 _ _)) (FJ.ql rfl (q_load rfl ag_22 (.t .z) (WS.row .z rfl)) (FJ.ql rfl (q_len rfl u_22 (.t .z)) (FJ.ql rfl (q_move rfl .c) ?_))))
 refine FJ.nil (FJ.then_ (FJ.block ?_))
 refine FJ.loopi (γ := Nat) (fun k => [(31, .int .i64 (k : Int)), (30, .int .i64 (x.blocks.length : Int)), (29, .slice A0_3 x.blocks.length c0_3), (1, .pointer (some ⟨g3, 0, none⟩))]) (fun k => [rowA g3 30 5 1 [.int .i64 x.kind, .int .i64 x.links, .int .i64 x.size, .slice A0_3 x.blocks.length c0_3, .slice A0_4 x.ents.length c0_4]]) (fun k => k ≤ x.blocks.length ∧ (x.blocks.take k).Nodup) (fun k => x.blocks.length - k) 0 ⟨Nat.zero_le _, List.Pairwise.nil⟩ (.c .z (.c (.s .z) (.c (.s (.s .z)) (.c (.s16 (.s4 (.s4 (.s4 .z)))) .n)))) (fun _ h => h.sel (.c .z .n)) ?_
 rintro k ⟨hk, hnd⟩
 refine FJ.seq (FJ.region (FJ.ql rfl (q_lss rfl (.t .z) (.t (.s .z))) (FJ.nil (FJ.then_ ?_))))
 refine FJ.seq ?_
 refine FJ.condP (.t .z) (fun b62 => ?_) (fun b62 => ?_)
 refine FJ.skip (FJ.then_ (FJ.seq (FJ.block (FJ.seq ?_))))
 refine FJ.region (FJ.ql rfl (q_move rfl (.t (.s .z))) ?_)
 obtain ⟨ad63, hAad63, hrad63⟩ := he0_3 (by omega)
 subst hAad63
 obtain ⟨x64, hx64⟩ := get_ex (xs := x.blocks) (j := k) (by omega)
 obtain ⟨ece65, hre65, hFe65, hce65⟩ := hrad63.elem hx64
 obtain ⟨rfl, se65⟩ := hre65
 refine FJ.ql rfl (q_indexAddr (j := k) rfl u_22 sz_2 (.t (.s4 .z)) (.t (.s (.s .z))) rfl (by omega)) ?_
 refine FJ.ql rfl (q_load rfl ag_2 (.t .z) (WS.el0 hFe65 hce65 rfl)) (FJ.ql rfl (q_assign rfl (.t (.s (.s .z)))) (FJ.ql rfl (q_assign rfl (.t (.s .z))) (FJ.nil (FJ.then_ ?_))))
 refine FJ.seq (FJ.region (FJ.ql rfl (q_fieldAddr rfl (.t (.s4 (.s4 (.s .z)))) (fun _ => fa_30_3 _ _)) (FJ.ql rfl (q_load rfl ag_22 (.t .z) (WS.row .z rfl)) (FJ.ql rfl (q_move rfl (.t (.s (.s (.s .z))))) ?_))))
 obtain ⟨As66, hAs66⟩ : ∃ A' : Option Addr, A' = (if c0_3 = 0 then (some ad63) else Option.map (fun z => Addr.add z (0 * 1)) (some ad63)) := ⟨_, rfl⟩
 have hs66 := ro_sub (a := 0) (b := k) hAs66 h0_3 (by omega) (by omega)
 have ls66 := subL_len (xs := x.blocks) (a := 0) (b := k) (by omega)
 refine FJ.ql rfl (q_sliceL (a := 0) (b := k) rfl u_22 sz_2 (.t (.s .z)) hAs66 (.inl ⟨rfl, rfl⟩) (.inr ⟨_, _, rfl, (.t .z)⟩) (by omega) (by omega) (by omega)) ?_
 refine FJ.ql rfl (q_move rfl (.t (.s4 .z))) ?_
 refine FJ.call (goes_list rfl) rfl (by decide) rfl (c_call rfl Try.func144 rfl rfl (args2 (.t (.s .z)) (.t .z))) .n (fun w1 S1 hs tr => c_144 (tr.ctx hs66) _) ?_
 rintro _ _ ⟨rfl, rfl⟩
 refine FJ.cat .n ?_
 refine FJ.nil (FJ.then_ ?_)
 refine FJ.condP (.t .z) (fun b68 => ?_) (fun b68 => ?_)
 refine FJ.seq (FJ.region (FJ.ql rfl (q_assign rfl .c) (FJ.nil (FJ.then_ ?_))))
 refine FJ.ret (FJ.inBR (FJ.thenR (FJ.thenR (FJ.inBR ?_))))
 refine FJ.thenR ?_
 refine FJ.doneS (res1 rfl .z) .n ?_
 have h60 : (1 ≤ x.links ∧ x.links ≤ 60) ∨ ¬ (1 ≤ x.links ∧ x.links ≤ 60) := Classical.em _; exact ⟨by first | (rw [fileFault_3 (by omega)]; done) | (rw [fileFault_1 ⟨by assumption, by assumption⟩ (by omega)]; done) | (rw [fileFault_3' ⟨by assumption, by assumption⟩ (by omega) (by assumption)]; done) | (rw [fileFault_7 ⟨by assumption, by assumption⟩ (by omega) (by assumption) (not_nodup hx64 (by assumption))]; done) | (rw [fileFault_0 ⟨by assumption, by assumption⟩ (by omega) (by assumption) (by rw [List.take_of_length_le (by omega)] at hnd; exact hnd)]; done), rfl⟩
 refine FJ.skip (FJ.inBN (FJ.then_ (FJ.region ?_)))
 refine FJ.ql rfl (q_add (c := ((k + 1 : Nat) : Int)) rfl (.t (.s4 (.s4 (.s4 .z)))) .c (wr (by omega) (by omega) (by omega))) ?_
 refine FJ.er (.s4 (.s4 (.s4 (.s .z)))) (FJ.ql rfl (q_move rfl (.t .z)) (FJ.nil ?_))
 refine FJ.again (k + 1) ⟨by omega, nodup_s hnd hx64 (by assumption)⟩ (by first | omega | (dsimp only; omega)) (.c .z (.c (.s4 (.s4 (.s4 (.s (.s .z))))) (.c (.s4 (.s4 (.s4 (.s (.s (.s .z)))))) (.c (.s16 .z) .n)))) (fun _ h => h.sel (.c .z .n))
 refine FJ.exit (FJ.thenE (FJ.thenE (FJ.inB (FJ.then_ ?_))))
 refine FJ.seq (FJ.region (FJ.ql rfl (q_assign rfl .c) (FJ.nil (FJ.then_ ?_))))
 refine FJ.ret ?_
 refine FJ.doneS (res1 rfl .z) .n ?_
 have h60 : (1 ≤ x.links ∧ x.links ≤ 60) ∨ ¬ (1 ≤ x.links ∧ x.links ≤ 60) := Classical.em _; exact ⟨by first | (rw [fileFault_3 (by omega)]; done) | (rw [fileFault_1 ⟨by assumption, by assumption⟩ (by omega)]; done) | (rw [fileFault_3' ⟨by assumption, by assumption⟩ (by omega) (by assumption)]; done) | (rw [fileFault_0 ⟨by assumption, by assumption⟩ (by omega) (by assumption) (by rw [List.take_of_length_le (by omega)] at hnd; exact hnd)]; done), rfl⟩
 refine FJ.q (goes_sch rfl rfl) rfl (by decide) rfl (q_load rfl ag_2 (.t (.s (.s .z))) (WS.row .z rfl)) ?_
 refine FJ.sk .z ?_
 refine FJ.schN ?_
 refine FJ.sch [(2, false), (5, false), (6, true), (7, false)] 0 #[true, true, true, true, true, true, true, true] (by rfl) (by kernel_rfl) ?_
 refine FJ.call (goes_sch rfl rfl) rfl (by decide) rfl (c_call rfl Try.func145 rfl rfl (args1 (.t (.s .z)))) .n (fun w1 S1 hs tr => c_145 (tr.ctx h0_3)) ?_
 rintro _ _ ⟨rfl, rfl⟩
 refine FJ.cat .n ?_
 refine FJ.sk .z ?_
 refine FJ.call (goes_sch rfl rfl) rfl (by decide) rfl (c_call rfl Try.func100 rfl rfl (args1 (.t (.s .z)))) .n (fun w1 S1 hs tr => c_100 _ (by omega) (by omega)) ?_
 rintro _ _ ⟨rfl, rfl⟩
 refine FJ.cat .n ?_
 refine FJ.sk .z ?_
 refine FJ.dq rfl rfl rfl (by decide) rfl .z (q_neq rfl (.t (.s .z)) (.t .z)) ?_
 refine FJ.q (goes_sch rfl rfl) rfl (by decide) rfl (q_assign rfl (.t .z)) ?_
 refine FJ.sl rfl ?_
 refine FJ.schN ?_
 refine FJ.drawN (by kernel_rfl) ?_
 refine FJ.then_ ?_
 refine FJ.condN (.t .z) (fun b69 => ?_) (fun b69 => ?_)
 refine FJ.seq (FJ.region (FJ.er (.s16 (.s (.s (.s .z)))) (FJ.ql rfl (q_assign rfl .c) (FJ.nil ?_))))
 refine FJ.then_ (FJ.ret (FJ.inBR (FJ.thenR ?_)))
 refine FJ.doneS (res1 rfl .z) .n ?_
 have h60 : (1 ≤ x.links ∧ x.links ≤ 60) ∨ ¬ (1 ≤ x.links ∧ x.links ≤ 60) := Classical.em _; exact ⟨by first | (rw [fileFault_3 (by omega)]; done) | (rw [fileFault_1 ⟨by assumption, by assumption⟩ (by omega)]; done) | (rw [fileFault_3' ⟨by assumption, by assumption⟩ (by omega) (by assumption)]; done) | (rw [fileFault_0 ⟨by assumption, by assumption⟩ (by omega) (by assumption) (by rw [List.take_of_length_le (by omega)] at hnd; exact hnd)]; done), rfl⟩
 refine FJ.seq (FJ.region (FJ.ql rfl (q_fieldAddr rfl (.t (.s16 (.s4 .z))) (fun _ => fa_30_3 _ _)) (FJ.ql rfl (q_load rfl ag_22 (.t .z) (WS.row .z rfl)) ?_)))
 refine FJ.call (goes_list rfl) rfl (by decide) rfl (c_call rfl Try.func142 rfl rfl (args2 (.t .z) .f)) .n (fun w1 S1 hs tr => c_142 (tr.ctx h0_3) Try.func148 rfl rfl (fun w2 S2 h2 x => c_148 x)) ?_
 rintro _ _ ⟨rfl, rfl⟩
 refine FJ.cat .n ?_
 refine FJ.ql rfl (q_assign rfl (.t .z)) (FJ.nil (FJ.then_ ?_))
 refine FJ.cond (.t .z) (fun b70 => ?_) (fun b70 => ?_)
 refine FJ.seq (FJ.region (FJ.er (.s16 (.s4 (.s (.s (.s .z))))) (FJ.ql rfl (q_assign rfl .c) (FJ.nil ?_))))
 refine FJ.then_ (FJ.ret (FJ.inBR (FJ.thenR ?_)))
 refine FJ.doneS (res1 rfl .z) .n ?_
 have h60 : (1 ≤ x.links ∧ x.links ≤ 60) ∨ ¬ (1 ≤ x.links ∧ x.links ≤ 60) := Classical.em _; exact ⟨by first | (rw [fileFault_3 (by omega)]; done) | (rw [fileFault_1 ⟨by assumption, by assumption⟩ (by omega)]; done) | (rw [fileFault_3' ⟨by assumption, by assumption⟩ (by omega) (by assumption)]; done) | (rw [fileFault_0 ⟨by assumption, by assumption⟩ (by omega) (by assumption) (by rw [List.take_of_length_le (by omega)] at hnd; exact hnd)]; done), rfl⟩
 refine FJ.skip (FJ.inBN (FJ.then_ (FJ.seq (FJ.seq ?_))))
 refine FJ.region (FJ.ql rfl (q_fieldAddr rfl (.t (.s16 (.s4 (.s4 .z)))) (fun _ => fa_30_3 _ _)) (FJ.ql rfl (q_load rfl ag_22 (.t .z) (WS.row .z rfl)) (FJ.ql rfl (q_len rfl u_22 (.t .z)) (FJ.ql rfl (q_move rfl .c) ?_))))
 refine FJ.nil (FJ.then_ (FJ.block ?_))
 refine FJ.loopi (γ := Nat) (fun k => [(31, .int .i64 (k : Int)), (30, .int .i64 (x.blocks.length : Int)), (29, .slice A0_3 x.blocks.length c0_3), (1, .pointer (some ⟨g3, 0, none⟩))]) (fun k => [rowA g3 30 5 1 [.int .i64 x.kind, .int .i64 x.links, .int .i64 x.size, .slice A0_3 x.blocks.length c0_3, .slice A0_4 x.ents.length c0_4]]) (fun k => k ≤ x.blocks.length ∧ (x.blocks.take k).Nodup) (fun k => x.blocks.length - k) 0 ⟨Nat.zero_le _, List.Pairwise.nil⟩ (.c .z (.c (.s .z) (.c (.s (.s .z)) (.c (.s16 (.s4 (.s4 (.s4 .z)))) .n)))) (fun _ h => h.sel (.c .z .n)) ?_
 rintro k ⟨hk, hnd⟩
 refine FJ.seq (FJ.region (FJ.ql rfl (q_lss rfl (.t .z) (.t (.s .z))) (FJ.nil (FJ.then_ ?_))))
 refine FJ.seq ?_
 refine FJ.condP (.t .z) (fun b71 => ?_) (fun b71 => ?_)
 refine FJ.skip (FJ.then_ (FJ.seq (FJ.block (FJ.seq ?_))))
 refine FJ.region (FJ.ql rfl (q_move rfl (.t (.s .z))) ?_)
 obtain ⟨ad72, hAad72, hrad72⟩ := he0_3 (by omega)
 subst hAad72
 obtain ⟨x73, hx73⟩ := get_ex (xs := x.blocks) (j := k) (by omega)
 obtain ⟨ece74, hre74, hFe74, hce74⟩ := hrad72.elem hx73
 obtain ⟨rfl, se74⟩ := hre74
 refine FJ.ql rfl (q_indexAddr (j := k) rfl u_22 sz_2 (.t (.s4 .z)) (.t (.s (.s .z))) rfl (by omega)) ?_
 refine FJ.ql rfl (q_load rfl ag_2 (.t .z) (WS.el0 hFe74 hce74 rfl)) (FJ.ql rfl (q_assign rfl (.t (.s (.s .z)))) (FJ.ql rfl (q_assign rfl (.t (.s .z))) (FJ.nil (FJ.then_ ?_))))
 refine FJ.seq (FJ.region (FJ.ql rfl (q_fieldAddr rfl (.t (.s4 (.s4 (.s .z)))) (fun _ => fa_30_3 _ _)) (FJ.ql rfl (q_load rfl ag_22 (.t .z) (WS.row .z rfl)) (FJ.ql rfl (q_move rfl (.t (.s (.s (.s .z))))) ?_))))
 obtain ⟨As75, hAs75⟩ : ∃ A' : Option Addr, A' = (if c0_3 = 0 then (some ad72) else Option.map (fun z => Addr.add z (0 * 1)) (some ad72)) := ⟨_, rfl⟩
 have hs75 := ro_sub (a := 0) (b := k) hAs75 h0_3 (by omega) (by omega)
 have ls75 := subL_len (xs := x.blocks) (a := 0) (b := k) (by omega)
 refine FJ.ql rfl (q_sliceL (a := 0) (b := k) rfl u_22 sz_2 (.t (.s .z)) hAs75 (.inl ⟨rfl, rfl⟩) (.inr ⟨_, _, rfl, (.t .z)⟩) (by omega) (by omega) (by omega)) ?_
 refine FJ.ql rfl (q_move rfl (.t (.s4 .z))) ?_
 refine FJ.call (goes_list rfl) rfl (by decide) rfl (c_call rfl Try.func144 rfl rfl (args2 (.t (.s .z)) (.t .z))) .n (fun w1 S1 hs tr => c_144 (tr.ctx hs75) _) ?_
 rintro _ _ ⟨rfl, rfl⟩
 refine FJ.cat .n ?_
 refine FJ.nil (FJ.then_ ?_)
 refine FJ.condP (.t .z) (fun b77 => ?_) (fun b77 => ?_)
 refine FJ.seq (FJ.region (FJ.ql rfl (q_assign rfl .c) (FJ.nil (FJ.then_ ?_))))
 refine FJ.ret (FJ.inBR (FJ.thenR (FJ.thenR (FJ.inBR ?_))))
 refine FJ.thenR ?_
 refine FJ.doneS (res1 rfl .z) .n ?_
 have h60 : (1 ≤ x.links ∧ x.links ≤ 60) ∨ ¬ (1 ≤ x.links ∧ x.links ≤ 60) := Classical.em _; exact ⟨by first | (rw [fileFault_3 (by omega)]; done) | (rw [fileFault_1 ⟨by assumption, by assumption⟩ (by omega)]; done) | (rw [fileFault_3' ⟨by assumption, by assumption⟩ (by omega) (by assumption)]; done) | (rw [fileFault_7 ⟨by assumption, by assumption⟩ (by omega) (by assumption) (not_nodup hx73 (by assumption))]; done) | (rw [fileFault_0 ⟨by assumption, by assumption⟩ (by omega) (by assumption) (by rw [List.take_of_length_le (by omega)] at hnd; exact hnd)]; done), rfl⟩
 refine FJ.skip (FJ.inBN (FJ.then_ (FJ.region ?_)))
 refine FJ.ql rfl (q_add (c := ((k + 1 : Nat) : Int)) rfl (.t (.s4 (.s4 (.s4 .z)))) .c (wr (by omega) (by omega) (by omega))) ?_
 refine FJ.er (.s4 (.s4 (.s4 (.s .z)))) (FJ.ql rfl (q_move rfl (.t .z)) (FJ.nil ?_))
 refine FJ.again (k + 1) ⟨by omega, nodup_s hnd hx73 (by assumption)⟩ (by first | omega | (dsimp only; omega)) (.c .z (.c (.s4 (.s4 (.s4 (.s (.s .z))))) (.c (.s4 (.s4 (.s4 (.s (.s (.s .z)))))) (.c (.s16 .z) .n)))) (fun _ h => h.sel (.c .z .n))
 refine FJ.exit (FJ.thenE (FJ.thenE (FJ.inB (FJ.then_ ?_))))
 refine FJ.seq (FJ.region (FJ.ql rfl (q_assign rfl .c) (FJ.nil (FJ.then_ ?_))))
 refine FJ.ret ?_
 refine FJ.doneS (res1 rfl .z) .n ?_
 have h60 : (1 ≤ x.links ∧ x.links ≤ 60) ∨ ¬ (1 ≤ x.links ∧ x.links ≤ 60) := Classical.em _; exact ⟨by first | (rw [fileFault_3 (by omega)]; done) | (rw [fileFault_1 ⟨by assumption, by assumption⟩ (by omega)]; done) | (rw [fileFault_3' ⟨by assumption, by assumption⟩ (by omega) (by assumption)]; done) | (rw [fileFault_0 ⟨by assumption, by assumption⟩ (by omega) (by assumption) (by rw [List.take_of_length_le (by omega)] at hnd; exact hnd)]; done), rfl⟩
 refine FJ.q (goes_sch rfl rfl) rfl (by decide) rfl (q_load rfl ag_2 (.t (.s .z)) (WS.row .z rfl)) ?_
 refine FJ.sk .z ?_
 refine FJ.schN ?_
 refine FJ.sch [(1, false), (2, false), (5, false), (6, true), (7, false)] 0 #[true, true, true, true, true, true, true, true] (by rfl) (by kernel_rfl) ?_
 refine FJ.q (goes_sch rfl rfl) rfl (by decide) rfl (q_load rfl ag_22 (.t (.s .z)) (WS.row .z rfl)) ?_
 refine FJ.sk .z ?_
 refine FJ.call (goes_sch rfl rfl) rfl (by decide) rfl (c_call rfl Try.func145 rfl rfl (args1 (.t .z))) .n (fun w1 S1 hs tr => c_145 (tr.ctx h0_3)) ?_
 rintro _ _ ⟨rfl, rfl⟩
 refine FJ.cat .n ?_
 refine FJ.sk .z ?_
 refine FJ.call (goes_sch rfl rfl) rfl (by decide) rfl (c_call rfl Try.func100 rfl rfl (args1 (.t (.s (.s .z))))) .n (fun w1 S1 hs tr => c_100 _ (by omega) (by omega)) ?_
 rintro _ _ ⟨rfl, rfl⟩
 refine FJ.cat .n ?_
 refine FJ.sk .z ?_
 refine FJ.dq rfl rfl rfl (by decide) rfl .z (q_neq rfl (.t (.s .z)) (.t .z)) ?_
 refine FJ.q (goes_sch rfl rfl) rfl (by decide) rfl (q_assign rfl (.t .z)) ?_
 refine FJ.sl rfl ?_
 refine FJ.schN ?_
 refine FJ.drawN (by kernel_rfl) ?_
 refine FJ.then_ ?_
 refine FJ.condN (.t .z) (fun b78 => ?_) (fun b78 => ?_)
 refine FJ.seq (FJ.region (FJ.er (.s16 (.s (.s (.s .z)))) (FJ.ql rfl (q_assign rfl .c) (FJ.nil ?_))))
 refine FJ.then_ (FJ.ret (FJ.inBR (FJ.thenR ?_)))
 refine FJ.doneS (res1 rfl .z) .n ?_
 have h60 : (1 ≤ x.links ∧ x.links ≤ 60) ∨ ¬ (1 ≤ x.links ∧ x.links ≤ 60) := Classical.em _; exact ⟨by first | (rw [fileFault_3 (by omega)]; done) | (rw [fileFault_1 ⟨by assumption, by assumption⟩ (by omega)]; done) | (rw [fileFault_3' ⟨by assumption, by assumption⟩ (by omega) (by assumption)]; done) | (rw [fileFault_0 ⟨by assumption, by assumption⟩ (by omega) (by assumption) (by rw [List.take_of_length_le (by omega)] at hnd; exact hnd)]; done), rfl⟩
 refine FJ.seq (FJ.region (FJ.ql rfl (q_fieldAddr rfl (.t (.s16 (.s4 .z))) (fun _ => fa_30_3 _ _)) (FJ.ql rfl (q_load rfl ag_22 (.t .z) (WS.row .z rfl)) ?_)))
 refine FJ.call (goes_list rfl) rfl (by decide) rfl (c_call rfl Try.func142 rfl rfl (args2 (.t .z) .f)) .n (fun w1 S1 hs tr => c_142 (tr.ctx h0_3) Try.func148 rfl rfl (fun w2 S2 h2 x => c_148 x)) ?_
 rintro _ _ ⟨rfl, rfl⟩
 refine FJ.cat .n ?_
 refine FJ.ql rfl (q_assign rfl (.t .z)) (FJ.nil (FJ.then_ ?_))
 refine FJ.cond (.t .z) (fun b79 => ?_) (fun b79 => ?_)
 refine FJ.seq (FJ.region (FJ.er (.s16 (.s4 (.s (.s (.s .z))))) (FJ.ql rfl (q_assign rfl .c) (FJ.nil ?_))))
 refine FJ.then_ (FJ.ret (FJ.inBR (FJ.thenR ?_)))
 refine FJ.doneS (res1 rfl .z) .n ?_
 have h60 : (1 ≤ x.links ∧ x.links ≤ 60) ∨ ¬ (1 ≤ x.links ∧ x.links ≤ 60) := Classical.em _; exact ⟨by first | (rw [fileFault_3 (by omega)]; done) | (rw [fileFault_1 ⟨by assumption, by assumption⟩ (by omega)]; done) | (rw [fileFault_3' ⟨by assumption, by assumption⟩ (by omega) (by assumption)]; done) | (rw [fileFault_0 ⟨by assumption, by assumption⟩ (by omega) (by assumption) (by rw [List.take_of_length_le (by omega)] at hnd; exact hnd)]; done), rfl⟩
 refine FJ.skip (FJ.inBN (FJ.then_ (FJ.seq (FJ.seq ?_))))
 refine FJ.region (FJ.ql rfl (q_fieldAddr rfl (.t (.s16 (.s4 (.s4 .z)))) (fun _ => fa_30_3 _ _)) (FJ.ql rfl (q_load rfl ag_22 (.t .z) (WS.row .z rfl)) (FJ.ql rfl (q_len rfl u_22 (.t .z)) (FJ.ql rfl (q_move rfl .c) ?_))))
 refine FJ.nil (FJ.then_ (FJ.block ?_))
 refine FJ.loopi (γ := Nat) (fun k => [(31, .int .i64 (k : Int)), (30, .int .i64 (x.blocks.length : Int)), (29, .slice A0_3 x.blocks.length c0_3), (1, .pointer (some ⟨g3, 0, none⟩))]) (fun k => [rowA g3 30 5 1 [.int .i64 x.kind, .int .i64 x.links, .int .i64 x.size, .slice A0_3 x.blocks.length c0_3, .slice A0_4 x.ents.length c0_4]]) (fun k => k ≤ x.blocks.length ∧ (x.blocks.take k).Nodup) (fun k => x.blocks.length - k) 0 ⟨Nat.zero_le _, List.Pairwise.nil⟩ (.c .z (.c (.s .z) (.c (.s (.s .z)) (.c (.s16 (.s4 (.s4 (.s4 .z)))) .n)))) (fun _ h => h.sel (.c .z .n)) ?_
 rintro k ⟨hk, hnd⟩
 refine FJ.seq (FJ.region (FJ.ql rfl (q_lss rfl (.t .z) (.t (.s .z))) (FJ.nil (FJ.then_ ?_))))
 refine FJ.seq ?_
 refine FJ.condP (.t .z) (fun b80 => ?_) (fun b80 => ?_)
 refine FJ.skip (FJ.then_ (FJ.seq (FJ.block (FJ.seq ?_))))
 refine FJ.region (FJ.ql rfl (q_move rfl (.t (.s .z))) ?_)
 obtain ⟨ad81, hAad81, hrad81⟩ := he0_3 (by omega)
 subst hAad81
 obtain ⟨x82, hx82⟩ := get_ex (xs := x.blocks) (j := k) (by omega)
 obtain ⟨ece83, hre83, hFe83, hce83⟩ := hrad81.elem hx82
 obtain ⟨rfl, se83⟩ := hre83
 refine FJ.ql rfl (q_indexAddr (j := k) rfl u_22 sz_2 (.t (.s4 .z)) (.t (.s (.s .z))) rfl (by omega)) ?_
 refine FJ.ql rfl (q_load rfl ag_2 (.t .z) (WS.el0 hFe83 hce83 rfl)) (FJ.ql rfl (q_assign rfl (.t (.s (.s .z)))) (FJ.ql rfl (q_assign rfl (.t (.s .z))) (FJ.nil (FJ.then_ ?_))))
 refine FJ.seq (FJ.region (FJ.ql rfl (q_fieldAddr rfl (.t (.s4 (.s4 (.s .z)))) (fun _ => fa_30_3 _ _)) (FJ.ql rfl (q_load rfl ag_22 (.t .z) (WS.row .z rfl)) (FJ.ql rfl (q_move rfl (.t (.s (.s (.s .z))))) ?_))))
 obtain ⟨As84, hAs84⟩ : ∃ A' : Option Addr, A' = (if c0_3 = 0 then (some ad81) else Option.map (fun z => Addr.add z (0 * 1)) (some ad81)) := ⟨_, rfl⟩
 have hs84 := ro_sub (a := 0) (b := k) hAs84 h0_3 (by omega) (by omega)
 have ls84 := subL_len (xs := x.blocks) (a := 0) (b := k) (by omega)
 refine FJ.ql rfl (q_sliceL (a := 0) (b := k) rfl u_22 sz_2 (.t (.s .z)) hAs84 (.inl ⟨rfl, rfl⟩) (.inr ⟨_, _, rfl, (.t .z)⟩) (by omega) (by omega) (by omega)) ?_
 refine FJ.ql rfl (q_move rfl (.t (.s4 .z))) ?_
 refine FJ.call (goes_list rfl) rfl (by decide) rfl (c_call rfl Try.func144 rfl rfl (args2 (.t (.s .z)) (.t .z))) .n (fun w1 S1 hs tr => c_144 (tr.ctx hs84) _) ?_
 rintro _ _ ⟨rfl, rfl⟩
 refine FJ.cat .n ?_
 refine FJ.nil (FJ.then_ ?_)
 refine FJ.condP (.t .z) (fun b86 => ?_) (fun b86 => ?_)
 refine FJ.seq (FJ.region (FJ.ql rfl (q_assign rfl .c) (FJ.nil (FJ.then_ ?_))))
 refine FJ.ret (FJ.inBR (FJ.thenR (FJ.thenR (FJ.inBR ?_))))
 refine FJ.thenR ?_
 refine FJ.doneS (res1 rfl .z) .n ?_
 have h60 : (1 ≤ x.links ∧ x.links ≤ 60) ∨ ¬ (1 ≤ x.links ∧ x.links ≤ 60) := Classical.em _; exact ⟨by first | (rw [fileFault_3 (by omega)]; done) | (rw [fileFault_1 ⟨by assumption, by assumption⟩ (by omega)]; done) | (rw [fileFault_3' ⟨by assumption, by assumption⟩ (by omega) (by assumption)]; done) | (rw [fileFault_7 ⟨by assumption, by assumption⟩ (by omega) (by assumption) (not_nodup hx82 (by assumption))]; done) | (rw [fileFault_0 ⟨by assumption, by assumption⟩ (by omega) (by assumption) (by rw [List.take_of_length_le (by omega)] at hnd; exact hnd)]; done), rfl⟩
 refine FJ.skip (FJ.inBN (FJ.then_ (FJ.region ?_)))
 refine FJ.ql rfl (q_add (c := ((k + 1 : Nat) : Int)) rfl (.t (.s4 (.s4 (.s4 .z)))) .c (wr (by omega) (by omega) (by omega))) ?_
 refine FJ.er (.s4 (.s4 (.s4 (.s .z)))) (FJ.ql rfl (q_move rfl (.t .z)) (FJ.nil ?_))
 refine FJ.again (k + 1) ⟨by omega, nodup_s hnd hx82 (by assumption)⟩ (by first | omega | (dsimp only; omega)) (.c .z (.c (.s4 (.s4 (.s4 (.s (.s .z))))) (.c (.s4 (.s4 (.s4 (.s (.s (.s .z)))))) (.c (.s16 .z) .n)))) (fun _ h => h.sel (.c .z .n))
 refine FJ.exit (FJ.thenE (FJ.thenE (FJ.inB (FJ.then_ ?_))))
 refine FJ.seq (FJ.region (FJ.ql rfl (q_assign rfl .c) (FJ.nil (FJ.then_ ?_))))
 refine FJ.ret ?_
 refine FJ.doneS (res1 rfl .z) .n ?_
 have h60 : (1 ≤ x.links ∧ x.links ≤ 60) ∨ ¬ (1 ≤ x.links ∧ x.links ≤ 60) := Classical.em _; exact ⟨by first | (rw [fileFault_3 (by omega)]; done) | (rw [fileFault_1 ⟨by assumption, by assumption⟩ (by omega)]; done) | (rw [fileFault_3' ⟨by assumption, by assumption⟩ (by omega) (by assumption)]; done) | (rw [fileFault_0 ⟨by assumption, by assumption⟩ (by omega) (by assumption) (by rw [List.take_of_length_le (by omega)] at hnd; exact hnd)]; done), rfl⟩
 refine FJ.q (goes_sch rfl rfl) rfl (by decide) rfl (q_load rfl ag_2 (.t .z) (WS.row .z rfl)) ?_
 refine FJ.sk .z ?_
 refine FJ.schN ?_
 refine FJ.sch [(0, false), (1, false), (2, false), (5, false), (6, true), (7, false)] 0 #[true, true, true, true, true, true, true, true] (by rfl) (by kernel_rfl) ?_
 refine FJ.q (goes_sch rfl rfl) rfl (by decide) rfl (q_fieldAddr rfl (.t (.s4 (.s4 (.s4 (.s (.s .z)))))) (fun _ => fa_30_3 _ _)) ?_
 refine FJ.sk .z ?_
 refine FJ.q (goes_sch rfl rfl) rfl (by decide) rfl (q_load rfl ag_22 (.t .z) (WS.row .z rfl)) ?_
 refine FJ.sk .z ?_
 refine FJ.call (goes_sch rfl rfl) rfl (by decide) rfl (c_call rfl Try.func145 rfl rfl (args1 (.t .z))) .n (fun w1 S1 hs tr => c_145 (tr.ctx h0_3)) ?_
 rintro _ _ ⟨rfl, rfl⟩
 refine FJ.cat .n ?_
 refine FJ.sk .z ?_
 refine FJ.call (goes_sch rfl rfl) rfl (by decide) rfl (c_call rfl Try.func100 rfl rfl (args1 (.t (.s (.s (.s .z)))))) .n (fun w1 S1 hs tr => c_100 _ (by omega) (by omega)) ?_
 rintro _ _ ⟨rfl, rfl⟩
 refine FJ.cat .n ?_
 refine FJ.sk .z ?_
 refine FJ.dq rfl rfl rfl (by decide) rfl .z (q_neq rfl (.t (.s .z)) (.t .z)) ?_
 refine FJ.q (goes_sch rfl rfl) rfl (by decide) rfl (q_assign rfl (.t .z)) ?_
 refine FJ.sl rfl ?_
 refine FJ.schN ?_
 refine FJ.drawN (by kernel_rfl) ?_
 refine FJ.then_ ?_
 refine FJ.condN (.t .z) (fun b87 => ?_) (fun b87 => ?_)
 refine FJ.seq (FJ.region (FJ.er (.s16 (.s (.s (.s .z)))) (FJ.ql rfl (q_assign rfl .c) (FJ.nil ?_))))
 refine FJ.then_ (FJ.ret (FJ.inBR (FJ.thenR ?_)))
 refine FJ.doneS (res1 rfl .z) .n ?_
 have h60 : (1 ≤ x.links ∧ x.links ≤ 60) ∨ ¬ (1 ≤ x.links ∧ x.links ≤ 60) := Classical.em _; exact ⟨by first | (rw [fileFault_3 (by omega)]; done) | (rw [fileFault_1 ⟨by assumption, by assumption⟩ (by omega)]; done) | (rw [fileFault_3' ⟨by assumption, by assumption⟩ (by omega) (by assumption)]; done) | (rw [fileFault_0 ⟨by assumption, by assumption⟩ (by omega) (by assumption) (by rw [List.take_of_length_le (by omega)] at hnd; exact hnd)]; done), rfl⟩
 refine FJ.seq (FJ.region (FJ.ql rfl (q_fieldAddr rfl (.t (.s16 (.s4 .z))) (fun _ => fa_30_3 _ _)) (FJ.ql rfl (q_load rfl ag_22 (.t .z) (WS.row .z rfl)) ?_)))
 refine FJ.call (goes_list rfl) rfl (by decide) rfl (c_call rfl Try.func142 rfl rfl (args2 (.t .z) .f)) .n (fun w1 S1 hs tr => c_142 (tr.ctx h0_3) Try.func148 rfl rfl (fun w2 S2 h2 x => c_148 x)) ?_
 rintro _ _ ⟨rfl, rfl⟩
 refine FJ.cat .n ?_
 refine FJ.ql rfl (q_assign rfl (.t .z)) (FJ.nil (FJ.then_ ?_))
 refine FJ.cond (.t .z) (fun b88 => ?_) (fun b88 => ?_)
 refine FJ.seq (FJ.region (FJ.er (.s16 (.s4 (.s (.s (.s .z))))) (FJ.ql rfl (q_assign rfl .c) (FJ.nil ?_))))
 refine FJ.then_ (FJ.ret (FJ.inBR (FJ.thenR ?_)))
 refine FJ.doneS (res1 rfl .z) .n ?_
 have h60 : (1 ≤ x.links ∧ x.links ≤ 60) ∨ ¬ (1 ≤ x.links ∧ x.links ≤ 60) := Classical.em _; exact ⟨by first | (rw [fileFault_3 (by omega)]; done) | (rw [fileFault_1 ⟨by assumption, by assumption⟩ (by omega)]; done) | (rw [fileFault_3' ⟨by assumption, by assumption⟩ (by omega) (by assumption)]; done) | (rw [fileFault_0 ⟨by assumption, by assumption⟩ (by omega) (by assumption) (by rw [List.take_of_length_le (by omega)] at hnd; exact hnd)]; done), rfl⟩
 refine FJ.skip (FJ.inBN (FJ.then_ (FJ.seq (FJ.seq ?_))))
 refine FJ.region (FJ.ql rfl (q_fieldAddr rfl (.t (.s16 (.s4 (.s4 .z)))) (fun _ => fa_30_3 _ _)) (FJ.ql rfl (q_load rfl ag_22 (.t .z) (WS.row .z rfl)) (FJ.ql rfl (q_len rfl u_22 (.t .z)) (FJ.ql rfl (q_move rfl .c) ?_))))
 refine FJ.nil (FJ.then_ (FJ.block ?_))
 refine FJ.loopi (γ := Nat) (fun k => [(31, .int .i64 (k : Int)), (30, .int .i64 (x.blocks.length : Int)), (29, .slice A0_3 x.blocks.length c0_3), (1, .pointer (some ⟨g3, 0, none⟩))]) (fun k => [rowA g3 30 5 1 [.int .i64 x.kind, .int .i64 x.links, .int .i64 x.size, .slice A0_3 x.blocks.length c0_3, .slice A0_4 x.ents.length c0_4]]) (fun k => k ≤ x.blocks.length ∧ (x.blocks.take k).Nodup) (fun k => x.blocks.length - k) 0 ⟨Nat.zero_le _, List.Pairwise.nil⟩ (.c .z (.c (.s .z) (.c (.s (.s .z)) (.c (.s16 (.s4 (.s4 (.s4 .z)))) .n)))) (fun _ h => h.sel (.c .z .n)) ?_
 rintro k ⟨hk, hnd⟩
 refine FJ.seq (FJ.region (FJ.ql rfl (q_lss rfl (.t .z) (.t (.s .z))) (FJ.nil (FJ.then_ ?_))))
 refine FJ.seq ?_
 refine FJ.condP (.t .z) (fun b89 => ?_) (fun b89 => ?_)
 refine FJ.skip (FJ.then_ (FJ.seq (FJ.block (FJ.seq ?_))))
 refine FJ.region (FJ.ql rfl (q_move rfl (.t (.s .z))) ?_)
 obtain ⟨ad90, hAad90, hrad90⟩ := he0_3 (by omega)
 subst hAad90
 obtain ⟨x91, hx91⟩ := get_ex (xs := x.blocks) (j := k) (by omega)
 obtain ⟨ece92, hre92, hFe92, hce92⟩ := hrad90.elem hx91
 obtain ⟨rfl, se92⟩ := hre92
 refine FJ.ql rfl (q_indexAddr (j := k) rfl u_22 sz_2 (.t (.s4 .z)) (.t (.s (.s .z))) rfl (by omega)) ?_
 refine FJ.ql rfl (q_load rfl ag_2 (.t .z) (WS.el0 hFe92 hce92 rfl)) (FJ.ql rfl (q_assign rfl (.t (.s (.s .z)))) (FJ.ql rfl (q_assign rfl (.t (.s .z))) (FJ.nil (FJ.then_ ?_))))
 refine FJ.seq (FJ.region (FJ.ql rfl (q_fieldAddr rfl (.t (.s4 (.s4 (.s .z)))) (fun _ => fa_30_3 _ _)) (FJ.ql rfl (q_load rfl ag_22 (.t .z) (WS.row .z rfl)) (FJ.ql rfl (q_move rfl (.t (.s (.s (.s .z))))) ?_))))
 obtain ⟨As93, hAs93⟩ : ∃ A' : Option Addr, A' = (if c0_3 = 0 then (some ad90) else Option.map (fun z => Addr.add z (0 * 1)) (some ad90)) := ⟨_, rfl⟩
 have hs93 := ro_sub (a := 0) (b := k) hAs93 h0_3 (by omega) (by omega)
 have ls93 := subL_len (xs := x.blocks) (a := 0) (b := k) (by omega)
 refine FJ.ql rfl (q_sliceL (a := 0) (b := k) rfl u_22 sz_2 (.t (.s .z)) hAs93 (.inl ⟨rfl, rfl⟩) (.inr ⟨_, _, rfl, (.t .z)⟩) (by omega) (by omega) (by omega)) ?_
 refine FJ.ql rfl (q_move rfl (.t (.s4 .z))) ?_
 refine FJ.call (goes_list rfl) rfl (by decide) rfl (c_call rfl Try.func144 rfl rfl (args2 (.t (.s .z)) (.t .z))) .n (fun w1 S1 hs tr => c_144 (tr.ctx hs93) _) ?_
 rintro _ _ ⟨rfl, rfl⟩
 refine FJ.cat .n ?_
 refine FJ.nil (FJ.then_ ?_)
 refine FJ.condP (.t .z) (fun b95 => ?_) (fun b95 => ?_)
 refine FJ.seq (FJ.region (FJ.ql rfl (q_assign rfl .c) (FJ.nil (FJ.then_ ?_))))
 refine FJ.ret (FJ.inBR (FJ.thenR (FJ.thenR (FJ.inBR ?_))))
 refine FJ.thenR ?_
 refine FJ.doneS (res1 rfl .z) .n ?_
 have h60 : (1 ≤ x.links ∧ x.links ≤ 60) ∨ ¬ (1 ≤ x.links ∧ x.links ≤ 60) := Classical.em _; exact ⟨by first | (rw [fileFault_3 (by omega)]; done) | (rw [fileFault_1 ⟨by assumption, by assumption⟩ (by omega)]; done) | (rw [fileFault_3' ⟨by assumption, by assumption⟩ (by omega) (by assumption)]; done) | (rw [fileFault_7 ⟨by assumption, by assumption⟩ (by omega) (by assumption) (not_nodup hx91 (by assumption))]; done) | (rw [fileFault_0 ⟨by assumption, by assumption⟩ (by omega) (by assumption) (by rw [List.take_of_length_le (by omega)] at hnd; exact hnd)]; done), rfl⟩
 refine FJ.skip (FJ.inBN (FJ.then_ (FJ.region ?_)))
 refine FJ.ql rfl (q_add (c := ((k + 1 : Nat) : Int)) rfl (.t (.s4 (.s4 (.s4 .z)))) .c (wr (by omega) (by omega) (by omega))) ?_
 refine FJ.er (.s4 (.s4 (.s4 (.s .z)))) (FJ.ql rfl (q_move rfl (.t .z)) (FJ.nil ?_))
 refine FJ.again (k + 1) ⟨by omega, nodup_s hnd hx91 (by assumption)⟩ (by first | omega | (dsimp only; omega)) (.c .z (.c (.s4 (.s4 (.s4 (.s (.s .z))))) (.c (.s4 (.s4 (.s4 (.s (.s (.s .z)))))) (.c (.s16 .z) .n)))) (fun _ h => h.sel (.c .z .n))
 refine FJ.exit (FJ.thenE (FJ.thenE (FJ.inB (FJ.then_ ?_))))
 refine FJ.seq (FJ.region (FJ.ql rfl (q_assign rfl .c) (FJ.nil (FJ.then_ ?_))))
 refine FJ.ret ?_
 refine FJ.doneS (res1 rfl .z) .n ?_
 have h60 : (1 ≤ x.links ∧ x.links ≤ 60) ∨ ¬ (1 ≤ x.links ∧ x.links ≤ 60) := Classical.em _; exact ⟨by first | (rw [fileFault_3 (by omega)]; done) | (rw [fileFault_1 ⟨by assumption, by assumption⟩ (by omega)]; done) | (rw [fileFault_3' ⟨by assumption, by assumption⟩ (by omega) (by assumption)]; done) | (rw [fileFault_0 ⟨by assumption, by assumption⟩ (by omega) (by assumption) (by rw [List.take_of_length_le (by omega)] at hnd; exact hnd)]; done), rfl⟩

set_option maxHeartbeats 1000000 in
set_option maxRecDepth 20000 in
theorem c_121 {w0 : World} {S0 : Bs} {x : DInode} {cs0 : List Value} (h0 : kT_30.ro w0 (FF w0 S0) x cs0)  :
    Calls Try.prog 121 #[.agg cs0.toArray] w0 (TriPost w0 S0 (fun r l => r = .int .i64 (dirFault x) ∧ l = [])) := by
 obtain ⟨u0_3, u0_4, rfl, h0_3, h0_4⟩ := kT_30_ro h0
 obtain ⟨A0_3, c0_3, rfl, hl0_3, hm0_3, hb0_3, he0_3⟩ := ro_form h0_3
 obtain ⟨A0_4, c0_4, rfl, hl0_4, hm0_4, hb0_4, he0_4⟩ := ro_form h0_4
 refine FJ.enter (N := 43) Try.func121 rfl rfl (by simp) [(0, .agg #[.int .i64 x.kind, .int .i64 x.links, .int .i64 x.size, .slice A0_3 x.blocks.length c0_3, .slice A0_4 x.ents.length c0_4])] (by simp) (l0 := []) trivial ?_
 refine FJ.seq (FJ.region ?_)
 refine FJ.e (goes_list rfl) rfl (by decide) rfl (e_box (cs := [.int .i64 x.kind, .int .i64 x.links, .int .i64 x.size, .slice A0_3 x.blocks.length c0_3, .slice A0_4 x.ents.length c0_4]) (n := 5) rfl (.t .z) rfl rfl) ?_
 rintro _ _ ⟨g3, rfl, rfl⟩
 refine FJ.ql rfl (q_assign rfl .c) (FJ.nil (FJ.then_ (FJ.seq (FJ.seq ?_))))
 refine FJ.region (FJ.ql rfl (q_fieldAddr rfl (.t (.s .z)) (fun _ => fa_30_4 _ _)) (FJ.ql rfl (q_load rfl ag_28 (.t .z) (WS.row .z rfl)) (FJ.ql rfl (q_len rfl u_28 (.t .z)) (FJ.ql rfl (q_gtr rfl (.t .z) .c) ?_))))
 refine FJ.nil (FJ.then_ ?_)
 refine FJ.condP (.t .z) (fun b4 => ?_) (fun b4 => ?_)
 refine FJ.seq (FJ.region (FJ.er (.s4 .z) (FJ.ql rfl (q_assign rfl .c) (FJ.nil ?_))))
 refine FJ.then_ (FJ.ret (FJ.thenR ?_))
 refine FJ.doneS (res1 rfl .z) .n ?_
 exact ⟨by first | (rw [dirFault_2 (by assumption)]; done) | (rw [dirFault_0 (by assumption) (fun j hj => hallk j (by omega))]; done), rfl⟩
 refine FJ.skip (FJ.then_ (FJ.seq (FJ.seq (FJ.region ?_))))
 refine FJ.ql rfl (q_fieldAddr rfl (.t (.s4 (.s .z))) (fun _ => fa_30_4 _ _)) (FJ.ql rfl (q_load rfl ag_28 (.t .z) (WS.row .z rfl)) (FJ.ql rfl (q_len rfl u_28 (.t .z)) (FJ.ql rfl (q_move rfl .c) (FJ.nil ?_))))
 refine FJ.then_ (FJ.block ?_)
 refine FJ.loopi (γ := Nat) (fun k => [(13, .int .i64 (k : Int)), (12, .int .i64 (x.ents.length : Int)), (11, .slice A0_4 x.ents.length c0_4), (1, .pointer (some ⟨g3, 0, none⟩))]) (fun k => [rowA g3 30 5 1 [.int .i64 x.kind, .int .i64 x.links, .int .i64 x.size, .slice A0_3 x.blocks.length c0_3, .slice A0_4 x.ents.length c0_4]]) (fun k => k ≤ x.ents.length ∧ ∀ j, j < k → entAt x.ents j = 0) (fun k => x.ents.length - k) 0 ⟨Nat.zero_le _, fun j hj => absurd hj (Nat.not_lt_zero j)⟩ (.c .z (.c (.s .z) (.c (.s (.s .z)) (.c (.s4 (.s4 (.s .z))) .n)))) (fun _ h => h.sel (.c .z .n)) ?_
 rintro k ⟨hk, hallk⟩
 refine FJ.seq (FJ.region (FJ.ql rfl (q_lss rfl (.t .z) (.t (.s .z))) (FJ.nil (FJ.then_ ?_))))
 refine FJ.seq ?_
 refine FJ.condP (.t .z) (fun b5 => ?_) (fun b5 => ?_)
 refine FJ.skip (FJ.then_ (FJ.seq (FJ.block (FJ.seq ?_))))
 refine FJ.region (FJ.ql rfl (q_move rfl (.t (.s .z))) ?_)
 obtain ⟨ad6, hAad6, hrad6⟩ := he0_4 (by omega)
 subst hAad6
 obtain ⟨x7, hx7⟩ := get_ex (xs := x.ents) (j := k) (by omega)
 obtain ⟨ece8, hre8, hFe8, hce8⟩ := hrad6.elem hx7
 obtain ⟨rfl, se8_0⟩ := kT_130_ro hre8
 refine FJ.ql rfl (q_indexAddr (j := k) rfl u_28 sz_130 (.t (.s4 .z)) (.t (.s (.s .z))) rfl (by omega)) ?_
 refine FJ.ql rfl (q_loadA (cs := [.string x7.name, .int .i64 x7.ino]) rfl ag_130 sz_130 (.t .z) (WS.els hFe8 hce8)) ?_
 refine FJ.e (goes_list rfl) rfl (by decide) rfl (e_alloc rfl z_130 rfl rfl) ?_
 rintro _ _ ⟨g9, rfl, rfl⟩
 refine FJ.ql rfl (q_assign rfl (.t (.s (.s (.s .z))))) ?_
 refine FJ.es (goes_list rfl) rfl (es_store (off := 0) (cs := [.string x7.name, .int .i64 x7.ino]) rfl sz_130 (.t (.s .z)) (.t (.s (.s .z))) rfl (ones rfl) .z (Nat.le_of_ble_eq_true rfl) (.c .z (.c (.s .z) .n))) ?_
 refine FJ.nil (FJ.then_ (FJ.seq (FJ.seq (FJ.region ?_))))
 refine FJ.ql rfl (q_fieldAddr rfl (.t (.s .z)) (fun _ => fa_130_0 _ _)) (FJ.ql rfl (q_load rfl ag_9 (.t .z) (WS.row .z rfl)) ?_)
 refine FJ.call (goes_list rfl) rfl (by decide) rfl (c_call rfl Try.func149 rfl rfl (args1 (.t .z))) .n (fun w1 S1 hs tr => c_149 _ (by first | assumption | omega)) ?_
 rintro _ _ ⟨rfl, rfl⟩
 refine FJ.cat .n ?_
 refine FJ.ql rfl (q_assign rfl (.t .z)) (FJ.nil (FJ.then_ (FJ.seq (FJ.region ?_))))
 refine FJ.ql rfl (q_move rfl (.t .z)) (FJ.ql rfl (q_neq rfl (.t .z) .c) (FJ.nil (FJ.then_ ?_)))
 refine FJ.condN (.t .z) (fun b10 => ?_) (fun b10 => ?_)
 refine FJ.seq (FJ.region (FJ.ql rfl (q_move rfl (.t (.s (.s .z)))) (FJ.ql rfl (q_assign rfl (.t .z)) (FJ.nil ?_))))
 refine FJ.then_ (FJ.ret (FJ.thenR (FJ.inBR (FJ.thenR ?_))))
 refine FJ.thenR (FJ.inBR (FJ.thenR ?_))
 refine FJ.doneS (res1 rfl .z) .n ?_
 exact ⟨by first | (rw [dirFault_2 (by assumption)]; done) | (rw [dirFault_0 (by assumption) (fun j hj => hallk j (by omega))]; done) | (rw [dirFault_s (by assumption) hx7 (by rw [entOk_n (by assumption)]; first | assumption | decide) hallk, entOk_n (by assumption)]; done) | (rw [dirFault_s (by assumption) hx7 (by rw [entOk_3 (by assumption) (by assumption)]; first | assumption | decide) hallk, entOk_3 (by assumption) (by assumption)]; done), rfl⟩
 refine FJ.skip (FJ.then_ (FJ.seq (FJ.seq (FJ.region ?_))))
 refine FJ.ql rfl (q_fieldAddr rfl (.t (.s4 (.s (.s (.s .z))))) (fun _ => fa_130_1 _ _)) (FJ.ql rfl (q_load rfl ag_2 (.t .z) (WS.row .z rfl)) ?_)
 refine FJ.call (goes_list rfl) rfl (by decide) rfl (c_call rfl Try.func84 rfl rfl (args3 (.t .z) .c .c)) .n (fun w1 S1 hs tr => c_84 _ _ _) ?_
 rintro _ _ ⟨rfl, rfl⟩
 refine FJ.cat .n ?_
 refine FJ.ql rfl (q_not rfl (.t .z)) (FJ.nil (FJ.then_ ?_))
 refine FJ.condN (.t .z) (fun b11 => ?_) (fun b11 => ?_)
 refine FJ.seq (FJ.region (FJ.ql rfl (q_assign rfl .c) (FJ.nil (FJ.then_ ?_))))
 refine FJ.ret (FJ.thenR (FJ.inBR (FJ.thenR (FJ.thenR ?_))))
 refine FJ.inBR (FJ.thenR ?_)
 refine FJ.doneS (res1 rfl .z) .n ?_
 exact ⟨by first | (rw [dirFault_2 (by assumption)]; done) | (rw [dirFault_0 (by assumption) (fun j hj => hallk j (by omega))]; done) | (rw [dirFault_s (by assumption) hx7 (by rw [entOk_n (by assumption)]; first | assumption | decide) hallk, entOk_n (by assumption)]; done) | (rw [dirFault_s (by assumption) hx7 (by rw [entOk_3 (by assumption) (by assumption)]; first | assumption | decide) hallk, entOk_3 (by assumption) (by assumption)]; done), rfl⟩
 refine FJ.skip (FJ.then_ (FJ.seq ?_))
 refine FJ.draw [rowA g9 130 2 1 [.string x7.name, .int .i64 x7.ino], rowA g3 30 5 1 [.int .i64 x.kind, .int .i64 x.links, .int .i64 x.size, .slice A0_3 x.blocks.length c0_3, .slice (some ad6) x.ents.length c0_4]] 14 (by kernel_rfl) ?_
 refine FJ.sch [(0, true), (1, true), (2, true)] 11 #[true, true, true, false, false, false, false, false, false, false, false, false, false, false] (by rfl) (by kernel_rfl) ?_
 refine FJ.dq rfl rfl rfl (by decide) rfl .z (q_move rfl (.t (.s4 (.s4 (.s (.s .z)))))) (FJ.dq rfl rfl rfl (by decide) rfl .z (q_gtr rfl (.t .z) .c) (FJ.dq rfl rfl rfl (by decide) rfl .z (q_move rfl (.t .z)) (FJ.schN ?_)))
 refine FJ.caseP .z (fun g12 => ?_) (fun g12 => ?_)
 refine FJ.sch [(3, true), (4, true), (5, true), (6, true), (7, true), (8, true), (9, true), (10, true), (11, true), (12, true), (13, true)] 0 #[true, true, true, true, true, true, true, true, true, true, true, true, true, true] (by rfl) (by kernel_rfl) ?_
 refine FJ.dqg rfl rfl rfl .z rfl (by decide) rfl .z (q_fieldAddr rfl (.t (.s16 (.s4 (.s (.s .z))))) (fun _ => fa_30_4 _ _)) ?_
 refine FJ.dqg rfl rfl rfl (.s .z) rfl (by decide) rfl .z (q_load rfl ag_28 (.t .z) (WS.row (.s .z) rfl)) ?_
 refine FJ.dqg rfl rfl rfl (.s (.s .z)) rfl (by decide) rfl .z (q_move rfl (.t (.s4 (.s4 (.s4 (.s (.s (.s .z)))))))) ?_
 refine FJ.dqg rfl rfl rfl (.s (.s (.s .z))) rfl (by decide) rfl .z (q_sub (c := (k : Int) - 1) rfl (.t .z) .c (wr (by omega) (by omega) (by omega))) ?_
 obtain ⟨x13, hx13⟩ := get_ex (xs := x.ents) (j := Int.toNat ((k : Int) - 1)) (by omega)
 obtain ⟨ece14, hre14, hFe14, hce14⟩ := hrad6.elem hx13
 obtain ⟨rfl, se14_0⟩ := kT_130_ro hre14
 refine FJ.dqg rfl rfl rfl (.s4 .z) rfl (by decide) rfl .z (q_indexAddr (j := Int.toNat ((k : Int) - 1)) rfl u_28 sz_130 (.t (.s (.s .z))) (.t .z) (by omega) (by omega)) ?_
 refine FJ.dqg rfl rfl rfl (.s4 (.s .z)) rfl (by decide) rfl .z (q_fieldAddr rfl (.t .z) (fun _ => fa_130_0 _ _)) ?_
 refine FJ.dqg rfl rfl rfl (.s4 (.s (.s .z))) rfl (by decide) rfl .z (q_load rfl ag_9 (.t .z) (WS.el hFe14 hce14 rfl)) ?_
 refine FJ.dqg rfl rfl rfl (.s4 (.s (.s (.s .z)))) rfl (by decide) rfl .z (q_fieldAddr rfl (.t (.s16 (.s4 (.s .z)))) (fun _ => fa_130_0 _ _)) ?_
 refine FJ.dqg rfl rfl rfl (.s4 (.s4 .z)) rfl (by decide) rfl .z (q_load rfl ag_9 (.t .z) (WS.row .z rfl)) ?_
 refine FJ.dqg rfl rfl rfl (.s4 (.s4 (.s .z))) rfl (by decide) rfl .z (q_sgeq rfl (.t (.s (.s .z))) (.t .z)) ?_
 refine FJ.dq rfl rfl rfl (by decide) rfl .z (q_pickT rfl (.t (.s4 (.s4 (.s (.s .z))))) (.t .z)) (FJ.schN ?_)
 refine FJ.drawN (by kernel_rfl) ?_
 refine FJ.then_ ?_
 refine FJ.cond (.t .z) (fun b15 => ?_) (fun b15 => ?_)
 refine FJ.seq (FJ.region (FJ.ql rfl (q_assign rfl .c) (FJ.nil (FJ.then_ ?_))))
 refine FJ.ret (FJ.inBR (FJ.thenR (FJ.thenR (FJ.inBR ?_))))
 refine FJ.thenR ?_
 refine FJ.doneS (res1 rfl .z) .n ?_
 exact ⟨by first | (rw [dirFault_2 (by assumption)]; done) | (rw [dirFault_0 (by assumption) (fun j hj => hallk j (by omega))]; done) | (rw [dirFault_s (by assumption) hx7 (by rw [entOk_n (by assumption)]; first | assumption | decide) hallk, entOk_n (by assumption)]; done) | (rw [dirFault_s (by assumption) hx7 (by rw [entOk_3 (by assumption) (by assumption)]; first | assumption | decide) hallk, entOk_3 (by assumption) (by assumption)]; done) | (rw [dirFault_s (by assumption) hx7 (by rw [entOk_1 (p := x13) (by assumption) (by assumption) (by omega) (by rw [show k - 1 = Int.toNat ((k : Int) - 1) by omega]; exact hx13) (by first | (simpa using b15) | (rw [sle_not] at b15; simpa using b15))]; first | assumption | decide) hallk, entOk_1 (p := x13) (by assumption) (by assumption) (by omega) (by rw [show k - 1 = Int.toNat ((k : Int) - 1) by omega]; exact hx13) (by first | (simpa using b15) | (rw [sle_not] at b15; simpa using b15))]; done), rfl⟩
 refine FJ.skip (FJ.inBN (FJ.then_ (FJ.region ?_)))
 refine FJ.ql rfl (q_add (c := ((k + 1 : Nat) : Int)) rfl (.t (.s16 (.s4 (.s4 (.s4 (.s (.s .z))))))) .c (wr (by omega) (by omega) (by omega))) ?_
 refine FJ.er (.s16 (.s4 (.s4 (.s4 (.s (.s (.s .z))))))) (FJ.ql rfl (q_move rfl (.t .z)) (FJ.nil ?_))
 refine FJ.again (k + 1) ⟨by omega, entAt_s hallk hx7 (by first | exact entOk_z (by assumption) (by assumption) (by omega) | exact entOk_p (p := x13) (by assumption) (by assumption) (by omega) (by rw [show k - 1 = Int.toNat ((k : Int) - 1) by omega]; exact hx13) (by first | (simpa using b15) | (rw [sle_not] at b15; simpa using b15)))⟩ (by first | omega | (dsimp only; omega)) (.c .z (.c (.s16 (.s16 .z)) (.c (.s16 (.s16 (.s .z))) (.c (.s16 (.s16 (.s (.s .z)))) .n)))) (fun _ h => h.sel (.c (.s .z) .n))
 refine FJ.sch [(3, true), (4, true), (5, true), (6, true), (7, true), (8, true), (9, true), (10, true), (11, true), (12, true), (13, true)] 0 #[true, true, true, true, true, true, true, true, true, true, true, true, true, true] (by rfl) (by kernel_rfl) ?_
 refine FJ.dskip rfl rfl rfl .z rfl rfl (by decide) rfl .z ?_
 refine FJ.dskip rfl rfl rfl (.s .z) rfl rfl (by decide) rfl .z ?_
 refine FJ.dskip rfl rfl rfl (.s (.s .z)) rfl rfl (by decide) rfl .z ?_
 refine FJ.dskip rfl rfl rfl (.s (.s (.s .z))) rfl rfl (by decide) rfl .z ?_
 refine FJ.dskip rfl rfl rfl (.s4 .z) rfl rfl (by decide) rfl .z ?_
 refine FJ.dskip rfl rfl rfl (.s4 (.s .z)) rfl rfl (by decide) rfl .z ?_
 refine FJ.dskip rfl rfl rfl (.s4 (.s (.s .z))) rfl rfl (by decide) rfl .z ?_
 refine FJ.dskip rfl rfl rfl (.s4 (.s (.s (.s .z)))) rfl rfl (by decide) rfl .z ?_
 refine FJ.dskip rfl rfl rfl (.s4 (.s4 .z)) rfl rfl (by decide) rfl .z ?_
 refine FJ.dskip rfl rfl rfl (.s4 (.s4 (.s .z))) rfl rfl (by decide) rfl .z ?_
 refine FJ.dq rfl rfl rfl (by decide) rfl .z (q_pickF rfl (.t (.s4 (.s4 (.s (.s .z))))) .c) (FJ.schN ?_)
 refine FJ.drawN (by kernel_rfl) ?_
 refine FJ.then_ ?_
 refine FJ.condF (.t .z) ?_
 refine FJ.skip (FJ.inBN (FJ.then_ (FJ.region ?_)))
 refine FJ.ql rfl (q_add (c := ((k + 1 : Nat) : Int)) rfl (.t (.s16 (.s4 (.s4 (.s4 (.s (.s .z))))))) .c (wr (by omega) (by omega) (by omega))) ?_
 refine FJ.er (.s16 (.s4 (.s4 (.s4 (.s (.s (.s .z))))))) (FJ.ql rfl (q_move rfl (.t .z)) (FJ.nil ?_))
 refine FJ.again (k + 1) ⟨by omega, entAt_s hallk hx7 (by first | exact entOk_z (by assumption) (by assumption) (by omega) | exact entOk_z (by assumption) (by assumption) (by omega))⟩ (by first | omega | (dsimp only; omega)) (.c .z (.c (.s16 (.s16 .z)) (.c (.s16 (.s16 (.s .z))) (.c (.s16 (.s16 (.s (.s .z)))) .n)))) (fun _ h => h.sel (.c (.s .z) .n))
 refine FJ.exit (FJ.thenE (FJ.thenE (FJ.inB (FJ.then_ ?_))))
 refine FJ.seq (FJ.region (FJ.ql rfl (q_assign rfl .c) (FJ.nil (FJ.then_ ?_))))
 refine FJ.ret ?_
 refine FJ.doneS (res1 rfl .z) .n ?_
 exact ⟨by first | (rw [dirFault_2 (by assumption)]; done) | (rw [dirFault_0 (by assumption) (fun j hj => hallk j (by omega))]; done), rfl⟩

set_option maxHeartbeats 1000000 in
set_option maxRecDepth 20000 in
theorem c_119 {w0 : World} {S0 : Bs} {x : DInode} {ad0 : Addr} (h0 : PtrRo kT_30 w0 (FF w0 S0) ad0 x)  :
    Calls Try.prog 119 #[.pointer (some ad0)] w0 (TriPost w0 S0 (fun r l => r = .int .i64 (dirFault x) ∧ l = [])) := by
 obtain ⟨ec0, hF0, hr0, hc0⟩ := id h0
 obtain ⟨u0_3, u0_4, rfl, h0_3, h0_4⟩ := kT_30_ro hr0
 obtain ⟨A0_3, c0_3, rfl, hl0_3, hm0_3, hb0_3, he0_3⟩ := ro_form h0_3
 obtain ⟨A0_4, c0_4, rfl, hl0_4, hm0_4, hb0_4, he0_4⟩ := ro_form h0_4
 refine FJ.enter (N := 64) Try.func119 rfl rfl (by simp) [(0, .pointer (some ad0))] (by simp) (l0 := []) trivial ?_
 refine FJ.seq (FJ.region (FJ.ql rfl (q_assign rfl .c) (FJ.nil (FJ.then_ ?_))))
 refine FJ.seq (FJ.seq (FJ.region (FJ.ql rfl (q_move rfl (.t (.s .z))) (FJ.ql rfl (q_nilCheck rfl (.t .z)) ?_))))
 refine FJ.ql rfl (q_fieldAddr rfl (.t .z) (fun _ => fa_30_4 _ _)) (FJ.ql rfl (q_load rfl ag_28 (.t .z) (WS.el hF0 hc0 rfl)) (FJ.ql rfl (q_len rfl u_28 (.t .z)) (FJ.ql rfl (q_gtr rfl (.t .z) .c) (FJ.nil ?_))))
 refine FJ.then_ ?_
 refine FJ.condP (.t .z) (fun b3 => ?_) (fun b3 => ?_)
 refine FJ.seq (FJ.region (FJ.er (.s4 (.s (.s .z))) (FJ.ql rfl (q_assign rfl .c) (FJ.nil ?_))))
 refine FJ.then_ (FJ.ret (FJ.thenR ?_))
 refine FJ.doneS (res1 rfl .z) .n ?_
 exact ⟨by first | (rw [dirFault_2 (by assumption)]; done) | (rw [dirFault_0 (by assumption) (fun j hj => hallk j (by omega))]; done), rfl⟩
 refine FJ.skip (FJ.then_ (FJ.seq (FJ.seq (FJ.region ?_))))
 refine FJ.ql rfl (q_assign rfl .c) (FJ.nil (FJ.then_ (FJ.block ?_)))
 refine FJ.loopi (γ := Nat) (fun k => [(3, .int .i64 (k : Int)), (0, .pointer (some ad0))]) (fun k => []) (fun k => k ≤ x.ents.length ∧ ∀ j, j < k → entAt x.ents j = 0) (fun k => x.ents.length - k) 0 ⟨Nat.zero_le _, fun j hj => absurd hj (Nat.not_lt_zero j)⟩ (.c .z (.c (.s4 (.s4 .z)) .n)) (fun _ h => h) ?_
 rintro k ⟨hk, hallk⟩
 refine FJ.seq (FJ.seq (FJ.region (FJ.ql rfl (q_move rfl (.t .z)) (FJ.ql rfl (q_move rfl (.t (.s (.s .z)))) ?_))))
 refine FJ.ql rfl (q_nilCheck rfl (.t .z)) (FJ.ql rfl (q_fieldAddr rfl (.t .z) (fun _ => fa_30_4 _ _)) (FJ.ql rfl (q_load rfl ag_28 (.t .z) (WS.el hF0 hc0 rfl)) (FJ.ql rfl (q_len rfl u_28 (.t .z)) (FJ.ql rfl (q_lss rfl (.t (.s4 (.s .z))) (.t .z)) ?_))))
 refine FJ.nil (FJ.then_ ?_)
 refine FJ.condP (.t .z) (fun b4 => ?_) (fun b4 => ?_)
 refine FJ.skip (FJ.then_ (FJ.seq (FJ.block (FJ.seq ?_))))
 refine FJ.seq (FJ.region (FJ.ql rfl (q_move rfl (.t (.s4 (.s4 .z)))) (FJ.ql rfl (q_nilCheck rfl (.t .z)) (FJ.ql rfl (q_fieldAddr rfl (.t .z) (fun _ => fa_30_4 _ _)) ?_))))
 refine FJ.ql rfl (q_load rfl ag_28 (.t .z) (WS.el hF0 hc0 rfl)) (FJ.ql rfl (q_move rfl (.t (.s4 (.s4 (.s (.s (.s .z))))))) ?_)
 obtain ⟨ad5, hAad5, hrad5⟩ := he0_4 (by omega)
 subst hAad5
 obtain ⟨x6, hx6⟩ := get_ex (xs := x.ents) (j := k) (by omega)
 obtain ⟨ece7, hre7, hFe7, hce7⟩ := hrad5.elem hx6
 obtain ⟨rfl, se7_0⟩ := kT_130_ro hre7
 refine FJ.ql rfl (q_indexAddr (j := k) rfl u_28 sz_130 (.t (.s .z)) (.t .z) rfl (by omega)) ?_
 refine FJ.ql rfl (q_fieldAddr rfl (.t .z) (fun _ => fa_130_0 _ _)) (FJ.ql rfl (q_load rfl ag_9 (.t .z) (WS.el hFe7 hce7 rfl)) ?_)
 refine FJ.call (goes_list rfl) rfl (by decide) rfl (c_call rfl Try.func147 rfl rfl (args1 (.t .z))) .n (fun w1 S1 hs tr => c_147 _ (by first | assumption | omega)) ?_
 rintro _ _ ⟨rfl, rfl⟩
 refine FJ.cat .n ?_
 refine FJ.ql rfl (q_assign rfl (.t .z)) (FJ.nil (FJ.then_ (FJ.seq (FJ.region ?_))))
 refine FJ.ql rfl (q_move rfl (.t .z)) (FJ.ql rfl (q_neq rfl (.t .z) .c) (FJ.nil (FJ.then_ ?_)))
 refine FJ.condN (.t .z) (fun b8 => ?_) (fun b8 => ?_)
 refine FJ.seq (FJ.region (FJ.ql rfl (q_move rfl (.t (.s (.s .z)))) (FJ.ql rfl (q_assign rfl (.t .z)) (FJ.nil ?_))))
 refine FJ.then_ (FJ.ret (FJ.thenR (FJ.inBR (FJ.thenR ?_))))
 refine FJ.thenR (FJ.inBR (FJ.thenR ?_))
 refine FJ.doneS (res1 rfl .z) .n ?_
 exact ⟨by first | (rw [dirFault_2 (by assumption)]; done) | (rw [dirFault_0 (by assumption) (fun j hj => hallk j (by omega))]; done) | (rw [dirFault_s (by assumption) hx6 (by rw [entOk_n (by assumption)]; first | assumption | decide) hallk, entOk_n (by assumption)]; done) | (rw [dirFault_s (by assumption) hx6 (by rw [entOk_3 (by assumption) (by assumption)]; first | assumption | decide) hallk, entOk_3 (by assumption) (by assumption)]; done), rfl⟩
 refine FJ.skip (FJ.then_ (FJ.seq (FJ.seq (FJ.region ?_))))
 refine FJ.ql rfl (q_move rfl (.t (.s16 (.s4 .z)))) (FJ.ql rfl (q_nilCheck rfl (.t .z)) (FJ.ql rfl (q_fieldAddr rfl (.t .z) (fun _ => fa_30_4 _ _)) (FJ.ql rfl (q_load rfl ag_28 (.t .z) (WS.el hF0 hc0 rfl)) (FJ.ql rfl (q_move rfl (.t (.s16 (.s4 (.s (.s (.s .z))))))) ?_))))
 refine FJ.ql rfl (q_indexAddr (j := k) rfl u_28 sz_130 (.t (.s .z)) (.t .z) rfl (by omega)) ?_
 refine FJ.ql rfl (q_fieldAddr rfl (.t .z) (fun _ => fa_130_1 _ _)) (FJ.ql rfl (q_load rfl ag_2 (.t .z) (WS.el hFe7 hce7 rfl)) ?_)
 refine FJ.call (goes_list rfl) rfl (by decide) rfl (c_call rfl Try.func82 rfl rfl (args3 (.t .z) .c .c)) .n (fun w1 S1 hs tr => c_82 _ _ _) ?_
 rintro _ _ ⟨rfl, rfl⟩
 refine FJ.cat .n ?_
 refine FJ.ql rfl (q_not rfl (.t .z)) (FJ.nil (FJ.then_ ?_))
 refine FJ.condN (.t .z) (fun b9 => ?_) (fun b9 => ?_)
 refine FJ.seq (FJ.region (FJ.ql rfl (q_assign rfl .c) (FJ.nil (FJ.then_ ?_))))
 refine FJ.ret (FJ.thenR (FJ.inBR (FJ.thenR (FJ.thenR ?_))))
 refine FJ.inBR (FJ.thenR ?_)
 refine FJ.doneS (res1 rfl .z) .n ?_
 exact ⟨by first | (rw [dirFault_2 (by assumption)]; done) | (rw [dirFault_0 (by assumption) (fun j hj => hallk j (by omega))]; done) | (rw [dirFault_s (by assumption) hx6 (by rw [entOk_n (by assumption)]; first | assumption | decide) hallk, entOk_n (by assumption)]; done) | (rw [dirFault_s (by assumption) hx6 (by rw [entOk_3 (by assumption) (by assumption)]; first | assumption | decide) hallk, entOk_3 (by assumption) (by assumption)]; done), rfl⟩
 refine FJ.skip (FJ.then_ (FJ.seq ?_))
 refine FJ.draw [] 22 (by kernel_rfl) ?_
 refine FJ.sch [(0, true), (1, true), (2, true)] 19 #[true, true, true, false, false, false, false, false, false, false, false, false, false, false, false, false, false, false, false, false, false, false] (by rfl) (by kernel_rfl) ?_
 refine FJ.dq rfl rfl rfl (by decide) rfl .z (q_move rfl (.t (.s16 (.s4 (.s4 (.s4 (.s .z))))))) (FJ.dq rfl rfl rfl (by decide) rfl .z (q_gtr rfl (.t .z) .c) (FJ.dq rfl rfl rfl (by decide) rfl .z (q_move rfl (.t .z)) (FJ.schN ?_)))
 refine FJ.caseP .z (fun g10 => ?_) (fun g10 => ?_)
 refine FJ.sch [(3, true), (4, true), (5, true), (6, true), (7, true), (8, true), (9, true), (10, true), (11, true), (12, true), (13, true), (14, true), (15, true), (16, true), (17, true), (18, true), (19, true), (20, true), (21, true)] 0 #[true, true, true, true, true, true, true, true, true, true, true, true, true, true, true, true, true, true, true, true, true, true] (by rfl) (by kernel_rfl) ?_
 refine FJ.dqg rfl rfl rfl .z rfl (by decide) rfl .z (q_move rfl (.t (.s16 (.s16 (.s .z))))) ?_
 refine FJ.dqg rfl rfl rfl (.s .z) rfl (by decide) rfl .z (q_nilCheck rfl (.t .z)) ?_
 refine FJ.dqg rfl rfl rfl (.s (.s .z)) rfl (by decide) rfl .z (q_fieldAddr rfl (.t .z) (fun _ => fa_30_4 _ _)) ?_
 refine FJ.dqg rfl rfl rfl (.s (.s (.s .z))) rfl (by decide) rfl .z (q_load rfl ag_28 (.t .z) (WS.el hF0 hc0 rfl)) ?_
 refine FJ.dqg rfl rfl rfl (.s4 .z) rfl (by decide) rfl .z (q_move rfl (.t (.s16 (.s16 (.s4 .z))))) ?_
 refine FJ.dqg rfl rfl rfl (.s4 (.s .z)) rfl (by decide) rfl .z (q_indexAddr (j := k) rfl u_28 sz_130 (.t (.s .z)) (.t .z) rfl (by omega)) ?_
 refine FJ.dqg rfl rfl rfl (.s4 (.s (.s .z))) rfl (by decide) rfl .z (q_fieldAddr rfl (.t .z) (fun _ => fa_130_0 _ _)) ?_
 refine FJ.dqg rfl rfl rfl (.s4 (.s (.s (.s .z)))) rfl (by decide) rfl .z (q_load rfl ag_9 (.t .z) (WS.el hFe7 hce7 rfl)) ?_
 refine FJ.dqg rfl rfl rfl (.s4 (.s4 .z)) rfl (by decide) rfl .z (q_move rfl (.t (.s16 (.s16 (.s4 (.s4 (.s .z))))))) ?_
 refine FJ.dqg rfl rfl rfl (.s4 (.s4 (.s .z))) rfl (by decide) rfl .z (q_nilCheck rfl (.t .z)) ?_
 refine FJ.dqg rfl rfl rfl (.s4 (.s4 (.s (.s .z)))) rfl (by decide) rfl .z (q_fieldAddr rfl (.t .z) (fun _ => fa_30_4 _ _)) ?_
 refine FJ.dqg rfl rfl rfl (.s4 (.s4 (.s (.s (.s .z))))) rfl (by decide) rfl .z (q_load rfl ag_28 (.t .z) (WS.el hF0 hc0 rfl)) ?_
 refine FJ.dqg rfl rfl rfl (.s4 (.s4 (.s4 .z))) rfl (by decide) rfl .z (q_move rfl (.t (.s16 (.s16 (.s4 (.s4 (.s4 .z))))))) ?_
 refine FJ.dqg rfl rfl rfl (.s4 (.s4 (.s4 (.s .z)))) rfl (by decide) rfl .z (q_sub (c := (k : Int) - 1) rfl (.t .z) .c (wr (by omega) (by omega) (by omega))) ?_
 obtain ⟨x11, hx11⟩ := get_ex (xs := x.ents) (j := Int.toNat ((k : Int) - 1)) (by omega)
 obtain ⟨ece12, hre12, hFe12, hce12⟩ := hrad5.elem hx11
 obtain ⟨rfl, se12_0⟩ := kT_130_ro hre12
 refine FJ.dqg rfl rfl rfl (.s4 (.s4 (.s4 (.s (.s .z))))) rfl (by decide) rfl .z (q_indexAddr (j := Int.toNat ((k : Int) - 1)) rfl u_28 sz_130 (.t (.s (.s .z))) (.t .z) (by omega) (by omega)) ?_
 refine FJ.dqg rfl rfl rfl (.s4 (.s4 (.s4 (.s (.s (.s .z)))))) rfl (by decide) rfl .z (q_fieldAddr rfl (.t .z) (fun _ => fa_130_0 _ _)) ?_
 refine FJ.dqg rfl rfl rfl (.s16 .z) rfl (by decide) rfl .z (q_load rfl ag_9 (.t .z) (WS.el hFe12 hce12 rfl)) ?_
 refine FJ.dqg rfl rfl rfl (.s16 (.s .z)) rfl (by decide) rfl .z (q_sleq rfl (.t (.s4 (.s4 (.s .z)))) (.t .z)) ?_
 refine FJ.dq rfl rfl rfl (by decide) rfl .z (q_pickT rfl (.t (.s16 (.s (.s .z)))) (.t .z)) (FJ.schN ?_)
 refine FJ.drawN (by kernel_rfl) ?_
 refine FJ.then_ ?_
 refine FJ.cond (.t .z) (fun b13 => ?_) (fun b13 => ?_)
 refine FJ.seq (FJ.region (FJ.ql rfl (q_assign rfl .c) (FJ.nil (FJ.then_ ?_))))
 refine FJ.ret (FJ.inBR (FJ.thenR (FJ.thenR (FJ.inBR ?_))))
 refine FJ.thenR ?_
 refine FJ.doneS (res1 rfl .z) .n ?_
 exact ⟨by first | (rw [dirFault_2 (by assumption)]; done) | (rw [dirFault_0 (by assumption) (fun j hj => hallk j (by omega))]; done) | (rw [dirFault_s (by assumption) hx6 (by rw [entOk_n (by assumption)]; first | assumption | decide) hallk, entOk_n (by assumption)]; done) | (rw [dirFault_s (by assumption) hx6 (by rw [entOk_3 (by assumption) (by assumption)]; first | assumption | decide) hallk, entOk_3 (by assumption) (by assumption)]; done) | (rw [dirFault_s (by assumption) hx6 (by rw [entOk_1 (p := x11) (by assumption) (by assumption) (by omega) (by rw [show k - 1 = Int.toNat ((k : Int) - 1) by omega]; exact hx11) (by first | (simpa using b13) | (rw [sle_not] at b13; simpa using b13))]; first | assumption | decide) hallk, entOk_1 (p := x11) (by assumption) (by assumption) (by omega) (by rw [show k - 1 = Int.toNat ((k : Int) - 1) by omega]; exact hx11) (by first | (simpa using b13) | (rw [sle_not] at b13; simpa using b13))]; done), rfl⟩
 refine FJ.skip (FJ.inBN (FJ.then_ (FJ.region (FJ.ql rfl (q_move rfl (.t (.s16 (.s16 (.s16 (.s (.s (.s .z)))))))) ?_))))
 refine FJ.ql rfl (q_add (c := ((k + 1 : Nat) : Int)) rfl (.t .z) .c (wr (by omega) (by omega) (by omega))) ?_
 refine FJ.er (.s16 (.s16 (.s16 (.s4 (.s .z))))) (FJ.ql rfl (q_assign rfl (.t .z)) (FJ.nil ?_))
 refine FJ.again (k + 1) ⟨by omega, entAt_s hallk hx6 (by first | exact entOk_z (by assumption) (by assumption) (by omega) | exact entOk_p (p := x11) (by assumption) (by assumption) (by omega) (by rw [show k - 1 = Int.toNat ((k : Int) - 1) by omega]; exact hx11) (by first | (simpa using b13) | (rw [sle_not] at b13; simpa using b13)))⟩ (by first | omega | (dsimp only; omega)) (.c .z (.c (.s16 (.s16 (.s16 (.s4 (.s (.s .z)))))) .n)) (fun _ h => h)
 refine FJ.sch [(3, true), (4, true), (5, true), (6, true), (7, true), (8, true), (9, true), (10, true), (11, true), (12, true), (13, true), (14, true), (15, true), (16, true), (17, true), (18, true), (19, true), (20, true), (21, true)] 0 #[true, true, true, true, true, true, true, true, true, true, true, true, true, true, true, true, true, true, true, true, true, true] (by rfl) (by kernel_rfl) ?_
 refine FJ.dskip rfl rfl rfl .z rfl rfl (by decide) rfl .z ?_
 refine FJ.dskip rfl rfl rfl (.s .z) rfl rfl (by decide) rfl .z ?_
 refine FJ.dskip rfl rfl rfl (.s (.s .z)) rfl rfl (by decide) rfl .z ?_
 refine FJ.dskip rfl rfl rfl (.s (.s (.s .z))) rfl rfl (by decide) rfl .z ?_
 refine FJ.dskip rfl rfl rfl (.s4 .z) rfl rfl (by decide) rfl .z ?_
 refine FJ.dskip rfl rfl rfl (.s4 (.s .z)) rfl rfl (by decide) rfl .z ?_
 refine FJ.dskip rfl rfl rfl (.s4 (.s (.s .z))) rfl rfl (by decide) rfl .z ?_
 refine FJ.dskip rfl rfl rfl (.s4 (.s (.s (.s .z)))) rfl rfl (by decide) rfl .z ?_
 refine FJ.dskip rfl rfl rfl (.s4 (.s4 .z)) rfl rfl (by decide) rfl .z ?_
 refine FJ.dskip rfl rfl rfl (.s4 (.s4 (.s .z))) rfl rfl (by decide) rfl .z ?_
 refine FJ.dskip rfl rfl rfl (.s4 (.s4 (.s (.s .z)))) rfl rfl (by decide) rfl .z ?_
 refine FJ.dskip rfl rfl rfl (.s4 (.s4 (.s (.s (.s .z))))) rfl rfl (by decide) rfl .z ?_
 refine FJ.dskip rfl rfl rfl (.s4 (.s4 (.s4 .z))) rfl rfl (by decide) rfl .z ?_
 refine FJ.dskip rfl rfl rfl (.s4 (.s4 (.s4 (.s .z)))) rfl rfl (by decide) rfl .z ?_
 refine FJ.dskip rfl rfl rfl (.s4 (.s4 (.s4 (.s (.s .z))))) rfl rfl (by decide) rfl .z ?_
 refine FJ.dskip rfl rfl rfl (.s4 (.s4 (.s4 (.s (.s (.s .z)))))) rfl rfl (by decide) rfl .z ?_
 refine FJ.dskip rfl rfl rfl (.s16 .z) rfl rfl (by decide) rfl .z ?_
 refine FJ.dskip rfl rfl rfl (.s16 (.s .z)) rfl rfl (by decide) rfl .z ?_
 refine FJ.dq rfl rfl rfl (by decide) rfl .z (q_pickF rfl (.t (.s16 (.s (.s .z)))) .c) (FJ.schN ?_)
 refine FJ.drawN (by kernel_rfl) ?_
 refine FJ.then_ ?_
 refine FJ.condF (.t .z) ?_
 refine FJ.skip (FJ.inBN (FJ.then_ (FJ.region (FJ.ql rfl (q_move rfl (.t (.s16 (.s16 (.s16 (.s (.s (.s .z)))))))) ?_))))
 refine FJ.ql rfl (q_add (c := ((k + 1 : Nat) : Int)) rfl (.t .z) .c (wr (by omega) (by omega) (by omega))) ?_
 refine FJ.er (.s16 (.s16 (.s16 (.s4 (.s .z))))) (FJ.ql rfl (q_assign rfl (.t .z)) (FJ.nil ?_))
 refine FJ.again (k + 1) ⟨by omega, entAt_s hallk hx6 (by first | exact entOk_z (by assumption) (by assumption) (by omega) | exact entOk_z (by assumption) (by assumption) (by omega))⟩ (by first | omega | (dsimp only; omega)) (.c .z (.c (.s16 (.s16 (.s16 (.s4 (.s (.s .z)))))) .n)) (fun _ h => h)
 refine FJ.exit (FJ.thenE (FJ.thenE (FJ.inB (FJ.then_ ?_))))
 refine FJ.seq (FJ.region (FJ.ql rfl (q_assign rfl .c) (FJ.nil (FJ.then_ ?_))))
 refine FJ.ret ?_
 refine FJ.doneS (res1 rfl .z) .n ?_
 exact ⟨by first | (rw [dirFault_2 (by assumption)]; done) | (rw [dirFault_0 (by assumption) (fun j hj => hallk j (by omega))]; done), rfl⟩

end Go.Proofs.Ytoaebcjjfojfeaa

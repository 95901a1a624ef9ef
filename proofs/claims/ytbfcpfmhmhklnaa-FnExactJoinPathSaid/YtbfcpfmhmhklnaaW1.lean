/- What is proved: contracts of functions, one a function. No condition. -/
import Derived.Test.YtbfcpfmhmhklnaaTypes
import Derived.Test.YtbfcpfmhmhklnaaBase1
namespace Go.Proofs.Ytbfcpfmhmhklnaa
open Go Go.RowKit
set_option linter.unusedVariables false
set_option linter.unusedSimpArgs false
set_option maxHeartbeats 1000000 in
set_option maxRecDepth 20000 in
theorem c_12 {w0 : World} {S0 : Bs} (s : ByteArray) (hz0 : s.size ≤ 140737488351232)  :
    Calls Try.prog 12 #[.string s] w0 (TriPost w0 S0 (fun r l => r = .int .i64 (nameFault s) ∧ l = [])) := by
 refine FJ.enter (N := 25) Try.func12 rfl rfl (by simp) [(0, .string s)] (by simp) (l0 := []) trivial ?_
 refine FJ.seq (FJ.region (FJ.ql rfl (q_assign rfl .c) (FJ.nil (FJ.then_ ?_))))
 refine FJ.seq (FJ.seq (FJ.region (FJ.ql rfl (q_move rfl (.t (.s .z))) (FJ.ql rfl (q_seql rfl (.t .z) .c) ?_))))
 refine FJ.nil (FJ.then_ ?_)
 refine FJ.condP (.t .z) (fun b1 => ?_) (fun b1 => ?_)
 refine FJ.seq (FJ.region (FJ.er (.s (.s .z)) (FJ.ql rfl (q_assign rfl .c) (FJ.nil ?_))))
 refine FJ.then_ (FJ.ret (FJ.thenR ?_))
 refine FJ.doneS (res1 rfl .z) .n ?_
 exact ⟨by first | (rw [nameFault_e (by assumption)]; done) | (rw [nameFault_2 (fun j b hj hb => hallk j b (by omega) hb) (by assumption) (by assumption)]; done) | (rw [nameFault_0 (fun j b hj hb => hallk j b (by omega) hb) (by assumption) (by assumption)]; done), rfl⟩
 refine FJ.skip (FJ.then_ (FJ.seq (FJ.seq (FJ.region ?_))))
 refine FJ.ql rfl (q_move rfl (.t (.s (.s (.s .z))))) (FJ.ql rfl (q_len_s rfl u_9 (.t .z)) (FJ.ql rfl (q_move rfl .c) (FJ.nil (FJ.then_ ?_))))
 refine FJ.block ?_
 refine FJ.loopi (γ := Nat) (fun k => [(8, .int .i64 (k : Int)), (7, .int .i64 (s.size : Int)), (0, .string s)]) (fun k => []) (fun k => k ≤ s.size ∧ ∀ j b, j < k → s.data.toList[j]? = some b → lowB b) (fun k => s.size - k) 0 ⟨Nat.zero_le _, all_zero (q := fun _ b => lowB b)⟩ (.c .z (.c (.s .z) (.c (.s4 (.s (.s .z))) .n))) (fun _ h => h) ?_
 rintro k ⟨hk, hallk⟩
 refine FJ.seq (FJ.region (FJ.ql rfl (q_lss rfl (.t .z) (.t (.s .z))) (FJ.nil (FJ.then_ ?_))))
 refine FJ.seq ?_
 refine FJ.condP (.t .z) (fun b2 => ?_) (fun b2 => ?_)
 refine FJ.skip (FJ.then_ (FJ.seq (FJ.block (FJ.seq ?_))))
 refine FJ.region (FJ.ql rfl (q_move rfl (.t (.s .z))) (FJ.ql rfl (q_assign rfl (.t .z)) (FJ.nil (FJ.then_ ?_))))
 refine FJ.seq (FJ.region (FJ.ql rfl (q_move rfl (.t (.s4 (.s .z)))) (FJ.ql rfl (q_move rfl (.t (.s .z))) ?_)))
 obtain ⟨b3, hb3⟩ := get_ex (xs := s.data.toList) (j := k) (by have := str_len s; omega)
 refine FJ.ql rfl (q_index_s rfl u_9 (.t (.s .z)) (.t .z) rfl hb3) (FJ.ql rfl (q_lss rfl (.t .z) .c) (FJ.ql rfl (q_move rfl (.t .z)) ?_))
 refine FJ.caseP .z (fun g4 => ?_) (fun g4 => ?_)
 refine FJ.skipl rfl rfl .z rfl rfl (by decide) rfl ?_
 refine FJ.skipl rfl rfl (.s .z) rfl rfl (by decide) rfl ?_
 refine FJ.skipl rfl rfl (.s (.s .z)) rfl rfl (by decide) rfl ?_
 refine FJ.skipl rfl rfl (.s (.s (.s .z))) rfl rfl (by decide) rfl ?_
 refine FJ.ql rfl (q_pickT rfl (.t (.s4 .z)) .c) (FJ.nil (FJ.then_ ?_))
 refine FJ.condT (.t .z) ?_
 refine FJ.seq (FJ.region (FJ.ql rfl (q_assign rfl .c) (FJ.nil (FJ.then_ ?_))))
 refine FJ.ret (FJ.inBR (FJ.thenR (FJ.thenR (FJ.inBR ?_))))
 refine FJ.thenR ?_
 refine FJ.doneS (res1 rfl .z) .n ?_
 exact ⟨by first | (rw [nameFault_e (by assumption)]; done) | (rw [nameFault_5 hb3 (fun h => by have := h.1; have := h.2; omega)]; done) | (rw [nameFault_2 (fun j b hj hb => hallk j b (by omega) hb) (by assumption) (by assumption)]; done) | (rw [nameFault_0 (fun j b hj hb => hallk j b (by omega) hb) (by assumption) (by assumption)]; done), rfl⟩
 refine FJ.q (goes_listg rfl rfl .z) rfl (by decide) rfl (q_move rfl (.t (.s4 (.s4 (.s (.s .z)))))) ?_
 refine FJ.q (goes_listg rfl rfl (.s .z)) rfl (by decide) rfl (q_move rfl (.t (.s4 (.s (.s .z))))) ?_
 refine FJ.q (goes_listg rfl rfl (.s (.s .z))) rfl (by decide) rfl (q_index_s rfl u_9 (.t (.s .z)) (.t .z) rfl hb3) ?_
 refine FJ.q (goes_listg rfl rfl (.s (.s (.s .z)))) rfl (by decide) rfl (q_gtr rfl (.t .z) .c) ?_
 refine FJ.ql rfl (q_pickF rfl (.t (.s4 .z)) (.t .z)) (FJ.nil (FJ.then_ ?_))
 refine FJ.condP (.t .z) (fun b5 => ?_) (fun b5 => ?_)
 refine FJ.seq (FJ.region (FJ.ql rfl (q_assign rfl .c) (FJ.nil (FJ.then_ ?_))))
 refine FJ.ret (FJ.inBR (FJ.thenR (FJ.thenR (FJ.inBR ?_))))
 refine FJ.thenR ?_
 refine FJ.doneS (res1 rfl .z) .n ?_
 exact ⟨by first | (rw [nameFault_e (by assumption)]; done) | (rw [nameFault_5 hb3 (fun h => by have := h.1; have := h.2; omega)]; done) | (rw [nameFault_2 (fun j b hj hb => hallk j b (by omega) hb) (by assumption) (by assumption)]; done) | (rw [nameFault_0 (fun j b hj hb => hallk j b (by omega) hb) (by assumption) (by assumption)]; done), rfl⟩
 refine FJ.skip (FJ.inBN (FJ.then_ (FJ.region ?_)))
 refine FJ.ql rfl (q_add (c := ((k + 1 : Nat) : Int)) rfl (.t (.s4 (.s4 (.s4 (.s .z))))) .c (wr (by omega) (by omega) (by omega))) ?_
 refine FJ.er (.s4 (.s4 (.s4 (.s (.s .z))))) (FJ.ql rfl (q_move rfl (.t .z)) (FJ.nil ?_))
 refine FJ.again (k + 1) ⟨by omega, all_succ (q := fun _ b => lowB b) hallk hb3 ⟨by omega, by omega⟩⟩ (by first | omega | (dsimp only; omega)) (.c .z (.c (.s4 (.s4 (.s4 (.s (.s (.s .z)))))) (.c (.s16 .z) .n))) (fun _ h => h)
 refine FJ.exit (FJ.thenE (FJ.thenE (FJ.inB (FJ.then_ ?_))))
 refine FJ.seq (FJ.seq (FJ.region (FJ.ql rfl (q_move rfl (.t (.s (.s (.s .z))))) (FJ.ql rfl (q_len_s rfl u_9 (.t .z)) ?_))))
 refine FJ.ql rfl (q_gtr rfl (.t .z) .c) (FJ.nil (FJ.then_ ?_))
 refine FJ.condP (.t .z) (fun b6 => ?_) (fun b6 => ?_)
 refine FJ.seq (FJ.region (FJ.ql rfl (q_assign rfl .c) (FJ.nil (FJ.then_ ?_))))
 refine FJ.ret (FJ.thenR ?_)
 refine FJ.doneS (res1 rfl .z) .n ?_
 exact ⟨by first | (rw [nameFault_e (by assumption)]; done) | (rw [nameFault_2 (fun j b hj hb => hallk j b (by omega) hb) (by assumption) (by assumption)]; done) | (rw [nameFault_0 (fun j b hj hb => hallk j b (by omega) hb) (by assumption) (by assumption)]; done), rfl⟩
 refine FJ.skip (FJ.then_ (FJ.seq (FJ.region (FJ.ql rfl (q_assign rfl .c) ?_))))
 refine FJ.nil (FJ.then_ (FJ.ret ?_))
 refine FJ.doneS (res1 rfl .z) .n ?_
 exact ⟨by first | (rw [nameFault_e (by assumption)]; done) | (rw [nameFault_2 (fun j b hj hb => hallk j b (by omega) hb) (by assumption) (by assumption)]; done) | (rw [nameFault_0 (fun j b hj hb => hallk j b (by omega) hb) (by assumption) (by assumption)]; done), rfl⟩

set_option maxHeartbeats 1000000 in
set_option maxRecDepth 20000 in
theorem c_14 {w0 : World} {S0 : Bs} (s : ByteArray) (hz0 : s.size ≤ 140737488351232)  :
    Calls Try.prog 14 #[.string s] w0 (TriPost w0 S0 (fun r l => r = .int .i64 (nameFault s) ∧ l = [])) := by
 refine FJ.enter (N := 25) Try.func14 rfl rfl (by simp) [(0, .string s)] (by simp) (l0 := []) trivial ?_
 refine FJ.seq (FJ.region (FJ.ql rfl (q_assign rfl .c) (FJ.nil (FJ.then_ ?_))))
 refine FJ.seq (FJ.seq (FJ.region (FJ.ql rfl (q_assign rfl .c) (FJ.nil ?_))))
 refine FJ.then_ (FJ.block ?_)
 refine FJ.loopi (γ := Nat) (fun k => [(3, .int .i64 (k : Int)), (0, .string s)]) (fun k => []) (fun k => k ≤ s.size ∧ ∀ j b, j < k → s.data.toList[j]? = some b → lowB b) (fun k => s.size - k) 0 ⟨Nat.zero_le _, all_zero (q := fun _ b => lowB b)⟩ (.c .z (.c (.s (.s .z)) .n)) (fun _ h => h) ?_
 rintro k ⟨hk, hallk⟩
 refine FJ.seq (FJ.seq (FJ.region (FJ.ql rfl (q_move rfl (.t .z)) (FJ.ql rfl (q_move rfl (.t (.s (.s .z)))) ?_))))
 refine FJ.ql rfl (q_len_s rfl u_9 (.t .z)) (FJ.ql rfl (q_lss rfl (.t (.s (.s .z))) (.t .z)) (FJ.nil (FJ.then_ ?_)))
 refine FJ.condP (.t .z) (fun b1 => ?_) (fun b1 => ?_)
 refine FJ.skip (FJ.then_ (FJ.seq (FJ.block (FJ.seq ?_))))
 refine FJ.region (FJ.ql rfl (q_move rfl (.t (.s4 (.s .z)))) (FJ.ql rfl (q_move rfl (.t (.s4 (.s .z)))) ?_))
 obtain ⟨b2, hb2⟩ := get_ex (xs := s.data.toList) (j := k) (by have := str_len s; omega)
 refine FJ.ql rfl (q_index_s rfl u_9 (.t (.s .z)) (.t .z) rfl hb2) (FJ.ql rfl (q_lss rfl (.t .z) .c) (FJ.ql rfl (q_move rfl (.t .z)) ?_))
 refine FJ.caseP .z (fun g3 => ?_) (fun g3 => ?_)
 refine FJ.skipl rfl rfl .z rfl rfl (by decide) rfl ?_
 refine FJ.skipl rfl rfl (.s .z) rfl rfl (by decide) rfl ?_
 refine FJ.skipl rfl rfl (.s (.s .z)) rfl rfl (by decide) rfl ?_
 refine FJ.skipl rfl rfl (.s (.s (.s .z))) rfl rfl (by decide) rfl ?_
 refine FJ.ql rfl (q_pickT rfl (.t (.s4 .z)) .c) (FJ.nil (FJ.then_ ?_))
 refine FJ.condT (.t .z) ?_
 refine FJ.seq (FJ.region (FJ.ql rfl (q_assign rfl .c) (FJ.nil (FJ.then_ ?_))))
 refine FJ.ret (FJ.inBR (FJ.thenR (FJ.thenR (FJ.inBR ?_))))
 refine FJ.thenR ?_
 refine FJ.doneS (res1 rfl .z) .n ?_
 exact ⟨by first | (rw [nameFault_e (by assumption)]; done) | (rw [nameFault_5 hb2 (fun h => by have := h.1; have := h.2; omega)]; done) | (rw [nameFault_2 (fun j b hj hb => hallk j b (by omega) hb) (by assumption) (by assumption)]; done) | (rw [nameFault_0 (fun j b hj hb => hallk j b (by omega) hb) (by assumption) (by assumption)]; done), rfl⟩
 refine FJ.q (goes_listg rfl rfl .z) rfl (by decide) rfl (q_move rfl (.t (.s4 (.s4 (.s (.s .z)))))) ?_
 refine FJ.q (goes_listg rfl rfl (.s .z)) rfl (by decide) rfl (q_move rfl (.t (.s4 (.s4 (.s (.s .z)))))) ?_
 refine FJ.q (goes_listg rfl rfl (.s (.s .z))) rfl (by decide) rfl (q_index_s rfl u_9 (.t (.s .z)) (.t .z) rfl hb2) ?_
 refine FJ.q (goes_listg rfl rfl (.s (.s (.s .z)))) rfl (by decide) rfl (q_gtr rfl (.t .z) .c) ?_
 refine FJ.ql rfl (q_pickF rfl (.t (.s4 .z)) (.t .z)) (FJ.nil (FJ.then_ ?_))
 refine FJ.condP (.t .z) (fun b4 => ?_) (fun b4 => ?_)
 refine FJ.seq (FJ.region (FJ.ql rfl (q_assign rfl .c) (FJ.nil (FJ.then_ ?_))))
 refine FJ.ret (FJ.inBR (FJ.thenR (FJ.thenR (FJ.inBR ?_))))
 refine FJ.thenR ?_
 refine FJ.doneS (res1 rfl .z) .n ?_
 exact ⟨by first | (rw [nameFault_e (by assumption)]; done) | (rw [nameFault_5 hb2 (fun h => by have := h.1; have := h.2; omega)]; done) | (rw [nameFault_2 (fun j b hj hb => hallk j b (by omega) hb) (by assumption) (by assumption)]; done) | (rw [nameFault_0 (fun j b hj hb => hallk j b (by omega) hb) (by assumption) (by assumption)]; done), rfl⟩
 refine FJ.skip (FJ.inBN (FJ.then_ (FJ.region (FJ.ql rfl (q_move rfl (.t (.s4 (.s4 (.s4 (.s (.s .z))))))) ?_))))
 refine FJ.ql rfl (q_add (c := ((k + 1 : Nat) : Int)) rfl (.t .z) .c (wr (by omega) (by omega) (by omega))) ?_
 refine FJ.er (.s16 .z) (FJ.ql rfl (q_assign rfl (.t .z)) (FJ.nil ?_))
 refine FJ.again (k + 1) ⟨by omega, all_succ (q := fun _ b => lowB b) hallk hb2 ⟨by omega, by omega⟩⟩ (by first | omega | (dsimp only; omega)) (.c .z (.c (.s16 (.s .z)) .n)) (fun _ h => h)
 refine FJ.exit (FJ.thenE (FJ.thenE (FJ.inB (FJ.then_ ?_))))
 refine FJ.seq (FJ.seq (FJ.region (FJ.ql rfl (q_move rfl (.t (.s4 (.s .z)))) (FJ.ql rfl (q_seql rfl (.t .z) .c) ?_))))
 refine FJ.nil (FJ.then_ ?_)
 refine FJ.condP (.t .z) (fun b5 => ?_) (fun b5 => ?_)
 refine FJ.seq (FJ.region (FJ.ql rfl (q_assign rfl .c) (FJ.nil (FJ.then_ ?_))))
 refine FJ.ret (FJ.thenR ?_)
 refine FJ.doneS (res1 rfl .z) .n ?_
 exact ⟨by first | (rw [nameFault_e (by assumption)]; done) | (rw [nameFault_2 (fun j b hj hb => hallk j b (by omega) hb) (by assumption) (by assumption)]; done) | (rw [nameFault_0 (fun j b hj hb => hallk j b (by omega) hb) (by assumption) (by assumption)]; done), rfl⟩
 refine FJ.skip (FJ.then_ (FJ.seq (FJ.seq (FJ.region ?_))))
 refine FJ.ql rfl (q_move rfl (.t (.s4 (.s (.s (.s .z)))))) (FJ.ql rfl (q_len_s rfl u_9 (.t .z)) (FJ.ql rfl (q_gtr rfl (.t .z) .c) (FJ.nil (FJ.then_ ?_))))
 refine FJ.condP (.t .z) (fun b6 => ?_) (fun b6 => ?_)
 refine FJ.seq (FJ.region (FJ.ql rfl (q_assign rfl .c) (FJ.nil (FJ.then_ ?_))))
 refine FJ.ret (FJ.thenR ?_)
 refine FJ.doneS (res1 rfl .z) .n ?_
 exact ⟨by first | (rw [nameFault_e (by assumption)]; done) | (rw [nameFault_2 (fun j b hj hb => hallk j b (by omega) hb) (by assumption) (by assumption)]; done) | (rw [nameFault_0 (fun j b hj hb => hallk j b (by omega) hb) (by assumption) (by assumption)]; done), rfl⟩
 refine FJ.skip (FJ.then_ (FJ.seq (FJ.region (FJ.ql rfl (q_assign rfl .c) ?_))))
 refine FJ.nil (FJ.then_ (FJ.ret ?_))
 refine FJ.doneS (res1 rfl .z) .n ?_
 exact ⟨by first | (rw [nameFault_e (by assumption)]; done) | (rw [nameFault_2 (fun j b hj hb => hallk j b (by omega) hb) (by assumption) (by assumption)]; done) | (rw [nameFault_0 (fun j b hj hb => hallk j b (by omega) hb) (by assumption) (by assumption)]; done), rfl⟩

end Go.Proofs.Ytbfcpfmhmhklnaa

/- What is proved: contracts of functions, one a function. No condition. -/
import Derived.Test.YtkmcpcahbfdohaaTypes
import Derived.Test.YtkmcpcahbfdohaaBase1
namespace Go.Proofs.Ytkmcpcahbfdohaa
open Go Go.RowKit
set_option linter.unusedVariables false
set_option linter.unusedSimpArgs false
set_option maxHeartbeats 1000000 in
set_option maxRecDepth 20000 in
theorem c_140 {w0 : World} {S0 : Bs} {x : (List Int)} {v0 : Value} (h0 : kSl_2.ro w0 (FF w0 S0) x [v0]) (n : Int) (hn0 : 0 ≤ n) (hn1 : n ≤ 1048576) :
    Calls Try.prog 140 #[v0, .int .i64 n] w0 (TriPost w0 S0 (fun r l => ∃ c : Int, r = .int .i64 c ∧ c ≤ n ∧ (0 ≤ c → (x.length : Int) ≤ n - c) ∧ l = [])) := by
 obtain ⟨A0, c0, rfl, hl0, hm0, hb0, he0⟩ := ro_form h0
 refine FJ.enter (N := 12) Try.func140 rfl rfl (by simp) [(0, .slice A0 x.length c0), (1, .int .i64 n)] (by simp) (l0 := []) trivial ?_
 refine FJ.seq (FJ.region (FJ.ql rfl (q_assign rfl .c) (FJ.nil (FJ.then_ ?_))))
 refine FJ.seq (FJ.region (FJ.ql rfl (q_move rfl (.t (.s (.s .z)))) (FJ.ql rfl (q_move rfl (.t (.s (.s .z)))) (FJ.ql rfl (q_len rfl u_40 (.t .z)) ?_))))
 refine FJ.ql rfl (q_sub (c := n - (x.length : Int)) rfl (.t (.s (.s .z))) (.t .z) (wr (by omega) (by omega) (by omega))) ?_
 refine FJ.er (.s4 (.s (.s .z))) (FJ.ql rfl (q_assign rfl (.t .z)) (FJ.nil (FJ.then_ (FJ.seq ?_))))
 refine FJ.seq (FJ.region (FJ.ql rfl (q_move rfl (.t .z)) (FJ.ql rfl (q_lss rfl (.t .z) .c) (FJ.nil ?_))))
 refine FJ.then_ ?_
 refine FJ.condP (.t .z) (fun b2 => ?_) (fun b2 => ?_)
 refine FJ.seq (FJ.region (FJ.er (.s4 (.s (.s (.s .z)))) (FJ.ql rfl (q_assign rfl .c) (FJ.nil ?_))))
 refine FJ.then_ (FJ.ret (FJ.thenR ?_))
 refine FJ.doneS (res1 rfl .z) .n ?_
 exact ⟨(-1), rfl, by omega, by omega, rfl⟩
 refine FJ.skip (FJ.then_ (FJ.seq (FJ.region (FJ.ql rfl (q_move rfl (.t (.s (.s .z)))) ?_))))
 refine FJ.er (.s4 (.s4 .z)) (FJ.ql rfl (q_assign rfl (.t .z)) (FJ.nil (FJ.then_ (FJ.ret ?_))))
 refine FJ.doneS (res1 rfl .z) .n ?_
 exact ⟨(n - (x.length : Int)), rfl, by omega, by omega, rfl⟩

set_option maxHeartbeats 1000000 in
set_option maxRecDepth 20000 in
theorem c_81 {w0 : World} {S0 : Bs} {x : (List (List Int))} {v0 : Value} (h0 : kSl_40.ro w0 (FF w0 S0) x [v0]) (n : Int) (hn0 : 0 ≤ n) (hn1 : n ≤ 1048576) :
    Calls Try.prog 81 #[v0, .int .i64 n] w0 (TriPost w0 S0 (fun r l => ∃ c : Int, r = .int .i64 c ∧ c ≤ n ∧ (0 ≤ c → ((x.length + sumF (fun x => x.length) x) : Int) ≤ n - c) ∧ l = [])) := by
 obtain ⟨A0, c0, rfl, hl0, hm0, hb0, he0⟩ := ro_form h0
 refine FJ.enter (N := 27) Try.func81 rfl rfl (by simp) [(0, .slice A0 x.length c0), (1, .int .i64 n)] (by simp) (l0 := []) trivial ?_
 refine FJ.seq (FJ.region (FJ.ql rfl (q_assign rfl .c) (FJ.nil (FJ.then_ ?_))))
 refine FJ.seq (FJ.region (FJ.ql rfl (q_move rfl (.t (.s (.s .z)))) (FJ.ql rfl (q_move rfl (.t (.s (.s .z)))) (FJ.ql rfl (q_len rfl u_22 (.t .z)) ?_))))
 refine FJ.ql rfl (q_sub (c := n - (x.length : Int)) rfl (.t (.s (.s .z))) (.t .z) (wr (by omega) (by omega) (by omega))) ?_
 refine FJ.er (.s4 (.s (.s .z))) (FJ.ql rfl (q_assign rfl (.t .z)) (FJ.nil (FJ.then_ (FJ.seq ?_))))
 refine FJ.seq (FJ.region (FJ.ql rfl (q_move rfl (.t .z)) (FJ.ql rfl (q_lss rfl (.t .z) .c) (FJ.nil ?_))))
 refine FJ.then_ ?_
 refine FJ.condP (.t .z) (fun b2 => ?_) (fun b2 => ?_)
 refine FJ.seq (FJ.region (FJ.er (.s4 (.s (.s (.s .z)))) (FJ.ql rfl (q_assign rfl .c) (FJ.nil ?_))))
 refine FJ.then_ (FJ.ret (FJ.thenR ?_))
 refine FJ.doneS (res1 rfl .z) .n ?_
 exact ⟨(-1), rfl, by omega, by omega, rfl⟩
 refine FJ.skip (FJ.then_ (FJ.seq (FJ.seq (FJ.region ?_))))
 refine FJ.ql rfl (q_assign rfl .c) (FJ.nil (FJ.then_ (FJ.block ?_)))
 refine FJ.loopi (γ := Nat × Int) (fun ⟨k, c⟩ => [(5, .int .i64 (k : Int)), (1, .int .i64 c), (0, .slice A0 x.length c0)]) (fun ⟨k, c⟩ => []) (fun ⟨k, c⟩ => k ≤ x.length ∧ 0 ≤ c ∧ (sumF (fun x => x.length) (x.take k) : Int) ≤ n - x.length - c) (fun ⟨k, c⟩ => x.length - k) (0, (n - (x.length : Int))) ⟨Nat.zero_le _, by omega, by simp only [List.take_zero, sumF]; omega⟩ (.c .z (.c (.s (.s (.s .z))) (.c (.s4 (.s4 (.s .z))) .n))) (fun _ h => h) ?_
 rintro ⟨k, c⟩ ⟨hk, hc, hw⟩
 refine FJ.seq (FJ.seq (FJ.region (FJ.ql rfl (q_move rfl (.t .z)) (FJ.ql rfl (q_move rfl (.t (.s (.s (.s .z))))) ?_))))
 refine FJ.ql rfl (q_len rfl u_22 (.t .z)) (FJ.ql rfl (q_lss rfl (.t (.s (.s .z))) (.t .z)) (FJ.nil (FJ.then_ ?_)))
 refine FJ.condP (.t .z) (fun b3 => ?_) (fun b3 => ?_)
 refine FJ.skip (FJ.then_ (FJ.seq (FJ.block (FJ.seq ?_))))
 refine FJ.region (FJ.ql rfl (q_move rfl (.t (.s4 (.s (.s .z))))) (FJ.ql rfl (q_move rfl (.t (.s4 (.s .z)))) ?_))
 obtain ⟨ad4, hAad4, hrad4⟩ := he0 (by omega)
 subst hAad4
 obtain ⟨x5, hx5⟩ := get_ex (xs := x) (j := k) (by omega)
 obtain ⟨ece6, hre6, hFe6, hce6⟩ := hrad4.elem hx5
 obtain ⟨ue6, rfl⟩ := sl_one hre6
 obtain ⟨Ae6, ce6, rfl, hle6, hme6, hbe6, hee6⟩ := ro_form hre6
 refine FJ.ql rfl (q_indexAddr (j := k) rfl u_22 sz_40 (.t (.s .z)) (.t .z) rfl (by omega)) ?_
 refine FJ.ql rfl (q_load rfl ag_40 (.t .z) (WS.el0 hFe6 hce6 rfl)) (FJ.ql rfl (q_move rfl (.t (.s4 (.s4 (.s .z))))) ?_)
 refine FJ.call (goes_list rfl) rfl (by decide) rfl (c_call rfl Try.func140 rfl rfl (args2 (.t (.s .z)) (.t .z))) .n (fun w1 S1 hs tr => c_140 (tr.ctx hre6) _ (by omega) (by omega)) ?_
 rintro _ _ ⟨c8, rfl, hc8, wc8, rfl⟩
 refine FJ.cat .n ?_
 refine FJ.er (.s4 (.s4 (.s (.s (.s .z))))) (FJ.ql rfl (q_assign rfl (.t .z)) (FJ.nil (FJ.then_ (FJ.seq ?_))))
 refine FJ.region (FJ.ql rfl (q_move rfl (.t .z)) (FJ.ql rfl (q_lss rfl (.t .z) .c) (FJ.nil (FJ.then_ ?_))))
 refine FJ.condP (.t .z) (fun b9 => ?_) (fun b9 => ?_)
 refine FJ.seq (FJ.region (FJ.ql rfl (q_assign rfl .c) (FJ.nil (FJ.then_ ?_))))
 refine FJ.ret (FJ.inBR (FJ.thenR (FJ.thenR (FJ.inBR ?_))))
 refine FJ.thenR ?_
 refine FJ.doneS (res1 rfl .z) .n ?_
 exact ⟨(-1), rfl, by omega, by omega, rfl⟩
 refine FJ.skip (FJ.inBN (FJ.then_ (FJ.region (FJ.ql rfl (q_move rfl (.t (.s4 (.s4 (.s4 (.s .z)))))) ?_))))
 refine FJ.ql rfl (q_add (c := ((k + 1 : Nat) : Int)) rfl (.t .z) .c (wr (by omega) (by omega) (by omega))) ?_
 refine FJ.er (.s4 (.s4 (.s4 (.s (.s (.s .z)))))) (FJ.ql rfl (q_assign rfl (.t .z)) (FJ.nil ?_))
 have hs := sumF_take (fun x => x.length) hx5; try simp only at hs
 refine FJ.again ((k + 1), c8) ⟨by omega, ⟨by omega, by rw [hs]; omega⟩⟩ (by first | omega | (dsimp only; omega)) (.c .z (.c (.s4 (.s .z)) (.c (.s16 .z) .n))) (fun _ h => h)
 refine FJ.exit (FJ.thenE (FJ.thenE (FJ.inB (FJ.then_ ?_))))
 refine FJ.seq (FJ.region (FJ.ql rfl (q_move rfl (.t (.s4 (.s .z)))) (FJ.ql rfl (q_assign rfl (.t .z)) (FJ.nil ?_))))
 refine FJ.then_ (FJ.ret ?_)
 refine FJ.doneS (res1 rfl .z) .n ?_
 exact ⟨c, rfl, by omega, by rw [sumF_all _ (by omega)] at hw; omega, rfl⟩

set_option maxHeartbeats 1000000 in
set_option maxRecDepth 20000 in
theorem c_141 {w0 : World} {S0 : Bs} {x : DPut} {cs0 : List Value} (h0 : kT_152.ro w0 (FF w0 S0) x cs0) (n : Int) (hn0 : 0 ≤ n) (hn1 : n ≤ 1048576) :
    Calls Try.prog 141 #[.agg cs0.toArray, .int .i64 n] w0 (TriPost w0 S0 (fun r l => ∃ c : Int, r = .int .i64 c ∧ c ≤ n ∧ (0 ≤ c → ((wt_DPut x) : Int) ≤ n - c) ∧ l = [])) := by
 obtain ⟨u0_1, rfl, h0_1⟩ := kT_152_ro h0
 obtain ⟨A0_1, c0_1, rfl, hl0_1, hm0_1, hb0_1, he0_1⟩ := ro_form h0_1
 refine FJ.enter (N := 12) Try.func141 rfl rfl (by simp) [(0, .agg #[.int .i64 x.at_, .slice A0_1 x.words.length c0_1]), (1, .int .i64 n)] (by simp) (l0 := []) trivial ?_
 refine FJ.seq (FJ.region ?_)
 refine FJ.e (goes_list rfl) rfl (by decide) rfl (e_box (cs := [.int .i64 x.at_, .slice A0_1 x.words.length c0_1]) (n := 2) rfl (.t .z) rfl rfl) ?_
 rintro _ _ ⟨g2, rfl, rfl⟩
 refine FJ.ql rfl (q_assign rfl .c) (FJ.nil (FJ.then_ (FJ.seq (FJ.region ?_))))
 refine FJ.ql rfl (q_fieldAddr rfl (.t (.s .z)) (fun _ => fa_152_1 _ _)) (FJ.ql rfl (q_load rfl ag_40 (.t .z) (WS.row .z rfl)) (FJ.ql rfl (q_move rfl (.t (.s4 (.s .z)))) ?_))
 refine FJ.call (goes_list rfl) rfl (by decide) rfl (c_call rfl Try.func140 rfl rfl (args2 (.t (.s .z)) (.t .z))) .n (fun w1 S1 hs tr => c_140 (tr.ctx h0_1) _ (by omega) (by omega)) ?_
 rintro _ _ ⟨c3, rfl, hc3, wc3, rfl⟩
 refine FJ.cat .n ?_
 refine FJ.er (.s4 (.s (.s (.s .z)))) (FJ.ql rfl (q_assign rfl (.t .z)) (FJ.nil (FJ.then_ (FJ.seq ?_))))
 refine FJ.seq (FJ.region (FJ.ql rfl (q_move rfl (.t .z)) (FJ.ql rfl (q_lss rfl (.t .z) .c) (FJ.nil ?_))))
 refine FJ.then_ ?_
 refine FJ.condP (.t .z) (fun b4 => ?_) (fun b4 => ?_)
 refine FJ.seq (FJ.region (FJ.er (.s4 (.s (.s (.s .z)))) (FJ.ql rfl (q_assign rfl .c) (FJ.nil ?_))))
 refine FJ.then_ (FJ.ret (FJ.thenR ?_))
 refine FJ.doneS (res1 rfl .z) .n ?_
 exact ⟨(-1), rfl, by omega, by simp only [wt_DPut]; omega, rfl⟩
 refine FJ.skip (FJ.then_ (FJ.seq (FJ.region (FJ.ql rfl (q_move rfl (.t (.s (.s .z)))) ?_))))
 refine FJ.er (.s4 (.s4 .z)) (FJ.ql rfl (q_assign rfl (.t .z)) (FJ.nil (FJ.then_ (FJ.ret ?_))))
 refine FJ.doneS (res1 rfl .z) .n ?_
 exact ⟨c3, rfl, by omega, by simp only [wt_DPut]; omega, rfl⟩

set_option maxHeartbeats 1000000 in
set_option maxRecDepth 20000 in
theorem c_82 {w0 : World} {S0 : Bs} {x : (List DPut)} {v0 : Value} (h0 : kSl_152.ro w0 (FF w0 S0) x [v0]) (n : Int) (hn0 : 0 ≤ n) (hn1 : n ≤ 1048576) :
    Calls Try.prog 82 #[v0, .int .i64 n] w0 (TriPost w0 S0 (fun r l => ∃ c : Int, r = .int .i64 c ∧ c ≤ n ∧ (0 ≤ c → ((x.length + sumF wt_DPut x) : Int) ≤ n - c) ∧ l = [])) := by
 obtain ⟨A0, c0, rfl, hl0, hm0, hb0, he0⟩ := ro_form h0
 refine FJ.enter (N := 27) Try.func82 rfl rfl (by simp) [(0, .slice A0 x.length c0), (1, .int .i64 n)] (by simp) (l0 := []) trivial ?_
 refine FJ.seq (FJ.region (FJ.ql rfl (q_assign rfl .c) (FJ.nil (FJ.then_ ?_))))
 refine FJ.seq (FJ.region (FJ.ql rfl (q_move rfl (.t (.s (.s .z)))) (FJ.ql rfl (q_move rfl (.t (.s (.s .z)))) (FJ.ql rfl (q_len rfl u_32 (.t .z)) ?_))))
 refine FJ.ql rfl (q_sub (c := n - (x.length : Int)) rfl (.t (.s (.s .z))) (.t .z) (wr (by omega) (by omega) (by omega))) ?_
 refine FJ.er (.s4 (.s (.s .z))) (FJ.ql rfl (q_assign rfl (.t .z)) (FJ.nil (FJ.then_ (FJ.seq ?_))))
 refine FJ.seq (FJ.region (FJ.ql rfl (q_move rfl (.t .z)) (FJ.ql rfl (q_lss rfl (.t .z) .c) (FJ.nil ?_))))
 refine FJ.then_ ?_
 refine FJ.condP (.t .z) (fun b2 => ?_) (fun b2 => ?_)
 refine FJ.seq (FJ.region (FJ.er (.s4 (.s (.s (.s .z)))) (FJ.ql rfl (q_assign rfl .c) (FJ.nil ?_))))
 refine FJ.then_ (FJ.ret (FJ.thenR ?_))
 refine FJ.doneS (res1 rfl .z) .n ?_
 exact ⟨(-1), rfl, by omega, by omega, rfl⟩
 refine FJ.skip (FJ.then_ (FJ.seq (FJ.seq (FJ.region ?_))))
 refine FJ.ql rfl (q_assign rfl .c) (FJ.nil (FJ.then_ (FJ.block ?_)))
 refine FJ.loopi (γ := Nat × Int) (fun ⟨k, c⟩ => [(5, .int .i64 (k : Int)), (1, .int .i64 c), (0, .slice A0 x.length c0)]) (fun ⟨k, c⟩ => []) (fun ⟨k, c⟩ => k ≤ x.length ∧ 0 ≤ c ∧ (sumF wt_DPut (x.take k) : Int) ≤ n - x.length - c) (fun ⟨k, c⟩ => x.length - k) (0, (n - (x.length : Int))) ⟨Nat.zero_le _, by omega, by simp only [List.take_zero, sumF]; omega⟩ (.c .z (.c (.s (.s (.s .z))) (.c (.s4 (.s4 (.s .z))) .n))) (fun _ h => h) ?_
 rintro ⟨k, c⟩ ⟨hk, hc, hw⟩
 refine FJ.seq (FJ.seq (FJ.region (FJ.ql rfl (q_move rfl (.t .z)) (FJ.ql rfl (q_move rfl (.t (.s (.s (.s .z))))) ?_))))
 refine FJ.ql rfl (q_len rfl u_32 (.t .z)) (FJ.ql rfl (q_lss rfl (.t (.s (.s .z))) (.t .z)) (FJ.nil (FJ.then_ ?_)))
 refine FJ.condP (.t .z) (fun b3 => ?_) (fun b3 => ?_)
 refine FJ.skip (FJ.then_ (FJ.seq (FJ.block (FJ.seq ?_))))
 refine FJ.region (FJ.ql rfl (q_move rfl (.t (.s4 (.s (.s .z))))) (FJ.ql rfl (q_move rfl (.t (.s4 (.s .z)))) ?_))
 obtain ⟨ad4, hAad4, hrad4⟩ := he0 (by omega)
 subst hAad4
 obtain ⟨x5, hx5⟩ := get_ex (xs := x) (j := k) (by omega)
 obtain ⟨ece6, hre6, hFe6, hce6⟩ := hrad4.elem hx5
 obtain ⟨ue6_1, rfl, he6_1⟩ := kT_152_ro hre6
 obtain ⟨Ae6_1, ce6_1, rfl, hle6_1, hme6_1, hbe6_1, hee6_1⟩ := ro_form he6_1
 refine FJ.ql rfl (q_indexAddr (j := k) rfl u_32 sz_152 (.t (.s .z)) (.t .z) rfl (by omega)) ?_
 refine FJ.ql rfl (q_loadA (cs := [.int .i64 x5.at_, .slice Ae6_1 x5.words.length ce6_1]) rfl ag_152 sz_152 (.t .z) (WS.els hFe6 hce6)) (FJ.ql rfl (q_move rfl (.t (.s4 (.s4 (.s .z))))) ?_)
 refine FJ.call (goes_list rfl) rfl (by decide) rfl (c_call rfl Try.func141 rfl rfl (args2 (.t (.s .z)) (.t .z))) .n (fun w1 S1 hs tr => c_141 (tr.ctx hre6) _ (by omega) (by omega)) ?_
 rintro _ _ ⟨c8, rfl, hc8, wc8, rfl⟩
 refine FJ.cat .n ?_
 refine FJ.er (.s4 (.s4 (.s (.s (.s .z))))) (FJ.ql rfl (q_assign rfl (.t .z)) (FJ.nil (FJ.then_ (FJ.seq ?_))))
 refine FJ.region (FJ.ql rfl (q_move rfl (.t .z)) (FJ.ql rfl (q_lss rfl (.t .z) .c) (FJ.nil (FJ.then_ ?_))))
 refine FJ.condP (.t .z) (fun b9 => ?_) (fun b9 => ?_)
 refine FJ.seq (FJ.region (FJ.ql rfl (q_assign rfl .c) (FJ.nil (FJ.then_ ?_))))
 refine FJ.ret (FJ.inBR (FJ.thenR (FJ.thenR (FJ.inBR ?_))))
 refine FJ.thenR ?_
 refine FJ.doneS (res1 rfl .z) .n ?_
 exact ⟨(-1), rfl, by omega, by omega, rfl⟩
 refine FJ.skip (FJ.inBN (FJ.then_ (FJ.region (FJ.ql rfl (q_move rfl (.t (.s4 (.s4 (.s4 (.s .z)))))) ?_))))
 refine FJ.ql rfl (q_add (c := ((k + 1 : Nat) : Int)) rfl (.t .z) .c (wr (by omega) (by omega) (by omega))) ?_
 refine FJ.er (.s4 (.s4 (.s4 (.s (.s (.s .z)))))) (FJ.ql rfl (q_assign rfl (.t .z)) (FJ.nil ?_))
 have hs := sumF_take wt_DPut hx5; try simp only at hs
 refine FJ.again ((k + 1), c8) ⟨by omega, ⟨by omega, by rw [hs]; omega⟩⟩ (by first | omega | (dsimp only; omega)) (.c .z (.c (.s4 (.s .z)) (.c (.s16 .z) .n))) (fun _ h => h)
 refine FJ.exit (FJ.thenE (FJ.thenE (FJ.inB (FJ.then_ ?_))))
 refine FJ.seq (FJ.region (FJ.ql rfl (q_move rfl (.t (.s4 (.s .z)))) (FJ.ql rfl (q_assign rfl (.t .z)) (FJ.nil ?_))))
 refine FJ.then_ (FJ.ret ?_)
 refine FJ.doneS (res1 rfl .z) .n ?_
 exact ⟨c, rfl, by omega, by rw [sumF_all _ (by omega)] at hw; omega, rfl⟩

set_option maxHeartbeats 1000000 in
set_option maxRecDepth 20000 in
theorem c_25 {w0 : World} {S0 : Bs} {x : DDisk} {cs0 : List Value} (h0 : kT_34.ro w0 (FF w0 S0) x cs0) (n : Int) (hn0 : 0 ≤ n) (hn1 : n ≤ 1048576) :
    Calls Try.prog 25 #[.agg cs0.toArray, .int .i64 n] w0 (TriPost w0 S0 (fun r l => ∃ c : Int, r = .int .i64 c ∧ c ≤ n ∧ (0 ≤ c → ((wt_DDisk x) : Int) ≤ n - c) ∧ l = [])) := by
 obtain ⟨u0_0, u0_1, rfl, h0_0, h0_1⟩ := kT_34_ro h0
 obtain ⟨A0_0, c0_0, rfl, hl0_0, hm0_0, hb0_0, he0_0⟩ := ro_form h0_0
 obtain ⟨A0_1, c0_1, rfl, hl0_1, hm0_1, hb0_1, he0_1⟩ := ro_form h0_1
 refine FJ.enter (N := 18) Try.func25 rfl rfl (by simp) [(0, .agg #[.slice A0_0 x.blocks.length c0_0, .slice A0_1 x.cache.length c0_1]), (1, .int .i64 n)] (by simp) (l0 := []) trivial ?_
 refine FJ.seq (FJ.region ?_)
 refine FJ.e (goes_list rfl) rfl (by decide) rfl (e_box (cs := [.slice A0_0 x.blocks.length c0_0, .slice A0_1 x.cache.length c0_1]) (n := 2) rfl (.t .z) rfl rfl) ?_
 rintro _ _ ⟨g3, rfl, rfl⟩
 refine FJ.ql rfl (q_assign rfl .c) (FJ.nil (FJ.then_ (FJ.seq (FJ.region ?_))))
 refine FJ.ql rfl (q_fieldAddr rfl (.t (.s .z)) (fun _ => fa_34_0 _ _)) (FJ.ql rfl (q_load rfl ag_22 (.t .z) (WS.row .z rfl)) (FJ.ql rfl (q_move rfl (.t (.s4 (.s .z)))) ?_))
 refine FJ.call (goes_list rfl) rfl (by decide) rfl (c_call rfl Try.func81 rfl rfl (args2 (.t (.s .z)) (.t .z))) .n (fun w1 S1 hs tr => c_81 (tr.ctx h0_0) _ (by omega) (by omega)) ?_
 rintro _ _ ⟨c4, rfl, hc4, wc4, rfl⟩
 refine FJ.cat .n ?_
 refine FJ.er (.s4 (.s (.s (.s .z)))) (FJ.ql rfl (q_assign rfl (.t .z)) (FJ.nil (FJ.then_ (FJ.seq ?_))))
 refine FJ.seq (FJ.region (FJ.ql rfl (q_move rfl (.t .z)) (FJ.ql rfl (q_lss rfl (.t .z) .c) (FJ.nil ?_))))
 refine FJ.then_ ?_
 refine FJ.condP (.t .z) (fun b5 => ?_) (fun b5 => ?_)
 refine FJ.seq (FJ.region (FJ.er (.s4 (.s (.s (.s .z)))) (FJ.ql rfl (q_assign rfl .c) (FJ.nil ?_))))
 refine FJ.then_ (FJ.ret (FJ.thenR ?_))
 refine FJ.doneS (res1 rfl .z) .n ?_
 exact ⟨(-1), rfl, by omega, by simp only [wt_DDisk]; omega, rfl⟩
 refine FJ.skip (FJ.then_ (FJ.seq (FJ.region (FJ.ql rfl (q_fieldAddr rfl (.t (.s4 (.s4 .z))) (fun _ => fa_34_1 _ _)) ?_))))
 refine FJ.ql rfl (q_load rfl ag_32 (.t .z) (WS.row .z rfl)) (FJ.ql rfl (q_move rfl (.t (.s4 .z))) ?_)
 refine FJ.call (goes_list rfl) rfl (by decide) rfl (c_call rfl Try.func82 rfl rfl (args2 (.t (.s .z)) (.t .z))) .n (fun w1 S1 hs tr => c_82 (tr.ctx h0_1) _ (by omega) (by omega)) ?_
 rintro _ _ ⟨c6, rfl, hc6, wc6, rfl⟩
 refine FJ.cat .n ?_
 refine FJ.er (.s4 (.s (.s .z))) (FJ.ql rfl (q_assign rfl (.t .z)) (FJ.nil (FJ.then_ (FJ.seq ?_))))
 refine FJ.seq (FJ.region (FJ.ql rfl (q_move rfl (.t .z)) (FJ.ql rfl (q_lss rfl (.t .z) .c) (FJ.nil ?_))))
 refine FJ.then_ ?_
 refine FJ.condP (.t .z) (fun b7 => ?_) (fun b7 => ?_)
 refine FJ.seq (FJ.region (FJ.er (.s4 (.s4 (.s4 (.s .z)))) (FJ.ql rfl (q_assign rfl .c) (FJ.nil ?_))))
 refine FJ.then_ (FJ.ret (FJ.thenR ?_))
 refine FJ.doneS (res1 rfl .z) .n ?_
 exact ⟨(-1), rfl, by omega, by simp only [wt_DDisk]; omega, rfl⟩
 refine FJ.skip (FJ.then_ (FJ.seq (FJ.region (FJ.ql rfl (q_move rfl (.t (.s (.s .z)))) ?_))))
 refine FJ.er (.s4 (.s4 (.s4 (.s (.s .z))))) (FJ.ql rfl (q_assign rfl (.t .z)) (FJ.nil (FJ.then_ (FJ.ret ?_))))
 refine FJ.doneS (res1 rfl .z) .n ?_
 exact ⟨c6, rfl, by omega, by simp only [wt_DDisk]; omega, rfl⟩

set_option maxHeartbeats 1000000 in
set_option maxRecDepth 20000 in
theorem c_57 {w0 : World} {S0 : Bs} {x : (List Int)} {v0 : Value} (h0 : kSl_2.ro w0 (FF w0 S0) x [v0])  :
    Calls Try.prog 57 #[v0] w0 (TriPost w0 S0 (fun r l => l = [ownA kSl_2 x [r]])) := by
 obtain ⟨A0, c0, rfl, hl0, hm0, hb0, he0⟩ := ro_form h0
 refine FJ.enter (N := 22) Try.func57 rfl rfl (by simp) [(0, .slice A0 x.length c0)] (by simp) (l0 := []) trivial ?_
 refine FJ.seq (FJ.region (FJ.ql rfl (q_assign rfl .c) (FJ.nil (FJ.then_ ?_))))
 refine FJ.seq (FJ.region (FJ.ql rfl (q_move rfl (.t (.s .z))) (FJ.ql rfl (q_len rfl u_40 (.t .z)) ?_)))
 refine FJ.e (goes_list rfl) rfl (by decide) rfl (e_makeSlice (n := x.length) (x0 := (0 : Int)) rfl u_40 inf_2 rfl (fun _ _ => ⟨rfl, trivial⟩) (.t .z) (.t .z) (by omega) (by omega)) ?_
 rintro _ _ rfl
 refine FJ.know (WS.oform .z) ?_
 rintro ⟨Ao3, co3, rfl, hlo3, hmo3, hbo3⟩
 refine FJ.ql rfl (q_assign rfl (.t .z)) (FJ.nil (FJ.then_ (FJ.seq (FJ.seq ?_))))
 refine FJ.region (FJ.ql rfl (q_assign rfl .c) (FJ.nil (FJ.then_ (FJ.block ?_))))
 refine FJ.ceq .z (fillC_zero x (0 : Int)) ?_
 refine FJ.loopi (γ := Nat) (fun k => [(4, .int .i64 (k : Int)), (3, .slice Ao3 (List.replicate x.length (0 : Int)).length co3), (2, .slice none 0 0), (0, .slice A0 x.length c0)]) (fun k => [ownA kSl_2 (fillC x (0 : Int) k) [.slice Ao3 (List.replicate x.length (0 : Int)).length co3]]) (fun k => k ≤ x.length) (fun k => x.length - k) 0 (Nat.zero_le _) (.c .z (.c (.s .z) (.c (.s4 (.s .z)) (.c (.s4 (.s (.s .z))) .n)))) (fun _ h => h.sel (.c .z .n)) ?_
 rintro k hk
 refine FJ.seq (FJ.seq (FJ.region (FJ.ql rfl (q_move rfl (.t .z)) (FJ.ql rfl (q_move rfl (.t (.s4 .z))) ?_))))
 refine FJ.ql rfl (q_len rfl u_40 (.t .z)) (FJ.ql rfl (q_lss rfl (.t (.s (.s .z))) (.t .z)) (FJ.nil (FJ.then_ ?_)))
 refine FJ.condP (.t .z) (fun b4 => ?_) (fun b4 => ?_)
 refine FJ.skip (FJ.then_ (FJ.seq (FJ.block (FJ.region ?_))))
 refine FJ.ql rfl (q_move rfl (.t (.s4 (.s .z)))) (FJ.ql rfl (q_move rfl (.t (.s4 (.s .z)))) (FJ.ql rfl (q_move rfl (.t (.s4 (.s4 (.s .z))))) (FJ.ql rfl (q_move rfl (.t (.s4 (.s (.s (.s .z)))))) ?_)))
 obtain ⟨ad5, hAad5, hrad5⟩ := he0 (by omega)
 subst hAad5
 obtain ⟨x6, hx6⟩ := get_ex (xs := x) (j := k) (by first | omega | (rw [fillC_len (by omega)]; omega) | (rw [List.length_replicate]; omega))
 obtain ⟨ece7, hre7, hFe7, hce7⟩ := hrad5.elem hx6
 obtain ⟨rfl, se7⟩ := hre7
 refine FJ.ql rfl (q_indexAddr (j := k) rfl u_40 sz_2 (.t (.s .z)) (.t .z) rfl (by first | omega | (rw [fillC_len (by omega)]; omega) | (rw [List.length_replicate]; omega))) ?_
 refine FJ.ql rfl (q_load rfl ag_2 (.t .z) (WS.el0 hFe7 hce7 rfl)) ?_
 refine FJ.know (WS.oad .z (by rw [fillC_len (by omega)]; omega)) ?_
 rintro ⟨ad8, rfl⟩
 refine FJ.ql rfl (q_indexAddr (j := k) rfl u_40 sz_2 (.t (.s4 (.s .z))) (.t (.s4 .z)) rfl (by first | omega | (rw [fillC_len (by omega)]; omega) | (rw [List.length_replicate]; omega))) ?_
 refine FJ.add (c := ownA (kint .i64) x6 [.int .i64 x6]) (fun _ _ => ⟨rfl, trivial⟩) ?_
 refine FJ.es (goes_list rfl) rfl (es_set (j := k) rfl sz_2 (.t .z) (.t (.s .z)) rfl (.c (.s .z) (.c .z .n)) (by first | omega | (rw [fillC_len (by omega)]; omega) | (rw [List.length_replicate]; omega))) ?_
 refine FJ.ceq .z (fillC_set hx6) ?_
 refine FJ.nil (FJ.inBN (FJ.then_ (FJ.region (FJ.ql rfl (q_move rfl (.t (.s4 (.s4 (.s (.s (.s .z))))))) ?_))))
 refine FJ.ql rfl (q_add (c := ((k + 1 : Nat) : Int)) rfl (.t .z) .c (wr (by omega) (by omega) (by omega))) ?_
 refine FJ.er (.s4 (.s4 (.s4 (.s .z)))) (FJ.ql rfl (q_assign rfl (.t .z)) (FJ.nil ?_))
 refine FJ.again (k + 1) (by omega) (by first | omega | (dsimp only; omega)) (.c .z (.c (.s4 (.s4 (.s4 (.s (.s .z))))) (.c (.s4 (.s4 (.s4 (.s (.s (.s .z)))))) (.c (.s16 .z) .n)))) (fun _ h => h.sel (.c .z .n))
 refine FJ.exit (FJ.thenE (FJ.thenE (FJ.inB (FJ.then_ ?_))))
 refine FJ.seq (FJ.region (FJ.ql rfl (q_move rfl (.t (.s4 (.s .z)))) (FJ.er (.s4 (.s (.s (.s .z)))) (FJ.ql rfl (q_assign rfl (.t .z)) ?_))))
 refine FJ.nil (FJ.then_ (FJ.ret ?_))
 refine FJ.ceq .z (fillC_all (by omega)) ?_
 refine FJ.doneS (res1 rfl .z) (.c .z .n) ?_
 rfl

set_option maxHeartbeats 1000000 in
set_option maxRecDepth 20000 in
theorem c_84 {w0 : World} {S0 : Bs} {x : (List (List Int))} {v0 : Value} (h0 : kSl_40.ro w0 (FF w0 S0) x [v0])  :
    Calls Try.prog 84 #[v0] w0 (TriPost w0 S0 (fun r l => l = [ownA kSl_40 x [r]])) := by
 obtain ⟨A0, c0, rfl, hl0, hm0, hb0, he0⟩ := ro_form h0
 refine FJ.enter (N := 23) Try.func84 rfl rfl (by simp) [(0, .slice A0 x.length c0)] (by simp) (l0 := []) trivial ?_
 refine FJ.seq (FJ.region (FJ.ql rfl (q_assign rfl .c) (FJ.nil (FJ.then_ ?_))))
 refine FJ.seq (FJ.region (FJ.ql rfl (q_move rfl (.t (.s .z))) (FJ.ql rfl (q_len rfl u_22 (.t .z)) ?_)))
 refine FJ.e (goes_list rfl) rfl (by decide) rfl (e_makeSlice (n := x.length) (x0 := ([] : (List Int))) rfl u_22 inf_40 rfl (fun w S => own_nil w S none) (.t .z) (.t .z) (by omega) (by omega)) ?_
 rintro _ _ rfl
 refine FJ.know (WS.oform .z) ?_
 rintro ⟨Ao3, co3, rfl, hlo3, hmo3, hbo3⟩
 refine FJ.ql rfl (q_assign rfl (.t .z)) (FJ.nil (FJ.then_ (FJ.seq (FJ.seq ?_))))
 refine FJ.region (FJ.ql rfl (q_assign rfl .c) (FJ.nil (FJ.then_ (FJ.block ?_))))
 refine FJ.ceq .z (fillC_zero x ([] : (List Int))) ?_
 refine FJ.loopi (γ := Nat) (fun k => [(4, .int .i64 (k : Int)), (3, .slice Ao3 (List.replicate x.length ([] : (List Int))).length co3), (2, .slice none 0 0), (0, .slice A0 x.length c0)]) (fun k => [ownA kSl_40 (fillC x ([] : (List Int)) k) [.slice Ao3 (List.replicate x.length ([] : (List Int))).length co3]]) (fun k => k ≤ x.length) (fun k => x.length - k) 0 (Nat.zero_le _) (.c .z (.c (.s .z) (.c (.s4 (.s .z)) (.c (.s4 (.s (.s .z))) .n)))) (fun _ h => h.sel (.c .z .n)) ?_
 rintro k hk
 refine FJ.seq (FJ.seq (FJ.region (FJ.ql rfl (q_move rfl (.t .z)) (FJ.ql rfl (q_move rfl (.t (.s4 .z))) ?_))))
 refine FJ.ql rfl (q_len rfl u_22 (.t .z)) (FJ.ql rfl (q_lss rfl (.t (.s (.s .z))) (.t .z)) (FJ.nil (FJ.then_ ?_)))
 refine FJ.condP (.t .z) (fun b4 => ?_) (fun b4 => ?_)
 refine FJ.skip (FJ.then_ (FJ.seq (FJ.block (FJ.region ?_))))
 refine FJ.ql rfl (q_move rfl (.t (.s4 (.s .z)))) (FJ.ql rfl (q_move rfl (.t (.s4 (.s .z)))) (FJ.ql rfl (q_move rfl (.t (.s4 (.s4 (.s .z))))) (FJ.ql rfl (q_move rfl (.t (.s4 (.s (.s (.s .z)))))) ?_)))
 obtain ⟨ad5, hAad5, hrad5⟩ := he0 (by omega)
 subst hAad5
 obtain ⟨x6, hx6⟩ := get_ex (xs := x) (j := k) (by first | omega | (rw [fillC_len (by omega)]; omega) | (rw [List.length_replicate]; omega))
 obtain ⟨ece7, hre7, hFe7, hce7⟩ := hrad5.elem hx6
 obtain ⟨ue7, rfl⟩ := sl_one hre7
 obtain ⟨Ae7, ce7, rfl, hle7, hme7, hbe7, hee7⟩ := ro_form hre7
 refine FJ.ql rfl (q_indexAddr (j := k) rfl u_22 sz_40 (.t (.s .z)) (.t .z) rfl (by first | omega | (rw [fillC_len (by omega)]; omega) | (rw [List.length_replicate]; omega))) ?_
 refine FJ.ql rfl (q_load rfl ag_40 (.t .z) (WS.el0 hFe7 hce7 rfl)) ?_
 refine FJ.call (goes_list rfl) rfl (by decide) rfl (c_call rfl Try.func57 rfl rfl (args1 (.t .z))) .n (fun w1 S1 hs tr => c_57 (tr.ctx hre7)) ?_
 rintro _ _ rfl
 refine FJ.cat (.c .n) ?_
 refine FJ.know (WS.oform .z) ?_
 rintro ⟨Ao10, co10, rfl, hlo10, hmo10, hbo10⟩
 refine FJ.know (WS.oad (.s .z) (by rw [fillC_len (by omega)]; omega)) ?_
 rintro ⟨ad11, rfl⟩
 refine FJ.ql rfl (q_indexAddr (j := k) rfl u_22 sz_40 (.t (.s4 (.s (.s .z)))) (.t (.s4 (.s .z))) rfl (by first | omega | (rw [fillC_len (by omega)]; omega) | (rw [List.length_replicate]; omega))) ?_
 refine FJ.es (goes_list rfl) rfl (es_set (j := k) rfl sz_40 (.t .z) (.t (.s .z)) rfl (.c (.s .z) (.c .z .n)) (by first | omega | (rw [fillC_len (by omega)]; omega) | (rw [List.length_replicate]; omega))) ?_
 refine FJ.ceq .z (fillC_set hx6) ?_
 refine FJ.nil (FJ.inBN (FJ.then_ (FJ.region (FJ.ql rfl (q_move rfl (.t (.s4 (.s4 (.s4 .z))))) ?_))))
 refine FJ.ql rfl (q_add (c := ((k + 1 : Nat) : Int)) rfl (.t .z) .c (wr (by omega) (by omega) (by omega))) ?_
 refine FJ.er (.s4 (.s4 (.s4 (.s (.s .z))))) (FJ.ql rfl (q_assign rfl (.t .z)) (FJ.nil ?_))
 refine FJ.again (k + 1) (by omega) (by first | omega | (dsimp only; omega)) (.c .z (.c (.s4 (.s4 (.s4 (.s (.s (.s .z)))))) (.c (.s16 .z) (.c (.s16 (.s .z)) .n)))) (fun _ h => h.sel (.c .z .n))
 refine FJ.exit (FJ.thenE (FJ.thenE (FJ.inB (FJ.then_ ?_))))
 refine FJ.seq (FJ.region (FJ.ql rfl (q_move rfl (.t (.s4 (.s .z)))) (FJ.er (.s4 (.s (.s (.s .z)))) (FJ.ql rfl (q_assign rfl (.t .z)) ?_))))
 refine FJ.nil (FJ.then_ (FJ.ret ?_))
 refine FJ.ceq .z (fillC_all (by omega)) ?_
 refine FJ.doneS (res1 rfl .z) (.c .z .n) ?_
 rfl

set_option maxHeartbeats 1000000 in
set_option maxRecDepth 20000 in
theorem c_142 {w0 : World} {S0 : Bs} {x : DPut} {cs0 : List Value} (h0 : kT_152.ro w0 (FF w0 S0) x cs0)  :
    Calls Try.prog 142 #[.agg cs0.toArray] w0 (TriPost w0 S0 (RA_57 x)) := by
 obtain ⟨u0_1, rfl, h0_1⟩ := kT_152_ro h0
 obtain ⟨A0_1, c0_1, rfl, hl0_1, hm0_1, hb0_1, he0_1⟩ := ro_form h0_1
 refine FJ.enter (N := 12) Try.func142 rfl rfl (by simp) [(0, .agg #[.int .i64 x.at_, .slice A0_1 x.words.length c0_1])] (by simp) (l0 := []) trivial ?_
 refine FJ.seq (FJ.region ?_)
 refine FJ.e (goes_list rfl) rfl (by decide) rfl (e_box (cs := [.int .i64 x.at_, .slice A0_1 x.words.length c0_1]) (n := 2) rfl (.t .z) rfl rfl) ?_
 rintro _ _ ⟨g2, rfl, rfl⟩
 refine FJ.e (goes_list rfl) rfl (by decide) rfl (e_alloc rfl z_57 rfl rfl) ?_
 rintro _ _ ⟨g3, rfl, rfl⟩
 refine FJ.nil (FJ.then_ (FJ.seq (FJ.region ?_)))
 refine FJ.e (goes_list rfl) rfl (by decide) rfl (e_alloc rfl z_57 rfl rfl) ?_
 rintro _ _ ⟨g4, rfl, rfl⟩
 refine FJ.nil (FJ.then_ (FJ.seq (FJ.region (FJ.ql rfl (q_fieldAddr rfl (.t (.s (.s .z))) (fun _ => fa_152_0 _ _)) ?_))))
 refine FJ.ql rfl (q_load rfl ag_2 (.t .z) (WS.row (.s (.s .z)) rfl)) (FJ.ql rfl (q_fieldAddr rfl (.t (.s (.s .z))) (fun _ => fa_57_0 _ _)) ?_)
 refine FJ.es (goes_list rfl) rfl (es_store (off := 0) (cs := [.int .i64 x.at_]) rfl sz_2 (.t .z) (.t (.s .z)) rfl (ones rfl) .z (Nat.le_of_ble_eq_true rfl) (.c .z .n)) ?_
 refine FJ.nil (FJ.then_ (FJ.seq (FJ.region (FJ.ql rfl (q_fieldAddr rfl (.t (.s4 (.s .z))) (fun _ => fa_152_1 _ _)) ?_))))
 refine FJ.ql rfl (q_load rfl ag_40 (.t .z) (WS.row (.s (.s .z)) rfl)) ?_
 refine FJ.call (goes_list rfl) rfl (by decide) rfl (c_call rfl Try.func57 rfl rfl (args1 (.t .z))) .n (fun w1 S1 hs tr => c_57 (tr.ctx h0_1)) ?_
 rintro _ _ rfl
 refine FJ.cat (.c .n) ?_
 refine FJ.know (WS.oform .z) ?_
 rintro ⟨Ao6, co6, rfl, hlo6, hmo6, hbo6⟩
 refine FJ.ql rfl (q_fieldAddr rfl (.t (.s4 (.s (.s .z)))) (fun _ => fa_57_1 _ _)) ?_
 refine FJ.es (goes_list rfl) rfl (es_store (off := 1) (cs := [.slice Ao6 x.words.length co6]) rfl sz_40 (.t .z) (.t (.s .z)) rfl (ones rfl) (.s .z) (Nat.le_of_ble_eq_true rfl) (.c (.s .z) .n)) ?_
 refine FJ.nil (FJ.then_ (FJ.seq (FJ.region ?_)))
 refine FJ.ql rfl (q_loadA (cs := [.int .i64 x.at_, .slice Ao6 x.words.length co6]) rfl ag_57 sz_57 (.t (.s4 (.s (.s (.s .z))))) (WS.rows0 .z (fun i u h => by exact h))) ?_
 refine FJ.es (goes_list rfl) rfl (es_store (off := 0) (cs := [.int .i64 x.at_, .slice Ao6 x.words.length co6]) rfl sz_57 (.t (.s4 (.s4 (.s .z)))) (.t .z) rfl (ones rfl) (.s (.s .z)) (Nat.le_of_ble_eq_true rfl) (.c .z (.c (.s .z) .n))) ?_
 refine FJ.nil (FJ.then_ (FJ.ret ?_))
 refine FJ.doneS (resC (cs := [.int .i64 x.at_, .slice Ao6 x.words.length co6]) rfl (.s4 (.s4 (.s .z))) ag_57 sz_57 (WS.rows0 (cs := [.int .i64 x.at_, .slice Ao6 x.words.length co6]) .z (fun _ _ h => h))) (.c (.s (.s .z)) .n) ?_
 exact ⟨_, rfl, rfl⟩

set_option maxHeartbeats 1000000 in
set_option maxRecDepth 20000 in
theorem c_85 {w0 : World} {S0 : Bs} {x : (List DPut)} {v0 : Value} (h0 : kSl_152.ro w0 (FF w0 S0) x [v0])  :
    Calls Try.prog 85 #[v0] w0 (TriPost w0 S0 (fun r l => l = [ownA kSl_57 x [r]])) := by
 obtain ⟨A0, c0, rfl, hl0, hm0, hb0, he0⟩ := ro_form h0
 refine FJ.enter (N := 23) Try.func85 rfl rfl (by simp) [(0, .slice A0 x.length c0)] (by simp) (l0 := []) trivial ?_
 refine FJ.seq (FJ.region (FJ.ql rfl (q_assign rfl .c) (FJ.nil (FJ.then_ ?_))))
 refine FJ.seq (FJ.region (FJ.ql rfl (q_move rfl (.t (.s .z))) (FJ.ql rfl (q_len rfl u_32 (.t .z)) ?_)))
 refine FJ.e (goes_list rfl) rfl (by decide) rfl (e_makeSlice (n := x.length) (x0 := (⟨0, []⟩ : DPut)) rfl u_23 inf_57 rfl (fun w S => zero_57 w S) (.t .z) (.t .z) (by omega) (by omega)) ?_
 rintro _ _ rfl
 refine FJ.know (WS.oform .z) ?_
 rintro ⟨Ao3, co3, rfl, hlo3, hmo3, hbo3⟩
 refine FJ.ql rfl (q_assign rfl (.t .z)) (FJ.nil (FJ.then_ (FJ.seq (FJ.seq ?_))))
 refine FJ.region (FJ.ql rfl (q_assign rfl .c) (FJ.nil (FJ.then_ (FJ.block ?_))))
 refine FJ.ceq .z (fillC_zero x (⟨0, []⟩ : DPut)) ?_
 refine FJ.loopi (γ := Nat) (fun k => [(4, .int .i64 (k : Int)), (3, .slice Ao3 (List.replicate x.length (⟨0, []⟩ : DPut)).length co3), (2, .slice none 0 0), (0, .slice A0 x.length c0)]) (fun k => [ownA kSl_57 (fillC x (⟨0, []⟩ : DPut) k) [.slice Ao3 (List.replicate x.length (⟨0, []⟩ : DPut)).length co3]]) (fun k => k ≤ x.length) (fun k => x.length - k) 0 (Nat.zero_le _) (.c .z (.c (.s .z) (.c (.s4 (.s .z)) (.c (.s4 (.s (.s .z))) .n)))) (fun _ h => h.sel (.c .z .n)) ?_
 rintro k hk
 refine FJ.seq (FJ.seq (FJ.region (FJ.ql rfl (q_move rfl (.t .z)) (FJ.ql rfl (q_move rfl (.t (.s4 .z))) ?_))))
 refine FJ.ql rfl (q_len rfl u_32 (.t .z)) (FJ.ql rfl (q_lss rfl (.t (.s (.s .z))) (.t .z)) (FJ.nil (FJ.then_ ?_)))
 refine FJ.condP (.t .z) (fun b4 => ?_) (fun b4 => ?_)
 refine FJ.skip (FJ.then_ (FJ.seq (FJ.block (FJ.region ?_))))
 refine FJ.ql rfl (q_move rfl (.t (.s4 (.s .z)))) (FJ.ql rfl (q_move rfl (.t (.s4 (.s .z)))) (FJ.ql rfl (q_move rfl (.t (.s4 (.s4 (.s .z))))) (FJ.ql rfl (q_move rfl (.t (.s4 (.s (.s (.s .z)))))) ?_)))
 obtain ⟨ad5, hAad5, hrad5⟩ := he0 (by omega)
 subst hAad5
 obtain ⟨x6, hx6⟩ := get_ex (xs := x) (j := k) (by first | omega | (rw [fillC_len (by omega)]; omega) | (rw [List.length_replicate]; omega))
 obtain ⟨ece7, hre7, hFe7, hce7⟩ := hrad5.elem hx6
 obtain ⟨ue7_1, rfl, he7_1⟩ := kT_152_ro hre7
 obtain ⟨Ae7_1, ce7_1, rfl, hle7_1, hme7_1, hbe7_1, hee7_1⟩ := ro_form he7_1
 refine FJ.ql rfl (q_indexAddr (j := k) rfl u_32 sz_152 (.t (.s .z)) (.t .z) rfl (by first | omega | (rw [fillC_len (by omega)]; omega) | (rw [List.length_replicate]; omega))) ?_
 refine FJ.ql rfl (q_loadA (cs := [.int .i64 x6.at_, .slice Ae7_1 x6.words.length ce7_1]) rfl ag_152 sz_152 (.t .z) (WS.els hFe7 hce7)) ?_
 refine FJ.call (goes_list rfl) rfl (by decide) rfl (c_call rfl Try.func142 rfl rfl (args1 (.t .z))) .n (fun w1 S1 hs tr => c_142 (tr.ctx hre7)) ?_
 rintro _ _ ⟨v9, rfl, rfl⟩
 refine FJ.cat (.c .n) ?_
 refine FJ.know (WS.oform .z) ?_
 rintro ⟨Ao11, co11, rfl, hlo11, hmo11, hbo11⟩
 refine FJ.know (WS.oad (.s .z) (by rw [fillC_len (by omega)]; omega)) ?_
 rintro ⟨ad12, rfl⟩
 refine FJ.ql rfl (q_indexAddr (j := k) rfl u_23 sz_57 (.t (.s4 (.s (.s .z)))) (.t (.s4 (.s .z))) rfl (by first | omega | (rw [fillC_len (by omega)]; omega) | (rw [List.length_replicate]; omega))) ?_
 refine FJ.turns (c := ownA kT_57 (⟨x6.at_, x6.words⟩ : DPut) [.int .i64 x6.at_, .slice Ao11 x6.words.length co11]) (.c .z .n) (fun w S h => kT_57_omk (⟨x6.at_, x6.words⟩ : DPut) h) ?_
 refine FJ.es (goes_list rfl) rfl (es_set (j := k) rfl sz_57 (.t .z) (.t (.s .z)) rfl (.c (.s .z) (.c .z .n)) (by first | omega | (rw [fillC_len (by omega)]; omega) | (rw [List.length_replicate]; omega))) ?_
 refine FJ.ceq .z (fillC_set hx6) ?_
 refine FJ.nil (FJ.inBN (FJ.then_ (FJ.region (FJ.ql rfl (q_move rfl (.t (.s4 (.s4 (.s4 .z))))) ?_))))
 refine FJ.ql rfl (q_add (c := ((k + 1 : Nat) : Int)) rfl (.t .z) .c (wr (by omega) (by omega) (by omega))) ?_
 refine FJ.er (.s4 (.s4 (.s4 (.s (.s .z))))) (FJ.ql rfl (q_assign rfl (.t .z)) (FJ.nil ?_))
 refine FJ.again (k + 1) (by omega) (by first | omega | (dsimp only; omega)) (.c .z (.c (.s4 (.s4 (.s4 (.s (.s (.s .z)))))) (.c (.s16 .z) (.c (.s16 (.s .z)) .n)))) (fun _ h => h.sel (.c .z .n))
 refine FJ.exit (FJ.thenE (FJ.thenE (FJ.inB (FJ.then_ ?_))))
 refine FJ.seq (FJ.region (FJ.ql rfl (q_move rfl (.t (.s4 (.s .z)))) (FJ.er (.s4 (.s (.s (.s .z)))) (FJ.ql rfl (q_assign rfl (.t .z)) ?_))))
 refine FJ.nil (FJ.then_ (FJ.ret ?_))
 refine FJ.ceq .z (fillC_all (by omega)) ?_
 refine FJ.doneS (res1 rfl .z) (.c .z .n) ?_
 rfl

set_option maxHeartbeats 1000000 in
set_option maxRecDepth 20000 in
theorem c_27 {w0 : World} {S0 : Bs} {x : DDisk} {cs0 : List Value} (h0 : kT_34.ro w0 (FF w0 S0) x cs0)  :
    Calls Try.prog 27 #[.agg cs0.toArray] w0 (TriPost w0 S0 (RA_25 x)) := by
 obtain ⟨u0_0, u0_1, rfl, h0_0, h0_1⟩ := kT_34_ro h0
 obtain ⟨A0_0, c0_0, rfl, hl0_0, hm0_0, hb0_0, he0_0⟩ := ro_form h0_0
 obtain ⟨A0_1, c0_1, rfl, hl0_1, hm0_1, hb0_1, he0_1⟩ := ro_form h0_1
 refine FJ.enter (N := 13) Try.func27 rfl rfl (by simp) [(0, .agg #[.slice A0_0 x.blocks.length c0_0, .slice A0_1 x.cache.length c0_1])] (by simp) (l0 := []) trivial ?_
 refine FJ.seq (FJ.region ?_)
 refine FJ.e (goes_list rfl) rfl (by decide) rfl (e_box (cs := [.slice A0_0 x.blocks.length c0_0, .slice A0_1 x.cache.length c0_1]) (n := 2) rfl (.t .z) rfl rfl) ?_
 rintro _ _ ⟨g3, rfl, rfl⟩
 refine FJ.e (goes_list rfl) rfl (by decide) rfl (e_alloc rfl z_25 rfl rfl) ?_
 rintro _ _ ⟨g4, rfl, rfl⟩
 refine FJ.nil (FJ.then_ (FJ.seq (FJ.region ?_)))
 refine FJ.e (goes_list rfl) rfl (by decide) rfl (e_alloc rfl z_25 rfl rfl) ?_
 rintro _ _ ⟨g5, rfl, rfl⟩
 refine FJ.nil (FJ.then_ (FJ.seq (FJ.region (FJ.ql rfl (q_fieldAddr rfl (.t (.s (.s .z))) (fun _ => fa_34_0 _ _)) ?_))))
 refine FJ.ql rfl (q_load rfl ag_22 (.t .z) (WS.row (.s (.s .z)) rfl)) ?_
 refine FJ.call (goes_list rfl) rfl (by decide) rfl (c_call rfl Try.func84 rfl rfl (args1 (.t .z))) .n (fun w1 S1 hs tr => c_84 (tr.ctx h0_0)) ?_
 rintro _ _ rfl
 refine FJ.cat (.c .n) ?_
 refine FJ.know (WS.oform .z) ?_
 rintro ⟨Ao7, co7, rfl, hlo7, hmo7, hbo7⟩
 refine FJ.ql rfl (q_fieldAddr rfl (.t (.s (.s (.s .z)))) (fun _ => fa_25_0 _ _)) ?_
 refine FJ.es (goes_list rfl) rfl (es_store (off := 0) (cs := [.slice Ao7 x.blocks.length co7]) rfl sz_22 (.t .z) (.t (.s .z)) rfl (ones rfl) (.s .z) (Nat.le_of_ble_eq_true rfl) (.c .z .n)) ?_
 refine FJ.nil (FJ.then_ (FJ.seq (FJ.region (FJ.ql rfl (q_fieldAddr rfl (.t (.s4 (.s (.s .z)))) (fun _ => fa_34_1 _ _)) ?_))))
 refine FJ.ql rfl (q_load rfl ag_32 (.t .z) (WS.row (.s (.s (.s .z))) rfl)) ?_
 refine FJ.call (goes_list rfl) rfl (by decide) rfl (c_call rfl Try.func85 rfl rfl (args1 (.t .z))) .n (fun w1 S1 hs tr => c_85 (tr.ctx h0_1)) ?_
 rintro _ _ rfl
 refine FJ.cat (.c .n) ?_
 refine FJ.know (WS.oform .z) ?_
 rintro ⟨Ao9, co9, rfl, hlo9, hmo9, hbo9⟩
 refine FJ.ql rfl (q_fieldAddr rfl (.t (.s4 (.s (.s (.s .z))))) (fun _ => fa_25_1 _ _)) ?_
 refine FJ.es (goes_list rfl) rfl (es_store (off := 1) (cs := [.slice Ao9 x.cache.length co9]) rfl sz_23 (.t .z) (.t (.s .z)) rfl (ones rfl) (.s .z) (Nat.le_of_ble_eq_true rfl) (.c (.s .z) .n)) ?_
 refine FJ.nil (FJ.then_ (FJ.seq (FJ.region ?_)))
 refine FJ.ql rfl (q_loadA (cs := [.slice Ao7 x.blocks.length co7, .slice Ao9 x.cache.length co9]) rfl ag_25 sz_25 (.t (.s4 (.s4 .z))) (WS.rows0 .z (fun i u h => by exact h))) ?_
 refine FJ.es (goes_list rfl) rfl (es_store (off := 0) (cs := [.slice Ao7 x.blocks.length co7, .slice Ao9 x.cache.length co9]) rfl sz_25 (.t (.s4 (.s4 (.s (.s .z))))) (.t .z) rfl (ones rfl) (.s (.s (.s .z))) (Nat.le_of_ble_eq_true rfl) (.c .z (.c (.s .z) .n))) ?_
 refine FJ.nil (FJ.then_ (FJ.ret ?_))
 refine FJ.doneS (resC (cs := [.slice Ao7 x.blocks.length co7, .slice Ao9 x.cache.length co9]) rfl (.s4 (.s4 (.s (.s .z)))) ag_25 sz_25 (WS.rows0 (cs := [.slice Ao7 x.blocks.length co7, .slice Ao9 x.cache.length co9]) .z (fun _ _ h => h))) (.c (.s (.s (.s .z))) (.c (.s (.s .z)) .n)) ?_
 exact ⟨_, _, rfl, rfl⟩

set_option maxHeartbeats 1000000 in
set_option maxRecDepth 20000 in
theorem c_58 {w0 : World} {S0 : Bs} {x : (List Int)} {v0 : Value} (h0 : kSl_2.ro w0 (FF w0 S0) x [v0]) {y : (List Int)} {v1 : Value} (h1 : kSl_2.ro w0 (FF w0 S0) y [v1])  :
    Calls Try.prog 58 #[v0, v1] w0 (TriPost w0 S0 (fun r l => r = .bool (decide (x = y)) ∧ l = [])) := by
 obtain ⟨A0, c0, rfl, hl0, hm0, hb0, he0⟩ := ro_form h0
 obtain ⟨A1, c1, rfl, hl1, hm1, hb1, he1⟩ := ro_form h1
 refine FJ.enter (N := 26) Try.func58 rfl rfl (by simp) [(0, .slice A0 x.length c0), (1, .slice A1 y.length c1)] (by simp) (l0 := []) trivial ?_
 refine FJ.seq (FJ.region (FJ.ql rfl (q_assign rfl .c) (FJ.nil (FJ.then_ ?_))))
 refine FJ.seq (FJ.seq (FJ.region (FJ.ql rfl (q_move rfl (.t (.s .z))) (FJ.ql rfl (q_len rfl u_40 (.t .z)) ?_))))
 refine FJ.ql rfl (q_move rfl (.t (.s4 .z))) (FJ.ql rfl (q_len rfl u_40 (.t .z)) (FJ.ql rfl (q_neq rfl (.t (.s (.s .z))) (.t .z)) (FJ.nil (FJ.then_ ?_))))
 refine FJ.condN (.t .z) (fun b3 => ?_) (fun b3 => ?_)
 refine FJ.seq (FJ.region (FJ.er (.s4 (.s .z)) (FJ.ql rfl (q_assign rfl .c) (FJ.nil ?_))))
 refine FJ.then_ (FJ.ret (FJ.thenR ?_))
 refine FJ.doneS (res1 rfl .z) .n ?_
 exact ⟨by rw [decide_eq_false (fun h => by subst h; omega)], rfl⟩
 refine FJ.skip (FJ.then_ (FJ.seq (FJ.seq (FJ.region ?_))))
 refine FJ.ql rfl (q_assign rfl .c) (FJ.nil (FJ.then_ (FJ.block ?_)))
 refine FJ.loopi (γ := Nat) (fun k => [(5, .int .i64 (k : Int)), (0, .slice A0 x.length c0), (1, .slice A1 y.length c1)]) (fun k => []) (fun k => k ≤ x.length ∧ ∀ j, j < k → x[j]? = y[j]?) (fun k => x.length - k) 0 ⟨Nat.zero_le _, all_eq_zero⟩ (.c .z (.c (.s4 (.s (.s (.s .z)))) (.c (.s4 (.s4 .z)) .n))) (fun _ h => h) ?_
 rintro k ⟨hk, hallk⟩
 refine FJ.seq (FJ.seq (FJ.region (FJ.ql rfl (q_move rfl (.t .z)) (FJ.ql rfl (q_move rfl (.t (.s (.s .z)))) ?_))))
 refine FJ.ql rfl (q_len rfl u_40 (.t .z)) (FJ.ql rfl (q_lss rfl (.t (.s (.s .z))) (.t .z)) (FJ.nil (FJ.then_ ?_)))
 refine FJ.condP (.t .z) (fun b4 => ?_) (fun b4 => ?_)
 refine FJ.skip (FJ.then_ (FJ.seq (FJ.block (FJ.seq ?_))))
 refine FJ.draw [] 9 (by kernel_rfl) ?_
 refine FJ.sch [(0, true), (1, true), (2, true), (3, true), (4, true), (5, true), (6, true), (7, true), (8, true)] 0 #[true, true, true, true, true, true, true, true, true] (by rfl) (by kernel_rfl) ?_
 refine FJ.dq rfl rfl rfl (by decide) rfl .z (q_move rfl (.t (.s4 (.s .z)))) (FJ.dq rfl rfl rfl (by decide) rfl .z (q_move rfl (.t (.s4 (.s .z)))) ?_)
 obtain ⟨ad5, hAad5, hrad5⟩ := he0 (by omega)
 subst hAad5
 obtain ⟨x6, hx6⟩ := get_ex (xs := x) (j := k) (by omega)
 obtain ⟨ece7, hre7, hFe7, hce7⟩ := hrad5.elem hx6
 obtain ⟨rfl, se7⟩ := hre7
 refine FJ.dq rfl rfl rfl (by decide) rfl .z (q_indexAddr (j := k) rfl u_40 sz_2 (.t (.s .z)) (.t .z) rfl (by omega)) ?_
 refine FJ.dq rfl rfl rfl (by decide) rfl .z (q_load rfl ag_2 (.t .z) (WS.el0 hFe7 hce7 rfl)) (FJ.dq rfl rfl rfl (by decide) rfl .z (q_move rfl (.t (.s4 (.s4 (.s (.s .z)))))) (FJ.dq rfl rfl rfl (by decide) rfl .z (q_move rfl (.t (.s4 (.s4 (.s .z))))) ?_))
 obtain ⟨ad8, hAad8, hrad8⟩ := he1 (by omega)
 subst hAad8
 obtain ⟨x9, hx9⟩ := get_ex (xs := y) (j := k) (by omega)
 obtain ⟨ece10, hre10, hFe10, hce10⟩ := hrad8.elem hx9
 obtain ⟨rfl, se10⟩ := hre10
 refine FJ.dq rfl rfl rfl (by decide) rfl .z (q_indexAddr (j := k) rfl u_40 sz_2 (.t (.s .z)) (.t .z) rfl (by omega)) ?_
 refine FJ.dq rfl rfl rfl (by decide) rfl .z (q_load rfl ag_2 (.t .z) (WS.el0 hFe10 hce10 rfl)) (FJ.dq rfl rfl rfl (by decide) rfl .z (q_neq rfl (.t (.s4 .z)) (.t .z)) (FJ.schN ?_))
 refine FJ.drawN (by kernel_rfl) ?_
 refine FJ.then_ ?_
 refine FJ.condN (.t .z) (fun b11 => ?_) (fun b11 => ?_)
 refine FJ.seq (FJ.region (FJ.ql rfl (q_assign rfl .c) (FJ.nil (FJ.then_ ?_))))
 refine FJ.ret (FJ.inBR (FJ.thenR (FJ.thenR (FJ.inBR ?_))))
 refine FJ.thenR ?_
 refine FJ.doneS (res1 rfl .z) .n ?_
 exact ⟨by rw [decide_eq_false (ne_of_get hx6 hx9 (by first | assumption | (intro e; subst e; contradiction) | (simp_all; done)))], rfl⟩
 refine FJ.skip (FJ.inBN (FJ.then_ (FJ.region (FJ.ql rfl (q_move rfl (.t (.s4 (.s4 (.s4 (.s .z)))))) ?_))))
 refine FJ.ql rfl (q_add (c := ((k + 1 : Nat) : Int)) rfl (.t .z) .c (wr (by omega) (by omega) (by omega))) ?_
 refine FJ.er (.s4 (.s4 (.s4 (.s (.s (.s .z)))))) (FJ.ql rfl (q_assign rfl (.t .z)) (FJ.nil ?_))
 refine FJ.again (k + 1) ⟨by omega, all_eq_succ hallk hx6 hx9 (by first | assumption | exact byte_eq (by assumption) | (simp_all; done))⟩ (by first | omega | (dsimp only; omega)) (.c .z (.c (.s16 .z) (.c (.s16 (.s .z)) .n))) (fun _ h => h)
 refine FJ.exit (FJ.thenE (FJ.thenE (FJ.inB (FJ.then_ ?_))))
 refine FJ.seq (FJ.region (FJ.ql rfl (q_assign rfl .c) (FJ.nil (FJ.then_ ?_))))
 refine FJ.ret ?_
 refine FJ.doneS (res1 rfl .z) .n ?_
 exact ⟨by rw [decide_eq_true (eq_of_all (by omega) (by omega) hallk)], rfl⟩

set_option maxHeartbeats 1000000 in
set_option maxRecDepth 20000 in
theorem c_87 {w0 : World} {S0 : Bs} {x : (List (List Int))} {v0 : Value} (h0 : kSl_40.ro w0 (FF w0 S0) x [v0]) {y : (List (List Int))} {v1 : Value} (h1 : kSl_40.ro w0 (FF w0 S0) y [v1])  :
    Calls Try.prog 87 #[v0, v1] w0 (TriPost w0 S0 (fun r l => r = .bool (decide (x = y)) ∧ l = [])) := by
 obtain ⟨A0, c0, rfl, hl0, hm0, hb0, he0⟩ := ro_form h0
 obtain ⟨A1, c1, rfl, hl1, hm1, hb1, he1⟩ := ro_form h1
 refine FJ.enter (N := 27) Try.func87 rfl rfl (by simp) [(0, .slice A0 x.length c0), (1, .slice A1 y.length c1)] (by simp) (l0 := []) trivial ?_
 refine FJ.seq (FJ.region (FJ.ql rfl (q_assign rfl .c) (FJ.nil (FJ.then_ ?_))))
 refine FJ.seq (FJ.seq (FJ.region (FJ.ql rfl (q_move rfl (.t (.s .z))) (FJ.ql rfl (q_len rfl u_22 (.t .z)) ?_))))
 refine FJ.ql rfl (q_move rfl (.t (.s4 .z))) (FJ.ql rfl (q_len rfl u_22 (.t .z)) (FJ.ql rfl (q_neq rfl (.t (.s (.s .z))) (.t .z)) (FJ.nil (FJ.then_ ?_))))
 refine FJ.condN (.t .z) (fun b3 => ?_) (fun b3 => ?_)
 refine FJ.seq (FJ.region (FJ.er (.s4 (.s .z)) (FJ.ql rfl (q_assign rfl .c) (FJ.nil ?_))))
 refine FJ.then_ (FJ.ret (FJ.thenR ?_))
 refine FJ.doneS (res1 rfl .z) .n ?_
 exact ⟨by rw [decide_eq_false (fun h => by subst h; omega)], rfl⟩
 refine FJ.skip (FJ.then_ (FJ.seq (FJ.seq (FJ.region ?_))))
 refine FJ.ql rfl (q_assign rfl .c) (FJ.nil (FJ.then_ (FJ.block ?_)))
 refine FJ.loopi (γ := Nat) (fun k => [(5, .int .i64 (k : Int)), (0, .slice A0 x.length c0), (1, .slice A1 y.length c1)]) (fun k => []) (fun k => k ≤ x.length ∧ ∀ j, j < k → x[j]? = y[j]?) (fun k => x.length - k) 0 ⟨Nat.zero_le _, all_eq_zero⟩ (.c .z (.c (.s4 (.s (.s (.s .z)))) (.c (.s4 (.s4 .z)) .n))) (fun _ h => h) ?_
 rintro k ⟨hk, hallk⟩
 refine FJ.seq (FJ.seq (FJ.region (FJ.ql rfl (q_move rfl (.t .z)) (FJ.ql rfl (q_move rfl (.t (.s (.s .z)))) ?_))))
 refine FJ.ql rfl (q_len rfl u_22 (.t .z)) (FJ.ql rfl (q_lss rfl (.t (.s (.s .z))) (.t .z)) (FJ.nil (FJ.then_ ?_)))
 refine FJ.condP (.t .z) (fun b4 => ?_) (fun b4 => ?_)
 refine FJ.skip (FJ.then_ (FJ.seq (FJ.block (FJ.seq ?_))))
 refine FJ.draw [] 10 (by kernel_rfl) ?_
 refine FJ.sch [(0, true), (1, true), (2, true), (3, true), (4, true), (5, true), (6, true), (7, true), (8, false), (9, true)] 0 #[true, true, true, true, true, true, true, true, true, true] (by rfl) (by kernel_rfl) ?_
 refine FJ.dq rfl rfl rfl (by decide) rfl .z (q_move rfl (.t (.s4 (.s .z)))) (FJ.dq rfl rfl rfl (by decide) rfl .z (q_move rfl (.t (.s4 (.s .z)))) ?_)
 obtain ⟨ad5, hAad5, hrad5⟩ := he0 (by omega)
 subst hAad5
 obtain ⟨x6, hx6⟩ := get_ex (xs := x) (j := k) (by omega)
 obtain ⟨ece7, hre7, hFe7, hce7⟩ := hrad5.elem hx6
 obtain ⟨ue7, rfl⟩ := sl_one hre7
 obtain ⟨Ae7, ce7, rfl, hle7, hme7, hbe7, hee7⟩ := ro_form hre7
 refine FJ.dq rfl rfl rfl (by decide) rfl .z (q_indexAddr (j := k) rfl u_22 sz_40 (.t (.s .z)) (.t .z) rfl (by omega)) ?_
 refine FJ.dq rfl rfl rfl (by decide) rfl .z (q_load rfl ag_40 (.t .z) (WS.el0 hFe7 hce7 rfl)) (FJ.dq rfl rfl rfl (by decide) rfl .z (q_move rfl (.t (.s4 (.s4 (.s (.s .z)))))) (FJ.dq rfl rfl rfl (by decide) rfl .z (q_move rfl (.t (.s4 (.s4 (.s .z))))) ?_))
 obtain ⟨ad9, hAad9, hrad9⟩ := he1 (by omega)
 subst hAad9
 obtain ⟨x10, hx10⟩ := get_ex (xs := y) (j := k) (by omega)
 obtain ⟨ece11, hre11, hFe11, hce11⟩ := hrad9.elem hx10
 obtain ⟨ue11, rfl⟩ := sl_one hre11
 obtain ⟨Ae11, ce11, rfl, hle11, hme11, hbe11, hee11⟩ := ro_form hre11
 refine FJ.dq rfl rfl rfl (by decide) rfl .z (q_indexAddr (j := k) rfl u_22 sz_40 (.t (.s .z)) (.t .z) rfl (by omega)) ?_
 refine FJ.dq rfl rfl rfl (by decide) rfl .z (q_load rfl ag_40 (.t .z) (WS.el0 hFe11 hce11 rfl)) ?_
 refine FJ.call (goes_sch rfl rfl) rfl (by decide) rfl (c_call rfl Try.func58 rfl rfl (args2 (.t (.s4 .z)) (.t .z))) .n (fun w1 S1 hs tr => c_58 (tr.ctx hre7) (tr.ctx hre11)) ?_
 rintro _ _ ⟨rfl, rfl⟩
 refine FJ.cat .n ?_
 refine FJ.sk .z ?_
 refine FJ.dq rfl rfl rfl (by decide) rfl .z (q_not rfl (.t .z)) (FJ.schN ?_)
 refine FJ.drawN (by kernel_rfl) ?_
 refine FJ.then_ ?_
 refine FJ.condN (.t .z) (fun b13 => ?_) (fun b13 => ?_)
 refine FJ.seq (FJ.region (FJ.ql rfl (q_assign rfl .c) (FJ.nil (FJ.then_ ?_))))
 refine FJ.ret (FJ.inBR (FJ.thenR (FJ.thenR (FJ.inBR ?_))))
 refine FJ.thenR ?_
 refine FJ.doneS (res1 rfl .z) .n ?_
 exact ⟨by rw [decide_eq_false (ne_of_get hx6 hx10 (by first | assumption | (intro e; subst e; contradiction) | (simp_all; done)))], rfl⟩
 refine FJ.skip (FJ.inBN (FJ.then_ (FJ.region (FJ.ql rfl (q_move rfl (.t (.s4 (.s4 (.s4 (.s (.s .z))))))) ?_))))
 refine FJ.ql rfl (q_add (c := ((k + 1 : Nat) : Int)) rfl (.t .z) .c (wr (by omega) (by omega) (by omega))) ?_
 refine FJ.er (.s16 .z) (FJ.ql rfl (q_assign rfl (.t .z)) (FJ.nil ?_))
 refine FJ.again (k + 1) ⟨by omega, all_eq_succ hallk hx6 hx10 (by first | assumption | exact byte_eq (by assumption) | (simp_all; done))⟩ (by first | omega | (dsimp only; omega)) (.c .z (.c (.s16 (.s .z)) (.c (.s16 (.s (.s .z))) .n))) (fun _ h => h)
 refine FJ.exit (FJ.thenE (FJ.thenE (FJ.inB (FJ.then_ ?_))))
 refine FJ.seq (FJ.region (FJ.ql rfl (q_assign rfl .c) (FJ.nil (FJ.then_ ?_))))
 refine FJ.ret ?_
 refine FJ.doneS (res1 rfl .z) .n ?_
 exact ⟨by rw [decide_eq_true (eq_of_all (by omega) (by omega) hallk)], rfl⟩

set_option maxHeartbeats 1000000 in
set_option maxRecDepth 20000 in
theorem c_144 {w0 : World} {S0 : Bs} {x : DPut} {cs0 : List Value} (h0 : kT_57.ro w0 (FF w0 S0) x cs0) {y : DPut} {cs1 : List Value} (h1 : kT_57.ro w0 (FF w0 S0) y cs1)  :
    Calls Try.prog 144 #[.agg cs0.toArray, .agg cs1.toArray] w0 (TriPost w0 S0 (fun r l => r = .bool (decide (x = y)) ∧ l = [])) := by
 obtain ⟨u0_1, rfl, h0_1⟩ := kT_57_ro h0
 obtain ⟨A0_1, c0_1, rfl, hl0_1, hm0_1, hb0_1, he0_1⟩ := ro_form h0_1
 obtain ⟨u1_1, rfl, h1_1⟩ := kT_57_ro h1
 obtain ⟨A1_1, c1_1, rfl, hl1_1, hm1_1, hb1_1, he1_1⟩ := ro_form h1_1
 refine FJ.enter (N := 16) Try.func144 rfl rfl (by simp) [(0, .agg #[.int .i64 x.at_, .slice A0_1 x.words.length c0_1]), (1, .agg #[.int .i64 y.at_, .slice A1_1 y.words.length c1_1])] (by simp) (l0 := []) trivial ?_
 refine FJ.seq (FJ.region ?_)
 refine FJ.e (goes_list rfl) rfl (by decide) rfl (e_box (cs := [.int .i64 x.at_, .slice A0_1 x.words.length c0_1]) (n := 2) rfl (.t .z) rfl rfl) ?_
 rintro _ _ ⟨g3, rfl, rfl⟩
 refine FJ.e (goes_list rfl) rfl (by decide) rfl (e_box (cs := [.int .i64 y.at_, .slice A1_1 y.words.length c1_1]) (n := 2) rfl (.t (.s (.s .z))) rfl rfl) ?_
 rintro _ _ ⟨g4, rfl, rfl⟩
 refine FJ.ql rfl (q_assign rfl .c) (FJ.nil (FJ.then_ (FJ.seq (FJ.seq ?_))))
 refine FJ.region (FJ.ql rfl (q_fieldAddr rfl (.t (.s (.s .z))) (fun _ => fa_57_0 _ _)) (FJ.ql rfl (q_load rfl ag_2 (.t .z) (WS.row (.s .z) rfl)) (FJ.ql rfl (q_fieldAddr rfl (.t (.s (.s (.s .z)))) (fun _ => fa_57_0 _ _)) (FJ.ql rfl (q_load rfl ag_2 (.t .z) (WS.row .z rfl)) ?_))))
 refine FJ.ql rfl (q_neq rfl (.t (.s (.s .z))) (.t .z)) (FJ.nil (FJ.then_ ?_))
 refine FJ.condN (.t .z) (fun b5 => ?_) (fun b5 => ?_)
 refine FJ.seq (FJ.region (FJ.er (.s4 (.s .z)) (FJ.ql rfl (q_assign rfl .c) (FJ.nil ?_))))
 refine FJ.then_ (FJ.ret (FJ.thenR ?_))
 refine FJ.doneS (res1 rfl .z) .n ?_
 exact ⟨by rw [decide_eq_false]; rintro rfl; simp_all, rfl⟩
 refine FJ.skip (FJ.then_ (FJ.seq (FJ.seq (FJ.region ?_))))
 refine FJ.ql rfl (q_fieldAddr rfl (.t (.s4 (.s (.s (.s .z))))) (fun _ => fa_57_1 _ _)) (FJ.ql rfl (q_load rfl ag_40 (.t .z) (WS.row (.s .z) rfl)) (FJ.ql rfl (q_fieldAddr rfl (.t (.s4 (.s4 .z))) (fun _ => fa_57_1 _ _)) (FJ.ql rfl (q_load rfl ag_40 (.t .z) (WS.row .z rfl)) ?_)))
 refine FJ.call (goes_list rfl) rfl (by decide) rfl (c_call rfl Try.func58 rfl rfl (args2 (.t (.s (.s .z))) (.t .z))) .n (fun w1 S1 hs tr => c_58 (tr.ctx h0_1) (tr.ctx h1_1)) ?_
 rintro _ _ ⟨rfl, rfl⟩
 refine FJ.cat .n ?_
 refine FJ.ql rfl (q_not rfl (.t .z)) (FJ.nil (FJ.then_ ?_))
 refine FJ.condN (.t .z) (fun b6 => ?_) (fun b6 => ?_)
 refine FJ.seq (FJ.region (FJ.er (.s4 (.s4 (.s (.s (.s .z))))) (FJ.ql rfl (q_assign rfl .c) (FJ.nil ?_))))
 refine FJ.then_ (FJ.ret (FJ.thenR ?_))
 refine FJ.doneS (res1 rfl .z) .n ?_
 exact ⟨by rw [decide_eq_false]; rintro rfl; simp_all, rfl⟩
 refine FJ.skip (FJ.then_ (FJ.seq (FJ.region (FJ.er (.s4 (.s4 (.s (.s (.s .z))))) ?_))))
 refine FJ.ql rfl (q_assign rfl .c) (FJ.nil (FJ.then_ (FJ.ret ?_)))
 refine FJ.doneS (res1 rfl .z) .n ?_
 exact ⟨by rw [decide_eq_true]; cases x; cases y; simp_all, rfl⟩

set_option maxHeartbeats 1000000 in
set_option maxRecDepth 20000 in
theorem c_88 {w0 : World} {S0 : Bs} {x : (List DPut)} {v0 : Value} (h0 : kSl_57.ro w0 (FF w0 S0) x [v0]) {y : (List DPut)} {v1 : Value} (h1 : kSl_57.ro w0 (FF w0 S0) y [v1])  :
    Calls Try.prog 88 #[v0, v1] w0 (TriPost w0 S0 (fun r l => r = .bool (decide (x = y)) ∧ l = [])) := by
 obtain ⟨A0, c0, rfl, hl0, hm0, hb0, he0⟩ := ro_form h0
 obtain ⟨A1, c1, rfl, hl1, hm1, hb1, he1⟩ := ro_form h1
 refine FJ.enter (N := 27) Try.func88 rfl rfl (by simp) [(0, .slice A0 x.length c0), (1, .slice A1 y.length c1)] (by simp) (l0 := []) trivial ?_
 refine FJ.seq (FJ.region (FJ.ql rfl (q_assign rfl .c) (FJ.nil (FJ.then_ ?_))))
 refine FJ.seq (FJ.seq (FJ.region (FJ.ql rfl (q_move rfl (.t (.s .z))) (FJ.ql rfl (q_len rfl u_23 (.t .z)) ?_))))
 refine FJ.ql rfl (q_move rfl (.t (.s4 .z))) (FJ.ql rfl (q_len rfl u_23 (.t .z)) (FJ.ql rfl (q_neq rfl (.t (.s (.s .z))) (.t .z)) (FJ.nil (FJ.then_ ?_))))
 refine FJ.condN (.t .z) (fun b3 => ?_) (fun b3 => ?_)
 refine FJ.seq (FJ.region (FJ.er (.s4 (.s .z)) (FJ.ql rfl (q_assign rfl .c) (FJ.nil ?_))))
 refine FJ.then_ (FJ.ret (FJ.thenR ?_))
 refine FJ.doneS (res1 rfl .z) .n ?_
 exact ⟨by rw [decide_eq_false (fun h => by subst h; omega)], rfl⟩
 refine FJ.skip (FJ.then_ (FJ.seq (FJ.seq (FJ.region ?_))))
 refine FJ.ql rfl (q_assign rfl .c) (FJ.nil (FJ.then_ (FJ.block ?_)))
 refine FJ.loopi (γ := Nat) (fun k => [(5, .int .i64 (k : Int)), (0, .slice A0 x.length c0), (1, .slice A1 y.length c1)]) (fun k => []) (fun k => k ≤ x.length ∧ ∀ j, j < k → x[j]? = y[j]?) (fun k => x.length - k) 0 ⟨Nat.zero_le _, all_eq_zero⟩ (.c .z (.c (.s4 (.s (.s (.s .z)))) (.c (.s4 (.s4 .z)) .n))) (fun _ h => h) ?_
 rintro k ⟨hk, hallk⟩
 refine FJ.seq (FJ.seq (FJ.region (FJ.ql rfl (q_move rfl (.t .z)) (FJ.ql rfl (q_move rfl (.t (.s (.s .z)))) ?_))))
 refine FJ.ql rfl (q_len rfl u_23 (.t .z)) (FJ.ql rfl (q_lss rfl (.t (.s (.s .z))) (.t .z)) (FJ.nil (FJ.then_ ?_)))
 refine FJ.condP (.t .z) (fun b4 => ?_) (fun b4 => ?_)
 refine FJ.skip (FJ.then_ (FJ.seq (FJ.block (FJ.seq ?_))))
 refine FJ.draw [] 10 (by kernel_rfl) ?_
 refine FJ.sch [(0, true), (1, true), (2, true), (3, true), (4, true), (5, true), (6, true), (7, true), (8, false), (9, true)] 0 #[true, true, true, true, true, true, true, true, true, true] (by rfl) (by kernel_rfl) ?_
 refine FJ.dq rfl rfl rfl (by decide) rfl .z (q_move rfl (.t (.s4 (.s .z)))) (FJ.dq rfl rfl rfl (by decide) rfl .z (q_move rfl (.t (.s4 (.s .z)))) ?_)
 obtain ⟨ad5, hAad5, hrad5⟩ := he0 (by omega)
 subst hAad5
 obtain ⟨x6, hx6⟩ := get_ex (xs := x) (j := k) (by omega)
 obtain ⟨ece7, hre7, hFe7, hce7⟩ := hrad5.elem hx6
 obtain ⟨ue7_1, rfl, he7_1⟩ := kT_57_ro hre7
 obtain ⟨Ae7_1, ce7_1, rfl, hle7_1, hme7_1, hbe7_1, hee7_1⟩ := ro_form he7_1
 refine FJ.dq rfl rfl rfl (by decide) rfl .z (q_indexAddr (j := k) rfl u_23 sz_57 (.t (.s .z)) (.t .z) rfl (by omega)) ?_
 refine FJ.dq rfl rfl rfl (by decide) rfl .z (q_loadA (cs := [.int .i64 x6.at_, .slice Ae7_1 x6.words.length ce7_1]) rfl ag_57 sz_57 (.t .z) (WS.els hFe7 hce7)) (FJ.dq rfl rfl rfl (by decide) rfl .z (q_move rfl (.t (.s4 (.s4 (.s (.s .z)))))) (FJ.dq rfl rfl rfl (by decide) rfl .z (q_move rfl (.t (.s4 (.s4 (.s .z))))) ?_))
 obtain ⟨ad9, hAad9, hrad9⟩ := he1 (by omega)
 subst hAad9
 obtain ⟨x10, hx10⟩ := get_ex (xs := y) (j := k) (by omega)
 obtain ⟨ece11, hre11, hFe11, hce11⟩ := hrad9.elem hx10
 obtain ⟨ue11_1, rfl, he11_1⟩ := kT_57_ro hre11
 obtain ⟨Ae11_1, ce11_1, rfl, hle11_1, hme11_1, hbe11_1, hee11_1⟩ := ro_form he11_1
 refine FJ.dq rfl rfl rfl (by decide) rfl .z (q_indexAddr (j := k) rfl u_23 sz_57 (.t (.s .z)) (.t .z) rfl (by omega)) ?_
 refine FJ.dq rfl rfl rfl (by decide) rfl .z (q_loadA (cs := [.int .i64 x10.at_, .slice Ae11_1 x10.words.length ce11_1]) rfl ag_57 sz_57 (.t .z) (WS.els hFe11 hce11)) ?_
 refine FJ.call (goes_sch rfl rfl) rfl (by decide) rfl (c_call rfl Try.func144 rfl rfl (args2 (.t (.s4 .z)) (.t .z))) .n (fun w1 S1 hs tr => c_144 (tr.ctx hre7) (tr.ctx hre11)) ?_
 rintro _ _ ⟨rfl, rfl⟩
 refine FJ.cat .n ?_
 refine FJ.sk .z ?_
 refine FJ.dq rfl rfl rfl (by decide) rfl .z (q_not rfl (.t .z)) (FJ.schN ?_)
 refine FJ.drawN (by kernel_rfl) ?_
 refine FJ.then_ ?_
 refine FJ.condN (.t .z) (fun b13 => ?_) (fun b13 => ?_)
 refine FJ.seq (FJ.region (FJ.ql rfl (q_assign rfl .c) (FJ.nil (FJ.then_ ?_))))
 refine FJ.ret (FJ.inBR (FJ.thenR (FJ.thenR (FJ.inBR ?_))))
 refine FJ.thenR ?_
 refine FJ.doneS (res1 rfl .z) .n ?_
 exact ⟨by rw [decide_eq_false (ne_of_get hx6 hx10 (by first | assumption | (intro e; subst e; contradiction) | (simp_all; done)))], rfl⟩
 refine FJ.skip (FJ.inBN (FJ.then_ (FJ.region (FJ.ql rfl (q_move rfl (.t (.s4 (.s4 (.s4 (.s (.s .z))))))) ?_))))
 refine FJ.ql rfl (q_add (c := ((k + 1 : Nat) : Int)) rfl (.t .z) .c (wr (by omega) (by omega) (by omega))) ?_
 refine FJ.er (.s16 .z) (FJ.ql rfl (q_assign rfl (.t .z)) (FJ.nil ?_))
 refine FJ.again (k + 1) ⟨by omega, all_eq_succ hallk hx6 hx10 (by first | assumption | exact byte_eq (by assumption) | (simp_all; done))⟩ (by first | omega | (dsimp only; omega)) (.c .z (.c (.s16 (.s .z)) (.c (.s16 (.s (.s .z))) .n))) (fun _ h => h)
 refine FJ.exit (FJ.thenE (FJ.thenE (FJ.inB (FJ.then_ ?_))))
 refine FJ.seq (FJ.region (FJ.ql rfl (q_assign rfl .c) (FJ.nil (FJ.then_ ?_))))
 refine FJ.ret ?_
 refine FJ.doneS (res1 rfl .z) .n ?_
 exact ⟨by rw [decide_eq_true (eq_of_all (by omega) (by omega) hallk)], rfl⟩

set_option maxHeartbeats 1000000 in
set_option maxRecDepth 20000 in
theorem c_29 {w0 : World} {S0 : Bs} {x : DDisk} {cs0 : List Value} (h0 : kT_25.ro w0 (FF w0 S0) x cs0) {y : DDisk} {cs1 : List Value} (h1 : kT_25.ro w0 (FF w0 S0) y cs1)  :
    Calls Try.prog 29 #[.agg cs0.toArray, .agg cs1.toArray] w0 (TriPost w0 S0 (fun r l => r = .bool (decide (x = y)) ∧ l = [])) := by
 obtain ⟨u0_0, u0_1, rfl, h0_0, h0_1⟩ := kT_25_ro h0
 obtain ⟨A0_0, c0_0, rfl, hl0_0, hm0_0, hb0_0, he0_0⟩ := ro_form h0_0
 obtain ⟨A0_1, c0_1, rfl, hl0_1, hm0_1, hb0_1, he0_1⟩ := ro_form h0_1
 obtain ⟨u1_0, u1_1, rfl, h1_0, h1_1⟩ := kT_25_ro h1
 obtain ⟨A1_0, c1_0, rfl, hl1_0, hm1_0, hb1_0, he1_0⟩ := ro_form h1_0
 obtain ⟨A1_1, c1_1, rfl, hl1_1, hm1_1, hb1_1, he1_1⟩ := ro_form h1_1
 refine FJ.enter (N := 17) Try.func29 rfl rfl (by simp) [(0, .agg #[.slice A0_0 x.blocks.length c0_0, .slice A0_1 x.cache.length c0_1]), (1, .agg #[.slice A1_0 y.blocks.length c1_0, .slice A1_1 y.cache.length c1_1])] (by simp) (l0 := []) trivial ?_
 refine FJ.seq (FJ.region ?_)
 refine FJ.e (goes_list rfl) rfl (by decide) rfl (e_box (cs := [.slice A0_0 x.blocks.length c0_0, .slice A0_1 x.cache.length c0_1]) (n := 2) rfl (.t .z) rfl rfl) ?_
 rintro _ _ ⟨g5, rfl, rfl⟩
 refine FJ.e (goes_list rfl) rfl (by decide) rfl (e_box (cs := [.slice A1_0 y.blocks.length c1_0, .slice A1_1 y.cache.length c1_1]) (n := 2) rfl (.t (.s (.s .z))) rfl rfl) ?_
 rintro _ _ ⟨g6, rfl, rfl⟩
 refine FJ.ql rfl (q_assign rfl .c) (FJ.nil (FJ.then_ (FJ.seq (FJ.seq ?_))))
 refine FJ.region (FJ.ql rfl (q_fieldAddr rfl (.t (.s (.s .z))) (fun _ => fa_25_0 _ _)) (FJ.ql rfl (q_load rfl ag_22 (.t .z) (WS.row (.s .z) rfl)) (FJ.ql rfl (q_fieldAddr rfl (.t (.s (.s (.s .z)))) (fun _ => fa_25_0 _ _)) (FJ.ql rfl (q_load rfl ag_22 (.t .z) (WS.row .z rfl)) ?_))))
 refine FJ.call (goes_list rfl) rfl (by decide) rfl (c_call rfl Try.func87 rfl rfl (args2 (.t (.s (.s .z))) (.t .z))) .n (fun w1 S1 hs tr => c_87 (tr.ctx h0_0) (tr.ctx h1_0)) ?_
 rintro _ _ ⟨rfl, rfl⟩
 refine FJ.cat .n ?_
 refine FJ.ql rfl (q_not rfl (.t .z)) (FJ.nil (FJ.then_ ?_))
 refine FJ.condN (.t .z) (fun b7 => ?_) (fun b7 => ?_)
 refine FJ.seq (FJ.region (FJ.er (.s4 (.s (.s .z))) (FJ.ql rfl (q_assign rfl .c) (FJ.nil ?_))))
 refine FJ.then_ (FJ.ret (FJ.thenR ?_))
 refine FJ.doneS (res1 rfl .z) .n ?_
 exact ⟨by rw [decide_eq_false]; rintro rfl; simp_all, rfl⟩
 refine FJ.skip (FJ.then_ (FJ.seq (FJ.seq (FJ.region ?_))))
 refine FJ.ql rfl (q_fieldAddr rfl (.t (.s4 (.s4 .z))) (fun _ => fa_25_1 _ _)) (FJ.ql rfl (q_load rfl ag_23 (.t .z) (WS.row (.s .z) rfl)) (FJ.ql rfl (q_fieldAddr rfl (.t (.s4 (.s4 (.s .z)))) (fun _ => fa_25_1 _ _)) (FJ.ql rfl (q_load rfl ag_23 (.t .z) (WS.row .z rfl)) ?_)))
 refine FJ.call (goes_list rfl) rfl (by decide) rfl (c_call rfl Try.func88 rfl rfl (args2 (.t (.s (.s .z))) (.t .z))) .n (fun w1 S1 hs tr => c_88 (tr.ctx h0_1) (tr.ctx h1_1)) ?_
 rintro _ _ ⟨rfl, rfl⟩
 refine FJ.cat .n ?_
 refine FJ.ql rfl (q_not rfl (.t .z)) (FJ.nil (FJ.then_ ?_))
 refine FJ.condN (.t .z) (fun b8 => ?_) (fun b8 => ?_)
 refine FJ.seq (FJ.region (FJ.er (.s4 (.s4 (.s4 .z))) (FJ.ql rfl (q_assign rfl .c) (FJ.nil ?_))))
 refine FJ.then_ (FJ.ret (FJ.thenR ?_))
 refine FJ.doneS (res1 rfl .z) .n ?_
 exact ⟨by rw [decide_eq_false]; rintro rfl; simp_all, rfl⟩
 refine FJ.skip (FJ.then_ (FJ.seq (FJ.region (FJ.er (.s4 (.s4 (.s4 .z))) ?_))))
 refine FJ.ql rfl (q_assign rfl .c) (FJ.nil (FJ.then_ (FJ.ret ?_)))
 refine FJ.doneS (res1 rfl .z) .n ?_
 exact ⟨by rw [decide_eq_true]; cases x; cases y; simp_all, rfl⟩

end Go.Proofs.Ytkmcpcahbfdohaa

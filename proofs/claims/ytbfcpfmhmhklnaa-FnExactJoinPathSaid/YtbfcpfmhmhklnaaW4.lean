/- What is proved: contracts of functions, one a function. No condition. -/
import Derived.Test.YtbfcpfmhmhklnaaTypes
import Derived.Test.YtbfcpfmhmhklnaaBase1
namespace Go.Proofs.Ytbfcpfmhmhklnaa
open Go Go.RowKit
set_option linter.unusedVariables false
set_option linter.unusedSimpArgs false
set_option maxHeartbeats 1000000 in
set_option maxRecDepth 20000 in
theorem c_4 {w0 : World} {S0 : Bs} {x : (List ByteArray)} {v0 : Value} (h0 : kSl_9.ro w0 (FF w0 S0) x [v0]) (n : Int) (hn0 : 0 ≤ n) (hn1 : n ≤ 1048576) :
    Calls Try.prog 4 #[v0, .int .i64 n] w0 (TriPost w0 S0 (fun r l => ∃ c : Int, r = .int .i64 c ∧ c ≤ n ∧ (0 ≤ c → ((x.length + sumF (fun x => x.size) x) : Int) ≤ n - c) ∧ l = [])) := by
 obtain ⟨A0, c0, rfl, hl0, hm0, hb0, he0⟩ := ro_form h0
 refine FJ.enter (N := 28) Try.func4 rfl rfl (by simp) [(0, .slice A0 x.length c0), (1, .int .i64 n)] (by simp) (l0 := []) trivial ?_
 refine FJ.seq (FJ.region (FJ.ql rfl (q_assign rfl .c) (FJ.nil (FJ.then_ ?_))))
 refine FJ.seq (FJ.region (FJ.ql rfl (q_move rfl (.t (.s (.s .z)))) (FJ.ql rfl (q_move rfl (.t (.s (.s .z)))) (FJ.ql rfl (q_len rfl u_22 (.t .z)) ?_))))
 refine FJ.ql rfl (q_sub (c := n - (x.length : Int)) rfl (.t (.s (.s .z))) (.t .z) (wr (by omega) (by omega) (by omega))) ?_
 refine FJ.er (.s4 (.s (.s .z))) (FJ.ql rfl (q_assign rfl (.t .z)) (FJ.nil (FJ.then_ (FJ.seq ?_))))
 refine FJ.seq (FJ.region (FJ.ql rfl (q_move rfl (.t .z)) (FJ.ql rfl (q_lss rfl (.t .z) .c) (FJ.nil ?_))))
 refine FJ.then_ ?_
 refine FJ.condP (.t .z) (fun b2 => ?_) (fun b2 => ?_)
 refine FJ.seq (FJ.region (FJ.er (.s4 (.s (.s (.s .z)))) (FJ.ql rfl (q_assign rfl .c) (FJ.nil ?_))))
 refine FJ.then_ (FJ.ret (FJ.thenR ?_))
 refine FJ.doneS (res1 rfl .z) .n ?_
 exact ⟨(-1), rfl, by omega, by omega, rfl⟩
 refine FJ.skip (FJ.then_ (FJ.seq (FJ.seq (FJ.region ?_))))
 refine FJ.ql rfl (q_assign rfl .c) (FJ.nil (FJ.then_ (FJ.block ?_)))
 refine FJ.loopi (γ := Nat × Int) (fun ⟨k, c⟩ => [(5, .int .i64 (k : Int)), (1, .int .i64 c), (0, .slice A0 x.length c0)]) (fun ⟨k, c⟩ => []) (fun ⟨k, c⟩ => k ≤ x.length ∧ 0 ≤ c ∧ (sumF (fun x => x.size) (x.take k) : Int) ≤ n - x.length - c) (fun ⟨k, c⟩ => x.length - k) (0, (n - (x.length : Int))) ⟨Nat.zero_le _, by omega, by simp only [List.take_zero, sumF]; omega⟩ (.c .z (.c (.s (.s (.s .z))) (.c (.s4 (.s4 (.s .z))) .n))) (fun _ h => h) ?_
 rintro ⟨k, c⟩ ⟨hk, hc, hw⟩
 refine FJ.seq (FJ.seq (FJ.region (FJ.ql rfl (q_move rfl (.t .z)) (FJ.ql rfl (q_move rfl (.t (.s (.s (.s .z))))) ?_))))
 refine FJ.ql rfl (q_len rfl u_22 (.t .z)) (FJ.ql rfl (q_lss rfl (.t (.s (.s .z))) (.t .z)) (FJ.nil (FJ.then_ ?_)))
 refine FJ.condP (.t .z) (fun b3 => ?_) (fun b3 => ?_)
 refine FJ.skip (FJ.then_ (FJ.seq (FJ.block (FJ.seq ?_))))
 refine FJ.region (FJ.ql rfl (q_move rfl (.t (.s4 (.s .z)))) (FJ.ql rfl (q_move rfl (.t (.s4 (.s (.s (.s .z)))))) (FJ.ql rfl (q_move rfl (.t (.s4 (.s (.s .z))))) ?_)))
 obtain ⟨ad4, hAad4, hrad4⟩ := he0 (by omega)
 subst hAad4
 obtain ⟨x5, hx5⟩ := get_ex (xs := x) (j := k) (by omega)
 obtain ⟨ece6, hre6, hFe6, hce6⟩ := hrad4.elem hx5
 obtain ⟨rfl, se6⟩ := hre6
 refine FJ.ql rfl (q_indexAddr (j := k) rfl u_22 sz_9 (.t (.s .z)) (.t .z) rfl (by omega)) ?_
 refine FJ.ql rfl (q_load rfl ag_9 (.t .z) (WS.el0 hFe6 hce6 rfl)) (FJ.ql rfl (q_len_s rfl u_9 (.t .z)) ?_)
 refine FJ.ql rfl (q_sub (c := c - (x5.size : Int)) rfl (.t (.s4 (.s .z))) (.t .z) (wr (by omega) (by omega) (by omega))) ?_
 refine FJ.er (.s4 (.s4 (.s4 .z))) (FJ.ql rfl (q_assign rfl (.t .z)) (FJ.nil (FJ.then_ (FJ.seq ?_))))
 refine FJ.region (FJ.ql rfl (q_move rfl (.t .z)) (FJ.ql rfl (q_lss rfl (.t .z) .c) (FJ.nil (FJ.then_ ?_))))
 refine FJ.condP (.t .z) (fun b7 => ?_) (fun b7 => ?_)
 refine FJ.seq (FJ.region (FJ.ql rfl (q_assign rfl .c) (FJ.nil (FJ.then_ ?_))))
 refine FJ.ret (FJ.inBR (FJ.thenR (FJ.thenR (FJ.inBR ?_))))
 refine FJ.thenR ?_
 refine FJ.doneS (res1 rfl .z) .n ?_
 exact ⟨(-1), rfl, by omega, by omega, rfl⟩
 refine FJ.skip (FJ.inBN (FJ.then_ (FJ.region (FJ.ql rfl (q_move rfl (.t (.s4 (.s4 (.s4 (.s (.s .z))))))) ?_))))
 refine FJ.ql rfl (q_add (c := ((k + 1 : Nat) : Int)) rfl (.t .z) .c (wr (by omega) (by omega) (by omega))) ?_
 refine FJ.er (.s16 .z) (FJ.ql rfl (q_assign rfl (.t .z)) (FJ.nil ?_))
 have hs := sumF_take (fun x => x.size) hx5; try simp only at hs
 refine FJ.again ((k + 1), c - (x5.size : Int)) ⟨by omega, ⟨by omega, by rw [hs]; omega⟩⟩ (by first | omega | (dsimp only; omega)) (.c .z (.c (.s4 (.s .z)) (.c (.s16 (.s .z)) .n))) (fun _ h => h)
 refine FJ.exit (FJ.thenE (FJ.thenE (FJ.inB (FJ.then_ ?_))))
 refine FJ.seq (FJ.region (FJ.ql rfl (q_move rfl (.t (.s4 (.s .z)))) (FJ.ql rfl (q_assign rfl (.t .z)) (FJ.nil ?_))))
 refine FJ.then_ (FJ.ret ?_)
 refine FJ.doneS (res1 rfl .z) .n ?_
 exact ⟨c, rfl, by omega, by rw [sumF_all _ (by omega)] at hw; omega, rfl⟩

set_option maxHeartbeats 1000000 in
set_option maxRecDepth 20000 in
theorem c_6 {w0 : World} {S0 : Bs} {x : (List ByteArray)} {v0 : Value} (h0 : kSl_9.ro w0 (FF w0 S0) x [v0])  :
    Calls Try.prog 6 #[v0] w0 (TriPost w0 S0 (fun r l => l = [ownA kSl_9 x [r]])) := by
 obtain ⟨A0, c0, rfl, hl0, hm0, hb0, he0⟩ := ro_form h0
 refine FJ.enter (N := 22) Try.func6 rfl rfl (by simp) [(0, .slice A0 x.length c0)] (by simp) (l0 := []) trivial ?_
 refine FJ.seq (FJ.region (FJ.ql rfl (q_assign rfl .c) (FJ.nil (FJ.then_ ?_))))
 refine FJ.seq (FJ.region (FJ.ql rfl (q_move rfl (.t (.s .z))) (FJ.ql rfl (q_len rfl u_22 (.t .z)) ?_)))
 refine FJ.e (goes_list rfl) rfl (by decide) rfl (e_makeSlice (n := x.length) (x0 := (⟨#[]⟩ : ByteArray)) rfl u_22 inf_9 rfl (fun _ _ => ⟨rfl, by decide⟩) (.t .z) (.t .z) (by omega) (by omega)) ?_
 rintro _ _ rfl
 refine FJ.know (WS.oform .z) ?_
 rintro ⟨Ao3, co3, rfl, hlo3, hmo3, hbo3⟩
 refine FJ.ql rfl (q_assign rfl (.t .z)) (FJ.nil (FJ.then_ (FJ.seq (FJ.seq ?_))))
 refine FJ.region (FJ.ql rfl (q_assign rfl .c) (FJ.nil (FJ.then_ (FJ.block ?_))))
 refine FJ.ceq .z (fillC_zero x (⟨#[]⟩ : ByteArray)) ?_
 refine FJ.loopi (γ := Nat) (fun k => [(4, .int .i64 (k : Int)), (3, .slice Ao3 (List.replicate x.length (⟨#[]⟩ : ByteArray)).length co3), (2, .slice none 0 0), (0, .slice A0 x.length c0)]) (fun k => [ownA kSl_9 (fillC x (⟨#[]⟩ : ByteArray) k) [.slice Ao3 (List.replicate x.length (⟨#[]⟩ : ByteArray)).length co3]]) (fun k => k ≤ x.length) (fun k => x.length - k) 0 (Nat.zero_le _) (.c .z (.c (.s .z) (.c (.s4 (.s .z)) (.c (.s4 (.s (.s .z))) .n)))) (fun _ h => h.sel (.c .z .n)) ?_
 rintro k hk
 refine FJ.seq (FJ.seq (FJ.region (FJ.ql rfl (q_move rfl (.t .z)) (FJ.ql rfl (q_move rfl (.t (.s4 .z))) ?_))))
 refine FJ.ql rfl (q_len rfl u_22 (.t .z)) (FJ.ql rfl (q_lss rfl (.t (.s (.s .z))) (.t .z)) (FJ.nil (FJ.then_ ?_)))
 refine FJ.condP (.t .z) (fun b4 => ?_) (fun b4 => ?_)
 refine FJ.skip (FJ.then_ (FJ.seq (FJ.block (FJ.region ?_))))
 refine FJ.ql rfl (q_move rfl (.t (.s4 (.s .z)))) (FJ.ql rfl (q_move rfl (.t (.s4 (.s .z)))) (FJ.ql rfl (q_move rfl (.t (.s4 (.s4 (.s .z))))) (FJ.ql rfl (q_move rfl (.t (.s4 (.s (.s (.s .z)))))) ?_)))
 obtain ⟨ad5, hAad5, hrad5⟩ := he0 (by omega)
 subst hAad5
 obtain ⟨x6, hx6⟩ := get_ex (xs := x) (j := k) (by first | omega | (rw [fillC_len (by omega)]; omega) | (rw [List.length_replicate]; omega))
 obtain ⟨ece7, hre7, hFe7, hce7⟩ := hrad5.elem hx6
 obtain ⟨rfl, se7⟩ := hre7
 refine FJ.ql rfl (q_indexAddr (j := k) rfl u_22 sz_9 (.t (.s .z)) (.t .z) rfl (by first | omega | (rw [fillC_len (by omega)]; omega) | (rw [List.length_replicate]; omega))) ?_
 refine FJ.ql rfl (q_load rfl ag_9 (.t .z) (WS.el0 hFe7 hce7 rfl)) ?_
 refine FJ.know (WS.oad .z (by rw [fillC_len (by omega)]; omega)) ?_
 rintro ⟨ad8, rfl⟩
 refine FJ.ql rfl (q_indexAddr (j := k) rfl u_22 sz_9 (.t (.s4 (.s .z))) (.t (.s4 .z)) rfl (by first | omega | (rw [fillC_len (by omega)]; omega) | (rw [List.length_replicate]; omega))) ?_
 refine FJ.add (c := ownA kstr x6 [.string x6]) (fun _ _ => ⟨rfl, by assumption⟩) ?_
 refine FJ.es (goes_list rfl) rfl (es_set (j := k) rfl sz_9 (.t .z) (.t (.s .z)) rfl (.c (.s .z) (.c .z .n)) (by first | omega | (rw [fillC_len (by omega)]; omega) | (rw [List.length_replicate]; omega))) ?_
 refine FJ.ceq .z (fillC_set hx6) ?_
 refine FJ.nil (FJ.inBN (FJ.then_ (FJ.region (FJ.ql rfl (q_move rfl (.t (.s4 (.s4 (.s (.s (.s .z))))))) ?_))))
 refine FJ.ql rfl (q_add (c := ((k + 1 : Nat) : Int)) rfl (.t .z) .c (wr (by omega) (by omega) (by omega))) ?_
 refine FJ.er (.s4 (.s4 (.s4 (.s .z)))) (FJ.ql rfl (q_assign rfl (.t .z)) (FJ.nil ?_))
 refine FJ.again (k + 1) (by omega) (by first | omega | (dsimp only; omega)) (.c .z (.c (.s4 (.s4 (.s4 (.s (.s .z))))) (.c (.s4 (.s4 (.s4 (.s (.s (.s .z)))))) (.c (.s16 .z) .n)))) (fun _ h => h.sel (.c .z .n))
 refine FJ.exit (FJ.thenE (FJ.thenE (FJ.inB (FJ.then_ ?_))))
 refine FJ.seq (FJ.region (FJ.ql rfl (q_move rfl (.t (.s4 (.s .z)))) (FJ.er (.s4 (.s (.s (.s .z)))) (FJ.ql rfl (q_assign rfl (.t .z)) ?_))))
 refine FJ.nil (FJ.then_ (FJ.ret ?_))
 refine FJ.ceq .z (fillC_all (by omega)) ?_
 refine FJ.doneS (res1 rfl .z) (.c .z .n) ?_
 rfl

set_option maxHeartbeats 1000000 in
set_option maxRecDepth 20000 in
theorem c_9 {w0 : World} {S0 : Bs} {x : (List ByteArray)} {v0 : Value} (h0 : kSl_9.ro w0 (FF w0 S0) x [v0]) {y : (List ByteArray)} {v1 : Value} (h1 : kSl_9.ro w0 (FF w0 S0) y [v1])  :
    Calls Try.prog 9 #[v0, v1] w0 (TriPost w0 S0 (fun r l => r = .bool (decide (x = y)) ∧ l = [])) := by
 obtain ⟨A0, c0, rfl, hl0, hm0, hb0, he0⟩ := ro_form h0
 obtain ⟨A1, c1, rfl, hl1, hm1, hb1, he1⟩ := ro_form h1
 refine FJ.enter (N := 26) Try.func9 rfl rfl (by simp) [(0, .slice A0 x.length c0), (1, .slice A1 y.length c1)] (by simp) (l0 := []) trivial ?_
 refine FJ.seq (FJ.region (FJ.ql rfl (q_assign rfl .c) (FJ.nil (FJ.then_ ?_))))
 refine FJ.seq (FJ.seq (FJ.region (FJ.ql rfl (q_move rfl (.t (.s .z))) (FJ.ql rfl (q_len rfl u_22 (.t .z)) ?_))))
 refine FJ.ql rfl (q_move rfl (.t (.s4 .z))) (FJ.ql rfl (q_len rfl u_22 (.t .z)) (FJ.ql rfl (q_neq rfl (.t (.s (.s .z))) (.t .z)) (FJ.nil (FJ.then_ ?_))))
 refine FJ.condN (.t .z) (fun b3 => ?_) (fun b3 => ?_)
 refine FJ.seq (FJ.region (FJ.er (.s4 (.s .z)) (FJ.ql rfl (q_assign rfl .c) (FJ.nil ?_))))
 refine FJ.then_ (FJ.ret (FJ.thenR ?_))
 refine FJ.doneS (res1 rfl .z) .n ?_
 exact ⟨by rw [decide_eq_false (fun h => by subst h; omega)], rfl⟩
 refine FJ.skip (FJ.then_ (FJ.seq (FJ.seq (FJ.region ?_))))
 refine FJ.ql rfl (q_assign rfl .c) (FJ.nil (FJ.then_ (FJ.block ?_)))
 refine FJ.loopi (γ := Nat) (fun k => [(5, .int .i64 (k : Int)), (0, .slice A0 x.length c0), (1, .slice A1 y.length c1)]) (fun k => []) (fun k => k ≤ x.length ∧ ∀ j, j < k → x[j]? = y[j]?) (fun k => x.length - k) 0 ⟨Nat.zero_le _, all_eq_zero⟩ (.c .z (.c (.s4 (.s (.s (.s .z)))) (.c (.s4 (.s4 .z)) .n))) (fun _ h => h) ?_
 rintro k ⟨hk, hallk⟩
 refine FJ.seq (FJ.seq (FJ.region (FJ.ql rfl (q_move rfl (.t .z)) (FJ.ql rfl (q_move rfl (.t (.s (.s .z)))) ?_))))
 refine FJ.ql rfl (q_len rfl u_22 (.t .z)) (FJ.ql rfl (q_lss rfl (.t (.s (.s .z))) (.t .z)) (FJ.nil (FJ.then_ ?_)))
 refine FJ.condP (.t .z) (fun b4 => ?_) (fun b4 => ?_)
 refine FJ.skip (FJ.then_ (FJ.seq (FJ.block (FJ.seq ?_))))
 refine FJ.draw [] 9 (by kernel_rfl) ?_
 refine FJ.sch [(0, true), (1, true), (2, true), (3, true), (4, true), (5, true), (6, true), (7, true), (8, true)] 0 #[true, true, true, true, true, true, true, true, true] (by rfl) (by kernel_rfl) ?_
 refine FJ.dq rfl rfl rfl (by decide) rfl .z (q_move rfl (.t (.s4 (.s .z)))) (FJ.dq rfl rfl rfl (by decide) rfl .z (q_move rfl (.t (.s4 (.s .z)))) ?_)
 obtain ⟨ad5, hAad5, hrad5⟩ := he0 (by omega)
 subst hAad5
 obtain ⟨x6, hx6⟩ := get_ex (xs := x) (j := k) (by omega)
 obtain ⟨ece7, hre7, hFe7, hce7⟩ := hrad5.elem hx6
 obtain ⟨rfl, se7⟩ := hre7
 refine FJ.dq rfl rfl rfl (by decide) rfl .z (q_indexAddr (j := k) rfl u_22 sz_9 (.t (.s .z)) (.t .z) rfl (by omega)) ?_
 refine FJ.dq rfl rfl rfl (by decide) rfl .z (q_load rfl ag_9 (.t .z) (WS.el0 hFe7 hce7 rfl)) (FJ.dq rfl rfl rfl (by decide) rfl .z (q_move rfl (.t (.s4 (.s4 (.s (.s .z)))))) (FJ.dq rfl rfl rfl (by decide) rfl .z (q_move rfl (.t (.s4 (.s4 (.s .z))))) ?_))
 obtain ⟨ad8, hAad8, hrad8⟩ := he1 (by omega)
 subst hAad8
 obtain ⟨x9, hx9⟩ := get_ex (xs := y) (j := k) (by omega)
 obtain ⟨ece10, hre10, hFe10, hce10⟩ := hrad8.elem hx9
 obtain ⟨rfl, se10⟩ := hre10
 refine FJ.dq rfl rfl rfl (by decide) rfl .z (q_indexAddr (j := k) rfl u_22 sz_9 (.t (.s .z)) (.t .z) rfl (by omega)) ?_
 refine FJ.dq rfl rfl rfl (by decide) rfl .z (q_load rfl ag_9 (.t .z) (WS.el0 hFe10 hce10 rfl)) (FJ.dq rfl rfl rfl (by decide) rfl .z (q_sneq rfl (.t (.s4 .z)) (.t .z)) (FJ.schN ?_))
 refine FJ.drawN (by kernel_rfl) ?_
 refine FJ.then_ ?_
 refine FJ.condN (.t .z) (fun b11 => ?_) (fun b11 => ?_)
 refine FJ.seq (FJ.region (FJ.ql rfl (q_assign rfl .c) (FJ.nil (FJ.then_ ?_))))
 refine FJ.ret (FJ.inBR (FJ.thenR (FJ.thenR (FJ.inBR ?_))))
 refine FJ.thenR ?_
 refine FJ.doneS (res1 rfl .z) .n ?_
 exact ⟨by rw [decide_eq_false (ne_of_get hx6 hx9 (by first | assumption | (intro e; subst e; contradiction) | (simp_all; done)))], rfl⟩
 refine FJ.skip (FJ.inBN (FJ.then_ (FJ.region (FJ.ql rfl (q_move rfl (.t (.s4 (.s4 (.s4 (.s .z)))))) ?_))))
 refine FJ.ql rfl (q_add (c := ((k + 1 : Nat) : Int)) rfl (.t .z) .c (wr (by omega) (by omega) (by omega))) ?_
 refine FJ.er (.s4 (.s4 (.s4 (.s (.s (.s .z)))))) (FJ.ql rfl (q_assign rfl (.t .z)) (FJ.nil ?_))
 refine FJ.again (k + 1) ⟨by omega, all_eq_succ hallk hx6 hx9 (by first | assumption | exact byte_eq (by assumption) | (simp_all; done))⟩ (by first | omega | (dsimp only; omega)) (.c .z (.c (.s16 .z) (.c (.s16 (.s .z)) .n))) (fun _ h => h)
 refine FJ.exit (FJ.thenE (FJ.thenE (FJ.inB (FJ.then_ ?_))))
 refine FJ.seq (FJ.region (FJ.ql rfl (q_assign rfl .c) (FJ.nil (FJ.then_ ?_))))
 refine FJ.ret ?_
 refine FJ.doneS (res1 rfl .z) .n ?_
 exact ⟨by rw [decide_eq_true (eq_of_all (by omega) (by omega) hallk)], rfl⟩

set_option maxHeartbeats 1000000 in
set_option maxRecDepth 20000 in
theorem c_8 {w0 : World} {S0 : Bs} {x : RText} {cs0 : List Value} (h0 : kT_25.ro w0 (FF w0 S0) x cs0) {y : RText} {cs1 : List Value} (h1 : kT_25.ro w0 (FF w0 S0) y cs1)  :
    Calls Try.prog 8 #[.agg cs0.toArray, .agg cs1.toArray] w0 (TriPost w0 S0 (fun r l => r = .bool (decide (x = y)) ∧ l = [])) := by
 obtain ⟨rfl, s0_1⟩ := kT_25_ro h0
 obtain ⟨rfl, s1_1⟩ := kT_25_ro h1
 refine FJ.enter (N := 15) Try.func8 rfl rfl (by simp) [(0, .agg #[.int .i64 x.code, .string x.text]), (1, .agg #[.int .i64 y.code, .string y.text])] (by simp) (l0 := []) trivial ?_
 refine FJ.seq (FJ.region ?_)
 refine FJ.e (goes_list rfl) rfl (by decide) rfl (e_box (cs := [.int .i64 x.code, .string x.text]) (n := 2) rfl (.t .z) rfl rfl) ?_
 rintro _ _ ⟨g1, rfl, rfl⟩
 refine FJ.e (goes_list rfl) rfl (by decide) rfl (e_box (cs := [.int .i64 y.code, .string y.text]) (n := 2) rfl (.t (.s (.s .z))) rfl rfl) ?_
 rintro _ _ ⟨g2, rfl, rfl⟩
 refine FJ.ql rfl (q_assign rfl .c) (FJ.nil (FJ.then_ (FJ.seq (FJ.seq ?_))))
 refine FJ.region (FJ.ql rfl (q_fieldAddr rfl (.t (.s (.s .z))) (fun _ => fa_25_0 _ _)) (FJ.ql rfl (q_load rfl ag_2 (.t .z) (WS.row (.s .z) rfl)) (FJ.ql rfl (q_fieldAddr rfl (.t (.s (.s (.s .z)))) (fun _ => fa_25_0 _ _)) (FJ.ql rfl (q_load rfl ag_2 (.t .z) (WS.row .z rfl)) ?_))))
 refine FJ.ql rfl (q_neq rfl (.t (.s (.s .z))) (.t .z)) (FJ.nil (FJ.then_ ?_))
 refine FJ.condN (.t .z) (fun b3 => ?_) (fun b3 => ?_)
 refine FJ.seq (FJ.region (FJ.er (.s4 (.s .z)) (FJ.ql rfl (q_assign rfl .c) (FJ.nil ?_))))
 refine FJ.then_ (FJ.ret (FJ.thenR ?_))
 refine FJ.doneS (res1 rfl .z) .n ?_
 exact ⟨by rw [decide_eq_false]; rintro rfl; simp_all, rfl⟩
 refine FJ.skip (FJ.then_ (FJ.seq (FJ.seq (FJ.region ?_))))
 refine FJ.ql rfl (q_fieldAddr rfl (.t (.s4 (.s (.s (.s .z))))) (fun _ => fa_25_1 _ _)) (FJ.ql rfl (q_load rfl ag_9 (.t .z) (WS.row (.s .z) rfl)) (FJ.ql rfl (q_fieldAddr rfl (.t (.s4 (.s4 .z))) (fun _ => fa_25_1 _ _)) (FJ.ql rfl (q_load rfl ag_9 (.t .z) (WS.row .z rfl)) (FJ.ql rfl (q_sneq rfl (.t (.s (.s .z))) (.t .z)) ?_))))
 refine FJ.nil (FJ.then_ ?_)
 refine FJ.condN (.t .z) (fun b4 => ?_) (fun b4 => ?_)
 refine FJ.seq (FJ.region (FJ.er (.s4 (.s4 (.s (.s .z)))) (FJ.ql rfl (q_assign rfl .c) (FJ.nil ?_))))
 refine FJ.then_ (FJ.ret (FJ.thenR ?_))
 refine FJ.doneS (res1 rfl .z) .n ?_
 exact ⟨by rw [decide_eq_false]; rintro rfl; simp_all, rfl⟩
 refine FJ.skip (FJ.then_ (FJ.seq (FJ.region (FJ.er (.s4 (.s4 (.s (.s .z)))) ?_))))
 refine FJ.ql rfl (q_assign rfl .c) (FJ.nil (FJ.then_ (FJ.ret ?_)))
 refine FJ.doneS (res1 rfl .z) .n ?_
 exact ⟨by rw [decide_eq_true]; cases x; cases y; simp_all, rfl⟩

end Go.Proofs.Ytbfcpfmhmhklnaa

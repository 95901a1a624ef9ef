/- What is proved: contracts of functions, one a function. No condition. -/
import Derived.Test.YticaddophhggoaaW24
import Derived.Test.YticaddophhggoaaBase2
namespace Go.Proofs.Yticaddophhggoaa
open Go Go.RowKit
set_option linter.unusedVariables false
set_option linter.unusedSimpArgs false
set_option maxHeartbeats 1000000 in
set_option maxRecDepth 20000 in
theorem c_12 {w0 : World} {S0 : Bs} {f : DFs} {ad0 : Addr} (h0 : PtrRo kT_30 w0 (FF w0 S0) ad0 f) (a : Int)  :
    Calls Try.prog 12 #[.pointer (some ad0), .int .i64 a] w0 (TriPost w0 S0 (fun r l => r = .bool (decide (placeIn f.inodes.length a)) ∧ l = [])) := by
 obtain ⟨ec0, hF0, hr0, hc0⟩ := id h0
 obtain ⟨u0_0, u0_1, rfl, h0_0, h0_1⟩ := kT_30_ro hr0
 obtain ⟨A0_0, c0_0, rfl, hl0_0, hm0_0, hb0_0, he0_0⟩ := ro_form h0_0
 obtain ⟨A0_1, c0_1, rfl, hl0_1, hm0_1, hb0_1, he0_1⟩ := ro_form h0_1
 refine FJ.enter (N := 13) Try.func12 rfl rfl (by simp) [(0, .pointer (some ad0)), (1, .int .i64 a)] (by simp) (l0 := []) trivial ?_
 refine FJ.seq (FJ.region (FJ.ql rfl (q_assign rfl .c) (FJ.nil (FJ.then_ ?_))))
 refine FJ.seq (FJ.region (FJ.ql rfl (q_move rfl (.t (.s (.s .z)))) (FJ.ql rfl (q_move rfl (.t (.s (.s .z)))) (FJ.ql rfl (q_nilCheck rfl (.t .z)) ?_))))
 refine FJ.ql rfl (q_fieldAddr rfl (.t .z) (fun _ => fa_30_0 _ _)) (FJ.ql rfl (q_load rfl ag_28 (.t .z) (WS.el hF0 hc0 rfl)) (FJ.ql rfl (q_len rfl u_28 (.t .z)) ?_))
 refine FJ.ql rfl (q_sub (c := (f.inodes.length : Int) - 1) rfl (.t .z) .c (wr (by omega) (by omega) (by omega))) ?_
 refine FJ.call (goes_list rfl) rfl (by decide) rfl (c_call rfl Try.func27 rfl rfl (args3 (.t (.s4 (.s (.s .z)))) .c (.t .z))) .n (fun w1 S1 hs tr => c_27 _ _ _) ?_
 rintro _ _ ⟨rfl, rfl⟩
 refine FJ.cat .n ?_
 refine FJ.er (.s4 (.s4 .z)) (FJ.ql rfl (q_assign rfl (.t .z)) (FJ.nil (FJ.then_ (FJ.ret ?_))))
 refine FJ.doneS (res1 rfl .z) .n ?_
 exact ⟨rfl, rfl⟩

set_option maxHeartbeats 1000000 in
set_option maxRecDepth 20000 in
theorem c_17 {w0 : World} {S0 : Bs} {f : DFs} {ad0 : Addr} (h0 : PtrRo kT_30 w0 (FF w0 S0) ad0 f) (a : Int)  :
    Calls Try.prog 17 #[.pointer (some ad0), .int .i64 a] w0 (TriPost w0 S0 (fun r l => r = .bool (decide (keptAt f a)) ∧ l = [])) := by
 obtain ⟨ec0, hF0, hr0, hc0⟩ := id h0
 obtain ⟨u0_0, u0_1, rfl, h0_0, h0_1⟩ := kT_30_ro hr0
 obtain ⟨A0_0, c0_0, rfl, hl0_0, hm0_0, hb0_0, he0_0⟩ := ro_form h0_0
 obtain ⟨A0_1, c0_1, rfl, hl0_1, hm0_1, hb0_1, he0_1⟩ := ro_form h0_1
 refine FJ.enter (N := 24) Try.func17 rfl rfl (by simp) [(0, .pointer (some ad0)), (1, .int .i64 a)] (by simp) (l0 := []) trivial ?_
 refine FJ.seq (FJ.region (FJ.ql rfl (q_assign rfl .c) (FJ.nil (FJ.then_ ?_))))
 refine FJ.seq (FJ.region (FJ.ql rfl (q_move rfl (.t (.s (.s .z)))) (FJ.ql rfl (q_move rfl (.t (.s (.s .z)))) (FJ.ql rfl (q_nilCheck rfl (.t .z)) ?_))))
 refine FJ.ql rfl (q_fieldAddr rfl (.t .z) (fun _ => fa_30_0 _ _)) (FJ.ql rfl (q_load rfl ag_28 (.t .z) (WS.el hF0 hc0 rfl)) ?_)
 refine FJ.call (goes_list rfl) rfl (by decide) rfl (c_call rfl Try.func34 rfl rfl (args1 (.t .z))) .n (fun w1 S1 hs tr => c_34 (tr.ctx h0_0)) ?_
 rintro _ _ ⟨rfl, rfl⟩
 refine FJ.cat .n ?_
 refine FJ.ql rfl (q_sub (c := (f.inodes.length : Int) - 1) rfl (.t .z) .c (wr (by omega) (by omega) (by omega))) ?_
 refine FJ.call (goes_list rfl) rfl (by decide) rfl (c_call rfl Try.func33 rfl rfl (args3 (.t (.s4 (.s (.s .z)))) .c (.t .z))) .n (fun w1 S1 hs tr => c_33 _ _ _) ?_
 rintro _ _ ⟨rfl, rfl⟩
 refine FJ.cat .n ?_
 refine FJ.ql rfl (q_move rfl (.t .z)) ?_
 refine FJ.caseP .z (fun g3 => ?_) (fun g3 => ?_)
 refine FJ.q (goes_listg rfl rfl .z) rfl (by decide) rfl (q_move rfl (.t (.s4 (.s4 (.s (.s .z)))))) ?_
 refine FJ.q (goes_listg rfl rfl (.s .z)) rfl (by decide) rfl (q_nilCheck rfl (.t .z)) ?_
 refine FJ.q (goes_listg rfl rfl (.s (.s .z))) rfl (by decide) rfl (q_fieldAddr rfl (.t .z) (fun _ => fa_30_0 _ _)) ?_
 refine FJ.q (goes_listg rfl rfl (.s (.s (.s .z)))) rfl (by decide) rfl (q_load rfl ag_28 (.t .z) (WS.el hF0 hc0 rfl)) ?_
 refine FJ.q (goes_listg rfl rfl (.s4 .z)) rfl (by decide) rfl (q_move rfl (.t (.s4 (.s4 (.s4 (.s (.s (.s .z)))))))) ?_
 obtain ⟨ad4, hAad4, hrad4⟩ := he0_0 (by omega)
 subst hAad4
 obtain ⟨x5, hx5⟩ := get_ex (xs := f.inodes) (j := Int.toNat a) (by omega)
 obtain ⟨ece6, hre6, hFe6, hce6⟩ := hrad4.elem hx5
 obtain ⟨ue6_3, ue6_4, rfl, he6_3, he6_4⟩ := kT_42_ro hre6
 obtain ⟨Ae6_3, ce6_3, rfl, hle6_3, hme6_3, hbe6_3, hee6_3⟩ := ro_form he6_3
 obtain ⟨Ae6_4, ce6_4, rfl, hle6_4, hme6_4, hbe6_4, hee6_4⟩ := ro_form he6_4
 have kx5 := kind_at (i := a) hx5 (by omega)
 have nx5 := ents_at (a := a) hx5 (by omega)
 refine FJ.q (goes_listg rfl rfl (.s4 (.s .z))) rfl (by decide) rfl (q_indexAddr (j := Int.toNat a) rfl u_28 sz_42 (.t (.s .z)) (.t .z) (by omega) (by omega)) ?_
 refine FJ.q (goes_listg rfl rfl (.s4 (.s (.s .z)))) rfl (by decide) rfl (q_fieldAddr rfl (.t .z) (fun _ => fa_42_0 _ _)) ?_
 refine FJ.q (goes_listg rfl rfl (.s4 (.s (.s (.s .z))))) rfl (by decide) rfl (q_load rfl ag_2 (.t .z) (WS.el hFe6 hce6 rfl)) ?_
 refine FJ.q (goes_listg rfl rfl (.s4 (.s4 .z))) rfl (by decide) rfl (q_neq rfl (.t .z) .c) ?_
 refine FJ.ql rfl (q_pickT rfl (.t (.s4 (.s4 (.s .z)))) (.t .z)) (FJ.er (.s16 (.s (.s (.s .z)))) (FJ.ql rfl (q_assign rfl (.t .z)) (FJ.nil (FJ.then_ ?_))))
 refine FJ.ret ?_
 refine FJ.doneS (res1 rfl .z) .n ?_
 exact ⟨congrArg Value.bool (by rw [Bool.eq_iff_iff]; simp only [Bool.not_eq_true', decide_eq_false_iff_not, decide_eq_true_eq, keptAt, kx5]; exact ⟨fun hh => ⟨by assumption, hh⟩, fun hh => hh.2⟩), rfl⟩
 refine FJ.skipl rfl rfl .z rfl rfl (by decide) rfl ?_
 refine FJ.skipl rfl rfl (.s .z) rfl rfl (by decide) rfl ?_
 refine FJ.skipl rfl rfl (.s (.s .z)) rfl rfl (by decide) rfl ?_
 refine FJ.skipl rfl rfl (.s (.s (.s .z))) rfl rfl (by decide) rfl ?_
 refine FJ.skipl rfl rfl (.s4 .z) rfl rfl (by decide) rfl ?_
 refine FJ.skipl rfl rfl (.s4 (.s .z)) rfl rfl (by decide) rfl ?_
 refine FJ.skipl rfl rfl (.s4 (.s (.s .z))) rfl rfl (by decide) rfl ?_
 refine FJ.skipl rfl rfl (.s4 (.s (.s (.s .z)))) rfl rfl (by decide) rfl ?_
 refine FJ.skipl rfl rfl (.s4 (.s4 .z)) rfl rfl (by decide) rfl ?_
 refine FJ.ql rfl (q_pickF rfl (.t (.s4 (.s4 (.s .z)))) .c) (FJ.er (.s16 (.s (.s (.s .z)))) (FJ.ql rfl (q_assign rfl (.t .z)) (FJ.nil (FJ.then_ ?_))))
 refine FJ.ret ?_
 refine FJ.doneS (res1 rfl .z) .n ?_
 exact ⟨by rw [decide_eq_false (fun hh => absurd hh.1 (by assumption))], rfl⟩

set_option maxHeartbeats 1000000 in
set_option maxRecDepth 20000 in
theorem c_13s {w0 : World} {S0 : Bs} {f : DFs} {ad0 : Addr} (h0 : PtrRo kT_30 w0 (FF w0 S0) ad0 f) (a : Int) (b : Int) (m : Int) (ht : treeFault f = 0) (hp : placeIn f.inodes.length b) (n : Nat) (hm : m = (n : Int)) (hn : n ≤ 10) (ih : ∀ (n' : Nat), n' < n → ∀ {w0 : World} {S0 : Bs} {f : DFs} {ad0 : Addr} (h0 : PtrRo kT_30 w0 (FF w0 S0) ad0 f) (a b m : Int) (ht : treeFault f = 0) (hp : placeIn f.inodes.length b) (hm : m = (n' : Int)) (hn : n' ≤ 10), Calls Try.prog 13 #[.pointer (some ad0), .int .i64 a, .int .i64 b, .int .i64 m] w0 (TriPost w0 S0 (fun r l => r = .bool (wi f.inodes a n' b) ∧ l = []))) :
    Calls Try.prog 13 #[.pointer (some ad0), .int .i64 a, .int .i64 b, .int .i64 m] w0 (TriPost w0 S0 (fun r l => r = .bool (wi f.inodes a n b) ∧ l = [])) := by
 obtain ⟨ec0, hF0, hr0, hc0⟩ := id h0
 obtain ⟨u0_0, u0_1, rfl, h0_0, h0_1⟩ := kT_30_ro hr0
 obtain ⟨A0_0, c0_0, rfl, hl0_0, hm0_0, hb0_0, he0_0⟩ := ro_form h0_0
 obtain ⟨A0_1, c0_1, rfl, hl0_1, hm0_1, hb0_1, he0_1⟩ := ro_form h0_1
 have hI := treeI ht
 have hG := treeG ht
 obtain ⟨hp1, hp2⟩ := hp
 refine FJ.enter (N := 47) Try.func13 rfl rfl (by simp) [(0, .pointer (some ad0)), (1, .int .i64 a), (2, .int .i64 b), (3, .int .i64 m)] (by simp) (l0 := []) trivial ?_
 refine FJ.seq (FJ.region (FJ.ql rfl (q_assign rfl .c) (FJ.nil (FJ.then_ ?_))))
 refine FJ.seq (FJ.seq (FJ.region (FJ.ql rfl (q_move rfl (.t (.s (.s .z)))) (FJ.ql rfl (q_move rfl (.t (.s4 .z))) ?_))))
 refine FJ.ql rfl (q_eql rfl (.t (.s .z)) (.t .z)) (FJ.nil (FJ.then_ ?_))
 refine FJ.condP (.t .z) (fun b3 => ?_) (fun b3 => ?_)
 refine FJ.seq (FJ.region (FJ.er (.s (.s (.s .z))) (FJ.ql rfl (q_assign rfl .c) (FJ.nil ?_))))
 refine FJ.then_ (FJ.ret (FJ.thenR ?_))
 refine FJ.doneS (res1 rfl .z) .n ?_
 exact ⟨by first | (rw [wi_eq (by omega)]; done), rfl⟩
 refine FJ.skip (FJ.then_ (FJ.seq (FJ.seq (FJ.region ?_))))
 refine FJ.ql rfl (q_assign rfl .c) (FJ.nil (FJ.then_ (FJ.block ?_)))
 obtain ⟨ad4, hAad4, hrad4⟩ := he0_0 (by omega)
 subst hAad4
 obtain ⟨x5, hx5⟩ := get_ex (xs := f.inodes) (j := Int.toNat b) (by omega)
 obtain ⟨ece6, hre6, hFe6, hce6⟩ := hrad4.elem hx5
 obtain ⟨ue6_3, ue6_4, rfl, he6_3, he6_4⟩ := kT_42_ro hre6
 obtain ⟨Ae6_3, ce6_3, rfl, hle6_3, hme6_3, hbe6_3, hee6_3⟩ := ro_form he6_3
 obtain ⟨Ae6_4, ce6_4, rfl, hle6_4, hme6_4, hbe6_4, hee6_4⟩ := ro_form he6_4
 have kx5 := kind_at (i := b) hx5 (by omega)
 have nx5 := ents_at (a := b) hx5 (by omega)
 have iox5 := inodes_all hI _ (List.mem_of_getElem? hx5)
 refine FJ.loopi (γ := Nat) (fun k => [(9, .int .i64 (k : Int)), (0, .pointer (some ad0)), (1, .int .i64 a), (2, .int .i64 b), (3, .int .i64 m)]) (fun k => []) (fun k => k ≤ x5.ents.length ∧ ∀ (j : Nat) (e : DEnt), j < k → x5.ents[j]? = some e → wi f.inodes a (n - 1) e.ino = false) (fun k => x5.ents.length - k) 0 ⟨Nat.zero_le _, all_zero (q := fun _ (e : DEnt) => wi f.inodes a (n - 1) e.ino = false)⟩ (.c .z (.c (.s4 (.s .z)) (.c (.s4 (.s (.s .z))) (.c (.s4 (.s (.s (.s .z)))) (.c (.s4 (.s4 .z)) .n))))) (fun _ h => h) ?_
 rintro k ⟨hk, hallk⟩
 refine FJ.seq (FJ.seq (FJ.region (FJ.ql rfl (q_move rfl (.t (.s4 .z))) (FJ.ql rfl (q_gtr rfl (.t .z) .c) ?_))))
 refine FJ.ql rfl (q_move rfl (.t .z)) ?_
 refine FJ.caseP .z (fun g9 => ?_) (fun g9 => ?_)
 refine FJ.q (goes_listg rfl rfl .z) rfl (by decide) rfl (q_move rfl (.t (.s (.s (.s .z))))) ?_
 refine FJ.q (goes_listg rfl rfl (.s .z)) rfl (by decide) rfl (q_move rfl (.t (.s4 (.s .z)))) ?_
 refine FJ.q (goes_listg rfl rfl (.s (.s .z))) rfl (by decide) rfl (q_nilCheck rfl (.t .z)) ?_
 refine FJ.q (goes_listg rfl rfl (.s (.s (.s .z)))) rfl (by decide) rfl (q_fieldAddr rfl (.t .z) (fun _ => fa_30_0 _ _)) ?_
 refine FJ.q (goes_listg rfl rfl (.s4 .z)) rfl (by decide) rfl (q_load rfl ag_28 (.t .z) (WS.el hF0 hc0 rfl)) ?_
 refine FJ.q (goes_listg rfl rfl (.s4 (.s .z))) rfl (by decide) rfl (q_move rfl (.t (.s4 (.s4 (.s (.s (.s .z))))))) ?_
 refine FJ.q (goes_listg rfl rfl (.s4 (.s (.s .z)))) rfl (by decide) rfl (q_indexAddr (j := Int.toNat b) rfl u_28 sz_42 (.t (.s .z)) (.t .z) (by omega) (by omega)) ?_
 refine FJ.q (goes_listg rfl rfl (.s4 (.s (.s (.s .z))))) rfl (by decide) rfl (q_fieldAddr rfl (.t .z) (fun _ => fa_42_4 _ _)) ?_
 refine FJ.q (goes_listg rfl rfl (.s4 (.s4 .z))) rfl (by decide) rfl (q_load rfl ag_40 (.t .z) (WS.el hFe6 hce6 rfl)) ?_
 refine FJ.q (goes_listg rfl rfl (.s4 (.s4 (.s .z)))) rfl (by decide) rfl (q_len rfl u_40 (.t .z)) ?_
 refine FJ.q (goes_listg rfl rfl (.s4 (.s4 (.s (.s .z))))) rfl (by decide) rfl (q_lss rfl (.t (.s4 (.s4 (.s .z)))) (.t .z)) ?_
 refine FJ.ql rfl (q_pickT rfl (.t (.s4 (.s4 (.s (.s (.s .z)))))) (.t .z)) (FJ.nil (FJ.then_ ?_))
 refine FJ.condP (.t .z) (fun b10 => ?_) (fun b10 => ?_)
 refine FJ.skip (FJ.then_ (FJ.seq (FJ.block (FJ.seq ?_))))
 refine FJ.region (FJ.ql rfl (q_move rfl (.t (.s16 .z))) (FJ.ql rfl (q_move rfl (.t (.s16 (.s (.s .z))))) (FJ.ql rfl (q_move rfl (.t (.s16 (.s (.s .z))))) (FJ.ql rfl (q_nilCheck rfl (.t .z)) ?_))))
 refine FJ.ql rfl (q_fieldAddr rfl (.t .z) (fun _ => fa_30_0 _ _)) (FJ.ql rfl (q_load rfl ag_28 (.t .z) (WS.el hF0 hc0 rfl)) (FJ.ql rfl (q_move rfl (.t (.s16 (.s4 (.s4 .z))))) ?_))
 refine FJ.ql rfl (q_indexAddr (j := Int.toNat b) rfl u_28 sz_42 (.t (.s .z)) (.t .z) (by omega) (by omega)) ?_
 refine FJ.ql rfl (q_fieldAddr rfl (.t .z) (fun _ => fa_42_4 _ _)) (FJ.ql rfl (q_load rfl ag_40 (.t .z) (WS.el hFe6 hce6 rfl)) (FJ.ql rfl (q_move rfl (.t (.s16 (.s4 (.s4 (.s .z)))))) ?_))
 obtain ⟨ad11, hAad11, hrad11⟩ := hee6_4 (by omega)
 subst hAad11
 obtain ⟨x12, hx12⟩ := get_ex (xs := x5.ents) (j := k) (by omega)
 obtain ⟨ece13, hre13, hFe13, hce13⟩ := hrad11.elem hx12
 obtain ⟨rfl, se13_0⟩ := kT_61_ro hre13
 have pex12 := ent_in (hG _ _ hx5 _ _ hx12)
 have pox12 := ents_ok iox5 _ _ hx12
 refine FJ.ql rfl (q_indexAddr (j := k) rfl u_40 sz_61 (.t (.s .z)) (.t .z) rfl (by omega)) ?_
 refine FJ.ql rfl (q_fieldAddr rfl (.t .z) (fun _ => fa_61_1 _ _)) (FJ.ql rfl (q_load rfl ag_2 (.t .z) (WS.el hFe13 hce13 rfl)) (FJ.ql rfl (q_move rfl (.t (.s16 (.s16 (.s .z))))) ?_))
 refine FJ.ql rfl (q_sub (c := m - 1) rfl (.t .z) .c (wr (by omega) (by omega) (by omega))) ?_
 refine FJ.call (goes_list rfl) rfl (by decide) rfl (c_call rfl Try.func13 rfl rfl (args4 (.t (.s4 (.s4 (.s4 (.s (.s (.s .z))))))) (.t (.s4 (.s4 (.s4 (.s (.s .z)))))) (.t (.s (.s .z))) (.t .z))) .n (fun w1 S1 hs tr => ih (n - 1) (by omega) (tr.ctxP h0) _ _ _ (by assumption) (by first | assumption | (constructor <;> omega)) (by omega) (by omega)) ?_
 rintro _ _ ⟨rfl, rfl⟩
 refine FJ.cat .n ?_
 refine FJ.nil (FJ.then_ ?_)
 refine FJ.cond (.t .z) (fun b14 => ?_) (fun b14 => ?_)
 refine FJ.seq (FJ.region (FJ.ql rfl (q_assign rfl .c) (FJ.nil (FJ.then_ ?_))))
 refine FJ.ret (FJ.inBR (FJ.thenR (FJ.thenR (FJ.inBR ?_))))
 refine FJ.thenR ?_
 refine FJ.doneS (res1 rfl .z) .n ?_
 exact ⟨by first | (rw [wi_eq (by omega)]; done) | (rw [wi_hit (k := k) (by omega) (by rw [nx5]; exact hx12) (by assumption)]; done) | (rw [wi_no (by omega) (.inl (by omega))]; done) | (rw [wi_no (by omega) (.inr (fun j e he => by rw [nx5] at he; exact hallk j e (by have := (List.getElem?_eq_some_iff.1 he).1; omega) he))]; done), rfl⟩
 refine FJ.skip (FJ.inBN (FJ.then_ (FJ.region (FJ.ql rfl (q_move rfl (.t (.s16 (.s16 .z)))) ?_))))
 refine FJ.ql rfl (q_add (c := ((k + 1 : Nat) : Int)) rfl (.t .z) .c (wr (by omega) (by omega) (by omega))) ?_
 refine FJ.er (.s16 (.s16 (.s (.s .z)))) (FJ.ql rfl (q_assign rfl (.t .z)) (FJ.nil ?_))
 refine FJ.again (k + 1) ⟨by omega, all_succ (q := fun _ (e : DEnt) => wi f.inodes a (n - 1) e.ino = false) hallk hx12 (by assumption)⟩ (by first | omega | (dsimp only; omega)) (.c .z (.c (.s16 (.s16 (.s (.s (.s .z))))) (.c (.s16 (.s16 (.s4 .z))) (.c (.s16 (.s16 (.s4 (.s .z)))) (.c (.s16 (.s16 (.s4 (.s (.s .z))))) .n))))) (fun _ h => h)
 refine FJ.exit (FJ.thenE (FJ.thenE (FJ.inB (FJ.then_ ?_))))
 refine FJ.seq (FJ.region (FJ.ql rfl (q_assign rfl .c) (FJ.nil (FJ.then_ ?_))))
 refine FJ.ret ?_
 refine FJ.doneS (res1 rfl .z) .n ?_
 exact ⟨by first | (rw [wi_eq (by omega)]; done) | (rw [wi_no (by omega) (.inl (by omega))]; done) | (rw [wi_no (by omega) (.inr (fun j e he => by rw [nx5] at he; exact hallk j e (by have := (List.getElem?_eq_some_iff.1 he).1; omega) he))]; done), rfl⟩
 refine FJ.skipl rfl rfl .z rfl rfl (by decide) rfl ?_
 refine FJ.skipl rfl rfl (.s .z) rfl rfl (by decide) rfl ?_
 refine FJ.skipl rfl rfl (.s (.s .z)) rfl rfl (by decide) rfl ?_
 refine FJ.skipl rfl rfl (.s (.s (.s .z))) rfl rfl (by decide) rfl ?_
 refine FJ.skipl rfl rfl (.s4 .z) rfl rfl (by decide) rfl ?_
 refine FJ.skipl rfl rfl (.s4 (.s .z)) rfl rfl (by decide) rfl ?_
 refine FJ.skipl rfl rfl (.s4 (.s (.s .z))) rfl rfl (by decide) rfl ?_
 refine FJ.skipl rfl rfl (.s4 (.s (.s (.s .z)))) rfl rfl (by decide) rfl ?_
 refine FJ.skipl rfl rfl (.s4 (.s4 .z)) rfl rfl (by decide) rfl ?_
 refine FJ.skipl rfl rfl (.s4 (.s4 (.s .z))) rfl rfl (by decide) rfl ?_
 refine FJ.skipl rfl rfl (.s4 (.s4 (.s (.s .z)))) rfl rfl (by decide) rfl ?_
 refine FJ.ql rfl (q_pickF rfl (.t (.s4 (.s4 (.s (.s (.s .z)))))) .c) (FJ.nil (FJ.then_ ?_))
 refine FJ.condF (.t .z) ?_
 refine FJ.exit (FJ.thenE (FJ.thenE (FJ.inB (FJ.then_ ?_))))
 refine FJ.seq (FJ.region (FJ.ql rfl (q_assign rfl .c) (FJ.nil (FJ.then_ ?_))))
 refine FJ.ret ?_
 refine FJ.doneS (res1 rfl .z) .n ?_
 exact ⟨by first | (rw [wi_eq (by omega)]; done) | (rw [wi_no (by omega) (.inl (by omega))]; done) | (rw [wi_no (by omega) (.inr (fun j e he => by rw [nx5] at he; exact hallk j e (by have := (List.getElem?_eq_some_iff.1 he).1; omega) he))]; done), rfl⟩
theorem c_13 {w0 : World} {S0 : Bs} {f : DFs} {ad0 : Addr} (h0 : PtrRo kT_30 w0 (FF w0 S0) ad0 f) (a b m : Int) (ht : treeFault f = 0) (hp : placeIn f.inodes.length b) (n : Nat) (hm : m = (n : Int)) (hn : n ≤ 10) : Calls Try.prog 13 #[.pointer (some ad0), .int .i64 a, .int .i64 b, .int .i64 m] w0 (TriPost w0 S0 (fun r l => r = .bool (wi f.inodes a n b) ∧ l = [])) := by
 have key : ∀ n : Nat, ∀ {w0 : World} {S0 : Bs} {f : DFs} {ad0 : Addr} (h0 : PtrRo kT_30 w0 (FF w0 S0) ad0 f) (a b m : Int) (ht : treeFault f = 0) (hp : placeIn f.inodes.length b) (hm : m = (n : Int)) (hn : n ≤ 10), Calls Try.prog 13 #[.pointer (some ad0), .int .i64 a, .int .i64 b, .int .i64 m] w0 (TriPost w0 S0 (fun r l => r = .bool (wi f.inodes a n b) ∧ l = [])) := fun n => by
  induction n using Nat.strongRecOn with
  | _ n ih => exact fun h0 a b m ht hp hm hn => c_13s h0 a b m ht hp n hm hn ih
 exact key n h0 a b m ht hp hm hn

set_option maxHeartbeats 1000000 in
set_option maxRecDepth 20000 in
theorem c_7 {w0 : World} {S0 : Bs} {f : DFs} {cs0 : List Value} (h0 : kT_30.ro w0 (FF w0 S0) f cs0) (a : Int) (b : Int)  :
    Calls Try.prog 7 #[.agg cs0.toArray, .int .i64 a, .int .i64 b] w0 (TriPost w0 S0 (fun r l => r = .bool (within f a b) ∧ l = [])) := by
 obtain ⟨u0_0, u0_1, rfl, h0_0, h0_1⟩ := kT_30_ro h0
 obtain ⟨A0_0, c0_0, rfl, hl0_0, hm0_0, hb0_0, he0_0⟩ := ro_form h0_0
 obtain ⟨A0_1, c0_1, rfl, hl0_1, hm0_1, hb0_1, he0_1⟩ := ro_form h0_1
 refine FJ.enter (N := 26) Try.func7 rfl rfl (by simp) [(0, .agg #[.slice A0_0 f.inodes.length c0_0, .slice A0_1 f.data.length c0_1]), (1, .int .i64 a), (2, .int .i64 b)] (by simp) (l0 := []) trivial ?_
 refine FJ.seq (FJ.region ?_)
 refine FJ.e (goes_list rfl) rfl (by decide) rfl (e_box (cs := [.slice A0_0 f.inodes.length c0_0, .slice A0_1 f.data.length c0_1]) (n := 2) rfl (.t .z) rfl rfl) ?_
 rintro _ _ ⟨g3, rfl, rfl⟩
 refine FJ.ql rfl (q_assign rfl .c) (FJ.nil (FJ.then_ (FJ.seq (FJ.region ?_))))
 refine FJ.ql rfl (q_loadA (cs := [.slice A0_0 f.inodes.length c0_0, .slice A0_1 f.data.length c0_1]) rfl ag_30 sz_30 (.t (.s .z)) (WS.rows0 .z (fun i u h => by exact h))) ?_
 refine FJ.call (goes_list rfl) rfl (by decide) rfl (c_call rfl Try.func16 rfl rfl (args1 (.t .z))) .n (fun w1 S1 hs tr => c_16 (kT_30_mk f (tr.ctx h0_0) (tr.ctx h0_1))) ?_
 rintro _ _ ⟨rfl, rfl⟩
 refine FJ.cat .n ?_
 refine FJ.ql rfl (q_eql rfl (.t .z) .c) (FJ.ql rfl (q_move rfl (.t .z)) ?_)
 refine FJ.caseP .z (fun g4 => ?_) (fun g4 => ?_)
 have htd5 := fsTree g4
 have hId5 := treeI htd5
 refine FJ.q (goes_listg rfl rfl .z) rfl (by decide) rfl (q_move rfl (.t (.s4 (.s (.s (.s .z)))))) ?_
 refine FJ.call (goes_listg rfl rfl (.s .z)) rfl (by decide) rfl (c_call rfl Try.func17 rfl rfl (args2 (.t (.s4 (.s (.s .z)))) (.t .z))) .n (fun w1 S1 hs tr => c_17 (tr.ptr .z (kT_30_mk f (tr.ctx h0_0) (tr.ctx h0_1))) _) ?_
 rintro _ _ ⟨rfl, rfl⟩
 refine FJ.cat .n ?_
 refine FJ.ql rfl (q_pickT rfl (.t (.s (.s .z))) (.t .z)) (FJ.ql rfl (q_move rfl (.t .z)) ?_)
 refine FJ.caseP .z (fun g6 => ?_) (fun g6 => ?_)
 obtain ⟨⟨had7, hbd7⟩, hcd7⟩ := id g6
 refine FJ.q (goes_listg rfl rfl .z) rfl (by decide) rfl (q_move rfl (.t (.s4 (.s4 (.s4 .z))))) ?_
 refine FJ.call (goes_listg rfl rfl (.s .z)) rfl (by decide) rfl (c_call rfl Try.func17 rfl rfl (args2 (.t (.s4 (.s4 (.s (.s .z))))) (.t .z))) .n (fun w1 S1 hs tr => c_17 (tr.ptr .z (kT_30_mk f (tr.ctx h0_0) (tr.ctx h0_1))) _) ?_
 rintro _ _ ⟨rfl, rfl⟩
 refine FJ.cat .n ?_
 refine FJ.ql rfl (q_pickT rfl (.t (.s (.s .z))) (.t .z)) (FJ.ql rfl (q_move rfl (.t .z)) ?_)
 refine FJ.caseP .z (fun g8 => ?_) (fun g8 => ?_)
 obtain ⟨⟨had9, hbd9⟩, hcd9⟩ := id g8
 refine FJ.q (goes_listg rfl rfl .z) rfl (by decide) rfl (q_fieldAddr rfl (.t (.s4 (.s4 (.s4 (.s .z))))) (fun _ => fa_30_0 _ _)) ?_
 refine FJ.q (goes_listg rfl rfl (.s .z)) rfl (by decide) rfl (q_load rfl ag_28 (.t .z) (WS.row .z rfl)) ?_
 refine FJ.q (goes_listg rfl rfl (.s (.s .z))) rfl (by decide) rfl (q_move rfl (.t (.s16 (.s (.s .z))))) ?_
 refine FJ.call (goes_listg rfl rfl (.s (.s (.s .z)))) rfl (by decide) rfl (c_call rfl Try.func19 rfl rfl (args2 (.t (.s .z)) (.t .z))) .n (fun w1 S1 hs tr => c_19 (tr.ctx h0_0) _ (treeI (by assumption)) (treeG (by assumption)) (by constructor <;> first | omega | (have := treeL (by assumption); omega))) ?_
 rintro _ _ rfl
 refine FJ.cat (.c .n) ?_
 refine FJ.know (WS.oform .z) ?_
 rintro ⟨Ao11, co11, rfl, hlo11, hmo11, hbo11⟩
 refine FJ.q (goes_listg rfl rfl (.s4 .z)) rfl (by decide) rfl (q_move rfl (.t (.s16 (.s (.s (.s .z)))))) ?_
 refine FJ.call (goes_listg rfl rfl (.s4 (.s .z))) rfl (by decide) rfl (c_call rfl Try.func18 rfl rfl (args2 (.t (.s .z)) (.t .z))) .n (fun w1 S1 hs tr => c_18 (tr.own .z) _) ?_
 rintro _ _ ⟨rfl, rfl⟩
 refine FJ.cat .n ?_
 refine FJ.ql rfl (q_pickT rfl (.t (.s4 (.s (.s .z)))) (.t .z)) (FJ.er (.s16 (.s (.s (.s .z)))) (FJ.ql rfl (q_assign rfl (.t .z)) (FJ.nil (FJ.then_ ?_))))
 refine FJ.ret ?_
 refine FJ.doneS (res1 rfl .z) .n ?_
 exact ⟨by first | (rw [within_d (by assumption) (by assumption) (by assumption)]; done) | (rw [within_no (fun hh => absurd hh.1 (by assumption))]; done) | (rw [within_no (fun hh => absurd hh.2.1 (by assumption))]; done) | (rw [within_no (fun hh => absurd hh.2.2 (by assumption))]; done), rfl⟩
 refine FJ.skipl rfl rfl .z rfl rfl (by decide) rfl ?_
 refine FJ.skipl rfl rfl (.s .z) rfl rfl (by decide) rfl ?_
 refine FJ.skipl rfl rfl (.s (.s .z)) rfl rfl (by decide) rfl ?_
 refine FJ.skipl rfl rfl (.s (.s (.s .z))) rfl rfl (by decide) rfl ?_
 refine FJ.skipl rfl rfl (.s4 .z) rfl rfl (by decide) rfl ?_
 refine FJ.skipl rfl rfl (.s4 (.s .z)) rfl rfl (by decide) rfl ?_
 refine FJ.ql rfl (q_pickF rfl (.t (.s4 (.s (.s .z)))) .c) (FJ.er (.s16 (.s (.s (.s .z)))) (FJ.ql rfl (q_assign rfl (.t .z)) (FJ.nil (FJ.then_ ?_))))
 refine FJ.ret ?_
 refine FJ.doneS (res1 rfl .z) .n ?_
 exact ⟨by first | (rw [within_d (by assumption) (by assumption) (by assumption)]; done) | (rw [within_no (fun hh => absurd hh.1 (by assumption))]; done) | (rw [within_no (fun hh => absurd hh.2.1 (by assumption))]; done) | (rw [within_no (fun hh => absurd hh.2.2 (by assumption))]; done), rfl⟩
 refine FJ.skipl rfl rfl .z rfl rfl (by decide) rfl ?_
 refine FJ.skipl rfl rfl (.s .z) rfl rfl (by decide) rfl ?_
 refine FJ.ql rfl (q_pickF rfl (.t (.s (.s .z))) .c) (FJ.ql rfl (q_move rfl (.t .z)) ?_)
 refine FJ.skipl rfl rfl .z rfl rfl (by decide) rfl ?_
 refine FJ.skipl rfl rfl (.s .z) rfl rfl (by decide) rfl ?_
 refine FJ.skipl rfl rfl (.s (.s .z)) rfl rfl (by decide) rfl ?_
 refine FJ.skipl rfl rfl (.s (.s (.s .z))) rfl rfl (by decide) rfl ?_
 refine FJ.skipl rfl rfl (.s4 .z) rfl rfl (by decide) rfl ?_
 refine FJ.skipl rfl rfl (.s4 (.s .z)) rfl rfl (by decide) rfl ?_
 refine FJ.ql rfl (q_pickF rfl (.t (.s4 (.s (.s .z)))) .c) (FJ.er (.s16 (.s (.s (.s .z)))) (FJ.ql rfl (q_assign rfl (.t .z)) (FJ.nil (FJ.then_ ?_))))
 refine FJ.ret ?_
 refine FJ.doneS (res1 rfl .z) .n ?_
 exact ⟨by first | (rw [within_d (by assumption) (by assumption) (by assumption)]; done) | (rw [within_no (fun hh => absurd hh.1 (by assumption))]; done) | (rw [within_no (fun hh => absurd hh.2.1 (by assumption))]; done) | (rw [within_no (fun hh => absurd hh.2.2 (by assumption))]; done), rfl⟩
 refine FJ.skipl rfl rfl .z rfl rfl (by decide) rfl ?_
 refine FJ.skipl rfl rfl (.s .z) rfl rfl (by decide) rfl ?_
 refine FJ.ql rfl (q_pickF rfl (.t (.s (.s .z))) .c) (FJ.ql rfl (q_move rfl (.t .z)) ?_)
 refine FJ.skipl rfl rfl .z rfl rfl (by decide) rfl ?_
 refine FJ.skipl rfl rfl (.s .z) rfl rfl (by decide) rfl ?_
 refine FJ.ql rfl (q_pickF rfl (.t (.s (.s .z))) .c) (FJ.ql rfl (q_move rfl (.t .z)) ?_)
 refine FJ.skipl rfl rfl .z rfl rfl (by decide) rfl ?_
 refine FJ.skipl rfl rfl (.s .z) rfl rfl (by decide) rfl ?_
 refine FJ.skipl rfl rfl (.s (.s .z)) rfl rfl (by decide) rfl ?_
 refine FJ.skipl rfl rfl (.s (.s (.s .z))) rfl rfl (by decide) rfl ?_
 refine FJ.skipl rfl rfl (.s4 .z) rfl rfl (by decide) rfl ?_
 refine FJ.skipl rfl rfl (.s4 (.s .z)) rfl rfl (by decide) rfl ?_
 refine FJ.ql rfl (q_pickF rfl (.t (.s4 (.s (.s .z)))) .c) (FJ.er (.s16 (.s (.s (.s .z)))) (FJ.ql rfl (q_assign rfl (.t .z)) (FJ.nil (FJ.then_ ?_))))
 refine FJ.ret ?_
 refine FJ.doneS (res1 rfl .z) .n ?_
 exact ⟨by first | (rw [within_d (by assumption) (by assumption) (by assumption)]; done) | (rw [within_no (fun hh => absurd hh.1 (by assumption))]; done) | (rw [within_no (fun hh => absurd hh.2.1 (by assumption))]; done) | (rw [within_no (fun hh => absurd hh.2.2 (by assumption))]; done), rfl⟩

set_option maxHeartbeats 1000000 in
set_option maxRecDepth 20000 in
theorem c_5 {w0 : World} {S0 : Bs} {f : DFs} {cs0 : List Value} (h0 : kT_30.ro w0 (FF w0 S0) f cs0) (a : Int) (b : Int)  :
    Calls Try.prog 5 #[.agg cs0.toArray, .int .i64 a, .int .i64 b] w0 (TriPost w0 S0 (fun r l => r = .bool (within f a b) ∧ l = [])) := by
 obtain ⟨u0_0, u0_1, rfl, h0_0, h0_1⟩ := kT_30_ro h0
 obtain ⟨A0_0, c0_0, rfl, hl0_0, hm0_0, hb0_0, he0_0⟩ := ro_form h0_0
 obtain ⟨A0_1, c0_1, rfl, hl0_1, hm0_1, hb0_1, he0_1⟩ := ro_form h0_1
 refine FJ.enter (N := 40) Try.func5 rfl rfl (by simp) [(0, .agg #[.slice A0_0 f.inodes.length c0_0, .slice A0_1 f.data.length c0_1]), (1, .int .i64 a), (2, .int .i64 b)] (by simp) (l0 := []) trivial ?_
 refine FJ.seq (FJ.region ?_)
 refine FJ.e (goes_list rfl) rfl (by decide) rfl (e_box (cs := [.slice A0_0 f.inodes.length c0_0, .slice A0_1 f.data.length c0_1]) (n := 2) rfl (.t .z) rfl rfl) ?_
 rintro _ _ ⟨g3, rfl, rfl⟩
 refine FJ.ql rfl (q_assign rfl .c) (FJ.nil (FJ.then_ (FJ.seq (FJ.seq ?_))))
 refine FJ.region ?_
 refine FJ.call (goes_list rfl) rfl (by decide) rfl (c_call rfl Try.func11 rfl rfl (args1 (.t (.s .z)))) .n (fun w1 S1 hs tr => c_11 (tr.ptr .z (kT_30_mk f (tr.ctx h0_0) (tr.ctx h0_1)))) ?_
 rintro _ _ ⟨rfl, rfl⟩
 refine FJ.cat .n ?_
 refine FJ.ql rfl (q_neq rfl (.t .z) .c) (FJ.ql rfl (q_move rfl (.t .z)) ?_)
 refine FJ.caseN .z (fun g4 => ?_) (fun g4 => ?_)
 refine FJ.skipl rfl rfl .z rfl rfl (by decide) rfl ?_
 refine FJ.skipl rfl rfl (.s .z) rfl rfl (by decide) rfl ?_
 refine FJ.skipl rfl rfl (.s (.s .z)) rfl rfl (by decide) rfl ?_
 refine FJ.ql rfl (q_pickT rfl (.t (.s (.s (.s .z)))) .c) (FJ.ql rfl (q_move rfl (.t .z)) ?_)
 refine FJ.skipl rfl rfl .z rfl rfl (by decide) rfl ?_
 refine FJ.skipl rfl rfl (.s .z) rfl rfl (by decide) rfl ?_
 refine FJ.skipl rfl rfl (.s (.s .z)) rfl rfl (by decide) rfl ?_
 refine FJ.ql rfl (q_pickT rfl (.t (.s (.s (.s .z)))) .c) (FJ.ql rfl (q_move rfl (.t .z)) ?_)
 refine FJ.skipl rfl rfl .z rfl rfl (by decide) rfl ?_
 refine FJ.skipl rfl rfl (.s .z) rfl rfl (by decide) rfl ?_
 refine FJ.skipl rfl rfl (.s (.s .z)) rfl rfl (by decide) rfl ?_
 refine FJ.skipl rfl rfl (.s (.s (.s .z))) rfl rfl (by decide) rfl ?_
 refine FJ.skipl rfl rfl (.s4 .z) rfl rfl (by decide) rfl ?_
 refine FJ.skipl rfl rfl (.s4 (.s .z)) rfl rfl (by decide) rfl ?_
 refine FJ.skipl rfl rfl (.s4 (.s (.s .z))) rfl rfl (by decide) rfl ?_
 refine FJ.ql rfl (q_pickT rfl (.t (.s4 (.s (.s (.s .z))))) .c) (FJ.ql rfl (q_move rfl (.t .z)) ?_)
 refine FJ.skipl rfl rfl .z rfl rfl (by decide) rfl ?_
 refine FJ.skipl rfl rfl (.s .z) rfl rfl (by decide) rfl ?_
 refine FJ.skipl rfl rfl (.s (.s .z)) rfl rfl (by decide) rfl ?_
 refine FJ.skipl rfl rfl (.s (.s (.s .z))) rfl rfl (by decide) rfl ?_
 refine FJ.skipl rfl rfl (.s4 .z) rfl rfl (by decide) rfl ?_
 refine FJ.skipl rfl rfl (.s4 (.s .z)) rfl rfl (by decide) rfl ?_
 refine FJ.skipl rfl rfl (.s4 (.s (.s .z))) rfl rfl (by decide) rfl ?_
 refine FJ.ql rfl (q_pickT rfl (.t (.s4 (.s (.s (.s .z))))) .c) (FJ.nil (FJ.then_ ?_))
 refine FJ.condT (.t .z) ?_
 refine FJ.seq (FJ.region (FJ.er (.s16 (.s4 (.s4 (.s4 (.s (.s .z)))))) (FJ.ql rfl (q_assign rfl .c) (FJ.nil ?_))))
 refine FJ.then_ (FJ.ret (FJ.thenR ?_))
 refine FJ.doneS (res1 rfl .z) .n ?_
 exact ⟨by first | (rw [within_w (by assumption) ⟨by assumption, by omega⟩ ⟨by assumption, by omega⟩]; done) | (rw [within_no (fun hh => absurd hh.1 (by assumption))]; done) | (rw [within_no (fun hh => absurd hh.2.1.1 (by assumption))]; done) | (rw [within_no (fun hh => absurd hh.2.2.1 (by assumption))]; done) | (rw [within_no (fun hh => by have h1 := hh.2.1.2; omega)]; done) | (rw [within_no (fun hh => by have h1 := hh.2.2.2; omega)]; done), rfl⟩
 have htd5 := fsTree g4
 have hId5 := treeI htd5
 refine FJ.q (goes_listg rfl rfl .z) rfl (by decide) rfl (q_move rfl (.t (.s4 (.s (.s .z))))) ?_
 refine FJ.call (goes_listg rfl rfl (.s .z)) rfl (by decide) rfl (c_call rfl Try.func12 rfl rfl (args2 (.t (.s4 (.s .z))) (.t .z))) .n (fun w1 S1 hs tr => c_12 (tr.ptr .z (kT_30_mk f (tr.ctx h0_0) (tr.ctx h0_1))) _) ?_
 rintro _ _ ⟨rfl, rfl⟩
 refine FJ.cat .n ?_
 refine FJ.q (goes_listg rfl rfl (.s (.s .z))) rfl (by decide) rfl (q_not rfl (.t .z)) ?_
 refine FJ.ql rfl (q_pickF rfl (.t (.s (.s (.s .z)))) (.t .z)) (FJ.ql rfl (q_move rfl (.t .z)) ?_)
 refine FJ.caseN .z (fun g6 => ?_) (fun g6 => ?_)
 refine FJ.skipl rfl rfl .z rfl rfl (by decide) rfl ?_
 refine FJ.skipl rfl rfl (.s .z) rfl rfl (by decide) rfl ?_
 refine FJ.skipl rfl rfl (.s (.s .z)) rfl rfl (by decide) rfl ?_
 refine FJ.ql rfl (q_pickT rfl (.t (.s (.s (.s .z)))) .c) (FJ.ql rfl (q_move rfl (.t .z)) ?_)
 refine FJ.skipl rfl rfl .z rfl rfl (by decide) rfl ?_
 refine FJ.skipl rfl rfl (.s .z) rfl rfl (by decide) rfl ?_
 refine FJ.skipl rfl rfl (.s (.s .z)) rfl rfl (by decide) rfl ?_
 refine FJ.skipl rfl rfl (.s (.s (.s .z))) rfl rfl (by decide) rfl ?_
 refine FJ.skipl rfl rfl (.s4 .z) rfl rfl (by decide) rfl ?_
 refine FJ.skipl rfl rfl (.s4 (.s .z)) rfl rfl (by decide) rfl ?_
 refine FJ.skipl rfl rfl (.s4 (.s (.s .z))) rfl rfl (by decide) rfl ?_
 refine FJ.ql rfl (q_pickT rfl (.t (.s4 (.s (.s (.s .z))))) .c) (FJ.ql rfl (q_move rfl (.t .z)) ?_)
 refine FJ.skipl rfl rfl .z rfl rfl (by decide) rfl ?_
 refine FJ.skipl rfl rfl (.s .z) rfl rfl (by decide) rfl ?_
 refine FJ.skipl rfl rfl (.s (.s .z)) rfl rfl (by decide) rfl ?_
 refine FJ.skipl rfl rfl (.s (.s (.s .z))) rfl rfl (by decide) rfl ?_
 refine FJ.skipl rfl rfl (.s4 .z) rfl rfl (by decide) rfl ?_
 refine FJ.skipl rfl rfl (.s4 (.s .z)) rfl rfl (by decide) rfl ?_
 refine FJ.skipl rfl rfl (.s4 (.s (.s .z))) rfl rfl (by decide) rfl ?_
 refine FJ.ql rfl (q_pickT rfl (.t (.s4 (.s (.s (.s .z))))) .c) (FJ.nil (FJ.then_ ?_))
 refine FJ.condT (.t .z) ?_
 refine FJ.seq (FJ.region (FJ.er (.s16 (.s4 (.s4 (.s4 (.s (.s .z)))))) (FJ.ql rfl (q_assign rfl .c) (FJ.nil ?_))))
 refine FJ.then_ (FJ.ret (FJ.thenR ?_))
 refine FJ.doneS (res1 rfl .z) .n ?_
 exact ⟨by first | (rw [within_w (by assumption) ⟨by assumption, by omega⟩ ⟨by assumption, by omega⟩]; done) | (rw [within_no (fun hh => absurd hh.1 (by assumption))]; done) | (rw [within_no (fun hh => absurd hh.2.1.1 (by assumption))]; done) | (rw [within_no (fun hh => absurd hh.2.2.1 (by assumption))]; done) | (rw [within_no (fun hh => by have h1 := hh.2.1.2; omega)]; done) | (rw [within_no (fun hh => by have h1 := hh.2.2.2; omega)]; done), rfl⟩
 refine FJ.q (goes_listg rfl rfl .z) rfl (by decide) rfl (q_move rfl (.t (.s4 (.s4 (.s4 .z))))) ?_
 refine FJ.call (goes_listg rfl rfl (.s .z)) rfl (by decide) rfl (c_call rfl Try.func12 rfl rfl (args2 (.t (.s4 (.s4 (.s (.s .z))))) (.t .z))) .n (fun w1 S1 hs tr => c_12 (tr.ptr .z (kT_30_mk f (tr.ctx h0_0) (tr.ctx h0_1))) _) ?_
 rintro _ _ ⟨rfl, rfl⟩
 refine FJ.cat .n ?_
 refine FJ.q (goes_listg rfl rfl (.s (.s .z))) rfl (by decide) rfl (q_not rfl (.t .z)) ?_
 refine FJ.ql rfl (q_pickF rfl (.t (.s (.s (.s .z)))) (.t .z)) (FJ.ql rfl (q_move rfl (.t .z)) ?_)
 refine FJ.caseN .z (fun g7 => ?_) (fun g7 => ?_)
 refine FJ.skipl rfl rfl .z rfl rfl (by decide) rfl ?_
 refine FJ.skipl rfl rfl (.s .z) rfl rfl (by decide) rfl ?_
 refine FJ.skipl rfl rfl (.s (.s .z)) rfl rfl (by decide) rfl ?_
 refine FJ.skipl rfl rfl (.s (.s (.s .z))) rfl rfl (by decide) rfl ?_
 refine FJ.skipl rfl rfl (.s4 .z) rfl rfl (by decide) rfl ?_
 refine FJ.skipl rfl rfl (.s4 (.s .z)) rfl rfl (by decide) rfl ?_
 refine FJ.skipl rfl rfl (.s4 (.s (.s .z))) rfl rfl (by decide) rfl ?_
 refine FJ.ql rfl (q_pickT rfl (.t (.s4 (.s (.s (.s .z))))) .c) (FJ.ql rfl (q_move rfl (.t .z)) ?_)
 refine FJ.skipl rfl rfl .z rfl rfl (by decide) rfl ?_
 refine FJ.skipl rfl rfl (.s .z) rfl rfl (by decide) rfl ?_
 refine FJ.skipl rfl rfl (.s (.s .z)) rfl rfl (by decide) rfl ?_
 refine FJ.skipl rfl rfl (.s (.s (.s .z))) rfl rfl (by decide) rfl ?_
 refine FJ.skipl rfl rfl (.s4 .z) rfl rfl (by decide) rfl ?_
 refine FJ.skipl rfl rfl (.s4 (.s .z)) rfl rfl (by decide) rfl ?_
 refine FJ.skipl rfl rfl (.s4 (.s (.s .z))) rfl rfl (by decide) rfl ?_
 refine FJ.ql rfl (q_pickT rfl (.t (.s4 (.s (.s (.s .z))))) .c) (FJ.nil (FJ.then_ ?_))
 refine FJ.condT (.t .z) ?_
 refine FJ.seq (FJ.region (FJ.er (.s16 (.s4 (.s4 (.s4 (.s (.s .z)))))) (FJ.ql rfl (q_assign rfl .c) (FJ.nil ?_))))
 refine FJ.then_ (FJ.ret (FJ.thenR ?_))
 refine FJ.doneS (res1 rfl .z) .n ?_
 exact ⟨by first | (rw [within_w (by assumption) ⟨by assumption, by omega⟩ ⟨by assumption, by omega⟩]; done) | (rw [within_no (fun hh => absurd hh.1 (by assumption))]; done) | (rw [within_no (fun hh => absurd hh.2.1.1 (by assumption))]; done) | (rw [within_no (fun hh => absurd hh.2.2.1 (by assumption))]; done) | (rw [within_no (fun hh => by have h1 := hh.2.1.2; omega)]; done) | (rw [within_no (fun hh => by have h1 := hh.2.2.2; omega)]; done), rfl⟩
 refine FJ.q (goes_listg rfl rfl .z) rfl (by decide) rfl (q_fieldAddr rfl (.t (.s4 (.s4 (.s4 (.s (.s .z)))))) (fun _ => fa_30_0 _ _)) ?_
 refine FJ.q (goes_listg rfl rfl (.s .z)) rfl (by decide) rfl (q_load rfl ag_28 (.t .z) (WS.row .z rfl)) ?_
 refine FJ.q (goes_listg rfl rfl (.s (.s .z))) rfl (by decide) rfl (q_move rfl (.t (.s16 (.s (.s .z))))) ?_
 obtain ⟨ad8, hAad8, hrad8⟩ := he0_0 (by omega)
 subst hAad8
 obtain ⟨x9, hx9⟩ := get_ex (xs := f.inodes) (j := Int.toNat a) (by omega)
 obtain ⟨ece10, hre10, hFe10, hce10⟩ := hrad8.elem hx9
 obtain ⟨ue10_3, ue10_4, rfl, he10_3, he10_4⟩ := kT_42_ro hre10
 obtain ⟨Ae10_3, ce10_3, rfl, hle10_3, hme10_3, hbe10_3, hee10_3⟩ := ro_form he10_3
 obtain ⟨Ae10_4, ce10_4, rfl, hle10_4, hme10_4, hbe10_4, hee10_4⟩ := ro_form he10_4
 have kx9 := kind_at (i := a) hx9 (by omega)
 have nx9 := ents_at (a := a) hx9 (by omega)
 have iox9 := inodes_all hId5 _ (List.mem_of_getElem? hx9)
 refine FJ.q (goes_listg rfl rfl (.s (.s (.s .z)))) rfl (by decide) rfl (q_indexAddr (j := Int.toNat a) rfl u_28 sz_42 (.t (.s .z)) (.t .z) (by omega) (by omega)) ?_
 refine FJ.q (goes_listg rfl rfl (.s4 .z)) rfl (by decide) rfl (q_fieldAddr rfl (.t .z) (fun _ => fa_42_0 _ _)) ?_
 refine FJ.q (goes_listg rfl rfl (.s4 (.s .z))) rfl (by decide) rfl (q_load rfl ag_2 (.t .z) (WS.el hFe10 hce10 rfl)) ?_
 refine FJ.q (goes_listg rfl rfl (.s4 (.s (.s .z)))) rfl (by decide) rfl (q_eql rfl (.t .z) .c) ?_
 refine FJ.ql rfl (q_pickF rfl (.t (.s4 (.s (.s (.s .z))))) (.t .z)) (FJ.ql rfl (q_move rfl (.t .z)) ?_)
 refine FJ.caseP .z (fun g13 => ?_) (fun g13 => ?_)
 refine FJ.skipl rfl rfl .z rfl rfl (by decide) rfl ?_
 refine FJ.skipl rfl rfl (.s .z) rfl rfl (by decide) rfl ?_
 refine FJ.skipl rfl rfl (.s (.s .z)) rfl rfl (by decide) rfl ?_
 refine FJ.skipl rfl rfl (.s (.s (.s .z))) rfl rfl (by decide) rfl ?_
 refine FJ.skipl rfl rfl (.s4 .z) rfl rfl (by decide) rfl ?_
 refine FJ.skipl rfl rfl (.s4 (.s .z)) rfl rfl (by decide) rfl ?_
 refine FJ.skipl rfl rfl (.s4 (.s (.s .z))) rfl rfl (by decide) rfl ?_
 refine FJ.ql rfl (q_pickT rfl (.t (.s4 (.s (.s (.s .z))))) .c) (FJ.nil (FJ.then_ ?_))
 refine FJ.condT (.t .z) ?_
 refine FJ.seq (FJ.region (FJ.er (.s16 (.s4 (.s4 (.s4 (.s (.s .z)))))) (FJ.ql rfl (q_assign rfl .c) (FJ.nil ?_))))
 refine FJ.then_ (FJ.ret (FJ.thenR ?_))
 refine FJ.doneS (res1 rfl .z) .n ?_
 exact ⟨by first | (rw [within_w (by assumption) ⟨by assumption, by omega⟩ ⟨by assumption, by omega⟩]; done) | (rw [within_no (fun hh => absurd hh.1 (by assumption))]; done) | (rw [within_no (fun hh => absurd hh.2.1.1 (by assumption))]; done) | (rw [within_no (fun hh => absurd hh.2.2.1 (by assumption))]; done) | (rw [within_no (fun hh => by have h1 := hh.2.1.2; omega)]; done) | (rw [within_no (fun hh => by have h1 := hh.2.2.2; omega)]; done), rfl⟩
 refine FJ.q (goes_listg rfl rfl .z) rfl (by decide) rfl (q_fieldAddr rfl (.t (.s16 (.s4 (.s (.s (.s .z)))))) (fun _ => fa_30_0 _ _)) ?_
 refine FJ.q (goes_listg rfl rfl (.s .z)) rfl (by decide) rfl (q_load rfl ag_28 (.t .z) (WS.row .z rfl)) ?_
 refine FJ.q (goes_listg rfl rfl (.s (.s .z))) rfl (by decide) rfl (q_move rfl (.t (.s16 (.s4 (.s4 (.s4 .z)))))) ?_
 obtain ⟨x14, hx14⟩ := get_ex (xs := f.inodes) (j := Int.toNat b) (by omega)
 obtain ⟨ece15, hre15, hFe15, hce15⟩ := hrad8.elem hx14
 obtain ⟨ue15_3, ue15_4, rfl, he15_3, he15_4⟩ := kT_42_ro hre15
 obtain ⟨Ae15_3, ce15_3, rfl, hle15_3, hme15_3, hbe15_3, hee15_3⟩ := ro_form he15_3
 obtain ⟨Ae15_4, ce15_4, rfl, hle15_4, hme15_4, hbe15_4, hee15_4⟩ := ro_form he15_4
 have kx14 := kind_at (i := b) hx14 (by omega)
 have nx14 := ents_at (a := b) hx14 (by omega)
 have iox14 := inodes_all hId5 _ (List.mem_of_getElem? hx14)
 refine FJ.q (goes_listg rfl rfl (.s (.s (.s .z)))) rfl (by decide) rfl (q_indexAddr (j := Int.toNat b) rfl u_28 sz_42 (.t (.s .z)) (.t .z) (by omega) (by omega)) ?_
 refine FJ.q (goes_listg rfl rfl (.s4 .z)) rfl (by decide) rfl (q_fieldAddr rfl (.t .z) (fun _ => fa_42_0 _ _)) ?_
 refine FJ.q (goes_listg rfl rfl (.s4 (.s .z))) rfl (by decide) rfl (q_load rfl ag_2 (.t .z) (WS.el hFe15 hce15 rfl)) ?_
 refine FJ.q (goes_listg rfl rfl (.s4 (.s (.s .z)))) rfl (by decide) rfl (q_eql rfl (.t .z) .c) ?_
 refine FJ.ql rfl (q_pickF rfl (.t (.s4 (.s (.s (.s .z))))) (.t .z)) (FJ.nil (FJ.then_ ?_))
 refine FJ.condP (.t .z) (fun b18 => ?_) (fun b18 => ?_)
 refine FJ.seq (FJ.region (FJ.er (.s16 (.s4 (.s4 (.s4 (.s (.s .z)))))) (FJ.ql rfl (q_assign rfl .c) (FJ.nil ?_))))
 refine FJ.then_ (FJ.ret (FJ.thenR ?_))
 refine FJ.doneS (res1 rfl .z) .n ?_
 exact ⟨by first | (rw [within_w (by assumption) ⟨by assumption, by omega⟩ ⟨by assumption, by omega⟩]; done) | (rw [within_no (fun hh => absurd hh.1 (by assumption))]; done) | (rw [within_no (fun hh => absurd hh.2.1.1 (by assumption))]; done) | (rw [within_no (fun hh => absurd hh.2.2.1 (by assumption))]; done) | (rw [within_no (fun hh => by have h1 := hh.2.1.2; omega)]; done) | (rw [within_no (fun hh => by have h1 := hh.2.2.2; omega)]; done), rfl⟩
 refine FJ.skip (FJ.then_ (FJ.seq (FJ.region (FJ.ql rfl (q_move rfl (.t (.s16 (.s16 (.s .z))))) ?_))))
 refine FJ.ql rfl (q_move rfl (.t (.s16 (.s16 (.s (.s (.s .z))))))) ?_
 refine FJ.call (goes_list rfl) rfl (by decide) rfl (c_call rfl Try.func13 rfl rfl (args4 (.t (.s16 (.s16 (.s .z)))) (.t (.s .z)) (.t .z) .c)) .n (fun w1 S1 hs tr => c_13 (tr.ptr .z (kT_30_mk f (tr.ctx h0_0) (tr.ctx h0_1))) _ _ _ (by assumption) (by first | assumption | (constructor <;> omega)) 10 (by omega) (by omega)) ?_
 rintro _ _ ⟨rfl, rfl⟩
 refine FJ.cat .n ?_
 refine FJ.er (.s16 (.s16 (.s .z))) (FJ.ql rfl (q_assign rfl (.t .z)) (FJ.nil (FJ.then_ (FJ.ret ?_))))
 refine FJ.doneS (res1 rfl .z) .n ?_
 exact ⟨by first | (rw [within_w (by assumption) ⟨by assumption, by omega⟩ ⟨by assumption, by omega⟩]; done) | (rw [within_no (fun hh => absurd hh.1 (by assumption))]; done) | (rw [within_no (fun hh => absurd hh.2.1.1 (by assumption))]; done) | (rw [within_no (fun hh => absurd hh.2.2.1 (by assumption))]; done) | (rw [within_no (fun hh => by have h1 := hh.2.1.2; omega)]; done) | (rw [within_no (fun hh => by have h1 := hh.2.2.2; omega)]; done), rfl⟩

end Go.Proofs.Yticaddophhggoaa

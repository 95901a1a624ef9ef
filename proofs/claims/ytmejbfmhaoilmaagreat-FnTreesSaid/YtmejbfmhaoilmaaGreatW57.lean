/- What is proved: contracts of functions, one a function. No condition. -/
import Derived.Test.YtmejbfmhaoilmaaGreatBase1
import Derived.Test.YtmejbfmhaoilmaaGreatW50
namespace Go.Proofs.YtmejbfmhaoilmaaGreat
open Go Go.RowKit
set_option linter.unusedVariables false
set_option linter.unusedSimpArgs false
set_option maxHeartbeats 1000000
set_option maxRecDepth 20000
theorem c_18 {w0 : World} {S0 : Bs} {ls : (List Int)} {v0 : Value} (h0 : kSl_2.ro w0 (FF w0 S0) ls [v0]) (v : Int)  :
    Calls Tryz.prog 18 #[v0, .int .i64 v] w0 (TriPost w0 S0 (fun r l => r = .bool (decide (v ∈ ls)) ∧ l = [])) := by
 obtain ⟨A0, c0, rfl, ai, aj, ak, ag⟩ := ro_form h0
 refine Y.enter (N := 18) Tryz.func18 rfl rfl (by simp) [(0, .slice A0 ls.length c0), (1, .int .i64 v)] (by simp) (l0 := []) trivial ?_
 refine Y.seq (Y.region (Y.ql rfl (q_assign rfl .c) (Y.nt (Y.seq (Y.seq (Y.region (Y.ql rfl (q_assign rfl .c) ?_)))))))
 refine Y.nt (Y.block ?_)
 refine Y.loopi (γ := Nat) (fun k => [(5, .int .i64 (k : Int)), (0, .slice A0 ls.length c0), (1, .int .i64 v)]) (fun k => []) (fun k => k ≤ ls.length ∧ ∀ j y, j < k → ls[j]? = some y → ¬ y = v) (fun k => ls.length - k) 0 ⟨Nat.zero_le _, all_zero (q := fun _ y => ¬ y = v)⟩ (.c .z (.c .g2 (.c .g3 .n))) (fun _ h => h) ?_
 rintro k ⟨hk, hallk⟩
 refine Y.seq (Y.seq (Y.region (Y.mv rfl .z (Y.mv rfl .g2 (Y.ql rfl (q_len rfl u_36 (.t .z)) (Y.ql rfl (q_lss rfl (.t .g2) (.t .z)) (Y.nt ?_)))))))
 refine Y.condP (.t .z) (fun b2 => ?_) (fun b2 => ?_)
 refine Y.skip (Y.then_ (Y.seq (Y.block (Y.seq (Y.region (Y.mv rfl .g5 (Y.mv rfl .g5 ?_)))))))
 obtain ⟨al, aa, ab⟩ := ag (by omega)
 subst aa
 obtain ⟨x4, ac⟩ := get_ex (xs := ls) (j := k) (by omega)
 obtain ⟨ah, ad, ae, af⟩ := ab.elem ac
 obtain ⟨rfl, am⟩ := ad
 refine Y.ql rfl (q_indexAddr (j := k) rfl u_36 sz_2 (.t .g1) (.t .z) rfl (by omega)) ?_
 refine Y.ql rfl (q_load rfl ag_2 (.t .z) (WS.el0 ae af rfl)) (Y.mv rfl .g10 (Y.ql rfl (q_eql rfl (.t .g1) (.t .z)) (Y.nt ?_)))
 refine Y.condP (.t .z) (fun b6 => ?_) (fun b6 => ?_)
 refine Y.seq (Y.region (Y.ql rfl (q_assign rfl .c) (Y.nt (Y.ret (Y.inBR (Y.thenR (Y.thenR ?_)))))))
 refine Y.inBR (Y.thenR ?_)
 refine Y.doneS (res1 rfl .z) .n ?_
 exact ⟨by rw [decide_eq_true ((by assumption : x4 = v) ▸ List.mem_of_getElem? ac)], rfl⟩
 refine Y.skip (Y.inBN (Y.then_ (Y.region (Y.mv rfl .g10 ?_))))
 refine Y.ql rfl (q_add (c := ((k + 1 : Nat) : Int)) rfl (.t .z) .c (wr (by omega) (by omega) (by omega))) ?_
 refine Y.er .g12 (Y.as rfl .z (Y.nil ?_))
 refine Y.again (k + 1) ⟨by omega, all_succ (q := fun _ y => ¬ y = v) hallk ac (by assumption)⟩ (by first | omega | (dsimp only; omega)) (.c .z (.c .g13 (.c .g14 .n))) (fun _ h => h)
 refine Y.exit (Y.thenE (Y.thenE (Y.inB (Y.then_ (Y.seq (Y.region (Y.ql rfl (q_assign rfl .c) (Y.nil ?_))))))))
 refine Y.then_ (Y.ret ?_)
 refine Y.doneS (res1 rfl .z) .n ?_
 exact ⟨by rw [decide_eq_false (fun hm => not_mem_take (k := k) hallk (by rw [List.take_of_length_le (by omega)]; exact hm))], rfl⟩

theorem c_22 {w0 : World} {S0 : Bs} {x : (List Int)} {v0 : Value} (h0 : kSl_2.ro w0 (FF w0 S0) x [v0]) {y : (List Int)} {v1 : Value} (h1 : kSl_2.ro w0 (FF w0 S0) y [v1])  :
    Calls Tryz.prog 22 #[v0, v1] w0 (TriPost w0 S0 (fun r l => r = .bool (decide (x = y)) ∧ l = [])) := by
 obtain ⟨A0, c0, rfl, au, av, aw, an⟩ := ro_form h0
 obtain ⟨A1, c1, rfl, ax, ay, az, ao⟩ := ro_form h1
 refine Y.enter (N := 26) Tryz.func22 rfl rfl (by simp) [(0, .slice A0 x.length c0), (1, .slice A1 y.length c1)] (by simp) (l0 := []) trivial ?_
 refine Y.seq (Y.region (Y.ql rfl (q_assign rfl .c) (Y.nt (Y.seq (Y.seq (Y.region (Y.mv rfl .g1 ?_)))))))
 refine Y.ql rfl (q_len rfl u_36 (.t .z)) (Y.mv rfl .g4 (Y.ql rfl (q_len rfl u_36 (.t .z)) (Y.ql rfl (q_neq rfl (.t .g2) (.t .z)) (Y.nt ?_))))
 refine Y.condN (.t .z) (fun b3 => ?_) (fun b3 => ?_)
 refine Y.seq (Y.region (Y.er .g5 (Y.ql rfl (q_assign rfl .c) (Y.nt (Y.ret (Y.thenR ?_))))))
 refine Y.doneS (res1 rfl .z) .n ?_
 exact ⟨by rw [decide_eq_false (fun h => by subst h; omega)], rfl⟩
 refine Y.skip (Y.then_ (Y.seq (Y.seq (Y.region (Y.ql rfl (q_assign rfl .c) (Y.nt (Y.block ?_)))))))
 refine Y.loopi (γ := Nat) (fun k => [(5, .int .i64 (k : Int)), (0, .slice A0 x.length c0), (1, .slice A1 y.length c1)]) (fun k => []) (fun k => k ≤ x.length ∧ ∀ j, j < k → x[j]? = y[j]?) (fun k => x.length - k) 0 ⟨Nat.zero_le _, all_eq_zero⟩ (.c .z (.c .g7 (.c .g8 .n))) (fun _ h => h) ?_
 rintro k ⟨hk, hallk⟩
 refine Y.seq (Y.seq (Y.region (Y.mv rfl .z (Y.mv rfl .g2 (Y.ql rfl (q_len rfl u_36 (.t .z)) (Y.ql rfl (q_lss rfl (.t .g2) (.t .z)) (Y.nt ?_)))))))
 refine Y.condP (.t .z) (fun b4 => ?_) (fun b4 => ?_)
 refine Y.skip (Y.then_ (Y.seq (Y.block (Y.seq ?_))))
 refine Y.dr .z 9 mixo ?_
 refine Y.sc (qs 0 9) (by kernel_rfl) ?_
 refine Y.dm rfl rfl .z .g5 (Y.dm rfl rfl .z .g5 ?_)
 obtain ⟨a0, aa, ab⟩ := an (by omega)
 subst aa
 obtain ⟨x6, ah⟩ := get_ex (xs := x) (j := k) (by omega)
 obtain ⟨ap, ai, aj, ak⟩ := ab.elem ah
 obtain ⟨rfl, a1⟩ := ai
 refine Y.dk rfl rfl .z (q_indexAddr (j := k) rfl u_36 sz_2 (.t .g1) (.t .z) rfl (by omega)) ?_
 refine Y.dk rfl rfl .z (q_load rfl ag_2 (.t .z) (WS.el0 aj ak rfl)) (Y.dm rfl rfl .z .g10 (Y.dm rfl rfl .z .g9 ?_))
 obtain ⟨a2, ac, ad⟩ := ao (by omega)
 subst ac
 obtain ⟨x9, al⟩ := get_ex (xs := y) (j := k) (by omega)
 obtain ⟨am, ae, af, ag⟩ := ad.elem al
 obtain ⟨rfl, aq⟩ := ae
 refine Y.dk rfl rfl .z (q_indexAddr (j := k) rfl u_36 sz_2 (.t .g1) (.t .z) rfl (by omega)) ?_
 refine Y.dk rfl rfl .z (q_load rfl ag_2 (.t .z) (WS.el0 af ag rfl)) (Y.dk rfl rfl .z (q_neq rfl (.t .g4) (.t .z)) (Y.schN ?_))
 refine Y.drawN (by kernel_rfl) ?_
 refine Y.then_ ?_
 refine Y.condN (.t .z) (fun ar => ?_) (fun ar => ?_)
 refine Y.seq (Y.region (Y.ql rfl (q_assign rfl .c) (Y.nt (Y.ret (Y.inBR (Y.thenR (Y.thenR ?_)))))))
 refine Y.inBR (Y.thenR ?_)
 refine Y.doneS (res1 rfl .z) .n ?_
 exact ⟨by rw [decide_eq_false (ne_of_get ah al (by first | assumption | (intro e; subst e; contradiction) | (simp_all; done)))], rfl⟩
 refine Y.skip (Y.inBN (Y.then_ (Y.region (Y.mv rfl .g13 ?_))))
 refine Y.ql rfl (q_add (c := ((k + 1 : Nat) : Int)) rfl (.t .z) .c (wr (by omega) (by omega) (by omega))) ?_
 refine Y.er .g15 (Y.as rfl .z (Y.nil ?_))
 refine Y.again (k + 1) ⟨by omega, all_eq_succ hallk ah al (by first | assumption | exact byte_eq (by assumption) | (simp_all; done))⟩ (by first | omega | (dsimp only; omega)) (.c .z (.c .g16 (.c (.s16 .g1) .n))) (fun _ h => h)
 refine Y.exit (Y.thenE (Y.thenE (Y.inB (Y.then_ (Y.seq (Y.region (Y.ql rfl (q_assign rfl .c) (Y.nil ?_))))))))
 refine Y.then_ (Y.ret ?_)
 refine Y.doneS (res1 rfl .z) .n ?_
 exact ⟨by rw [decide_eq_true (eq_of_all (by omega) (by omega) hallk)], rfl⟩

end Go.Proofs.YtmejbfmhaoilmaaGreat

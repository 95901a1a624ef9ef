/- What is proved: contracts of functions, one a function. No condition. -/
import Derived.Test.YtmejbfmhaoilmaaGreatBase1
import Derived.Test.YtmejbfmhaoilmaaGreatW3
namespace Go.Proofs.YtmejbfmhaoilmaaGreat
open Go Go.RowKit
set_option linter.unusedVariables false
set_option linter.unusedSimpArgs false
set_option maxHeartbeats 1000000
set_option maxRecDepth 20000
theorem c_110 {w0 : World} {S0 : Bs} {x : (List Int)} {v0 : Value} (h0 : kSl_2.ro w0 (FF w0 S0) x [v0])  :
    Calls Tryz.prog 110 #[v0] w0 (TriPost w0 S0 (fun r l => l = [ownA kSl_2 x [r]])) := by
 obtain ⟨A0, c0, rfl, ae, af, ag, aa⟩ := ro_form h0
 refine Y.enter (N := 8) Tryz.func110 rfl rfl (by simp) [(0, .slice A0 x.length c0)] (by simp) (l0 := []) trivial ?_
 refine Y.seq (Y.region (Y.ql rfl (q_assign rfl .c) (Y.nt (Y.seq (Y.seq (Y.region (Y.mv rfl .g1 ?_)))))))
 refine Y.ql rfl (q_eqnil rfl u_36 (.t .z) .c) (Y.nt ?_)
 refine Y.cond (.t .z) (fun b2 => ?_) (fun b2 => ?_)
 refine Y.seq (Y.region (Y.er .g2 (Y.ql rfl (q_assign rfl .c) (Y.nt (Y.ret (Y.thenR ?_))))))
 refine Y.add (c := ownA kSl_2 [] [.slice none 0 0]) (fun w S => own_nil w S none) ?_
 refine Y.ceq .z (nil_of aa (by assumption)) ?_
 refine Y.doneS (res1 rfl .z) (.c .z .n) ?_
 rfl
 refine Y.skip (Y.then_ (Y.seq (Y.region ?_)))
 refine Y.el rfl (e_buildNil rfl u_36 (inz inf_2)) ?_
 rintro _ _ ⟨g4, rfl, rfl⟩
 refine Y.mv rfl .g4 ?_
 refine Y.add (c := ownA kSl_2 ([] : (List Int)) [.slice (some ⟨g4, 0, none⟩) 0 0]) (fun w S => own_nil w S _) ?_
 refine Y.el rfl (e_appendF (flat_scalar _ _ _) rfl u_36 inf_2 rfl (.t .g1) (.t .z) (.c .z .n) (fun w1 S1 tr => tr.ctx h0) (by first | omega | (simp only [List.length_append, List.length_take, List.length_nil, List.length_cons]; omega)) (by first | omega | (simp only [List.length_append, List.length_take, List.length_nil, List.length_cons]; omega))) ?_
 rintro _ _ rfl
 refine Y.ceq .z (List.nil_append _) ?_
 refine Y.know (WS.oform .z) ?_
 rintro ⟨ah, ai, rfl, ab, ac, ad⟩
 refine Y.er .g5 (Y.as rfl .z (Y.nt (Y.ret ?_)))
 refine Y.doneS (res1 rfl .z) (.c .z .n) ?_
 rfl

theorem c_134 {w0 : World} {S0 : Bs} {xs : (List DInode)} {v0 : Value} (h0 : kSl_44.ro w0 (FF w0 S0) xs [v0]) (a : Int) (hb : inodesFault xs = 0) :
    Calls Tryz.prog 134 #[v0, .int .i64 a] w0 (TriPost w0 S0 (fun r l => r = .int .i64 (countB xs a : Int) ∧ l = [])) := by
 obtain ⟨A0, c0, rfl, ba, bb, bc, a5⟩ := ro_form h0
 refine Y.enter (N := 37) Tryz.func134 rfl rfl (by simp) [(0, .slice A0 xs.length c0), (1, .int .i64 a)] (by simp) (l0 := []) trivial ?_
 refine Y.seq (Y.region (Y.ql rfl (q_assign rfl .c) (Y.nt (Y.seq (Y.region (Y.ql rfl (q_assign rfl .c) (Y.nil ?_)))))))
 refine Y.then_ (Y.seq (Y.seq (Y.region (Y.ql rfl (q_assign rfl .c) (Y.nt (Y.block ?_))))))
 refine Y.loopi (γ := Nat) (fun k => [(6, .int .i64 (k : Int)), (5, .int .i64 (sumF (cntB a) (List.take k xs) : Int)), (4, .int .i64 0), (0, .slice A0 xs.length c0), (1, .int .i64 a)]) (fun k => []) (fun k => k ≤ xs.length) (fun k => xs.length - k) 0 (Nat.zero_le _) (.c .z (.e .g1 rfl (.c .g2 (.c .g3 (.c .g4 .n))))) (fun _ h => h) ?_
 rintro k hk
 refine Y.seq (Y.seq (Y.region (Y.mv rfl .z (Y.mv rfl .g4 (Y.ql rfl (q_len rfl u_24 (.t .z)) (Y.ql rfl (q_lss rfl (.t .g2) (.t .z)) (Y.nt ?_)))))))
 refine Y.condP (.t .z) (fun b2 => ?_) (fun b2 => ?_)
 refine Y.skip (Y.then_ (Y.seq (Y.block (Y.seq (Y.region (Y.ql rfl (q_assign rfl .c) (Y.nt ?_)))))))
 refine Y.block ?_
 obtain ⟨a6, ac, ad⟩ := a5 (by omega)
 subst ac
 obtain ⟨x4, an⟩ := get_ex (xs := xs) (j := k) (by omega)
 obtain ⟨a7, ao, ae, af⟩ := ad.elem an
 obtain ⟨ay, az, rfl, ag, ah⟩ := kT_44_ro ao
 obtain ⟨a0, a1, rfl, ap, aq, ar, aa⟩ := ro_form ag
 obtain ⟨a2, a3, rfl, au, av, aw, ax⟩ := ro_form ah
 have g1 := sumF_get (cntB a) an
 have g3 := count_40 hb a
 unfold countB at g3
 refine Y.loopi (γ := Nat) (fun q => [(7, .int .i64 (q : Int)), (6, .int .i64 (k : Int)), (5, .int .i64 ((sumF (cntB a) (List.take k xs) + sumF (oneB a) (List.take q x4.blocks) : Nat) : Int)), (4, .int .i64 0), (0, .slice (some a6) xs.length c0), (1, .int .i64 a)]) (fun q => []) (fun q => q ≤ x4.blocks.length) (fun q => x4.blocks.length - q) 0 (Nat.zero_le _) (.c .z (.c .g5 (.e .g6 (congrArg (Value.int .i64) (by simp only [List.take_zero, sumF]; omega)) (.c .g7 (.c .g8 (.c .g9 .n)))))) (fun _ h => h) ?_
 rintro q hq
 have g2 := sumF_le (oneB a) (xs := x4.blocks) (k := q)
 have g4 : cntB a x4 = sumF (oneB a) x4.blocks := rfl
 refine Y.seq (Y.seq (Y.region (Y.mv rfl .z (Y.mv rfl .g5 (Y.mv rfl .g3 ?_)))))
 refine Y.ql rfl (q_indexAddr (j := k) rfl u_24 sz_44 (.t .g1) (.t .z) rfl (by omega)) ?_
 refine Y.fa rfl .z fa_44_3 (Y.le rfl ag_36 .z ae af (Y.ql rfl (q_len rfl u_36 (.t .z)) (Y.ql rfl (q_lss rfl (.t .g6) (.t .z)) (Y.nt ?_))))
 refine Y.condP (.t .z) (fun b8 => ?_) (fun b8 => ?_)
 refine Y.skip (Y.then_ (Y.seq (Y.block (Y.seq (Y.region (Y.mv rfl .g12 (Y.mv rfl .g10 ?_)))))))
 refine Y.ql rfl (q_indexAddr (j := k) rfl u_24 sz_44 (.t .g1) (.t .z) rfl (by omega)) ?_
 refine Y.fa rfl .z fa_44_3 (Y.le rfl ag_36 .z ae af (Y.mv rfl .g13 ?_))
 obtain ⟨bd, ai, aj⟩ := aa (by omega)
 subst ai
 obtain ⟨be, ab⟩ := get_ex (xs := x4.blocks) (j := q) (by omega)
 obtain ⟨a4, ak, al, am⟩ := aj.elem ab
 obtain ⟨rfl, a8⟩ := ak
 refine Y.ql rfl (q_indexAddr (j := q) rfl u_36 sz_2 (.t .g1) (.t .z) rfl (by omega)) ?_
 refine Y.ql rfl (q_load rfl ag_2 (.t .z) (WS.el0 al am rfl)) (Y.mv rfl (.s16 .g5) (Y.ql rfl (q_eql rfl (.t .g1) (.t .z)) (Y.nt ?_)))
 refine Y.condP (.t .z) (fun a9 => ?_) (fun a9 => ?_)
 refine Y.region (Y.mv rfl (.s16 .g4) ?_)
 refine Y.ql rfl (q_add (c := (((sumF (cntB a) (List.take k xs) + sumF (oneB a) (List.take q x4.blocks)) + 1 : Nat) : Int)) rfl (.t .z) .c (wr (by omega) (by omega) (by omega))) ?_
 refine Y.er (.s16 .g6) (Y.as rfl .z (Y.nil (Y.inBN (Y.then_ (Y.region (Y.mv rfl (.s16 .g5) ?_))))))
 refine Y.ql rfl (q_add (c := ((q + 1 : Nat) : Int)) rfl (.t .z) .c (wr (by omega) (by omega) (by omega))) ?_
 refine Y.er (.s16 .g7) (Y.as rfl .z (Y.nil ?_))
 refine Y.again (q + 1) (by omega) (by first | omega | (dsimp only; omega)) (.c .z (.c (.s16 .g8) (.e .g3 (congrArg (Value.int .i64) (by have hs := sumF_take (oneB a) ab; unfold oneB at hs ⊢; split at hs <;> (first | omega | contradiction))) (.c (.s16 .g9) (.c (.s16 .g10) (.c (.s16 .g11) .n)))))) (fun _ h => h)
 refine Y.skip (Y.inBN (Y.then_ (Y.region (Y.mv rfl (.s16 .g2) ?_))))
 refine Y.ql rfl (q_add (c := ((q + 1 : Nat) : Int)) rfl (.t .z) .c (wr (by omega) (by omega) (by omega))) ?_
 refine Y.er (.s16 .g4) (Y.as rfl .z (Y.nil ?_))
 refine Y.again (q + 1) (by omega) (by first | omega | (dsimp only; omega)) (.c .z (.c (.s16 .g5) (.e (.s16 .g6) (congrArg (Value.int .i64) (by have hs := sumF_take (oneB a) ab; unfold oneB at hs ⊢; split at hs <;> (first | omega | contradiction))) (.c (.s16 .g7) (.c (.s16 .g8) (.c (.s16 .g9) .n)))))) (fun _ h => h)
 refine Y.exit (Y.thenE (Y.thenE (Y.inB (Y.inBN (Y.then_ (Y.region (Y.mv rfl .g9 ?_)))))))
 refine Y.ql rfl (q_add (c := ((k + 1 : Nat) : Int)) rfl (.t .z) .c (wr (by omega) (by omega) (by omega))) ?_
 refine Y.er .g11 (Y.as rfl .z (Y.nil ?_))
 refine Y.again (k + 1) (by omega) (by first | omega | (dsimp only; omega)) (.c .z (.e .g12 (congrArg (Value.int .i64) (by have hs := sumF_take (cntB a) an; have bf := sumF_all (oneB a) (xs := x4.blocks) (k := q) (by omega); unfold cntB at hs ⊢; omega)) (.c .g13 (.c .g14 (.c .g15 .n))))) (fun _ h => h)
 refine Y.exit (Y.thenE (Y.thenE (Y.inB (Y.then_ (Y.seq (Y.region (Y.mv rfl .g5 (Y.er .g7 ?_))))))))
 refine Y.as rfl .z (Y.nt (Y.ret ?_))
 refine Y.doneS (res1 rfl .z) .n ?_
 exact ⟨by unfold countB; rw [sumF_all _ (by omega)], rfl⟩

theorem c_143 {w0 : World} {S0 : Bs} {xs : (List Int)} {v0 : Value} (h0 : kSl_2.ro w0 (FF w0 S0) xs [v0]) (v : Int)  :
    Calls Tryz.prog 143 #[v0, .int .i64 v] w0 (TriPost w0 S0 (fun r l => r = .bool (decide (v ∈ xs)) ∧ l = [])) := by
 obtain ⟨A0, c0, rfl, ai, aj, ak, ag⟩ := ro_form h0
 refine Y.enter (N := 18) Tryz.func143 rfl rfl (by simp) [(0, .slice A0 xs.length c0), (1, .int .i64 v)] (by simp) (l0 := []) trivial ?_
 refine Y.seq (Y.region (Y.ql rfl (q_assign rfl .c) (Y.nt (Y.seq (Y.seq (Y.region (Y.ql rfl (q_assign rfl .c) ?_)))))))
 refine Y.nt (Y.block ?_)
 refine Y.loopi (γ := Nat) (fun k => [(5, .int .i64 (k : Int)), (0, .slice A0 xs.length c0), (1, .int .i64 v)]) (fun k => []) (fun k => k ≤ xs.length ∧ ∀ j y, j < k → xs[j]? = some y → ¬ y = v) (fun k => xs.length - k) 0 ⟨Nat.zero_le _, all_zero (q := fun _ y => ¬ y = v)⟩ (.c .z (.c .g2 (.c .g3 .n))) (fun _ h => h) ?_
 rintro k ⟨hk, hallk⟩
 refine Y.seq (Y.seq (Y.region (Y.mv rfl .z (Y.mv rfl .g2 (Y.ql rfl (q_len rfl u_36 (.t .z)) (Y.ql rfl (q_lss rfl (.t .g2) (.t .z)) (Y.nt ?_)))))))
 refine Y.condP (.t .z) (fun b2 => ?_) (fun b2 => ?_)
 refine Y.skip (Y.then_ (Y.seq (Y.block (Y.seq (Y.region (Y.mv rfl .g5 (Y.mv rfl .g5 ?_)))))))
 obtain ⟨al, aa, ab⟩ := ag (by omega)
 subst aa
 obtain ⟨x4, ac⟩ := get_ex (xs := xs) (j := k) (by omega)
 obtain ⟨ah, ad, ae, af⟩ := ab.elem ac
 obtain ⟨rfl, am⟩ := ad
 refine Y.ql rfl (q_indexAddr (j := k) rfl u_36 sz_2 (.t .g1) (.t .z) rfl (by omega)) ?_
 refine Y.ql rfl (q_load rfl ag_2 (.t .z) (WS.el0 ae af rfl)) (Y.mv rfl .g10 (Y.ql rfl (q_eql rfl (.t .g1) (.t .z)) (Y.nt ?_)))
 refine Y.condP (.t .z) (fun b6 => ?_) (fun b6 => ?_)
 refine Y.seq (Y.region (Y.ql rfl (q_assign rfl .c) (Y.nt (Y.ret (Y.inBR (Y.thenR (Y.thenR ?_)))))))
 refine Y.inBR (Y.thenR ?_)
 refine Y.doneS (res1 rfl .z) .n ?_
 exact ⟨by rw [decide_eq_true ((by assumption : x4 = v) ▸ List.mem_of_getElem? ac)], rfl⟩
 refine Y.skip (Y.inBN (Y.then_ (Y.region (Y.mv rfl .g10 ?_))))
 refine Y.ql rfl (q_add (c := ((k + 1 : Nat) : Int)) rfl (.t .z) .c (wr (by omega) (by omega) (by omega))) ?_
 refine Y.er .g12 (Y.as rfl .z (Y.nil ?_))
 refine Y.again (k + 1) ⟨by omega, all_succ (q := fun _ y => ¬ y = v) hallk ac (by assumption)⟩ (by first | omega | (dsimp only; omega)) (.c .z (.c .g13 (.c .g14 .n))) (fun _ h => h)
 refine Y.exit (Y.thenE (Y.thenE (Y.inB (Y.then_ (Y.seq (Y.region (Y.ql rfl (q_assign rfl .c) (Y.nil ?_))))))))
 refine Y.then_ (Y.ret ?_)
 refine Y.doneS (res1 rfl .z) .n ?_
 exact ⟨by rw [decide_eq_false (fun hm => not_mem_take (k := k) hallk (by rw [List.take_of_length_le (by omega)]; exact hm))], rfl⟩

end Go.Proofs.YtmejbfmhaoilmaaGreat

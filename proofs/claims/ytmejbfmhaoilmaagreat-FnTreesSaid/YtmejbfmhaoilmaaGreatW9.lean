/- What is proved: contracts of functions, one a function. No condition. -/
import Derived.Test.YtmejbfmhaoilmaaGreatBase1
import Derived.Test.YtmejbfmhaoilmaaGreatW3
namespace Go.Proofs.YtmejbfmhaoilmaaGreat
open Go Go.RowKit
set_option linter.unusedVariables false
set_option linter.unusedSimpArgs false
set_option maxHeartbeats 1000000
set_option maxRecDepth 20000
theorem c_86 {w0 : World} {S0 : Bs} {xs : (List DInode)} {v0 : Value} (h0 : kSl_44.ro w0 (FF w0 S0) xs [v0]) (a : Int) (hb : linksOf xs a ≤ 60) :
    Calls Tryz.prog 86 #[v0, .int .i64 a] w0 (TriPost w0 S0 (fun r l => r = .int .i64 (linksOf xs a : Int) ∧ l = [])) := by
 obtain ⟨A0, c0, rfl, bb, bc, bd, a6⟩ := ro_form h0
 refine Y.enter (N := 32) Tryz.func86 rfl rfl (by simp) [(0, .slice A0 xs.length c0), (1, .int .i64 a)] (by simp) (l0 := []) trivial ?_
 refine Y.seq (Y.region (Y.ql rfl (q_assign rfl .c) (Y.nt (Y.seq (Y.region (Y.ql rfl (q_assign rfl .c) (Y.nil ?_)))))))
 refine Y.then_ (Y.seq (Y.seq (Y.region (Y.mv rfl .g2 (Y.ql rfl (q_len rfl u_24 (.t .z)) (Y.ql rfl (q_move rfl .c) (Y.nt ?_)))))))
 refine Y.block ?_
 refine Y.loopi (γ := Nat) (fun k => [(12, .int .i64 (k : Int)), (11, .int .i64 (xs.length : Int)), (10, .slice A0 xs.length c0), (5, .int .i64 (sumF (linksIn a) (List.take k xs) : Int)), (4, .int .i64 0), (1, .int .i64 a)]) (fun k => []) (fun k => k ≤ xs.length) (fun k => xs.length - k) 0 (Nat.zero_le _) (.c .z (.c .g1 (.c .g2 (.e .g3 rfl (.c .g4 (.c .g6 .n)))))) (fun _ h => h) ?_
 rintro k hk
 refine Y.seq (Y.region (Y.ql rfl (q_lss rfl (.t .z) (.t .g1)) (Y.nt (Y.seq ?_))))
 refine Y.condP (.t .z) (fun b2 => ?_) (fun b2 => ?_)
 refine Y.skip (Y.then_ (Y.seq (Y.block (Y.seq (Y.region ?_)))))
 obtain ⟨a7, ag, ah⟩ := a6 (by omega)
 subst ag
 obtain ⟨x4, ap⟩ := get_ex (xs := xs) (j := k) (by omega)
 obtain ⟨a8, aq, ar, au⟩ := ah.elem ap
 obtain ⟨a3, a4, rfl, ai, aj⟩ := kT_44_ro aq
 obtain ⟨ak, al, rfl, av, aw, ax, ay⟩ := ro_form ai
 obtain ⟨aa, ab, rfl, az, a0, a1, ac⟩ := ro_form aj
 refine Y.ql rfl (q_indexAddr (j := k) rfl u_24 sz_44 (.t .g3) (.t .g1) rfl (by omega)) ?_
 refine Y.ql rfl (qE rfl ag_44 (.t .z) ar au sz_44) ?_
 refine Y.el rfl (e_alloc rfl z_44 rfl rfl) ?_
 rintro _ _ ⟨g8, rfl, rfl⟩
 refine Y.es (goes_list rfl) rfl (esW rfl (.t .z) (.t .g1) .z sz_44 rfl rfl) ?_
 refine Y.nt (Y.seq (Y.region (Y.fa rfl .z fa_44_4 (Y.ld rfl ag_42 .z .z (Y.ql rfl (q_len rfl u_42 (.t .z)) (Y.ql rfl (q_move rfl .c) (Y.nil ?_)))))))
 refine Y.then_ (Y.block ?_)
 have g1 := sumF_get (linksIn a) ap
 have g3 := hb
 unfold linksOf at g3
 refine Y.loopi (γ := Nat) (fun q => [(19, .int .i64 (q : Int)), (18, .int .i64 (x4.ents.length : Int)), (17, .slice aa x4.ents.length ab), (12, .int .i64 (k : Int)), (11, .int .i64 (xs.length : Int)), (10, .slice (some a7) xs.length c0), (5, .int .i64 ((sumF (linksIn a) (List.take k xs) + sumF (cntE a) (List.take q x4.ents) : Nat) : Int)), (4, .int .i64 0), (1, .int .i64 a)]) (fun q => [rowA g8 44 5 1 [.int .i64 x4.kind, .int .i64 x4.links, .int .i64 x4.size, .slice ak x4.blocks.length al, .slice aa x4.ents.length ab]]) (fun q => q ≤ x4.ents.length) (fun q => x4.ents.length - q) 0 (Nat.zero_le _) (.c .z (.c .g1 (.c .g2 (.c .g8 (.c .g9 (.c .g10 (.e .g11 (congrArg (Value.int .i64) (by simp only [List.take_zero, sumF]; omega)) (.c .g12 (.c .g13 .n))))))))) (fun _ h => h.sel (.c .z .n)) ?_
 rintro q hq
 have g2 := sumF_le (cntE a) (xs := x4.ents) (k := q)
 have g4 : linksIn a x4 = sumF (cntE a) x4.ents := rfl
 refine Y.seq (Y.region (Y.ql rfl (q_lss rfl (.t .z) (.t .g1)) (Y.nt (Y.seq ?_))))
 refine Y.condP (.t .z) (fun b9 => ?_) (fun b9 => ?_)
 refine Y.skip (Y.then_ (Y.seq (Y.block (Y.seq (Y.region ?_)))))
 obtain ⟨a9, ad, ae⟩ := ac (by omega)
 subst ad
 obtain ⟨be, af⟩ := get_ex (xs := x4.ents) (j := q) (by omega)
 obtain ⟨a5, am, an, ao⟩ := ae.elem af
 obtain ⟨rfl, a2⟩ := kT_46_ro am
 refine Y.ql rfl (q_indexAddr (j := q) rfl u_42 sz_46 (.t .g3) (.t .g1) rfl (by omega)) ?_
 refine Y.ql rfl (qE rfl ag_46 (.t .z) an ao sz_46) ?_
 refine Y.el rfl (e_alloc rfl z_46 rfl rfl) ?_
 rintro _ _ ⟨g13, rfl, rfl⟩
 refine Y.es (goes_list rfl) rfl (esW rfl (.t .z) (.t .g1) .z sz_46 rfl rfl) ?_
 refine Y.nt (Y.seq (Y.region (Y.fa rfl .z fa_46_1 (Y.ld rfl ag_2 .z .z (Y.mv rfl .g14 (Y.ql rfl (q_eql rfl (.t .g1) (.t .z)) (Y.nil ?_)))))))
 refine Y.then_ ?_
 refine Y.condP (.t .z) (fun ba => ?_) (fun ba => ?_)
 refine Y.region (Y.mv rfl .g14 ?_)
 refine Y.ql rfl (q_add (c := (((sumF (linksIn a) (List.take k xs) + sumF (cntE a) (List.take q x4.ents)) + 1 : Nat) : Int)) rfl (.t .z) .c (wr (by omega) (by omega) (by omega))) ?_
 refine Y.er .g16 (Y.as rfl .z (Y.nil (Y.inBN (Y.then_ (Y.region ?_)))))
 refine Y.ql rfl (q_add (c := ((q + 1 : Nat) : Int)) rfl (.t .g11) .c (wr (by omega) (by omega) (by omega))) ?_
 refine Y.er .g12 (Y.mv rfl .z (Y.nil ?_))
 refine Y.again (q + 1) (by omega) (by first | omega | (dsimp only; omega)) (.c .z (.c .g13 (.c .g14 (.c .g15 (.c .g16 (.c (.s16 .g1) (.e .g2 (congrArg (Value.int .i64) (by have hs := sumF_take (cntE a) af; unfold cntE at hs ⊢; split at hs <;> (first | omega | contradiction))) (.c (.s16 .g2) (.c (.s16 .g3) .n))))))))) (fun _ h => h.sel (.c .g1 .n))
 refine Y.skip (Y.inBN (Y.then_ (Y.region ?_)))
 refine Y.ql rfl (q_add (c := ((q + 1 : Nat) : Int)) rfl (.t .g8) .c (wr (by omega) (by omega) (by omega))) ?_
 refine Y.er .g9 (Y.mv rfl .z (Y.nil ?_))
 refine Y.again (q + 1) (by omega) (by first | omega | (dsimp only; omega)) (.c .z (.c .g10 (.c .g11 (.c .g12 (.c .g13 (.c .g14 (.e .g15 (congrArg (Value.int .i64) (by have hs := sumF_take (cntE a) af; unfold cntE at hs ⊢; split at hs <;> (first | omega | contradiction))) (.c .g16 (.c (.s16 .g1) .n))))))))) (fun _ h => h.sel (.c .g1 .n))
 refine Y.exit (Y.thenE (Y.thenE (Y.inB (Y.inBN (Y.then_ (Y.region ?_))))))
 refine Y.ql rfl (q_add (c := ((k + 1 : Nat) : Int)) rfl (.t .g4) .c (wr (by omega) (by omega) (by omega))) ?_
 refine Y.er .g5 (Y.mv rfl .z (Y.nil ?_))
 refine Y.again (k + 1) (by omega) (by first | omega | (dsimp only; omega)) (.c .z (.c .g6 (.c .g7 (.e .g8 (congrArg (Value.int .i64) (by have hs := sumF_take (linksIn a) ap; have bf := sumF_all (cntE a) (xs := x4.ents) (k := q) (by omega); unfold linksIn at hs ⊢; omega)) (.c .g9 (.c .g10 .n)))))) (fun _ h => h.sel .n)
 refine Y.exit (Y.thenE (Y.thenE (Y.inB (Y.then_ (Y.seq (Y.region (Y.mv rfl .g4 (Y.er .g6 ?_))))))))
 refine Y.as rfl .z (Y.nt (Y.ret ?_))
 refine Y.doneS (res1 rfl .z) .n ?_
 exact ⟨by unfold linksOf; rw [sumF_all _ (by omega)], rfl⟩

theorem c_142 {w0 : World} {S0 : Bs} {xs : (List DInode)} {v0 : Value} (h0 : kSl_44.ro w0 (FF w0 S0) xs [v0]) (a : Int) (hb : linksOf xs a ≤ 60) :
    Calls Tryz.prog 142 #[v0, .int .i64 a] w0 (TriPost w0 S0 (fun r l => r = .int .i64 (linksOf xs a : Int) ∧ l = [])) := by
 obtain ⟨A0, c0, rfl, ba, bb, bc, a6⟩ := ro_form h0
 refine Y.enter (N := 38) Tryz.func142 rfl rfl (by simp) [(0, .slice A0 xs.length c0), (1, .int .i64 a)] (by simp) (l0 := []) trivial ?_
 refine Y.seq (Y.region (Y.ql rfl (q_assign rfl .c) (Y.nt (Y.seq (Y.region (Y.ql rfl (q_assign rfl .c) (Y.nil ?_)))))))
 refine Y.then_ (Y.seq (Y.seq (Y.region (Y.ql rfl (q_assign rfl .c) (Y.nt (Y.block ?_))))))
 refine Y.loopi (γ := Nat) (fun k => [(6, .int .i64 (k : Int)), (5, .int .i64 (sumF (linksIn a) (List.take k xs) : Int)), (4, .int .i64 0), (0, .slice A0 xs.length c0), (1, .int .i64 a)]) (fun k => []) (fun k => k ≤ xs.length) (fun k => xs.length - k) 0 (Nat.zero_le _) (.c .z (.e .g1 rfl (.c .g2 (.c .g3 (.c .g4 .n))))) (fun _ h => h) ?_
 rintro k hk
 refine Y.seq (Y.seq (Y.region (Y.mv rfl .z (Y.mv rfl .g4 (Y.ql rfl (q_len rfl u_24 (.t .z)) (Y.ql rfl (q_lss rfl (.t .g2) (.t .z)) (Y.nt ?_)))))))
 refine Y.condP (.t .z) (fun b2 => ?_) (fun b2 => ?_)
 refine Y.skip (Y.then_ (Y.seq (Y.block (Y.seq (Y.region (Y.ql rfl (q_assign rfl .c) (Y.nt ?_)))))))
 refine Y.block ?_
 obtain ⟨a7, ac, ad⟩ := a6 (by omega)
 subst ac
 obtain ⟨x4, an⟩ := get_ex (xs := xs) (j := k) (by omega)
 obtain ⟨a8, ao, ae, af⟩ := ad.elem an
 obtain ⟨az, a0, rfl, ag, ah⟩ := kT_44_ro ao
 obtain ⟨a1, a2, rfl, ap, aq, ar, au⟩ := ro_form ag
 obtain ⟨a3, a4, rfl, av, aw, ax, aa⟩ := ro_form ah
 have g1 := sumF_get (linksIn a) an
 have g3 := hb
 unfold linksOf at g3
 refine Y.loopi (γ := Nat) (fun q => [(7, .int .i64 (q : Int)), (6, .int .i64 (k : Int)), (5, .int .i64 ((sumF (linksIn a) (List.take k xs) + sumF (cntE a) (List.take q x4.ents) : Nat) : Int)), (4, .int .i64 0), (0, .slice (some a7) xs.length c0), (1, .int .i64 a)]) (fun q => []) (fun q => q ≤ x4.ents.length) (fun q => x4.ents.length - q) 0 (Nat.zero_le _) (.c .z (.c .g5 (.e .g6 (congrArg (Value.int .i64) (by simp only [List.take_zero, sumF]; omega)) (.c .g7 (.c .g8 (.c .g9 .n)))))) (fun _ h => h) ?_
 rintro q hq
 have g2 := sumF_le (cntE a) (xs := x4.ents) (k := q)
 have g4 : linksIn a x4 = sumF (cntE a) x4.ents := rfl
 refine Y.seq (Y.seq (Y.region (Y.mv rfl .z (Y.mv rfl .g5 (Y.mv rfl .g3 ?_)))))
 refine Y.ql rfl (q_indexAddr (j := k) rfl u_24 sz_44 (.t .g1) (.t .z) rfl (by omega)) ?_
 refine Y.fa rfl .z fa_44_4 (Y.le rfl ag_42 .z ae af (Y.ql rfl (q_len rfl u_42 (.t .z)) (Y.ql rfl (q_lss rfl (.t .g6) (.t .z)) (Y.nt ?_))))
 refine Y.condP (.t .z) (fun b8 => ?_) (fun b8 => ?_)
 refine Y.skip (Y.then_ (Y.seq (Y.block (Y.seq (Y.region (Y.mv rfl .g12 (Y.mv rfl .g10 ?_)))))))
 refine Y.ql rfl (q_indexAddr (j := k) rfl u_24 sz_44 (.t .g1) (.t .z) rfl (by omega)) ?_
 refine Y.fa rfl .z fa_44_4 (Y.le rfl ag_42 .z ae af (Y.mv rfl .g13 ?_))
 obtain ⟨bd, ai, aj⟩ := aa (by omega)
 subst ai
 obtain ⟨be, ab⟩ := get_ex (xs := x4.ents) (j := q) (by omega)
 obtain ⟨a5, ak, al, am⟩ := aj.elem ab
 obtain ⟨rfl, ay⟩ := kT_46_ro ak
 refine Y.ql rfl (q_indexAddr (j := q) rfl u_42 sz_46 (.t .g1) (.t .z) rfl (by omega)) ?_
 refine Y.fa rfl .z fa_46_1 (Y.le rfl ag_2 .z al am (Y.mv rfl (.s16 .g6) (Y.ql rfl (q_eql rfl (.t .g1) (.t .z)) (Y.nt ?_))))
 refine Y.condP (.t .z) (fun a9 => ?_) (fun a9 => ?_)
 refine Y.region (Y.mv rfl (.s16 .g5) ?_)
 refine Y.ql rfl (q_add (c := (((sumF (linksIn a) (List.take k xs) + sumF (cntE a) (List.take q x4.ents)) + 1 : Nat) : Int)) rfl (.t .z) .c (wr (by omega) (by omega) (by omega))) ?_
 refine Y.er (.s16 .g7) (Y.as rfl .z (Y.nil (Y.inBN (Y.then_ (Y.region (Y.mv rfl (.s16 .g6) ?_))))))
 refine Y.ql rfl (q_add (c := ((q + 1 : Nat) : Int)) rfl (.t .z) .c (wr (by omega) (by omega) (by omega))) ?_
 refine Y.er (.s16 .g8) (Y.as rfl .z (Y.nil ?_))
 refine Y.again (q + 1) (by omega) (by first | omega | (dsimp only; omega)) (.c .z (.c (.s16 .g9) (.e .g3 (congrArg (Value.int .i64) (by have hs := sumF_take (cntE a) ab; unfold cntE at hs ⊢; split at hs <;> (first | omega | contradiction))) (.c (.s16 .g10) (.c (.s16 .g11) (.c (.s16 .g12) .n)))))) (fun _ h => h)
 refine Y.skip (Y.inBN (Y.then_ (Y.region (Y.mv rfl (.s16 .g3) ?_))))
 refine Y.ql rfl (q_add (c := ((q + 1 : Nat) : Int)) rfl (.t .z) .c (wr (by omega) (by omega) (by omega))) ?_
 refine Y.er (.s16 .g5) (Y.as rfl .z (Y.nil ?_))
 refine Y.again (q + 1) (by omega) (by first | omega | (dsimp only; omega)) (.c .z (.c (.s16 .g6) (.e (.s16 .g7) (congrArg (Value.int .i64) (by have hs := sumF_take (cntE a) ab; unfold cntE at hs ⊢; split at hs <;> (first | omega | contradiction))) (.c (.s16 .g8) (.c (.s16 .g9) (.c (.s16 .g10) .n)))))) (fun _ h => h)
 refine Y.exit (Y.thenE (Y.thenE (Y.inB (Y.inBN (Y.then_ (Y.region (Y.mv rfl .g9 ?_)))))))
 refine Y.ql rfl (q_add (c := ((k + 1 : Nat) : Int)) rfl (.t .z) .c (wr (by omega) (by omega) (by omega))) ?_
 refine Y.er .g11 (Y.as rfl .z (Y.nil ?_))
 refine Y.again (k + 1) (by omega) (by first | omega | (dsimp only; omega)) (.c .z (.e .g12 (congrArg (Value.int .i64) (by have hs := sumF_take (linksIn a) an; have bf := sumF_all (cntE a) (xs := x4.ents) (k := q) (by omega); unfold linksIn at hs ⊢; omega)) (.c .g13 (.c .g14 (.c .g15 .n))))) (fun _ h => h)
 refine Y.exit (Y.thenE (Y.thenE (Y.inB (Y.then_ (Y.seq (Y.region (Y.mv rfl .g5 (Y.er .g7 ?_))))))))
 refine Y.as rfl .z (Y.nt (Y.ret ?_))
 refine Y.doneS (res1 rfl .z) .n ?_
 exact ⟨by unfold linksOf; rw [sumF_all _ (by omega)], rfl⟩

end Go.Proofs.YtmejbfmhaoilmaaGreat

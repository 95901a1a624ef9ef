/- What is proved: contracts of functions, one a function. No condition. -/
import Derived.Test.YtmejbfmhaoilmaaGreatBase1
import Derived.Test.YtmejbfmhaoilmaaGreatW10
import Derived.Test.YtmejbfmhaoilmaaGreatSortL
namespace Go.Proofs.YtmejbfmhaoilmaaGreat
open Go Go.RowKit
set_option linter.unusedVariables false
set_option linter.unusedSimpArgs false
set_option maxHeartbeats 1000000
set_option maxRecDepth 20000
theorem c_99 {w0 : World} {S0 : Bs} {xs : (List DInode)} {v0 : Value} (h0 : kSl_44.ro w0 (FF w0 S0) xs [v0]) (hb : inodesFault xs = 0) :
    Calls Tryz.prog 99 #[v0] w0 (TriPost w0 S0 (fun r l => ∃ v : Value, r = .tuple #[v, .bool (decide (usedL xs).Nodup)] ∧ l = [ownA kSl_2 (placesTo (usedP xs) 20) [v]])) := by
 obtain ⟨A0, c0, rfl, aj, ak, al, am⟩ := ro_form h0
 refine Y.enter (N := 29) Tryz.func99 rfl rfl (by simp) [(0, .slice A0 xs.length c0)] (by simp) (l0 := []) trivial ?_
 refine Y.seq (Y.region (Y.ql rfl (q_assign rfl .c) (Y.ql rfl (q_assign rfl .c) (Y.nt (Y.seq (Y.region ?_))))))
 refine Y.el rfl (e_buildNil rfl u_36 (inz inf_2)) ?_
 rintro _ _ ⟨g2, rfl, rfl⟩
 refine Y.as rfl .z (Y.nt (Y.seq (Y.region (Y.ql rfl (q_assign rfl .c) (Y.nt (Y.seq ?_))))))
 refine Y.seq (Y.region (Y.ql rfl (q_assign rfl .c) (Y.nt (Y.block ?_))))
 refine Y.add (c := ownA kSl_2 ([] : (List Int)) [.slice (some ⟨g2, 0, none⟩) 0 0]) (fun w S => own_nil w S _) ?_
 refine Y.loopi (γ := Nat × (Option Addr) × Nat) (fun ⟨k, aa, ab⟩ => [(6, .int .i64 (k : Int)), (5, .bool (decide (onceTo xs k))), (4, .slice aa (placesTo (usedP xs) k).length ab), (3, .bool false), (2, .slice none 0 0), (0, .slice A0 xs.length c0)]) (fun ⟨k, aa, ab⟩ => [ownA kSl_2 (placesTo (usedP xs) k) [.slice aa (placesTo (usedP xs) k).length ab], rowA g2 2 1 0 []]) (fun ⟨k, aa, ab⟩ => k ≤ 20) (fun ⟨k, aa, ab⟩ => 20 - k) (0, (some ⟨g2, 0, none⟩), 0) (Nat.zero_le _) (.c .z (.e .g1 (congrArg Value.bool (decide_eq_true (fun j hj => absurd hj (Nat.not_lt_zero j))).symm) (.c .g2 (.c .g4 (.c .g5 (.c .g6 .n)))))) (fun _ h => h.sel (.c .z (.c .z .n))) ?_
 rintro ⟨k, aa, ab⟩ hk
 have hpl := placesTo_len (p := (usedP xs)) (k := k)
 refine Y.seq (Y.seq (Y.region (Y.mv rfl .z (Y.ql rfl (q_lss rfl (.t .z) .c) (Y.nt ?_)))))
 refine Y.condP (.t .z) (fun b4 => ?_) (fun b4 => ?_)
 refine Y.skip (Y.then_ (Y.seq (Y.block (Y.seq (Y.region (Y.mv rfl .g7 (Y.mv rfl .g3 ?_)))))))
 refine Y.cl rfl rfl Tryz.func134 rfl rfl (args2 (.t .g1) (.t .z)) .n (fun _ _ hs tr => c_134 (tr.ctx h0) _ (by assumption)) ?_
 rintro _ _ ⟨rfl, rfl⟩
 refine Y.cat .n ?_
 refine Y.as rfl .z (Y.nt (Y.seq (Y.seq (Y.region (Y.mv rfl .z (Y.ql rfl (q_gtr rfl (.t .z) .c) (Y.nil ?_)))))))
 refine Y.then_ ?_
 refine Y.condP (.t .z) (fun b5 => ?_) (fun b5 => ?_)
 refine Y.region (Y.mv rfl .g10 (Y.mv rfl .g9 ?_))
 refine Y.el rfl (e_buildSliceL (cs := [.int .i64 (k : Int)]) rfl u_36 (inz inf_2) (by decide) (pv1 (.t .z)) rfl rfl (by decide) rfl rfl) ?_
 rintro _ _ ⟨g6, rfl, rfl⟩
 refine Y.add (c := ownA (kint .i64) (k : Int) [.int .i64 (k : Int)]) (fun _ _ => ⟨rfl, trivial⟩) ?_
 refine Y.el rfl (e_append1 rfl u_36 inf_2 rfl (.t .g2) (.t .z) (.c .g2 (.c .g1 (.c .z .n))) (by first | omega | (simp only [List.length_append, List.length_take, List.length_nil, List.length_cons]; omega)) (by first | omega | (simp only [List.length_append, List.length_take, List.length_nil, List.length_cons]; omega))) ?_
 rintro _ _ rfl
 refine Y.ceq .z (placesTo_on (by first | exact decide_eq_true (by first | assumption | omega | (constructor <;> first | assumption | (rw [← count_0]; assumption; done) | (exact fun hm => absurd (sortI_mem.2 hm) (by assumption)))) | exact decide_eq_false (by first | assumption | omega | (rintro ⟨h1, h2⟩; first | contradiction | (exact absurd h2 (by assumption)) | (have := count_0.2 h1; contradiction) | (exact absurd (sortI_mem.1 (by assumption)) h1))))) ?_
 refine Y.know (WS.oform .z) ?_
 rintro ⟨ae, af, rfl, ag, ah, ai⟩
 refine Y.er .g14 (Y.as rfl .z (Y.nt (Y.region (Y.mv rfl .g14 (Y.mv rfl .z ?_)))))
 refine Y.caseP .z (fun g9 => ?_) (fun g9 => ?_)
 refine Y.qg rfl rfl .z rfl rfl rfl (q_move rfl (.t .g9)) ?_
 refine Y.qg rfl rfl .g1 rfl rfl rfl (q_leq rfl (.t .z) .c) ?_
 refine Y.ql rfl (q_pickT rfl (.t .g2) (.t .z)) (Y.er (.s16 .g3) (Y.as rfl .z (Y.nil (Y.inBN (Y.then_ (Y.region (Y.mv rfl (.s16 .g3) ?_)))))))
 refine Y.ql rfl (q_add (c := ((k + 1 : Nat) : Int)) rfl (.t .z) .c (wr (by omega) (by omega) (by omega))) ?_
 refine Y.er (.s16 .g5) (Y.as rfl .z (Y.nil ?_))
 refine Y.again ((k + 1), ae, af) (by omega) (by first | omega | (dsimp only; omega)) (.c .z (.e .g3 (congrArg Value.bool (by first | (exact decide_eq_decide.2 ⟨fun h => onceTo_s.2 ⟨by assumption, by omega⟩, fun h => by have := (onceTo_s.1 h).2; omega⟩) | (exact (decide_eq_false (fun h => absurd (onceTo_s.1 h).1 (by assumption))).symm))) (.c .g9 (.c (.s16 .g6) (.c (.s16 .g7) (.c (.s16 .g8) .n)))))) (fun _ h => h.sel (.c .z (.c .z .n)))
 refine Y.skipl rfl rfl .z rfl rfl (by decide) rfl ?_
 refine Y.skipl rfl rfl .g1 rfl rfl (by decide) rfl ?_
 refine Y.ql rfl (q_pickF rfl (.t .g2) .c) (Y.er (.s16 .g3) (Y.as rfl .z (Y.nil (Y.inBN (Y.then_ (Y.region (Y.mv rfl (.s16 .g3) ?_)))))))
 refine Y.ql rfl (q_add (c := ((k + 1 : Nat) : Int)) rfl (.t .z) .c (wr (by omega) (by omega) (by omega))) ?_
 refine Y.er (.s16 .g5) (Y.as rfl .z (Y.nil ?_))
 refine Y.again ((k + 1), ae, af) (by omega) (by first | omega | (dsimp only; omega)) (.c .z (.e .g3 (congrArg Value.bool (by first | (exact decide_eq_decide.2 ⟨fun h => onceTo_s.2 ⟨by assumption, by omega⟩, fun h => by have := (onceTo_s.1 h).2; omega⟩) | (exact (decide_eq_false (fun h => absurd (onceTo_s.1 h).1 (by assumption))).symm))) (.c .g9 (.c (.s16 .g6) (.c (.s16 .g7) (.c (.s16 .g8) .n)))))) (fun _ h => h.sel (.c .z (.c .z .n)))
 refine Y.skip (Y.then_ (Y.region (Y.mv rfl .g9 (Y.mv rfl .z ?_))))
 refine Y.caseP .z (fun g10 => ?_) (fun g10 => ?_)
 refine Y.qg rfl rfl .z rfl rfl rfl (q_move rfl (.t .g4)) ?_
 refine Y.qg rfl rfl .g1 rfl rfl rfl (q_leq rfl (.t .z) .c) ?_
 refine Y.ql rfl (q_pickT rfl (.t .g2) (.t .z)) (Y.er .g14 (Y.as rfl .z (Y.nil (Y.inBN (Y.then_ (Y.region (Y.mv rfl .g14 ?_)))))))
 refine Y.ql rfl (q_add (c := ((k + 1 : Nat) : Int)) rfl (.t .z) .c (wr (by omega) (by omega) (by omega))) ?_
 refine Y.er .g16 (Y.as rfl .z (Y.nil ?_))
 have ac : placesTo (usedP xs) k = placesTo (usedP xs) (k + 1) := (placesTo_off (by first | exact decide_eq_true (by first | assumption | omega | (constructor <;> first | assumption | (rw [← count_0]; assumption; done) | (exact fun hm => absurd (sortI_mem.2 hm) (by assumption)))) | exact decide_eq_false (by first | assumption | omega | (rintro ⟨h1, h2⟩; first | contradiction | (exact absurd h2 (by assumption)) | (have := count_0.2 h1; contradiction) | (exact absurd (sortI_mem.1 (by assumption)) h1)))))
 refine Y.eq (.s16 .g1) (congrArg (fun z_ => (.slice aa (z_).length ab : Value)) ac) ?_
 refine Y.chEq .z (congrArg (fun z_ => (ownA kSl_2 (z_) [.slice aa (z_).length ab] : Asn)) ac) ?_
 refine Y.again ((k + 1), aa, ab) (by omega) (by first | omega | (dsimp only; omega)) (.c .g1 (.e .g4 (congrArg Value.bool (by first | (exact decide_eq_decide.2 ⟨fun h => onceTo_s.2 ⟨by assumption, by omega⟩, fun h => by have := (onceTo_s.1 h).2; omega⟩) | (exact (decide_eq_false (fun h => absurd (onceTo_s.1 h).1 (by assumption))).symm))) (.c .z (.c (.s16 .g2) (.c (.s16 .g3) (.c (.s16 .g4) .n)))))) (fun _ h => h.sel (.c .z (.c .z .n)))
 refine Y.skipl rfl rfl .z rfl rfl (by decide) rfl ?_
 refine Y.skipl rfl rfl .g1 rfl rfl (by decide) rfl ?_
 refine Y.ql rfl (q_pickF rfl (.t .g2) .c) (Y.er .g14 (Y.as rfl .z (Y.nil (Y.inBN (Y.then_ (Y.region (Y.mv rfl .g14 ?_)))))))
 refine Y.ql rfl (q_add (c := ((k + 1 : Nat) : Int)) rfl (.t .z) .c (wr (by omega) (by omega) (by omega))) ?_
 refine Y.er .g16 (Y.as rfl .z (Y.nil ?_))
 have ad : placesTo (usedP xs) k = placesTo (usedP xs) (k + 1) := (placesTo_off (by first | exact decide_eq_true (by first | assumption | omega | (constructor <;> first | assumption | (rw [← count_0]; assumption; done) | (exact fun hm => absurd (sortI_mem.2 hm) (by assumption)))) | exact decide_eq_false (by first | assumption | omega | (rintro ⟨h1, h2⟩; first | contradiction | (exact absurd h2 (by assumption)) | (have := count_0.2 h1; contradiction) | (exact absurd (sortI_mem.1 (by assumption)) h1)))))
 refine Y.eq (.s16 .g1) (congrArg (fun z_ => (.slice aa (z_).length ab : Value)) ad) ?_
 refine Y.chEq .z (congrArg (fun z_ => (ownA kSl_2 (z_) [.slice aa (z_).length ab] : Asn)) ad) ?_
 refine Y.again ((k + 1), aa, ab) (by omega) (by first | omega | (dsimp only; omega)) (.c .g1 (.e .g4 (congrArg Value.bool (by first | (exact decide_eq_decide.2 ⟨fun h => onceTo_s.2 ⟨by assumption, by omega⟩, fun h => by have := (onceTo_s.1 h).2; omega⟩) | (exact (decide_eq_false (fun h => absurd (onceTo_s.1 h).1 (by assumption))).symm))) (.c .z (.c (.s16 .g2) (.c (.s16 .g3) (.c (.s16 .g4) .n)))))) (fun _ h => h.sel (.c .z (.c .z .n)))
 refine Y.exit (Y.thenE (Y.thenE (Y.inB (Y.then_ (Y.seq (Y.region (Y.mv rfl .g4 (Y.mv rfl .g4 ?_))))))))
 refine Y.er .g8 (Y.as rfl .g1 (Y.er .g8 (Y.as rfl .g1 (Y.nt (Y.ret ?_)))))
 refine Y.doneS (res2 rfl .g1 .z) (.c .z .n) ?_
 exact ⟨_, by rw [show k = 20 by omega]; exact congrArg (fun b => Value.tuple #[_, .bool b]) (decide_eq_decide.2 (onceTo_20 hb)), by rw [show k = 20 by omega]⟩

theorem c_97 {w0 : World} {S0 : Bs} {xs : (List DInode)} {v0 : Value} (h0 : kSl_44.ro w0 (FF w0 S0) xs [v0]) (hb : inodesFault xs = 0) :
    Calls Tryz.prog 97 #[v0] w0 (TriPost w0 S0 (fun r l => ∃ v : Value, r = .tuple #[v, .bool (decide (usedL xs).Nodup)] ∧ l = [ownA kSl_2 (sortI (usedL xs)) [v]])) := by
 obtain ⟨A0, c0, rfl, be, bf, bg, ba⟩ := ro_form h0
 refine Y.enter (N := 28) Tryz.func97 rfl rfl (by simp) [(0, .slice A0 xs.length c0)] (by simp) (l0 := []) trivial ?_
 refine Y.seq (Y.region (Y.ql rfl (q_assign rfl .c) (Y.ql rfl (q_assign rfl .c) (Y.nt (Y.seq (Y.region (Y.ql rfl (q_assign rfl .c) ?_)))))))
 refine Y.nt (Y.seq (Y.seq (Y.region (Y.mv rfl .g3 (Y.ql rfl (q_len rfl u_24 (.t .z)) (Y.ql rfl (q_move rfl .c) (Y.nil ?_)))))))
 refine Y.then_ (Y.block ?_)
 refine Y.add (c := ownA kSl_2 [] [.slice none 0 0]) (fun w S => own_nil w S none) ?_
 refine Y.loopi (γ := Nat × (Option Addr) × Nat) (fun ⟨k, aa, ab⟩ => [(9, .int .i64 (k : Int)), (8, .int .i64 (xs.length : Int)), (7, .slice A0 xs.length c0), (4, .slice aa (usedL (List.take k xs)).length ab), (3, .bool false), (2, .slice none 0 0)]) (fun ⟨k, aa, ab⟩ => [ownA kSl_2 (usedL (List.take k xs)) [.slice aa (usedL (List.take k xs)).length ab]]) (fun ⟨k, aa, ab⟩ => k ≤ xs.length) (fun ⟨k, aa, ab⟩ => xs.length - k) (0, none, 0) (Nat.zero_le _) (.c .z (.c .g1 (.c .g2 (.c .g3 (.c .g4 (.c .g5 .n)))))) (fun _ h => h.sel (.c .z .n)) ?_
 rintro ⟨k, aa, ab⟩ hk
 have hu := usedL_40 hb k
 refine Y.seq (Y.region (Y.ql rfl (q_lss rfl (.t .z) (.t .g1)) (Y.nt (Y.seq ?_))))
 refine Y.condP (.t .z) (fun b3 => ?_) (fun b3 => ?_)
 refine Y.skip (Y.then_ (Y.seq (Y.block (Y.seq (Y.region ?_)))))
 obtain ⟨bh, af, ag⟩ := ba (by omega)
 subst af
 obtain ⟨x5, ax⟩ := get_ex (xs := xs) (j := k) (by omega)
 obtain ⟨bb, ai, aj, ak⟩ := ag.elem ax
 obtain ⟨ay, az, rfl, ac, ah⟩ := kT_44_ro ai
 obtain ⟨a0, a1, rfl, al, am, an, ao⟩ := ro_form ac
 obtain ⟨a2, a3, rfl, ap, aq, ar, au⟩ := ro_form ah
 refine Y.ql rfl (q_indexAddr (j := k) rfl u_24 sz_44 (.t .g3) (.t .g1) rfl (by omega)) ?_
 refine Y.ql rfl (qE rfl ag_44 (.t .z) aj ak sz_44) ?_
 refine Y.el rfl (e_alloc rfl z_44 rfl rfl) ?_
 rintro _ _ ⟨g9, rfl, rfl⟩
 refine Y.es (goes_list rfl) rfl (esW rfl (.t .z) (.t .g1) .z sz_44 rfl rfl) ?_
 refine Y.nt (Y.region (Y.mv rfl .g7 (Y.fa rfl .g1 fa_44_3 (Y.ld rfl ag_36 .z .z ?_))))
 refine Y.el rfl (e_appendF (flat_scalar _ _ _) rfl u_36 inf_2 rfl (.t .g2) (.t .z) (.c .g1 .n) (fun w1 S1 tr => tr.ctx ac) (by first | omega | (rw [usedL_take (by assumption)]; have := usedL_40 hb (k + 1); omega) | (have := usedL_40 hb (k + 1); rw [← usedL_take (by assumption), List.length_append] at this; omega)) (by first | omega | (rw [usedL_take (by assumption)]; have := usedL_40 hb (k + 1); omega) | (have := usedL_40 hb (k + 1); rw [← usedL_take (by assumption), List.length_append] at this; omega))) ?_
 rintro _ _ rfl
 refine Y.ceq .z (usedL_take ax) ?_
 refine Y.know (WS.oform .z) ?_
 rintro ⟨av, aw, rfl, a4, a5, a6⟩
 refine Y.er .g11 (Y.as rfl .z (Y.nil (Y.inBN (Y.then_ (Y.region ?_)))))
 refine Y.ql rfl (q_add (c := ((k + 1 : Nat) : Int)) rfl (.t .g9) .c (wr (by omega) (by omega) (by omega))) ?_
 refine Y.er .g10 (Y.mv rfl .z (Y.nil ?_))
 refine Y.again ((k + 1), av, aw) (by omega) (by first | omega | (dsimp only; omega)) (.c .z (.c .g11 (.c .g12 (.c .g2 (.c .g13 (.c .g14 .n)))))) (fun _ h => h.sel (.c .z .n))
 refine Y.exit (Y.thenE (Y.thenE (Y.inB (Y.then_ (Y.seq (Y.region (Y.mv rfl .g4 ?_)))))))
 have ad : usedL (List.take k xs) = usedL xs := (congrArg usedL (List.take_of_length_le (by omega)))
 refine Y.eq .z (congrArg (fun z_ => (.slice aa (z_).length ab : Value)) ad) ?_
 refine Y.eq .g5 (congrArg (fun z_ => (.slice aa (z_).length ab : Value)) ad) ?_
 refine Y.chEq .z (congrArg (fun z_ => (ownA kSl_2 (z_) [.slice aa (z_).length ab] : Asn)) ad) ?_
 refine Y.cl rfl rfl Tryz.func138 rfl rfl (args1 (.t .g1)) (.c .z .n) (fun _ _ hs tr => c_138 hs) ?_
 rintro _ _ ⟨rfl, rfl⟩
 refine Y.cat (.c .n) ?_
 have ae : (usedL xs).length = (sortI (usedL xs)).length := (sortI_len _).symm
 refine Y.eq .g1 (congrArg (fun z_ => (.slice aa z_ ab : Value)) ae) ?_
 refine Y.eq .g2 (congrArg (fun z_ => (.slice aa z_ ab : Value)) ae) ?_
 refine Y.chEq .z (congrArg (fun z_ => (ownA kSl_2 (sortI (usedL xs)) [.slice aa z_ ab] : Asn)) ae) ?_
 refine Y.nt (Y.seq (Y.region (Y.mv rfl .g1 (Y.mv rfl .g2 ?_))))
 refine Y.cl rfl rfl Tryz.func110 rfl rfl (args1 (.t .z)) .n (fun _ _ hs tr => c_110 (tr.own .z)) ?_
 rintro _ _ rfl
 refine Y.cat (.c .n) ?_
 refine Y.know (WS.oform .z) ?_
 rintro ⟨bc, bd, rfl, a7, a8, a9⟩
 refine Y.cl rfl rfl Tryz.func139 rfl rfl (args1 (.t .z)) (.c .z .n) (fun _ _ hs tr => c_139 hs) ?_
 rintro _ _ ⟨bi, rfl, rfl⟩
 refine Y.cat .n ?_
 refine Y.ql rfl (q_len rfl u_36 (.t .z)) (Y.mv rfl .g6 (Y.ql rfl (q_len rfl u_36 (.t .z)) (Y.ql rfl (q_eql rfl (.t .g2) (.t .z)) (Y.er .g16 (Y.as rfl .g7 (Y.er .g16 (Y.as rfl .g1 (Y.nil ?_))))))))
 refine Y.then_ (Y.ret ?_)
 refine Y.doneS (res2 rfl .g1 .z) (.c .z .n) ?_
 exact ⟨_, congrArg (fun b => Value.tuple #[_, .bool b]) (by rw [decide_eq_decide, ← compact_iff]; omega), rfl⟩

theorem c_114 {w0 : World} {S0 : Bs} {xs : (List Int)} {v0 : Value} (h0 : kSl_2.ro w0 (FF w0 S0) xs [v0])  :
    Calls Tryz.prog 114 #[v0] w0 (TriPost w0 S0 (fun r l => r = .int .i64 (busyFault xs) ∧ l = [])) := by
 obtain ⟨A0, c0, rfl, ai, aj, ak, ag⟩ := ro_form h0
 refine Y.enter (N := 19) Tryz.func114 rfl rfl (by simp) [(0, .slice A0 xs.length c0)] (by simp) (l0 := []) trivial ?_
 refine Y.seq (Y.region (Y.ql rfl (q_assign rfl .c) (Y.nt (Y.seq (Y.seq (Y.region (Y.mv rfl .g1 ?_)))))))
 refine Y.ql rfl (q_len rfl u_36 (.t .z)) (Y.ql rfl (q_gtr rfl (.t .z) .c) (Y.nt ?_))
 refine Y.condP (.t .z) (fun b2 => ?_) (fun b2 => ?_)
 refine Y.seq (Y.region (Y.er .g3 (Y.ql rfl (q_assign rfl .c) (Y.nt (Y.ret (Y.thenR ?_))))))
 refine Y.doneS (res1 rfl .z) .n ?_
 exact ⟨by first | (rw [busyFault_2 (by assumption)]; done) | (rw [busyFault_3 (by assumption) (by assumption)]; done) | (rw [busyFault_0 (by assumption) (any_ok (fun j b hj hb => hallk j b (by omega) hb))]; done) | (rw [busyFault_0 (by assumption) (by assumption)]; done), rfl⟩
 refine Y.skip (Y.then_ (Y.seq (Y.seq (Y.region (Y.ql rfl (q_assign rfl .c) (Y.nt (Y.block ?_)))))))
 refine Y.loopi (γ := Nat) (fun k => [(3, .int .i64 (k : Int)), (0, .slice A0 xs.length c0)]) (fun k => []) (fun k => k ≤ xs.length ∧ ∀ j b, j < k → xs[j]? = some b → 0 ≤ b ∧ b ≤ 19) (fun k => xs.length - k) 0 ⟨Nat.zero_le _, all_zero (q := fun _ b => (0 : Int) ≤ b ∧ b ≤ 19)⟩ (.c .z (.c .g5 .n)) (fun _ h => h) ?_
 rintro k ⟨hk, hallk⟩
 refine Y.seq (Y.seq (Y.region (Y.mv rfl .z (Y.mv rfl .g2 (Y.ql rfl (q_len rfl u_36 (.t .z)) (Y.ql rfl (q_lss rfl (.t .g2) (.t .z)) (Y.nt ?_)))))))
 refine Y.condP (.t .z) (fun b3 => ?_) (fun b3 => ?_)
 refine Y.skip (Y.then_ (Y.seq (Y.block (Y.seq (Y.region (Y.mv rfl .g5 (Y.mv rfl .g5 ?_)))))))
 obtain ⟨al, aa, ab⟩ := ag (by omega)
 subst aa
 obtain ⟨x5, ac⟩ := get_ex (xs := xs) (j := k) (by omega)
 obtain ⟨ah, ad, ae, af⟩ := ab.elem ac
 obtain ⟨rfl, am⟩ := ad
 refine Y.ql rfl (q_indexAddr (j := k) rfl u_36 sz_2 (.t .g1) (.t .z) rfl (by omega)) ?_
 refine Y.ql rfl (q_load rfl ag_2 (.t .z) (WS.el0 ae af rfl)) ?_
 refine Y.cl rfl rfl Tryz.func46 rfl rfl (args3 (.t .z) .c .c) .n (fun _ _ hs tr => c_46 _ _ _) ?_
 rintro _ _ ⟨rfl, rfl⟩
 refine Y.cat .n ?_
 refine Y.ql rfl (q_not rfl (.t .z)) (Y.nt ?_)
 refine Y.condN (.t .z) (fun b7 => ?_) (fun b7 => ?_)
 refine Y.seq (Y.region (Y.ql rfl (q_assign rfl .c) (Y.nt (Y.ret (Y.inBR (Y.thenR (Y.thenR ?_)))))))
 refine Y.inBR (Y.thenR ?_)
 refine Y.doneS (res1 rfl .z) .n ?_
 exact ⟨by first | (rw [busyFault_2 (by assumption)]; done) | (rw [busyFault_3 (by assumption) (any_bad ac (by assumption))]; done) | (rw [busyFault_0 (by assumption) (any_ok (fun j b hj hb => hallk j b (by omega) hb))]; done) | (rw [busyFault_0 (by assumption) (by assumption)]; done), rfl⟩
 refine Y.skip (Y.inBN (Y.then_ (Y.region (Y.mv rfl .g10 ?_))))
 refine Y.ql rfl (q_add (c := ((k + 1 : Nat) : Int)) rfl (.t .z) .c (wr (by omega) (by omega) (by omega))) ?_
 refine Y.er .g12 (Y.as rfl .z (Y.nil ?_))
 refine Y.again (k + 1) ⟨by omega, all_succ (q := fun _ b => (0 : Int) ≤ b ∧ b ≤ 19) hallk ac b7⟩ (by first | omega | (dsimp only; omega)) (.c .z (.c .g13 .n)) (fun _ h => h)
 refine Y.exit (Y.thenE (Y.thenE (Y.inB (Y.then_ (Y.seq (Y.region (Y.ql rfl (q_assign rfl .c) (Y.nil ?_))))))))
 refine Y.then_ (Y.ret ?_)
 refine Y.doneS (res1 rfl .z) .n ?_
 exact ⟨by first | (rw [busyFault_2 (by assumption)]; done) | (rw [busyFault_3 (by assumption) (by assumption)]; done) | (rw [busyFault_0 (by assumption) (any_ok (fun j b hj hb => hallk j b (by omega) hb))]; done) | (rw [busyFault_0 (by assumption) (by assumption)]; done), rfl⟩

theorem c_146 {w0 : World} {S0 : Bs} {xs : (List DInode)} {v0 : Value} (h0 : kSl_44.ro w0 (FF w0 S0) xs [v0]) {b : (List Int)} {v1 : Value} (h1 : kSl_2.ro w0 (FF w0 S0) b [v1])  :
    Calls Tryz.prog 146 #[v0, v1] w0 (TriPost w0 S0 (fun r l => r = .int .i64 (askFault xs b) ∧ l = [])) := by
 obtain ⟨A0, c0, rfl, aa, ab, ac, ad⟩ := ro_form h0
 obtain ⟨A1, c1, rfl, ae, af, ag, ah⟩ := ro_form h1
 refine Y.enter (N := 13) Tryz.func146 rfl rfl (by simp) [(0, .slice A0 xs.length c0), (1, .slice A1 b.length c1)] (by simp) (l0 := []) trivial ?_
 refine Y.seq (Y.region (Y.ql rfl (q_assign rfl .c) (Y.nt (Y.seq (Y.seq (Y.region (Y.mv rfl .g1 ?_)))))))
 refine Y.cl rfl rfl Tryz.func98 rfl rfl (args1 (.t .z)) .n (fun _ _ hs tr => c_98 (tr.ctx h0)) ?_
 rintro _ _ ⟨rfl, rfl⟩
 refine Y.cat .n ?_
 refine Y.as rfl .z (Y.nt (Y.seq (Y.region (Y.mv rfl .z (Y.ql rfl (q_neq rfl (.t .z) .c) (Y.nt ?_))))))
 refine Y.condN (.t .z) (fun b3 => ?_) (fun b3 => ?_)
 refine Y.seq (Y.region (Y.mv rfl .g2 (Y.er .g6 (Y.as rfl .z (Y.nt (Y.ret (Y.thenR ?_)))))))
 refine Y.doneS (res1 rfl .z) .n ?_
 exact ⟨by unfold askFault; first | (rw [if_neg (by assumption)]; done) | (rw [if_pos (by omega)]; done), rfl⟩
 refine Y.skip (Y.then_ (Y.seq (Y.region (Y.mv rfl .g7 ?_))))
 refine Y.cl rfl rfl Tryz.func114 rfl rfl (args1 (.t .z)) .n (fun _ _ hs tr => c_114 (tr.ctx h1)) ?_
 rintro _ _ ⟨rfl, rfl⟩
 refine Y.cat .n ?_
 refine Y.er .g7 (Y.as rfl .z (Y.nt (Y.ret ?_)))
 refine Y.doneS (res1 rfl .z) .n ?_
 exact ⟨by unfold askFault; first | (rw [if_neg (by assumption)]; done) | (rw [if_pos (by omega)]; done), rfl⟩

theorem c_147 {w0 : World} {S0 : Bs} {xs : (List DInode)} {v0 : Value} (h0 : kSl_44.ro w0 (FF w0 S0) xs [v0]) {b : (List Int)} {v1 : Value} (h1 : kSl_2.ro w0 (FF w0 S0) b [v1]) (hb : inodesFault xs = 0) :
    Calls Tryz.prog 147 #[v0, v1] w0 (TriPost w0 S0 (fun r l => l = [ownA kSl_2 (freeTo xs b) [r]])) := by
 obtain ⟨A0, c0, rfl, aj, ak, al, am⟩ := ro_form h0
 obtain ⟨A1, c1, rfl, an, ao, ap, aq⟩ := ro_form h1
 refine Y.enter (N := 27) Tryz.func147 rfl rfl (by simp) [(0, .slice A0 xs.length c0), (1, .slice A1 b.length c1)] (by simp) (l0 := []) trivial ?_
 refine Y.seq (Y.region (Y.ql rfl (q_assign rfl .c) (Y.nt (Y.seq (Y.region ?_)))))
 refine Y.el rfl (e_buildNil rfl u_36 (inz inf_2)) ?_
 rintro _ _ ⟨g3, rfl, rfl⟩
 refine Y.as rfl .z (Y.nt (Y.seq (Y.seq (Y.region (Y.ql rfl (q_assign rfl .c) (Y.nt ?_))))))
 refine Y.block ?_
 refine Y.add (c := ownA kSl_2 ([] : (List Int)) [.slice (some ⟨g3, 0, none⟩) 0 0]) (fun w S => own_nil w S _) ?_
 refine Y.loopi (γ := Nat × (Option Addr) × Nat) (fun ⟨k, aa, ab⟩ => [(6, .int .i64 (k : Int)), (5, .slice aa (placesTo (freeP xs b) k).length ab), (4, .slice none 0 0), (0, .slice A0 xs.length c0), (1, .slice A1 b.length c1)]) (fun ⟨k, aa, ab⟩ => [ownA kSl_2 (placesTo (freeP xs b) k) [.slice aa (placesTo (freeP xs b) k).length ab], rowA g3 2 1 0 []]) (fun ⟨k, aa, ab⟩ => k ≤ 20) (fun ⟨k, aa, ab⟩ => 20 - k) (0, (some ⟨g3, 0, none⟩), 0) (Nat.zero_le _) (.c .z (.c .g1 (.c .g3 (.c .g4 (.c .g5 .n))))) (fun _ h => h.sel (.c .z (.c .z .n))) ?_
 rintro ⟨k, aa, ab⟩ hk
 have hpl := placesTo_len (p := (freeP xs b)) (k := k)
 refine Y.seq (Y.seq (Y.region (Y.mv rfl .z (Y.ql rfl (q_lss rfl (.t .z) .c) (Y.nt ?_)))))
 refine Y.condP (.t .z) (fun b5 => ?_) (fun b5 => ?_)
 refine Y.skip (Y.then_ (Y.seq (Y.block (Y.seq (Y.region (Y.mv rfl .g5 (Y.mv rfl .g3 ?_)))))))
 refine Y.cl rfl rfl Tryz.func134 rfl rfl (args2 (.t .g1) (.t .z)) .n (fun _ _ hs tr => c_134 (tr.ctx h0) _ (by assumption)) ?_
 rintro _ _ ⟨rfl, rfl⟩
 refine Y.cat .n ?_
 refine Y.ql rfl (q_eql rfl (.t .z) .c) (Y.mv rfl .z ?_)
 refine Y.caseP .z (fun g6 => ?_) (fun g6 => ?_)
 refine Y.qg rfl rfl .z rfl rfl rfl (q_move rfl (.t .g11)) ?_
 refine Y.qg rfl rfl .g1 rfl rfl rfl (q_move rfl (.t .g8)) ?_
 refine Y.call (goes_listg rfl rfl .g2) rfl (by decide) rfl (c_call rfl Tryz.func143 rfl rfl (args2 (.t .g1) (.t .z))) .n (fun _ _ hs tr => c_143 (tr.ctx h1) _) ?_
 rintro _ _ ⟨rfl, rfl⟩
 refine Y.cat .n ?_
 refine Y.qg rfl rfl .g3 rfl rfl rfl (q_not rfl (.t .z)) ?_
 refine Y.ql rfl (q_pickT rfl (.t .g4) (.t .z)) (Y.nt ?_)
 refine Y.condN (.t .z) (fun b7 => ?_) (fun b7 => ?_)
 refine Y.region (Y.mv rfl .g13 (Y.mv rfl .g13 ?_))
 refine Y.el rfl (e_buildSliceL (cs := [.int .i64 (k : Int)]) rfl u_36 (inz inf_2) (by decide) (pv1 (.t .z)) rfl rfl (by decide) rfl rfl) ?_
 rintro _ _ ⟨g8, rfl, rfl⟩
 refine Y.add (c := ownA (kint .i64) (k : Int) [.int .i64 (k : Int)]) (fun _ _ => ⟨rfl, trivial⟩) ?_
 refine Y.el rfl (e_append1 rfl u_36 inf_2 rfl (.t .g2) (.t .z) (.c .g2 (.c .g1 (.c .z .n))) (by first | omega | (simp only [List.length_append, List.length_take, List.length_nil, List.length_cons]; omega)) (by first | omega | (simp only [List.length_append, List.length_take, List.length_nil, List.length_cons]; omega))) ?_
 rintro _ _ rfl
 refine Y.ceq .z (placesTo_on (by first | exact decide_eq_true (by first | assumption | omega | (constructor <;> first | assumption | (rw [← count_0]; assumption; done) | (exact fun hm => absurd (sortI_mem.2 hm) (by assumption)))) | exact decide_eq_false (by first | assumption | omega | (rintro ⟨h1, h2⟩; first | contradiction | (exact absurd h2 (by assumption)) | (have := count_0.2 h1; contradiction) | (exact absurd (sortI_mem.1 (by assumption)) h1))))) ?_
 refine Y.know (WS.oform .z) ?_
 rintro ⟨ae, af, rfl, ag, ah, ai⟩
 refine Y.er (.s16 .g1) (Y.as rfl .z (Y.nil (Y.inBN (Y.then_ (Y.region (Y.mv rfl (.s16 .g1) ?_))))))
 refine Y.ql rfl (q_add (c := ((k + 1 : Nat) : Int)) rfl (.t .z) .c (wr (by omega) (by omega) (by omega))) ?_
 refine Y.er (.s16 .g3) (Y.as rfl .z (Y.nil ?_))
 refine Y.again ((k + 1), ae, af) (by omega) (by first | omega | (dsimp only; omega)) (.c .z (.c .g3 (.c (.s16 .g4) (.c (.s16 .g5) (.c (.s16 .g6) .n))))) (fun _ h => h.sel (.c .z (.c .z .n)))
 refine Y.skip (Y.inBN (Y.then_ (Y.region (Y.mv rfl .g12 ?_))))
 refine Y.ql rfl (q_add (c := ((k + 1 : Nat) : Int)) rfl (.t .z) .c (wr (by omega) (by omega) (by omega))) ?_
 refine Y.er .g14 (Y.as rfl .z (Y.nil ?_))
 have ac : placesTo (freeP xs b) k = placesTo (freeP xs b) (k + 1) := (placesTo_off (by first | exact decide_eq_true (by first | assumption | omega | (constructor <;> first | assumption | (rw [← count_0]; assumption; done) | (exact fun hm => absurd (sortI_mem.2 hm) (by assumption)))) | exact decide_eq_false (by first | assumption | omega | (rintro ⟨h1, h2⟩; first | contradiction | (exact absurd h2 (by assumption)) | (have := count_0.2 h1; contradiction) | (exact absurd (sortI_mem.1 (by assumption)) h1)))))
 refine Y.eq .g15 (congrArg (fun z_ => (.slice aa (z_).length ab : Value)) ac) ?_
 refine Y.chEq .z (congrArg (fun z_ => (ownA kSl_2 (z_) [.slice aa (z_).length ab] : Asn)) ac) ?_
 refine Y.again ((k + 1), aa, ab) (by omega) (by first | omega | (dsimp only; omega)) (.c .g1 (.c .z (.c .g16 (.c (.s16 .g1) (.c (.s16 .g2) .n))))) (fun _ h => h.sel (.c .z (.c .z .n)))
 refine Y.skipl rfl rfl .z rfl rfl (by decide) rfl ?_
 refine Y.skipl rfl rfl .g1 rfl rfl (by decide) rfl ?_
 refine Y.skipl rfl rfl .g2 rfl rfl (by decide) rfl ?_
 refine Y.skipl rfl rfl .g3 rfl rfl (by decide) rfl ?_
 refine Y.ql rfl (q_pickF rfl (.t .g4) .c) (Y.nt ?_)
 refine Y.condF (.t .z) ?_
 refine Y.skip (Y.inBN (Y.then_ (Y.region (Y.mv rfl .g12 ?_))))
 refine Y.ql rfl (q_add (c := ((k + 1 : Nat) : Int)) rfl (.t .z) .c (wr (by omega) (by omega) (by omega))) ?_
 refine Y.er .g14 (Y.as rfl .z (Y.nil ?_))
 have ad : placesTo (freeP xs b) k = placesTo (freeP xs b) (k + 1) := (placesTo_off (by first | exact decide_eq_true (by first | assumption | omega | (constructor <;> first | assumption | (rw [← count_0]; assumption; done) | (exact fun hm => absurd (sortI_mem.2 hm) (by assumption)))) | exact decide_eq_false (by first | assumption | omega | (rintro ⟨h1, h2⟩; first | contradiction | (exact absurd h2 (by assumption)) | (have := count_0.2 h1; contradiction) | (exact absurd (sortI_mem.1 (by assumption)) h1)))))
 refine Y.eq .g15 (congrArg (fun z_ => (.slice aa (z_).length ab : Value)) ad) ?_
 refine Y.chEq .z (congrArg (fun z_ => (ownA kSl_2 (z_) [.slice aa (z_).length ab] : Asn)) ad) ?_
 refine Y.again ((k + 1), aa, ab) (by omega) (by first | omega | (dsimp only; omega)) (.c .g1 (.c .z (.c .g16 (.c (.s16 .g1) (.c (.s16 .g2) .n))))) (fun _ h => h.sel (.c .z (.c .z .n)))
 refine Y.exit (Y.thenE (Y.thenE (Y.inB (Y.then_ (Y.seq (Y.region (Y.mv rfl .g3 (Y.er .g5 ?_))))))))
 refine Y.as rfl .z (Y.nt (Y.ret ?_))
 refine Y.doneS (res1 rfl .z) (.c .z .n) ?_
 rw [show k = 20 by omega]; rfl

theorem c_116 {w0 : World} {S0 : Bs} {xs : (List DInode)} {v0 : Value} (h0 : kSl_44.ro w0 (FF w0 S0) xs [v0]) {b : (List Int)} {v1 : Value} (h1 : kSl_2.ro w0 (FF w0 S0) b [v1]) (n : Int)  :
    Calls Tryz.prog 116 #[v0, v1, .int .i64 n] w0 (TriPost w0 S0 (RA_38 (pickR xs b n))) := by
 obtain ⟨A0, c0, rfl, ai, aj, ak, al⟩ := ro_form h0
 obtain ⟨A1, c1, rfl, am, an, ao, ap⟩ := ro_form h1
 refine Y.enter (N := 32) Tryz.func116 rfl rfl (by simp) [(0, .slice A0 xs.length c0), (1, .slice A1 b.length c1), (2, .int .i64 n)] (by simp) (l0 := []) trivial ?_
 refine Y.seq (Y.region ?_)
 refine Y.el rfl (e_alloc rfl z_38 rfl rfl) ?_
 rintro _ _ ⟨g3, rfl, rfl⟩
 refine Y.nt (Y.seq (Y.seq (Y.region (Y.mv rfl .g1 (Y.mv rfl .g3 ?_)))))
 refine Y.cl rfl rfl Tryz.func146 rfl rfl (args2 (.t .g1) (.t .z)) .n (fun _ _ hs tr => c_146 (tr.ctx h0) (tr.ctx h1)) ?_
 rintro _ _ ⟨rfl, rfl⟩
 refine Y.cat .n ?_
 refine Y.as rfl .z (Y.nt (Y.seq (Y.region (Y.mv rfl .z (Y.ql rfl (q_neq rfl (.t .z) .c) (Y.nt ?_))))))
 refine Y.condN (.t .z) (fun b4 => ?_) (fun b4 => ?_)
 refine Y.seq (Y.region (Y.mv rfl .g2 (Y.ql rfl (q_build (cs := [.int .i64 (askFault xs b), .slice none 0 0]) rfl bl_38 (pv1 (.t .z)) rfl) ?_)))
 refine Y.es (goes_list rfl) rfl (esW rfl (.t .g8) (.t .z) .z sz_38 rfl rfl) ?_
 refine Y.nt (Y.ret (Y.thenR ?_))
 refine Y.add (c := ownA kSl_2 [] [.slice none 0 0]) (fun w S => own_nil w S none) ?_
 refine Y.doneS (resW rfl .g8 ag_38 .g1 sz_38) (.c .z .n) ?_
 first | (rw [pickR_f (by assumption)]; exact ⟨_, rfl, rfl⟩) | (rw [pickR_0 (by assumption), pickOf_3 (by assumption)]; exact ⟨_, rfl, rfl⟩) | (rw [pickR_0 (by assumption), pickOf_8 (by assumption) (by assumption)]; exact ⟨_, rfl, rfl⟩) | (rw [pickR_0 (by assumption), pickOf_0 (by assumption) (by assumption)]; exact ⟨_, rfl, rfl⟩) | (rw [pickR_0 (by assumption)]; exact ⟨_, rfl, rfl⟩)
 refine Y.skip (Y.then_ (Y.seq (Y.seq (Y.region (Y.mv rfl .g9 ?_)))))
 refine Y.cl rfl rfl Tryz.func46 rfl rfl (args3 (.t .z) .c .c) .n (fun _ _ hs tr => c_46 _ _ _) ?_
 rintro _ _ ⟨rfl, rfl⟩
 refine Y.cat .n ?_
 refine Y.ql rfl (q_not rfl (.t .z)) (Y.nt ?_)
 refine Y.condN (.t .z) (fun b6 => ?_) (fun b6 => ?_)
 refine Y.seq (Y.region (Y.ql rfl (q_build (cs := [.int .i64 3, .slice none 0 0]) rfl bl_38 (pv1 .c) rfl) ?_))
 refine Y.es (goes_list rfl) rfl (esW rfl (.t .g10) (.t .z) .z sz_38 rfl rfl) ?_
 refine Y.nt (Y.ret (Y.thenR ?_))
 refine Y.add (c := ownA kSl_2 [] [.slice none 0 0]) (fun w S => own_nil w S none) ?_
 refine Y.doneS (resW rfl .g10 ag_38 .g1 sz_38) (.c .z .n) ?_
 first | (rw [pickR_f (by assumption)]; exact ⟨_, rfl, rfl⟩) | (rw [pickR_0 (by assumption), pickOf_3 (by assumption)]; exact ⟨_, rfl, rfl⟩) | (rw [pickR_0 (by assumption), pickOf_8 (by assumption) (by assumption)]; exact ⟨_, rfl, rfl⟩) | (rw [pickR_0 (by assumption), pickOf_0 (by assumption) (by assumption)]; exact ⟨_, rfl, rfl⟩) | (rw [pickR_0 (by assumption)]; exact ⟨_, rfl, rfl⟩)
 refine Y.skip (Y.then_ (Y.seq (Y.region (Y.mv rfl .g10 (Y.mv rfl .g12 ?_)))))
 refine Y.cl rfl rfl Tryz.func147 rfl rfl (args2 (.t .g1) (.t .z)) .n (fun _ _ hs tr => c_147 (tr.ctx h0) (tr.ctx h1) (by first | assumption | (exact ask_ok (by assumption)))) ?_
 rintro _ _ rfl
 refine Y.cat (.c .n) ?_
 refine Y.know (WS.oform .z) ?_
 rintro ⟨ab, ac, rfl, ad, ae, af⟩
 refine Y.as rfl .z (Y.nt (Y.seq (Y.seq (Y.region (Y.mv rfl .z (Y.ql rfl (q_len rfl u_36 (.t .z)) (Y.mv rfl (.s16 .g2) ?_)))))))
 refine Y.ql rfl (q_lss rfl (.t .g1) (.t .z)) (Y.nt ?_)
 refine Y.condP (.t .z) (fun ag => ?_) (fun ag => ?_)
 refine Y.seq (Y.region (Y.ql rfl (q_build (cs := [.int .i64 8, .slice none 0 0]) rfl bl_38 (pv1 .c) rfl) ?_))
 refine Y.es (goes_list rfl) rfl (esW rfl (.t (.s16 .g2)) (.t .z) .g1 sz_38 rfl rfl) ?_
 refine Y.nt (Y.ret (Y.thenR ?_))
 refine Y.add (c := ownA kSl_2 [] [.slice none 0 0]) (fun w S => own_nil w S none) ?_
 refine Y.doneS (resW rfl (.s16 .g2) ag_38 .g1 sz_38) (.c .z .n) ?_
 first | (rw [pickR_f (by assumption)]; exact ⟨_, rfl, rfl⟩) | (rw [pickR_0 (by assumption), pickOf_3 (by assumption)]; exact ⟨_, rfl, rfl⟩) | (rw [pickR_0 (by assumption), pickOf_8 (by assumption) (by assumption)]; exact ⟨_, rfl, rfl⟩) | (rw [pickR_0 (by assumption), pickOf_0 (by assumption) (by assumption)]; exact ⟨_, rfl, rfl⟩) | (rw [pickR_0 (by assumption)]; exact ⟨_, rfl, rfl⟩)
 refine Y.skip (Y.then_ (Y.seq (Y.region (Y.mv rfl .g4 (Y.mv rfl (.s16 .g5) ?_)))))
 refine Y.know (WS.ocap .z) ?_
 rintro ⟨-, ah, -, -⟩
 have aa : (List.take (Int.toNat n) (freeTo xs b)).length = Int.toNat n := by rw [List.length_take]; omega
 refine Y.eq .z (congrArg (Value.int .i64) (show n = (((List.take (Int.toNat n) (freeTo xs b)).length : Nat) : Int) by rw [aa]; try omega)) ?_
 refine Y.turns (c := ownA kSl_2 (List.take (Int.toNat n) (freeTo xs b)) [.slice ab ((List.take (Int.toNat n) (freeTo xs b)).length) ac]) (.c .z .n) (own_take' (by omega)) ?_
 refine Y.ql rfl (q_sliceTake (b := (List.take (Int.toNat n) (freeTo xs b)).length) rfl u_36 sz_2 (.t .g1) (.t .z) (by omega)) ?_
 refine Y.ql rfl (q_build (cs := [.int .i64 0, .slice ab ((List.take (Int.toNat n) (freeTo xs b)).length) ac]) rfl bl_38 (pv1 (.t .z)) rfl) ?_
 refine Y.es (goes_list rfl) rfl (esW rfl (.t (.s16 .g5)) (.t .z) .g1 sz_38 rfl rfl) ?_
 refine Y.nt (Y.ret ?_)
 refine Y.doneS (resW rfl (.s16 .g5) ag_38 .z sz_38) (.c .g1 .n) ?_
 first | (rw [pickR_f (by assumption)]; exact ⟨_, rfl, rfl⟩) | (rw [pickR_0 (by assumption), pickOf_3 (by assumption)]; exact ⟨_, rfl, rfl⟩) | (rw [pickR_0 (by assumption), pickOf_8 (by assumption) (by assumption)]; exact ⟨_, rfl, rfl⟩) | (rw [pickR_0 (by assumption), pickOf_0 (by assumption) (by assumption)]; exact ⟨_, rfl, rfl⟩) | (rw [pickR_0 (by assumption)]; exact ⟨_, rfl, rfl⟩)

end Go.Proofs.YtmejbfmhaoilmaaGreat

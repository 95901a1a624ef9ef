/- What is proved: contracts of functions, one a function. No condition. -/
import Derived.Test.YtoaebcjjfojfeaaW4
namespace Go.Proofs.Ytoaebcjjfojfeaa
open Go Go.RowKit
set_option linter.unusedVariables false
set_option linter.unusedSimpArgs false
set_option maxHeartbeats 1000000 in
set_option maxRecDepth 20000 in
theorem c_128 {w0 : World} {S0 : Bs} (n : Int) (hn1 : n ≤ 4611686018427387905) :
    Calls Try.prog 128 #[.int .i64 n] w0 (TriPost w0 S0 (fun r l => r = .string (mtext n) ∧ l = [])) := by
 refine FJ.enter (N := 20) Try.func128 rfl rfl (by simp) [(0, .int .i64 n)] (by simp) (l0 := []) trivial ?_
 refine FJ.seq (FJ.region (FJ.ql rfl (q_assign rfl .c) (FJ.nil (FJ.then_ ?_))))
 refine FJ.seq (FJ.seq (FJ.region (FJ.ql rfl (q_move rfl (.t (.s .z))) (FJ.ql rfl (q_leq rfl (.t .z) .c) ?_))))
 refine FJ.nil (FJ.then_ ?_)
 refine FJ.condP (.t .z) (fun b1 => ?_) (fun b1 => ?_)
 refine FJ.seq (FJ.region (FJ.er (.s (.s .z)) (FJ.ql rfl (q_assign rfl .c) (FJ.nil ?_))))
 refine FJ.then_ (FJ.ret (FJ.thenR ?_))
 refine FJ.doneS (res1 rfl .z) .n ?_
 exact ⟨by unfold mtext; rw [if_pos (by assumption)]; rfl, rfl⟩
 refine FJ.skip (FJ.then_ (FJ.seq (FJ.region (FJ.ql rfl (q_assign rfl .c) ?_))))
 refine FJ.nil (FJ.then_ (FJ.seq (FJ.block ?_)))
 refine FJ.eq (.s4 .z) (congrArg (Value.int .i64) (show n = ((Int.toNat n : Nat) : Int) by omega)) ?_
 refine FJ.loopi (γ := Nat × ByteArray × Nat) (fun ⟨q, o, d⟩ => [(0, .int .i64 (q : Int)), (3, .string o), (2, .string (⟨#[]⟩))]) (fun ⟨q, o, d⟩ => []) (fun ⟨q, o, d⟩ => mfin q o = mfin n.toNat ⟨#[]⟩ ∧ q < 10 ^ d ∧ o.size + d ≤ 19 ∧ q ≤ 4611686018427387905) (fun ⟨q, o, d⟩ => q) (Int.toNat n, ⟨#[]⟩, 19) ⟨rfl, by omega, by decide, by omega⟩ (.c .z (.c (.s .z) (.c (.s4 .z) .n))) (fun _ h => h) ?_
 rintro ⟨q, o, d⟩ ⟨hq, hd, ho, hq4⟩
 refine FJ.seq (FJ.seq (FJ.region (FJ.ql rfl (q_move rfl (.t .z)) (FJ.ql rfl (q_gtr rfl (.t .z) .c) ?_))))
 refine FJ.nil (FJ.then_ ?_)
 refine FJ.condP (.t .z) (fun b2 => ?_) (fun b2 => ?_)
 refine FJ.skip (FJ.then_ (FJ.block (FJ.seq (FJ.region ?_))))
 refine FJ.ql rfl (q_move rfl (.t (.s (.s .z)))) ?_
 refine FJ.ql rfl (q_rem (c := ((q % 10 : Nat) : Int)) rfl (.t .z) .c (by omega) (rem_nat (d := 10) rfl)) ?_
 refine FJ.ql rfl (q_add (c := ((48 + (q % 10) : Nat) : Int)) rfl .c (.t .z) (wr (by omega) (by omega) (by omega))) ?_
 refine FJ.ql rfl (q_conv (c := ((mbyte ((48 + (q % 10) : Nat) : Int)).toNat : Int)) rfl (.t .z) u_3 u_5 (mbyte_wrap _)) ?_
 refine FJ.e (goes_list rfl) rfl (by decide) rfl (e_buildSliceL (ps := [(0, .int .u8 ((mbyte ((48 + (q % 10) : Nat) : Int)).toNat : Int))]) (cs := [.int .u8 ((mbyte ((48 + (q % 10) : Nat) : Int)).toNat : Int)]) rfl u_62 (inz inf_5) (by decide) (by intro act hact; simp only [List.map_toArray, List.map_cons, List.map_nil, (show Val _ _ _ from (.t .z)) act hact]) rfl rfl (by decide) rfl rfl) ?_
 rintro _ _ ⟨g3, rfl, rfl⟩
 refine FJ.turns (c := ownA kSl_5 ([(mbyte ((48 + (q % 10) : Nat) : Int))] : (List UInt8)) [.slice (some ⟨g3, 0, none⟩) 1 1]) (.c .z .n) (fun w S h => lit_own (xs := ([(mbyte ((48 + (q % 10) : Nat) : Int))] : (List UInt8))) h rfl (by simp) (by omega) (by omega)) ?_
 refine FJ.ql rfl (q_convBS (xs := ([(mbyte ((48 + (q % 10) : Nat) : Int))] : (List UInt8))) rfl u_62 u_5 u_9 (.t .z) (WS.roown .z)) (FJ.ql rfl (q_move rfl (.t (.s4 (.s4 (.s .z))))) ?_)
 refine FJ.ql rfl (q_sadd rfl (.t (.s .z)) (.t .z) (by first | (simp only [bstr_size, List.length_cons, List.length_nil]; omega) | (have : (⟨#[109]⟩ : ByteArray).size = 1 := rfl; omega))) ?_
 refine FJ.er (.s4 (.s4 (.s (.s (.s .z))))) (FJ.ql rfl (q_assign rfl (.t .z)) (FJ.nil (FJ.then_ (FJ.region ?_))))
 refine FJ.ql rfl (q_move rfl (.t (.s4 (.s4 (.s (.s (.s .z))))))) ?_
 refine FJ.ql rfl (q_quo (c := ((q / 10 : Nat) : Int)) rfl (.t .z) .c (by omega) (quo_nat (d := 10) (by omega) rfl)) ?_
 refine FJ.er (.s4 (.s4 (.s4 (.s .z)))) (FJ.ql rfl (q_assign rfl (.t .z)) (FJ.nil (FJ.inBN ?_)))
 refine FJ.again (q / 10, (bstr ([(mbyte ((48 + (q % 10) : Nat) : Int))] : (List UInt8))) ++ o, d - 1) ⟨(mfin_s o (by omega)).symm.trans hq, mfin_d (by omega) hd, mfin_o (by omega) hd ho, by omega⟩ (by first | omega | (dsimp only; omega)) (.c .z (.c (.s (.s (.s .z))) (.c (.s4 (.s4 (.s4 (.s (.s .z))))) .n))) (fun _ h => h.sel .n)
 refine FJ.exit (FJ.thenE (FJ.thenE (FJ.inB (FJ.then_ ?_))))
 refine FJ.seq (FJ.region (FJ.ql rfl (q_move rfl (.t (.s (.s (.s .z))))) ?_))
 refine FJ.ql rfl (q_sadd rfl .c (.t .z) (by first | (simp only [bstr_size, List.length_cons, List.length_nil]; omega) | (have : (⟨#[109]⟩ : ByteArray).size = 1 := rfl; omega))) ?_
 refine FJ.er (.s4 (.s (.s .z))) (FJ.ql rfl (q_assign rfl (.t .z)) (FJ.nil (FJ.then_ (FJ.ret ?_))))
 refine FJ.doneS (res1 rfl .z) .n ?_
 exact ⟨by unfold mtext; rw [if_neg (by assumption), ← hq, show q = 0 by omega, mfin_0]; rfl, rfl⟩

set_option maxHeartbeats 1000000 in
set_option maxRecDepth 20000 in
theorem c_51 {w0 : World} {S0 : Bs} {x : (List Int)} {v0 : Value} (n : Int) (hs : Star [ownA kSl_2 x [v0]] w0 S0) (hn0 : 0 ≤ n) (hn1 : n + (x.length : Int) ≤ 4611686018427387904) :
    Calls Try.prog 51 #[v0, .int .i64 n] w0 (TriPost w0 S0 (fun r l => r = .int .i64 (n + (x.length : Int)) ∧ l = [ownA kSl_2 ((markL (fun _ => 1) (fun m _ => m)) n x) [v0]])) := by
 refine FJ.enter (N := 19) Try.func51 rfl rfl (by simp) [(0, v0), (1, .int .i64 n)] (by simp) hs ?_
 refine FJ.know (WS.oform .z) ?_
 rintro ⟨Ao1, co1, rfl, hlo1, hmo1, hbo1⟩
 refine FJ.seq (FJ.region (FJ.ql rfl (q_assign rfl .c) (FJ.nil (FJ.then_ ?_))))
 refine FJ.seq (FJ.seq (FJ.region (FJ.ql rfl (q_assign rfl .c) (FJ.nil ?_))))
 refine FJ.then_ (FJ.block ?_)
 refine FJ.ceq .z (markS_zero (fun m _ => m) n x) ?_
 refine FJ.loopi (γ := Nat) (fun k => [(5, .int .i64 (k : Int)), (4, .int .i64 0), (0, .slice Ao1 x.length co1), (1, .int .i64 (n + (k : Int)))]) (fun k => [ownA kSl_2 (markS (fun m _ => m) n x k) [.slice Ao1 x.length co1]]) (fun k => k ≤ x.length) (fun k => x.length - k) 0 (Nat.zero_le _) (.c .z (.c (.s .z) (.c (.s (.s .z)) (.e (.s (.s (.s .z))) (congrArg (Value.int .i64) (by omega)) .n)))) (fun _ h => h.sel (.c .z .n)) ?_
 rintro k hk
 refine FJ.seq (FJ.seq (FJ.region (FJ.ql rfl (q_move rfl (.t .z)) (FJ.ql rfl (q_move rfl (.t (.s (.s (.s .z))))) ?_))))
 refine FJ.ql rfl (q_len rfl u_22 (.t .z)) (FJ.ql rfl (q_lss rfl (.t (.s (.s .z))) (.t .z)) (FJ.nil (FJ.then_ ?_)))
 refine FJ.condP (.t .z) (fun b2 => ?_) (fun b2 => ?_)
 refine FJ.skip (FJ.then_ (FJ.seq (FJ.block (FJ.seq ?_))))
 refine FJ.region (FJ.ql rfl (q_move rfl (.t (.s4 (.s (.s .z))))) (FJ.ql rfl (q_move rfl (.t (.s4 (.s .z)))) (FJ.ql rfl (q_move rfl (.t (.s4 (.s4 (.s .z))))) ?_)))
 refine FJ.know (WS.oad .z (by rw [markS_len (by omega)]; omega)) ?_
 rintro ⟨ad3, rfl⟩
 refine FJ.ql rfl (q_indexAddr (j := k) rfl u_22 sz_2 (.t (.s (.s .z))) (.t (.s .z)) rfl (by first | omega | (rw [markS_len (by omega)]; omega))) ?_
 refine FJ.add (c := ownA (kint .i64) (n + (k : Int)) [.int .i64 (n + (k : Int))]) (fun _ _ => ⟨rfl, trivial⟩) ?_
 refine FJ.es (goes_list rfl) rfl (es_set (j := k) rfl sz_2 (.t .z) (.t (.s .z)) rfl (.c (.s .z) (.c .z .n)) (by first | omega | (rw [markS_len (by omega)]; omega))) ?_
 obtain ⟨y, hy⟩ := get_ex (xs := x) (j := k) (by omega)
 refine FJ.ceq .z (markS_set (mk := (fun m _ => m)) hy) ?_
 refine FJ.nil (FJ.then_ (FJ.region (FJ.ql rfl (q_move rfl (.t (.s4 (.s4 (.s (.s (.s .z))))))) ?_)))
 refine FJ.ql rfl (q_add (c := (n + (k : Int)) + 1) rfl (.t .z) .c (wr (by omega) (by omega) (by omega))) ?_
 refine FJ.er (.s4 (.s4 (.s4 (.s .z)))) (FJ.ql rfl (q_assign rfl (.t .z)) (FJ.nil (FJ.inBN (FJ.then_ ?_))))
 refine FJ.region (FJ.ql rfl (q_move rfl (.t (.s4 (.s4 (.s (.s (.s .z))))))) ?_)
 refine FJ.ql rfl (q_add (c := ((k + 1 : Nat) : Int)) rfl (.t .z) .c (wr (by omega) (by omega) (by omega))) ?_
 refine FJ.er (.s4 (.s4 (.s4 (.s .z)))) (FJ.ql rfl (q_assign rfl (.t .z)) (FJ.nil ?_))
 refine FJ.again (k + 1) (by omega) (by first | omega | (dsimp only; omega)) (.c .z (.c (.s4 (.s4 (.s4 (.s (.s .z))))) (.c (.s4 (.s4 (.s4 (.s (.s (.s .z)))))) (.e (.s (.s (.s .z))) (congrArg (Value.int .i64) (by omega)) .n)))) (fun _ h => h.sel (.c .z .n))
 refine FJ.exit (FJ.thenE (FJ.thenE (FJ.inB (FJ.then_ ?_))))
 refine FJ.seq (FJ.region (FJ.ql rfl (q_move rfl (.t (.s4 (.s (.s (.s .z)))))) (FJ.er (.s4 (.s (.s .z))) (FJ.ql rfl (q_assign rfl (.t .z)) ?_))))
 refine FJ.nil (FJ.then_ (FJ.ret ?_))
 refine FJ.ceq .z (markS_all (by omega)) ?_
 refine FJ.doneS (res1 rfl .z) (.c .z .n) ?_
 exact ⟨congrArg (Value.int .i64) (by omega), rfl⟩

set_option maxHeartbeats 1000000 in
set_option maxRecDepth 20000 in
theorem c_89 {w0 : World} {S0 : Bs} {x : (List DEnt)} {v0 : Value} (n : Int) (hs : Star [ownA kSl_130 x [v0]] w0 S0) (hn0 : 0 ≤ n) (hn1 : n + ((sumF cnt_DEnt x) : Int) ≤ 4611686018427387904) :
    Calls Try.prog 89 #[v0, .int .i64 n] w0 (TriPost w0 S0 (fun r l => r = .int .i64 (n + ((sumF cnt_DEnt x) : Int)) ∧ l = [ownA kSl_130 ((markL cnt_DEnt mark_DEnt) n x) [v0]])) := by
 refine FJ.enter (N := 28) Try.func89 rfl rfl (by simp) [(0, v0), (1, .int .i64 n)] (by simp) hs ?_
 refine FJ.know (WS.oform .z) ?_
 rintro ⟨Ao1, co1, rfl, hlo1, hmo1, hbo1⟩
 refine FJ.open (.c .z .n) own_raw ?_
 rintro css hlcss
 refine FJ.add (c := seqC kT_130 [] []) seqC_nil ?_
 refine FJ.seq (FJ.region (FJ.ql rfl (q_assign rfl .c) (FJ.nil (FJ.then_ ?_))))
 refine FJ.seq (FJ.seq (FJ.region (FJ.ql rfl (q_assign rfl .c) (FJ.nil ?_))))
 refine FJ.then_ (FJ.block ?_)
 refine FJ.loopi (γ := Nat × (List (List Value))) (fun ⟨k, css⟩ => [(5, .int .i64 (k : Int)), (4, .int .i64 0), (0, .slice Ao1 x.length co1), (1, .int .i64 (n + (sumF cnt_DEnt (List.take k x) : Int)))]) (fun ⟨k, css⟩ => [seqC kT_130 (markL cnt_DEnt mark_DEnt n (List.take k x)) (List.take k css), ownA (kslice 130 24 (kraw kT_130.sz kT_130.pos)) css [.slice Ao1 x.length co1], seqC kT_130 (List.drop k x) (List.drop k css)]) (fun ⟨k, css⟩ => k ≤ x.length ∧ css.length = x.length) (fun ⟨k, css⟩ => x.length - k) (0, css) ⟨Nat.zero_le _, hlcss⟩ (.c .z (.c (.s .z) (.c (.s (.s .z)) (.e (.s (.s (.s .z))) (congrArg (Value.int .i64) (by simp only [List.take_zero, sumF]; omega)) .n)))) (fun _ h => h.sel (.c .z (.c .z (.c .z .n)))) ?_
 rintro ⟨k, css⟩ ⟨hk, hlcss⟩
 have hle := sumF_le (f := cnt_DEnt) (xs := x) (k := k)
 refine FJ.seq (FJ.seq (FJ.region (FJ.ql rfl (q_move rfl (.t .z)) (FJ.ql rfl (q_move rfl (.t (.s (.s (.s .z))))) ?_))))
 refine FJ.ql rfl (q_len rfl u_28 (.t .z)) (FJ.ql rfl (q_lss rfl (.t (.s (.s .z))) (.t .z)) (FJ.nil (FJ.then_ ?_)))
 refine FJ.condP (.t .z) (fun b2 => ?_) (fun b2 => ?_)
 refine FJ.skip (FJ.then_ (FJ.seq (FJ.block (FJ.seq ?_))))
 refine FJ.region (FJ.ql rfl (q_move rfl (.t (.s4 (.s (.s .z))))) (FJ.ql rfl (q_move rfl (.t (.s4 (.s .z)))) (FJ.ql rfl (q_move rfl (.t (.s4 (.s4 (.s .z))))) ?_)))
 refine FJ.call (goes_list rfl) rfl (by decide) rfl (c_call rfl Try.func128 rfl rfl (args1 (.t .z))) .n (fun w1 S1 hs tr => c_128 _ (by omega)) ?_
 rintro _ _ ⟨rfl, rfl⟩
 refine FJ.cat .n ?_
 refine FJ.know (WS.oad (.s .z) (by omega)) ?_
 rintro ⟨ad3, rfl⟩
 obtain ⟨c4, hc4⟩ := get_ex (xs := css) (j := k) (by omega)
 obtain ⟨y5, hy5⟩ := get_ex (xs := x) (j := k) (by omega)
 refine FJ.turn (.s (.s .z)) (seq_pop hy5 hc4) ?_
 refine FJ.open (.c .z .n) kT_130_op ?_
 rintro ⟨⟩ ⟨rfl, sy5_0⟩
 have gy5 := sumF_get cnt_DEnt hy5
 have ty5 := sumF_take cnt_DEnt hy5
 simp only [cnt_DEnt] at gy5 ty5
 refine FJ.ql rfl (q_indexAddr (j := k) rfl u_28 sz_130 (.t (.s (.s (.s .z)))) (.t (.s (.s .z))) rfl (by omega)) ?_
 refine FJ.ql rfl (q_fieldAddr rfl (.t .z) (fun _ => fa_130_0 _ _)) ?_
 refine FJ.es (goes_list rfl) rfl (es_raw (j := k) (off := 0) (cs := [.string (mtext (n + (sumF cnt_DEnt (List.take k x) : Int)))]) rfl sz_9 (.t .z) rfl (.t (.s (.s .z))) rfl (ones rfl) (.s (.s .z)) hc4 (Nat.le_of_ble_eq_true rfl)) ?_
 refine FJ.ceq (x' := List.set css k [.string (mtext (n + (sumF cnt_DEnt (List.take k x) : Int))), .int .i64 y5.ino]) .z rfl ?_
 refine FJ.nil (FJ.then_ (FJ.seq (FJ.region (FJ.ql rfl (q_move rfl (.t (.s4 (.s4 (.s4 (.s .z)))))) ?_))))
 refine FJ.ql rfl (q_add (c := (n + (sumF cnt_DEnt (List.take k x) : Int)) + 1) rfl (.t .z) .c (wr (by omega) (by omega) (by omega))) ?_
 refine FJ.er (.s4 (.s4 (.s4 (.s (.s (.s .z)))))) (FJ.ql rfl (q_assign rfl (.t .z)) (FJ.nil (FJ.then_ (FJ.seq ?_))))
 refine FJ.region (FJ.ql rfl (q_move rfl (.t (.s4 (.s4 (.s4 (.s (.s (.s .z)))))))) (FJ.ql rfl (q_move rfl (.t (.s4 (.s4 (.s4 (.s (.s .z))))))) (FJ.ql rfl (q_move rfl (.t (.s (.s .z)))) ?_)))
 refine FJ.ql rfl (q_indexAddr (j := k) rfl u_28 sz_130 (.t (.s (.s .z))) (.t (.s .z)) rfl (by omega)) ?_
 refine FJ.ql rfl (q_fieldAddr rfl (.t .z) (fun _ => fa_130_1 _ _)) ?_
 refine FJ.es (goes_list rfl) rfl (es_raw (j := k) (off := 1) (cs := [.int .i64 ((n + (sumF cnt_DEnt (List.take k x) : Int)) + 1)]) rfl sz_2 (.t .z) (add_add _ _ _) (.t (.s (.s .z))) rfl (ones rfl) .z (set_get hc4) (Nat.le_of_ble_eq_true rfl)) ?_
 refine FJ.ceq (x' := List.set css k [.string (mtext (n + (sumF cnt_DEnt (List.take k x) : Int))), .int .i64 ((n + (sumF cnt_DEnt (List.take k x) : Int)) + 1)]) .z (List.set_set ..) ?_
 refine FJ.nil (FJ.then_ (FJ.region (FJ.ql rfl (q_move rfl (.t (.s4 (.s .z)))) ?_)))
 refine FJ.ql rfl (q_add (c := ((n + (sumF cnt_DEnt (List.take k x) : Int)) + 1) + 1) rfl (.t .z) .c (wr (by omega) (by omega) (by omega))) ?_
 refine FJ.er (.s4 (.s (.s (.s .z)))) (FJ.ql rfl (q_assign rfl (.t .z)) (FJ.nil (FJ.inBN (FJ.then_ ?_))))
 refine FJ.region (FJ.ql rfl (q_move rfl (.t (.s16 (.s4 .z)))) ?_)
 refine FJ.ql rfl (q_add (c := ((k + 1 : Nat) : Int)) rfl (.t .z) .c (wr (by omega) (by omega) (by omega))) ?_
 refine FJ.er (.s16 (.s4 (.s (.s .z)))) (FJ.ql rfl (q_assign rfl (.t .z)) (FJ.nil ?_))
 refine FJ.turns (c := ownA kT_130 (mark_DEnt (n + (sumF cnt_DEnt (List.take k x) : Int)) y5) [.string (mtext (n + (sumF cnt_DEnt (List.take k x) : Int))), .int .i64 ((n + (sumF cnt_DEnt (List.take k x) : Int)) + 1)]) .n (fun w S h => kT_130_omk (mark_DEnt (n + (sumF cnt_DEnt (List.take k x) : Int)) y5) h (mtext_size (by omega))) ?_
 refine FJ.turns (c := seqC kT_130 (markL cnt_DEnt mark_DEnt n (List.take (k + 1) x)) (List.take (k + 1) (List.set css k [.string (mtext (n + (sumF cnt_DEnt (List.take k x) : Int))), .int .i64 ((n + (sumF cnt_DEnt (List.take k x) : Int)) + 1)]))) (.c (.s (.s (.s .z))) (.c .z .n)) (seq_snoc' (by rw [markL_len, List.length_take, List.length_take, hlcss]) (by rw [markL_take _ hy5]) (take_set hc4)) ?_
 refine FJ.turns (c := seqC kT_130 (List.drop (k + 1) x) (List.drop (k + 1) (List.set css k [.string (mtext (n + (sumF cnt_DEnt (List.take k x) : Int))), .int .i64 ((n + (sumF cnt_DEnt (List.take k x) : Int)) + 1)]))) (.c (.s (.s .z)) .n) (fun w S h => seq_same rfl drop_set w S (h.head (c := seqC _ _ _))) ?_
 refine FJ.again ((k + 1), List.set css k [.string (mtext (n + (sumF cnt_DEnt (List.take k x) : Int))), .int .i64 ((n + (sumF cnt_DEnt (List.take k x) : Int)) + 1)]) ⟨by omega, by rw [List.length_set]; exact hlcss⟩ (by first | omega | (dsimp only; omega)) (.c .z (.c (.s16 (.s4 (.s (.s (.s .z))))) (.c (.s16 (.s4 (.s4 .z))) (.e (.s (.s (.s .z))) (congrArg (Value.int .i64) (by omega)) .n)))) (fun _ h => h.sel (.c (.s .z) (.c (.s .z) (.c .z .n))))
 refine FJ.exit (FJ.thenE (FJ.thenE (FJ.inB (FJ.then_ ?_))))
 refine FJ.seq (FJ.region (FJ.ql rfl (q_move rfl (.t (.s4 (.s (.s (.s .z)))))) (FJ.er (.s4 (.s (.s .z))) (FJ.ql rfl (q_assign rfl (.t .z)) ?_))))
 refine FJ.nil (FJ.then_ (FJ.ret ?_))
 refine FJ.turns (c := ownA kSl_130 ((markL cnt_DEnt mark_DEnt) n x) [.slice Ao1 x.length co1]) (.c (.s .z) (.c .z .n)) (raw_own' (by rw [markL_len, hlcss]) (by rw [List.take_of_length_le (by omega)]) (by rw [List.take_of_length_le (by omega)])) ?_
 refine FJ.doneS (res1 rfl .z) (.c .z .n) ?_
 exact ⟨by rw [sumF_all _ (by omega)], rfl⟩

set_option maxHeartbeats 1000000 in
set_option maxRecDepth 20000 in
theorem c_38 {w0 : World} {S0 : Bs} {x : DInode} {v0_3 : Value} {v0_4 : Value} (n : Int) (hs : Star [ownA kSl_2 x.blocks [v0_3], ownA kSl_130 x.ents [v0_4]] w0 S0) (hn0 : 0 ≤ n) (hn1 : n + ((vcnt_DInode x) : Int) ≤ 4611686018427387904) :
    Calls Try.prog 38 #[.agg #[.int .i64 x.kind, .int .i64 x.links, .int .i64 x.size, v0_3, v0_4], .int .i64 n] w0 (TriPost w0 S0 (fun r l => r = .int .i64 (n + ((vcnt_DInode x) : Int)) ∧ l = [ownA kSl_2 (vmark_DInode n x).blocks [v0_3], ownA kSl_130 (vmark_DInode n x).ents [v0_4]])) := by
 simp only [vcnt_DInode] at hn1
 refine FJ.enter (N := 14) Try.func38 rfl rfl (by simp) [(0, .agg #[.int .i64 x.kind, .int .i64 x.links, .int .i64 x.size, v0_3, v0_4]), (1, .int .i64 n)] (by simp) hs ?_
 refine FJ.know (WS.oform .z) ?_
 rintro ⟨Ao1, co1, rfl, hlo1, hmo1, hbo1⟩
 refine FJ.know (WS.oform (.s .z)) ?_
 rintro ⟨Ao2, co2, rfl, hlo2, hmo2, hbo2⟩
 refine FJ.seq (FJ.region ?_)
 refine FJ.e (goes_list rfl) rfl (by decide) rfl (e_box (cs := [.int .i64 x.kind, .int .i64 x.links, .int .i64 x.size, .slice Ao1 x.blocks.length co1, .slice Ao2 x.ents.length co2]) (n := 5) rfl (.t .z) rfl rfl) ?_
 rintro _ _ ⟨g3, rfl, rfl⟩
 refine FJ.ql rfl (q_assign rfl .c) (FJ.nil (FJ.then_ (FJ.seq (FJ.region ?_))))
 refine FJ.ql rfl (q_fieldAddr rfl (.t (.s .z)) (fun _ => fa_30_3 _ _)) (FJ.ql rfl (q_load rfl ag_22 (.t .z) (WS.row .z rfl)) (FJ.ql rfl (q_move rfl (.t (.s4 (.s .z)))) ?_))
 refine FJ.call (goes_list rfl) rfl (by decide) rfl (c_call rfl Try.func51 rfl rfl (args2 (.t (.s .z)) (.t .z))) (.c (.s .z) .n) (fun w1 S1 hs tr => c_51 _ hs (by omega) (by first | omega | (omega))) ?_
 rintro _ _ ⟨rfl, rfl⟩
 refine FJ.cat (.c .n) ?_
 refine FJ.er (.s4 (.s (.s (.s .z)))) (FJ.ql rfl (q_assign rfl (.t .z)) (FJ.nil (FJ.then_ (FJ.seq ?_))))
 refine FJ.region (FJ.ql rfl (q_fieldAddr rfl (.t (.s4 (.s (.s .z)))) (fun _ => fa_30_4 _ _)) (FJ.ql rfl (q_load rfl ag_28 (.t .z) (WS.row (.s .z) rfl)) (FJ.ql rfl (q_move rfl (.t (.s (.s .z)))) ?_)))
 refine FJ.call (goes_list rfl) rfl (by decide) rfl (c_call rfl Try.func89 rfl rfl (args2 (.t (.s .z)) (.t .z))) (.c (.s (.s .z)) .n) (fun w1 S1 hs tr => c_89 _ hs (by omega) (by first | omega | (omega))) ?_
 rintro _ _ ⟨rfl, rfl⟩
 refine FJ.cat (.c .n) ?_
 refine FJ.er (.s4 .z) (FJ.ql rfl (q_assign rfl (.t .z)) (FJ.nil (FJ.then_ (FJ.seq ?_))))
 refine FJ.region (FJ.ql rfl (q_move rfl (.t .z)) (FJ.er (.s4 (.s4 (.s (.s .z)))) (FJ.ql rfl (q_assign rfl (.t .z)) (FJ.nil ?_))))
 refine FJ.then_ (FJ.ret ?_)
 refine FJ.doneS (res1 rfl .z) (.c (.s .z) (.c .z .n)) ?_
 exact ⟨congrArg (Value.int .i64) (by simp only [vcnt_DInode]; omega), rfl⟩

set_option maxHeartbeats 1000000 in
set_option maxRecDepth 20000 in
theorem c_56 {w0 : World} {S0 : Bs} {x : (List DInode)} {v0 : Value} (n : Int) (hs : Star [ownA kSl_30 x [v0]] w0 S0) (hn0 : 0 ≤ n) (hn1 : n + ((sumF cnt_DInode x) : Int) ≤ 4611686018427387904) :
    Calls Try.prog 56 #[v0, .int .i64 n] w0 (TriPost w0 S0 (fun r l => r = .int .i64 (n + ((sumF cnt_DInode x) : Int)) ∧ l = [ownA kSl_30 ((markL cnt_DInode mark_DInode) n x) [v0]])) := by
 refine FJ.enter (N := 48) Try.func56 rfl rfl (by simp) [(0, v0), (1, .int .i64 n)] (by simp) hs ?_
 refine FJ.know (WS.oform .z) ?_
 rintro ⟨Ao1, co1, rfl, hlo1, hmo1, hbo1⟩
 refine FJ.open (.c .z .n) own_raw ?_
 rintro css hlcss
 refine FJ.add (c := seqC kT_30 [] []) seqC_nil ?_
 refine FJ.seq (FJ.region (FJ.ql rfl (q_assign rfl .c) (FJ.nil (FJ.then_ ?_))))
 refine FJ.seq (FJ.seq (FJ.region (FJ.ql rfl (q_assign rfl .c) (FJ.nil ?_))))
 refine FJ.then_ (FJ.block ?_)
 refine FJ.loopi (γ := Nat × (List (List Value))) (fun ⟨k, css⟩ => [(5, .int .i64 (k : Int)), (4, .int .i64 0), (0, .slice Ao1 x.length co1), (1, .int .i64 (n + (sumF cnt_DInode (List.take k x) : Int)))]) (fun ⟨k, css⟩ => [seqC kT_30 (markL cnt_DInode mark_DInode n (List.take k x)) (List.take k css), ownA (kslice 30 72 (kraw kT_30.sz kT_30.pos)) css [.slice Ao1 x.length co1], seqC kT_30 (List.drop k x) (List.drop k css)]) (fun ⟨k, css⟩ => k ≤ x.length ∧ css.length = x.length) (fun ⟨k, css⟩ => x.length - k) (0, css) ⟨Nat.zero_le _, hlcss⟩ (.c .z (.c (.s .z) (.c (.s (.s .z)) (.e (.s (.s (.s .z))) (congrArg (Value.int .i64) (by simp only [List.take_zero, sumF]; omega)) .n)))) (fun _ h => h.sel (.c .z (.c .z (.c .z .n)))) ?_
 rintro ⟨k, css⟩ ⟨hk, hlcss⟩
 have hle := sumF_le (f := cnt_DInode) (xs := x) (k := k)
 refine FJ.seq (FJ.seq (FJ.region (FJ.ql rfl (q_move rfl (.t .z)) (FJ.ql rfl (q_move rfl (.t (.s (.s (.s .z))))) ?_))))
 refine FJ.ql rfl (q_len rfl u_41 (.t .z)) (FJ.ql rfl (q_lss rfl (.t (.s (.s .z))) (.t .z)) (FJ.nil (FJ.then_ ?_)))
 refine FJ.condP (.t .z) (fun b2 => ?_) (fun b2 => ?_)
 refine FJ.skip (FJ.then_ (FJ.seq (FJ.block (FJ.seq ?_))))
 refine FJ.region (FJ.ql rfl (q_move rfl (.t (.s4 (.s (.s .z))))) (FJ.ql rfl (q_move rfl (.t (.s4 (.s .z)))) (FJ.ql rfl (q_move rfl (.t (.s4 (.s4 (.s .z))))) ?_)))
 refine FJ.know (WS.oad (.s .z) (by omega)) ?_
 rintro ⟨ad3, rfl⟩
 obtain ⟨c4, hc4⟩ := get_ex (xs := css) (j := k) (by omega)
 obtain ⟨y5, hy5⟩ := get_ex (xs := x) (j := k) (by omega)
 refine FJ.turn (.s (.s .z)) (seq_pop hy5 hc4) ?_
 refine FJ.open (.c .z .n) kT_30_op ?_
 rintro ⟨v6, v7⟩ rfl
 refine FJ.know (WS.oform .z) ?_
 rintro ⟨Ao10, co10, rfl, hlo10, hmo10, hbo10⟩
 refine FJ.know (WS.oform (.s .z)) ?_
 rintro ⟨Ao11, co11, rfl, hlo11, hmo11, hbo11⟩
 have gy5 := sumF_get cnt_DInode hy5
 have ty5 := sumF_take cnt_DInode hy5
 simp only [cnt_DInode] at gy5 ty5
 refine FJ.ql rfl (q_indexAddr (j := k) rfl u_41 sz_30 (.t (.s (.s .z))) (.t (.s .z)) rfl (by omega)) ?_
 refine FJ.ql rfl (q_fieldAddr rfl (.t .z) (fun _ => fa_30_0 _ _)) ?_
 refine FJ.es (goes_list rfl) rfl (es_raw (j := k) (off := 0) (cs := [.int .i64 (n + (sumF cnt_DInode (List.take k x) : Int))]) rfl sz_2 (.t .z) rfl (.t (.s (.s .z))) rfl (ones rfl) (.s4 .z) hc4 (Nat.le_of_ble_eq_true rfl)) ?_
 refine FJ.ceq (x' := List.set css k [.int .i64 (n + (sumF cnt_DInode (List.take k x) : Int)), .int .i64 y5.links, .int .i64 y5.size, .slice Ao10 y5.blocks.length co10, .slice Ao11 y5.ents.length co11]) .z rfl ?_
 refine FJ.nil (FJ.then_ (FJ.seq (FJ.region (FJ.ql rfl (q_move rfl (.t (.s4 (.s4 (.s4 .z))))) ?_))))
 refine FJ.ql rfl (q_add (c := (n + (sumF cnt_DInode (List.take k x) : Int)) + 1) rfl (.t .z) .c (wr (by omega) (by omega) (by omega))) ?_
 refine FJ.er (.s4 (.s4 (.s4 (.s (.s .z))))) (FJ.ql rfl (q_assign rfl (.t .z)) (FJ.nil (FJ.then_ (FJ.seq ?_))))
 refine FJ.region (FJ.ql rfl (q_move rfl (.t (.s4 (.s4 (.s4 (.s (.s .z))))))) (FJ.ql rfl (q_move rfl (.t (.s4 (.s4 (.s4 (.s .z)))))) (FJ.ql rfl (q_move rfl (.t (.s (.s .z)))) ?_)))
 refine FJ.ql rfl (q_indexAddr (j := k) rfl u_41 sz_30 (.t (.s (.s .z))) (.t (.s .z)) rfl (by omega)) ?_
 refine FJ.ql rfl (q_fieldAddr rfl (.t .z) (fun _ => fa_30_1 _ _)) ?_
 refine FJ.es (goes_list rfl) rfl (es_raw (j := k) (off := 1) (cs := [.int .i64 ((n + (sumF cnt_DInode (List.take k x) : Int)) + 1)]) rfl sz_2 (.t .z) (add_add _ _ _) (.t (.s (.s .z))) rfl (ones rfl) .z (set_get hc4) (Nat.le_of_ble_eq_true rfl)) ?_
 refine FJ.ceq (x' := List.set css k [.int .i64 (n + (sumF cnt_DInode (List.take k x) : Int)), .int .i64 ((n + (sumF cnt_DInode (List.take k x) : Int)) + 1), .int .i64 y5.size, .slice Ao10 y5.blocks.length co10, .slice Ao11 y5.ents.length co11]) .z (List.set_set ..) ?_
 refine FJ.nil (FJ.then_ (FJ.seq (FJ.region (FJ.ql rfl (q_move rfl (.t (.s4 (.s .z)))) ?_))))
 refine FJ.ql rfl (q_add (c := ((n + (sumF cnt_DInode (List.take k x) : Int)) + 1) + 1) rfl (.t .z) .c (wr (by omega) (by omega) (by omega))) ?_
 refine FJ.er (.s4 (.s (.s (.s .z)))) (FJ.ql rfl (q_assign rfl (.t .z)) (FJ.nil (FJ.then_ (FJ.seq ?_))))
 refine FJ.region (FJ.ql rfl (q_move rfl (.t (.s16 (.s4 (.s .z))))) (FJ.ql rfl (q_move rfl (.t (.s16 (.s4 .z)))) (FJ.ql rfl (q_move rfl (.t (.s (.s .z)))) ?_)))
 refine FJ.ql rfl (q_indexAddr (j := k) rfl u_41 sz_30 (.t (.s (.s .z))) (.t (.s .z)) rfl (by omega)) ?_
 refine FJ.ql rfl (q_fieldAddr rfl (.t .z) (fun _ => fa_30_2 _ _)) ?_
 refine FJ.es (goes_list rfl) rfl (es_raw (j := k) (off := 2) (cs := [.int .i64 (((n + (sumF cnt_DInode (List.take k x) : Int)) + 1) + 1)]) rfl sz_2 (.t .z) (add_add _ _ _) (.t (.s (.s .z))) rfl (ones rfl) .z (set_get hc4) (Nat.le_of_ble_eq_true rfl)) ?_
 refine FJ.ceq (x' := List.set css k [.int .i64 (n + (sumF cnt_DInode (List.take k x) : Int)), .int .i64 ((n + (sumF cnt_DInode (List.take k x) : Int)) + 1), .int .i64 (((n + (sumF cnt_DInode (List.take k x) : Int)) + 1) + 1), .slice Ao10 y5.blocks.length co10, .slice Ao11 y5.ents.length co11]) .z (List.set_set ..) ?_
 refine FJ.nil (FJ.then_ (FJ.seq (FJ.region (FJ.ql rfl (q_move rfl (.t (.s4 (.s .z)))) ?_))))
 refine FJ.ql rfl (q_add (c := (((n + (sumF cnt_DInode (List.take k x) : Int)) + 1) + 1) + 1) rfl (.t .z) .c (wr (by omega) (by omega) (by omega))) ?_
 refine FJ.er (.s4 (.s (.s (.s .z)))) (FJ.ql rfl (q_assign rfl (.t .z)) (FJ.nil (FJ.then_ (FJ.seq ?_))))
 refine FJ.region (FJ.ql rfl (q_move rfl (.t (.s16 (.s4 (.s4 (.s4 .z)))))) (FJ.ql rfl (q_move rfl (.t (.s16 (.s4 (.s4 (.s (.s (.s .z)))))))) ?_))
 refine FJ.ql rfl (q_indexAddr (j := k) rfl u_41 sz_30 (.t (.s .z)) (.t .z) rfl (by omega)) ?_
 refine FJ.ql rfl (q_fieldAddr rfl (.t .z) (fun _ => fa_30_3 _ _)) (FJ.ql rfl (q_load rfl ag_22 (.t .z) (WS.raw .z (set_get hc4) rfl)) (FJ.ql rfl (q_move rfl (.t (.s4 (.s .z)))) ?_))
 refine FJ.call (goes_list rfl) rfl (by decide) rfl (c_call rfl Try.func51 rfl rfl (args2 (.t (.s .z)) (.t .z))) (.c (.s .z) .n) (fun w1 S1 hs tr => c_51 _ hs (by omega) (by first | omega | (omega))) ?_
 rintro _ _ ⟨rfl, rfl⟩
 refine FJ.cat (.c .n) ?_
 refine FJ.er (.s4 (.s (.s (.s .z)))) (FJ.ql rfl (q_assign rfl (.t .z)) (FJ.nil (FJ.then_ (FJ.region ?_))))
 refine FJ.ql rfl (q_move rfl (.t (.s16 (.s16 (.s (.s (.s .z))))))) (FJ.ql rfl (q_move rfl (.t (.s16 (.s16 (.s (.s .z)))))) ?_)
 refine FJ.ql rfl (q_indexAddr (j := k) rfl u_41 sz_30 (.t (.s .z)) (.t .z) rfl (by omega)) ?_
 refine FJ.ql rfl (q_fieldAddr rfl (.t .z) (fun _ => fa_30_4 _ _)) (FJ.ql rfl (q_load rfl ag_28 (.t .z) (WS.raw (.s .z) (set_get hc4) rfl)) (FJ.ql rfl (q_move rfl (.t (.s4 (.s .z)))) ?_))
 refine FJ.call (goes_list rfl) rfl (by decide) rfl (c_call rfl Try.func89 rfl rfl (args2 (.t (.s .z)) (.t .z))) (.c (.s (.s .z)) .n) (fun w1 S1 hs tr => c_89 _ hs (by omega) (by first | omega | (omega))) ?_
 rintro _ _ ⟨rfl, rfl⟩
 refine FJ.cat (.c .n) ?_
 refine FJ.er (.s4 (.s (.s (.s .z)))) (FJ.ql rfl (q_assign rfl (.t .z)) (FJ.nil (FJ.inBN (FJ.then_ ?_))))
 refine FJ.region (FJ.ql rfl (q_move rfl (.t (.s16 (.s16 (.s4 (.s4 .z)))))) ?_)
 refine FJ.ql rfl (q_add (c := ((k + 1 : Nat) : Int)) rfl (.t .z) .c (wr (by omega) (by omega) (by omega))) ?_
 refine FJ.er (.s16 (.s16 (.s4 (.s4 (.s (.s .z)))))) (FJ.ql rfl (q_assign rfl (.t .z)) (FJ.nil ?_))
 refine FJ.turns (c := ownA kT_30 (mark_DInode (n + (sumF cnt_DInode (List.take k x) : Int)) y5) [.int .i64 (n + (sumF cnt_DInode (List.take k x) : Int)), .int .i64 ((n + (sumF cnt_DInode (List.take k x) : Int)) + 1), .int .i64 (((n + (sumF cnt_DInode (List.take k x) : Int)) + 1) + 1), .slice Ao10 y5.blocks.length co10, .slice Ao11 y5.ents.length co11]) (.c (.s .z) (.c .z .n)) (fun w S h => kT_30_omk (mark_DInode (n + (sumF cnt_DInode (List.take k x) : Int)) y5) h) ?_
 refine FJ.turns (c := seqC kT_30 (markL cnt_DInode mark_DInode n (List.take (k + 1) x)) (List.take (k + 1) (List.set css k [.int .i64 (n + (sumF cnt_DInode (List.take k x) : Int)), .int .i64 ((n + (sumF cnt_DInode (List.take k x) : Int)) + 1), .int .i64 (((n + (sumF cnt_DInode (List.take k x) : Int)) + 1) + 1), .slice Ao10 y5.blocks.length co10, .slice Ao11 y5.ents.length co11]))) (.c (.s (.s (.s .z))) (.c .z .n)) (seq_snoc' (by rw [markL_len, List.length_take, List.length_take, hlcss]) (by rw [markL_take _ hy5]) (take_set hc4)) ?_
 refine FJ.turns (c := seqC kT_30 (List.drop (k + 1) x) (List.drop (k + 1) (List.set css k [.int .i64 (n + (sumF cnt_DInode (List.take k x) : Int)), .int .i64 ((n + (sumF cnt_DInode (List.take k x) : Int)) + 1), .int .i64 (((n + (sumF cnt_DInode (List.take k x) : Int)) + 1) + 1), .slice Ao10 y5.blocks.length co10, .slice Ao11 y5.ents.length co11]))) (.c (.s (.s .z)) .n) (fun w S h => seq_same rfl drop_set w S (h.head (c := seqC _ _ _))) ?_
 refine FJ.again ((k + 1), List.set css k [.int .i64 (n + (sumF cnt_DInode (List.take k x) : Int)), .int .i64 ((n + (sumF cnt_DInode (List.take k x) : Int)) + 1), .int .i64 (((n + (sumF cnt_DInode (List.take k x) : Int)) + 1) + 1), .slice Ao10 y5.blocks.length co10, .slice Ao11 y5.ents.length co11]) ⟨by omega, by rw [List.length_set]; exact hlcss⟩ (by first | omega | (dsimp only; omega)) (.c .z (.c (.s16 (.s16 (.s4 (.s4 (.s (.s (.s .z))))))) (.c (.s16 (.s16 (.s4 (.s4 (.s4 .z))))) (.e (.s (.s (.s .z))) (congrArg (Value.int .i64) (by omega)) .n)))) (fun _ h => h.sel (.c (.s .z) (.c (.s .z) (.c .z .n))))
 refine FJ.exit (FJ.thenE (FJ.thenE (FJ.inB (FJ.then_ ?_))))
 refine FJ.seq (FJ.region (FJ.ql rfl (q_move rfl (.t (.s4 (.s (.s (.s .z)))))) (FJ.er (.s4 (.s (.s .z))) (FJ.ql rfl (q_assign rfl (.t .z)) ?_))))
 refine FJ.nil (FJ.then_ (FJ.ret ?_))
 refine FJ.turns (c := ownA kSl_30 ((markL cnt_DInode mark_DInode) n x) [.slice Ao1 x.length co1]) (.c (.s .z) (.c .z .n)) (raw_own' (by rw [markL_len, hlcss]) (by rw [List.take_of_length_le (by omega)]) (by rw [List.take_of_length_le (by omega)])) ?_
 refine FJ.doneS (res1 rfl .z) (.c .z .n) ?_
 exact ⟨by rw [sumF_all _ (by omega)], rfl⟩

set_option maxHeartbeats 1000000 in
set_option maxRecDepth 20000 in
theorem c_39 {w0 : World} {S0 : Bs} {x : RInts} {v0_1 : Value} (n : Int) (hs : Star [ownA kSl_2 x.list [v0_1]] w0 S0) (hn0 : 0 ≤ n) (hn1 : n + ((vcnt_RInts x) : Int) ≤ 4611686018427387904) :
    Calls Try.prog 39 #[.agg #[.int .i64 x.code, v0_1], .int .i64 n] w0 (TriPost w0 S0 (fun r l => r = .int .i64 (n + ((vcnt_RInts x) : Int)) ∧ l = [ownA kSl_2 (vmark_RInts n x).list [v0_1]])) := by
 simp only [vcnt_RInts] at hn1
 refine FJ.enter (N := 10) Try.func39 rfl rfl (by simp) [(0, .agg #[.int .i64 x.code, v0_1]), (1, .int .i64 n)] (by simp) hs ?_
 refine FJ.know (WS.oform .z) ?_
 rintro ⟨Ao1, co1, rfl, hlo1, hmo1, hbo1⟩
 refine FJ.seq (FJ.region ?_)
 refine FJ.e (goes_list rfl) rfl (by decide) rfl (e_box (cs := [.int .i64 x.code, .slice Ao1 x.list.length co1]) (n := 2) rfl (.t .z) rfl rfl) ?_
 rintro _ _ ⟨g2, rfl, rfl⟩
 refine FJ.ql rfl (q_assign rfl .c) (FJ.nil (FJ.then_ (FJ.seq (FJ.region ?_))))
 refine FJ.ql rfl (q_fieldAddr rfl (.t (.s .z)) (fun _ => fa_57_1 _ _)) (FJ.ql rfl (q_load rfl ag_22 (.t .z) (WS.row .z rfl)) (FJ.ql rfl (q_move rfl (.t (.s4 (.s .z)))) ?_))
 refine FJ.call (goes_list rfl) rfl (by decide) rfl (c_call rfl Try.func51 rfl rfl (args2 (.t (.s .z)) (.t .z))) (.c (.s .z) .n) (fun w1 S1 hs tr => c_51 _ hs (by omega) (by first | omega | (omega))) ?_
 rintro _ _ ⟨rfl, rfl⟩
 refine FJ.cat (.c .n) ?_
 refine FJ.er (.s4 (.s (.s (.s .z)))) (FJ.ql rfl (q_assign rfl (.t .z)) (FJ.nil (FJ.then_ (FJ.seq ?_))))
 refine FJ.region (FJ.ql rfl (q_move rfl (.t .z)) (FJ.er (.s4 (.s (.s .z))) (FJ.ql rfl (q_assign rfl (.t .z)) (FJ.nil ?_))))
 refine FJ.then_ (FJ.ret ?_)
 refine FJ.doneS (res1 rfl .z) (.c .z .n) ?_
 exact ⟨congrArg (Value.int .i64) (by simp only [vcnt_RInts]; omega), rfl⟩

set_option maxHeartbeats 1000000 in
set_option maxRecDepth 20000 in
theorem c_90 {w0 : World} {S0 : Bs} {y : (List Int)} {v0 : Value} (h0 : kSl_2.ro w0 (FF w0 S0) y [v0]) (n : Int) (x : (List Int)) (e0 : y = ((markL (fun _ => 1) (fun m _ => m)) n x)) (hn0 : 0 ≤ n) (hn1 : n + (x.length : Int) ≤ 4611686018427387904) :
    Calls Try.prog 90 #[v0, .int .i64 n] w0 (TriPost w0 S0 (fun r l => r = .int .i64 (n + (x.length : Int)) ∧ l = [])) := by
 obtain ⟨A0, c0, rfl, hl0, hm0, hb0, he0⟩ := ro_form h0
 have hl := markE_len e0
 refine FJ.enter (N := 21) Try.func90 rfl rfl (by simp) [(0, .slice A0 y.length c0), (1, .int .i64 n)] (by simp) (l0 := []) trivial ?_
 refine FJ.seq (FJ.region (FJ.ql rfl (q_assign rfl .c) (FJ.nil (FJ.then_ ?_))))
 refine FJ.seq (FJ.seq (FJ.region (FJ.ql rfl (q_assign rfl .c) (FJ.nil ?_))))
 refine FJ.then_ (FJ.block ?_)
 refine FJ.loopi (γ := Nat) (fun k => [(5, .int .i64 (k : Int)), (0, .slice A0 y.length c0), (1, .int .i64 (n + (k : Int)))]) (fun k => []) (fun k => k ≤ y.length) (fun k => y.length - k) 0 (Nat.zero_le _) (.c .z (.c (.s (.s .z)) (.e (.s (.s (.s .z))) (congrArg (Value.int .i64) (by omega)) .n))) (fun _ h => h) ?_
 rintro k hk
 refine FJ.seq (FJ.seq (FJ.region (FJ.ql rfl (q_move rfl (.t .z)) (FJ.ql rfl (q_move rfl (.t (.s (.s .z)))) ?_))))
 refine FJ.ql rfl (q_len rfl u_22 (.t .z)) (FJ.ql rfl (q_lss rfl (.t (.s (.s .z))) (.t .z)) (FJ.nil (FJ.then_ ?_)))
 refine FJ.condP (.t .z) (fun b2 => ?_) (fun b2 => ?_)
 refine FJ.skip (FJ.then_ (FJ.seq (FJ.block (FJ.seq ?_))))
 refine FJ.seq (FJ.region (FJ.ql rfl (q_move rfl (.t (.s4 (.s .z)))) (FJ.ql rfl (q_move rfl (.t (.s4 (.s .z)))) ?_)))
 obtain ⟨ad3, hAad3, hrad3⟩ := he0 (by omega)
 subst hAad3
 obtain ⟨x4, hx4⟩ := get_ex (xs := y) (j := k) (by omega)
 obtain ⟨ece5, hre5, hFe5, hce5⟩ := hrad3.elem hx4
 obtain ⟨rfl, se5⟩ := hre5
 refine FJ.ql rfl (q_indexAddr (j := k) rfl u_22 sz_2 (.t (.s .z)) (.t .z) rfl (by omega)) ?_
 refine FJ.ql rfl (q_load rfl ag_2 (.t .z) (WS.el0 hFe5 hce5 rfl)) (FJ.ql rfl (q_move rfl (.t (.s4 (.s4 (.s (.s .z)))))) (FJ.ql rfl (q_neq rfl (.t (.s .z)) (.t .z)) (FJ.nil (FJ.then_ ?_))))
 refine FJ.condN (.t .z) (fun b6 => ?_) (fun b6 => ?_)
 exfalso
 obtain ⟨z, hz⟩ := markS_get e0 hx4
 exact b6 hz
 refine FJ.skip (FJ.then_ (FJ.region (FJ.ql rfl (q_move rfl (.t (.s4 (.s4 (.s4 .z))))) ?_)))
 refine FJ.ql rfl (q_add (c := (n + (k : Int)) + 1) rfl (.t .z) .c (wr (by omega) (by omega) (by omega))) ?_
 refine FJ.er (.s4 (.s4 (.s4 (.s (.s .z))))) (FJ.ql rfl (q_assign rfl (.t .z)) (FJ.nil (FJ.inBN (FJ.then_ ?_))))
 refine FJ.region (FJ.ql rfl (q_move rfl (.t (.s4 (.s4 (.s4 (.s .z)))))) ?_)
 refine FJ.ql rfl (q_add (c := ((k + 1 : Nat) : Int)) rfl (.t .z) .c (wr (by omega) (by omega) (by omega))) ?_
 refine FJ.er (.s4 (.s4 (.s4 (.s (.s (.s .z)))))) (FJ.ql rfl (q_assign rfl (.t .z)) (FJ.nil ?_))
 refine FJ.again (k + 1) (by omega) (by first | omega | (dsimp only; omega)) (.c .z (.c (.s16 .z) (.e (.s (.s (.s .z))) (congrArg (Value.int .i64) (by omega)) .n))) (fun _ h => h)
 refine FJ.exit (FJ.thenE (FJ.thenE (FJ.inB (FJ.then_ ?_))))
 refine FJ.seq (FJ.region (FJ.ql rfl (q_move rfl (.t (.s4 (.s (.s .z))))) (FJ.ql rfl (q_assign rfl (.t .z)) (FJ.nil ?_))))
 refine FJ.then_ (FJ.ret ?_)
 refine FJ.doneS (res1 rfl .z) .n ?_
 exact ⟨congrArg (Value.int .i64) (by omega), rfl⟩

set_option maxHeartbeats 1000000 in
set_option maxRecDepth 20000 in
theorem c_135 {w0 : World} {S0 : Bs} {y : (List DEnt)} {v0 : Value} (h0 : kSl_130.ro w0 (FF w0 S0) y [v0]) (n : Int) (x : (List DEnt)) (e0 : y = ((markL cnt_DEnt mark_DEnt) n x)) (hn0 : 0 ≤ n) (hn1 : n + ((sumF cnt_DEnt x) : Int) ≤ 4611686018427387904) :
    Calls Try.prog 135 #[v0, .int .i64 n] w0 (TriPost w0 S0 (fun r l => r = .int .i64 (n + ((sumF cnt_DEnt x) : Int)) ∧ l = [])) := by
 obtain ⟨A0, c0, rfl, hl0, hm0, hb0, he0⟩ := ro_form h0
 have hl := markE_len e0
 refine FJ.enter (N := 32) Try.func135 rfl rfl (by simp) [(0, .slice A0 y.length c0), (1, .int .i64 n)] (by simp) (l0 := []) trivial ?_
 refine FJ.seq (FJ.region (FJ.ql rfl (q_assign rfl .c) (FJ.nil (FJ.then_ ?_))))
 refine FJ.seq (FJ.seq (FJ.region (FJ.ql rfl (q_assign rfl .c) (FJ.nil ?_))))
 refine FJ.then_ (FJ.block ?_)
 refine FJ.loopi (γ := Nat) (fun k => [(5, .int .i64 (k : Int)), (0, .slice A0 y.length c0), (1, .int .i64 (n + (sumF cnt_DEnt (List.take k x) : Int)))]) (fun k => []) (fun k => k ≤ y.length) (fun k => y.length - k) 0 (Nat.zero_le _) (.c .z (.c (.s (.s .z)) (.e (.s (.s (.s .z))) (congrArg (Value.int .i64) (by simp only [List.take_zero, sumF]; omega)) .n))) (fun _ h => h) ?_
 rintro k hk
 have hle := sumF_le (f := cnt_DEnt) (xs := x) (k := k)
 refine FJ.seq (FJ.seq (FJ.region (FJ.ql rfl (q_move rfl (.t .z)) (FJ.ql rfl (q_move rfl (.t (.s (.s .z)))) ?_))))
 refine FJ.ql rfl (q_len rfl u_28 (.t .z)) (FJ.ql rfl (q_lss rfl (.t (.s (.s .z))) (.t .z)) (FJ.nil (FJ.then_ ?_)))
 refine FJ.condP (.t .z) (fun b2 => ?_) (fun b2 => ?_)
 refine FJ.skip (FJ.then_ (FJ.seq (FJ.block (FJ.seq ?_))))
 refine FJ.seq ?_
 refine FJ.draw [] 8 (by kernel_rfl) ?_
 refine FJ.sch [(0, true), (1, true), (2, true), (3, true), (4, true), (5, true), (6, false), (7, true)] 0 #[true, true, true, true, true, true, true, true] (by rfl) (by kernel_rfl) ?_
 refine FJ.dq rfl rfl rfl (by decide) rfl .z (q_move rfl (.t (.s4 (.s .z)))) (FJ.dq rfl rfl rfl (by decide) rfl .z (q_move rfl (.t (.s4 (.s .z)))) ?_)
 obtain ⟨ad3, hAad3, hrad3⟩ := he0 (by omega)
 subst hAad3
 obtain ⟨x4, hx4⟩ := get_ex (xs := y) (j := k) (by omega)
 obtain ⟨ece5, hre5, hFe5, hce5⟩ := hrad3.elem hx4
 obtain ⟨rfl, se5_0⟩ := kT_130_ro hre5
 obtain ⟨z6, hz6, ez6⟩ := markE_get e0 hx4
 have gz6 := sumF_get cnt_DEnt hz6
 have tz6 := sumF_take cnt_DEnt hz6
 simp only [cnt_DEnt] at gz6 tz6
 refine FJ.dq rfl rfl rfl (by decide) rfl .z (q_indexAddr (j := k) rfl u_28 sz_130 (.t (.s .z)) (.t .z) rfl (by omega)) ?_
 refine FJ.dq rfl rfl rfl (by decide) rfl .z (q_fieldAddr rfl (.t .z) (fun _ => fa_130_0 _ _)) (FJ.dq rfl rfl rfl (by decide) rfl .z (q_load rfl ag_9 (.t .z) (WS.el hFe5 hce5 rfl)) (FJ.dq rfl rfl rfl (by decide) rfl .z (q_move rfl (.t (.s4 (.s4 (.s (.s (.s .z))))))) ?_))
 refine FJ.call (goes_sch rfl rfl) rfl (by decide) rfl (c_call rfl Try.func128 rfl rfl (args1 (.t .z))) .n (fun w1 S1 hs tr => c_128 _ (by omega)) ?_
 rintro _ _ ⟨rfl, rfl⟩
 refine FJ.cat .n ?_
 refine FJ.sk .z ?_
 refine FJ.dq rfl rfl rfl (by decide) rfl .z (q_sneq rfl (.t (.s (.s .z))) (.t .z)) (FJ.schN ?_)
 refine FJ.drawN (by kernel_rfl) ?_
 refine FJ.then_ ?_
 refine FJ.condN (.t .z) (fun b7 => ?_) (fun b7 => ?_)
 exact absurd (by rw [ez6]; first | rfl | (simp only [mark_DEnt]; omega)) b7
 refine FJ.skip (FJ.then_ (FJ.seq (FJ.region (FJ.ql rfl (q_move rfl (.t (.s4 (.s4 (.s4 (.s (.s .z))))))) ?_))))
 refine FJ.ql rfl (q_add (c := (n + (sumF cnt_DEnt (List.take k x) : Int)) + 1) rfl (.t .z) .c (wr (by omega) (by omega) (by omega))) ?_
 refine FJ.er (.s16 .z) (FJ.ql rfl (q_assign rfl (.t .z)) (FJ.nil (FJ.then_ (FJ.seq ?_))))
 refine FJ.seq (FJ.region (FJ.ql rfl (q_move rfl (.t (.s16 .z))) (FJ.ql rfl (q_move rfl (.t (.s16 .z))) ?_)))
 refine FJ.ql rfl (q_indexAddr (j := k) rfl u_28 sz_130 (.t (.s .z)) (.t .z) rfl (by omega)) ?_
 refine FJ.ql rfl (q_fieldAddr rfl (.t .z) (fun _ => fa_130_1 _ _)) (FJ.ql rfl (q_load rfl ag_2 (.t .z) (WS.el hFe5 hce5 rfl)) (FJ.ql rfl (q_move rfl (.t (.s4 (.s .z)))) (FJ.ql rfl (q_neq rfl (.t (.s .z)) (.t .z)) (FJ.nil ?_))))
 refine FJ.then_ ?_
 refine FJ.condN (.t .z) (fun b8 => ?_) (fun b8 => ?_)
 exact absurd (by rw [ez6]; first | rfl | (simp only [mark_DEnt]; omega)) b8
 refine FJ.skip (FJ.then_ (FJ.region (FJ.ql rfl (q_move rfl (.t (.s4 (.s (.s (.s .z)))))) ?_)))
 refine FJ.ql rfl (q_add (c := ((n + (sumF cnt_DEnt (List.take k x) : Int)) + 1) + 1) rfl (.t .z) .c (wr (by omega) (by omega) (by omega))) ?_
 refine FJ.er (.s4 (.s4 (.s .z))) (FJ.ql rfl (q_assign rfl (.t .z)) (FJ.nil (FJ.inBN (FJ.then_ ?_))))
 refine FJ.region (FJ.ql rfl (q_move rfl (.t (.s16 (.s4 (.s4 .z))))) ?_)
 refine FJ.ql rfl (q_add (c := ((k + 1 : Nat) : Int)) rfl (.t .z) .c (wr (by omega) (by omega) (by omega))) ?_
 refine FJ.er (.s16 (.s4 (.s4 (.s (.s .z))))) (FJ.ql rfl (q_assign rfl (.t .z)) (FJ.nil ?_))
 refine FJ.again (k + 1) (by omega) (by first | omega | (dsimp only; omega)) (.c .z (.c (.s16 (.s4 (.s4 (.s (.s (.s .z)))))) (.e (.s (.s (.s .z))) (congrArg (Value.int .i64) (by omega)) .n))) (fun _ h => h)
 refine FJ.exit (FJ.thenE (FJ.thenE (FJ.inB (FJ.then_ ?_))))
 refine FJ.seq (FJ.region (FJ.ql rfl (q_move rfl (.t (.s4 (.s (.s .z))))) (FJ.ql rfl (q_assign rfl (.t .z)) (FJ.nil ?_))))
 refine FJ.then_ (FJ.ret ?_)
 refine FJ.doneS (res1 rfl .z) .n ?_
 exact ⟨by rw [sumF_all _ (by omega)], rfl⟩

set_option maxHeartbeats 1000000 in
set_option maxRecDepth 20000 in
theorem c_101 {w0 : World} {S0 : Bs} {y : DInode} {cs0 : List Value} (h0 : kT_30.ro w0 (FF w0 S0) y cs0) (n : Int) (x : DInode) (e0 : y = (vmark_DInode n x)) (hn0 : 0 ≤ n) (hn1 : n + ((vcnt_DInode x) : Int) ≤ 4611686018427387904) :
    Calls Try.prog 101 #[.agg cs0.toArray, .int .i64 n] w0 (TriPost w0 S0 (fun r l => r = .int .i64 (n + ((vcnt_DInode x) : Int)) ∧ l = [])) := by
 obtain ⟨u0_3, u0_4, rfl, h0_3, h0_4⟩ := kT_30_ro h0
 obtain ⟨A0_3, c0_3, rfl, hl0_3, hm0_3, hb0_3, he0_3⟩ := ro_form h0_3
 obtain ⟨A0_4, c0_4, rfl, hl0_4, hm0_4, hb0_4, he0_4⟩ := ro_form h0_4
 simp only [vcnt_DInode] at hn1
 refine FJ.enter (N := 18) Try.func101 rfl rfl (by simp) [(0, .agg #[.int .i64 y.kind, .int .i64 y.links, .int .i64 y.size, .slice A0_3 y.blocks.length c0_3, .slice A0_4 y.ents.length c0_4]), (1, .int .i64 n)] (by simp) (l0 := []) trivial ?_
 refine FJ.seq (FJ.region ?_)
 refine FJ.e (goes_list rfl) rfl (by decide) rfl (e_box (cs := [.int .i64 y.kind, .int .i64 y.links, .int .i64 y.size, .slice A0_3 y.blocks.length c0_3, .slice A0_4 y.ents.length c0_4]) (n := 5) rfl (.t .z) rfl rfl) ?_
 rintro _ _ ⟨g3, rfl, rfl⟩
 refine FJ.ql rfl (q_assign rfl .c) (FJ.nil (FJ.then_ (FJ.seq (FJ.region ?_))))
 refine FJ.ql rfl (q_fieldAddr rfl (.t (.s .z)) (fun _ => fa_30_3 _ _)) (FJ.ql rfl (q_load rfl ag_22 (.t .z) (WS.row .z rfl)) (FJ.ql rfl (q_move rfl (.t (.s4 (.s .z)))) ?_))
 refine FJ.call (goes_list rfl) rfl (by decide) rfl (c_call rfl Try.func90 rfl rfl (args2 (.t (.s .z)) (.t .z))) .n (fun w1 S1 hs tr => c_90 (tr.ctx h0_3) _ x.blocks (congrArg (·.blocks) e0) (by omega) (by first | omega | (omega))) ?_
 rintro _ _ ⟨rfl, rfl⟩
 refine FJ.cat .n ?_
 refine FJ.er (.s4 (.s (.s (.s .z)))) (FJ.ql rfl (q_assign rfl (.t .z)) (FJ.nil (FJ.then_ (FJ.seq ?_))))
 refine FJ.seq (FJ.region (FJ.ql rfl (q_move rfl (.t .z)) (FJ.ql rfl (q_lss rfl (.t .z) .c) (FJ.nil ?_))))
 refine FJ.then_ ?_
 refine FJ.condP (.t .z) (fun b4 => ?_) (fun b4 => ?_)
 refine FJ.seq (FJ.region (FJ.er (.s4 (.s (.s (.s .z)))) (FJ.ql rfl (q_assign rfl .c) (FJ.nil ?_))))
 refine FJ.then_ (FJ.ret (FJ.thenR ?_))
 refine FJ.doneS (res1 rfl .z) .n ?_
 exfalso; omega
 refine FJ.skip (FJ.then_ (FJ.seq (FJ.region (FJ.ql rfl (q_fieldAddr rfl (.t (.s4 (.s4 .z))) (fun _ => fa_30_4 _ _)) ?_))))
 refine FJ.ql rfl (q_load rfl ag_28 (.t .z) (WS.row .z rfl)) (FJ.ql rfl (q_move rfl (.t (.s4 .z))) ?_)
 refine FJ.call (goes_list rfl) rfl (by decide) rfl (c_call rfl Try.func135 rfl rfl (args2 (.t (.s .z)) (.t .z))) .n (fun w1 S1 hs tr => c_135 (tr.ctx h0_4) _ x.ents (congrArg (·.ents) e0) (by omega) (by first | omega | (omega))) ?_
 rintro _ _ ⟨rfl, rfl⟩
 refine FJ.cat .n ?_
 refine FJ.er (.s4 (.s (.s .z))) (FJ.ql rfl (q_assign rfl (.t .z)) (FJ.nil (FJ.then_ (FJ.seq ?_))))
 refine FJ.seq (FJ.region (FJ.ql rfl (q_move rfl (.t .z)) (FJ.ql rfl (q_lss rfl (.t .z) .c) (FJ.nil ?_))))
 refine FJ.then_ ?_
 refine FJ.condP (.t .z) (fun b5 => ?_) (fun b5 => ?_)
 refine FJ.seq (FJ.region (FJ.er (.s4 (.s4 (.s4 (.s .z)))) (FJ.ql rfl (q_assign rfl .c) (FJ.nil ?_))))
 refine FJ.then_ (FJ.ret (FJ.thenR ?_))
 refine FJ.doneS (res1 rfl .z) .n ?_
 exfalso; omega
 refine FJ.skip (FJ.then_ (FJ.seq (FJ.region (FJ.ql rfl (q_move rfl (.t (.s (.s .z)))) ?_))))
 refine FJ.er (.s4 (.s4 (.s4 (.s (.s .z))))) (FJ.ql rfl (q_assign rfl (.t .z)) (FJ.nil (FJ.then_ (FJ.ret ?_))))
 refine FJ.doneS (res1 rfl .z) .n ?_
 exact ⟨congrArg (Value.int .i64) (by simp only [vcnt_DInode]; omega), rfl⟩

set_option maxHeartbeats 1000000 in
set_option maxRecDepth 20000 in
theorem c_40 {w0 : World} {S0 : Bs} {y : RInts} {cs0 : List Value} (h0 : kT_57.ro w0 (FF w0 S0) y cs0) (n : Int) (x : RInts) (e0 : y = (vmark_RInts n x)) (hn0 : 0 ≤ n) (hn1 : n + ((vcnt_RInts x) : Int) ≤ 4611686018427387904) :
    Calls Try.prog 40 #[.agg cs0.toArray, .int .i64 n] w0 (TriPost w0 S0 (fun r l => r = .int .i64 (n + ((vcnt_RInts x) : Int)) ∧ l = [])) := by
 obtain ⟨u0_1, rfl, h0_1⟩ := kT_57_ro h0
 obtain ⟨A0_1, c0_1, rfl, hl0_1, hm0_1, hb0_1, he0_1⟩ := ro_form h0_1
 simp only [vcnt_RInts] at hn1
 refine FJ.enter (N := 12) Try.func40 rfl rfl (by simp) [(0, .agg #[.int .i64 y.code, .slice A0_1 y.list.length c0_1]), (1, .int .i64 n)] (by simp) (l0 := []) trivial ?_
 refine FJ.seq (FJ.region ?_)
 refine FJ.e (goes_list rfl) rfl (by decide) rfl (e_box (cs := [.int .i64 y.code, .slice A0_1 y.list.length c0_1]) (n := 2) rfl (.t .z) rfl rfl) ?_
 rintro _ _ ⟨g2, rfl, rfl⟩
 refine FJ.ql rfl (q_assign rfl .c) (FJ.nil (FJ.then_ (FJ.seq (FJ.region ?_))))
 refine FJ.ql rfl (q_fieldAddr rfl (.t (.s .z)) (fun _ => fa_57_1 _ _)) (FJ.ql rfl (q_load rfl ag_22 (.t .z) (WS.row .z rfl)) (FJ.ql rfl (q_move rfl (.t (.s4 (.s .z)))) ?_))
 refine FJ.call (goes_list rfl) rfl (by decide) rfl (c_call rfl Try.func90 rfl rfl (args2 (.t (.s .z)) (.t .z))) .n (fun w1 S1 hs tr => c_90 (tr.ctx h0_1) _ x.list (congrArg (·.list) e0) (by omega) (by first | omega | (omega))) ?_
 rintro _ _ ⟨rfl, rfl⟩
 refine FJ.cat .n ?_
 refine FJ.er (.s4 (.s (.s (.s .z)))) (FJ.ql rfl (q_assign rfl (.t .z)) (FJ.nil (FJ.then_ (FJ.seq ?_))))
 refine FJ.seq (FJ.region (FJ.ql rfl (q_move rfl (.t .z)) (FJ.ql rfl (q_lss rfl (.t .z) .c) (FJ.nil ?_))))
 refine FJ.then_ ?_
 refine FJ.condP (.t .z) (fun b3 => ?_) (fun b3 => ?_)
 refine FJ.seq (FJ.region (FJ.er (.s4 (.s (.s (.s .z)))) (FJ.ql rfl (q_assign rfl .c) (FJ.nil ?_))))
 refine FJ.then_ (FJ.ret (FJ.thenR ?_))
 refine FJ.doneS (res1 rfl .z) .n ?_
 exfalso; omega
 refine FJ.skip (FJ.then_ (FJ.seq (FJ.region (FJ.ql rfl (q_move rfl (.t (.s (.s .z)))) ?_))))
 refine FJ.er (.s4 (.s4 .z)) (FJ.ql rfl (q_assign rfl (.t .z)) (FJ.nil (FJ.then_ (FJ.ret ?_))))
 refine FJ.doneS (res1 rfl .z) .n ?_
 exact ⟨congrArg (Value.int .i64) (by simp only [vcnt_RInts]; omega), rfl⟩

set_option maxHeartbeats 1000000 in
set_option maxRecDepth 20000 in
theorem c_37 {w0 : World} {S0 : Bs} {x : RInts} {cs0 : List Value} (h0 : kT_57.ro w0 (FF w0 S0) x cs0) {y : RInts} {cs1 : List Value} (h1 : kT_57.ro w0 (FF w0 S0) y cs1)  :
    Calls Try.prog 37 #[.agg cs0.toArray, .agg cs1.toArray] w0 (TriPost w0 S0 (fun r l => r = .bool (decide (x = y)) ∧ l = [])) := by
 obtain ⟨u0_1, rfl, h0_1⟩ := kT_57_ro h0
 obtain ⟨A0_1, c0_1, rfl, hl0_1, hm0_1, hb0_1, he0_1⟩ := ro_form h0_1
 obtain ⟨u1_1, rfl, h1_1⟩ := kT_57_ro h1
 obtain ⟨A1_1, c1_1, rfl, hl1_1, hm1_1, hb1_1, he1_1⟩ := ro_form h1_1
 refine FJ.enter (N := 16) Try.func37 rfl rfl (by simp) [(0, .agg #[.int .i64 x.code, .slice A0_1 x.list.length c0_1]), (1, .agg #[.int .i64 y.code, .slice A1_1 y.list.length c1_1])] (by simp) (l0 := []) trivial ?_
 refine FJ.seq (FJ.region ?_)
 refine FJ.e (goes_list rfl) rfl (by decide) rfl (e_box (cs := [.int .i64 x.code, .slice A0_1 x.list.length c0_1]) (n := 2) rfl (.t .z) rfl rfl) ?_
 rintro _ _ ⟨g3, rfl, rfl⟩
 refine FJ.e (goes_list rfl) rfl (by decide) rfl (e_box (cs := [.int .i64 y.code, .slice A1_1 y.list.length c1_1]) (n := 2) rfl (.t (.s (.s .z))) rfl rfl) ?_
 rintro _ _ ⟨g4, rfl, rfl⟩
 refine FJ.ql rfl (q_assign rfl .c) (FJ.nil (FJ.then_ (FJ.seq (FJ.seq ?_))))
 refine FJ.region (FJ.ql rfl (q_fieldAddr rfl (.t (.s (.s .z))) (fun _ => fa_57_0 _ _)) (FJ.ql rfl (q_load rfl ag_2 (.t .z) (WS.row (.s .z) rfl)) (FJ.ql rfl (q_fieldAddr rfl (.t (.s (.s (.s .z)))) (fun _ => fa_57_0 _ _)) (FJ.ql rfl (q_load rfl ag_2 (.t .z) (WS.row .z rfl)) ?_))))
 refine FJ.ql rfl (q_neq rfl (.t (.s (.s .z))) (.t .z)) (FJ.nil (FJ.then_ ?_))
 refine FJ.condN (.t .z) (fun b5 => ?_) (fun b5 => ?_)
 refine FJ.seq (FJ.region (FJ.er (.s4 (.s .z)) (FJ.ql rfl (q_assign rfl .c) (FJ.nil ?_))))
 refine FJ.then_ (FJ.ret (FJ.thenR ?_))
 refine FJ.doneS (res1 rfl .z) .n ?_
 exact ⟨by rw [decide_eq_false]; rintro rfl; simp_all, rfl⟩
 refine FJ.skip (FJ.then_ (FJ.seq (FJ.seq (FJ.region ?_))))
 refine FJ.ql rfl (q_fieldAddr rfl (.t (.s4 (.s (.s (.s .z))))) (fun _ => fa_57_1 _ _)) (FJ.ql rfl (q_load rfl ag_22 (.t .z) (WS.row (.s .z) rfl)) (FJ.ql rfl (q_fieldAddr rfl (.t (.s4 (.s4 .z))) (fun _ => fa_57_1 _ _)) (FJ.ql rfl (q_load rfl ag_22 (.t .z) (WS.row .z rfl)) ?_)))
 refine FJ.call (goes_list rfl) rfl (by decide) rfl (c_call rfl Try.func50 rfl rfl (args2 (.t (.s (.s .z))) (.t .z))) .n (fun w1 S1 hs tr => c_50 (tr.ctx h0_1) (tr.ctx h1_1)) ?_
 rintro _ _ ⟨rfl, rfl⟩
 refine FJ.cat .n ?_
 refine FJ.ql rfl (q_not rfl (.t .z)) (FJ.nil (FJ.then_ ?_))
 refine FJ.condN (.t .z) (fun b6 => ?_) (fun b6 => ?_)
 refine FJ.seq (FJ.region (FJ.er (.s4 (.s4 (.s (.s (.s .z))))) (FJ.ql rfl (q_assign rfl .c) (FJ.nil ?_))))
 refine FJ.then_ (FJ.ret (FJ.thenR ?_))
 refine FJ.doneS (res1 rfl .z) .n ?_
 exact ⟨by rw [decide_eq_false]; rintro rfl; simp_all, rfl⟩
 refine FJ.skip (FJ.then_ (FJ.seq (FJ.region (FJ.er (.s4 (.s4 (.s (.s (.s .z))))) ?_))))
 refine FJ.ql rfl (q_assign rfl .c) (FJ.nil (FJ.then_ (FJ.ret ?_)))
 refine FJ.doneS (res1 rfl .z) .n ?_
 exact ⟨by rw [decide_eq_true]; cases x; cases y; simp_all, rfl⟩

end Go.Proofs.Ytoaebcjjfojfeaa

/- What is proved: contracts of functions, one a function. No condition. -/
import Derived.Test.YtbcdcakcmdcafaaGreatW5
namespace Go.Proofs.YtbcdcakcmdcafaaGreat
open Go Go.RowKit
set_option linter.unusedVariables false
set_option linter.unusedSimpArgs false
set_option maxHeartbeats 1000000 in
set_option maxRecDepth 20000 in
theorem c_141 {w0 : World} {S0 : Bs} (n : Int) (hn1 : n ≤ 4611686018427387905) :
    Calls Tryz.prog 141 #[.int .i64 n] w0 (TriPost w0 S0 (fun r l => r = .string (mtext n) ∧ l = [])) := by
 refine FJ.enter (N := 20) Tryz.func141 rfl rfl (by simp) [(0, .int .i64 n)] (by simp) (l0 := []) trivial ?_
 refine FJ.seq (FJ.region (FJ.ql rfl (q_assign rfl .c) (FJ.nil (FJ.then_ ?_))))
 refine FJ.seq (FJ.seq (FJ.region (FJ.ql rfl (q_move rfl (.t (.s .z))) (FJ.ql rfl (q_leq rfl (.t .z) .c) ?_))))
 refine FJ.nil (FJ.then_ ?_)
 refine FJ.condP (.t .z) (fun b1 => ?_) (fun b1 => ?_)
 refine FJ.seq (FJ.region (FJ.er (.s (.s .z)) (FJ.ql rfl (q_assign rfl .c) (FJ.nil ?_))))
 refine FJ.then_ (FJ.ret (FJ.thenR ?_))
 refine FJ.doneS (res1 rfl .z) .n ?_
 exact ⟨by unfold mtext; rw [if_pos (by assumption)]; rfl, rfl⟩
 refine FJ.skip (FJ.then_ (FJ.seq (FJ.region (FJ.ql rfl (q_assign rfl .c) ?_))))
 refine FJ.nil (FJ.then_ (FJ.seq (FJ.block ?_)))
 refine FJ.eq (.s4 .z) (congrArg (Value.int .i64) (show n = ((Int.toNat n : Nat) : Int) by omega)) ?_
 refine FJ.loopi (γ := Nat × ByteArray × Nat) (fun ⟨q, o, d⟩ => [(0, .int .i64 (q : Int)), (3, .string o), (2, .string (⟨#[]⟩))]) (fun ⟨q, o, d⟩ => []) (fun ⟨q, o, d⟩ => mfin q o = mfin n.toNat ⟨#[]⟩ ∧ q < 10 ^ d ∧ o.size + d ≤ 19 ∧ q ≤ 4611686018427387905) (fun ⟨q, o, d⟩ => q) (Int.toNat n, ⟨#[]⟩, 19) ⟨rfl, by omega, by decide, by omega⟩ (.c .z (.c (.s .z) (.c (.s4 .z) .n))) (fun _ h => h) ?_
 rintro ⟨q, o, d⟩ ⟨hq, hd, ho, hq4⟩
 refine FJ.seq (FJ.seq (FJ.region (FJ.ql rfl (q_move rfl (.t .z)) (FJ.ql rfl (q_gtr rfl (.t .z) .c) ?_))))
 refine FJ.nil (FJ.then_ ?_)
 refine FJ.condP (.t .z) (fun b2 => ?_) (fun b2 => ?_)
 refine FJ.skip (FJ.then_ (FJ.block (FJ.seq (FJ.region ?_))))
 refine FJ.ql rfl (q_move rfl (.t (.s (.s .z)))) ?_
 refine FJ.ql rfl (q_rem (c := ((q % 10 : Nat) : Int)) rfl (.t .z) .c (by omega) (rem_nat (d := 10) rfl)) ?_
 refine FJ.ql rfl (q_add (c := ((48 + (q % 10) : Nat) : Int)) rfl .c (.t .z) (wr (by omega) (by omega) (by omega))) ?_
 refine FJ.ql rfl (q_conv (c := ((mbyte ((48 + (q % 10) : Nat) : Int)).toNat : Int)) rfl (.t .z) u_3 u_5 (mbyte_wrap _)) ?_
 refine FJ.e (goes_list rfl) rfl (by decide) rfl (e_buildSliceL (ps := [(0, .int .u8 ((mbyte ((48 + (q % 10) : Nat) : Int)).toNat : Int))]) (cs := [.int .u8 ((mbyte ((48 + (q % 10) : Nat) : Int)).toNat : Int)]) rfl u_39 (inz inf_5) (by decide) (by intro act hact; simp only [List.map_toArray, List.map_cons, List.map_nil, (show Val _ _ _ from (.t .z)) act hact]) rfl rfl (by decide) rfl rfl) ?_
 rintro _ _ ⟨g3, rfl, rfl⟩
 refine FJ.turns (c := ownA kSl_5 ([(mbyte ((48 + (q % 10) : Nat) : Int))] : (List UInt8)) [.slice (some ⟨g3, 0, none⟩) 1 1]) (.c .z .n) (fun w S h => lit_own (xs := ([(mbyte ((48 + (q % 10) : Nat) : Int))] : (List UInt8))) h rfl (by simp) (by omega) (by omega)) ?_
 refine FJ.ql rfl (q_convBS (xs := ([(mbyte ((48 + (q % 10) : Nat) : Int))] : (List UInt8))) rfl u_39 u_5 u_9 (.t .z) (WS.roown .z)) (FJ.ql rfl (q_move rfl (.t (.s4 (.s4 (.s .z))))) ?_)
 refine FJ.ql rfl (q_sadd rfl (.t (.s .z)) (.t .z) (by first | (simp only [bstr_size, List.length_cons, List.length_nil]; omega) | (have : (⟨#[109]⟩ : ByteArray).size = 1 := rfl; omega))) ?_
 refine FJ.er (.s4 (.s4 (.s (.s (.s .z))))) (FJ.ql rfl (q_assign rfl (.t .z)) (FJ.nil (FJ.then_ (FJ.region ?_))))
 refine FJ.ql rfl (q_move rfl (.t (.s4 (.s4 (.s (.s (.s .z))))))) ?_
 refine FJ.ql rfl (q_quo (c := ((q / 10 : Nat) : Int)) rfl (.t .z) .c (by omega) (quo_nat (d := 10) (by omega) rfl)) ?_
 refine FJ.er (.s4 (.s4 (.s4 (.s .z)))) (FJ.ql rfl (q_assign rfl (.t .z)) (FJ.nil (FJ.inBN ?_)))
 refine FJ.again (q / 10, (bstr ([(mbyte ((48 + (q % 10) : Nat) : Int))] : (List UInt8))) ++ o, d - 1) ⟨(mfin_s o (by omega)).symm.trans hq, mfin_d (by omega) hd, mfin_o (by omega) hd ho, by omega⟩ (by first | omega | (dsimp only; omega)) (.c .z (.c (.s (.s (.s .z))) (.c (.s4 (.s4 (.s4 (.s (.s .z))))) .n))) (fun _ h => h.sel .n)
 refine FJ.exit (FJ.thenE (FJ.thenE (FJ.inB (FJ.then_ ?_))))
 refine FJ.seq (FJ.region (FJ.ql rfl (q_move rfl (.t (.s (.s (.s .z))))) ?_))
 refine FJ.ql rfl (q_sadd rfl .c (.t .z) (by first | (simp only [bstr_size, List.length_cons, List.length_nil]; omega) | (have : (⟨#[109]⟩ : ByteArray).size = 1 := rfl; omega))) ?_
 refine FJ.er (.s4 (.s (.s .z))) (FJ.ql rfl (q_assign rfl (.t .z)) (FJ.nil (FJ.then_ (FJ.ret ?_))))
 refine FJ.doneS (res1 rfl .z) .n ?_
 exact ⟨by unfold mtext; rw [if_neg (by assumption), ← hq, show q = 0 by omega, mfin_0]; rfl, rfl⟩

set_option maxHeartbeats 1000000 in
set_option maxRecDepth 20000 in
theorem c_102 {w0 : World} {S0 : Bs} {x : (List Int)} {v0 : Value} (n : Int) (hs : Star [ownA kSl_2 x [v0]] w0 S0) (hn0 : 0 ≤ n) (hn1 : n + (x.length : Int) ≤ 4611686018427387904) :
    Calls Tryz.prog 102 #[v0, .int .i64 n] w0 (TriPost w0 S0 (fun r l => r = .int .i64 (n + (x.length : Int)) ∧ l = [ownA kSl_2 ((markL (fun _ => 1) (fun m _ => m)) n x) [v0]])) := by
 refine FJ.enter (N := 19) Tryz.func102 rfl rfl (by simp) [(0, v0), (1, .int .i64 n)] (by simp) hs ?_
 refine FJ.know (WS.oform .z) ?_
 rintro ⟨Ao1, co1, rfl, hlo1, hmo1, hbo1⟩
 refine FJ.seq (FJ.region (FJ.ql rfl (q_assign rfl .c) (FJ.nil (FJ.then_ ?_))))
 refine FJ.seq (FJ.seq (FJ.region (FJ.ql rfl (q_assign rfl .c) (FJ.nil ?_))))
 refine FJ.then_ (FJ.block ?_)
 refine FJ.ceq .z (markS_zero (fun m _ => m) n x) ?_
 refine FJ.loopi (γ := Nat) (fun k => [(5, .int .i64 (k : Int)), (4, .int .i64 0), (0, .slice Ao1 x.length co1), (1, .int .i64 (n + (k : Int)))]) (fun k => [ownA kSl_2 (markS (fun m _ => m) n x k) [.slice Ao1 x.length co1]]) (fun k => k ≤ x.length) (fun k => x.length - k) 0 (Nat.zero_le _) (.c .z (.c (.s .z) (.c (.s (.s .z)) (.e (.s (.s (.s .z))) (congrArg (Value.int .i64) (by omega)) .n)))) (fun _ h => h.sel (.c .z .n)) ?_
 rintro k hk
 refine FJ.seq (FJ.seq (FJ.region (FJ.ql rfl (q_move rfl (.t .z)) (FJ.ql rfl (q_move rfl (.t (.s (.s (.s .z))))) ?_))))
 refine FJ.ql rfl (q_len rfl u_58 (.t .z)) (FJ.ql rfl (q_lss rfl (.t (.s (.s .z))) (.t .z)) (FJ.nil (FJ.then_ ?_)))
 refine FJ.condP (.t .z) (fun b2 => ?_) (fun b2 => ?_)
 refine FJ.skip (FJ.then_ (FJ.seq (FJ.block (FJ.seq ?_))))
 refine FJ.region (FJ.ql rfl (q_move rfl (.t (.s4 (.s (.s .z))))) (FJ.ql rfl (q_move rfl (.t (.s4 (.s .z)))) (FJ.ql rfl (q_move rfl (.t (.s4 (.s4 (.s .z))))) ?_)))
 refine FJ.know (WS.oad .z (by rw [markS_len (by omega)]; omega)) ?_
 rintro ⟨ad3, rfl⟩
 refine FJ.ql rfl (q_indexAddr (j := k) rfl u_58 sz_2 (.t (.s (.s .z))) (.t (.s .z)) rfl (by first | omega | (rw [markS_len (by omega)]; omega))) ?_
 refine FJ.add (c := ownA (kint .i64) (n + (k : Int)) [.int .i64 (n + (k : Int))]) (fun _ _ => ⟨rfl, trivial⟩) ?_
 refine FJ.es (goes_list rfl) rfl (es_set (j := k) rfl sz_2 (.t .z) (.t (.s .z)) rfl (.c (.s .z) (.c .z .n)) (by first | omega | (rw [markS_len (by omega)]; omega))) ?_
 obtain ⟨y, hy⟩ := get_ex (xs := x) (j := k) (by omega)
 refine FJ.ceq .z (markS_set (mk := (fun m _ => m)) hy) ?_
 refine FJ.nil (FJ.then_ (FJ.region (FJ.ql rfl (q_move rfl (.t (.s4 (.s4 (.s (.s (.s .z))))))) ?_)))
 refine FJ.ql rfl (q_add (c := (n + (k : Int)) + 1) rfl (.t .z) .c (wr (by omega) (by omega) (by omega))) ?_
 refine FJ.er (.s4 (.s4 (.s4 (.s .z)))) (FJ.ql rfl (q_assign rfl (.t .z)) (FJ.nil (FJ.inBN (FJ.then_ ?_))))
 refine FJ.region (FJ.ql rfl (q_move rfl (.t (.s4 (.s4 (.s (.s (.s .z))))))) ?_)
 refine FJ.ql rfl (q_add (c := ((k + 1 : Nat) : Int)) rfl (.t .z) .c (wr (by omega) (by omega) (by omega))) ?_
 refine FJ.er (.s4 (.s4 (.s4 (.s .z)))) (FJ.ql rfl (q_assign rfl (.t .z)) (FJ.nil ?_))
 refine FJ.again (k + 1) (by omega) (by first | omega | (dsimp only; omega)) (.c .z (.c (.s4 (.s4 (.s4 (.s (.s .z))))) (.c (.s4 (.s4 (.s4 (.s (.s (.s .z)))))) (.e (.s (.s (.s .z))) (congrArg (Value.int .i64) (by omega)) .n)))) (fun _ h => h.sel (.c .z .n))
 refine FJ.exit (FJ.thenE (FJ.thenE (FJ.inB (FJ.then_ ?_))))
 refine FJ.seq (FJ.region (FJ.ql rfl (q_move rfl (.t (.s4 (.s (.s (.s .z)))))) (FJ.er (.s4 (.s (.s .z))) (FJ.ql rfl (q_assign rfl (.t .z)) ?_))))
 refine FJ.nil (FJ.then_ (FJ.ret ?_))
 refine FJ.ceq .z (markS_all (by omega)) ?_
 refine FJ.doneS (res1 rfl .z) (.c .z .n) ?_
 exact ⟨congrArg (Value.int .i64) (by omega), rfl⟩

set_option maxHeartbeats 1000000 in
set_option maxRecDepth 20000 in
theorem c_103 {w0 : World} {S0 : Bs} {x : (List DEnt)} {v0 : Value} (n : Int) (hs : Star [ownA kSl_68 x [v0]] w0 S0) (hn0 : 0 ≤ n) (hn1 : n + ((sumF cnt_DEnt x) : Int) ≤ 4611686018427387904) :
    Calls Tryz.prog 103 #[v0, .int .i64 n] w0 (TriPost w0 S0 (fun r l => r = .int .i64 (n + ((sumF cnt_DEnt x) : Int)) ∧ l = [ownA kSl_68 ((markL cnt_DEnt mark_DEnt) n x) [v0]])) := by
 refine FJ.enter (N := 28) Tryz.func103 rfl rfl (by simp) [(0, v0), (1, .int .i64 n)] (by simp) hs ?_
 refine FJ.know (WS.oform .z) ?_
 rintro ⟨Ao1, co1, rfl, hlo1, hmo1, hbo1⟩
 refine FJ.open (.c .z .n) own_raw ?_
 rintro css hlcss
 refine FJ.add (c := seqC kT_68 [] []) seqC_nil ?_
 refine FJ.seq (FJ.region (FJ.ql rfl (q_assign rfl .c) (FJ.nil (FJ.then_ ?_))))
 refine FJ.seq (FJ.seq (FJ.region (FJ.ql rfl (q_assign rfl .c) (FJ.nil ?_))))
 refine FJ.then_ (FJ.block ?_)
 refine FJ.loopi (γ := Nat × (List (List Value))) (fun ⟨k, css⟩ => [(5, .int .i64 (k : Int)), (4, .int .i64 0), (0, .slice Ao1 x.length co1), (1, .int .i64 (n + (sumF cnt_DEnt (List.take k x) : Int)))]) (fun ⟨k, css⟩ => [seqC kT_68 (markL cnt_DEnt mark_DEnt n (List.take k x)) (List.take k css), ownA (kslice 68 24 (kraw kT_68.sz kT_68.pos)) css [.slice Ao1 x.length co1], seqC kT_68 (List.drop k x) (List.drop k css)]) (fun ⟨k, css⟩ => k ≤ x.length ∧ css.length = x.length) (fun ⟨k, css⟩ => x.length - k) (0, css) ⟨Nat.zero_le _, hlcss⟩ (.c .z (.c (.s .z) (.c (.s (.s .z)) (.e (.s (.s (.s .z))) (congrArg (Value.int .i64) (by simp only [List.take_zero, sumF]; omega)) .n)))) (fun _ h => h.sel (.c .z (.c .z (.c .z .n)))) ?_
 rintro ⟨k, css⟩ ⟨hk, hlcss⟩
 have hle := sumF_le (f := cnt_DEnt) (xs := x) (k := k)
 refine FJ.seq (FJ.seq (FJ.region (FJ.ql rfl (q_move rfl (.t .z)) (FJ.ql rfl (q_move rfl (.t (.s (.s (.s .z))))) ?_))))
 refine FJ.ql rfl (q_len rfl u_64 (.t .z)) (FJ.ql rfl (q_lss rfl (.t (.s (.s .z))) (.t .z)) (FJ.nil (FJ.then_ ?_)))
 refine FJ.condP (.t .z) (fun b2 => ?_) (fun b2 => ?_)
 refine FJ.skip (FJ.then_ (FJ.seq (FJ.block (FJ.seq ?_))))
 refine FJ.region (FJ.ql rfl (q_move rfl (.t (.s4 (.s (.s .z))))) (FJ.ql rfl (q_move rfl (.t (.s4 (.s .z)))) (FJ.ql rfl (q_move rfl (.t (.s4 (.s4 (.s .z))))) ?_)))
 refine FJ.call (goes_list rfl) rfl (by decide) rfl (c_call rfl Tryz.func141 rfl rfl (args1 (.t .z))) .n (fun w1 S1 hs tr => c_141 _ (by omega)) ?_
 rintro _ _ ⟨rfl, rfl⟩
 refine FJ.cat .n ?_
 refine FJ.know (WS.oad (.s .z) (by omega)) ?_
 rintro ⟨ad3, rfl⟩
 obtain ⟨c4, hc4⟩ := get_ex (xs := css) (j := k) (by omega)
 obtain ⟨y5, hy5⟩ := get_ex (xs := x) (j := k) (by omega)
 refine FJ.turn (.s (.s .z)) (seq_pop hy5 hc4) ?_
 refine FJ.open (.c .z .n) kT_68_op ?_
 rintro ⟨⟩ ⟨rfl, sy5_0⟩
 have gy5 := sumF_get cnt_DEnt hy5
 have ty5 := sumF_take cnt_DEnt hy5
 simp only [cnt_DEnt] at gy5 ty5
 refine FJ.ql rfl (q_indexAddr (j := k) rfl u_64 sz_68 (.t (.s (.s (.s .z)))) (.t (.s (.s .z))) rfl (by omega)) ?_
 refine FJ.ql rfl (q_fieldAddr rfl (.t .z) (fun _ => fa_68_0 _ _)) ?_
 refine FJ.es (goes_list rfl) rfl (es_raw (j := k) (off := 0) (cs := [.string (mtext (n + (sumF cnt_DEnt (List.take k x) : Int)))]) rfl sz_9 (.t .z) rfl (.t (.s (.s .z))) rfl (ones rfl) (.s (.s .z)) hc4 (Nat.le_of_ble_eq_true rfl)) ?_
 refine FJ.ceq (x' := List.set css k [.string (mtext (n + (sumF cnt_DEnt (List.take k x) : Int))), .int .i64 y5.ino]) .z rfl ?_
 refine FJ.nil (FJ.then_ (FJ.seq (FJ.region (FJ.ql rfl (q_move rfl (.t (.s4 (.s4 (.s4 (.s .z)))))) ?_))))
 refine FJ.ql rfl (q_add (c := (n + (sumF cnt_DEnt (List.take k x) : Int)) + 1) rfl (.t .z) .c (wr (by omega) (by omega) (by omega))) ?_
 refine FJ.er (.s4 (.s4 (.s4 (.s (.s (.s .z)))))) (FJ.ql rfl (q_assign rfl (.t .z)) (FJ.nil (FJ.then_ (FJ.seq ?_))))
 refine FJ.region (FJ.ql rfl (q_move rfl (.t (.s4 (.s4 (.s4 (.s (.s (.s .z)))))))) (FJ.ql rfl (q_move rfl (.t (.s4 (.s4 (.s4 (.s (.s .z))))))) (FJ.ql rfl (q_move rfl (.t (.s (.s .z)))) ?_)))
 refine FJ.ql rfl (q_indexAddr (j := k) rfl u_64 sz_68 (.t (.s (.s .z))) (.t (.s .z)) rfl (by omega)) ?_
 refine FJ.ql rfl (q_fieldAddr rfl (.t .z) (fun _ => fa_68_1 _ _)) ?_
 refine FJ.es (goes_list rfl) rfl (es_raw (j := k) (off := 1) (cs := [.int .i64 ((n + (sumF cnt_DEnt (List.take k x) : Int)) + 1)]) rfl sz_2 (.t .z) (add_add _ _ _) (.t (.s (.s .z))) rfl (ones rfl) .z (set_get hc4) (Nat.le_of_ble_eq_true rfl)) ?_
 refine FJ.ceq (x' := List.set css k [.string (mtext (n + (sumF cnt_DEnt (List.take k x) : Int))), .int .i64 ((n + (sumF cnt_DEnt (List.take k x) : Int)) + 1)]) .z (List.set_set ..) ?_
 refine FJ.nil (FJ.then_ (FJ.region (FJ.ql rfl (q_move rfl (.t (.s4 (.s .z)))) ?_)))
 refine FJ.ql rfl (q_add (c := ((n + (sumF cnt_DEnt (List.take k x) : Int)) + 1) + 1) rfl (.t .z) .c (wr (by omega) (by omega) (by omega))) ?_
 refine FJ.er (.s4 (.s (.s (.s .z)))) (FJ.ql rfl (q_assign rfl (.t .z)) (FJ.nil (FJ.inBN (FJ.then_ ?_))))
 refine FJ.region (FJ.ql rfl (q_move rfl (.t (.s16 (.s4 .z)))) ?_)
 refine FJ.ql rfl (q_add (c := ((k + 1 : Nat) : Int)) rfl (.t .z) .c (wr (by omega) (by omega) (by omega))) ?_
 refine FJ.er (.s16 (.s4 (.s (.s .z)))) (FJ.ql rfl (q_assign rfl (.t .z)) (FJ.nil ?_))
 refine FJ.turns (c := ownA kT_68 (mark_DEnt (n + (sumF cnt_DEnt (List.take k x) : Int)) y5) [.string (mtext (n + (sumF cnt_DEnt (List.take k x) : Int))), .int .i64 ((n + (sumF cnt_DEnt (List.take k x) : Int)) + 1)]) .n (fun w S h => kT_68_omk (mark_DEnt (n + (sumF cnt_DEnt (List.take k x) : Int)) y5) h (mtext_size (by omega))) ?_
 refine FJ.turns (c := seqC kT_68 (markL cnt_DEnt mark_DEnt n (List.take (k + 1) x)) (List.take (k + 1) (List.set css k [.string (mtext (n + (sumF cnt_DEnt (List.take k x) : Int))), .int .i64 ((n + (sumF cnt_DEnt (List.take k x) : Int)) + 1)]))) (.c (.s (.s (.s .z))) (.c .z .n)) (seq_snoc' (by rw [markL_len, List.length_take, List.length_take, hlcss]) (by rw [markL_take _ hy5]) (take_set hc4)) ?_
 refine FJ.turns (c := seqC kT_68 (List.drop (k + 1) x) (List.drop (k + 1) (List.set css k [.string (mtext (n + (sumF cnt_DEnt (List.take k x) : Int))), .int .i64 ((n + (sumF cnt_DEnt (List.take k x) : Int)) + 1)]))) (.c (.s (.s .z)) .n) (fun w S h => seq_same rfl drop_set w S (h.head (c := seqC _ _ _))) ?_
 refine FJ.again ((k + 1), List.set css k [.string (mtext (n + (sumF cnt_DEnt (List.take k x) : Int))), .int .i64 ((n + (sumF cnt_DEnt (List.take k x) : Int)) + 1)]) ⟨by omega, by rw [List.length_set]; exact hlcss⟩ (by first | omega | (dsimp only; omega)) (.c .z (.c (.s16 (.s4 (.s (.s (.s .z))))) (.c (.s16 (.s4 (.s4 .z))) (.e (.s (.s (.s .z))) (congrArg (Value.int .i64) (by omega)) .n)))) (fun _ h => h.sel (.c (.s .z) (.c (.s .z) (.c .z .n))))
 refine FJ.exit (FJ.thenE (FJ.thenE (FJ.inB (FJ.then_ ?_))))
 refine FJ.seq (FJ.region (FJ.ql rfl (q_move rfl (.t (.s4 (.s (.s (.s .z)))))) (FJ.er (.s4 (.s (.s .z))) (FJ.ql rfl (q_assign rfl (.t .z)) ?_))))
 refine FJ.nil (FJ.then_ (FJ.ret ?_))
 refine FJ.turns (c := ownA kSl_68 ((markL cnt_DEnt mark_DEnt) n x) [.slice Ao1 x.length co1]) (.c (.s .z) (.c .z .n)) (raw_own' (by rw [markL_len, hlcss]) (by rw [List.take_of_length_le (by omega)]) (by rw [List.take_of_length_le (by omega)])) ?_
 refine FJ.doneS (res1 rfl .z) (.c .z .n) ?_
 exact ⟨by rw [sumF_all _ (by omega)], rfl⟩

set_option maxHeartbeats 1000000 in
set_option maxRecDepth 20000 in
theorem c_60 {w0 : World} {S0 : Bs} {x : (List DInode)} {v0 : Value} (n : Int) (hs : Star [ownA kSl_66 x [v0]] w0 S0) (hn0 : 0 ≤ n) (hn1 : n + ((sumF cnt_DInode x) : Int) ≤ 4611686018427387904) :
    Calls Tryz.prog 60 #[v0, .int .i64 n] w0 (TriPost w0 S0 (fun r l => r = .int .i64 (n + ((sumF cnt_DInode x) : Int)) ∧ l = [ownA kSl_66 ((markL cnt_DInode mark_DInode) n x) [v0]])) := by
 refine FJ.enter (N := 48) Tryz.func60 rfl rfl (by simp) [(0, v0), (1, .int .i64 n)] (by simp) hs ?_
 refine FJ.know (WS.oform .z) ?_
 rintro ⟨Ao1, co1, rfl, hlo1, hmo1, hbo1⟩
 refine FJ.open (.c .z .n) own_raw ?_
 rintro css hlcss
 refine FJ.add (c := seqC kT_66 [] []) seqC_nil ?_
 refine FJ.seq (FJ.region (FJ.ql rfl (q_assign rfl .c) (FJ.nil (FJ.then_ ?_))))
 refine FJ.seq (FJ.seq (FJ.region (FJ.ql rfl (q_assign rfl .c) (FJ.nil ?_))))
 refine FJ.then_ (FJ.block ?_)
 refine FJ.loopi (γ := Nat × (List (List Value))) (fun ⟨k, css⟩ => [(5, .int .i64 (k : Int)), (4, .int .i64 0), (0, .slice Ao1 x.length co1), (1, .int .i64 (n + (sumF cnt_DInode (List.take k x) : Int)))]) (fun ⟨k, css⟩ => [seqC kT_66 (markL cnt_DInode mark_DInode n (List.take k x)) (List.take k css), ownA (kslice 66 72 (kraw kT_66.sz kT_66.pos)) css [.slice Ao1 x.length co1], seqC kT_66 (List.drop k x) (List.drop k css)]) (fun ⟨k, css⟩ => k ≤ x.length ∧ css.length = x.length) (fun ⟨k, css⟩ => x.length - k) (0, css) ⟨Nat.zero_le _, hlcss⟩ (.c .z (.c (.s .z) (.c (.s (.s .z)) (.e (.s (.s (.s .z))) (congrArg (Value.int .i64) (by simp only [List.take_zero, sumF]; omega)) .n)))) (fun _ h => h.sel (.c .z (.c .z (.c .z .n)))) ?_
 rintro ⟨k, css⟩ ⟨hk, hlcss⟩
 have hle := sumF_le (f := cnt_DInode) (xs := x) (k := k)
 refine FJ.seq (FJ.seq (FJ.region (FJ.ql rfl (q_move rfl (.t .z)) (FJ.ql rfl (q_move rfl (.t (.s (.s (.s .z))))) ?_))))
 refine FJ.ql rfl (q_len rfl u_24 (.t .z)) (FJ.ql rfl (q_lss rfl (.t (.s (.s .z))) (.t .z)) (FJ.nil (FJ.then_ ?_)))
 refine FJ.condP (.t .z) (fun b2 => ?_) (fun b2 => ?_)
 refine FJ.skip (FJ.then_ (FJ.seq (FJ.block (FJ.seq ?_))))
 refine FJ.region (FJ.ql rfl (q_move rfl (.t (.s4 (.s (.s .z))))) (FJ.ql rfl (q_move rfl (.t (.s4 (.s .z)))) (FJ.ql rfl (q_move rfl (.t (.s4 (.s4 (.s .z))))) ?_)))
 refine FJ.know (WS.oad (.s .z) (by omega)) ?_
 rintro ⟨ad3, rfl⟩
 obtain ⟨c4, hc4⟩ := get_ex (xs := css) (j := k) (by omega)
 obtain ⟨y5, hy5⟩ := get_ex (xs := x) (j := k) (by omega)
 refine FJ.turn (.s (.s .z)) (seq_pop hy5 hc4) ?_
 refine FJ.open (.c .z .n) kT_66_op ?_
 rintro ⟨v6, v7⟩ rfl
 refine FJ.know (WS.oform .z) ?_
 rintro ⟨Ao10, co10, rfl, hlo10, hmo10, hbo10⟩
 refine FJ.know (WS.oform (.s .z)) ?_
 rintro ⟨Ao11, co11, rfl, hlo11, hmo11, hbo11⟩
 have gy5 := sumF_get cnt_DInode hy5
 have ty5 := sumF_take cnt_DInode hy5
 simp only [cnt_DInode] at gy5 ty5
 refine FJ.ql rfl (q_indexAddr (j := k) rfl u_24 sz_66 (.t (.s (.s .z))) (.t (.s .z)) rfl (by omega)) ?_
 refine FJ.ql rfl (q_fieldAddr rfl (.t .z) (fun _ => fa_66_0 _ _)) ?_
 refine FJ.es (goes_list rfl) rfl (es_raw (j := k) (off := 0) (cs := [.int .i64 (n + (sumF cnt_DInode (List.take k x) : Int))]) rfl sz_2 (.t .z) rfl (.t (.s (.s .z))) rfl (ones rfl) (.s4 .z) hc4 (Nat.le_of_ble_eq_true rfl)) ?_
 refine FJ.ceq (x' := List.set css k [.int .i64 (n + (sumF cnt_DInode (List.take k x) : Int)), .int .i64 y5.links, .int .i64 y5.size, .slice Ao10 y5.blocks.length co10, .slice Ao11 y5.ents.length co11]) .z rfl ?_
 refine FJ.nil (FJ.then_ (FJ.seq (FJ.region (FJ.ql rfl (q_move rfl (.t (.s4 (.s4 (.s4 .z))))) ?_))))
 refine FJ.ql rfl (q_add (c := (n + (sumF cnt_DInode (List.take k x) : Int)) + 1) rfl (.t .z) .c (wr (by omega) (by omega) (by omega))) ?_
 refine FJ.er (.s4 (.s4 (.s4 (.s (.s .z))))) (FJ.ql rfl (q_assign rfl (.t .z)) (FJ.nil (FJ.then_ (FJ.seq ?_))))
 refine FJ.region (FJ.ql rfl (q_move rfl (.t (.s4 (.s4 (.s4 (.s (.s .z))))))) (FJ.ql rfl (q_move rfl (.t (.s4 (.s4 (.s4 (.s .z)))))) (FJ.ql rfl (q_move rfl (.t (.s (.s .z)))) ?_)))
 refine FJ.ql rfl (q_indexAddr (j := k) rfl u_24 sz_66 (.t (.s (.s .z))) (.t (.s .z)) rfl (by omega)) ?_
 refine FJ.ql rfl (q_fieldAddr rfl (.t .z) (fun _ => fa_66_1 _ _)) ?_
 refine FJ.es (goes_list rfl) rfl (es_raw (j := k) (off := 1) (cs := [.int .i64 ((n + (sumF cnt_DInode (List.take k x) : Int)) + 1)]) rfl sz_2 (.t .z) (add_add _ _ _) (.t (.s (.s .z))) rfl (ones rfl) .z (set_get hc4) (Nat.le_of_ble_eq_true rfl)) ?_
 refine FJ.ceq (x' := List.set css k [.int .i64 (n + (sumF cnt_DInode (List.take k x) : Int)), .int .i64 ((n + (sumF cnt_DInode (List.take k x) : Int)) + 1), .int .i64 y5.size, .slice Ao10 y5.blocks.length co10, .slice Ao11 y5.ents.length co11]) .z (List.set_set ..) ?_
 refine FJ.nil (FJ.then_ (FJ.seq (FJ.region (FJ.ql rfl (q_move rfl (.t (.s4 (.s .z)))) ?_))))
 refine FJ.ql rfl (q_add (c := ((n + (sumF cnt_DInode (List.take k x) : Int)) + 1) + 1) rfl (.t .z) .c (wr (by omega) (by omega) (by omega))) ?_
 refine FJ.er (.s4 (.s (.s (.s .z)))) (FJ.ql rfl (q_assign rfl (.t .z)) (FJ.nil (FJ.then_ (FJ.seq ?_))))
 refine FJ.region (FJ.ql rfl (q_move rfl (.t (.s16 (.s4 (.s .z))))) (FJ.ql rfl (q_move rfl (.t (.s16 (.s4 .z)))) (FJ.ql rfl (q_move rfl (.t (.s (.s .z)))) ?_)))
 refine FJ.ql rfl (q_indexAddr (j := k) rfl u_24 sz_66 (.t (.s (.s .z))) (.t (.s .z)) rfl (by omega)) ?_
 refine FJ.ql rfl (q_fieldAddr rfl (.t .z) (fun _ => fa_66_2 _ _)) ?_
 refine FJ.es (goes_list rfl) rfl (es_raw (j := k) (off := 2) (cs := [.int .i64 (((n + (sumF cnt_DInode (List.take k x) : Int)) + 1) + 1)]) rfl sz_2 (.t .z) (add_add _ _ _) (.t (.s (.s .z))) rfl (ones rfl) .z (set_get hc4) (Nat.le_of_ble_eq_true rfl)) ?_
 refine FJ.ceq (x' := List.set css k [.int .i64 (n + (sumF cnt_DInode (List.take k x) : Int)), .int .i64 ((n + (sumF cnt_DInode (List.take k x) : Int)) + 1), .int .i64 (((n + (sumF cnt_DInode (List.take k x) : Int)) + 1) + 1), .slice Ao10 y5.blocks.length co10, .slice Ao11 y5.ents.length co11]) .z (List.set_set ..) ?_
 refine FJ.nil (FJ.then_ (FJ.seq (FJ.region (FJ.ql rfl (q_move rfl (.t (.s4 (.s .z)))) ?_))))
 refine FJ.ql rfl (q_add (c := (((n + (sumF cnt_DInode (List.take k x) : Int)) + 1) + 1) + 1) rfl (.t .z) .c (wr (by omega) (by omega) (by omega))) ?_
 refine FJ.er (.s4 (.s (.s (.s .z)))) (FJ.ql rfl (q_assign rfl (.t .z)) (FJ.nil (FJ.then_ (FJ.seq ?_))))
 refine FJ.region (FJ.ql rfl (q_move rfl (.t (.s16 (.s4 (.s4 (.s4 .z)))))) (FJ.ql rfl (q_move rfl (.t (.s16 (.s4 (.s4 (.s (.s (.s .z)))))))) ?_))
 refine FJ.ql rfl (q_indexAddr (j := k) rfl u_24 sz_66 (.t (.s .z)) (.t .z) rfl (by omega)) ?_
 refine FJ.ql rfl (q_fieldAddr rfl (.t .z) (fun _ => fa_66_3 _ _)) (FJ.ql rfl (q_load rfl ag_58 (.t .z) (WS.raw .z (set_get hc4) rfl)) (FJ.ql rfl (q_move rfl (.t (.s4 (.s .z)))) ?_))
 refine FJ.call (goes_list rfl) rfl (by decide) rfl (c_call rfl Tryz.func102 rfl rfl (args2 (.t (.s .z)) (.t .z))) (.c (.s .z) .n) (fun w1 S1 hs tr => c_102 _ hs (by omega) (by first | omega | (omega))) ?_
 rintro _ _ ⟨rfl, rfl⟩
 refine FJ.cat (.c .n) ?_
 refine FJ.er (.s4 (.s (.s (.s .z)))) (FJ.ql rfl (q_assign rfl (.t .z)) (FJ.nil (FJ.then_ (FJ.region ?_))))
 refine FJ.ql rfl (q_move rfl (.t (.s16 (.s16 (.s (.s (.s .z))))))) (FJ.ql rfl (q_move rfl (.t (.s16 (.s16 (.s (.s .z)))))) ?_)
 refine FJ.ql rfl (q_indexAddr (j := k) rfl u_24 sz_66 (.t (.s .z)) (.t .z) rfl (by omega)) ?_
 refine FJ.ql rfl (q_fieldAddr rfl (.t .z) (fun _ => fa_66_4 _ _)) (FJ.ql rfl (q_load rfl ag_64 (.t .z) (WS.raw (.s .z) (set_get hc4) rfl)) (FJ.ql rfl (q_move rfl (.t (.s4 (.s .z)))) ?_))
 refine FJ.call (goes_list rfl) rfl (by decide) rfl (c_call rfl Tryz.func103 rfl rfl (args2 (.t (.s .z)) (.t .z))) (.c (.s (.s .z)) .n) (fun w1 S1 hs tr => c_103 _ hs (by omega) (by first | omega | (omega))) ?_
 rintro _ _ ⟨rfl, rfl⟩
 refine FJ.cat (.c .n) ?_
 refine FJ.er (.s4 (.s (.s (.s .z)))) (FJ.ql rfl (q_assign rfl (.t .z)) (FJ.nil (FJ.inBN (FJ.then_ ?_))))
 refine FJ.region (FJ.ql rfl (q_move rfl (.t (.s16 (.s16 (.s4 (.s4 .z)))))) ?_)
 refine FJ.ql rfl (q_add (c := ((k + 1 : Nat) : Int)) rfl (.t .z) .c (wr (by omega) (by omega) (by omega))) ?_
 refine FJ.er (.s16 (.s16 (.s4 (.s4 (.s (.s .z)))))) (FJ.ql rfl (q_assign rfl (.t .z)) (FJ.nil ?_))
 refine FJ.turns (c := ownA kT_66 (mark_DInode (n + (sumF cnt_DInode (List.take k x) : Int)) y5) [.int .i64 (n + (sumF cnt_DInode (List.take k x) : Int)), .int .i64 ((n + (sumF cnt_DInode (List.take k x) : Int)) + 1), .int .i64 (((n + (sumF cnt_DInode (List.take k x) : Int)) + 1) + 1), .slice Ao10 y5.blocks.length co10, .slice Ao11 y5.ents.length co11]) (.c (.s .z) (.c .z .n)) (fun w S h => kT_66_omk (mark_DInode (n + (sumF cnt_DInode (List.take k x) : Int)) y5) h) ?_
 refine FJ.turns (c := seqC kT_66 (markL cnt_DInode mark_DInode n (List.take (k + 1) x)) (List.take (k + 1) (List.set css k [.int .i64 (n + (sumF cnt_DInode (List.take k x) : Int)), .int .i64 ((n + (sumF cnt_DInode (List.take k x) : Int)) + 1), .int .i64 (((n + (sumF cnt_DInode (List.take k x) : Int)) + 1) + 1), .slice Ao10 y5.blocks.length co10, .slice Ao11 y5.ents.length co11]))) (.c (.s (.s (.s .z))) (.c .z .n)) (seq_snoc' (by rw [markL_len, List.length_take, List.length_take, hlcss]) (by rw [markL_take _ hy5]) (take_set hc4)) ?_
 refine FJ.turns (c := seqC kT_66 (List.drop (k + 1) x) (List.drop (k + 1) (List.set css k [.int .i64 (n + (sumF cnt_DInode (List.take k x) : Int)), .int .i64 ((n + (sumF cnt_DInode (List.take k x) : Int)) + 1), .int .i64 (((n + (sumF cnt_DInode (List.take k x) : Int)) + 1) + 1), .slice Ao10 y5.blocks.length co10, .slice Ao11 y5.ents.length co11]))) (.c (.s (.s .z)) .n) (fun w S h => seq_same rfl drop_set w S (h.head (c := seqC _ _ _))) ?_
 refine FJ.again ((k + 1), List.set css k [.int .i64 (n + (sumF cnt_DInode (List.take k x) : Int)), .int .i64 ((n + (sumF cnt_DInode (List.take k x) : Int)) + 1), .int .i64 (((n + (sumF cnt_DInode (List.take k x) : Int)) + 1) + 1), .slice Ao10 y5.blocks.length co10, .slice Ao11 y5.ents.length co11]) ⟨by omega, by rw [List.length_set]; exact hlcss⟩ (by first | omega | (dsimp only; omega)) (.c .z (.c (.s16 (.s16 (.s4 (.s4 (.s (.s (.s .z))))))) (.c (.s16 (.s16 (.s4 (.s4 (.s4 .z))))) (.e (.s (.s (.s .z))) (congrArg (Value.int .i64) (by omega)) .n)))) (fun _ h => h.sel (.c (.s .z) (.c (.s .z) (.c .z .n))))
 refine FJ.exit (FJ.thenE (FJ.thenE (FJ.inB (FJ.then_ ?_))))
 refine FJ.seq (FJ.region (FJ.ql rfl (q_move rfl (.t (.s4 (.s (.s (.s .z)))))) (FJ.er (.s4 (.s (.s .z))) (FJ.ql rfl (q_assign rfl (.t .z)) ?_))))
 refine FJ.nil (FJ.then_ (FJ.ret ?_))
 refine FJ.turns (c := ownA kSl_66 ((markL cnt_DInode mark_DInode) n x) [.slice Ao1 x.length co1]) (.c (.s .z) (.c .z .n)) (raw_own' (by rw [markL_len, hlcss]) (by rw [List.take_of_length_le (by omega)]) (by rw [List.take_of_length_le (by omega)])) ?_
 refine FJ.doneS (res1 rfl .z) (.c .z .n) ?_
 exact ⟨by rw [sumF_all _ (by omega)], rfl⟩

set_option maxHeartbeats 1000000 in
set_option maxRecDepth 20000 in
theorem c_51 {w0 : World} {S0 : Bs} {x : (List UInt8)} {v0 : Value} (n : Int) (hs : Star [ownA kSl_5 x [v0]] w0 S0) (hn0 : 0 ≤ n) (hn1 : n + (x.length : Int) ≤ 4611686018427387904) :
    Calls Tryz.prog 51 #[v0, .int .i64 n] w0 (TriPost w0 S0 (fun r l => r = .int .i64 (n + (x.length : Int)) ∧ l = [ownA kSl_5 ((markL (fun _ => 1) (fun m _ => mbyte m)) n x) [v0]])) := by
 refine FJ.enter (N := 20) Tryz.func51 rfl rfl (by simp) [(0, v0), (1, .int .i64 n)] (by simp) hs ?_
 refine FJ.know (WS.oform .z) ?_
 rintro ⟨Ao1, co1, rfl, hlo1, hmo1, hbo1⟩
 refine FJ.seq (FJ.region (FJ.ql rfl (q_assign rfl .c) (FJ.nil (FJ.then_ ?_))))
 refine FJ.seq (FJ.seq (FJ.region (FJ.ql rfl (q_assign rfl .c) (FJ.nil ?_))))
 refine FJ.then_ (FJ.block ?_)
 refine FJ.ceq .z (markS_zero (fun m _ => mbyte m) n x) ?_
 refine FJ.loopi (γ := Nat) (fun k => [(5, .int .i64 (k : Int)), (4, .int .i64 0), (0, .slice Ao1 x.length co1), (1, .int .i64 (n + (k : Int)))]) (fun k => [ownA kSl_5 (markS (fun m _ => mbyte m) n x k) [.slice Ao1 x.length co1]]) (fun k => k ≤ x.length) (fun k => x.length - k) 0 (Nat.zero_le _) (.c .z (.c (.s .z) (.c (.s (.s .z)) (.e (.s (.s (.s .z))) (congrArg (Value.int .i64) (by omega)) .n)))) (fun _ h => h.sel (.c .z .n)) ?_
 rintro k hk
 refine FJ.seq (FJ.seq (FJ.region (FJ.ql rfl (q_move rfl (.t .z)) (FJ.ql rfl (q_move rfl (.t (.s (.s (.s .z))))) ?_))))
 refine FJ.ql rfl (q_len rfl u_39 (.t .z)) (FJ.ql rfl (q_lss rfl (.t (.s (.s .z))) (.t .z)) (FJ.nil (FJ.then_ ?_)))
 refine FJ.condP (.t .z) (fun b2 => ?_) (fun b2 => ?_)
 refine FJ.skip (FJ.then_ (FJ.seq (FJ.block (FJ.seq ?_))))
 refine FJ.region (FJ.ql rfl (q_move rfl (.t (.s4 (.s (.s .z))))) (FJ.ql rfl (q_move rfl (.t (.s4 (.s .z)))) (FJ.ql rfl (q_move rfl (.t (.s4 (.s4 (.s .z))))) (FJ.ql rfl (q_conv (c := ((mbyte (n + (k : Int))).toNat : Int)) rfl (.t .z) u_3 u_5 (mbyte_wrap _)) ?_))))
 refine FJ.know (WS.oad .z (by rw [markS_len (by omega)]; omega)) ?_
 rintro ⟨ad3, rfl⟩
 refine FJ.ql rfl (q_indexAddr (j := k) rfl u_39 sz_5 (.t (.s (.s (.s .z)))) (.t (.s (.s .z))) rfl (by first | omega | (rw [markS_len (by omega)]; omega))) ?_
 refine FJ.add (c := ownA kbyte (mbyte (n + (k : Int))) [.int .u8 ((mbyte (n + (k : Int))).toNat : Int)]) (fun _ _ => ⟨rfl, trivial⟩) ?_
 refine FJ.es (goes_list rfl) rfl (es_set (j := k) rfl sz_5 (.t .z) (.t (.s .z)) rfl (.c (.s .z) (.c .z .n)) (by first | omega | (rw [markS_len (by omega)]; omega))) ?_
 obtain ⟨y, hy⟩ := get_ex (xs := x) (j := k) (by omega)
 refine FJ.ceq .z (markS_set (mk := (fun m _ => mbyte m)) hy) ?_
 refine FJ.nil (FJ.then_ (FJ.region (FJ.ql rfl (q_move rfl (.t (.s4 (.s4 (.s4 .z))))) ?_)))
 refine FJ.ql rfl (q_add (c := (n + (k : Int)) + 1) rfl (.t .z) .c (wr (by omega) (by omega) (by omega))) ?_
 refine FJ.er (.s4 (.s4 (.s4 (.s (.s .z))))) (FJ.ql rfl (q_assign rfl (.t .z)) (FJ.nil (FJ.inBN (FJ.then_ ?_))))
 refine FJ.region (FJ.ql rfl (q_move rfl (.t (.s4 (.s4 (.s4 .z))))) ?_)
 refine FJ.ql rfl (q_add (c := ((k + 1 : Nat) : Int)) rfl (.t .z) .c (wr (by omega) (by omega) (by omega))) ?_
 refine FJ.er (.s4 (.s4 (.s4 (.s (.s .z))))) (FJ.ql rfl (q_assign rfl (.t .z)) (FJ.nil ?_))
 refine FJ.again (k + 1) (by omega) (by first | omega | (dsimp only; omega)) (.c .z (.c (.s4 (.s4 (.s4 (.s (.s (.s .z)))))) (.c (.s16 .z) (.e (.s (.s (.s .z))) (congrArg (Value.int .i64) (by omega)) .n)))) (fun _ h => h.sel (.c .z .n))
 refine FJ.exit (FJ.thenE (FJ.thenE (FJ.inB (FJ.then_ ?_))))
 refine FJ.seq (FJ.region (FJ.ql rfl (q_move rfl (.t (.s4 (.s (.s (.s .z)))))) (FJ.er (.s4 (.s (.s .z))) (FJ.ql rfl (q_assign rfl (.t .z)) ?_))))
 refine FJ.nil (FJ.then_ (FJ.ret ?_))
 refine FJ.ceq .z (markS_all (by omega)) ?_
 refine FJ.doneS (res1 rfl .z) (.c .z .n) ?_
 exact ⟨congrArg (Value.int .i64) (by omega), rfl⟩

set_option maxHeartbeats 1000000 in
set_option maxRecDepth 20000 in
theorem c_16 {w0 : World} {S0 : Bs} {x : (List (List UInt8))} {v0 : Value} (n : Int) (hs : Star [ownA kSl_39 x [v0]] w0 S0) (hn0 : 0 ≤ n) (hn1 : n + ((sumF (fun x => x.length) x) : Int) ≤ 4611686018427387904) :
    Calls Tryz.prog 16 #[v0, .int .i64 n] w0 (TriPost w0 S0 (fun r l => r = .int .i64 (n + ((sumF (fun x => x.length) x) : Int)) ∧ l = [ownA kSl_39 ((markL (fun x => x.length) (markL (fun _ => 1) (fun m _ => mbyte m))) n x) [v0]])) := by
 refine FJ.enter (N := 19) Tryz.func16 rfl rfl (by simp) [(0, v0), (1, .int .i64 n)] (by simp) hs ?_
 refine FJ.know (WS.oform .z) ?_
 rintro ⟨Ao1, co1, rfl, hlo1, hmo1, hbo1⟩
 refine FJ.open (.c .z .n) own_raw ?_
 rintro css hlcss
 refine FJ.add (c := seqC kSl_5 [] []) seqC_nil ?_
 refine FJ.seq (FJ.region (FJ.ql rfl (q_assign rfl .c) (FJ.nil (FJ.then_ ?_))))
 refine FJ.seq (FJ.seq (FJ.region (FJ.ql rfl (q_assign rfl .c) (FJ.nil ?_))))
 refine FJ.then_ (FJ.block ?_)
 refine FJ.loopi (γ := Nat) (fun k => [(5, .int .i64 (k : Int)), (4, .int .i64 0), (0, .slice Ao1 x.length co1), (1, .int .i64 (n + (sumF (fun x => x.length) (List.take k x) : Int)))]) (fun k => [seqC kSl_5 (markL (fun x => x.length) (markL (fun _ => 1) (fun m _ => mbyte m)) n (List.take k x)) (List.take k css), ownA (kslice 39 24 (kraw kSl_5.sz kSl_5.pos)) css [.slice Ao1 x.length co1], seqC kSl_5 (List.drop k x) (List.drop k css)]) (fun k => k ≤ x.length) (fun k => x.length - k) 0 (Nat.zero_le _) (.c .z (.c (.s .z) (.c (.s (.s .z)) (.e (.s (.s (.s .z))) (congrArg (Value.int .i64) (by simp only [List.take_zero, sumF]; omega)) .n)))) (fun _ h => h.sel (.c .z (.c .z (.c .z .n)))) ?_
 rintro k hk
 have hle := sumF_le (f := (fun x => x.length)) (xs := x) (k := k)
 refine FJ.seq (FJ.seq (FJ.region (FJ.ql rfl (q_move rfl (.t .z)) (FJ.ql rfl (q_move rfl (.t (.s (.s (.s .z))))) ?_))))
 refine FJ.ql rfl (q_len rfl u_22 (.t .z)) (FJ.ql rfl (q_lss rfl (.t (.s (.s .z))) (.t .z)) (FJ.nil (FJ.then_ ?_)))
 refine FJ.condP (.t .z) (fun b2 => ?_) (fun b2 => ?_)
 refine FJ.skip (FJ.then_ (FJ.seq (FJ.block (FJ.region ?_))))
 refine FJ.ql rfl (q_move rfl (.t (.s4 (.s (.s .z))))) (FJ.ql rfl (q_move rfl (.t (.s4 (.s .z)))) ?_)
 refine FJ.know (WS.oad (.s .z) (by omega)) ?_
 rintro ⟨ad3, rfl⟩
 obtain ⟨c4, hc4⟩ := get_ex (xs := css) (j := k) (by omega)
 obtain ⟨y5, hy5⟩ := get_ex (xs := x) (j := k) (by omega)
 refine FJ.turn (.s (.s .z)) (seq_pop hy5 hc4) ?_
 refine FJ.know (WS.osl1 .z) ?_
 rintro ⟨vl6, rfl⟩
 refine FJ.know (WS.oform .z) ?_
 rintro ⟨Ao7, co7, rfl, hlo7, hmo7, hbo7⟩
 have gy5 := sumF_get (fun x => x.length) hy5
 have ty5 := sumF_take (fun x => x.length) hy5
 try simp only at gy5 ty5
 refine FJ.ql rfl (q_indexAddr (j := k) rfl u_22 sz_39 (.t (.s .z)) (.t .z) rfl (by omega)) ?_
 refine FJ.ql rfl (q_load rfl ag_39 (.t .z) (WS.raw0 (.s (.s (.s .z))) hc4 rfl)) (FJ.ql rfl (q_move rfl (.t (.s4 (.s4 (.s (.s (.s .z))))))) ?_)
 refine FJ.call (goes_list rfl) rfl (by decide) rfl (c_call rfl Tryz.func51 rfl rfl (args2 (.t (.s .z)) (.t .z))) (.c .z .n) (fun w1 S1 hs tr => c_51 _ hs (by omega) (by first | omega | (omega))) ?_
 rintro _ _ ⟨rfl, rfl⟩
 refine FJ.cat (.c .n) ?_
 refine FJ.er (.s4 (.s4 (.s4 (.s .z)))) (FJ.ql rfl (q_assign rfl (.t .z)) (FJ.nil (FJ.inBN (FJ.then_ ?_))))
 refine FJ.region (FJ.ql rfl (q_move rfl (.t (.s4 (.s4 (.s (.s (.s .z))))))) ?_)
 refine FJ.ql rfl (q_add (c := ((k + 1 : Nat) : Int)) rfl (.t .z) .c (wr (by omega) (by omega) (by omega))) ?_
 refine FJ.er (.s4 (.s4 (.s4 (.s .z)))) (FJ.ql rfl (q_assign rfl (.t .z)) (FJ.nil ?_))
 refine FJ.turns (c := seqC kSl_5 (markL (fun x => x.length) (markL (fun _ => 1) (fun m _ => mbyte m)) n (List.take (k + 1) x)) (List.take (k + 1) css)) (.c (.s (.s .z)) (.c .z .n)) (seq_snoc' (by rw [markL_len, List.length_take, List.length_take, hlcss]) (by rw [markL_take _ hy5]) (take_get hc4).symm) ?_
 refine FJ.again (k + 1) (by omega) (by first | omega | (dsimp only; omega)) (.c .z (.c (.s4 (.s4 (.s4 (.s (.s .z))))) (.c (.s4 (.s4 (.s4 (.s (.s (.s .z)))))) (.e (.s (.s (.s .z))) (congrArg (Value.int .i64) (by omega)) .n)))) (fun _ h => h.sel (.c .z (.c (.s .z) (.c .z .n))))
 refine FJ.exit (FJ.thenE (FJ.thenE (FJ.inB (FJ.then_ ?_))))
 refine FJ.seq (FJ.region (FJ.ql rfl (q_move rfl (.t (.s4 (.s (.s (.s .z)))))) (FJ.er (.s4 (.s (.s .z))) (FJ.ql rfl (q_assign rfl (.t .z)) ?_))))
 refine FJ.nil (FJ.then_ (FJ.ret ?_))
 refine FJ.turns (c := ownA kSl_39 ((markL (fun x => x.length) (markL (fun _ => 1) (fun m _ => mbyte m))) n x) [.slice Ao1 x.length co1]) (.c (.s .z) (.c .z .n)) (raw_own' (by rw [markL_len, hlcss]) (by rw [List.take_of_length_le (by omega)]) (by rw [List.take_of_length_le (by omega)])) ?_
 refine FJ.doneS (res1 rfl .z) (.c .z .n) ?_
 exact ⟨by rw [sumF_all _ (by omega)], rfl⟩

set_option maxHeartbeats 1000000 in
set_option maxRecDepth 20000 in
theorem c_25 {w0 : World} {S0 : Bs} {x : DFs} {v0_0 : Value} {v0_1 : Value} (n : Int) (hs : Star [ownA kSl_66 x.inodes [v0_0], ownA kSl_39 x.data [v0_1]] w0 S0) (hn0 : 0 ≤ n) (hn1 : n + ((vcnt_DFs x) : Int) ≤ 4611686018427387904) :
    Calls Tryz.prog 25 #[.agg #[v0_0, v0_1], .int .i64 n] w0 (TriPost w0 S0 (fun r l => r = .int .i64 (n + ((vcnt_DFs x) : Int)) ∧ l = [ownA kSl_66 (vmark_DFs n x).inodes [v0_0], ownA kSl_39 (vmark_DFs n x).data [v0_1]])) := by
 simp only [vcnt_DFs] at hn1
 refine FJ.enter (N := 14) Tryz.func25 rfl rfl (by simp) [(0, .agg #[v0_0, v0_1]), (1, .int .i64 n)] (by simp) hs ?_
 refine FJ.know (WS.oform .z) ?_
 rintro ⟨Ao1, co1, rfl, hlo1, hmo1, hbo1⟩
 refine FJ.know (WS.oform (.s .z)) ?_
 rintro ⟨Ao2, co2, rfl, hlo2, hmo2, hbo2⟩
 refine FJ.seq (FJ.region ?_)
 refine FJ.e (goes_list rfl) rfl (by decide) rfl (e_box (cs := [.slice Ao1 x.inodes.length co1, .slice Ao2 x.data.length co2]) (n := 2) rfl (.t .z) rfl rfl) ?_
 rintro _ _ ⟨g3, rfl, rfl⟩
 refine FJ.ql rfl (q_assign rfl .c) (FJ.nil (FJ.then_ (FJ.seq (FJ.region ?_))))
 refine FJ.ql rfl (q_fieldAddr rfl (.t (.s .z)) (fun _ => fa_26_0 _ _)) (FJ.ql rfl (q_load rfl ag_24 (.t .z) (WS.row .z rfl)) (FJ.ql rfl (q_move rfl (.t (.s4 (.s .z)))) ?_))
 refine FJ.call (goes_list rfl) rfl (by decide) rfl (c_call rfl Tryz.func60 rfl rfl (args2 (.t (.s .z)) (.t .z))) (.c (.s .z) .n) (fun w1 S1 hs tr => c_60 _ hs (by omega) (by first | omega | (omega))) ?_
 rintro _ _ ⟨rfl, rfl⟩
 refine FJ.cat (.c .n) ?_
 refine FJ.er (.s4 (.s (.s (.s .z)))) (FJ.ql rfl (q_assign rfl (.t .z)) (FJ.nil (FJ.then_ (FJ.seq ?_))))
 refine FJ.region (FJ.ql rfl (q_fieldAddr rfl (.t (.s4 (.s (.s .z)))) (fun _ => fa_26_1 _ _)) (FJ.ql rfl (q_load rfl ag_22 (.t .z) (WS.row (.s .z) rfl)) (FJ.ql rfl (q_move rfl (.t (.s (.s .z)))) ?_)))
 refine FJ.call (goes_list rfl) rfl (by decide) rfl (c_call rfl Tryz.func16 rfl rfl (args2 (.t (.s .z)) (.t .z))) (.c (.s (.s .z)) .n) (fun w1 S1 hs tr => c_16 _ hs (by omega) (by first | omega | (omega))) ?_
 rintro _ _ ⟨rfl, rfl⟩
 refine FJ.cat (.c .n) ?_
 refine FJ.er (.s4 .z) (FJ.ql rfl (q_assign rfl (.t .z)) (FJ.nil (FJ.then_ (FJ.seq ?_))))
 refine FJ.region (FJ.ql rfl (q_move rfl (.t .z)) (FJ.er (.s4 (.s4 (.s (.s .z)))) (FJ.ql rfl (q_assign rfl (.t .z)) (FJ.nil ?_))))
 refine FJ.then_ (FJ.ret ?_)
 refine FJ.doneS (res1 rfl .z) (.c (.s .z) (.c .z .n)) ?_
 exact ⟨congrArg (Value.int .i64) (by simp only [vcnt_DFs]; omega), rfl⟩

set_option maxHeartbeats 1000000 in
set_option maxRecDepth 20000 in
theorem c_17 {w0 : World} {S0 : Bs} {x : RFs} {v0_1 : Value} {v0_2 : Value} (n : Int) (hs : Star [ownA kSl_66 x.fs.inodes [v0_1], ownA kSl_39 x.fs.data [v0_2]] w0 S0) (hn0 : 0 ≤ n) (hn1 : n + ((vcnt_RFs x) : Int) ≤ 4611686018427387904) :
    Calls Tryz.prog 17 #[.agg #[.int .i64 x.code, v0_1, v0_2], .int .i64 n] w0 (TriPost w0 S0 (fun r l => r = .int .i64 (n + ((vcnt_RFs x) : Int)) ∧ l = [ownA kSl_66 (vmark_RFs n x).fs.inodes [v0_1], ownA kSl_39 (vmark_RFs n x).fs.data [v0_2]])) := by
 simp only [vcnt_RFs] at hn1
 refine FJ.enter (N := 10) Tryz.func17 rfl rfl (by simp) [(0, .agg #[.int .i64 x.code, v0_1, v0_2]), (1, .int .i64 n)] (by simp) hs ?_
 refine FJ.know (WS.oform .z) ?_
 rintro ⟨Ao1, co1, rfl, hlo1, hmo1, hbo1⟩
 refine FJ.know (WS.oform (.s .z)) ?_
 rintro ⟨Ao2, co2, rfl, hlo2, hmo2, hbo2⟩
 refine FJ.seq (FJ.region ?_)
 refine FJ.e (goes_list rfl) rfl (by decide) rfl (e_box (cs := [.int .i64 x.code, .slice Ao1 x.fs.inodes.length co1, .slice Ao2 x.fs.data.length co2]) (n := 3) rfl (.t .z) rfl rfl) ?_
 rintro _ _ ⟨g3, rfl, rfl⟩
 refine FJ.ql rfl (q_assign rfl .c) (FJ.nil (FJ.then_ (FJ.seq (FJ.region ?_))))
 refine FJ.ql rfl (q_fieldAddr rfl (.t (.s .z)) (fun _ => fa_28_1 _ _)) (FJ.ql rfl (q_loadA (cs := [.slice Ao1 x.fs.inodes.length co1, .slice Ao2 x.fs.data.length co2]) rfl ag_26 sz_26 (.t .z) (WS.rows .z (sub_at rfl))) (FJ.ql rfl (q_move rfl (.t (.s4 (.s .z)))) ?_))
 refine FJ.call (goes_list rfl) rfl (by decide) rfl (c_call rfl Tryz.func25 rfl rfl (args2 (.t (.s .z)) (.t .z))) (.c (.s .z) (.c (.s .z) .n)) (fun w1 S1 hs tr => c_25 _ hs (by omega) (by first | omega | (omega))) ?_
 rintro _ _ ⟨rfl, rfl⟩
 refine FJ.cat (.c (.c .n)) ?_
 refine FJ.er (.s4 (.s (.s (.s .z)))) (FJ.ql rfl (q_assign rfl (.t .z)) (FJ.nil (FJ.then_ (FJ.seq ?_))))
 refine FJ.region (FJ.ql rfl (q_move rfl (.t .z)) (FJ.er (.s4 (.s (.s .z))) (FJ.ql rfl (q_assign rfl (.t .z)) (FJ.nil ?_))))
 refine FJ.then_ (FJ.ret ?_)
 refine FJ.doneS (res1 rfl .z) (.c .z (.c .z .n)) ?_
 exact ⟨congrArg (Value.int .i64) (by simp only [vcnt_RFs]; omega), rfl⟩

set_option maxHeartbeats 1000000 in
set_option maxRecDepth 20000 in
theorem c_133 {w0 : World} {S0 : Bs} {y : (List Int)} {v0 : Value} (h0 : kSl_2.ro w0 (FF w0 S0) y [v0]) (n : Int) (x : (List Int)) (e0 : y = ((markL (fun _ => 1) (fun m _ => m)) n x)) (hn0 : 0 ≤ n) (hn1 : n + (x.length : Int) ≤ 4611686018427387904) :
    Calls Tryz.prog 133 #[v0, .int .i64 n] w0 (TriPost w0 S0 (fun r l => r = .int .i64 (n + (x.length : Int)) ∧ l = [])) := by
 obtain ⟨A0, c0, rfl, hl0, hm0, hb0, he0⟩ := ro_form h0
 have hl := markE_len e0
 refine FJ.enter (N := 21) Tryz.func133 rfl rfl (by simp) [(0, .slice A0 y.length c0), (1, .int .i64 n)] (by simp) (l0 := []) trivial ?_
 refine FJ.seq (FJ.region (FJ.ql rfl (q_assign rfl .c) (FJ.nil (FJ.then_ ?_))))
 refine FJ.seq (FJ.seq (FJ.region (FJ.ql rfl (q_assign rfl .c) (FJ.nil ?_))))
 refine FJ.then_ (FJ.block ?_)
 refine FJ.loopi (γ := Nat) (fun k => [(5, .int .i64 (k : Int)), (0, .slice A0 y.length c0), (1, .int .i64 (n + (k : Int)))]) (fun k => []) (fun k => k ≤ y.length) (fun k => y.length - k) 0 (Nat.zero_le _) (.c .z (.c (.s (.s .z)) (.e (.s (.s (.s .z))) (congrArg (Value.int .i64) (by omega)) .n))) (fun _ h => h) ?_
 rintro k hk
 refine FJ.seq (FJ.seq (FJ.region (FJ.ql rfl (q_move rfl (.t .z)) (FJ.ql rfl (q_move rfl (.t (.s (.s .z)))) ?_))))
 refine FJ.ql rfl (q_len rfl u_58 (.t .z)) (FJ.ql rfl (q_lss rfl (.t (.s (.s .z))) (.t .z)) (FJ.nil (FJ.then_ ?_)))
 refine FJ.condP (.t .z) (fun b2 => ?_) (fun b2 => ?_)
 refine FJ.skip (FJ.then_ (FJ.seq (FJ.block (FJ.seq ?_))))
 refine FJ.seq (FJ.region (FJ.ql rfl (q_move rfl (.t (.s4 (.s .z)))) (FJ.ql rfl (q_move rfl (.t (.s4 (.s .z)))) ?_)))
 obtain ⟨ad3, hAad3, hrad3⟩ := he0 (by omega)
 subst hAad3
 obtain ⟨x4, hx4⟩ := get_ex (xs := y) (j := k) (by omega)
 obtain ⟨ece5, hre5, hFe5, hce5⟩ := hrad3.elem hx4
 obtain ⟨rfl, se5⟩ := hre5
 refine FJ.ql rfl (q_indexAddr (j := k) rfl u_58 sz_2 (.t (.s .z)) (.t .z) rfl (by omega)) ?_
 refine FJ.ql rfl (q_load rfl ag_2 (.t .z) (WS.el0 hFe5 hce5 rfl)) (FJ.ql rfl (q_move rfl (.t (.s4 (.s4 (.s (.s .z)))))) (FJ.ql rfl (q_neq rfl (.t (.s .z)) (.t .z)) (FJ.nil (FJ.then_ ?_))))
 refine FJ.condN (.t .z) (fun b6 => ?_) (fun b6 => ?_)
 exfalso
 obtain ⟨z, hz⟩ := markS_get e0 hx4
 exact b6 hz
 refine FJ.skip (FJ.then_ (FJ.region (FJ.ql rfl (q_move rfl (.t (.s4 (.s4 (.s4 .z))))) ?_)))
 refine FJ.ql rfl (q_add (c := (n + (k : Int)) + 1) rfl (.t .z) .c (wr (by omega) (by omega) (by omega))) ?_
 refine FJ.er (.s4 (.s4 (.s4 (.s (.s .z))))) (FJ.ql rfl (q_assign rfl (.t .z)) (FJ.nil (FJ.inBN (FJ.then_ ?_))))
 refine FJ.region (FJ.ql rfl (q_move rfl (.t (.s4 (.s4 (.s4 (.s .z)))))) ?_)
 refine FJ.ql rfl (q_add (c := ((k + 1 : Nat) : Int)) rfl (.t .z) .c (wr (by omega) (by omega) (by omega))) ?_
 refine FJ.er (.s4 (.s4 (.s4 (.s (.s (.s .z)))))) (FJ.ql rfl (q_assign rfl (.t .z)) (FJ.nil ?_))
 refine FJ.again (k + 1) (by omega) (by first | omega | (dsimp only; omega)) (.c .z (.c (.s16 .z) (.e (.s (.s (.s .z))) (congrArg (Value.int .i64) (by omega)) .n))) (fun _ h => h)
 refine FJ.exit (FJ.thenE (FJ.thenE (FJ.inB (FJ.then_ ?_))))
 refine FJ.seq (FJ.region (FJ.ql rfl (q_move rfl (.t (.s4 (.s (.s .z))))) (FJ.ql rfl (q_assign rfl (.t .z)) (FJ.nil ?_))))
 refine FJ.then_ (FJ.ret ?_)
 refine FJ.doneS (res1 rfl .z) .n ?_
 exact ⟨congrArg (Value.int .i64) (by omega), rfl⟩

set_option maxHeartbeats 1000000 in
set_option maxRecDepth 20000 in
theorem c_134 {w0 : World} {S0 : Bs} {y : (List DEnt)} {v0 : Value} (h0 : kSl_68.ro w0 (FF w0 S0) y [v0]) (n : Int) (x : (List DEnt)) (e0 : y = ((markL cnt_DEnt mark_DEnt) n x)) (hn0 : 0 ≤ n) (hn1 : n + ((sumF cnt_DEnt x) : Int) ≤ 4611686018427387904) :
    Calls Tryz.prog 134 #[v0, .int .i64 n] w0 (TriPost w0 S0 (fun r l => r = .int .i64 (n + ((sumF cnt_DEnt x) : Int)) ∧ l = [])) := by
 obtain ⟨A0, c0, rfl, hl0, hm0, hb0, he0⟩ := ro_form h0
 have hl := markE_len e0
 refine FJ.enter (N := 32) Tryz.func134 rfl rfl (by simp) [(0, .slice A0 y.length c0), (1, .int .i64 n)] (by simp) (l0 := []) trivial ?_
 refine FJ.seq (FJ.region (FJ.ql rfl (q_assign rfl .c) (FJ.nil (FJ.then_ ?_))))
 refine FJ.seq (FJ.seq (FJ.region (FJ.ql rfl (q_assign rfl .c) (FJ.nil ?_))))
 refine FJ.then_ (FJ.block ?_)
 refine FJ.loopi (γ := Nat) (fun k => [(5, .int .i64 (k : Int)), (0, .slice A0 y.length c0), (1, .int .i64 (n + (sumF cnt_DEnt (List.take k x) : Int)))]) (fun k => []) (fun k => k ≤ y.length) (fun k => y.length - k) 0 (Nat.zero_le _) (.c .z (.c (.s (.s .z)) (.e (.s (.s (.s .z))) (congrArg (Value.int .i64) (by simp only [List.take_zero, sumF]; omega)) .n))) (fun _ h => h) ?_
 rintro k hk
 have hle := sumF_le (f := cnt_DEnt) (xs := x) (k := k)
 refine FJ.seq (FJ.seq (FJ.region (FJ.ql rfl (q_move rfl (.t .z)) (FJ.ql rfl (q_move rfl (.t (.s (.s .z)))) ?_))))
 refine FJ.ql rfl (q_len rfl u_64 (.t .z)) (FJ.ql rfl (q_lss rfl (.t (.s (.s .z))) (.t .z)) (FJ.nil (FJ.then_ ?_)))
 refine FJ.condP (.t .z) (fun b2 => ?_) (fun b2 => ?_)
 refine FJ.skip (FJ.then_ (FJ.seq (FJ.block (FJ.seq ?_))))
 refine FJ.seq ?_
 refine FJ.draw [] 8 (by kernel_rfl) ?_
 refine FJ.sch [(0, true), (1, true), (2, true), (3, true), (4, true), (5, true), (6, false), (7, true)] 0 #[true, true, true, true, true, true, true, true] (by rfl) (by kernel_rfl) ?_
 refine FJ.dq rfl rfl rfl (by decide) rfl .z (q_move rfl (.t (.s4 (.s .z)))) (FJ.dq rfl rfl rfl (by decide) rfl .z (q_move rfl (.t (.s4 (.s .z)))) ?_)
 obtain ⟨ad3, hAad3, hrad3⟩ := he0 (by omega)
 subst hAad3
 obtain ⟨x4, hx4⟩ := get_ex (xs := y) (j := k) (by omega)
 obtain ⟨ece5, hre5, hFe5, hce5⟩ := hrad3.elem hx4
 obtain ⟨rfl, se5_0⟩ := kT_68_ro hre5
 obtain ⟨z6, hz6, ez6⟩ := markE_get e0 hx4
 have gz6 := sumF_get cnt_DEnt hz6
 have tz6 := sumF_take cnt_DEnt hz6
 simp only [cnt_DEnt] at gz6 tz6
 refine FJ.dq rfl rfl rfl (by decide) rfl .z (q_indexAddr (j := k) rfl u_64 sz_68 (.t (.s .z)) (.t .z) rfl (by omega)) ?_
 refine FJ.dq rfl rfl rfl (by decide) rfl .z (q_fieldAddr rfl (.t .z) (fun _ => fa_68_0 _ _)) (FJ.dq rfl rfl rfl (by decide) rfl .z (q_load rfl ag_9 (.t .z) (WS.el hFe5 hce5 rfl)) (FJ.dq rfl rfl rfl (by decide) rfl .z (q_move rfl (.t (.s4 (.s4 (.s (.s (.s .z))))))) ?_))
 refine FJ.call (goes_sch rfl rfl) rfl (by decide) rfl (c_call rfl Tryz.func141 rfl rfl (args1 (.t .z))) .n (fun w1 S1 hs tr => c_141 _ (by omega)) ?_
 rintro _ _ ⟨rfl, rfl⟩
 refine FJ.cat .n ?_
 refine FJ.sk .z ?_
 refine FJ.dq rfl rfl rfl (by decide) rfl .z (q_sneq rfl (.t (.s (.s .z))) (.t .z)) (FJ.schN ?_)
 refine FJ.drawN (by kernel_rfl) ?_
 refine FJ.then_ ?_
 refine FJ.condN (.t .z) (fun b7 => ?_) (fun b7 => ?_)
 exact absurd (by rw [ez6]; first | rfl | (simp only [mark_DEnt]; omega)) b7
 refine FJ.skip (FJ.then_ (FJ.seq (FJ.region (FJ.ql rfl (q_move rfl (.t (.s4 (.s4 (.s4 (.s (.s .z))))))) ?_))))
 refine FJ.ql rfl (q_add (c := (n + (sumF cnt_DEnt (List.take k x) : Int)) + 1) rfl (.t .z) .c (wr (by omega) (by omega) (by omega))) ?_
 refine FJ.er (.s16 .z) (FJ.ql rfl (q_assign rfl (.t .z)) (FJ.nil (FJ.then_ (FJ.seq ?_))))
 refine FJ.seq (FJ.region (FJ.ql rfl (q_move rfl (.t (.s16 .z))) (FJ.ql rfl (q_move rfl (.t (.s16 .z))) ?_)))
 refine FJ.ql rfl (q_indexAddr (j := k) rfl u_64 sz_68 (.t (.s .z)) (.t .z) rfl (by omega)) ?_
 refine FJ.ql rfl (q_fieldAddr rfl (.t .z) (fun _ => fa_68_1 _ _)) (FJ.ql rfl (q_load rfl ag_2 (.t .z) (WS.el hFe5 hce5 rfl)) (FJ.ql rfl (q_move rfl (.t (.s4 (.s .z)))) (FJ.ql rfl (q_neq rfl (.t (.s .z)) (.t .z)) (FJ.nil ?_))))
 refine FJ.then_ ?_
 refine FJ.condN (.t .z) (fun b8 => ?_) (fun b8 => ?_)
 exact absurd (by rw [ez6]; first | rfl | (simp only [mark_DEnt]; omega)) b8
 refine FJ.skip (FJ.then_ (FJ.region (FJ.ql rfl (q_move rfl (.t (.s4 (.s (.s (.s .z)))))) ?_)))
 refine FJ.ql rfl (q_add (c := ((n + (sumF cnt_DEnt (List.take k x) : Int)) + 1) + 1) rfl (.t .z) .c (wr (by omega) (by omega) (by omega))) ?_
 refine FJ.er (.s4 (.s4 (.s .z))) (FJ.ql rfl (q_assign rfl (.t .z)) (FJ.nil (FJ.inBN (FJ.then_ ?_))))
 refine FJ.region (FJ.ql rfl (q_move rfl (.t (.s16 (.s4 (.s4 .z))))) ?_)
 refine FJ.ql rfl (q_add (c := ((k + 1 : Nat) : Int)) rfl (.t .z) .c (wr (by omega) (by omega) (by omega))) ?_
 refine FJ.er (.s16 (.s4 (.s4 (.s (.s .z))))) (FJ.ql rfl (q_assign rfl (.t .z)) (FJ.nil ?_))
 refine FJ.again (k + 1) (by omega) (by first | omega | (dsimp only; omega)) (.c .z (.c (.s16 (.s4 (.s4 (.s (.s (.s .z)))))) (.e (.s (.s (.s .z))) (congrArg (Value.int .i64) (by omega)) .n))) (fun _ h => h)
 refine FJ.exit (FJ.thenE (FJ.thenE (FJ.inB (FJ.then_ ?_))))
 refine FJ.seq (FJ.region (FJ.ql rfl (q_move rfl (.t (.s4 (.s (.s .z))))) (FJ.ql rfl (q_assign rfl (.t .z)) (FJ.nil ?_))))
 refine FJ.then_ (FJ.ret ?_)
 refine FJ.doneS (res1 rfl .z) .n ?_
 exact ⟨by rw [sumF_all _ (by omega)], rfl⟩

set_option maxHeartbeats 1000000 in
set_option maxRecDepth 20000 in
theorem c_95 {w0 : World} {S0 : Bs} {y : (List DInode)} {v0 : Value} (h0 : kSl_66.ro w0 (FF w0 S0) y [v0]) (n : Int) (x : (List DInode)) (e0 : y = ((markL cnt_DInode mark_DInode) n x)) (hn0 : 0 ≤ n) (hn1 : n + ((sumF cnt_DInode x) : Int) ≤ 4611686018427387904) :
    Calls Tryz.prog 95 #[v0, .int .i64 n] w0 (TriPost w0 S0 (fun r l => r = .int .i64 (n + ((sumF cnt_DInode x) : Int)) ∧ l = [])) := by
 obtain ⟨A0, c0, rfl, hl0, hm0, hb0, he0⟩ := ro_form h0
 have hl := markE_len e0
 refine FJ.enter (N := 58) Tryz.func95 rfl rfl (by simp) [(0, .slice A0 y.length c0), (1, .int .i64 n)] (by simp) (l0 := []) trivial ?_
 refine FJ.seq (FJ.region (FJ.ql rfl (q_assign rfl .c) (FJ.nil (FJ.then_ ?_))))
 refine FJ.seq (FJ.seq (FJ.region (FJ.ql rfl (q_assign rfl .c) (FJ.nil ?_))))
 refine FJ.then_ (FJ.block ?_)
 refine FJ.loopi (γ := Nat) (fun k => [(5, .int .i64 (k : Int)), (0, .slice A0 y.length c0), (1, .int .i64 (n + (sumF cnt_DInode (List.take k x) : Int)))]) (fun k => []) (fun k => k ≤ y.length) (fun k => y.length - k) 0 (Nat.zero_le _) (.c .z (.c (.s (.s .z)) (.e (.s (.s (.s .z))) (congrArg (Value.int .i64) (by simp only [List.take_zero, sumF]; omega)) .n))) (fun _ h => h) ?_
 rintro k hk
 have hle := sumF_le (f := cnt_DInode) (xs := x) (k := k)
 refine FJ.seq (FJ.seq (FJ.region (FJ.ql rfl (q_move rfl (.t .z)) (FJ.ql rfl (q_move rfl (.t (.s (.s .z)))) ?_))))
 refine FJ.ql rfl (q_len rfl u_24 (.t .z)) (FJ.ql rfl (q_lss rfl (.t (.s (.s .z))) (.t .z)) (FJ.nil (FJ.then_ ?_)))
 refine FJ.condP (.t .z) (fun b2 => ?_) (fun b2 => ?_)
 refine FJ.skip (FJ.then_ (FJ.seq (FJ.block (FJ.seq ?_))))
 refine FJ.seq (FJ.region (FJ.ql rfl (q_move rfl (.t (.s4 (.s .z)))) (FJ.ql rfl (q_move rfl (.t (.s4 (.s .z)))) ?_)))
 obtain ⟨ad3, hAad3, hrad3⟩ := he0 (by omega)
 subst hAad3
 obtain ⟨x4, hx4⟩ := get_ex (xs := y) (j := k) (by omega)
 obtain ⟨ece5, hre5, hFe5, hce5⟩ := hrad3.elem hx4
 obtain ⟨ue5_3, ue5_4, rfl, he5_3, he5_4⟩ := kT_66_ro hre5
 obtain ⟨Ae5_3, ce5_3, rfl, hle5_3, hme5_3, hbe5_3, hee5_3⟩ := ro_form he5_3
 obtain ⟨Ae5_4, ce5_4, rfl, hle5_4, hme5_4, hbe5_4, hee5_4⟩ := ro_form he5_4
 obtain ⟨z8, hz8, ez8⟩ := markE_get e0 hx4
 have gz8 := sumF_get cnt_DInode hz8
 have tz8 := sumF_take cnt_DInode hz8
 simp only [cnt_DInode] at gz8 tz8
 refine FJ.ql rfl (q_indexAddr (j := k) rfl u_24 sz_66 (.t (.s .z)) (.t .z) rfl (by omega)) ?_
 refine FJ.ql rfl (q_fieldAddr rfl (.t .z) (fun _ => fa_66_0 _ _)) (FJ.ql rfl (q_load rfl ag_2 (.t .z) (WS.el hFe5 hce5 rfl)) (FJ.ql rfl (q_move rfl (.t (.s4 (.s4 (.s (.s (.s .z))))))) (FJ.ql rfl (q_neq rfl (.t (.s .z)) (.t .z)) (FJ.nil ?_))))
 refine FJ.then_ ?_
 refine FJ.condN (.t .z) (fun b9 => ?_) (fun b9 => ?_)
 exact absurd (by rw [ez8]; first | rfl | (simp only [mark_DInode]; omega)) b9
 refine FJ.skip (FJ.then_ (FJ.seq (FJ.region (FJ.ql rfl (q_move rfl (.t (.s4 (.s4 (.s4 (.s .z)))))) ?_))))
 refine FJ.ql rfl (q_add (c := (n + (sumF cnt_DInode (List.take k x) : Int)) + 1) rfl (.t .z) .c (wr (by omega) (by omega) (by omega))) ?_
 refine FJ.er (.s4 (.s4 (.s4 (.s (.s (.s .z)))))) (FJ.ql rfl (q_assign rfl (.t .z)) (FJ.nil (FJ.then_ (FJ.seq ?_))))
 refine FJ.seq (FJ.region (FJ.ql rfl (q_move rfl (.t (.s4 (.s4 (.s4 (.s (.s (.s .z)))))))) (FJ.ql rfl (q_move rfl (.t (.s4 (.s4 (.s4 (.s (.s (.s .z)))))))) ?_)))
 refine FJ.ql rfl (q_indexAddr (j := k) rfl u_24 sz_66 (.t (.s .z)) (.t .z) rfl (by omega)) ?_
 refine FJ.ql rfl (q_fieldAddr rfl (.t .z) (fun _ => fa_66_1 _ _)) (FJ.ql rfl (q_load rfl ag_2 (.t .z) (WS.el hFe5 hce5 rfl)) (FJ.ql rfl (q_move rfl (.t (.s4 (.s .z)))) (FJ.ql rfl (q_neq rfl (.t (.s .z)) (.t .z)) (FJ.nil ?_))))
 refine FJ.then_ ?_
 refine FJ.condN (.t .z) (fun b10 => ?_) (fun b10 => ?_)
 exact absurd (by rw [ez8]; first | rfl | (simp only [mark_DInode]; omega)) b10
 refine FJ.skip (FJ.then_ (FJ.seq (FJ.region (FJ.ql rfl (q_move rfl (.t (.s4 (.s (.s (.s .z)))))) ?_))))
 refine FJ.ql rfl (q_add (c := ((n + (sumF cnt_DInode (List.take k x) : Int)) + 1) + 1) rfl (.t .z) .c (wr (by omega) (by omega) (by omega))) ?_
 refine FJ.er (.s4 (.s4 (.s .z))) (FJ.ql rfl (q_assign rfl (.t .z)) (FJ.nil (FJ.then_ (FJ.seq ?_))))
 refine FJ.seq (FJ.region (FJ.ql rfl (q_move rfl (.t (.s16 (.s4 (.s4 .z))))) (FJ.ql rfl (q_move rfl (.t (.s16 (.s4 (.s4 .z))))) ?_)))
 refine FJ.ql rfl (q_indexAddr (j := k) rfl u_24 sz_66 (.t (.s .z)) (.t .z) rfl (by omega)) ?_
 refine FJ.ql rfl (q_fieldAddr rfl (.t .z) (fun _ => fa_66_2 _ _)) (FJ.ql rfl (q_load rfl ag_2 (.t .z) (WS.el hFe5 hce5 rfl)) (FJ.ql rfl (q_move rfl (.t (.s4 (.s .z)))) (FJ.ql rfl (q_neq rfl (.t (.s .z)) (.t .z)) (FJ.nil ?_))))
 refine FJ.then_ ?_
 refine FJ.condN (.t .z) (fun b11 => ?_) (fun b11 => ?_)
 exact absurd (by rw [ez8]; first | rfl | (simp only [mark_DInode]; omega)) b11
 refine FJ.skip (FJ.then_ (FJ.seq (FJ.region (FJ.ql rfl (q_move rfl (.t (.s4 (.s (.s (.s .z)))))) ?_))))
 refine FJ.ql rfl (q_add (c := (((n + (sumF cnt_DInode (List.take k x) : Int)) + 1) + 1) + 1) rfl (.t .z) .c (wr (by omega) (by omega) (by omega))) ?_
 refine FJ.er (.s4 (.s4 (.s .z))) (FJ.ql rfl (q_assign rfl (.t .z)) (FJ.nil (FJ.then_ (FJ.seq ?_))))
 refine FJ.region (FJ.ql rfl (q_move rfl (.t (.s16 (.s16 (.s .z))))) (FJ.ql rfl (q_move rfl (.t (.s16 (.s16 (.s .z))))) ?_))
 refine FJ.ql rfl (q_indexAddr (j := k) rfl u_24 sz_66 (.t (.s .z)) (.t .z) rfl (by omega)) ?_
 refine FJ.ql rfl (q_fieldAddr rfl (.t .z) (fun _ => fa_66_3 _ _)) (FJ.ql rfl (q_load rfl ag_58 (.t .z) (WS.el hFe5 hce5 rfl)) (FJ.ql rfl (q_move rfl (.t (.s4 (.s .z)))) ?_))
 refine FJ.call (goes_list rfl) rfl (by decide) rfl (c_call rfl Tryz.func133 rfl rfl (args2 (.t (.s .z)) (.t .z))) .n (fun w1 S1 hs tr => c_133 (tr.ctx he5_3) _ z8.blocks (congrArg (·.blocks) ez8) (by omega) (by first | omega | (omega))) ?_
 rintro _ _ ⟨rfl, rfl⟩
 refine FJ.cat .n ?_
 refine FJ.er (.s4 (.s (.s (.s .z)))) (FJ.ql rfl (q_assign rfl (.t .z)) (FJ.nil (FJ.then_ (FJ.seq ?_))))
 refine FJ.seq (FJ.region (FJ.ql rfl (q_move rfl (.t .z)) (FJ.ql rfl (q_lss rfl (.t .z) .c) (FJ.nil ?_))))
 refine FJ.then_ ?_
 refine FJ.condP (.t .z) (fun b12 => ?_) (fun b12 => ?_)
 refine FJ.seq (FJ.region (FJ.ql rfl (q_assign rfl .c) (FJ.nil (FJ.then_ ?_))))
 refine FJ.ret (FJ.thenR (FJ.inBR (FJ.thenR (FJ.thenR ?_))))
 refine FJ.inBR (FJ.thenR ?_)
 refine FJ.doneS (res1 rfl .z) .n ?_
 exfalso; omega
 refine FJ.skip (FJ.then_ (FJ.seq (FJ.region (FJ.ql rfl (q_move rfl (.t (.s16 (.s16 (.s4 (.s4 (.s (.s .z)))))))) ?_))))
 refine FJ.ql rfl (q_move rfl (.t (.s16 (.s16 (.s4 (.s4 (.s (.s .z)))))))) ?_
 refine FJ.ql rfl (q_indexAddr (j := k) rfl u_24 sz_66 (.t (.s .z)) (.t .z) rfl (by omega)) ?_
 refine FJ.ql rfl (q_fieldAddr rfl (.t .z) (fun _ => fa_66_4 _ _)) (FJ.ql rfl (q_load rfl ag_64 (.t .z) (WS.el hFe5 hce5 rfl)) (FJ.ql rfl (q_move rfl (.t (.s4 (.s (.s (.s .z)))))) ?_))
 refine FJ.call (goes_list rfl) rfl (by decide) rfl (c_call rfl Tryz.func134 rfl rfl (args2 (.t (.s .z)) (.t .z))) .n (fun w1 S1 hs tr => c_134 (tr.ctx he5_4) _ z8.ents (congrArg (·.ents) ez8) (by omega) (by first | omega | (omega))) ?_
 rintro _ _ ⟨rfl, rfl⟩
 refine FJ.cat .n ?_
 refine FJ.er (.s4 (.s4 (.s .z))) (FJ.ql rfl (q_assign rfl (.t .z)) (FJ.nil (FJ.then_ (FJ.seq ?_))))
 refine FJ.region (FJ.ql rfl (q_move rfl (.t .z)) (FJ.ql rfl (q_lss rfl (.t .z) .c) (FJ.nil (FJ.then_ ?_))))
 refine FJ.condP (.t .z) (fun b13 => ?_) (fun b13 => ?_)
 refine FJ.seq (FJ.region (FJ.ql rfl (q_assign rfl .c) (FJ.nil (FJ.then_ ?_))))
 refine FJ.ret (FJ.inBR (FJ.thenR (FJ.thenR (FJ.inBR ?_))))
 refine FJ.thenR ?_
 refine FJ.doneS (res1 rfl .z) .n ?_
 exfalso; omega
 refine FJ.skip (FJ.inBN (FJ.then_ (FJ.region (FJ.ql rfl (q_move rfl (.t (.s16 (.s16 (.s16 (.s (.s .z))))))) ?_))))
 refine FJ.ql rfl (q_add (c := ((k + 1 : Nat) : Int)) rfl (.t .z) .c (wr (by omega) (by omega) (by omega))) ?_
 refine FJ.er (.s16 (.s16 (.s16 (.s4 .z)))) (FJ.ql rfl (q_assign rfl (.t .z)) (FJ.nil ?_))
 refine FJ.again (k + 1) (by omega) (by first | omega | (dsimp only; omega)) (.c .z (.c (.s16 (.s16 (.s16 (.s4 (.s .z))))) (.e (.s4 (.s .z)) (congrArg (Value.int .i64) (by omega)) .n))) (fun _ h => h)
 refine FJ.exit (FJ.thenE (FJ.thenE (FJ.inB (FJ.then_ ?_))))
 refine FJ.seq (FJ.region (FJ.ql rfl (q_move rfl (.t (.s4 (.s (.s .z))))) (FJ.ql rfl (q_assign rfl (.t .z)) (FJ.nil ?_))))
 refine FJ.then_ (FJ.ret ?_)
 refine FJ.doneS (res1 rfl .z) .n ?_
 exact ⟨by rw [sumF_all _ (by omega)], rfl⟩

set_option maxHeartbeats 1000000 in
set_option maxRecDepth 20000 in
theorem c_61 {w0 : World} {S0 : Bs} {y : (List UInt8)} {v0 : Value} (h0 : kSl_5.ro w0 (FF w0 S0) y [v0]) (n : Int) (x : (List UInt8)) (e0 : y = ((markL (fun _ => 1) (fun m _ => mbyte m)) n x)) (hn0 : 0 ≤ n) (hn1 : n + (x.length : Int) ≤ 4611686018427387904) :
    Calls Tryz.prog 61 #[v0, .int .i64 n] w0 (TriPost w0 S0 (fun r l => r = .int .i64 (n + (x.length : Int)) ∧ l = [])) := by
 obtain ⟨A0, c0, rfl, hl0, hm0, hb0, he0⟩ := ro_form h0
 have hl := markE_len e0
 refine FJ.enter (N := 22) Tryz.func61 rfl rfl (by simp) [(0, .slice A0 y.length c0), (1, .int .i64 n)] (by simp) (l0 := []) trivial ?_
 refine FJ.seq (FJ.region (FJ.ql rfl (q_assign rfl .c) (FJ.nil (FJ.then_ ?_))))
 refine FJ.seq (FJ.seq (FJ.region (FJ.ql rfl (q_assign rfl .c) (FJ.nil ?_))))
 refine FJ.then_ (FJ.block ?_)
 refine FJ.loopi (γ := Nat) (fun k => [(5, .int .i64 (k : Int)), (0, .slice A0 y.length c0), (1, .int .i64 (n + (k : Int)))]) (fun k => []) (fun k => k ≤ y.length) (fun k => y.length - k) 0 (Nat.zero_le _) (.c .z (.c (.s (.s .z)) (.e (.s (.s (.s .z))) (congrArg (Value.int .i64) (by omega)) .n))) (fun _ h => h) ?_
 rintro k hk
 refine FJ.seq (FJ.seq (FJ.region (FJ.ql rfl (q_move rfl (.t .z)) (FJ.ql rfl (q_move rfl (.t (.s (.s .z)))) ?_))))
 refine FJ.ql rfl (q_len rfl u_39 (.t .z)) (FJ.ql rfl (q_lss rfl (.t (.s (.s .z))) (.t .z)) (FJ.nil (FJ.then_ ?_)))
 refine FJ.condP (.t .z) (fun b2 => ?_) (fun b2 => ?_)
 refine FJ.skip (FJ.then_ (FJ.seq (FJ.block (FJ.seq ?_))))
 refine FJ.seq (FJ.region (FJ.ql rfl (q_move rfl (.t (.s4 (.s .z)))) (FJ.ql rfl (q_move rfl (.t (.s4 (.s .z)))) ?_)))
 obtain ⟨ad3, hAad3, hrad3⟩ := he0 (by omega)
 subst hAad3
 obtain ⟨x4, hx4⟩ := get_ex (xs := y) (j := k) (by omega)
 obtain ⟨ece5, hre5, hFe5, hce5⟩ := hrad3.elem hx4
 obtain ⟨rfl, se5⟩ := hre5
 refine FJ.ql rfl (q_indexAddr (j := k) rfl u_39 sz_5 (.t (.s .z)) (.t .z) rfl (by omega)) ?_
 refine FJ.ql rfl (q_load rfl ag_5 (.t .z) (WS.el0 hFe5 hce5 rfl)) (FJ.ql rfl (q_move rfl (.t (.s4 (.s4 (.s (.s .z)))))) (FJ.ql rfl (q_conv (c := ((mbyte (n + (k : Int))).toNat : Int)) rfl (.t .z) u_3 u_5 (mbyte_wrap _)) (FJ.ql rfl (q_neq rfl (.t (.s (.s .z))) (.t .z)) (FJ.nil ?_))))
 refine FJ.then_ ?_
 refine FJ.condN (.t .z) (fun b6 => ?_) (fun b6 => ?_)
 exfalso
 obtain ⟨z, hz⟩ := markS_get e0 hx4
 exact b6 (by rw [hz])
 refine FJ.skip (FJ.then_ (FJ.region (FJ.ql rfl (q_move rfl (.t (.s4 (.s4 (.s4 (.s .z)))))) ?_)))
 refine FJ.ql rfl (q_add (c := (n + (k : Int)) + 1) rfl (.t .z) .c (wr (by omega) (by omega) (by omega))) ?_
 refine FJ.er (.s4 (.s4 (.s4 (.s (.s (.s .z)))))) (FJ.ql rfl (q_assign rfl (.t .z)) (FJ.nil (FJ.inBN (FJ.then_ ?_))))
 refine FJ.region (FJ.ql rfl (q_move rfl (.t (.s4 (.s4 (.s4 (.s (.s .z))))))) ?_)
 refine FJ.ql rfl (q_add (c := ((k + 1 : Nat) : Int)) rfl (.t .z) .c (wr (by omega) (by omega) (by omega))) ?_
 refine FJ.er (.s16 .z) (FJ.ql rfl (q_assign rfl (.t .z)) (FJ.nil ?_))
 refine FJ.again (k + 1) (by omega) (by first | omega | (dsimp only; omega)) (.c .z (.c (.s16 (.s .z)) (.e (.s (.s (.s .z))) (congrArg (Value.int .i64) (by omega)) .n))) (fun _ h => h)
 refine FJ.exit (FJ.thenE (FJ.thenE (FJ.inB (FJ.then_ ?_))))
 refine FJ.seq (FJ.region (FJ.ql rfl (q_move rfl (.t (.s4 (.s (.s .z))))) (FJ.ql rfl (q_assign rfl (.t .z)) (FJ.nil ?_))))
 refine FJ.then_ (FJ.ret ?_)
 refine FJ.doneS (res1 rfl .z) .n ?_
 exact ⟨congrArg (Value.int .i64) (by omega), rfl⟩

set_option maxHeartbeats 1000000 in
set_option maxRecDepth 20000 in
theorem c_96 {w0 : World} {S0 : Bs} {y : (List (List UInt8))} {v0 : Value} (h0 : kSl_39.ro w0 (FF w0 S0) y [v0]) (n : Int) (x : (List (List UInt8))) (e0 : y = ((markL (fun x => x.length) (markL (fun _ => 1) (fun m _ => mbyte m))) n x)) (hn0 : 0 ≤ n) (hn1 : n + ((sumF (fun x => x.length) x) : Int) ≤ 4611686018427387904) :
    Calls Tryz.prog 96 #[v0, .int .i64 n] w0 (TriPost w0 S0 (fun r l => r = .int .i64 (n + ((sumF (fun x => x.length) x) : Int)) ∧ l = [])) := by
 obtain ⟨A0, c0, rfl, hl0, hm0, hb0, he0⟩ := ro_form h0
 have hl := markE_len e0
 refine FJ.enter (N := 21) Tryz.func96 rfl rfl (by simp) [(0, .slice A0 y.length c0), (1, .int .i64 n)] (by simp) (l0 := []) trivial ?_
 refine FJ.seq (FJ.region (FJ.ql rfl (q_assign rfl .c) (FJ.nil (FJ.then_ ?_))))
 refine FJ.seq (FJ.seq (FJ.region (FJ.ql rfl (q_assign rfl .c) (FJ.nil ?_))))
 refine FJ.then_ (FJ.block ?_)
 refine FJ.loopi (γ := Nat) (fun k => [(5, .int .i64 (k : Int)), (0, .slice A0 y.length c0), (1, .int .i64 (n + (sumF (fun x => x.length) (List.take k x) : Int)))]) (fun k => []) (fun k => k ≤ y.length) (fun k => y.length - k) 0 (Nat.zero_le _) (.c .z (.c (.s (.s .z)) (.e (.s (.s (.s .z))) (congrArg (Value.int .i64) (by simp only [List.take_zero, sumF]; omega)) .n))) (fun _ h => h) ?_
 rintro k hk
 have hle := sumF_le (f := (fun x => x.length)) (xs := x) (k := k)
 refine FJ.seq (FJ.seq (FJ.region (FJ.ql rfl (q_move rfl (.t .z)) (FJ.ql rfl (q_move rfl (.t (.s (.s .z)))) ?_))))
 refine FJ.ql rfl (q_len rfl u_22 (.t .z)) (FJ.ql rfl (q_lss rfl (.t (.s (.s .z))) (.t .z)) (FJ.nil (FJ.then_ ?_)))
 refine FJ.condP (.t .z) (fun b2 => ?_) (fun b2 => ?_)
 refine FJ.skip (FJ.then_ (FJ.seq (FJ.block (FJ.seq ?_))))
 refine FJ.region (FJ.ql rfl (q_move rfl (.t (.s4 (.s .z)))) (FJ.ql rfl (q_move rfl (.t (.s4 (.s .z)))) ?_))
 obtain ⟨ad3, hAad3, hrad3⟩ := he0 (by omega)
 subst hAad3
 obtain ⟨x4, hx4⟩ := get_ex (xs := y) (j := k) (by omega)
 obtain ⟨ece5, hre5, hFe5, hce5⟩ := hrad3.elem hx4
 obtain ⟨ue5, rfl⟩ := sl_one hre5
 obtain ⟨Ae5, ce5, rfl, hle5, hme5, hbe5, hee5⟩ := ro_form hre5
 obtain ⟨z7, hz7, ez7⟩ := markE_get e0 hx4
 have gz7 := sumF_get (fun x => x.length) hz7
 have tz7 := sumF_take (fun x => x.length) hz7
 try simp only at gz7 tz7
 refine FJ.ql rfl (q_indexAddr (j := k) rfl u_22 sz_39 (.t (.s .z)) (.t .z) rfl (by omega)) ?_
 refine FJ.ql rfl (q_load rfl ag_39 (.t .z) (WS.el0 hFe5 hce5 rfl)) (FJ.ql rfl (q_move rfl (.t (.s4 (.s4 (.s (.s .z)))))) ?_)
 refine FJ.call (goes_list rfl) rfl (by decide) rfl (c_call rfl Tryz.func61 rfl rfl (args2 (.t (.s .z)) (.t .z))) .n (fun w1 S1 hs tr => c_61 (tr.ctx hre5) _ z7 ez7 (by omega) (by first | omega | (omega))) ?_
 rintro _ _ ⟨rfl, rfl⟩
 refine FJ.cat .n ?_
 refine FJ.er (.s4 (.s4 (.s4 .z))) (FJ.ql rfl (q_assign rfl (.t .z)) (FJ.nil (FJ.then_ (FJ.seq ?_))))
 refine FJ.region (FJ.ql rfl (q_move rfl (.t .z)) (FJ.ql rfl (q_lss rfl (.t .z) .c) (FJ.nil (FJ.then_ ?_))))
 refine FJ.condP (.t .z) (fun b8 => ?_) (fun b8 => ?_)
 refine FJ.seq (FJ.region (FJ.ql rfl (q_assign rfl .c) (FJ.nil (FJ.then_ ?_))))
 refine FJ.ret (FJ.inBR (FJ.thenR (FJ.thenR (FJ.inBR ?_))))
 refine FJ.thenR ?_
 refine FJ.doneS (res1 rfl .z) .n ?_
 exfalso; omega
 refine FJ.skip (FJ.inBN (FJ.then_ (FJ.region (FJ.ql rfl (q_move rfl (.t (.s4 (.s4 (.s4 (.s .z)))))) ?_))))
 refine FJ.ql rfl (q_add (c := ((k + 1 : Nat) : Int)) rfl (.t .z) .c (wr (by omega) (by omega) (by omega))) ?_
 refine FJ.er (.s4 (.s4 (.s4 (.s (.s (.s .z)))))) (FJ.ql rfl (q_assign rfl (.t .z)) (FJ.nil ?_))
 refine FJ.again (k + 1) (by omega) (by first | omega | (dsimp only; omega)) (.c .z (.c (.s16 .z) (.e (.s4 (.s .z)) (congrArg (Value.int .i64) (by omega)) .n))) (fun _ h => h)
 refine FJ.exit (FJ.thenE (FJ.thenE (FJ.inB (FJ.then_ ?_))))
 refine FJ.seq (FJ.region (FJ.ql rfl (q_move rfl (.t (.s4 (.s (.s .z))))) (FJ.ql rfl (q_assign rfl (.t .z)) (FJ.nil ?_))))
 refine FJ.then_ (FJ.ret ?_)
 refine FJ.doneS (res1 rfl .z) .n ?_
 exact ⟨by rw [sumF_all _ (by omega)], rfl⟩

set_option maxHeartbeats 1000000 in
set_option maxRecDepth 20000 in
theorem c_52 {w0 : World} {S0 : Bs} {y : DFs} {cs0 : List Value} (h0 : kT_26.ro w0 (FF w0 S0) y cs0) (n : Int) (x : DFs) (e0 : y = (vmark_DFs n x)) (hn0 : 0 ≤ n) (hn1 : n + ((vcnt_DFs x) : Int) ≤ 4611686018427387904) :
    Calls Tryz.prog 52 #[.agg cs0.toArray, .int .i64 n] w0 (TriPost w0 S0 (fun r l => r = .int .i64 (n + ((vcnt_DFs x) : Int)) ∧ l = [])) := by
 obtain ⟨u0_0, u0_1, rfl, h0_0, h0_1⟩ := kT_26_ro h0
 obtain ⟨A0_0, c0_0, rfl, hl0_0, hm0_0, hb0_0, he0_0⟩ := ro_form h0_0
 obtain ⟨A0_1, c0_1, rfl, hl0_1, hm0_1, hb0_1, he0_1⟩ := ro_form h0_1
 simp only [vcnt_DFs] at hn1
 refine FJ.enter (N := 18) Tryz.func52 rfl rfl (by simp) [(0, .agg #[.slice A0_0 y.inodes.length c0_0, .slice A0_1 y.data.length c0_1]), (1, .int .i64 n)] (by simp) (l0 := []) trivial ?_
 refine FJ.seq (FJ.region ?_)
 refine FJ.e (goes_list rfl) rfl (by decide) rfl (e_box (cs := [.slice A0_0 y.inodes.length c0_0, .slice A0_1 y.data.length c0_1]) (n := 2) rfl (.t .z) rfl rfl) ?_
 rintro _ _ ⟨g3, rfl, rfl⟩
 refine FJ.ql rfl (q_assign rfl .c) (FJ.nil (FJ.then_ (FJ.seq (FJ.region ?_))))
 refine FJ.ql rfl (q_fieldAddr rfl (.t (.s .z)) (fun _ => fa_26_0 _ _)) (FJ.ql rfl (q_load rfl ag_24 (.t .z) (WS.row .z rfl)) (FJ.ql rfl (q_move rfl (.t (.s4 (.s .z)))) ?_))
 refine FJ.call (goes_list rfl) rfl (by decide) rfl (c_call rfl Tryz.func95 rfl rfl (args2 (.t (.s .z)) (.t .z))) .n (fun w1 S1 hs tr => c_95 (tr.ctx h0_0) _ x.inodes (congrArg (·.inodes) e0) (by omega) (by first | omega | (omega))) ?_
 rintro _ _ ⟨rfl, rfl⟩
 refine FJ.cat .n ?_
 refine FJ.er (.s4 (.s (.s (.s .z)))) (FJ.ql rfl (q_assign rfl (.t .z)) (FJ.nil (FJ.then_ (FJ.seq ?_))))
 refine FJ.seq (FJ.region (FJ.ql rfl (q_move rfl (.t .z)) (FJ.ql rfl (q_lss rfl (.t .z) .c) (FJ.nil ?_))))
 refine FJ.then_ ?_
 refine FJ.condP (.t .z) (fun b4 => ?_) (fun b4 => ?_)
 refine FJ.seq (FJ.region (FJ.er (.s4 (.s (.s (.s .z)))) (FJ.ql rfl (q_assign rfl .c) (FJ.nil ?_))))
 refine FJ.then_ (FJ.ret (FJ.thenR ?_))
 refine FJ.doneS (res1 rfl .z) .n ?_
 exfalso; omega
 refine FJ.skip (FJ.then_ (FJ.seq (FJ.region (FJ.ql rfl (q_fieldAddr rfl (.t (.s4 (.s4 .z))) (fun _ => fa_26_1 _ _)) ?_))))
 refine FJ.ql rfl (q_load rfl ag_22 (.t .z) (WS.row .z rfl)) (FJ.ql rfl (q_move rfl (.t (.s4 .z))) ?_)
 refine FJ.call (goes_list rfl) rfl (by decide) rfl (c_call rfl Tryz.func96 rfl rfl (args2 (.t (.s .z)) (.t .z))) .n (fun w1 S1 hs tr => c_96 (tr.ctx h0_1) _ x.data (congrArg (·.data) e0) (by omega) (by first | omega | (omega))) ?_
 rintro _ _ ⟨rfl, rfl⟩
 refine FJ.cat .n ?_
 refine FJ.er (.s4 (.s (.s .z))) (FJ.ql rfl (q_assign rfl (.t .z)) (FJ.nil (FJ.then_ (FJ.seq ?_))))
 refine FJ.seq (FJ.region (FJ.ql rfl (q_move rfl (.t .z)) (FJ.ql rfl (q_lss rfl (.t .z) .c) (FJ.nil ?_))))
 refine FJ.then_ ?_
 refine FJ.condP (.t .z) (fun b5 => ?_) (fun b5 => ?_)
 refine FJ.seq (FJ.region (FJ.er (.s4 (.s4 (.s4 (.s .z)))) (FJ.ql rfl (q_assign rfl .c) (FJ.nil ?_))))
 refine FJ.then_ (FJ.ret (FJ.thenR ?_))
 refine FJ.doneS (res1 rfl .z) .n ?_
 exfalso; omega
 refine FJ.skip (FJ.then_ (FJ.seq (FJ.region (FJ.ql rfl (q_move rfl (.t (.s (.s .z)))) ?_))))
 refine FJ.er (.s4 (.s4 (.s4 (.s (.s .z))))) (FJ.ql rfl (q_assign rfl (.t .z)) (FJ.nil (FJ.then_ (FJ.ret ?_))))
 refine FJ.doneS (res1 rfl .z) .n ?_
 exact ⟨congrArg (Value.int .i64) (by simp only [vcnt_DFs]; omega), rfl⟩

set_option maxHeartbeats 1000000 in
set_option maxRecDepth 20000 in
theorem c_18 {w0 : World} {S0 : Bs} {y : RFs} {cs0 : List Value} (h0 : kT_28.ro w0 (FF w0 S0) y cs0) (n : Int) (x : RFs) (e0 : y = (vmark_RFs n x)) (hn0 : 0 ≤ n) (hn1 : n + ((vcnt_RFs x) : Int) ≤ 4611686018427387904) :
    Calls Tryz.prog 18 #[.agg cs0.toArray, .int .i64 n] w0 (TriPost w0 S0 (fun r l => r = .int .i64 (n + ((vcnt_RFs x) : Int)) ∧ l = [])) := by
 obtain ⟨u0_1, u0_2, rfl, h0_1, h0_2⟩ := kT_28_ro h0
 obtain ⟨A0_1, c0_1, rfl, hl0_1, hm0_1, hb0_1, he0_1⟩ := ro_form h0_1
 obtain ⟨A0_2, c0_2, rfl, hl0_2, hm0_2, hb0_2, he0_2⟩ := ro_form h0_2
 simp only [vcnt_RFs] at hn1
 refine FJ.enter (N := 12) Tryz.func18 rfl rfl (by simp) [(0, .agg #[.int .i64 y.code, .slice A0_1 y.fs.inodes.length c0_1, .slice A0_2 y.fs.data.length c0_2]), (1, .int .i64 n)] (by simp) (l0 := []) trivial ?_
 refine FJ.seq (FJ.region ?_)
 refine FJ.e (goes_list rfl) rfl (by decide) rfl (e_box (cs := [.int .i64 y.code, .slice A0_1 y.fs.inodes.length c0_1, .slice A0_2 y.fs.data.length c0_2]) (n := 3) rfl (.t .z) rfl rfl) ?_
 rintro _ _ ⟨g3, rfl, rfl⟩
 refine FJ.ql rfl (q_assign rfl .c) (FJ.nil (FJ.then_ (FJ.seq (FJ.region ?_))))
 refine FJ.ql rfl (q_fieldAddr rfl (.t (.s .z)) (fun _ => fa_28_1 _ _)) (FJ.ql rfl (q_loadA (cs := [.slice A0_1 y.fs.inodes.length c0_1, .slice A0_2 y.fs.data.length c0_2]) rfl ag_26 sz_26 (.t .z) (WS.rows .z (sub_at rfl))) (FJ.ql rfl (q_move rfl (.t (.s4 (.s .z)))) ?_))
 refine FJ.call (goes_list rfl) rfl (by decide) rfl (c_call rfl Tryz.func52 rfl rfl (args2 (.t (.s .z)) (.t .z))) .n (fun w1 S1 hs tr => c_52 (kT_26_mk y.fs (tr.ctx h0_1) (tr.ctx h0_2)) _ x.fs (congrArg (·.fs) e0) (by omega) (by first | omega | (omega))) ?_
 rintro _ _ ⟨rfl, rfl⟩
 refine FJ.cat .n ?_
 refine FJ.er (.s4 (.s (.s (.s .z)))) (FJ.ql rfl (q_assign rfl (.t .z)) (FJ.nil (FJ.then_ (FJ.seq ?_))))
 refine FJ.seq (FJ.region (FJ.ql rfl (q_move rfl (.t .z)) (FJ.ql rfl (q_lss rfl (.t .z) .c) (FJ.nil ?_))))
 refine FJ.then_ ?_
 refine FJ.condP (.t .z) (fun b4 => ?_) (fun b4 => ?_)
 refine FJ.seq (FJ.region (FJ.er (.s4 (.s (.s (.s .z)))) (FJ.ql rfl (q_assign rfl .c) (FJ.nil ?_))))
 refine FJ.then_ (FJ.ret (FJ.thenR ?_))
 refine FJ.doneS (res1 rfl .z) .n ?_
 exfalso; omega
 refine FJ.skip (FJ.then_ (FJ.seq (FJ.region (FJ.ql rfl (q_move rfl (.t (.s (.s .z)))) ?_))))
 refine FJ.er (.s4 (.s4 .z)) (FJ.ql rfl (q_assign rfl (.t .z)) (FJ.nil (FJ.then_ (FJ.ret ?_))))
 refine FJ.doneS (res1 rfl .z) .n ?_
 exact ⟨congrArg (Value.int .i64) (by simp only [vcnt_RFs]; omega), rfl⟩
end Go.Proofs.YtbcdcakcmdcafaaGreat

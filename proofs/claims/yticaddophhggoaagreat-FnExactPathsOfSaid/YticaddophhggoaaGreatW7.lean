/- What is proved: contracts of functions, one a function. No condition. -/
import Derived.Test.YticaddophhggoaaGreatW5
namespace Go.Proofs.YticaddophhggoaaGreat
open Go Go.RowKit
set_option linter.unusedVariables false
set_option linter.unusedSimpArgs false
set_option maxHeartbeats 1000000 in
set_option maxRecDepth 20000 in
theorem c_142 {w0 : World} {S0 : Bs} (n : Int) (hn1 : n ≤ 4611686018427387905) :
    Calls Tryz.prog 142 #[.int .i64 n] w0 (TriPost w0 S0 (fun r l => r = .string (mtext n) ∧ l = [])) := by
 refine FJ.enter (N := 20) Tryz.func142 rfl rfl (by simp) [(0, .int .i64 n)] (by simp) (l0 := []) trivial ?_
 refine FJ.seq (FJ.region (FJ.ql rfl (q_assign rfl .c) (FJ.nil (FJ.then_ ?_))))
 refine FJ.seq (FJ.seq (FJ.region (FJ.ql rfl (q_move rfl (.t (.s .z))) (FJ.ql rfl (q_leq rfl (.t .z) .c) ?_))))
 refine FJ.nil (FJ.then_ ?_)
 refine FJ.condP (.t .z) (fun b1 => ?_) (fun b1 => ?_)
 refine FJ.seq (FJ.region (FJ.er (.s (.s .z)) (FJ.ql rfl (q_assign rfl .c) (FJ.nil ?_))))
 refine FJ.then_ (FJ.ret (FJ.thenR ?_))
 refine FJ.doneS (res1 rfl .z) .n ?_
 exact ⟨by unfold mtext; rw [if_pos (by assumption)]; rfl, rfl⟩
 refine FJ.skip (FJ.then_ (FJ.seq (FJ.region (FJ.ql rfl (q_assign rfl .c) ?_))))
 refine FJ.nil (FJ.then_ (FJ.seq (FJ.block ?_)))
 refine FJ.eq (.s4 .z) (congrArg (Value.int .i64) (show n = ((Int.toNat n : Nat) : Int) by omega)) ?_
 refine FJ.loopi (γ := Nat × ByteArray × Nat) (fun ⟨q, o, d⟩ => [(0, .int .i64 (q : Int)), (3, .string o), (2, .string (⟨#[]⟩))]) (fun ⟨q, o, d⟩ => []) (fun ⟨q, o, d⟩ => mfin q o = mfin n.toNat ⟨#[]⟩ ∧ q < 10 ^ d ∧ o.size + d ≤ 19 ∧ q ≤ 4611686018427387905) (fun ⟨q, o, d⟩ => q) (Int.toNat n, ⟨#[]⟩, 19) ⟨rfl, by omega, by decide, by omega⟩ (.c .z (.c (.s .z) (.c (.s4 .z) .n))) (fun _ h => h) ?_
 rintro ⟨q, o, d⟩ ⟨hq, hd, ho, hq4⟩
 refine FJ.seq (FJ.seq (FJ.region (FJ.ql rfl (q_move rfl (.t .z)) (FJ.ql rfl (q_gtr rfl (.t .z) .c) ?_))))
 refine FJ.nil (FJ.then_ ?_)
 refine FJ.condP (.t .z) (fun b2 => ?_) (fun b2 => ?_)
 refine FJ.skip (FJ.then_ (FJ.block (FJ.seq (FJ.region ?_))))
 refine FJ.ql rfl (q_move rfl (.t (.s (.s .z)))) ?_
 refine FJ.ql rfl (q_rem (c := ((q % 10 : Nat) : Int)) rfl (.t .z) .c (by omega) (rem_nat (d := 10) rfl)) ?_
 refine FJ.ql rfl (q_add (c := ((48 + (q % 10) : Nat) : Int)) rfl .c (.t .z) (wr (by omega) (by omega) (by omega))) ?_
 refine FJ.ql rfl (q_conv (c := ((mbyte ((48 + (q % 10) : Nat) : Int)).toNat : Int)) rfl (.t .z) u_3 u_5 (mbyte_wrap _)) ?_
 refine FJ.e (goes_list rfl) rfl (by decide) rfl (e_buildSliceL (ps := [(0, .int .u8 ((mbyte ((48 + (q % 10) : Nat) : Int)).toNat : Int))]) (cs := [.int .u8 ((mbyte ((48 + (q % 10) : Nat) : Int)).toNat : Int)]) rfl u_26 (inz inf_5) (by decide) (by intro act hact; simp only [List.map_toArray, List.map_cons, List.map_nil, (show Val _ _ _ from (.t .z)) act hact]) rfl rfl (by decide) rfl rfl) ?_
 rintro _ _ ⟨g3, rfl, rfl⟩
 refine FJ.turns (c := ownA kSl_5 ([(mbyte ((48 + (q % 10) : Nat) : Int))] : (List UInt8)) [.slice (some ⟨g3, 0, none⟩) 1 1]) (.c .z .n) (fun w S h => lit_own (xs := ([(mbyte ((48 + (q % 10) : Nat) : Int))] : (List UInt8))) h rfl (by simp) (by omega) (by omega)) ?_
 refine FJ.ql rfl (q_convBS (xs := ([(mbyte ((48 + (q % 10) : Nat) : Int))] : (List UInt8))) rfl u_26 u_5 u_9 (.t .z) (WS.roown .z)) (FJ.ql rfl (q_move rfl (.t (.s4 (.s4 (.s .z))))) ?_)
 refine FJ.ql rfl (q_sadd rfl (.t (.s .z)) (.t .z) (by first | (simp only [bstr_size, List.length_cons, List.length_nil]; omega) | (have : (⟨#[109]⟩ : ByteArray).size = 1 := rfl; omega))) ?_
 refine FJ.er (.s4 (.s4 (.s (.s (.s .z))))) (FJ.ql rfl (q_assign rfl (.t .z)) (FJ.nil (FJ.then_ (FJ.region ?_))))
 refine FJ.ql rfl (q_move rfl (.t (.s4 (.s4 (.s (.s (.s .z))))))) ?_
 refine FJ.ql rfl (q_quo (c := ((q / 10 : Nat) : Int)) rfl (.t .z) .c (by omega) (quo_nat (d := 10) (by omega) rfl)) ?_
 refine FJ.er (.s4 (.s4 (.s4 (.s .z)))) (FJ.ql rfl (q_assign rfl (.t .z)) (FJ.nil (FJ.inBN ?_)))
 refine FJ.again (q / 10, (bstr ([(mbyte ((48 + (q % 10) : Nat) : Int))] : (List UInt8))) ++ o, d - 1) ⟨(mfin_s o (by omega)).symm.trans hq, mfin_d (by omega) hd, mfin_o (by omega) hd ho, by omega⟩ (by first | omega | (dsimp only; omega)) (.c .z (.c (.s (.s (.s .z))) (.c (.s4 (.s4 (.s4 (.s (.s .z))))) .n))) (fun _ h => h.sel .n)
 refine FJ.exit (FJ.thenE (FJ.thenE (FJ.inB (FJ.then_ ?_))))
 refine FJ.seq (FJ.region (FJ.ql rfl (q_move rfl (.t (.s (.s (.s .z))))) ?_))
 refine FJ.ql rfl (q_sadd rfl .c (.t .z) (by first | (simp only [bstr_size, List.length_cons, List.length_nil]; omega) | (have : (⟨#[109]⟩ : ByteArray).size = 1 := rfl; omega))) ?_
 refine FJ.er (.s4 (.s (.s .z))) (FJ.ql rfl (q_assign rfl (.t .z)) (FJ.nil (FJ.then_ (FJ.ret ?_))))
 refine FJ.doneS (res1 rfl .z) .n ?_
 exact ⟨by unfold mtext; rw [if_neg (by assumption), ← hq, show q = 0 by omega, mfin_0]; rfl, rfl⟩

set_option maxHeartbeats 1000000 in
set_option maxRecDepth 20000 in
theorem c_23 {w0 : World} {S0 : Bs} {x : (List Int)} {v0 : Value} (n : Int) (hs : Star [ownA kSl_2 x [v0]] w0 S0) (hn0 : 0 ≤ n) (hn1 : n + (x.length : Int) ≤ 4611686018427387904) :
    Calls Tryz.prog 23 #[v0, .int .i64 n] w0 (TriPost w0 S0 (fun r l => r = .int .i64 (n + (x.length : Int)) ∧ l = [ownA kSl_2 ((markL (fun _ => 1) (fun m _ => m)) n x) [v0]])) := by
 refine FJ.enter (N := 19) Tryz.func23 rfl rfl (by simp) [(0, v0), (1, .int .i64 n)] (by simp) hs ?_
 refine FJ.know (WS.oform .z) ?_
 rintro ⟨Ao1, co1, rfl, hlo1, hmo1, hbo1⟩
 refine FJ.seq (FJ.region (FJ.ql rfl (q_assign rfl .c) (FJ.nil (FJ.then_ ?_))))
 refine FJ.seq (FJ.seq (FJ.region (FJ.ql rfl (q_assign rfl .c) (FJ.nil ?_))))
 refine FJ.then_ (FJ.block ?_)
 refine FJ.ceq .z (markS_zero (fun m _ => m) n x) ?_
 refine FJ.loopi (γ := Nat) (fun k => [(5, .int .i64 (k : Int)), (4, .int .i64 0), (0, .slice Ao1 x.length co1), (1, .int .i64 (n + (k : Int)))]) (fun k => [ownA kSl_2 (markS (fun m _ => m) n x k) [.slice Ao1 x.length co1]]) (fun k => k ≤ x.length) (fun k => x.length - k) 0 (Nat.zero_le _) (.c .z (.c (.s .z) (.c (.s (.s .z)) (.e (.s (.s (.s .z))) (congrArg (Value.int .i64) (by omega)) .n)))) (fun _ h => h.sel (.c .z .n)) ?_
 rintro k hk
 refine FJ.seq (FJ.seq (FJ.region (FJ.ql rfl (q_move rfl (.t .z)) (FJ.ql rfl (q_move rfl (.t (.s (.s (.s .z))))) ?_))))
 refine FJ.ql rfl (q_len rfl u_27 (.t .z)) (FJ.ql rfl (q_lss rfl (.t (.s (.s .z))) (.t .z)) (FJ.nil (FJ.then_ ?_)))
 refine FJ.condP (.t .z) (fun b2 => ?_) (fun b2 => ?_)
 refine FJ.skip (FJ.then_ (FJ.seq (FJ.block (FJ.seq ?_))))
 refine FJ.region (FJ.ql rfl (q_move rfl (.t (.s4 (.s (.s .z))))) (FJ.ql rfl (q_move rfl (.t (.s4 (.s .z)))) (FJ.ql rfl (q_move rfl (.t (.s4 (.s4 (.s .z))))) ?_)))
 refine FJ.know (WS.oad .z (by rw [markS_len (by omega)]; omega)) ?_
 rintro ⟨ad3, rfl⟩
 refine FJ.ql rfl (q_indexAddr (j := k) rfl u_27 sz_2 (.t (.s (.s .z))) (.t (.s .z)) rfl (by first | omega | (rw [markS_len (by omega)]; omega))) ?_
 refine FJ.add (c := ownA (kint .i64) (n + (k : Int)) [.int .i64 (n + (k : Int))]) (fun _ _ => ⟨rfl, trivial⟩) ?_
 refine FJ.es (goes_list rfl) rfl (es_set (j := k) rfl sz_2 (.t .z) (.t (.s .z)) rfl (.c (.s .z) (.c .z .n)) (by first | omega | (rw [markS_len (by omega)]; omega))) ?_
 obtain ⟨y, hy⟩ := get_ex (xs := x) (j := k) (by omega)
 refine FJ.ceq .z (markS_set (mk := (fun m _ => m)) hy) ?_
 refine FJ.nil (FJ.then_ (FJ.region (FJ.ql rfl (q_move rfl (.t (.s4 (.s4 (.s (.s (.s .z))))))) ?_)))
 refine FJ.ql rfl (q_add (c := (n + (k : Int)) + 1) rfl (.t .z) .c (wr (by omega) (by omega) (by omega))) ?_
 refine FJ.er (.s4 (.s4 (.s4 (.s .z)))) (FJ.ql rfl (q_assign rfl (.t .z)) (FJ.nil (FJ.inBN (FJ.then_ ?_))))
 refine FJ.region (FJ.ql rfl (q_move rfl (.t (.s4 (.s4 (.s (.s (.s .z))))))) ?_)
 refine FJ.ql rfl (q_add (c := ((k + 1 : Nat) : Int)) rfl (.t .z) .c (wr (by omega) (by omega) (by omega))) ?_
 refine FJ.er (.s4 (.s4 (.s4 (.s .z)))) (FJ.ql rfl (q_assign rfl (.t .z)) (FJ.nil ?_))
 refine FJ.again (k + 1) (by omega) (by first | omega | (dsimp only; omega)) (.c .z (.c (.s4 (.s4 (.s4 (.s (.s .z))))) (.c (.s4 (.s4 (.s4 (.s (.s (.s .z)))))) (.e (.s (.s (.s .z))) (congrArg (Value.int .i64) (by omega)) .n)))) (fun _ h => h.sel (.c .z .n))
 refine FJ.exit (FJ.thenE (FJ.thenE (FJ.inB (FJ.then_ ?_))))
 refine FJ.seq (FJ.region (FJ.ql rfl (q_move rfl (.t (.s4 (.s (.s (.s .z)))))) (FJ.er (.s4 (.s (.s .z))) (FJ.ql rfl (q_assign rfl (.t .z)) ?_))))
 refine FJ.nil (FJ.then_ (FJ.ret ?_))
 refine FJ.ceq .z (markS_all (by omega)) ?_
 refine FJ.doneS (res1 rfl .z) (.c .z .n) ?_
 exact ⟨congrArg (Value.int .i64) (by omega), rfl⟩

set_option maxHeartbeats 1000000 in
set_option maxRecDepth 20000 in
theorem c_129 {w0 : World} {S0 : Bs} {x : (List DEnt)} {v0 : Value} (n : Int) (hs : Star [ownA kSl_151 x [v0]] w0 S0) (hn0 : 0 ≤ n) (hn1 : n + ((sumF cnt_DEnt x) : Int) ≤ 4611686018427387904) :
    Calls Tryz.prog 129 #[v0, .int .i64 n] w0 (TriPost w0 S0 (fun r l => r = .int .i64 (n + ((sumF cnt_DEnt x) : Int)) ∧ l = [ownA kSl_151 ((markL cnt_DEnt mark_DEnt) n x) [v0]])) := by
 refine FJ.enter (N := 28) Tryz.func129 rfl rfl (by simp) [(0, v0), (1, .int .i64 n)] (by simp) hs ?_
 refine FJ.know (WS.oform .z) ?_
 rintro ⟨Ao1, co1, rfl, hlo1, hmo1, hbo1⟩
 refine FJ.open (.c .z .n) own_raw ?_
 rintro css hlcss
 refine FJ.add (c := seqC kT_151 [] []) seqC_nil ?_
 refine FJ.seq (FJ.region (FJ.ql rfl (q_assign rfl .c) (FJ.nil (FJ.then_ ?_))))
 refine FJ.seq (FJ.seq (FJ.region (FJ.ql rfl (q_assign rfl .c) (FJ.nil ?_))))
 refine FJ.then_ (FJ.block ?_)
 refine FJ.loopi (γ := Nat × (List (List Value))) (fun ⟨k, css⟩ => [(5, .int .i64 (k : Int)), (4, .int .i64 0), (0, .slice Ao1 x.length co1), (1, .int .i64 (n + (sumF cnt_DEnt (List.take k x) : Int)))]) (fun ⟨k, css⟩ => [seqC kT_151 (markL cnt_DEnt mark_DEnt n (List.take k x)) (List.take k css), ownA (kslice 151 24 (kraw kT_151.sz kT_151.pos)) css [.slice Ao1 x.length co1], seqC kT_151 (List.drop k x) (List.drop k css)]) (fun ⟨k, css⟩ => k ≤ x.length ∧ css.length = x.length) (fun ⟨k, css⟩ => x.length - k) (0, css) ⟨Nat.zero_le _, hlcss⟩ (.c .z (.c (.s .z) (.c (.s (.s .z)) (.e (.s (.s (.s .z))) (congrArg (Value.int .i64) (by simp only [List.take_zero, sumF]; omega)) .n)))) (fun _ h => h.sel (.c .z (.c .z (.c .z .n)))) ?_
 rintro ⟨k, css⟩ ⟨hk, hlcss⟩
 have hle := sumF_le (f := cnt_DEnt) (xs := x) (k := k)
 refine FJ.seq (FJ.seq (FJ.region (FJ.ql rfl (q_move rfl (.t .z)) (FJ.ql rfl (q_move rfl (.t (.s (.s (.s .z))))) ?_))))
 refine FJ.ql rfl (q_len rfl u_71 (.t .z)) (FJ.ql rfl (q_lss rfl (.t (.s (.s .z))) (.t .z)) (FJ.nil (FJ.then_ ?_)))
 refine FJ.condP (.t .z) (fun b2 => ?_) (fun b2 => ?_)
 refine FJ.skip (FJ.then_ (FJ.seq (FJ.block (FJ.seq ?_))))
 refine FJ.region (FJ.ql rfl (q_move rfl (.t (.s4 (.s (.s .z))))) (FJ.ql rfl (q_move rfl (.t (.s4 (.s .z)))) (FJ.ql rfl (q_move rfl (.t (.s4 (.s4 (.s .z))))) ?_)))
 refine FJ.call (goes_list rfl) rfl (by decide) rfl (c_call rfl Tryz.func142 rfl rfl (args1 (.t .z))) .n (fun w1 S1 hs tr => c_142 _ (by omega)) ?_
 rintro _ _ ⟨rfl, rfl⟩
 refine FJ.cat .n ?_
 refine FJ.know (WS.oad (.s .z) (by omega)) ?_
 rintro ⟨ad3, rfl⟩
 obtain ⟨c4, hc4⟩ := get_ex (xs := css) (j := k) (by omega)
 obtain ⟨y5, hy5⟩ := get_ex (xs := x) (j := k) (by omega)
 refine FJ.turn (.s (.s .z)) (seq_pop hy5 hc4) ?_
 refine FJ.open (.c .z .n) kT_151_op ?_
 rintro ⟨⟩ ⟨rfl, sy5_0⟩
 have gy5 := sumF_get cnt_DEnt hy5
 have ty5 := sumF_take cnt_DEnt hy5
 simp only [cnt_DEnt] at gy5 ty5
 refine FJ.ql rfl (q_indexAddr (j := k) rfl u_71 sz_151 (.t (.s (.s (.s .z)))) (.t (.s (.s .z))) rfl (by omega)) ?_
 refine FJ.ql rfl (q_fieldAddr rfl (.t .z) (fun _ => fa_151_0 _ _)) ?_
 refine FJ.es (goes_list rfl) rfl (es_raw (j := k) (off := 0) (cs := [.string (mtext (n + (sumF cnt_DEnt (List.take k x) : Int)))]) rfl sz_9 (.t .z) rfl (.t (.s (.s .z))) rfl (ones rfl) (.s (.s .z)) hc4 (Nat.le_of_ble_eq_true rfl)) ?_
 refine FJ.ceq (x' := List.set css k [.string (mtext (n + (sumF cnt_DEnt (List.take k x) : Int))), .int .i64 y5.ino]) .z rfl ?_
 refine FJ.nil (FJ.then_ (FJ.seq (FJ.region (FJ.ql rfl (q_move rfl (.t (.s4 (.s4 (.s4 (.s .z)))))) ?_))))
 refine FJ.ql rfl (q_add (c := (n + (sumF cnt_DEnt (List.take k x) : Int)) + 1) rfl (.t .z) .c (wr (by omega) (by omega) (by omega))) ?_
 refine FJ.er (.s4 (.s4 (.s4 (.s (.s (.s .z)))))) (FJ.ql rfl (q_assign rfl (.t .z)) (FJ.nil (FJ.then_ (FJ.seq ?_))))
 refine FJ.region (FJ.ql rfl (q_move rfl (.t (.s4 (.s4 (.s4 (.s (.s (.s .z)))))))) (FJ.ql rfl (q_move rfl (.t (.s4 (.s4 (.s4 (.s (.s .z))))))) (FJ.ql rfl (q_move rfl (.t (.s (.s .z)))) ?_)))
 refine FJ.ql rfl (q_indexAddr (j := k) rfl u_71 sz_151 (.t (.s (.s .z))) (.t (.s .z)) rfl (by omega)) ?_
 refine FJ.ql rfl (q_fieldAddr rfl (.t .z) (fun _ => fa_151_1 _ _)) ?_
 refine FJ.es (goes_list rfl) rfl (es_raw (j := k) (off := 1) (cs := [.int .i64 ((n + (sumF cnt_DEnt (List.take k x) : Int)) + 1)]) rfl sz_2 (.t .z) (add_add _ _ _) (.t (.s (.s .z))) rfl (ones rfl) .z (set_get hc4) (Nat.le_of_ble_eq_true rfl)) ?_
 refine FJ.ceq (x' := List.set css k [.string (mtext (n + (sumF cnt_DEnt (List.take k x) : Int))), .int .i64 ((n + (sumF cnt_DEnt (List.take k x) : Int)) + 1)]) .z (List.set_set ..) ?_
 refine FJ.nil (FJ.then_ (FJ.region (FJ.ql rfl (q_move rfl (.t (.s4 (.s .z)))) ?_)))
 refine FJ.ql rfl (q_add (c := ((n + (sumF cnt_DEnt (List.take k x) : Int)) + 1) + 1) rfl (.t .z) .c (wr (by omega) (by omega) (by omega))) ?_
 refine FJ.er (.s4 (.s (.s (.s .z)))) (FJ.ql rfl (q_assign rfl (.t .z)) (FJ.nil (FJ.inBN (FJ.then_ ?_))))
 refine FJ.region (FJ.ql rfl (q_move rfl (.t (.s16 (.s4 .z)))) ?_)
 refine FJ.ql rfl (q_add (c := ((k + 1 : Nat) : Int)) rfl (.t .z) .c (wr (by omega) (by omega) (by omega))) ?_
 refine FJ.er (.s16 (.s4 (.s (.s .z)))) (FJ.ql rfl (q_assign rfl (.t .z)) (FJ.nil ?_))
 refine FJ.turns (c := ownA kT_151 (mark_DEnt (n + (sumF cnt_DEnt (List.take k x) : Int)) y5) [.string (mtext (n + (sumF cnt_DEnt (List.take k x) : Int))), .int .i64 ((n + (sumF cnt_DEnt (List.take k x) : Int)) + 1)]) .n (fun w S h => kT_151_omk (mark_DEnt (n + (sumF cnt_DEnt (List.take k x) : Int)) y5) h (mtext_size (by omega))) ?_
 refine FJ.turns (c := seqC kT_151 (markL cnt_DEnt mark_DEnt n (List.take (k + 1) x)) (List.take (k + 1) (List.set css k [.string (mtext (n + (sumF cnt_DEnt (List.take k x) : Int))), .int .i64 ((n + (sumF cnt_DEnt (List.take k x) : Int)) + 1)]))) (.c (.s (.s (.s .z))) (.c .z .n)) (seq_snoc' (by rw [markL_len, List.length_take, List.length_take, hlcss]) (by rw [markL_take _ hy5]) (take_set hc4)) ?_
 refine FJ.turns (c := seqC kT_151 (List.drop (k + 1) x) (List.drop (k + 1) (List.set css k [.string (mtext (n + (sumF cnt_DEnt (List.take k x) : Int))), .int .i64 ((n + (sumF cnt_DEnt (List.take k x) : Int)) + 1)]))) (.c (.s (.s .z)) .n) (fun w S h => seq_same rfl drop_set w S (h.head (c := seqC _ _ _))) ?_
 refine FJ.again ((k + 1), List.set css k [.string (mtext (n + (sumF cnt_DEnt (List.take k x) : Int))), .int .i64 ((n + (sumF cnt_DEnt (List.take k x) : Int)) + 1)]) ⟨by omega, by rw [List.length_set]; exact hlcss⟩ (by first | omega | (dsimp only; omega)) (.c .z (.c (.s16 (.s4 (.s (.s (.s .z))))) (.c (.s16 (.s4 (.s4 .z))) (.e (.s (.s (.s .z))) (congrArg (Value.int .i64) (by omega)) .n)))) (fun _ h => h.sel (.c (.s .z) (.c (.s .z) (.c .z .n))))
 refine FJ.exit (FJ.thenE (FJ.thenE (FJ.inB (FJ.then_ ?_))))
 refine FJ.seq (FJ.region (FJ.ql rfl (q_move rfl (.t (.s4 (.s (.s (.s .z)))))) (FJ.er (.s4 (.s (.s .z))) (FJ.ql rfl (q_assign rfl (.t .z)) ?_))))
 refine FJ.nil (FJ.then_ (FJ.ret ?_))
 refine FJ.turns (c := ownA kSl_151 ((markL cnt_DEnt mark_DEnt) n x) [.slice Ao1 x.length co1]) (.c (.s .z) (.c .z .n)) (raw_own' (by rw [markL_len, hlcss]) (by rw [List.take_of_length_le (by omega)]) (by rw [List.take_of_length_le (by omega)])) ?_
 refine FJ.doneS (res1 rfl .z) (.c .z .n) ?_
 exact ⟨by rw [sumF_all _ (by omega)], rfl⟩

set_option maxHeartbeats 1000000 in
set_option maxRecDepth 20000 in
theorem c_68 {w0 : World} {S0 : Bs} {x : (List DInode)} {v0 : Value} (n : Int) (hs : Star [ownA kSl_73 x [v0]] w0 S0) (hn0 : 0 ≤ n) (hn1 : n + ((sumF cnt_DInode x) : Int) ≤ 4611686018427387904) :
    Calls Tryz.prog 68 #[v0, .int .i64 n] w0 (TriPost w0 S0 (fun r l => r = .int .i64 (n + ((sumF cnt_DInode x) : Int)) ∧ l = [ownA kSl_73 ((markL cnt_DInode mark_DInode) n x) [v0]])) := by
 refine FJ.enter (N := 48) Tryz.func68 rfl rfl (by simp) [(0, v0), (1, .int .i64 n)] (by simp) hs ?_
 refine FJ.know (WS.oform .z) ?_
 rintro ⟨Ao1, co1, rfl, hlo1, hmo1, hbo1⟩
 refine FJ.open (.c .z .n) own_raw ?_
 rintro css hlcss
 refine FJ.add (c := seqC kT_73 [] []) seqC_nil ?_
 refine FJ.seq (FJ.region (FJ.ql rfl (q_assign rfl .c) (FJ.nil (FJ.then_ ?_))))
 refine FJ.seq (FJ.seq (FJ.region (FJ.ql rfl (q_assign rfl .c) (FJ.nil ?_))))
 refine FJ.then_ (FJ.block ?_)
 refine FJ.loopi (γ := Nat × (List (List Value))) (fun ⟨k, css⟩ => [(5, .int .i64 (k : Int)), (4, .int .i64 0), (0, .slice Ao1 x.length co1), (1, .int .i64 (n + (sumF cnt_DInode (List.take k x) : Int)))]) (fun ⟨k, css⟩ => [seqC kT_73 (markL cnt_DInode mark_DInode n (List.take k x)) (List.take k css), ownA (kslice 73 72 (kraw kT_73.sz kT_73.pos)) css [.slice Ao1 x.length co1], seqC kT_73 (List.drop k x) (List.drop k css)]) (fun ⟨k, css⟩ => k ≤ x.length ∧ css.length = x.length) (fun ⟨k, css⟩ => x.length - k) (0, css) ⟨Nat.zero_le _, hlcss⟩ (.c .z (.c (.s .z) (.c (.s (.s .z)) (.e (.s (.s (.s .z))) (congrArg (Value.int .i64) (by simp only [List.take_zero, sumF]; omega)) .n)))) (fun _ h => h.sel (.c .z (.c .z (.c .z .n)))) ?_
 rintro ⟨k, css⟩ ⟨hk, hlcss⟩
 have hle := sumF_le (f := cnt_DInode) (xs := x) (k := k)
 refine FJ.seq (FJ.seq (FJ.region (FJ.ql rfl (q_move rfl (.t .z)) (FJ.ql rfl (q_move rfl (.t (.s (.s (.s .z))))) ?_))))
 refine FJ.ql rfl (q_len rfl u_29 (.t .z)) (FJ.ql rfl (q_lss rfl (.t (.s (.s .z))) (.t .z)) (FJ.nil (FJ.then_ ?_)))
 refine FJ.condP (.t .z) (fun b2 => ?_) (fun b2 => ?_)
 refine FJ.skip (FJ.then_ (FJ.seq (FJ.block (FJ.seq ?_))))
 refine FJ.region (FJ.ql rfl (q_move rfl (.t (.s4 (.s (.s .z))))) (FJ.ql rfl (q_move rfl (.t (.s4 (.s .z)))) (FJ.ql rfl (q_move rfl (.t (.s4 (.s4 (.s .z))))) ?_)))
 refine FJ.know (WS.oad (.s .z) (by omega)) ?_
 rintro ⟨ad3, rfl⟩
 obtain ⟨c4, hc4⟩ := get_ex (xs := css) (j := k) (by omega)
 obtain ⟨y5, hy5⟩ := get_ex (xs := x) (j := k) (by omega)
 refine FJ.turn (.s (.s .z)) (seq_pop hy5 hc4) ?_
 refine FJ.open (.c .z .n) kT_73_op ?_
 rintro ⟨v6, v7⟩ rfl
 refine FJ.know (WS.oform .z) ?_
 rintro ⟨Ao10, co10, rfl, hlo10, hmo10, hbo10⟩
 refine FJ.know (WS.oform (.s .z)) ?_
 rintro ⟨Ao11, co11, rfl, hlo11, hmo11, hbo11⟩
 have gy5 := sumF_get cnt_DInode hy5
 have ty5 := sumF_take cnt_DInode hy5
 simp only [cnt_DInode] at gy5 ty5
 refine FJ.ql rfl (q_indexAddr (j := k) rfl u_29 sz_73 (.t (.s (.s .z))) (.t (.s .z)) rfl (by omega)) ?_
 refine FJ.ql rfl (q_fieldAddr rfl (.t .z) (fun _ => fa_73_0 _ _)) ?_
 refine FJ.es (goes_list rfl) rfl (es_raw (j := k) (off := 0) (cs := [.int .i64 (n + (sumF cnt_DInode (List.take k x) : Int))]) rfl sz_2 (.t .z) rfl (.t (.s (.s .z))) rfl (ones rfl) (.s4 .z) hc4 (Nat.le_of_ble_eq_true rfl)) ?_
 refine FJ.ceq (x' := List.set css k [.int .i64 (n + (sumF cnt_DInode (List.take k x) : Int)), .int .i64 y5.links, .int .i64 y5.size, .slice Ao10 y5.blocks.length co10, .slice Ao11 y5.ents.length co11]) .z rfl ?_
 refine FJ.nil (FJ.then_ (FJ.seq (FJ.region (FJ.ql rfl (q_move rfl (.t (.s4 (.s4 (.s4 .z))))) ?_))))
 refine FJ.ql rfl (q_add (c := (n + (sumF cnt_DInode (List.take k x) : Int)) + 1) rfl (.t .z) .c (wr (by omega) (by omega) (by omega))) ?_
 refine FJ.er (.s4 (.s4 (.s4 (.s (.s .z))))) (FJ.ql rfl (q_assign rfl (.t .z)) (FJ.nil (FJ.then_ (FJ.seq ?_))))
 refine FJ.region (FJ.ql rfl (q_move rfl (.t (.s4 (.s4 (.s4 (.s (.s .z))))))) (FJ.ql rfl (q_move rfl (.t (.s4 (.s4 (.s4 (.s .z)))))) (FJ.ql rfl (q_move rfl (.t (.s (.s .z)))) ?_)))
 refine FJ.ql rfl (q_indexAddr (j := k) rfl u_29 sz_73 (.t (.s (.s .z))) (.t (.s .z)) rfl (by omega)) ?_
 refine FJ.ql rfl (q_fieldAddr rfl (.t .z) (fun _ => fa_73_1 _ _)) ?_
 refine FJ.es (goes_list rfl) rfl (es_raw (j := k) (off := 1) (cs := [.int .i64 ((n + (sumF cnt_DInode (List.take k x) : Int)) + 1)]) rfl sz_2 (.t .z) (add_add _ _ _) (.t (.s (.s .z))) rfl (ones rfl) .z (set_get hc4) (Nat.le_of_ble_eq_true rfl)) ?_
 refine FJ.ceq (x' := List.set css k [.int .i64 (n + (sumF cnt_DInode (List.take k x) : Int)), .int .i64 ((n + (sumF cnt_DInode (List.take k x) : Int)) + 1), .int .i64 y5.size, .slice Ao10 y5.blocks.length co10, .slice Ao11 y5.ents.length co11]) .z (List.set_set ..) ?_
 refine FJ.nil (FJ.then_ (FJ.seq (FJ.region (FJ.ql rfl (q_move rfl (.t (.s4 (.s .z)))) ?_))))
 refine FJ.ql rfl (q_add (c := ((n + (sumF cnt_DInode (List.take k x) : Int)) + 1) + 1) rfl (.t .z) .c (wr (by omega) (by omega) (by omega))) ?_
 refine FJ.er (.s4 (.s (.s (.s .z)))) (FJ.ql rfl (q_assign rfl (.t .z)) (FJ.nil (FJ.then_ (FJ.seq ?_))))
 refine FJ.region (FJ.ql rfl (q_move rfl (.t (.s16 (.s4 (.s .z))))) (FJ.ql rfl (q_move rfl (.t (.s16 (.s4 .z)))) (FJ.ql rfl (q_move rfl (.t (.s (.s .z)))) ?_)))
 refine FJ.ql rfl (q_indexAddr (j := k) rfl u_29 sz_73 (.t (.s (.s .z))) (.t (.s .z)) rfl (by omega)) ?_
 refine FJ.ql rfl (q_fieldAddr rfl (.t .z) (fun _ => fa_73_2 _ _)) ?_
 refine FJ.es (goes_list rfl) rfl (es_raw (j := k) (off := 2) (cs := [.int .i64 (((n + (sumF cnt_DInode (List.take k x) : Int)) + 1) + 1)]) rfl sz_2 (.t .z) (add_add _ _ _) (.t (.s (.s .z))) rfl (ones rfl) .z (set_get hc4) (Nat.le_of_ble_eq_true rfl)) ?_
 refine FJ.ceq (x' := List.set css k [.int .i64 (n + (sumF cnt_DInode (List.take k x) : Int)), .int .i64 ((n + (sumF cnt_DInode (List.take k x) : Int)) + 1), .int .i64 (((n + (sumF cnt_DInode (List.take k x) : Int)) + 1) + 1), .slice Ao10 y5.blocks.length co10, .slice Ao11 y5.ents.length co11]) .z (List.set_set ..) ?_
 refine FJ.nil (FJ.then_ (FJ.seq (FJ.region (FJ.ql rfl (q_move rfl (.t (.s4 (.s .z)))) ?_))))
 refine FJ.ql rfl (q_add (c := (((n + (sumF cnt_DInode (List.take k x) : Int)) + 1) + 1) + 1) rfl (.t .z) .c (wr (by omega) (by omega) (by omega))) ?_
 refine FJ.er (.s4 (.s (.s (.s .z)))) (FJ.ql rfl (q_assign rfl (.t .z)) (FJ.nil (FJ.then_ (FJ.seq ?_))))
 refine FJ.region (FJ.ql rfl (q_move rfl (.t (.s16 (.s4 (.s4 (.s4 .z)))))) (FJ.ql rfl (q_move rfl (.t (.s16 (.s4 (.s4 (.s (.s (.s .z)))))))) ?_))
 refine FJ.ql rfl (q_indexAddr (j := k) rfl u_29 sz_73 (.t (.s .z)) (.t .z) rfl (by omega)) ?_
 refine FJ.ql rfl (q_fieldAddr rfl (.t .z) (fun _ => fa_73_3 _ _)) (FJ.ql rfl (q_load rfl ag_27 (.t .z) (WS.raw .z (set_get hc4) rfl)) (FJ.ql rfl (q_move rfl (.t (.s4 (.s .z)))) ?_))
 refine FJ.call (goes_list rfl) rfl (by decide) rfl (c_call rfl Tryz.func23 rfl rfl (args2 (.t (.s .z)) (.t .z))) (.c (.s .z) .n) (fun w1 S1 hs tr => c_23 _ hs (by omega) (by first | omega | (omega))) ?_
 rintro _ _ ⟨rfl, rfl⟩
 refine FJ.cat (.c .n) ?_
 refine FJ.er (.s4 (.s (.s (.s .z)))) (FJ.ql rfl (q_assign rfl (.t .z)) (FJ.nil (FJ.then_ (FJ.region ?_))))
 refine FJ.ql rfl (q_move rfl (.t (.s16 (.s16 (.s (.s (.s .z))))))) (FJ.ql rfl (q_move rfl (.t (.s16 (.s16 (.s (.s .z)))))) ?_)
 refine FJ.ql rfl (q_indexAddr (j := k) rfl u_29 sz_73 (.t (.s .z)) (.t .z) rfl (by omega)) ?_
 refine FJ.ql rfl (q_fieldAddr rfl (.t .z) (fun _ => fa_73_4 _ _)) (FJ.ql rfl (q_load rfl ag_71 (.t .z) (WS.raw (.s .z) (set_get hc4) rfl)) (FJ.ql rfl (q_move rfl (.t (.s4 (.s .z)))) ?_))
 refine FJ.call (goes_list rfl) rfl (by decide) rfl (c_call rfl Tryz.func129 rfl rfl (args2 (.t (.s .z)) (.t .z))) (.c (.s (.s .z)) .n) (fun w1 S1 hs tr => c_129 _ hs (by omega) (by first | omega | (omega))) ?_
 rintro _ _ ⟨rfl, rfl⟩
 refine FJ.cat (.c .n) ?_
 refine FJ.er (.s4 (.s (.s (.s .z)))) (FJ.ql rfl (q_assign rfl (.t .z)) (FJ.nil (FJ.inBN (FJ.then_ ?_))))
 refine FJ.region (FJ.ql rfl (q_move rfl (.t (.s16 (.s16 (.s4 (.s4 .z)))))) ?_)
 refine FJ.ql rfl (q_add (c := ((k + 1 : Nat) : Int)) rfl (.t .z) .c (wr (by omega) (by omega) (by omega))) ?_
 refine FJ.er (.s16 (.s16 (.s4 (.s4 (.s (.s .z)))))) (FJ.ql rfl (q_assign rfl (.t .z)) (FJ.nil ?_))
 refine FJ.turns (c := ownA kT_73 (mark_DInode (n + (sumF cnt_DInode (List.take k x) : Int)) y5) [.int .i64 (n + (sumF cnt_DInode (List.take k x) : Int)), .int .i64 ((n + (sumF cnt_DInode (List.take k x) : Int)) + 1), .int .i64 (((n + (sumF cnt_DInode (List.take k x) : Int)) + 1) + 1), .slice Ao10 y5.blocks.length co10, .slice Ao11 y5.ents.length co11]) (.c (.s .z) (.c .z .n)) (fun w S h => kT_73_omk (mark_DInode (n + (sumF cnt_DInode (List.take k x) : Int)) y5) h) ?_
 refine FJ.turns (c := seqC kT_73 (markL cnt_DInode mark_DInode n (List.take (k + 1) x)) (List.take (k + 1) (List.set css k [.int .i64 (n + (sumF cnt_DInode (List.take k x) : Int)), .int .i64 ((n + (sumF cnt_DInode (List.take k x) : Int)) + 1), .int .i64 (((n + (sumF cnt_DInode (List.take k x) : Int)) + 1) + 1), .slice Ao10 y5.blocks.length co10, .slice Ao11 y5.ents.length co11]))) (.c (.s (.s (.s .z))) (.c .z .n)) (seq_snoc' (by rw [markL_len, List.length_take, List.length_take, hlcss]) (by rw [markL_take _ hy5]) (take_set hc4)) ?_
 refine FJ.turns (c := seqC kT_73 (List.drop (k + 1) x) (List.drop (k + 1) (List.set css k [.int .i64 (n + (sumF cnt_DInode (List.take k x) : Int)), .int .i64 ((n + (sumF cnt_DInode (List.take k x) : Int)) + 1), .int .i64 (((n + (sumF cnt_DInode (List.take k x) : Int)) + 1) + 1), .slice Ao10 y5.blocks.length co10, .slice Ao11 y5.ents.length co11]))) (.c (.s (.s .z)) .n) (fun w S h => seq_same rfl drop_set w S (h.head (c := seqC _ _ _))) ?_
 refine FJ.again ((k + 1), List.set css k [.int .i64 (n + (sumF cnt_DInode (List.take k x) : Int)), .int .i64 ((n + (sumF cnt_DInode (List.take k x) : Int)) + 1), .int .i64 (((n + (sumF cnt_DInode (List.take k x) : Int)) + 1) + 1), .slice Ao10 y5.blocks.length co10, .slice Ao11 y5.ents.length co11]) ⟨by omega, by rw [List.length_set]; exact hlcss⟩ (by first | omega | (dsimp only; omega)) (.c .z (.c (.s16 (.s16 (.s4 (.s4 (.s (.s (.s .z))))))) (.c (.s16 (.s16 (.s4 (.s4 (.s4 .z))))) (.e (.s (.s (.s .z))) (congrArg (Value.int .i64) (by omega)) .n)))) (fun _ h => h.sel (.c (.s .z) (.c (.s .z) (.c .z .n))))
 refine FJ.exit (FJ.thenE (FJ.thenE (FJ.inB (FJ.then_ ?_))))
 refine FJ.seq (FJ.region (FJ.ql rfl (q_move rfl (.t (.s4 (.s (.s (.s .z)))))) (FJ.er (.s4 (.s (.s .z))) (FJ.ql rfl (q_assign rfl (.t .z)) ?_))))
 refine FJ.nil (FJ.then_ (FJ.ret ?_))
 refine FJ.turns (c := ownA kSl_73 ((markL cnt_DInode mark_DInode) n x) [.slice Ao1 x.length co1]) (.c (.s .z) (.c .z .n)) (raw_own' (by rw [markL_len, hlcss]) (by rw [List.take_of_length_le (by omega)]) (by rw [List.take_of_length_le (by omega)])) ?_
 refine FJ.doneS (res1 rfl .z) (.c .z .n) ?_
 exact ⟨by rw [sumF_all _ (by omega)], rfl⟩

set_option maxHeartbeats 1000000 in
set_option maxRecDepth 20000 in
theorem c_22 {w0 : World} {S0 : Bs} {x : (List UInt8)} {v0 : Value} (n : Int) (hs : Star [ownA kSl_5 x [v0]] w0 S0) (hn0 : 0 ≤ n) (hn1 : n + (x.length : Int) ≤ 4611686018427387904) :
    Calls Tryz.prog 22 #[v0, .int .i64 n] w0 (TriPost w0 S0 (fun r l => r = .int .i64 (n + (x.length : Int)) ∧ l = [ownA kSl_5 ((markL (fun _ => 1) (fun m _ => mbyte m)) n x) [v0]])) := by
 refine FJ.enter (N := 20) Tryz.func22 rfl rfl (by simp) [(0, v0), (1, .int .i64 n)] (by simp) hs ?_
 refine FJ.know (WS.oform .z) ?_
 rintro ⟨Ao1, co1, rfl, hlo1, hmo1, hbo1⟩
 refine FJ.seq (FJ.region (FJ.ql rfl (q_assign rfl .c) (FJ.nil (FJ.then_ ?_))))
 refine FJ.seq (FJ.seq (FJ.region (FJ.ql rfl (q_assign rfl .c) (FJ.nil ?_))))
 refine FJ.then_ (FJ.block ?_)
 refine FJ.ceq .z (markS_zero (fun m _ => mbyte m) n x) ?_
 refine FJ.loopi (γ := Nat) (fun k => [(5, .int .i64 (k : Int)), (4, .int .i64 0), (0, .slice Ao1 x.length co1), (1, .int .i64 (n + (k : Int)))]) (fun k => [ownA kSl_5 (markS (fun m _ => mbyte m) n x k) [.slice Ao1 x.length co1]]) (fun k => k ≤ x.length) (fun k => x.length - k) 0 (Nat.zero_le _) (.c .z (.c (.s .z) (.c (.s (.s .z)) (.e (.s (.s (.s .z))) (congrArg (Value.int .i64) (by omega)) .n)))) (fun _ h => h.sel (.c .z .n)) ?_
 rintro k hk
 refine FJ.seq (FJ.seq (FJ.region (FJ.ql rfl (q_move rfl (.t .z)) (FJ.ql rfl (q_move rfl (.t (.s (.s (.s .z))))) ?_))))
 refine FJ.ql rfl (q_len rfl u_26 (.t .z)) (FJ.ql rfl (q_lss rfl (.t (.s (.s .z))) (.t .z)) (FJ.nil (FJ.then_ ?_)))
 refine FJ.condP (.t .z) (fun b2 => ?_) (fun b2 => ?_)
 refine FJ.skip (FJ.then_ (FJ.seq (FJ.block (FJ.seq ?_))))
 refine FJ.region (FJ.ql rfl (q_move rfl (.t (.s4 (.s (.s .z))))) (FJ.ql rfl (q_move rfl (.t (.s4 (.s .z)))) (FJ.ql rfl (q_move rfl (.t (.s4 (.s4 (.s .z))))) (FJ.ql rfl (q_conv (c := ((mbyte (n + (k : Int))).toNat : Int)) rfl (.t .z) u_3 u_5 (mbyte_wrap _)) ?_))))
 refine FJ.know (WS.oad .z (by rw [markS_len (by omega)]; omega)) ?_
 rintro ⟨ad3, rfl⟩
 refine FJ.ql rfl (q_indexAddr (j := k) rfl u_26 sz_5 (.t (.s (.s (.s .z)))) (.t (.s (.s .z))) rfl (by first | omega | (rw [markS_len (by omega)]; omega))) ?_
 refine FJ.add (c := ownA kbyte (mbyte (n + (k : Int))) [.int .u8 ((mbyte (n + (k : Int))).toNat : Int)]) (fun _ _ => ⟨rfl, trivial⟩) ?_
 refine FJ.es (goes_list rfl) rfl (es_set (j := k) rfl sz_5 (.t .z) (.t (.s .z)) rfl (.c (.s .z) (.c .z .n)) (by first | omega | (rw [markS_len (by omega)]; omega))) ?_
 obtain ⟨y, hy⟩ := get_ex (xs := x) (j := k) (by omega)
 refine FJ.ceq .z (markS_set (mk := (fun m _ => mbyte m)) hy) ?_
 refine FJ.nil (FJ.then_ (FJ.region (FJ.ql rfl (q_move rfl (.t (.s4 (.s4 (.s4 .z))))) ?_)))
 refine FJ.ql rfl (q_add (c := (n + (k : Int)) + 1) rfl (.t .z) .c (wr (by omega) (by omega) (by omega))) ?_
 refine FJ.er (.s4 (.s4 (.s4 (.s (.s .z))))) (FJ.ql rfl (q_assign rfl (.t .z)) (FJ.nil (FJ.inBN (FJ.then_ ?_))))
 refine FJ.region (FJ.ql rfl (q_move rfl (.t (.s4 (.s4 (.s4 .z))))) ?_)
 refine FJ.ql rfl (q_add (c := ((k + 1 : Nat) : Int)) rfl (.t .z) .c (wr (by omega) (by omega) (by omega))) ?_
 refine FJ.er (.s4 (.s4 (.s4 (.s (.s .z))))) (FJ.ql rfl (q_assign rfl (.t .z)) (FJ.nil ?_))
 refine FJ.again (k + 1) (by omega) (by first | omega | (dsimp only; omega)) (.c .z (.c (.s4 (.s4 (.s4 (.s (.s (.s .z)))))) (.c (.s16 .z) (.e (.s (.s (.s .z))) (congrArg (Value.int .i64) (by omega)) .n)))) (fun _ h => h.sel (.c .z .n))
 refine FJ.exit (FJ.thenE (FJ.thenE (FJ.inB (FJ.then_ ?_))))
 refine FJ.seq (FJ.region (FJ.ql rfl (q_move rfl (.t (.s4 (.s (.s (.s .z)))))) (FJ.er (.s4 (.s (.s .z))) (FJ.ql rfl (q_assign rfl (.t .z)) ?_))))
 refine FJ.nil (FJ.then_ (FJ.ret ?_))
 refine FJ.ceq .z (markS_all (by omega)) ?_
 refine FJ.doneS (res1 rfl .z) (.c .z .n) ?_
 exact ⟨congrArg (Value.int .i64) (by omega), rfl⟩

set_option maxHeartbeats 1000000 in
set_option maxRecDepth 20000 in
theorem c_69 {w0 : World} {S0 : Bs} {x : (List (List UInt8))} {v0 : Value} (n : Int) (hs : Star [ownA kSl_26 x [v0]] w0 S0) (hn0 : 0 ≤ n) (hn1 : n + ((sumF (fun x => x.length) x) : Int) ≤ 4611686018427387904) :
    Calls Tryz.prog 69 #[v0, .int .i64 n] w0 (TriPost w0 S0 (fun r l => r = .int .i64 (n + ((sumF (fun x => x.length) x) : Int)) ∧ l = [ownA kSl_26 ((markL (fun x => x.length) (markL (fun _ => 1) (fun m _ => mbyte m))) n x) [v0]])) := by
 refine FJ.enter (N := 19) Tryz.func69 rfl rfl (by simp) [(0, v0), (1, .int .i64 n)] (by simp) hs ?_
 refine FJ.know (WS.oform .z) ?_
 rintro ⟨Ao1, co1, rfl, hlo1, hmo1, hbo1⟩
 refine FJ.open (.c .z .n) own_raw ?_
 rintro css hlcss
 refine FJ.add (c := seqC kSl_5 [] []) seqC_nil ?_
 refine FJ.seq (FJ.region (FJ.ql rfl (q_assign rfl .c) (FJ.nil (FJ.then_ ?_))))
 refine FJ.seq (FJ.seq (FJ.region (FJ.ql rfl (q_assign rfl .c) (FJ.nil ?_))))
 refine FJ.then_ (FJ.block ?_)
 refine FJ.loopi (γ := Nat) (fun k => [(5, .int .i64 (k : Int)), (4, .int .i64 0), (0, .slice Ao1 x.length co1), (1, .int .i64 (n + (sumF (fun x => x.length) (List.take k x) : Int)))]) (fun k => [seqC kSl_5 (markL (fun x => x.length) (markL (fun _ => 1) (fun m _ => mbyte m)) n (List.take k x)) (List.take k css), ownA (kslice 26 24 (kraw kSl_5.sz kSl_5.pos)) css [.slice Ao1 x.length co1], seqC kSl_5 (List.drop k x) (List.drop k css)]) (fun k => k ≤ x.length) (fun k => x.length - k) 0 (Nat.zero_le _) (.c .z (.c (.s .z) (.c (.s (.s .z)) (.e (.s (.s (.s .z))) (congrArg (Value.int .i64) (by simp only [List.take_zero, sumF]; omega)) .n)))) (fun _ h => h.sel (.c .z (.c .z (.c .z .n)))) ?_
 rintro k hk
 have hle := sumF_le (f := (fun x => x.length)) (xs := x) (k := k)
 refine FJ.seq (FJ.seq (FJ.region (FJ.ql rfl (q_move rfl (.t .z)) (FJ.ql rfl (q_move rfl (.t (.s (.s (.s .z))))) ?_))))
 refine FJ.ql rfl (q_len rfl u_23 (.t .z)) (FJ.ql rfl (q_lss rfl (.t (.s (.s .z))) (.t .z)) (FJ.nil (FJ.then_ ?_)))
 refine FJ.condP (.t .z) (fun b2 => ?_) (fun b2 => ?_)
 refine FJ.skip (FJ.then_ (FJ.seq (FJ.block (FJ.region ?_))))
 refine FJ.ql rfl (q_move rfl (.t (.s4 (.s (.s .z))))) (FJ.ql rfl (q_move rfl (.t (.s4 (.s .z)))) ?_)
 refine FJ.know (WS.oad (.s .z) (by omega)) ?_
 rintro ⟨ad3, rfl⟩
 obtain ⟨c4, hc4⟩ := get_ex (xs := css) (j := k) (by omega)
 obtain ⟨y5, hy5⟩ := get_ex (xs := x) (j := k) (by omega)
 refine FJ.turn (.s (.s .z)) (seq_pop hy5 hc4) ?_
 refine FJ.know (WS.osl1 .z) ?_
 rintro ⟨vl6, rfl⟩
 refine FJ.know (WS.oform .z) ?_
 rintro ⟨Ao7, co7, rfl, hlo7, hmo7, hbo7⟩
 have gy5 := sumF_get (fun x => x.length) hy5
 have ty5 := sumF_take (fun x => x.length) hy5
 try simp only at gy5 ty5
 refine FJ.ql rfl (q_indexAddr (j := k) rfl u_23 sz_26 (.t (.s .z)) (.t .z) rfl (by omega)) ?_
 refine FJ.ql rfl (q_load rfl ag_26 (.t .z) (WS.raw0 (.s (.s (.s .z))) hc4 rfl)) (FJ.ql rfl (q_move rfl (.t (.s4 (.s4 (.s (.s (.s .z))))))) ?_)
 refine FJ.call (goes_list rfl) rfl (by decide) rfl (c_call rfl Tryz.func22 rfl rfl (args2 (.t (.s .z)) (.t .z))) (.c .z .n) (fun w1 S1 hs tr => c_22 _ hs (by omega) (by first | omega | (omega))) ?_
 rintro _ _ ⟨rfl, rfl⟩
 refine FJ.cat (.c .n) ?_
 refine FJ.er (.s4 (.s4 (.s4 (.s .z)))) (FJ.ql rfl (q_assign rfl (.t .z)) (FJ.nil (FJ.inBN (FJ.then_ ?_))))
 refine FJ.region (FJ.ql rfl (q_move rfl (.t (.s4 (.s4 (.s (.s (.s .z))))))) ?_)
 refine FJ.ql rfl (q_add (c := ((k + 1 : Nat) : Int)) rfl (.t .z) .c (wr (by omega) (by omega) (by omega))) ?_
 refine FJ.er (.s4 (.s4 (.s4 (.s .z)))) (FJ.ql rfl (q_assign rfl (.t .z)) (FJ.nil ?_))
 refine FJ.turns (c := seqC kSl_5 (markL (fun x => x.length) (markL (fun _ => 1) (fun m _ => mbyte m)) n (List.take (k + 1) x)) (List.take (k + 1) css)) (.c (.s (.s .z)) (.c .z .n)) (seq_snoc' (by rw [markL_len, List.length_take, List.length_take, hlcss]) (by rw [markL_take _ hy5]) (take_get hc4).symm) ?_
 refine FJ.again (k + 1) (by omega) (by first | omega | (dsimp only; omega)) (.c .z (.c (.s4 (.s4 (.s4 (.s (.s .z))))) (.c (.s4 (.s4 (.s4 (.s (.s (.s .z)))))) (.e (.s (.s (.s .z))) (congrArg (Value.int .i64) (by omega)) .n)))) (fun _ h => h.sel (.c .z (.c (.s .z) (.c .z .n))))
 refine FJ.exit (FJ.thenE (FJ.thenE (FJ.inB (FJ.then_ ?_))))
 refine FJ.seq (FJ.region (FJ.ql rfl (q_move rfl (.t (.s4 (.s (.s (.s .z)))))) (FJ.er (.s4 (.s (.s .z))) (FJ.ql rfl (q_assign rfl (.t .z)) ?_))))
 refine FJ.nil (FJ.then_ (FJ.ret ?_))
 refine FJ.turns (c := ownA kSl_26 ((markL (fun x => x.length) (markL (fun _ => 1) (fun m _ => mbyte m))) n x) [.slice Ao1 x.length co1]) (.c (.s .z) (.c .z .n)) (raw_own' (by rw [markL_len, hlcss]) (by rw [List.take_of_length_le (by omega)]) (by rw [List.take_of_length_le (by omega)])) ?_
 refine FJ.doneS (res1 rfl .z) (.c .z .n) ?_
 exact ⟨by rw [sumF_all _ (by omega)], rfl⟩

set_option maxHeartbeats 1000000 in
set_option maxRecDepth 20000 in
theorem c_21 {w0 : World} {S0 : Bs} {x : DFs} {v0_0 : Value} {v0_1 : Value} (n : Int) (hs : Star [ownA kSl_73 x.inodes [v0_0], ownA kSl_26 x.data [v0_1]] w0 S0) (hn0 : 0 ≤ n) (hn1 : n + ((vcnt_DFs x) : Int) ≤ 4611686018427387904) :
    Calls Tryz.prog 21 #[.agg #[v0_0, v0_1], .int .i64 n] w0 (TriPost w0 S0 (fun r l => r = .int .i64 (n + ((vcnt_DFs x) : Int)) ∧ l = [ownA kSl_73 (vmark_DFs n x).inodes [v0_0], ownA kSl_26 (vmark_DFs n x).data [v0_1]])) := by
 simp only [vcnt_DFs] at hn1
 refine FJ.enter (N := 14) Tryz.func21 rfl rfl (by simp) [(0, .agg #[v0_0, v0_1]), (1, .int .i64 n)] (by simp) hs ?_
 refine FJ.know (WS.oform .z) ?_
 rintro ⟨Ao1, co1, rfl, hlo1, hmo1, hbo1⟩
 refine FJ.know (WS.oform (.s .z)) ?_
 rintro ⟨Ao2, co2, rfl, hlo2, hmo2, hbo2⟩
 refine FJ.seq (FJ.region ?_)
 refine FJ.e (goes_list rfl) rfl (by decide) rfl (e_box (cs := [.slice Ao1 x.inodes.length co1, .slice Ao2 x.data.length co2]) (n := 2) rfl (.t .z) rfl rfl) ?_
 rintro _ _ ⟨g3, rfl, rfl⟩
 refine FJ.ql rfl (q_assign rfl .c) (FJ.nil (FJ.then_ (FJ.seq (FJ.region ?_))))
 refine FJ.ql rfl (q_fieldAddr rfl (.t (.s .z)) (fun _ => fa_31_0 _ _)) (FJ.ql rfl (q_load rfl ag_29 (.t .z) (WS.row .z rfl)) (FJ.ql rfl (q_move rfl (.t (.s4 (.s .z)))) ?_))
 refine FJ.call (goes_list rfl) rfl (by decide) rfl (c_call rfl Tryz.func68 rfl rfl (args2 (.t (.s .z)) (.t .z))) (.c (.s .z) .n) (fun w1 S1 hs tr => c_68 _ hs (by omega) (by first | omega | (omega))) ?_
 rintro _ _ ⟨rfl, rfl⟩
 refine FJ.cat (.c .n) ?_
 refine FJ.er (.s4 (.s (.s (.s .z)))) (FJ.ql rfl (q_assign rfl (.t .z)) (FJ.nil (FJ.then_ (FJ.seq ?_))))
 refine FJ.region (FJ.ql rfl (q_fieldAddr rfl (.t (.s4 (.s (.s .z)))) (fun _ => fa_31_1 _ _)) (FJ.ql rfl (q_load rfl ag_23 (.t .z) (WS.row (.s .z) rfl)) (FJ.ql rfl (q_move rfl (.t (.s (.s .z)))) ?_)))
 refine FJ.call (goes_list rfl) rfl (by decide) rfl (c_call rfl Tryz.func69 rfl rfl (args2 (.t (.s .z)) (.t .z))) (.c (.s (.s .z)) .n) (fun w1 S1 hs tr => c_69 _ hs (by omega) (by first | omega | (omega))) ?_
 rintro _ _ ⟨rfl, rfl⟩
 refine FJ.cat (.c .n) ?_
 refine FJ.er (.s4 .z) (FJ.ql rfl (q_assign rfl (.t .z)) (FJ.nil (FJ.then_ (FJ.seq ?_))))
 refine FJ.region (FJ.ql rfl (q_move rfl (.t .z)) (FJ.er (.s4 (.s4 (.s (.s .z)))) (FJ.ql rfl (q_assign rfl (.t .z)) (FJ.nil ?_))))
 refine FJ.then_ (FJ.ret ?_)
 refine FJ.doneS (res1 rfl .z) (.c (.s .z) (.c .z .n)) ?_
 exact ⟨congrArg (Value.int .i64) (by simp only [vcnt_DFs]; omega), rfl⟩
end Go.Proofs.YticaddophhggoaaGreat

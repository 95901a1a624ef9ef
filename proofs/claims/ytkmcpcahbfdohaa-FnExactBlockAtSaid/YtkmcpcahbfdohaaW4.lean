/- What is proved: contracts of functions, one a function. No condition. -/
import Derived.Test.YtkmcpcahbfdohaaW2
namespace Go.Proofs.Ytkmcpcahbfdohaa
open Go Go.RowKit
set_option linter.unusedVariables false
set_option linter.unusedSimpArgs false
set_option maxHeartbeats 1000000 in
set_option maxRecDepth 20000 in
theorem c_59 {w0 : World} {S0 : Bs} {x : (List Int)} {v0 : Value} (n : Int) (hs : Star [ownA kSl_2 x [v0]] w0 S0) (hn0 : 0 ≤ n) (hn1 : n + (x.length : Int) ≤ 4611686018427387904) :
    Calls Try.prog 59 #[v0, .int .i64 n] w0 (TriPost w0 S0 (fun r l => r = .int .i64 (n + (x.length : Int)) ∧ l = [ownA kSl_2 ((markL (fun _ => 1) (fun m _ => m)) n x) [v0]])) := by
 refine FJ.enter (N := 19) Try.func59 rfl rfl (by simp) [(0, v0), (1, .int .i64 n)] (by simp) hs ?_
 refine FJ.know (WS.oform .z) ?_
 rintro ⟨Ao1, co1, rfl, hlo1, hmo1, hbo1⟩
 refine FJ.seq (FJ.region (FJ.ql rfl (q_assign rfl .c) (FJ.nil (FJ.then_ ?_))))
 refine FJ.seq (FJ.seq (FJ.region (FJ.ql rfl (q_assign rfl .c) (FJ.nil ?_))))
 refine FJ.then_ (FJ.block ?_)
 refine FJ.ceq .z (markS_zero (fun m _ => m) n x) ?_
 refine FJ.loopi (γ := Nat) (fun k => [(5, .int .i64 (k : Int)), (4, .int .i64 0), (0, .slice Ao1 x.length co1), (1, .int .i64 (n + (k : Int)))]) (fun k => [ownA kSl_2 (markS (fun m _ => m) n x k) [.slice Ao1 x.length co1]]) (fun k => k ≤ x.length) (fun k => x.length - k) 0 (Nat.zero_le _) (.c .z (.c (.s .z) (.c (.s (.s .z)) (.e (.s (.s (.s .z))) (congrArg (Value.int .i64) (by omega)) .n)))) (fun _ h => h.sel (.c .z .n)) ?_
 rintro k hk
 refine FJ.seq (FJ.seq (FJ.region (FJ.ql rfl (q_move rfl (.t .z)) (FJ.ql rfl (q_move rfl (.t (.s (.s (.s .z))))) ?_))))
 refine FJ.ql rfl (q_len rfl u_40 (.t .z)) (FJ.ql rfl (q_lss rfl (.t (.s (.s .z))) (.t .z)) (FJ.nil (FJ.then_ ?_)))
 refine FJ.condP (.t .z) (fun b2 => ?_) (fun b2 => ?_)
 refine FJ.skip (FJ.then_ (FJ.seq (FJ.block (FJ.seq ?_))))
 refine FJ.region (FJ.ql rfl (q_move rfl (.t (.s4 (.s (.s .z))))) (FJ.ql rfl (q_move rfl (.t (.s4 (.s .z)))) (FJ.ql rfl (q_move rfl (.t (.s4 (.s4 (.s .z))))) ?_)))
 refine FJ.know (WS.oad .z (by rw [markS_len (by omega)]; omega)) ?_
 rintro ⟨ad3, rfl⟩
 refine FJ.ql rfl (q_indexAddr (j := k) rfl u_40 sz_2 (.t (.s (.s .z))) (.t (.s .z)) rfl (by first | omega | (rw [markS_len (by omega)]; omega))) ?_
 refine FJ.add (c := ownA (kint .i64) (n + (k : Int)) [.int .i64 (n + (k : Int))]) (fun _ _ => ⟨rfl, trivial⟩) ?_
 refine FJ.es (goes_list rfl) rfl (es_set (j := k) rfl sz_2 (.t .z) (.t (.s .z)) rfl (.c (.s .z) (.c .z .n)) (by first | omega | (rw [markS_len (by omega)]; omega))) ?_
 obtain ⟨y, hy⟩ := get_ex (xs := x) (j := k) (by omega)
 refine FJ.ceq .z (markS_set (mk := (fun m _ => m)) hy) ?_
 refine FJ.nil (FJ.then_ (FJ.region (FJ.ql rfl (q_move rfl (.t (.s4 (.s4 (.s (.s (.s .z))))))) ?_)))
 refine FJ.ql rfl (q_add (c := (n + (k : Int)) + 1) rfl (.t .z) .c (wr (by omega) (by omega) (by omega))) ?_
 refine FJ.er (.s4 (.s4 (.s4 (.s .z)))) (FJ.ql rfl (q_assign rfl (.t .z)) (FJ.nil (FJ.inBN (FJ.then_ ?_))))
 refine FJ.region (FJ.ql rfl (q_move rfl (.t (.s4 (.s4 (.s (.s (.s .z))))))) ?_)
 refine FJ.ql rfl (q_add (c := ((k + 1 : Nat) : Int)) rfl (.t .z) .c (wr (by omega) (by omega) (by omega))) ?_
 refine FJ.er (.s4 (.s4 (.s4 (.s .z)))) (FJ.ql rfl (q_assign rfl (.t .z)) (FJ.nil ?_))
 refine FJ.again (k + 1) (by omega) (by first | omega | (dsimp only; omega)) (.c .z (.c (.s4 (.s4 (.s4 (.s (.s .z))))) (.c (.s4 (.s4 (.s4 (.s (.s (.s .z)))))) (.e (.s (.s (.s .z))) (congrArg (Value.int .i64) (by omega)) .n)))) (fun _ h => h.sel (.c .z .n))
 refine FJ.exit (FJ.thenE (FJ.thenE (FJ.inB (FJ.then_ ?_))))
 refine FJ.seq (FJ.region (FJ.ql rfl (q_move rfl (.t (.s4 (.s (.s (.s .z)))))) (FJ.er (.s4 (.s (.s .z))) (FJ.ql rfl (q_assign rfl (.t .z)) ?_))))
 refine FJ.nil (FJ.then_ (FJ.ret ?_))
 refine FJ.ceq .z (markS_all (by omega)) ?_
 refine FJ.doneS (res1 rfl .z) (.c .z .n) ?_
 exact ⟨congrArg (Value.int .i64) (by omega), rfl⟩

set_option maxHeartbeats 1000000 in
set_option maxRecDepth 20000 in
theorem c_107 {w0 : World} {S0 : Bs} {x : (List (List Int))} {v0 : Value} (n : Int) (hs : Star [ownA kSl_40 x [v0]] w0 S0) (hn0 : 0 ≤ n) (hn1 : n + ((sumF (fun x => x.length) x) : Int) ≤ 4611686018427387904) :
    Calls Try.prog 107 #[v0, .int .i64 n] w0 (TriPost w0 S0 (fun r l => r = .int .i64 (n + ((sumF (fun x => x.length) x) : Int)) ∧ l = [ownA kSl_40 ((markL (fun x => x.length) (markL (fun _ => 1) (fun m _ => m))) n x) [v0]])) := by
 refine FJ.enter (N := 19) Try.func107 rfl rfl (by simp) [(0, v0), (1, .int .i64 n)] (by simp) hs ?_
 refine FJ.know (WS.oform .z) ?_
 rintro ⟨Ao1, co1, rfl, hlo1, hmo1, hbo1⟩
 refine FJ.open (.c .z .n) own_raw ?_
 rintro css hlcss
 refine FJ.add (c := seqC kSl_2 [] []) seqC_nil ?_
 refine FJ.seq (FJ.region (FJ.ql rfl (q_assign rfl .c) (FJ.nil (FJ.then_ ?_))))
 refine FJ.seq (FJ.seq (FJ.region (FJ.ql rfl (q_assign rfl .c) (FJ.nil ?_))))
 refine FJ.then_ (FJ.block ?_)
 refine FJ.loopi (γ := Nat) (fun k => [(5, .int .i64 (k : Int)), (4, .int .i64 0), (0, .slice Ao1 x.length co1), (1, .int .i64 (n + (sumF (fun x => x.length) (List.take k x) : Int)))]) (fun k => [seqC kSl_2 (markL (fun x => x.length) (markL (fun _ => 1) (fun m _ => m)) n (List.take k x)) (List.take k css), ownA (kslice 40 24 (kraw kSl_2.sz kSl_2.pos)) css [.slice Ao1 x.length co1], seqC kSl_2 (List.drop k x) (List.drop k css)]) (fun k => k ≤ x.length) (fun k => x.length - k) 0 (Nat.zero_le _) (.c .z (.c (.s .z) (.c (.s (.s .z)) (.e (.s (.s (.s .z))) (congrArg (Value.int .i64) (by simp only [List.take_zero, sumF]; omega)) .n)))) (fun _ h => h.sel (.c .z (.c .z (.c .z .n)))) ?_
 rintro k hk
 have hle := sumF_le (f := (fun x => x.length)) (xs := x) (k := k)
 refine FJ.seq (FJ.seq (FJ.region (FJ.ql rfl (q_move rfl (.t .z)) (FJ.ql rfl (q_move rfl (.t (.s (.s (.s .z))))) ?_))))
 refine FJ.ql rfl (q_len rfl u_22 (.t .z)) (FJ.ql rfl (q_lss rfl (.t (.s (.s .z))) (.t .z)) (FJ.nil (FJ.then_ ?_)))
 refine FJ.condP (.t .z) (fun b2 => ?_) (fun b2 => ?_)
 refine FJ.skip (FJ.then_ (FJ.seq (FJ.block (FJ.region ?_))))
 refine FJ.ql rfl (q_move rfl (.t (.s4 (.s (.s .z))))) (FJ.ql rfl (q_move rfl (.t (.s4 (.s .z)))) ?_)
 refine FJ.know (WS.oad (.s .z) (by omega)) ?_
 rintro ⟨ad3, rfl⟩
 obtain ⟨c4, hc4⟩ := get_ex (xs := css) (j := k) (by omega)
 obtain ⟨y5, hy5⟩ := get_ex (xs := x) (j := k) (by omega)
 refine FJ.turn (.s (.s .z)) (seq_pop hy5 hc4) ?_
 refine FJ.know (WS.osl1 .z) ?_
 rintro ⟨vl6, rfl⟩
 refine FJ.know (WS.oform .z) ?_
 rintro ⟨Ao7, co7, rfl, hlo7, hmo7, hbo7⟩
 have gy5 := sumF_get (fun x => x.length) hy5
 have ty5 := sumF_take (fun x => x.length) hy5
 try simp only at gy5 ty5
 refine FJ.ql rfl (q_indexAddr (j := k) rfl u_22 sz_40 (.t (.s .z)) (.t .z) rfl (by omega)) ?_
 refine FJ.ql rfl (q_load rfl ag_40 (.t .z) (WS.raw0 (.s (.s (.s .z))) hc4 rfl)) (FJ.ql rfl (q_move rfl (.t (.s4 (.s4 (.s (.s (.s .z))))))) ?_)
 refine FJ.call (goes_list rfl) rfl (by decide) rfl (c_call rfl Try.func59 rfl rfl (args2 (.t (.s .z)) (.t .z))) (.c .z .n) (fun w1 S1 hs tr => c_59 _ hs (by omega) (by first | omega | (omega))) ?_
 rintro _ _ ⟨rfl, rfl⟩
 refine FJ.cat (.c .n) ?_
 refine FJ.er (.s4 (.s4 (.s4 (.s .z)))) (FJ.ql rfl (q_assign rfl (.t .z)) (FJ.nil (FJ.inBN (FJ.then_ ?_))))
 refine FJ.region (FJ.ql rfl (q_move rfl (.t (.s4 (.s4 (.s (.s (.s .z))))))) ?_)
 refine FJ.ql rfl (q_add (c := ((k + 1 : Nat) : Int)) rfl (.t .z) .c (wr (by omega) (by omega) (by omega))) ?_
 refine FJ.er (.s4 (.s4 (.s4 (.s .z)))) (FJ.ql rfl (q_assign rfl (.t .z)) (FJ.nil ?_))
 refine FJ.turns (c := seqC kSl_2 (markL (fun x => x.length) (markL (fun _ => 1) (fun m _ => m)) n (List.take (k + 1) x)) (List.take (k + 1) css)) (.c (.s (.s .z)) (.c .z .n)) (seq_snoc' (by rw [markL_len, List.length_take, List.length_take, hlcss]) (by rw [markL_take _ hy5]) (take_get hc4).symm) ?_
 refine FJ.again (k + 1) (by omega) (by first | omega | (dsimp only; omega)) (.c .z (.c (.s4 (.s4 (.s4 (.s (.s .z))))) (.c (.s4 (.s4 (.s4 (.s (.s (.s .z)))))) (.e (.s (.s (.s .z))) (congrArg (Value.int .i64) (by omega)) .n)))) (fun _ h => h.sel (.c .z (.c (.s .z) (.c .z .n))))
 refine FJ.exit (FJ.thenE (FJ.thenE (FJ.inB (FJ.then_ ?_))))
 refine FJ.seq (FJ.region (FJ.ql rfl (q_move rfl (.t (.s4 (.s (.s (.s .z)))))) (FJ.er (.s4 (.s (.s .z))) (FJ.ql rfl (q_assign rfl (.t .z)) ?_))))
 refine FJ.nil (FJ.then_ (FJ.ret ?_))
 refine FJ.turns (c := ownA kSl_40 ((markL (fun x => x.length) (markL (fun _ => 1) (fun m _ => m))) n x) [.slice Ao1 x.length co1]) (.c (.s .z) (.c .z .n)) (raw_own' (by rw [markL_len, hlcss]) (by rw [List.take_of_length_le (by omega)]) (by rw [List.take_of_length_le (by omega)])) ?_
 refine FJ.doneS (res1 rfl .z) (.c .z .n) ?_
 exact ⟨by rw [sumF_all _ (by omega)], rfl⟩

set_option maxHeartbeats 1000000 in
set_option maxRecDepth 20000 in
theorem c_108 {w0 : World} {S0 : Bs} {x : (List DPut)} {v0 : Value} (n : Int) (hs : Star [ownA kSl_57 x [v0]] w0 S0) (hn0 : 0 ≤ n) (hn1 : n + ((sumF cnt_DPut x) : Int) ≤ 4611686018427387904) :
    Calls Try.prog 108 #[v0, .int .i64 n] w0 (TriPost w0 S0 (fun r l => r = .int .i64 (n + ((sumF cnt_DPut x) : Int)) ∧ l = [ownA kSl_57 ((markL cnt_DPut mark_DPut) n x) [v0]])) := by
 refine FJ.enter (N := 27) Try.func108 rfl rfl (by simp) [(0, v0), (1, .int .i64 n)] (by simp) hs ?_
 refine FJ.know (WS.oform .z) ?_
 rintro ⟨Ao1, co1, rfl, hlo1, hmo1, hbo1⟩
 refine FJ.open (.c .z .n) own_raw ?_
 rintro css hlcss
 refine FJ.add (c := seqC kT_57 [] []) seqC_nil ?_
 refine FJ.seq (FJ.region (FJ.ql rfl (q_assign rfl .c) (FJ.nil (FJ.then_ ?_))))
 refine FJ.seq (FJ.seq (FJ.region (FJ.ql rfl (q_assign rfl .c) (FJ.nil ?_))))
 refine FJ.then_ (FJ.block ?_)
 refine FJ.loopi (γ := Nat × (List (List Value))) (fun ⟨k, css⟩ => [(5, .int .i64 (k : Int)), (4, .int .i64 0), (0, .slice Ao1 x.length co1), (1, .int .i64 (n + (sumF cnt_DPut (List.take k x) : Int)))]) (fun ⟨k, css⟩ => [seqC kT_57 (markL cnt_DPut mark_DPut n (List.take k x)) (List.take k css), ownA (kslice 57 32 (kraw kT_57.sz kT_57.pos)) css [.slice Ao1 x.length co1], seqC kT_57 (List.drop k x) (List.drop k css)]) (fun ⟨k, css⟩ => k ≤ x.length ∧ css.length = x.length) (fun ⟨k, css⟩ => x.length - k) (0, css) ⟨Nat.zero_le _, hlcss⟩ (.c .z (.c (.s .z) (.c (.s (.s .z)) (.e (.s (.s (.s .z))) (congrArg (Value.int .i64) (by simp only [List.take_zero, sumF]; omega)) .n)))) (fun _ h => h.sel (.c .z (.c .z (.c .z .n)))) ?_
 rintro ⟨k, css⟩ ⟨hk, hlcss⟩
 have hle := sumF_le (f := cnt_DPut) (xs := x) (k := k)
 refine FJ.seq (FJ.seq (FJ.region (FJ.ql rfl (q_move rfl (.t .z)) (FJ.ql rfl (q_move rfl (.t (.s (.s (.s .z))))) ?_))))
 refine FJ.ql rfl (q_len rfl u_23 (.t .z)) (FJ.ql rfl (q_lss rfl (.t (.s (.s .z))) (.t .z)) (FJ.nil (FJ.then_ ?_)))
 refine FJ.condP (.t .z) (fun b2 => ?_) (fun b2 => ?_)
 refine FJ.skip (FJ.then_ (FJ.seq (FJ.block (FJ.seq ?_))))
 refine FJ.region (FJ.ql rfl (q_move rfl (.t (.s4 (.s (.s .z))))) (FJ.ql rfl (q_move rfl (.t (.s4 (.s .z)))) (FJ.ql rfl (q_move rfl (.t (.s4 (.s4 (.s .z))))) ?_)))
 refine FJ.know (WS.oad (.s .z) (by omega)) ?_
 rintro ⟨ad3, rfl⟩
 obtain ⟨c4, hc4⟩ := get_ex (xs := css) (j := k) (by omega)
 obtain ⟨y5, hy5⟩ := get_ex (xs := x) (j := k) (by omega)
 refine FJ.turn (.s (.s .z)) (seq_pop hy5 hc4) ?_
 refine FJ.open (.c .z .n) kT_57_op ?_
 rintro v6 rfl
 refine FJ.know (WS.oform .z) ?_
 rintro ⟨Ao8, co8, rfl, hlo8, hmo8, hbo8⟩
 have gy5 := sumF_get cnt_DPut hy5
 have ty5 := sumF_take cnt_DPut hy5
 simp only [cnt_DPut] at gy5 ty5
 refine FJ.ql rfl (q_indexAddr (j := k) rfl u_23 sz_57 (.t (.s (.s .z))) (.t (.s .z)) rfl (by omega)) ?_
 refine FJ.ql rfl (q_fieldAddr rfl (.t .z) (fun _ => fa_57_0 _ _)) ?_
 refine FJ.es (goes_list rfl) rfl (es_raw (j := k) (off := 0) (cs := [.int .i64 (n + (sumF cnt_DPut (List.take k x) : Int))]) rfl sz_2 (.t .z) rfl (.t (.s (.s .z))) rfl (ones rfl) (.s (.s (.s .z))) hc4 (Nat.le_of_ble_eq_true rfl)) ?_
 refine FJ.ceq (x' := List.set css k [.int .i64 (n + (sumF cnt_DPut (List.take k x) : Int)), .slice Ao8 y5.words.length co8]) .z rfl ?_
 refine FJ.nil (FJ.then_ (FJ.seq (FJ.region (FJ.ql rfl (q_move rfl (.t (.s4 (.s4 (.s4 .z))))) ?_))))
 refine FJ.ql rfl (q_add (c := (n + (sumF cnt_DPut (List.take k x) : Int)) + 1) rfl (.t .z) .c (wr (by omega) (by omega) (by omega))) ?_
 refine FJ.er (.s4 (.s4 (.s4 (.s (.s .z))))) (FJ.ql rfl (q_assign rfl (.t .z)) (FJ.nil (FJ.then_ (FJ.region ?_))))
 refine FJ.ql rfl (q_move rfl (.t (.s4 (.s4 (.s4 (.s (.s .z))))))) (FJ.ql rfl (q_move rfl (.t (.s4 (.s4 (.s4 (.s .z)))))) ?_)
 refine FJ.ql rfl (q_indexAddr (j := k) rfl u_23 sz_57 (.t (.s .z)) (.t .z) rfl (by omega)) ?_
 refine FJ.ql rfl (q_fieldAddr rfl (.t .z) (fun _ => fa_57_1 _ _)) (FJ.ql rfl (q_load rfl ag_40 (.t .z) (WS.raw .z (set_get hc4) rfl)) (FJ.ql rfl (q_move rfl (.t (.s4 (.s .z)))) ?_))
 refine FJ.call (goes_list rfl) rfl (by decide) rfl (c_call rfl Try.func59 rfl rfl (args2 (.t (.s .z)) (.t .z))) (.c (.s .z) .n) (fun w1 S1 hs tr => c_59 _ hs (by omega) (by first | omega | (omega))) ?_
 rintro _ _ ⟨rfl, rfl⟩
 refine FJ.cat (.c .n) ?_
 refine FJ.er (.s4 (.s (.s (.s .z)))) (FJ.ql rfl (q_assign rfl (.t .z)) (FJ.nil (FJ.inBN (FJ.then_ ?_))))
 refine FJ.region (FJ.ql rfl (q_move rfl (.t (.s16 (.s (.s (.s .z)))))) ?_)
 refine FJ.ql rfl (q_add (c := ((k + 1 : Nat) : Int)) rfl (.t .z) .c (wr (by omega) (by omega) (by omega))) ?_
 refine FJ.er (.s16 (.s4 (.s .z))) (FJ.ql rfl (q_assign rfl (.t .z)) (FJ.nil ?_))
 refine FJ.turns (c := ownA kT_57 (mark_DPut (n + (sumF cnt_DPut (List.take k x) : Int)) y5) [.int .i64 (n + (sumF cnt_DPut (List.take k x) : Int)), .slice Ao8 y5.words.length co8]) (.c .z .n) (fun w S h => kT_57_omk (mark_DPut (n + (sumF cnt_DPut (List.take k x) : Int)) y5) h) ?_
 refine FJ.turns (c := seqC kT_57 (markL cnt_DPut mark_DPut n (List.take (k + 1) x)) (List.take (k + 1) (List.set css k [.int .i64 (n + (sumF cnt_DPut (List.take k x) : Int)), .slice Ao8 y5.words.length co8]))) (.c (.s (.s (.s .z))) (.c .z .n)) (seq_snoc' (by rw [markL_len, List.length_take, List.length_take, hlcss]) (by rw [markL_take _ hy5]) (take_set hc4)) ?_
 refine FJ.turns (c := seqC kT_57 (List.drop (k + 1) x) (List.drop (k + 1) (List.set css k [.int .i64 (n + (sumF cnt_DPut (List.take k x) : Int)), .slice Ao8 y5.words.length co8]))) (.c (.s (.s .z)) .n) (fun w S h => seq_same rfl drop_set w S (h.head (c := seqC _ _ _))) ?_
 refine FJ.again ((k + 1), List.set css k [.int .i64 (n + (sumF cnt_DPut (List.take k x) : Int)), .slice Ao8 y5.words.length co8]) ⟨by omega, by rw [List.length_set]; exact hlcss⟩ (by first | omega | (dsimp only; omega)) (.c .z (.c (.s16 (.s4 (.s (.s .z)))) (.c (.s16 (.s4 (.s (.s (.s .z))))) (.e (.s (.s (.s .z))) (congrArg (Value.int .i64) (by omega)) .n)))) (fun _ h => h.sel (.c (.s .z) (.c (.s .z) (.c .z .n))))
 refine FJ.exit (FJ.thenE (FJ.thenE (FJ.inB (FJ.then_ ?_))))
 refine FJ.seq (FJ.region (FJ.ql rfl (q_move rfl (.t (.s4 (.s (.s (.s .z)))))) (FJ.er (.s4 (.s (.s .z))) (FJ.ql rfl (q_assign rfl (.t .z)) ?_))))
 refine FJ.nil (FJ.then_ (FJ.ret ?_))
 refine FJ.turns (c := ownA kSl_57 ((markL cnt_DPut mark_DPut) n x) [.slice Ao1 x.length co1]) (.c (.s .z) (.c .z .n)) (raw_own' (by rw [markL_len, hlcss]) (by rw [List.take_of_length_le (by omega)]) (by rw [List.take_of_length_le (by omega)])) ?_
 refine FJ.doneS (res1 rfl .z) (.c .z .n) ?_
 exact ⟨by rw [sumF_all _ (by omega)], rfl⟩

set_option maxHeartbeats 1000000 in
set_option maxRecDepth 20000 in
theorem c_44 {w0 : World} {S0 : Bs} {x : DDisk} {v0_0 : Value} {v0_1 : Value} (n : Int) (hs : Star [ownA kSl_40 x.blocks [v0_0], ownA kSl_57 x.cache [v0_1]] w0 S0) (hn0 : 0 ≤ n) (hn1 : n + ((vcnt_DDisk x) : Int) ≤ 4611686018427387904) :
    Calls Try.prog 44 #[.agg #[v0_0, v0_1], .int .i64 n] w0 (TriPost w0 S0 (fun r l => r = .int .i64 (n + ((vcnt_DDisk x) : Int)) ∧ l = [ownA kSl_40 (vmark_DDisk n x).blocks [v0_0], ownA kSl_57 (vmark_DDisk n x).cache [v0_1]])) := by
 simp only [vcnt_DDisk] at hn1
 refine FJ.enter (N := 14) Try.func44 rfl rfl (by simp) [(0, .agg #[v0_0, v0_1]), (1, .int .i64 n)] (by simp) hs ?_
 refine FJ.know (WS.oform .z) ?_
 rintro ⟨Ao1, co1, rfl, hlo1, hmo1, hbo1⟩
 refine FJ.know (WS.oform (.s .z)) ?_
 rintro ⟨Ao2, co2, rfl, hlo2, hmo2, hbo2⟩
 refine FJ.seq (FJ.region ?_)
 refine FJ.e (goes_list rfl) rfl (by decide) rfl (e_box (cs := [.slice Ao1 x.blocks.length co1, .slice Ao2 x.cache.length co2]) (n := 2) rfl (.t .z) rfl rfl) ?_
 rintro _ _ ⟨g3, rfl, rfl⟩
 refine FJ.ql rfl (q_assign rfl .c) (FJ.nil (FJ.then_ (FJ.seq (FJ.region ?_))))
 refine FJ.ql rfl (q_fieldAddr rfl (.t (.s .z)) (fun _ => fa_25_0 _ _)) (FJ.ql rfl (q_load rfl ag_22 (.t .z) (WS.row .z rfl)) (FJ.ql rfl (q_move rfl (.t (.s4 (.s .z)))) ?_))
 refine FJ.call (goes_list rfl) rfl (by decide) rfl (c_call rfl Try.func107 rfl rfl (args2 (.t (.s .z)) (.t .z))) (.c (.s .z) .n) (fun w1 S1 hs tr => c_107 _ hs (by omega) (by first | omega | (omega))) ?_
 rintro _ _ ⟨rfl, rfl⟩
 refine FJ.cat (.c .n) ?_
 refine FJ.er (.s4 (.s (.s (.s .z)))) (FJ.ql rfl (q_assign rfl (.t .z)) (FJ.nil (FJ.then_ (FJ.seq ?_))))
 refine FJ.region (FJ.ql rfl (q_fieldAddr rfl (.t (.s4 (.s (.s .z)))) (fun _ => fa_25_1 _ _)) (FJ.ql rfl (q_load rfl ag_23 (.t .z) (WS.row (.s .z) rfl)) (FJ.ql rfl (q_move rfl (.t (.s (.s .z)))) ?_)))
 refine FJ.call (goes_list rfl) rfl (by decide) rfl (c_call rfl Try.func108 rfl rfl (args2 (.t (.s .z)) (.t .z))) (.c (.s (.s .z)) .n) (fun w1 S1 hs tr => c_108 _ hs (by omega) (by first | omega | (omega))) ?_
 rintro _ _ ⟨rfl, rfl⟩
 refine FJ.cat (.c .n) ?_
 refine FJ.er (.s4 .z) (FJ.ql rfl (q_assign rfl (.t .z)) (FJ.nil (FJ.then_ (FJ.seq ?_))))
 refine FJ.region (FJ.ql rfl (q_move rfl (.t .z)) (FJ.er (.s4 (.s4 (.s (.s .z)))) (FJ.ql rfl (q_assign rfl (.t .z)) (FJ.nil ?_))))
 refine FJ.then_ (FJ.ret ?_)
 refine FJ.doneS (res1 rfl .z) (.c (.s .z) (.c .z .n)) ?_
 exact ⟨congrArg (Value.int .i64) (by simp only [vcnt_DDisk]; omega), rfl⟩

set_option maxHeartbeats 1000000 in
set_option maxRecDepth 20000 in
theorem c_45 {w0 : World} {S0 : Bs} {x : RInts} {v0_1 : Value} (n : Int) (hs : Star [ownA kSl_2 x.list [v0_1]] w0 S0) (hn0 : 0 ≤ n) (hn1 : n + ((vcnt_RInts x) : Int) ≤ 4611686018427387904) :
    Calls Try.prog 45 #[.agg #[.int .i64 x.code, v0_1], .int .i64 n] w0 (TriPost w0 S0 (fun r l => r = .int .i64 (n + ((vcnt_RInts x) : Int)) ∧ l = [ownA kSl_2 (vmark_RInts n x).list [v0_1]])) := by
 simp only [vcnt_RInts] at hn1
 refine FJ.enter (N := 10) Try.func45 rfl rfl (by simp) [(0, .agg #[.int .i64 x.code, v0_1]), (1, .int .i64 n)] (by simp) hs ?_
 refine FJ.know (WS.oform .z) ?_
 rintro ⟨Ao1, co1, rfl, hlo1, hmo1, hbo1⟩
 refine FJ.seq (FJ.region ?_)
 refine FJ.e (goes_list rfl) rfl (by decide) rfl (e_box (cs := [.int .i64 x.code, .slice Ao1 x.list.length co1]) (n := 2) rfl (.t .z) rfl rfl) ?_
 rintro _ _ ⟨g2, rfl, rfl⟩
 refine FJ.ql rfl (q_assign rfl .c) (FJ.nil (FJ.then_ (FJ.seq (FJ.region ?_))))
 refine FJ.ql rfl (q_fieldAddr rfl (.t (.s .z)) (fun _ => fa_60_1 _ _)) (FJ.ql rfl (q_load rfl ag_40 (.t .z) (WS.row .z rfl)) (FJ.ql rfl (q_move rfl (.t (.s4 (.s .z)))) ?_))
 refine FJ.call (goes_list rfl) rfl (by decide) rfl (c_call rfl Try.func59 rfl rfl (args2 (.t (.s .z)) (.t .z))) (.c (.s .z) .n) (fun w1 S1 hs tr => c_59 _ hs (by omega) (by first | omega | (omega))) ?_
 rintro _ _ ⟨rfl, rfl⟩
 refine FJ.cat (.c .n) ?_
 refine FJ.er (.s4 (.s (.s (.s .z)))) (FJ.ql rfl (q_assign rfl (.t .z)) (FJ.nil (FJ.then_ (FJ.seq ?_))))
 refine FJ.region (FJ.ql rfl (q_move rfl (.t .z)) (FJ.er (.s4 (.s (.s .z))) (FJ.ql rfl (q_assign rfl (.t .z)) (FJ.nil ?_))))
 refine FJ.then_ (FJ.ret ?_)
 refine FJ.doneS (res1 rfl .z) (.c .z .n) ?_
 exact ⟨congrArg (Value.int .i64) (by simp only [vcnt_RInts]; omega), rfl⟩

set_option maxHeartbeats 1000000 in
set_option maxRecDepth 20000 in
theorem c_90 {w0 : World} {S0 : Bs} {y : (List Int)} {v0 : Value} (h0 : kSl_2.ro w0 (FF w0 S0) y [v0]) (n : Int) (x : (List Int)) (e0 : y = ((markL (fun _ => 1) (fun m _ => m)) n x)) (hn0 : 0 ≤ n) (hn1 : n + (x.length : Int) ≤ 4611686018427387904) :
    Calls Try.prog 90 #[v0, .int .i64 n] w0 (TriPost w0 S0 (fun r l => r = .int .i64 (n + (x.length : Int)) ∧ l = [])) := by
 obtain ⟨A0, c0, rfl, hl0, hm0, hb0, he0⟩ := ro_form h0
 have hl := markE_len e0
 refine FJ.enter (N := 21) Try.func90 rfl rfl (by simp) [(0, .slice A0 y.length c0), (1, .int .i64 n)] (by simp) (l0 := []) trivial ?_
 refine FJ.seq (FJ.region (FJ.ql rfl (q_assign rfl .c) (FJ.nil (FJ.then_ ?_))))
 refine FJ.seq (FJ.seq (FJ.region (FJ.ql rfl (q_assign rfl .c) (FJ.nil ?_))))
 refine FJ.then_ (FJ.block ?_)
 refine FJ.loopi (γ := Nat) (fun k => [(5, .int .i64 (k : Int)), (0, .slice A0 y.length c0), (1, .int .i64 (n + (k : Int)))]) (fun k => []) (fun k => k ≤ y.length) (fun k => y.length - k) 0 (Nat.zero_le _) (.c .z (.c (.s (.s .z)) (.e (.s (.s (.s .z))) (congrArg (Value.int .i64) (by omega)) .n))) (fun _ h => h) ?_
 rintro k hk
 refine FJ.seq (FJ.seq (FJ.region (FJ.ql rfl (q_move rfl (.t .z)) (FJ.ql rfl (q_move rfl (.t (.s (.s .z)))) ?_))))
 refine FJ.ql rfl (q_len rfl u_40 (.t .z)) (FJ.ql rfl (q_lss rfl (.t (.s (.s .z))) (.t .z)) (FJ.nil (FJ.then_ ?_)))
 refine FJ.condP (.t .z) (fun b2 => ?_) (fun b2 => ?_)
 refine FJ.skip (FJ.then_ (FJ.seq (FJ.block (FJ.seq ?_))))
 refine FJ.seq (FJ.region (FJ.ql rfl (q_move rfl (.t (.s4 (.s .z)))) (FJ.ql rfl (q_move rfl (.t (.s4 (.s .z)))) ?_)))
 obtain ⟨ad3, hAad3, hrad3⟩ := he0 (by omega)
 subst hAad3
 obtain ⟨x4, hx4⟩ := get_ex (xs := y) (j := k) (by omega)
 obtain ⟨ece5, hre5, hFe5, hce5⟩ := hrad3.elem hx4
 obtain ⟨rfl, se5⟩ := hre5
 refine FJ.ql rfl (q_indexAddr (j := k) rfl u_40 sz_2 (.t (.s .z)) (.t .z) rfl (by omega)) ?_
 refine FJ.ql rfl (q_load rfl ag_2 (.t .z) (WS.el0 hFe5 hce5 rfl)) (FJ.ql rfl (q_move rfl (.t (.s4 (.s4 (.s (.s .z)))))) (FJ.ql rfl (q_neq rfl (.t (.s .z)) (.t .z)) (FJ.nil (FJ.then_ ?_))))
 refine FJ.condN (.t .z) (fun b6 => ?_) (fun b6 => ?_)
 exfalso
 obtain ⟨z, hz⟩ := markS_get e0 hx4
 exact b6 hz
 refine FJ.skip (FJ.then_ (FJ.region (FJ.ql rfl (q_move rfl (.t (.s4 (.s4 (.s4 .z))))) ?_)))
 refine FJ.ql rfl (q_add (c := (n + (k : Int)) + 1) rfl (.t .z) .c (wr (by omega) (by omega) (by omega))) ?_
 refine FJ.er (.s4 (.s4 (.s4 (.s (.s .z))))) (FJ.ql rfl (q_assign rfl (.t .z)) (FJ.nil (FJ.inBN (FJ.then_ ?_))))
 refine FJ.region (FJ.ql rfl (q_move rfl (.t (.s4 (.s4 (.s4 (.s .z)))))) ?_)
 refine FJ.ql rfl (q_add (c := ((k + 1 : Nat) : Int)) rfl (.t .z) .c (wr (by omega) (by omega) (by omega))) ?_
 refine FJ.er (.s4 (.s4 (.s4 (.s (.s (.s .z)))))) (FJ.ql rfl (q_assign rfl (.t .z)) (FJ.nil ?_))
 refine FJ.again (k + 1) (by omega) (by first | omega | (dsimp only; omega)) (.c .z (.c (.s16 .z) (.e (.s (.s (.s .z))) (congrArg (Value.int .i64) (by omega)) .n))) (fun _ h => h)
 refine FJ.exit (FJ.thenE (FJ.thenE (FJ.inB (FJ.then_ ?_))))
 refine FJ.seq (FJ.region (FJ.ql rfl (q_move rfl (.t (.s4 (.s (.s .z))))) (FJ.ql rfl (q_assign rfl (.t .z)) (FJ.nil ?_))))
 refine FJ.then_ (FJ.ret ?_)
 refine FJ.doneS (res1 rfl .z) .n ?_
 exact ⟨congrArg (Value.int .i64) (by omega), rfl⟩

set_option maxHeartbeats 1000000 in
set_option maxRecDepth 20000 in
theorem c_46 {w0 : World} {S0 : Bs} {y : RInts} {cs0 : List Value} (h0 : kT_60.ro w0 (FF w0 S0) y cs0) (n : Int) (x : RInts) (e0 : y = (vmark_RInts n x)) (hn0 : 0 ≤ n) (hn1 : n + ((vcnt_RInts x) : Int) ≤ 4611686018427387904) :
    Calls Try.prog 46 #[.agg cs0.toArray, .int .i64 n] w0 (TriPost w0 S0 (fun r l => r = .int .i64 (n + ((vcnt_RInts x) : Int)) ∧ l = [])) := by
 obtain ⟨u0_1, rfl, h0_1⟩ := kT_60_ro h0
 obtain ⟨A0_1, c0_1, rfl, hl0_1, hm0_1, hb0_1, he0_1⟩ := ro_form h0_1
 simp only [vcnt_RInts] at hn1
 refine FJ.enter (N := 12) Try.func46 rfl rfl (by simp) [(0, .agg #[.int .i64 y.code, .slice A0_1 y.list.length c0_1]), (1, .int .i64 n)] (by simp) (l0 := []) trivial ?_
 refine FJ.seq (FJ.region ?_)
 refine FJ.e (goes_list rfl) rfl (by decide) rfl (e_box (cs := [.int .i64 y.code, .slice A0_1 y.list.length c0_1]) (n := 2) rfl (.t .z) rfl rfl) ?_
 rintro _ _ ⟨g2, rfl, rfl⟩
 refine FJ.ql rfl (q_assign rfl .c) (FJ.nil (FJ.then_ (FJ.seq (FJ.region ?_))))
 refine FJ.ql rfl (q_fieldAddr rfl (.t (.s .z)) (fun _ => fa_60_1 _ _)) (FJ.ql rfl (q_load rfl ag_40 (.t .z) (WS.row .z rfl)) (FJ.ql rfl (q_move rfl (.t (.s4 (.s .z)))) ?_))
 refine FJ.call (goes_list rfl) rfl (by decide) rfl (c_call rfl Try.func90 rfl rfl (args2 (.t (.s .z)) (.t .z))) .n (fun w1 S1 hs tr => c_90 (tr.ctx h0_1) _ x.list (congrArg (·.list) e0) (by omega) (by first | omega | (omega))) ?_
 rintro _ _ ⟨rfl, rfl⟩
 refine FJ.cat .n ?_
 refine FJ.er (.s4 (.s (.s (.s .z)))) (FJ.ql rfl (q_assign rfl (.t .z)) (FJ.nil (FJ.then_ (FJ.seq ?_))))
 refine FJ.seq (FJ.region (FJ.ql rfl (q_move rfl (.t .z)) (FJ.ql rfl (q_lss rfl (.t .z) .c) (FJ.nil ?_))))
 refine FJ.then_ ?_
 refine FJ.condP (.t .z) (fun b3 => ?_) (fun b3 => ?_)
 refine FJ.seq (FJ.region (FJ.er (.s4 (.s (.s (.s .z)))) (FJ.ql rfl (q_assign rfl .c) (FJ.nil ?_))))
 refine FJ.then_ (FJ.ret (FJ.thenR ?_))
 refine FJ.doneS (res1 rfl .z) .n ?_
 exfalso; omega
 refine FJ.skip (FJ.then_ (FJ.seq (FJ.region (FJ.ql rfl (q_move rfl (.t (.s (.s .z)))) ?_))))
 refine FJ.er (.s4 (.s4 .z)) (FJ.ql rfl (q_assign rfl (.t .z)) (FJ.nil (FJ.then_ (FJ.ret ?_))))
 refine FJ.doneS (res1 rfl .z) .n ?_
 exact ⟨congrArg (Value.int .i64) (by simp only [vcnt_RInts]; omega), rfl⟩
end Go.Proofs.Ytkmcpcahbfdohaa

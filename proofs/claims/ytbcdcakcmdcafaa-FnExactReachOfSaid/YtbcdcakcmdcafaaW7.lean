/- What is proved: contracts of functions, one a function. No condition. -/
import Derived.Test.YtbcdcakcmdcafaaW5
namespace Go.Proofs.Ytbcdcakcmdcafaa
open Go Go.RowKit
set_option linter.unusedVariables false
set_option linter.unusedSimpArgs false
set_option maxHeartbeats 1000000 in
set_option maxRecDepth 20000 in
theorem c_75 {w0 : World} {S0 : Bs} (n : Int) (hn1 : n ≤ 4611686018427387905) :
    Calls Try.prog 75 #[.int .i64 n] w0 (TriPost w0 S0 (fun r l => r = .string (mtext n) ∧ l = [])) := by
  refine FJ.enter (N := 20) Try.func75 rfl rfl (by simp) [(0, .int .i64 n)] (by simp) (l0 := []) trivial ?_
  refine FJ.seq ?_
  refine FJ.region ?_
  refine FJ.q (goes_list rfl) rfl (by decide) rfl (q_assign rfl .c) ?_
  refine FJ.nil ?_
  refine FJ.then_ ?_
  refine FJ.seq ?_
  refine FJ.seq ?_
  refine FJ.region ?_
  refine FJ.q (goes_list rfl) rfl (by decide) rfl (q_move rfl (.t (.s .z))) ?_
  refine FJ.q (goes_list rfl) rfl (by decide) rfl (q_leq rfl (.t .z) .c) ?_
  refine FJ.nil ?_
  refine FJ.then_ ?_
  refine FJ.condP (.t .z) (fun b1 => ?_) (fun b1 => ?_)
  · -- b1: True
    refine FJ.seq ?_
    refine FJ.region ?_
    refine FJ.er (.s (.s .z)) ?_
    refine FJ.q (goes_list rfl) rfl (by decide) rfl (q_assign rfl .c) ?_
    refine FJ.nil ?_
    refine FJ.then_ ?_
    refine FJ.ret ?_
    refine FJ.thenR ?_
    refine FJ.doneS (res1 rfl .z) .n ?_
    exact ⟨by unfold mtext; rw [if_pos (by assumption)]; rfl, rfl⟩
  · -- b1: False
    refine FJ.skip ?_
    refine FJ.then_ ?_
    refine FJ.seq ?_
    refine FJ.region ?_
    refine FJ.q (goes_list rfl) rfl (by decide) rfl (q_assign rfl .c) ?_
    refine FJ.nil ?_
    refine FJ.then_ ?_
    refine FJ.seq ?_
    refine FJ.block ?_
    refine FJ.eq (.s (.s (.s (.s .z)))) (congrArg (Value.int .i64) (show n = ((Int.toNat n : Nat) : Int) by omega)) ?_
    refine FJ.loopi (γ := Nat × ByteArray × Nat) (fun ⟨q, o, d⟩ => [(0, .int .i64 (q : Int)), (3, .string o), (2, .string (⟨#[]⟩))]) (fun ⟨q, o, d⟩ => []) (fun ⟨q, o, d⟩ => mfin q o = mfin n.toNat ⟨#[]⟩ ∧ q < 10 ^ d ∧ o.size + d ≤ 19 ∧ q ≤ 4611686018427387905) (fun ⟨q, o, d⟩ => q) (Int.toNat n, ⟨#[]⟩, 19) ⟨rfl, by omega, by decide, by omega⟩ (.c .z (.c (.s .z) (.c (.s (.s (.s (.s .z)))) .n))) (fun _ h => h) ?_
    rintro ⟨q, o, d⟩ ⟨hq, hd, ho, hq4⟩
    refine FJ.seq ?_
    refine FJ.seq ?_
    refine FJ.region ?_
    refine FJ.q (goes_list rfl) rfl (by decide) rfl (q_move rfl (.t .z)) ?_
    refine FJ.q (goes_list rfl) rfl (by decide) rfl (q_gtr rfl (.t .z) .c) ?_
    refine FJ.nil ?_
    refine FJ.then_ ?_
    refine FJ.condP (.t .z) (fun b2 => ?_) (fun b2 => ?_)
    · -- b2: True
      refine FJ.skip ?_
      refine FJ.then_ ?_
      refine FJ.block ?_
      refine FJ.seq ?_
      refine FJ.region ?_
      refine FJ.q (goes_list rfl) rfl (by decide) rfl (q_move rfl (.t (.s (.s .z)))) ?_
      refine FJ.q (goes_list rfl) rfl (by decide) rfl (q_rem (c := ((q % 10 : Nat) : Int)) rfl (.t .z) .c (by omega) (rem_nat (d := 10) rfl)) ?_
      refine FJ.q (goes_list rfl) rfl (by decide) rfl (q_add (c := ((48 + (q % 10) : Nat) : Int)) rfl .c (.t .z) (wr (by omega) (by omega) (by omega))) ?_
      refine FJ.q (goes_list rfl) rfl (by decide) rfl (q_conv (c := ((mbyte ((48 + (q % 10) : Nat) : Int)).toNat : Int)) rfl (.t .z) u_3 u_5 (mbyte_wrap _)) ?_
      refine FJ.e (goes_list rfl) rfl (by decide) rfl (e_buildSliceL (ps := [(0, .int .u8 ((mbyte ((48 + (q % 10) : Nat) : Int)).toNat : Int))]) (cs := [.int .u8 ((mbyte ((48 + (q % 10) : Nat) : Int)).toNat : Int)]) rfl u_86 (inz inf_5) (by decide) (by intro act hact; simp only [List.map_toArray, List.map_cons, List.map_nil, (show Val _ _ _ from (.t .z)) act hact]) rfl rfl (by decide) rfl rfl) ?_
      rintro _ _ ⟨g3, rfl, rfl⟩
      refine FJ.turns (c := ownA kSl_5 ([(mbyte ((48 + (q % 10) : Nat) : Int))] : (List UInt8)) [.slice (some ⟨g3, 0, none⟩) 1 1]) (.c .z .n) (fun w S h => lit_own (xs := ([(mbyte ((48 + (q % 10) : Nat) : Int))] : (List UInt8))) h rfl (by simp) (by omega) (by omega)) ?_
      refine FJ.q (goes_list rfl) rfl (by decide) rfl (q_convBS (xs := ([(mbyte ((48 + (q % 10) : Nat) : Int))] : (List UInt8))) rfl u_86 u_5 u_9 (.t .z) (WS.roown .z)) ?_
      refine FJ.q (goes_list rfl) rfl (by decide) rfl (q_move rfl (.t (.s (.s (.s (.s (.s (.s (.s (.s (.s .z))))))))))) ?_
      refine FJ.q (goes_list rfl) rfl (by decide) rfl (q_sadd rfl (.t (.s .z)) (.t .z) (by first | (simp only [bstr_size, List.length_cons, List.length_nil]; omega) | (have : (⟨#[109]⟩ : ByteArray).size = 1 := rfl; omega))) ?_
      refine FJ.er (.s (.s (.s (.s (.s (.s (.s (.s (.s (.s (.s .z))))))))))) ?_
      refine FJ.q (goes_list rfl) rfl (by decide) rfl (q_assign rfl (.t .z)) ?_
      refine FJ.nil ?_
      refine FJ.then_ ?_
      refine FJ.region ?_
      refine FJ.q (goes_list rfl) rfl (by decide) rfl (q_move rfl (.t (.s (.s (.s (.s (.s (.s (.s (.s (.s (.s (.s .z))))))))))))) ?_
      refine FJ.q (goes_list rfl) rfl (by decide) rfl (q_quo (c := ((q / 10 : Nat) : Int)) rfl (.t .z) .c (by omega) (quo_nat (d := 10) (by omega) rfl)) ?_
      refine FJ.er (.s (.s (.s (.s (.s (.s (.s (.s (.s (.s (.s (.s (.s .z))))))))))))) ?_
      refine FJ.q (goes_list rfl) rfl (by decide) rfl (q_assign rfl (.t .z)) ?_
      refine FJ.nil ?_
      refine FJ.inBN ?_
      refine FJ.again (q / 10, (bstr ([(mbyte ((48 + (q % 10) : Nat) : Int))] : (List UInt8))) ++ o, d - 1) ⟨(mfin_s o (by omega)).symm.trans hq, mfin_d (by omega) hd, mfin_o (by omega) hd ho, by omega⟩ (by first | omega | (dsimp only; omega)) (.c .z (.c (.s (.s (.s .z))) (.c (.s (.s (.s (.s (.s (.s (.s (.s (.s (.s (.s (.s (.s (.s .z)))))))))))))) .n))) (fun _ h => h.sel .n)
    · -- b2: False
      refine FJ.exit ?_
      refine FJ.thenE ?_
      refine FJ.thenE ?_
      refine FJ.inB ?_
      refine FJ.then_ ?_
      refine FJ.seq ?_
      refine FJ.region ?_
      refine FJ.q (goes_list rfl) rfl (by decide) rfl (q_move rfl (.t (.s (.s (.s .z))))) ?_
      refine FJ.q (goes_list rfl) rfl (by decide) rfl (q_sadd rfl .c (.t .z) (by first | (simp only [bstr_size, List.length_cons, List.length_nil]; omega) | (have : (⟨#[109]⟩ : ByteArray).size = 1 := rfl; omega))) ?_
      refine FJ.er (.s (.s (.s (.s (.s (.s .z)))))) ?_
      refine FJ.q (goes_list rfl) rfl (by decide) rfl (q_assign rfl (.t .z)) ?_
      refine FJ.nil ?_
      refine FJ.then_ ?_
      refine FJ.ret ?_
      refine FJ.doneS (res1 rfl .z) .n ?_
      exact ⟨by unfold mtext; rw [if_neg (by assumption), ← hq, show q = 0 by omega, mfin_0]; rfl, rfl⟩

set_option maxHeartbeats 1000000 in
set_option maxRecDepth 20000 in
theorem c_48 {w0 : World} {S0 : Bs} {x : (List Int)} {v0 : Value} (n : Int) (hs : Star [ownA kSl_2 x [v0]] w0 S0) (hn0 : 0 ≤ n) (hn1 : n + (x.length : Int) ≤ 4611686018427387904) :
    Calls Try.prog 48 #[v0, .int .i64 n] w0 (TriPost w0 S0 (fun r l => r = .int .i64 (n + (x.length : Int)) ∧ l = [ownA kSl_2 ((markL (fun _ => 1) (fun m _ => m)) n x) [v0]])) := by
  refine FJ.enter (N := 19) Try.func48 rfl rfl (by simp) [(0, v0), (1, .int .i64 n)] (by simp) hs ?_
  refine FJ.know (WS.oform .z) ?_
  rintro ⟨Ao1, co1, rfl, hlo1, hmo1, hbo1⟩
  refine FJ.seq ?_
  refine FJ.region ?_
  refine FJ.q (goes_list rfl) rfl (by decide) rfl (q_assign rfl .c) ?_
  refine FJ.nil ?_
  refine FJ.then_ ?_
  refine FJ.seq ?_
  refine FJ.seq ?_
  refine FJ.region ?_
  refine FJ.q (goes_list rfl) rfl (by decide) rfl (q_assign rfl .c) ?_
  refine FJ.nil ?_
  refine FJ.then_ ?_
  refine FJ.block ?_
  refine FJ.ceq .z (markS_zero (fun m _ => m) n x) ?_
  refine FJ.loopi (γ := Nat) (fun k => [(5, .int .i64 (k : Int)), (4, .int .i64 0), (0, .slice Ao1 x.length co1), (1, .int .i64 (n + (k : Int)))]) (fun k => [ownA kSl_2 (markS (fun m _ => m) n x k) [.slice Ao1 x.length co1]]) (fun k => k ≤ x.length) (fun k => x.length - k) 0 (Nat.zero_le _) (.c .z (.c (.s .z) (.c (.s (.s .z)) (.e (.s (.s (.s .z))) (congrArg (Value.int .i64) (by omega)) .n)))) (fun _ h => h.sel (.c .z .n)) ?_
  rintro k hk
  refine FJ.seq ?_
  refine FJ.seq ?_
  refine FJ.region ?_
  refine FJ.q (goes_list rfl) rfl (by decide) rfl (q_move rfl (.t .z)) ?_
  refine FJ.q (goes_list rfl) rfl (by decide) rfl (q_move rfl (.t (.s (.s (.s .z))))) ?_
  refine FJ.q (goes_list rfl) rfl (by decide) rfl (q_len rfl u_39 (.t .z)) ?_
  refine FJ.q (goes_list rfl) rfl (by decide) rfl (q_lss rfl (.t (.s (.s .z))) (.t .z)) ?_
  refine FJ.nil ?_
  refine FJ.then_ ?_
  refine FJ.condP (.t .z) (fun b2 => ?_) (fun b2 => ?_)
  · -- b2: True
    refine FJ.skip ?_
    refine FJ.then_ ?_
    refine FJ.seq ?_
    refine FJ.block ?_
    refine FJ.seq ?_
    refine FJ.region ?_
    refine FJ.q (goes_list rfl) rfl (by decide) rfl (q_move rfl (.t (.s (.s (.s (.s (.s (.s .z)))))))) ?_
    refine FJ.q (goes_list rfl) rfl (by decide) rfl (q_move rfl (.t (.s (.s (.s (.s (.s .z))))))) ?_
    refine FJ.q (goes_list rfl) rfl (by decide) rfl (q_move rfl (.t (.s (.s (.s (.s (.s (.s (.s (.s (.s .z))))))))))) ?_
    refine FJ.know (WS.oad .z (by rw [markS_len (by omega)]; omega)) ?_
    rintro ⟨ad3, rfl⟩
    refine FJ.q (goes_list rfl) rfl (by decide) rfl (q_indexAddr (j := k) rfl u_39 sz_2 (.t (.s (.s .z))) (.t (.s .z)) rfl (by first | omega | (rw [markS_len (by omega)]; omega))) ?_
    refine FJ.add (c := ownA (kint .i64) (n + (k : Int)) [.int .i64 (n + (k : Int))]) (fun _ _ => ⟨rfl, trivial⟩) ?_
    refine FJ.es (goes_list rfl) rfl (es_set (j := k) rfl sz_2 (.t .z) (.t (.s .z)) rfl (.c (.s .z) (.c .z .n)) (by first | omega | (rw [markS_len (by omega)]; omega))) ?_
    obtain ⟨y, hy⟩ := get_ex (xs := x) (j := k) (by omega)
    refine FJ.ceq .z (markS_set (mk := (fun m _ => m)) hy) ?_
    refine FJ.nil ?_
    refine FJ.then_ ?_
    refine FJ.region ?_
    refine FJ.q (goes_list rfl) rfl (by decide) rfl (q_move rfl (.t (.s (.s (.s (.s (.s (.s (.s (.s (.s (.s (.s .z))))))))))))) ?_
    refine FJ.q (goes_list rfl) rfl (by decide) rfl (q_add (c := (n + (k : Int)) + 1) rfl (.t .z) .c (wr (by omega) (by omega) (by omega))) ?_
    refine FJ.er (.s (.s (.s (.s (.s (.s (.s (.s (.s (.s (.s (.s (.s .z))))))))))))) ?_
    refine FJ.q (goes_list rfl) rfl (by decide) rfl (q_assign rfl (.t .z)) ?_
    refine FJ.nil ?_
    refine FJ.inBN ?_
    refine FJ.then_ ?_
    refine FJ.region ?_
    refine FJ.q (goes_list rfl) rfl (by decide) rfl (q_move rfl (.t (.s (.s (.s (.s (.s (.s (.s (.s (.s (.s (.s .z))))))))))))) ?_
    refine FJ.q (goes_list rfl) rfl (by decide) rfl (q_add (c := ((k + 1 : Nat) : Int)) rfl (.t .z) .c (wr (by omega) (by omega) (by omega))) ?_
    refine FJ.er (.s (.s (.s (.s (.s (.s (.s (.s (.s (.s (.s (.s (.s .z))))))))))))) ?_
    refine FJ.q (goes_list rfl) rfl (by decide) rfl (q_assign rfl (.t .z)) ?_
    refine FJ.nil ?_
    refine FJ.again (k + 1) (by omega) (by first | omega | (dsimp only; omega)) (.c .z (.c (.s (.s (.s (.s (.s (.s (.s (.s (.s (.s (.s (.s (.s (.s .z)))))))))))))) (.c (.s (.s (.s (.s (.s (.s (.s (.s (.s (.s (.s (.s (.s (.s (.s .z))))))))))))))) (.e (.s (.s (.s .z))) (congrArg (Value.int .i64) (by omega)) .n)))) (fun _ h => h.sel (.c .z .n))
  · -- b2: False
    refine FJ.exit ?_
    refine FJ.thenE ?_
    refine FJ.thenE ?_
    refine FJ.inB ?_
    refine FJ.then_ ?_
    refine FJ.seq ?_
    refine FJ.region ?_
    refine FJ.q (goes_list rfl) rfl (by decide) rfl (q_move rfl (.t (.s (.s (.s (.s (.s (.s (.s .z))))))))) ?_
    refine FJ.er (.s (.s (.s (.s (.s (.s .z)))))) ?_
    refine FJ.q (goes_list rfl) rfl (by decide) rfl (q_assign rfl (.t .z)) ?_
    refine FJ.nil ?_
    refine FJ.then_ ?_
    refine FJ.ret ?_
    refine FJ.ceq .z (markS_all (by omega)) ?_
    refine FJ.doneS (res1 rfl .z) (.c .z .n) ?_
    exact ⟨congrArg (Value.int .i64) (by omega), rfl⟩

set_option maxHeartbeats 1000000 in
set_option maxRecDepth 20000 in
theorem c_73 {w0 : World} {S0 : Bs} {x : (List DEnt)} {v0 : Value} (n : Int) (hs : Star [ownA kSl_69 x [v0]] w0 S0) (hn0 : 0 ≤ n) (hn1 : n + ((sumF cnt_DEnt x) : Int) ≤ 4611686018427387904) :
    Calls Try.prog 73 #[v0, .int .i64 n] w0 (TriPost w0 S0 (fun r l => r = .int .i64 (n + ((sumF cnt_DEnt x) : Int)) ∧ l = [ownA kSl_69 ((markL cnt_DEnt mark_DEnt) n x) [v0]])) := by
  refine FJ.enter (N := 28) Try.func73 rfl rfl (by simp) [(0, v0), (1, .int .i64 n)] (by simp) hs ?_
  refine FJ.know (WS.oform .z) ?_
  rintro ⟨Ao1, co1, rfl, hlo1, hmo1, hbo1⟩
  refine FJ.open (.c .z .n) own_raw ?_
  rintro css hlcss
  refine FJ.add (c := seqC kT_69 [] []) seqC_nil ?_
  refine FJ.seq ?_
  refine FJ.region ?_
  refine FJ.q (goes_list rfl) rfl (by decide) rfl (q_assign rfl .c) ?_
  refine FJ.nil ?_
  refine FJ.then_ ?_
  refine FJ.seq ?_
  refine FJ.seq ?_
  refine FJ.region ?_
  refine FJ.q (goes_list rfl) rfl (by decide) rfl (q_assign rfl .c) ?_
  refine FJ.nil ?_
  refine FJ.then_ ?_
  refine FJ.block ?_
  refine FJ.loopi (γ := Nat × (List (List Value))) (fun ⟨k, css⟩ => [(5, .int .i64 (k : Int)), (4, .int .i64 0), (0, .slice Ao1 x.length co1), (1, .int .i64 (n + (sumF cnt_DEnt (List.take k x) : Int)))]) (fun ⟨k, css⟩ => [seqC kT_69 (markL cnt_DEnt mark_DEnt n (List.take k x)) (List.take k css), ownA (kslice 69 24 (kraw kT_69.sz kT_69.pos)) css [.slice Ao1 x.length co1], seqC kT_69 (List.drop k x) (List.drop k css)]) (fun ⟨k, css⟩ => k ≤ x.length ∧ css.length = x.length) (fun ⟨k, css⟩ => x.length - k) (0, css) ⟨Nat.zero_le _, hlcss⟩ (.c .z (.c (.s .z) (.c (.s (.s .z)) (.e (.s (.s (.s .z))) (congrArg (Value.int .i64) (by simp only [List.take_zero, sumF]; omega)) .n)))) (fun _ h => h.sel (.c .z (.c .z (.c .z .n)))) ?_
  rintro ⟨k, css⟩ ⟨hk, hlcss⟩
  have hle := sumF_le (f := cnt_DEnt) (xs := x) (k := k)
  refine FJ.seq ?_
  refine FJ.seq ?_
  refine FJ.region ?_
  refine FJ.q (goes_list rfl) rfl (by decide) rfl (q_move rfl (.t .z)) ?_
  refine FJ.q (goes_list rfl) rfl (by decide) rfl (q_move rfl (.t (.s (.s (.s .z))))) ?_
  refine FJ.q (goes_list rfl) rfl (by decide) rfl (q_len rfl u_58 (.t .z)) ?_
  refine FJ.q (goes_list rfl) rfl (by decide) rfl (q_lss rfl (.t (.s (.s .z))) (.t .z)) ?_
  refine FJ.nil ?_
  refine FJ.then_ ?_
  refine FJ.condP (.t .z) (fun b2 => ?_) (fun b2 => ?_)
  · -- b2: True
    refine FJ.skip ?_
    refine FJ.then_ ?_
    refine FJ.seq ?_
    refine FJ.block ?_
    refine FJ.seq ?_
    refine FJ.region ?_
    refine FJ.q (goes_list rfl) rfl (by decide) rfl (q_move rfl (.t (.s (.s (.s (.s (.s (.s .z)))))))) ?_
    refine FJ.q (goes_list rfl) rfl (by decide) rfl (q_move rfl (.t (.s (.s (.s (.s (.s .z))))))) ?_
    refine FJ.q (goes_list rfl) rfl (by decide) rfl (q_move rfl (.t (.s (.s (.s (.s (.s (.s (.s (.s (.s .z))))))))))) ?_
    refine FJ.call (goes_list rfl) rfl (by decide) rfl (c_call rfl Try.func75 rfl rfl (args1 (.t .z))) .n (fun w1 S1 hs tr => c_75 _ (by omega)) ?_
    rintro _ _ ⟨rfl, rfl⟩
    refine FJ.cat .n ?_
    refine FJ.know (WS.oad (.s .z) (by omega)) ?_
    rintro ⟨ad3, rfl⟩
    obtain ⟨c4, hc4⟩ := get_ex (xs := css) (j := k) (by omega)
    obtain ⟨y5, hy5⟩ := get_ex (xs := x) (j := k) (by omega)
    refine FJ.turn (.s (.s .z)) (seq_pop hy5 hc4) ?_
    refine FJ.open (.c .z .n) kT_69_op ?_
    rintro ⟨⟩ ⟨rfl, sy5_0⟩
    have gy5 := sumF_get cnt_DEnt hy5
    have ty5 := sumF_take cnt_DEnt hy5
    simp only [cnt_DEnt] at gy5 ty5
    refine FJ.q (goes_list rfl) rfl (by decide) rfl (q_indexAddr (j := k) rfl u_58 sz_69 (.t (.s (.s (.s .z)))) (.t (.s (.s .z))) rfl (by omega)) ?_
    refine FJ.q (goes_list rfl) rfl (by decide) rfl (q_fieldAddr rfl (.t .z) (fun _ => fa_69_0 _ _)) ?_
    refine FJ.es (goes_list rfl) rfl (es_raw (j := k) (off := 0) (cs := [.string (mtext (n + (sumF cnt_DEnt (List.take k x) : Int)))]) rfl sz_9 (.t .z) rfl (.t (.s (.s .z))) rfl (ones rfl) (.s (.s .z)) hc4 (Nat.le_of_ble_eq_true rfl)) ?_
    refine FJ.ceq (x' := List.set css k [.string (mtext (n + (sumF cnt_DEnt (List.take k x) : Int))), .int .i64 y5.ino]) .z rfl ?_
    refine FJ.nil ?_
    refine FJ.then_ ?_
    refine FJ.seq ?_
    refine FJ.region ?_
    refine FJ.q (goes_list rfl) rfl (by decide) rfl (q_move rfl (.t (.s (.s (.s (.s (.s (.s (.s (.s (.s (.s (.s (.s (.s .z))))))))))))))) ?_
    refine FJ.q (goes_list rfl) rfl (by decide) rfl (q_add (c := (n + (sumF cnt_DEnt (List.take k x) : Int)) + 1) rfl (.t .z) .c (wr (by omega) (by omega) (by omega))) ?_
    refine FJ.er (.s (.s (.s (.s (.s (.s (.s (.s (.s (.s (.s (.s (.s (.s (.s .z))))))))))))))) ?_
    refine FJ.q (goes_list rfl) rfl (by decide) rfl (q_assign rfl (.t .z)) ?_
    refine FJ.nil ?_
    refine FJ.then_ ?_
    refine FJ.seq ?_
    refine FJ.region ?_
    refine FJ.q (goes_list rfl) rfl (by decide) rfl (q_move rfl (.t (.s (.s (.s (.s (.s (.s (.s (.s (.s (.s (.s (.s (.s (.s (.s .z))))))))))))))))) ?_
    refine FJ.q (goes_list rfl) rfl (by decide) rfl (q_move rfl (.t (.s (.s (.s (.s (.s (.s (.s (.s (.s (.s (.s (.s (.s (.s .z)))))))))))))))) ?_
    refine FJ.q (goes_list rfl) rfl (by decide) rfl (q_move rfl (.t (.s (.s .z)))) ?_
    refine FJ.q (goes_list rfl) rfl (by decide) rfl (q_indexAddr (j := k) rfl u_58 sz_69 (.t (.s (.s .z))) (.t (.s .z)) rfl (by omega)) ?_
    refine FJ.q (goes_list rfl) rfl (by decide) rfl (q_fieldAddr rfl (.t .z) (fun _ => fa_69_1 _ _)) ?_
    refine FJ.es (goes_list rfl) rfl (es_raw (j := k) (off := 1) (cs := [.int .i64 ((n + (sumF cnt_DEnt (List.take k x) : Int)) + 1)]) rfl sz_2 (.t .z) (add_add _ _ _) (.t (.s (.s .z))) rfl (ones rfl) .z (set_get hc4) (Nat.le_of_ble_eq_true rfl)) ?_
    refine FJ.ceq (x' := List.set css k [.string (mtext (n + (sumF cnt_DEnt (List.take k x) : Int))), .int .i64 ((n + (sumF cnt_DEnt (List.take k x) : Int)) + 1)]) .z (List.set_set ..) ?_
    refine FJ.nil ?_
    refine FJ.then_ ?_
    refine FJ.region ?_
    refine FJ.q (goes_list rfl) rfl (by decide) rfl (q_move rfl (.t (.s (.s (.s (.s (.s .z))))))) ?_
    refine FJ.q (goes_list rfl) rfl (by decide) rfl (q_add (c := ((n + (sumF cnt_DEnt (List.take k x) : Int)) + 1) + 1) rfl (.t .z) .c (wr (by omega) (by omega) (by omega))) ?_
    refine FJ.er (.s (.s (.s (.s (.s (.s (.s .z))))))) ?_
    refine FJ.q (goes_list rfl) rfl (by decide) rfl (q_assign rfl (.t .z)) ?_
    refine FJ.nil ?_
    refine FJ.inBN ?_
    refine FJ.then_ ?_
    refine FJ.region ?_
    refine FJ.q (goes_list rfl) rfl (by decide) rfl (q_move rfl (.t (.s (.s (.s (.s (.s (.s (.s (.s (.s (.s (.s (.s (.s (.s (.s (.s (.s (.s (.s (.s .z)))))))))))))))))))))) ?_
    refine FJ.q (goes_list rfl) rfl (by decide) rfl (q_add (c := ((k + 1 : Nat) : Int)) rfl (.t .z) .c (wr (by omega) (by omega) (by omega))) ?_
    refine FJ.er (.s (.s (.s (.s (.s (.s (.s (.s (.s (.s (.s (.s (.s (.s (.s (.s (.s (.s (.s (.s (.s (.s .z)))))))))))))))))))))) ?_
    refine FJ.q (goes_list rfl) rfl (by decide) rfl (q_assign rfl (.t .z)) ?_
    refine FJ.nil ?_
    refine FJ.turns (c := ownA kT_69 (mark_DEnt (n + (sumF cnt_DEnt (List.take k x) : Int)) y5) [.string (mtext (n + (sumF cnt_DEnt (List.take k x) : Int))), .int .i64 ((n + (sumF cnt_DEnt (List.take k x) : Int)) + 1)]) .n (fun w S h => kT_69_omk (mark_DEnt (n + (sumF cnt_DEnt (List.take k x) : Int)) y5) h (mtext_size (by omega))) ?_
    refine FJ.turns (c := seqC kT_69 (markL cnt_DEnt mark_DEnt n (List.take (k + 1) x)) (List.take (k + 1) (List.set css k [.string (mtext (n + (sumF cnt_DEnt (List.take k x) : Int))), .int .i64 ((n + (sumF cnt_DEnt (List.take k x) : Int)) + 1)]))) (.c (.s (.s (.s .z))) (.c .z .n)) (seq_snoc' (by rw [markL_len, List.length_take, List.length_take, hlcss]) (by rw [markL_take _ hy5]) (take_set hc4)) ?_
    refine FJ.turns (c := seqC kT_69 (List.drop (k + 1) x) (List.drop (k + 1) (List.set css k [.string (mtext (n + (sumF cnt_DEnt (List.take k x) : Int))), .int .i64 ((n + (sumF cnt_DEnt (List.take k x) : Int)) + 1)]))) (.c (.s (.s .z)) .n) (fun w S h => seq_same rfl drop_set w S (h.head (c := seqC _ _ _))) ?_
    refine FJ.again ((k + 1), List.set css k [.string (mtext (n + (sumF cnt_DEnt (List.take k x) : Int))), .int .i64 ((n + (sumF cnt_DEnt (List.take k x) : Int)) + 1)]) ⟨by omega, by rw [List.length_set]; exact hlcss⟩ (by first | omega | (dsimp only; omega)) (.c .z (.c (.s (.s (.s (.s (.s (.s (.s (.s (.s (.s (.s (.s (.s (.s (.s (.s (.s (.s (.s (.s (.s (.s (.s .z))))))))))))))))))))))) (.c (.s (.s (.s (.s (.s (.s (.s (.s (.s (.s (.s (.s (.s (.s (.s (.s (.s (.s (.s (.s (.s (.s (.s (.s .z)))))))))))))))))))))))) (.e (.s (.s (.s .z))) (congrArg (Value.int .i64) (by omega)) .n)))) (fun _ h => h.sel (.c (.s .z) (.c (.s .z) (.c .z .n))))
  · -- b2: False
    refine FJ.exit ?_
    refine FJ.thenE ?_
    refine FJ.thenE ?_
    refine FJ.inB ?_
    refine FJ.then_ ?_
    refine FJ.seq ?_
    refine FJ.region ?_
    refine FJ.q (goes_list rfl) rfl (by decide) rfl (q_move rfl (.t (.s (.s (.s (.s (.s (.s (.s .z))))))))) ?_
    refine FJ.er (.s (.s (.s (.s (.s (.s .z)))))) ?_
    refine FJ.q (goes_list rfl) rfl (by decide) rfl (q_assign rfl (.t .z)) ?_
    refine FJ.nil ?_
    refine FJ.then_ ?_
    refine FJ.ret ?_
    refine FJ.turns (c := ownA kSl_69 ((markL cnt_DEnt mark_DEnt) n x) [.slice Ao1 x.length co1]) (.c (.s .z) (.c .z .n)) (raw_own' (by rw [markL_len, hlcss]) (by rw [List.take_of_length_le (by omega)]) (by rw [List.take_of_length_le (by omega)])) ?_
    refine FJ.doneS (res1 rfl .z) (.c .z .n) ?_
    exact ⟨by rw [sumF_all _ (by omega)], rfl⟩

set_option maxHeartbeats 1000000 in
set_option maxRecDepth 20000 in
theorem c_46 {w0 : World} {S0 : Bs} {x : (List DInode)} {v0 : Value} (n : Int) (hs : Star [ownA kSl_60 x [v0]] w0 S0) (hn0 : 0 ≤ n) (hn1 : n + ((sumF cnt_DInode x) : Int) ≤ 4611686018427387904) :
    Calls Try.prog 46 #[v0, .int .i64 n] w0 (TriPost w0 S0 (fun r l => r = .int .i64 (n + ((sumF cnt_DInode x) : Int)) ∧ l = [ownA kSl_60 ((markL cnt_DInode mark_DInode) n x) [v0]])) := by
  refine FJ.enter (N := 48) Try.func46 rfl rfl (by simp) [(0, v0), (1, .int .i64 n)] (by simp) hs ?_
  refine FJ.know (WS.oform .z) ?_
  rintro ⟨Ao1, co1, rfl, hlo1, hmo1, hbo1⟩
  refine FJ.open (.c .z .n) own_raw ?_
  rintro css hlcss
  refine FJ.add (c := seqC kT_60 [] []) seqC_nil ?_
  refine FJ.seq ?_
  refine FJ.region ?_
  refine FJ.q (goes_list rfl) rfl (by decide) rfl (q_assign rfl .c) ?_
  refine FJ.nil ?_
  refine FJ.then_ ?_
  refine FJ.seq ?_
  refine FJ.seq ?_
  refine FJ.region ?_
  refine FJ.q (goes_list rfl) rfl (by decide) rfl (q_assign rfl .c) ?_
  refine FJ.nil ?_
  refine FJ.then_ ?_
  refine FJ.block ?_
  refine FJ.loopi (γ := Nat × (List (List Value))) (fun ⟨k, css⟩ => [(5, .int .i64 (k : Int)), (4, .int .i64 0), (0, .slice Ao1 x.length co1), (1, .int .i64 (n + (sumF cnt_DInode (List.take k x) : Int)))]) (fun ⟨k, css⟩ => [seqC kT_60 (markL cnt_DInode mark_DInode n (List.take k x)) (List.take k css), ownA (kslice 60 72 (kraw kT_60.sz kT_60.pos)) css [.slice Ao1 x.length co1], seqC kT_60 (List.drop k x) (List.drop k css)]) (fun ⟨k, css⟩ => k ≤ x.length ∧ css.length = x.length) (fun ⟨k, css⟩ => x.length - k) (0, css) ⟨Nat.zero_le _, hlcss⟩ (.c .z (.c (.s .z) (.c (.s (.s .z)) (.e (.s (.s (.s .z))) (congrArg (Value.int .i64) (by simp only [List.take_zero, sumF]; omega)) .n)))) (fun _ h => h.sel (.c .z (.c .z (.c .z .n)))) ?_
  rintro ⟨k, css⟩ ⟨hk, hlcss⟩
  have hle := sumF_le (f := cnt_DInode) (xs := x) (k := k)
  refine FJ.seq ?_
  refine FJ.seq ?_
  refine FJ.region ?_
  refine FJ.q (goes_list rfl) rfl (by decide) rfl (q_move rfl (.t .z)) ?_
  refine FJ.q (goes_list rfl) rfl (by decide) rfl (q_move rfl (.t (.s (.s (.s .z))))) ?_
  refine FJ.q (goes_list rfl) rfl (by decide) rfl (q_len rfl u_28 (.t .z)) ?_
  refine FJ.q (goes_list rfl) rfl (by decide) rfl (q_lss rfl (.t (.s (.s .z))) (.t .z)) ?_
  refine FJ.nil ?_
  refine FJ.then_ ?_
  refine FJ.condP (.t .z) (fun b2 => ?_) (fun b2 => ?_)
  · -- b2: True
    refine FJ.skip ?_
    refine FJ.then_ ?_
    refine FJ.seq ?_
    refine FJ.block ?_
    refine FJ.seq ?_
    refine FJ.region ?_
    refine FJ.q (goes_list rfl) rfl (by decide) rfl (q_move rfl (.t (.s (.s (.s (.s (.s (.s .z)))))))) ?_
    refine FJ.q (goes_list rfl) rfl (by decide) rfl (q_move rfl (.t (.s (.s (.s (.s (.s .z))))))) ?_
    refine FJ.q (goes_list rfl) rfl (by decide) rfl (q_move rfl (.t (.s (.s (.s (.s (.s (.s (.s (.s (.s .z))))))))))) ?_
    refine FJ.know (WS.oad (.s .z) (by omega)) ?_
    rintro ⟨ad3, rfl⟩
    obtain ⟨c4, hc4⟩ := get_ex (xs := css) (j := k) (by omega)
    obtain ⟨y5, hy5⟩ := get_ex (xs := x) (j := k) (by omega)
    refine FJ.turn (.s (.s .z)) (seq_pop hy5 hc4) ?_
    refine FJ.open (.c .z .n) kT_60_op ?_
    rintro ⟨v6, v7⟩ rfl
    refine FJ.know (WS.oform .z) ?_
    rintro ⟨Ao10, co10, rfl, hlo10, hmo10, hbo10⟩
    refine FJ.know (WS.oform (.s .z)) ?_
    rintro ⟨Ao11, co11, rfl, hlo11, hmo11, hbo11⟩
    have gy5 := sumF_get cnt_DInode hy5
    have ty5 := sumF_take cnt_DInode hy5
    simp only [cnt_DInode] at gy5 ty5
    refine FJ.q (goes_list rfl) rfl (by decide) rfl (q_indexAddr (j := k) rfl u_28 sz_60 (.t (.s (.s .z))) (.t (.s .z)) rfl (by omega)) ?_
    refine FJ.q (goes_list rfl) rfl (by decide) rfl (q_fieldAddr rfl (.t .z) (fun _ => fa_60_0 _ _)) ?_
    refine FJ.es (goes_list rfl) rfl (es_raw (j := k) (off := 0) (cs := [.int .i64 (n + (sumF cnt_DInode (List.take k x) : Int))]) rfl sz_2 (.t .z) rfl (.t (.s (.s .z))) rfl (ones rfl) (.s (.s (.s (.s .z)))) hc4 (Nat.le_of_ble_eq_true rfl)) ?_
    refine FJ.ceq (x' := List.set css k [.int .i64 (n + (sumF cnt_DInode (List.take k x) : Int)), .int .i64 y5.links, .int .i64 y5.size, .slice Ao10 y5.blocks.length co10, .slice Ao11 y5.ents.length co11]) .z rfl ?_
    refine FJ.nil ?_
    refine FJ.then_ ?_
    refine FJ.seq ?_
    refine FJ.region ?_
    refine FJ.q (goes_list rfl) rfl (by decide) rfl (q_move rfl (.t (.s (.s (.s (.s (.s (.s (.s (.s (.s (.s (.s (.s .z)))))))))))))) ?_
    refine FJ.q (goes_list rfl) rfl (by decide) rfl (q_add (c := (n + (sumF cnt_DInode (List.take k x) : Int)) + 1) rfl (.t .z) .c (wr (by omega) (by omega) (by omega))) ?_
    refine FJ.er (.s (.s (.s (.s (.s (.s (.s (.s (.s (.s (.s (.s (.s (.s .z)))))))))))))) ?_
    refine FJ.q (goes_list rfl) rfl (by decide) rfl (q_assign rfl (.t .z)) ?_
    refine FJ.nil ?_
    refine FJ.then_ ?_
    refine FJ.seq ?_
    refine FJ.region ?_
    refine FJ.q (goes_list rfl) rfl (by decide) rfl (q_move rfl (.t (.s (.s (.s (.s (.s (.s (.s (.s (.s (.s (.s (.s (.s (.s .z)))))))))))))))) ?_
    refine FJ.q (goes_list rfl) rfl (by decide) rfl (q_move rfl (.t (.s (.s (.s (.s (.s (.s (.s (.s (.s (.s (.s (.s (.s .z))))))))))))))) ?_
    refine FJ.q (goes_list rfl) rfl (by decide) rfl (q_move rfl (.t (.s (.s .z)))) ?_
    refine FJ.q (goes_list rfl) rfl (by decide) rfl (q_indexAddr (j := k) rfl u_28 sz_60 (.t (.s (.s .z))) (.t (.s .z)) rfl (by omega)) ?_
    refine FJ.q (goes_list rfl) rfl (by decide) rfl (q_fieldAddr rfl (.t .z) (fun _ => fa_60_1 _ _)) ?_
    refine FJ.es (goes_list rfl) rfl (es_raw (j := k) (off := 1) (cs := [.int .i64 ((n + (sumF cnt_DInode (List.take k x) : Int)) + 1)]) rfl sz_2 (.t .z) (add_add _ _ _) (.t (.s (.s .z))) rfl (ones rfl) .z (set_get hc4) (Nat.le_of_ble_eq_true rfl)) ?_
    refine FJ.ceq (x' := List.set css k [.int .i64 (n + (sumF cnt_DInode (List.take k x) : Int)), .int .i64 ((n + (sumF cnt_DInode (List.take k x) : Int)) + 1), .int .i64 y5.size, .slice Ao10 y5.blocks.length co10, .slice Ao11 y5.ents.length co11]) .z (List.set_set ..) ?_
    refine FJ.nil ?_
    refine FJ.then_ ?_
    refine FJ.seq ?_
    refine FJ.region ?_
    refine FJ.q (goes_list rfl) rfl (by decide) rfl (q_move rfl (.t (.s (.s (.s (.s (.s .z))))))) ?_
    refine FJ.q (goes_list rfl) rfl (by decide) rfl (q_add (c := ((n + (sumF cnt_DInode (List.take k x) : Int)) + 1) + 1) rfl (.t .z) .c (wr (by omega) (by omega) (by omega))) ?_
    refine FJ.er (.s (.s (.s (.s (.s (.s (.s .z))))))) ?_
    refine FJ.q (goes_list rfl) rfl (by decide) rfl (q_assign rfl (.t .z)) ?_
    refine FJ.nil ?_
    refine FJ.then_ ?_
    refine FJ.seq ?_
    refine FJ.region ?_
    refine FJ.q (goes_list rfl) rfl (by decide) rfl (q_move rfl (.t (.s (.s (.s (.s (.s (.s (.s (.s (.s (.s (.s (.s (.s (.s (.s (.s (.s (.s (.s (.s (.s .z))))))))))))))))))))))) ?_
    refine FJ.q (goes_list rfl) rfl (by decide) rfl (q_move rfl (.t (.s (.s (.s (.s (.s (.s (.s (.s (.s (.s (.s (.s (.s (.s (.s (.s (.s (.s (.s (.s .z)))))))))))))))))))))) ?_
    refine FJ.q (goes_list rfl) rfl (by decide) rfl (q_move rfl (.t (.s (.s .z)))) ?_
    refine FJ.q (goes_list rfl) rfl (by decide) rfl (q_indexAddr (j := k) rfl u_28 sz_60 (.t (.s (.s .z))) (.t (.s .z)) rfl (by omega)) ?_
    refine FJ.q (goes_list rfl) rfl (by decide) rfl (q_fieldAddr rfl (.t .z) (fun _ => fa_60_2 _ _)) ?_
    refine FJ.es (goes_list rfl) rfl (es_raw (j := k) (off := 2) (cs := [.int .i64 (((n + (sumF cnt_DInode (List.take k x) : Int)) + 1) + 1)]) rfl sz_2 (.t .z) (add_add _ _ _) (.t (.s (.s .z))) rfl (ones rfl) .z (set_get hc4) (Nat.le_of_ble_eq_true rfl)) ?_
    refine FJ.ceq (x' := List.set css k [.int .i64 (n + (sumF cnt_DInode (List.take k x) : Int)), .int .i64 ((n + (sumF cnt_DInode (List.take k x) : Int)) + 1), .int .i64 (((n + (sumF cnt_DInode (List.take k x) : Int)) + 1) + 1), .slice Ao10 y5.blocks.length co10, .slice Ao11 y5.ents.length co11]) .z (List.set_set ..) ?_
    refine FJ.nil ?_
    refine FJ.then_ ?_
    refine FJ.seq ?_
    refine FJ.region ?_
    refine FJ.q (goes_list rfl) rfl (by decide) rfl (q_move rfl (.t (.s (.s (.s (.s (.s .z))))))) ?_
    refine FJ.q (goes_list rfl) rfl (by decide) rfl (q_add (c := (((n + (sumF cnt_DInode (List.take k x) : Int)) + 1) + 1) + 1) rfl (.t .z) .c (wr (by omega) (by omega) (by omega))) ?_
    refine FJ.er (.s (.s (.s (.s (.s (.s (.s .z))))))) ?_
    refine FJ.q (goes_list rfl) rfl (by decide) rfl (q_assign rfl (.t .z)) ?_
    refine FJ.nil ?_
    refine FJ.then_ ?_
    refine FJ.seq ?_
    refine FJ.region ?_
    refine FJ.q (goes_list rfl) rfl (by decide) rfl (q_move rfl (.t (.s (.s (.s (.s (.s (.s (.s (.s (.s (.s (.s (.s (.s (.s (.s (.s (.s (.s (.s (.s (.s (.s (.s (.s (.s (.s (.s (.s .z)))))))))))))))))))))))))))))) ?_
    refine FJ.q (goes_list rfl) rfl (by decide) rfl (q_move rfl (.t (.s (.s (.s (.s (.s (.s (.s (.s (.s (.s (.s (.s (.s (.s (.s (.s (.s (.s (.s (.s (.s (.s (.s (.s (.s (.s (.s .z))))))))))))))))))))))))))))) ?_
    refine FJ.q (goes_list rfl) rfl (by decide) rfl (q_indexAddr (j := k) rfl u_28 sz_60 (.t (.s .z)) (.t .z) rfl (by omega)) ?_
    refine FJ.q (goes_list rfl) rfl (by decide) rfl (q_fieldAddr rfl (.t .z) (fun _ => fa_60_3 _ _)) ?_
    refine FJ.q (goes_list rfl) rfl (by decide) rfl (q_load rfl ag_39 (.t .z) (WS.raw .z (set_get hc4) rfl)) ?_
    refine FJ.q (goes_list rfl) rfl (by decide) rfl (q_move rfl (.t (.s (.s (.s (.s (.s .z))))))) ?_
    refine FJ.call (goes_list rfl) rfl (by decide) rfl (c_call rfl Try.func48 rfl rfl (args2 (.t (.s .z)) (.t .z))) (.c (.s .z) .n) (fun w1 S1 hs tr => c_48 _ hs (by omega) (by first | omega | (omega))) ?_
    rintro _ _ ⟨rfl, rfl⟩
    refine FJ.cat (.c .n) ?_
    refine FJ.er (.s (.s (.s (.s (.s (.s (.s .z))))))) ?_
    refine FJ.q (goes_list rfl) rfl (by decide) rfl (q_assign rfl (.t .z)) ?_
    refine FJ.nil ?_
    refine FJ.then_ ?_
    refine FJ.region ?_
    refine FJ.q (goes_list rfl) rfl (by decide) rfl (q_move rfl (.t (.s (.s (.s (.s (.s (.s (.s (.s (.s (.s (.s (.s (.s (.s (.s (.s (.s (.s (.s (.s (.s (.s (.s (.s (.s (.s (.s (.s (.s (.s (.s (.s (.s (.s (.s .z))))))))))))))))))))))))))))))))))))) ?_
    refine FJ.q (goes_list rfl) rfl (by decide) rfl (q_move rfl (.t (.s (.s (.s (.s (.s (.s (.s (.s (.s (.s (.s (.s (.s (.s (.s (.s (.s (.s (.s (.s (.s (.s (.s (.s (.s (.s (.s (.s (.s (.s (.s (.s (.s (.s .z)))))))))))))))))))))))))))))))))))) ?_
    refine FJ.q (goes_list rfl) rfl (by decide) rfl (q_indexAddr (j := k) rfl u_28 sz_60 (.t (.s .z)) (.t .z) rfl (by omega)) ?_
    refine FJ.q (goes_list rfl) rfl (by decide) rfl (q_fieldAddr rfl (.t .z) (fun _ => fa_60_4 _ _)) ?_
    refine FJ.q (goes_list rfl) rfl (by decide) rfl (q_load rfl ag_58 (.t .z) (WS.raw (.s .z) (set_get hc4) rfl)) ?_
    refine FJ.q (goes_list rfl) rfl (by decide) rfl (q_move rfl (.t (.s (.s (.s (.s (.s .z))))))) ?_
    refine FJ.call (goes_list rfl) rfl (by decide) rfl (c_call rfl Try.func73 rfl rfl (args2 (.t (.s .z)) (.t .z))) (.c (.s (.s .z)) .n) (fun w1 S1 hs tr => c_73 _ hs (by omega) (by first | omega | (omega))) ?_
    rintro _ _ ⟨rfl, rfl⟩
    refine FJ.cat (.c .n) ?_
    refine FJ.er (.s (.s (.s (.s (.s (.s (.s .z))))))) ?_
    refine FJ.q (goes_list rfl) rfl (by decide) rfl (q_assign rfl (.t .z)) ?_
    refine FJ.nil ?_
    refine FJ.inBN ?_
    refine FJ.then_ ?_
    refine FJ.region ?_
    refine FJ.q (goes_list rfl) rfl (by decide) rfl (q_move rfl (.t (.s (.s (.s (.s (.s (.s (.s (.s (.s (.s (.s (.s (.s (.s (.s (.s (.s (.s (.s (.s (.s (.s (.s (.s (.s (.s (.s (.s (.s (.s (.s (.s (.s (.s (.s (.s (.s (.s (.s (.s .z)))))))))))))))))))))))))))))))))))))))))) ?_
    refine FJ.q (goes_list rfl) rfl (by decide) rfl (q_add (c := ((k + 1 : Nat) : Int)) rfl (.t .z) .c (wr (by omega) (by omega) (by omega))) ?_
    refine FJ.er (.s (.s (.s (.s (.s (.s (.s (.s (.s (.s (.s (.s (.s (.s (.s (.s (.s (.s (.s (.s (.s (.s (.s (.s (.s (.s (.s (.s (.s (.s (.s (.s (.s (.s (.s (.s (.s (.s (.s (.s (.s (.s .z)))))))))))))))))))))))))))))))))))))))))) ?_
    refine FJ.q (goes_list rfl) rfl (by decide) rfl (q_assign rfl (.t .z)) ?_
    refine FJ.nil ?_
    refine FJ.turns (c := ownA kT_60 (mark_DInode (n + (sumF cnt_DInode (List.take k x) : Int)) y5) [.int .i64 (n + (sumF cnt_DInode (List.take k x) : Int)), .int .i64 ((n + (sumF cnt_DInode (List.take k x) : Int)) + 1), .int .i64 (((n + (sumF cnt_DInode (List.take k x) : Int)) + 1) + 1), .slice Ao10 y5.blocks.length co10, .slice Ao11 y5.ents.length co11]) (.c (.s .z) (.c .z .n)) (fun w S h => kT_60_omk (mark_DInode (n + (sumF cnt_DInode (List.take k x) : Int)) y5) h) ?_
    refine FJ.turns (c := seqC kT_60 (markL cnt_DInode mark_DInode n (List.take (k + 1) x)) (List.take (k + 1) (List.set css k [.int .i64 (n + (sumF cnt_DInode (List.take k x) : Int)), .int .i64 ((n + (sumF cnt_DInode (List.take k x) : Int)) + 1), .int .i64 (((n + (sumF cnt_DInode (List.take k x) : Int)) + 1) + 1), .slice Ao10 y5.blocks.length co10, .slice Ao11 y5.ents.length co11]))) (.c (.s (.s (.s .z))) (.c .z .n)) (seq_snoc' (by rw [markL_len, List.length_take, List.length_take, hlcss]) (by rw [markL_take _ hy5]) (take_set hc4)) ?_
    refine FJ.turns (c := seqC kT_60 (List.drop (k + 1) x) (List.drop (k + 1) (List.set css k [.int .i64 (n + (sumF cnt_DInode (List.take k x) : Int)), .int .i64 ((n + (sumF cnt_DInode (List.take k x) : Int)) + 1), .int .i64 (((n + (sumF cnt_DInode (List.take k x) : Int)) + 1) + 1), .slice Ao10 y5.blocks.length co10, .slice Ao11 y5.ents.length co11]))) (.c (.s (.s .z)) .n) (fun w S h => seq_same rfl drop_set w S (h.head (c := seqC _ _ _))) ?_
    refine FJ.again ((k + 1), List.set css k [.int .i64 (n + (sumF cnt_DInode (List.take k x) : Int)), .int .i64 ((n + (sumF cnt_DInode (List.take k x) : Int)) + 1), .int .i64 (((n + (sumF cnt_DInode (List.take k x) : Int)) + 1) + 1), .slice Ao10 y5.blocks.length co10, .slice Ao11 y5.ents.length co11]) ⟨by omega, by rw [List.length_set]; exact hlcss⟩ (by first | omega | (dsimp only; omega)) (.c .z (.c (.s (.s (.s (.s (.s (.s (.s (.s (.s (.s (.s (.s (.s (.s (.s (.s (.s (.s (.s (.s (.s (.s (.s (.s (.s (.s (.s (.s (.s (.s (.s (.s (.s (.s (.s (.s (.s (.s (.s (.s (.s (.s (.s .z))))))))))))))))))))))))))))))))))))))))))) (.c (.s (.s (.s (.s (.s (.s (.s (.s (.s (.s (.s (.s (.s (.s (.s (.s (.s (.s (.s (.s (.s (.s (.s (.s (.s (.s (.s (.s (.s (.s (.s (.s (.s (.s (.s (.s (.s (.s (.s (.s (.s (.s (.s (.s .z)))))))))))))))))))))))))))))))))))))))))))) (.e (.s (.s (.s .z))) (congrArg (Value.int .i64) (by omega)) .n)))) (fun _ h => h.sel (.c (.s .z) (.c (.s .z) (.c .z .n))))
  · -- b2: False
    refine FJ.exit ?_
    refine FJ.thenE ?_
    refine FJ.thenE ?_
    refine FJ.inB ?_
    refine FJ.then_ ?_
    refine FJ.seq ?_
    refine FJ.region ?_
    refine FJ.q (goes_list rfl) rfl (by decide) rfl (q_move rfl (.t (.s (.s (.s (.s (.s (.s (.s .z))))))))) ?_
    refine FJ.er (.s (.s (.s (.s (.s (.s .z)))))) ?_
    refine FJ.q (goes_list rfl) rfl (by decide) rfl (q_assign rfl (.t .z)) ?_
    refine FJ.nil ?_
    refine FJ.then_ ?_
    refine FJ.ret ?_
    refine FJ.turns (c := ownA kSl_60 ((markL cnt_DInode mark_DInode) n x) [.slice Ao1 x.length co1]) (.c (.s .z) (.c .z .n)) (raw_own' (by rw [markL_len, hlcss]) (by rw [List.take_of_length_le (by omega)]) (by rw [List.take_of_length_le (by omega)])) ?_
    refine FJ.doneS (res1 rfl .z) (.c .z .n) ?_
    exact ⟨by rw [sumF_all _ (by omega)], rfl⟩

set_option maxHeartbeats 1000000 in
set_option maxRecDepth 20000 in
theorem c_20 {w0 : World} {S0 : Bs} {x : RInts} {v0_1 : Value} (n : Int) (hs : Star [ownA kSl_2 x.list [v0_1]] w0 S0) (hn0 : 0 ≤ n) (hn1 : n + ((vcnt_RInts x) : Int) ≤ 4611686018427387904) :
    Calls Try.prog 20 #[.agg #[.int .i64 x.code, v0_1], .int .i64 n] w0 (TriPost w0 S0 (fun r l => r = .int .i64 (n + ((vcnt_RInts x) : Int)) ∧ l = [ownA kSl_2 (vmark_RInts n x).list [v0_1]])) := by
  simp only [vcnt_RInts] at hn1
  refine FJ.enter (N := 10) Try.func20 rfl rfl (by simp) [(0, .agg #[.int .i64 x.code, v0_1]), (1, .int .i64 n)] (by simp) hs ?_
  refine FJ.know (WS.oform .z) ?_
  rintro ⟨Ao1, co1, rfl, hlo1, hmo1, hbo1⟩
  refine FJ.seq ?_
  refine FJ.region ?_
  refine FJ.e (goes_list rfl) rfl (by decide) rfl (e_box (cs := [.int .i64 x.code, .slice Ao1 x.list.length co1]) (n := 2) rfl (.t .z) rfl rfl) ?_
  rintro _ _ ⟨g2, rfl, rfl⟩
  refine FJ.q (goes_list rfl) rfl (by decide) rfl (q_assign rfl .c) ?_
  refine FJ.nil ?_
  refine FJ.then_ ?_
  refine FJ.seq ?_
  refine FJ.region ?_
  refine FJ.q (goes_list rfl) rfl (by decide) rfl (q_fieldAddr rfl (.t (.s .z)) (fun _ => fa_41_1 _ _)) ?_
  refine FJ.q (goes_list rfl) rfl (by decide) rfl (q_load rfl ag_39 (.t .z) (WS.row .z rfl)) ?_
  refine FJ.q (goes_list rfl) rfl (by decide) rfl (q_move rfl (.t (.s (.s (.s (.s (.s .z))))))) ?_
  refine FJ.call (goes_list rfl) rfl (by decide) rfl (c_call rfl Try.func48 rfl rfl (args2 (.t (.s .z)) (.t .z))) (.c (.s .z) .n) (fun w1 S1 hs tr => c_48 _ hs (by omega) (by first | omega | (omega))) ?_
  rintro _ _ ⟨rfl, rfl⟩
  refine FJ.cat (.c .n) ?_
  refine FJ.er (.s (.s (.s (.s (.s (.s (.s .z))))))) ?_
  refine FJ.q (goes_list rfl) rfl (by decide) rfl (q_assign rfl (.t .z)) ?_
  refine FJ.nil ?_
  refine FJ.then_ ?_
  refine FJ.seq ?_
  refine FJ.region ?_
  refine FJ.q (goes_list rfl) rfl (by decide) rfl (q_move rfl (.t .z)) ?_
  refine FJ.er (.s (.s (.s (.s (.s (.s .z)))))) ?_
  refine FJ.q (goes_list rfl) rfl (by decide) rfl (q_assign rfl (.t .z)) ?_
  refine FJ.nil ?_
  refine FJ.then_ ?_
  refine FJ.ret ?_
  refine FJ.doneS (res1 rfl .z) (.c .z .n) ?_
  exact ⟨congrArg (Value.int .i64) (by simp only [vcnt_RInts]; omega), rfl⟩

set_option maxHeartbeats 1000000 in
set_option maxRecDepth 20000 in
theorem c_49 {w0 : World} {S0 : Bs} {y : (List Int)} {v0 : Value} (h0 : kSl_2.ro w0 (FF w0 S0) y [v0]) (n : Int) (x : (List Int)) (e0 : y = ((markL (fun _ => 1) (fun m _ => m)) n x)) (hn0 : 0 ≤ n) (hn1 : n + (x.length : Int) ≤ 4611686018427387904) :
    Calls Try.prog 49 #[v0, .int .i64 n] w0 (TriPost w0 S0 (fun r l => r = .int .i64 (n + (x.length : Int)) ∧ l = [])) := by
  obtain ⟨A0, c0, rfl, hl0, hm0, hb0, he0⟩ := ro_form h0
  have hl := markE_len e0
  refine FJ.enter (N := 21) Try.func49 rfl rfl (by simp) [(0, .slice A0 y.length c0), (1, .int .i64 n)] (by simp) (l0 := []) trivial ?_
  refine FJ.seq ?_
  refine FJ.region ?_
  refine FJ.q (goes_list rfl) rfl (by decide) rfl (q_assign rfl .c) ?_
  refine FJ.nil ?_
  refine FJ.then_ ?_
  refine FJ.seq ?_
  refine FJ.seq ?_
  refine FJ.region ?_
  refine FJ.q (goes_list rfl) rfl (by decide) rfl (q_assign rfl .c) ?_
  refine FJ.nil ?_
  refine FJ.then_ ?_
  refine FJ.block ?_
  refine FJ.loopi (γ := Nat) (fun k => [(5, .int .i64 (k : Int)), (0, .slice A0 y.length c0), (1, .int .i64 (n + (k : Int)))]) (fun k => []) (fun k => k ≤ y.length) (fun k => y.length - k) 0 (Nat.zero_le _) (.c .z (.c (.s (.s .z)) (.e (.s (.s (.s .z))) (congrArg (Value.int .i64) (by omega)) .n))) (fun _ h => h) ?_
  rintro k hk
  refine FJ.seq ?_
  refine FJ.seq ?_
  refine FJ.region ?_
  refine FJ.q (goes_list rfl) rfl (by decide) rfl (q_move rfl (.t .z)) ?_
  refine FJ.q (goes_list rfl) rfl (by decide) rfl (q_move rfl (.t (.s (.s .z)))) ?_
  refine FJ.q (goes_list rfl) rfl (by decide) rfl (q_len rfl u_39 (.t .z)) ?_
  refine FJ.q (goes_list rfl) rfl (by decide) rfl (q_lss rfl (.t (.s (.s .z))) (.t .z)) ?_
  refine FJ.nil ?_
  refine FJ.then_ ?_
  refine FJ.condP (.t .z) (fun b2 => ?_) (fun b2 => ?_)
  · -- b2: True
    refine FJ.skip ?_
    refine FJ.then_ ?_
    refine FJ.seq ?_
    refine FJ.block ?_
    refine FJ.seq ?_
    refine FJ.seq ?_
    refine FJ.region ?_
    refine FJ.q (goes_list rfl) rfl (by decide) rfl (q_move rfl (.t (.s (.s (.s (.s (.s .z))))))) ?_
    refine FJ.q (goes_list rfl) rfl (by decide) rfl (q_move rfl (.t (.s (.s (.s (.s (.s .z))))))) ?_
    obtain ⟨ad3, hAad3, hrad3⟩ := he0 (by omega)
    subst hAad3
    obtain ⟨x4, hx4⟩ := get_ex (xs := y) (j := k) (by omega)
    obtain ⟨ece5, hre5, hFe5, hce5⟩ := hrad3.elem hx4
    obtain ⟨rfl, se5⟩ := hre5
    refine FJ.q (goes_list rfl) rfl (by decide) rfl (q_indexAddr (j := k) rfl u_39 sz_2 (.t (.s .z)) (.t .z) rfl (by omega)) ?_
    refine FJ.q (goes_list rfl) rfl (by decide) rfl (q_load rfl ag_2 (.t .z) (WS.el0 hFe5 hce5 rfl)) ?_
    refine FJ.q (goes_list rfl) rfl (by decide) rfl (q_move rfl (.t (.s (.s (.s (.s (.s (.s (.s (.s (.s (.s .z)))))))))))) ?_
    refine FJ.q (goes_list rfl) rfl (by decide) rfl (q_neq rfl (.t (.s .z)) (.t .z)) ?_
    refine FJ.nil ?_
    refine FJ.then_ ?_
    refine FJ.condN (.t .z) (fun b6 => ?_) (fun b6 => ?_)
    · -- b6: True
      exfalso
      obtain ⟨z, hz⟩ := markS_get e0 hx4
      exact b6 hz
    · -- b6: False
      refine FJ.skip ?_
      refine FJ.then_ ?_
      refine FJ.region ?_
      refine FJ.q (goes_list rfl) rfl (by decide) rfl (q_move rfl (.t (.s (.s (.s (.s (.s (.s (.s (.s (.s (.s (.s (.s .z)))))))))))))) ?_
      refine FJ.q (goes_list rfl) rfl (by decide) rfl (q_add (c := (n + (k : Int)) + 1) rfl (.t .z) .c (wr (by omega) (by omega) (by omega))) ?_
      refine FJ.er (.s (.s (.s (.s (.s (.s (.s (.s (.s (.s (.s (.s (.s (.s .z)))))))))))))) ?_
      refine FJ.q (goes_list rfl) rfl (by decide) rfl (q_assign rfl (.t .z)) ?_
      refine FJ.nil ?_
      refine FJ.inBN ?_
      refine FJ.then_ ?_
      refine FJ.region ?_
      refine FJ.q (goes_list rfl) rfl (by decide) rfl (q_move rfl (.t (.s (.s (.s (.s (.s (.s (.s (.s (.s (.s (.s (.s (.s .z))))))))))))))) ?_
      refine FJ.q (goes_list rfl) rfl (by decide) rfl (q_add (c := ((k + 1 : Nat) : Int)) rfl (.t .z) .c (wr (by omega) (by omega) (by omega))) ?_
      refine FJ.er (.s (.s (.s (.s (.s (.s (.s (.s (.s (.s (.s (.s (.s (.s (.s .z))))))))))))))) ?_
      refine FJ.q (goes_list rfl) rfl (by decide) rfl (q_assign rfl (.t .z)) ?_
      refine FJ.nil ?_
      refine FJ.again (k + 1) (by omega) (by first | omega | (dsimp only; omega)) (.c .z (.c (.s (.s (.s (.s (.s (.s (.s (.s (.s (.s (.s (.s (.s (.s (.s (.s .z)))))))))))))))) (.e (.s (.s (.s .z))) (congrArg (Value.int .i64) (by omega)) .n))) (fun _ h => h)
  · -- b2: False
    refine FJ.exit ?_
    refine FJ.thenE ?_
    refine FJ.thenE ?_
    refine FJ.inB ?_
    refine FJ.then_ ?_
    refine FJ.seq ?_
    refine FJ.region ?_
    refine FJ.q (goes_list rfl) rfl (by decide) rfl (q_move rfl (.t (.s (.s (.s (.s (.s (.s .z)))))))) ?_
    refine FJ.q (goes_list rfl) rfl (by decide) rfl (q_assign rfl (.t .z)) ?_
    refine FJ.nil ?_
    refine FJ.then_ ?_
    refine FJ.ret ?_
    refine FJ.doneS (res1 rfl .z) .n ?_
    exact ⟨congrArg (Value.int .i64) (by omega), rfl⟩

set_option maxHeartbeats 1000000 in
set_option maxRecDepth 20000 in
theorem c_21 {w0 : World} {S0 : Bs} {y : RInts} {cs0 : List Value} (h0 : kT_41.ro w0 (FF w0 S0) y cs0) (n : Int) (x : RInts) (e0 : y = (vmark_RInts n x)) (hn0 : 0 ≤ n) (hn1 : n + ((vcnt_RInts x) : Int) ≤ 4611686018427387904) :
    Calls Try.prog 21 #[.agg cs0.toArray, .int .i64 n] w0 (TriPost w0 S0 (fun r l => r = .int .i64 (n + ((vcnt_RInts x) : Int)) ∧ l = [])) := by
  obtain ⟨u0_1, rfl, h0_1⟩ := kT_41_ro h0
  obtain ⟨A0_1, c0_1, rfl, hl0_1, hm0_1, hb0_1, he0_1⟩ := ro_form h0_1
  simp only [vcnt_RInts] at hn1
  refine FJ.enter (N := 12) Try.func21 rfl rfl (by simp) [(0, .agg #[.int .i64 y.code, .slice A0_1 y.list.length c0_1]), (1, .int .i64 n)] (by simp) (l0 := []) trivial ?_
  refine FJ.seq ?_
  refine FJ.region ?_
  refine FJ.e (goes_list rfl) rfl (by decide) rfl (e_box (cs := [.int .i64 y.code, .slice A0_1 y.list.length c0_1]) (n := 2) rfl (.t .z) rfl rfl) ?_
  rintro _ _ ⟨g2, rfl, rfl⟩
  refine FJ.q (goes_list rfl) rfl (by decide) rfl (q_assign rfl .c) ?_
  refine FJ.nil ?_
  refine FJ.then_ ?_
  refine FJ.seq ?_
  refine FJ.region ?_
  refine FJ.q (goes_list rfl) rfl (by decide) rfl (q_fieldAddr rfl (.t (.s .z)) (fun _ => fa_41_1 _ _)) ?_
  refine FJ.q (goes_list rfl) rfl (by decide) rfl (q_load rfl ag_39 (.t .z) (WS.row .z rfl)) ?_
  refine FJ.q (goes_list rfl) rfl (by decide) rfl (q_move rfl (.t (.s (.s (.s (.s (.s .z))))))) ?_
  refine FJ.call (goes_list rfl) rfl (by decide) rfl (c_call rfl Try.func49 rfl rfl (args2 (.t (.s .z)) (.t .z))) .n (fun w1 S1 hs tr => c_49 (tr.ctx h0_1) _ x.list (congrArg (·.list) e0) (by omega) (by first | omega | (omega))) ?_
  rintro _ _ ⟨rfl, rfl⟩
  refine FJ.cat .n ?_
  refine FJ.er (.s (.s (.s (.s (.s (.s (.s .z))))))) ?_
  refine FJ.q (goes_list rfl) rfl (by decide) rfl (q_assign rfl (.t .z)) ?_
  refine FJ.nil ?_
  refine FJ.then_ ?_
  refine FJ.seq ?_
  refine FJ.seq ?_
  refine FJ.region ?_
  refine FJ.q (goes_list rfl) rfl (by decide) rfl (q_move rfl (.t .z)) ?_
  refine FJ.q (goes_list rfl) rfl (by decide) rfl (q_lss rfl (.t .z) .c) ?_
  refine FJ.nil ?_
  refine FJ.then_ ?_
  refine FJ.condP (.t .z) (fun b3 => ?_) (fun b3 => ?_)
  · -- b3: True
    refine FJ.seq ?_
    refine FJ.region ?_
    refine FJ.er (.s (.s (.s (.s (.s (.s (.s .z))))))) ?_
    refine FJ.q (goes_list rfl) rfl (by decide) rfl (q_assign rfl .c) ?_
    refine FJ.nil ?_
    refine FJ.then_ ?_
    refine FJ.ret ?_
    refine FJ.thenR ?_
    refine FJ.doneS (res1 rfl .z) .n ?_
    exfalso; omega
  · -- b3: False
    refine FJ.skip ?_
    refine FJ.then_ ?_
    refine FJ.seq ?_
    refine FJ.region ?_
    refine FJ.q (goes_list rfl) rfl (by decide) rfl (q_move rfl (.t (.s (.s .z)))) ?_
    refine FJ.er (.s (.s (.s (.s (.s (.s (.s (.s .z)))))))) ?_
    refine FJ.q (goes_list rfl) rfl (by decide) rfl (q_assign rfl (.t .z)) ?_
    refine FJ.nil ?_
    refine FJ.then_ ?_
    refine FJ.ret ?_
    refine FJ.doneS (res1 rfl .z) .n ?_
    exact ⟨congrArg (Value.int .i64) (by simp only [vcnt_RInts]; omega), rfl⟩

set_option maxHeartbeats 1000000 in
set_option maxRecDepth 20000 in
theorem c_18 {w0 : World} {S0 : Bs} {x : RInts} {cs0 : List Value} (h0 : kT_41.ro w0 (FF w0 S0) x cs0) {y : RInts} {cs1 : List Value} (h1 : kT_41.ro w0 (FF w0 S0) y cs1)  :
    Calls Try.prog 18 #[.agg cs0.toArray, .agg cs1.toArray] w0 (TriPost w0 S0 (fun r l => r = .bool (decide (x = y)) ∧ l = [])) := by
  obtain ⟨u0_1, rfl, h0_1⟩ := kT_41_ro h0
  obtain ⟨A0_1, c0_1, rfl, hl0_1, hm0_1, hb0_1, he0_1⟩ := ro_form h0_1
  obtain ⟨u1_1, rfl, h1_1⟩ := kT_41_ro h1
  obtain ⟨A1_1, c1_1, rfl, hl1_1, hm1_1, hb1_1, he1_1⟩ := ro_form h1_1
  refine FJ.enter (N := 16) Try.func18 rfl rfl (by simp) [(0, .agg #[.int .i64 x.code, .slice A0_1 x.list.length c0_1]), (1, .agg #[.int .i64 y.code, .slice A1_1 y.list.length c1_1])] (by simp) (l0 := []) trivial ?_
  refine FJ.seq ?_
  refine FJ.region ?_
  refine FJ.e (goes_list rfl) rfl (by decide) rfl (e_box (cs := [.int .i64 x.code, .slice A0_1 x.list.length c0_1]) (n := 2) rfl (.t .z) rfl rfl) ?_
  rintro _ _ ⟨g3, rfl, rfl⟩
  refine FJ.e (goes_list rfl) rfl (by decide) rfl (e_box (cs := [.int .i64 y.code, .slice A1_1 y.list.length c1_1]) (n := 2) rfl (.t (.s (.s .z))) rfl rfl) ?_
  rintro _ _ ⟨g4, rfl, rfl⟩
  refine FJ.q (goes_list rfl) rfl (by decide) rfl (q_assign rfl .c) ?_
  refine FJ.nil ?_
  refine FJ.then_ ?_
  refine FJ.seq ?_
  refine FJ.seq ?_
  refine FJ.region ?_
  refine FJ.q (goes_list rfl) rfl (by decide) rfl (q_fieldAddr rfl (.t (.s (.s .z))) (fun _ => fa_41_0 _ _)) ?_
  refine FJ.q (goes_list rfl) rfl (by decide) rfl (q_load rfl ag_2 (.t .z) (WS.row (.s .z) rfl)) ?_
  refine FJ.q (goes_list rfl) rfl (by decide) rfl (q_fieldAddr rfl (.t (.s (.s (.s .z)))) (fun _ => fa_41_0 _ _)) ?_
  refine FJ.q (goes_list rfl) rfl (by decide) rfl (q_load rfl ag_2 (.t .z) (WS.row .z rfl)) ?_
  refine FJ.q (goes_list rfl) rfl (by decide) rfl (q_neq rfl (.t (.s (.s .z))) (.t .z)) ?_
  refine FJ.nil ?_
  refine FJ.then_ ?_
  refine FJ.condN (.t .z) (fun b5 => ?_) (fun b5 => ?_)
  · -- b5: True
    refine FJ.seq ?_
    refine FJ.region ?_
    refine FJ.er (.s (.s (.s (.s (.s .z))))) ?_
    refine FJ.q (goes_list rfl) rfl (by decide) rfl (q_assign rfl .c) ?_
    refine FJ.nil ?_
    refine FJ.then_ ?_
    refine FJ.ret ?_
    refine FJ.thenR ?_
    refine FJ.doneS (res1 rfl .z) .n ?_
    exact ⟨by rw [decide_eq_false]; rintro rfl; simp_all, rfl⟩
  · -- b5: False
    refine FJ.skip ?_
    refine FJ.then_ ?_
    refine FJ.seq ?_
    refine FJ.seq ?_
    refine FJ.region ?_
    refine FJ.q (goes_list rfl) rfl (by decide) rfl (q_fieldAddr rfl (.t (.s (.s (.s (.s (.s (.s (.s .z)))))))) (fun _ => fa_41_1 _ _)) ?_
    refine FJ.q (goes_list rfl) rfl (by decide) rfl (q_load rfl ag_39 (.t .z) (WS.row (.s .z) rfl)) ?_
    refine FJ.q (goes_list rfl) rfl (by decide) rfl (q_fieldAddr rfl (.t (.s (.s (.s (.s (.s (.s (.s (.s .z))))))))) (fun _ => fa_41_1 _ _)) ?_
    refine FJ.q (goes_list rfl) rfl (by decide) rfl (q_load rfl ag_39 (.t .z) (WS.row .z rfl)) ?_
    refine FJ.call (goes_list rfl) rfl (by decide) rfl (c_call rfl Try.func45 rfl rfl (args2 (.t (.s (.s .z))) (.t .z))) .n (fun w1 S1 hs tr => c_45 (tr.ctx h0_1) (tr.ctx h1_1)) ?_
    rintro _ _ ⟨rfl, rfl⟩
    refine FJ.cat .n ?_
    refine FJ.q (goes_list rfl) rfl (by decide) rfl (q_not rfl (.t .z)) ?_
    refine FJ.nil ?_
    refine FJ.then_ ?_
    refine FJ.condN (.t .z) (fun b6 => ?_) (fun b6 => ?_)
    · -- b6: True
      refine FJ.seq ?_
      refine FJ.region ?_
      refine FJ.er (.s (.s (.s (.s (.s (.s (.s (.s (.s (.s (.s .z))))))))))) ?_
      refine FJ.q (goes_list rfl) rfl (by decide) rfl (q_assign rfl .c) ?_
      refine FJ.nil ?_
      refine FJ.then_ ?_
      refine FJ.ret ?_
      refine FJ.thenR ?_
      refine FJ.doneS (res1 rfl .z) .n ?_
      exact ⟨by rw [decide_eq_false]; rintro rfl; simp_all, rfl⟩
    · -- b6: False
      refine FJ.skip ?_
      refine FJ.then_ ?_
      refine FJ.seq ?_
      refine FJ.region ?_
      refine FJ.er (.s (.s (.s (.s (.s (.s (.s (.s (.s (.s (.s .z))))))))))) ?_
      refine FJ.q (goes_list rfl) rfl (by decide) rfl (q_assign rfl .c) ?_
      refine FJ.nil ?_
      refine FJ.then_ ?_
      refine FJ.ret ?_
      refine FJ.doneS (res1 rfl .z) .n ?_
      exact ⟨by rw [decide_eq_true]; cases x; cases y; simp_all, rfl⟩

set_option maxHeartbeats 1000000 in
set_option maxRecDepth 20000 in
theorem c_74 {w0 : World} {S0 : Bs} {x : (List UInt8)} {v0 : Value} (n : Int) (hs : Star [ownA kSl_5 x [v0]] w0 S0) (hn0 : 0 ≤ n) (hn1 : n + (x.length : Int) ≤ 4611686018427387904) :
    Calls Try.prog 74 #[v0, .int .i64 n] w0 (TriPost w0 S0 (fun r l => r = .int .i64 (n + (x.length : Int)) ∧ l = [ownA kSl_5 ((markL (fun _ => 1) (fun m _ => mbyte m)) n x) [v0]])) := by
  refine FJ.enter (N := 20) Try.func74 rfl rfl (by simp) [(0, v0), (1, .int .i64 n)] (by simp) hs ?_
  refine FJ.know (WS.oform .z) ?_
  rintro ⟨Ao1, co1, rfl, hlo1, hmo1, hbo1⟩
  refine FJ.seq ?_
  refine FJ.region ?_
  refine FJ.q (goes_list rfl) rfl (by decide) rfl (q_assign rfl .c) ?_
  refine FJ.nil ?_
  refine FJ.then_ ?_
  refine FJ.seq ?_
  refine FJ.seq ?_
  refine FJ.region ?_
  refine FJ.q (goes_list rfl) rfl (by decide) rfl (q_assign rfl .c) ?_
  refine FJ.nil ?_
  refine FJ.then_ ?_
  refine FJ.block ?_
  refine FJ.ceq .z (markS_zero (fun m _ => mbyte m) n x) ?_
  refine FJ.loopi (γ := Nat) (fun k => [(5, .int .i64 (k : Int)), (4, .int .i64 0), (0, .slice Ao1 x.length co1), (1, .int .i64 (n + (k : Int)))]) (fun k => [ownA kSl_5 (markS (fun m _ => mbyte m) n x k) [.slice Ao1 x.length co1]]) (fun k => k ≤ x.length) (fun k => x.length - k) 0 (Nat.zero_le _) (.c .z (.c (.s .z) (.c (.s (.s .z)) (.e (.s (.s (.s .z))) (congrArg (Value.int .i64) (by omega)) .n)))) (fun _ h => h.sel (.c .z .n)) ?_
  rintro k hk
  refine FJ.seq ?_
  refine FJ.seq ?_
  refine FJ.region ?_
  refine FJ.q (goes_list rfl) rfl (by decide) rfl (q_move rfl (.t .z)) ?_
  refine FJ.q (goes_list rfl) rfl (by decide) rfl (q_move rfl (.t (.s (.s (.s .z))))) ?_
  refine FJ.q (goes_list rfl) rfl (by decide) rfl (q_len rfl u_86 (.t .z)) ?_
  refine FJ.q (goes_list rfl) rfl (by decide) rfl (q_lss rfl (.t (.s (.s .z))) (.t .z)) ?_
  refine FJ.nil ?_
  refine FJ.then_ ?_
  refine FJ.condP (.t .z) (fun b2 => ?_) (fun b2 => ?_)
  · -- b2: True
    refine FJ.skip ?_
    refine FJ.then_ ?_
    refine FJ.seq ?_
    refine FJ.block ?_
    refine FJ.seq ?_
    refine FJ.region ?_
    refine FJ.q (goes_list rfl) rfl (by decide) rfl (q_move rfl (.t (.s (.s (.s (.s (.s (.s .z)))))))) ?_
    refine FJ.q (goes_list rfl) rfl (by decide) rfl (q_move rfl (.t (.s (.s (.s (.s (.s .z))))))) ?_
    refine FJ.q (goes_list rfl) rfl (by decide) rfl (q_move rfl (.t (.s (.s (.s (.s (.s (.s (.s (.s (.s .z))))))))))) ?_
    refine FJ.q (goes_list rfl) rfl (by decide) rfl (q_conv (c := ((mbyte (n + (k : Int))).toNat : Int)) rfl (.t .z) u_3 u_5 (mbyte_wrap _)) ?_
    refine FJ.know (WS.oad .z (by rw [markS_len (by omega)]; omega)) ?_
    rintro ⟨ad3, rfl⟩
    refine FJ.q (goes_list rfl) rfl (by decide) rfl (q_indexAddr (j := k) rfl u_86 sz_5 (.t (.s (.s (.s .z)))) (.t (.s (.s .z))) rfl (by first | omega | (rw [markS_len (by omega)]; omega))) ?_
    refine FJ.add (c := ownA kbyte (mbyte (n + (k : Int))) [.int .u8 ((mbyte (n + (k : Int))).toNat : Int)]) (fun _ _ => ⟨rfl, trivial⟩) ?_
    refine FJ.es (goes_list rfl) rfl (es_set (j := k) rfl sz_5 (.t .z) (.t (.s .z)) rfl (.c (.s .z) (.c .z .n)) (by first | omega | (rw [markS_len (by omega)]; omega))) ?_
    obtain ⟨y, hy⟩ := get_ex (xs := x) (j := k) (by omega)
    refine FJ.ceq .z (markS_set (mk := (fun m _ => mbyte m)) hy) ?_
    refine FJ.nil ?_
    refine FJ.then_ ?_
    refine FJ.region ?_
    refine FJ.q (goes_list rfl) rfl (by decide) rfl (q_move rfl (.t (.s (.s (.s (.s (.s (.s (.s (.s (.s (.s (.s (.s .z)))))))))))))) ?_
    refine FJ.q (goes_list rfl) rfl (by decide) rfl (q_add (c := (n + (k : Int)) + 1) rfl (.t .z) .c (wr (by omega) (by omega) (by omega))) ?_
    refine FJ.er (.s (.s (.s (.s (.s (.s (.s (.s (.s (.s (.s (.s (.s (.s .z)))))))))))))) ?_
    refine FJ.q (goes_list rfl) rfl (by decide) rfl (q_assign rfl (.t .z)) ?_
    refine FJ.nil ?_
    refine FJ.inBN ?_
    refine FJ.then_ ?_
    refine FJ.region ?_
    refine FJ.q (goes_list rfl) rfl (by decide) rfl (q_move rfl (.t (.s (.s (.s (.s (.s (.s (.s (.s (.s (.s (.s (.s .z)))))))))))))) ?_
    refine FJ.q (goes_list rfl) rfl (by decide) rfl (q_add (c := ((k + 1 : Nat) : Int)) rfl (.t .z) .c (wr (by omega) (by omega) (by omega))) ?_
    refine FJ.er (.s (.s (.s (.s (.s (.s (.s (.s (.s (.s (.s (.s (.s (.s .z)))))))))))))) ?_
    refine FJ.q (goes_list rfl) rfl (by decide) rfl (q_assign rfl (.t .z)) ?_
    refine FJ.nil ?_
    refine FJ.again (k + 1) (by omega) (by first | omega | (dsimp only; omega)) (.c .z (.c (.s (.s (.s (.s (.s (.s (.s (.s (.s (.s (.s (.s (.s (.s (.s .z))))))))))))))) (.c (.s (.s (.s (.s (.s (.s (.s (.s (.s (.s (.s (.s (.s (.s (.s (.s .z)))))))))))))))) (.e (.s (.s (.s .z))) (congrArg (Value.int .i64) (by omega)) .n)))) (fun _ h => h.sel (.c .z .n))
  · -- b2: False
    refine FJ.exit ?_
    refine FJ.thenE ?_
    refine FJ.thenE ?_
    refine FJ.inB ?_
    refine FJ.then_ ?_
    refine FJ.seq ?_
    refine FJ.region ?_
    refine FJ.q (goes_list rfl) rfl (by decide) rfl (q_move rfl (.t (.s (.s (.s (.s (.s (.s (.s .z))))))))) ?_
    refine FJ.er (.s (.s (.s (.s (.s (.s .z)))))) ?_
    refine FJ.q (goes_list rfl) rfl (by decide) rfl (q_assign rfl (.t .z)) ?_
    refine FJ.nil ?_
    refine FJ.then_ ?_
    refine FJ.ret ?_
    refine FJ.ceq .z (markS_all (by omega)) ?_
    refine FJ.doneS (res1 rfl .z) (.c .z .n) ?_
    exact ⟨congrArg (Value.int .i64) (by omega), rfl⟩

set_option maxHeartbeats 1000000 in
set_option maxRecDepth 20000 in
theorem c_47 {w0 : World} {S0 : Bs} {x : (List (List UInt8))} {v0 : Value} (n : Int) (hs : Star [ownA kSl_86 x [v0]] w0 S0) (hn0 : 0 ≤ n) (hn1 : n + ((sumF (fun x => x.length) x) : Int) ≤ 4611686018427387904) :
    Calls Try.prog 47 #[v0, .int .i64 n] w0 (TriPost w0 S0 (fun r l => r = .int .i64 (n + ((sumF (fun x => x.length) x) : Int)) ∧ l = [ownA kSl_86 ((markL (fun x => x.length) (markL (fun _ => 1) (fun m _ => mbyte m))) n x) [v0]])) := by
  refine FJ.enter (N := 19) Try.func47 rfl rfl (by simp) [(0, v0), (1, .int .i64 n)] (by simp) hs ?_
  refine FJ.know (WS.oform .z) ?_
  rintro ⟨Ao1, co1, rfl, hlo1, hmo1, hbo1⟩
  refine FJ.open (.c .z .n) own_raw ?_
  rintro css hlcss
  refine FJ.add (c := seqC kSl_5 [] []) seqC_nil ?_
  refine FJ.seq ?_
  refine FJ.region ?_
  refine FJ.q (goes_list rfl) rfl (by decide) rfl (q_assign rfl .c) ?_
  refine FJ.nil ?_
  refine FJ.then_ ?_
  refine FJ.seq ?_
  refine FJ.seq ?_
  refine FJ.region ?_
  refine FJ.q (goes_list rfl) rfl (by decide) rfl (q_assign rfl .c) ?_
  refine FJ.nil ?_
  refine FJ.then_ ?_
  refine FJ.block ?_
  refine FJ.loopi (γ := Nat) (fun k => [(5, .int .i64 (k : Int)), (4, .int .i64 0), (0, .slice Ao1 x.length co1), (1, .int .i64 (n + (sumF (fun x => x.length) (List.take k x) : Int)))]) (fun k => [seqC kSl_5 (markL (fun x => x.length) (markL (fun _ => 1) (fun m _ => mbyte m)) n (List.take k x)) (List.take k css), ownA (kslice 86 24 (kraw kSl_5.sz kSl_5.pos)) css [.slice Ao1 x.length co1], seqC kSl_5 (List.drop k x) (List.drop k css)]) (fun k => k ≤ x.length) (fun k => x.length - k) 0 (Nat.zero_le _) (.c .z (.c (.s .z) (.c (.s (.s .z)) (.e (.s (.s (.s .z))) (congrArg (Value.int .i64) (by simp only [List.take_zero, sumF]; omega)) .n)))) (fun _ h => h.sel (.c .z (.c .z (.c .z .n)))) ?_
  rintro k hk
  have hle := sumF_le (f := (fun x => x.length)) (xs := x) (k := k)
  refine FJ.seq ?_
  refine FJ.seq ?_
  refine FJ.region ?_
  refine FJ.q (goes_list rfl) rfl (by decide) rfl (q_move rfl (.t .z)) ?_
  refine FJ.q (goes_list rfl) rfl (by decide) rfl (q_move rfl (.t (.s (.s (.s .z))))) ?_
  refine FJ.q (goes_list rfl) rfl (by decide) rfl (q_len rfl u_23 (.t .z)) ?_
  refine FJ.q (goes_list rfl) rfl (by decide) rfl (q_lss rfl (.t (.s (.s .z))) (.t .z)) ?_
  refine FJ.nil ?_
  refine FJ.then_ ?_
  refine FJ.condP (.t .z) (fun b2 => ?_) (fun b2 => ?_)
  · -- b2: True
    refine FJ.skip ?_
    refine FJ.then_ ?_
    refine FJ.seq ?_
    refine FJ.block ?_
    refine FJ.region ?_
    refine FJ.q (goes_list rfl) rfl (by decide) rfl (q_move rfl (.t (.s (.s (.s (.s (.s (.s .z)))))))) ?_
    refine FJ.q (goes_list rfl) rfl (by decide) rfl (q_move rfl (.t (.s (.s (.s (.s (.s .z))))))) ?_
    refine FJ.know (WS.oad (.s .z) (by omega)) ?_
    rintro ⟨ad3, rfl⟩
    obtain ⟨c4, hc4⟩ := get_ex (xs := css) (j := k) (by omega)
    obtain ⟨y5, hy5⟩ := get_ex (xs := x) (j := k) (by omega)
    refine FJ.turn (.s (.s .z)) (seq_pop hy5 hc4) ?_
    refine FJ.know (WS.osl1 .z) ?_
    rintro ⟨vl6, rfl⟩
    refine FJ.know (WS.oform .z) ?_
    rintro ⟨Ao7, co7, rfl, hlo7, hmo7, hbo7⟩
    have gy5 := sumF_get (fun x => x.length) hy5
    have ty5 := sumF_take (fun x => x.length) hy5
    try simp only at gy5 ty5
    refine FJ.q (goes_list rfl) rfl (by decide) rfl (q_indexAddr (j := k) rfl u_23 sz_86 (.t (.s .z)) (.t .z) rfl (by omega)) ?_
    refine FJ.q (goes_list rfl) rfl (by decide) rfl (q_load rfl ag_86 (.t .z) (WS.raw0 (.s (.s (.s .z))) hc4 rfl)) ?_
    refine FJ.q (goes_list rfl) rfl (by decide) rfl (q_move rfl (.t (.s (.s (.s (.s (.s (.s (.s (.s (.s (.s (.s .z))))))))))))) ?_
    refine FJ.call (goes_list rfl) rfl (by decide) rfl (c_call rfl Try.func74 rfl rfl (args2 (.t (.s .z)) (.t .z))) (.c .z .n) (fun w1 S1 hs tr => c_74 _ hs (by omega) (by first | omega | (omega))) ?_
    rintro _ _ ⟨rfl, rfl⟩
    refine FJ.cat (.c .n) ?_
    refine FJ.er (.s (.s (.s (.s (.s (.s (.s (.s (.s (.s (.s (.s (.s .z))))))))))))) ?_
    refine FJ.q (goes_list rfl) rfl (by decide) rfl (q_assign rfl (.t .z)) ?_
    refine FJ.nil ?_
    refine FJ.inBN ?_
    refine FJ.then_ ?_
    refine FJ.region ?_
    refine FJ.q (goes_list rfl) rfl (by decide) rfl (q_move rfl (.t (.s (.s (.s (.s (.s (.s (.s (.s (.s (.s (.s .z))))))))))))) ?_
    refine FJ.q (goes_list rfl) rfl (by decide) rfl (q_add (c := ((k + 1 : Nat) : Int)) rfl (.t .z) .c (wr (by omega) (by omega) (by omega))) ?_
    refine FJ.er (.s (.s (.s (.s (.s (.s (.s (.s (.s (.s (.s (.s (.s .z))))))))))))) ?_
    refine FJ.q (goes_list rfl) rfl (by decide) rfl (q_assign rfl (.t .z)) ?_
    refine FJ.nil ?_
    refine FJ.turns (c := seqC kSl_5 (markL (fun x => x.length) (markL (fun _ => 1) (fun m _ => mbyte m)) n (List.take (k + 1) x)) (List.take (k + 1) css)) (.c (.s (.s .z)) (.c .z .n)) (seq_snoc' (by rw [markL_len, List.length_take, List.length_take, hlcss]) (by rw [markL_take _ hy5]) (take_get hc4).symm) ?_
    refine FJ.again (k + 1) (by omega) (by first | omega | (dsimp only; omega)) (.c .z (.c (.s (.s (.s (.s (.s (.s (.s (.s (.s (.s (.s (.s (.s (.s .z)))))))))))))) (.c (.s (.s (.s (.s (.s (.s (.s (.s (.s (.s (.s (.s (.s (.s (.s .z))))))))))))))) (.e (.s (.s (.s .z))) (congrArg (Value.int .i64) (by omega)) .n)))) (fun _ h => h.sel (.c .z (.c (.s .z) (.c .z .n))))
  · -- b2: False
    refine FJ.exit ?_
    refine FJ.thenE ?_
    refine FJ.thenE ?_
    refine FJ.inB ?_
    refine FJ.then_ ?_
    refine FJ.seq ?_
    refine FJ.region ?_
    refine FJ.q (goes_list rfl) rfl (by decide) rfl (q_move rfl (.t (.s (.s (.s (.s (.s (.s (.s .z))))))))) ?_
    refine FJ.er (.s (.s (.s (.s (.s (.s .z)))))) ?_
    refine FJ.q (goes_list rfl) rfl (by decide) rfl (q_assign rfl (.t .z)) ?_
    refine FJ.nil ?_
    refine FJ.then_ ?_
    refine FJ.ret ?_
    refine FJ.turns (c := ownA kSl_86 ((markL (fun x => x.length) (markL (fun _ => 1) (fun m _ => mbyte m))) n x) [.slice Ao1 x.length co1]) (.c (.s .z) (.c .z .n)) (raw_own' (by rw [markL_len, hlcss]) (by rw [List.take_of_length_le (by omega)]) (by rw [List.take_of_length_le (by omega)])) ?_
    refine FJ.doneS (res1 rfl .z) (.c .z .n) ?_
    exact ⟨by rw [sumF_all _ (by omega)], rfl⟩

set_option maxHeartbeats 1000000 in
set_option maxRecDepth 20000 in
theorem c_19 {w0 : World} {S0 : Bs} {x : DFs} {v0_0 : Value} {v0_1 : Value} (n : Int) (hs : Star [ownA kSl_60 x.inodes [v0_0], ownA kSl_86 x.data [v0_1]] w0 S0) (hn0 : 0 ≤ n) (hn1 : n + ((vcnt_DFs x) : Int) ≤ 4611686018427387904) :
    Calls Try.prog 19 #[.agg #[v0_0, v0_1], .int .i64 n] w0 (TriPost w0 S0 (fun r l => r = .int .i64 (n + ((vcnt_DFs x) : Int)) ∧ l = [ownA kSl_60 (vmark_DFs n x).inodes [v0_0], ownA kSl_86 (vmark_DFs n x).data [v0_1]])) := by
  simp only [vcnt_DFs] at hn1
  refine FJ.enter (N := 14) Try.func19 rfl rfl (by simp) [(0, .agg #[v0_0, v0_1]), (1, .int .i64 n)] (by simp) hs ?_
  refine FJ.know (WS.oform .z) ?_
  rintro ⟨Ao1, co1, rfl, hlo1, hmo1, hbo1⟩
  refine FJ.know (WS.oform (.s .z)) ?_
  rintro ⟨Ao2, co2, rfl, hlo2, hmo2, hbo2⟩
  refine FJ.seq ?_
  refine FJ.region ?_
  refine FJ.e (goes_list rfl) rfl (by decide) rfl (e_box (cs := [.slice Ao1 x.inodes.length co1, .slice Ao2 x.data.length co2]) (n := 2) rfl (.t .z) rfl rfl) ?_
  rintro _ _ ⟨g3, rfl, rfl⟩
  refine FJ.q (goes_list rfl) rfl (by decide) rfl (q_assign rfl .c) ?_
  refine FJ.nil ?_
  refine FJ.then_ ?_
  refine FJ.seq ?_
  refine FJ.region ?_
  refine FJ.q (goes_list rfl) rfl (by decide) rfl (q_fieldAddr rfl (.t (.s .z)) (fun _ => fa_30_0 _ _)) ?_
  refine FJ.q (goes_list rfl) rfl (by decide) rfl (q_load rfl ag_28 (.t .z) (WS.row .z rfl)) ?_
  refine FJ.q (goes_list rfl) rfl (by decide) rfl (q_move rfl (.t (.s (.s (.s (.s (.s .z))))))) ?_
  refine FJ.call (goes_list rfl) rfl (by decide) rfl (c_call rfl Try.func46 rfl rfl (args2 (.t (.s .z)) (.t .z))) (.c (.s .z) .n) (fun w1 S1 hs tr => c_46 _ hs (by omega) (by first | omega | (omega))) ?_
  rintro _ _ ⟨rfl, rfl⟩
  refine FJ.cat (.c .n) ?_
  refine FJ.er (.s (.s (.s (.s (.s (.s (.s .z))))))) ?_
  refine FJ.q (goes_list rfl) rfl (by decide) rfl (q_assign rfl (.t .z)) ?_
  refine FJ.nil ?_
  refine FJ.then_ ?_
  refine FJ.seq ?_
  refine FJ.region ?_
  refine FJ.q (goes_list rfl) rfl (by decide) rfl (q_fieldAddr rfl (.t (.s (.s (.s (.s (.s (.s .z))))))) (fun _ => fa_30_1 _ _)) ?_
  refine FJ.q (goes_list rfl) rfl (by decide) rfl (q_load rfl ag_23 (.t .z) (WS.row (.s .z) rfl)) ?_
  refine FJ.q (goes_list rfl) rfl (by decide) rfl (q_move rfl (.t (.s (.s .z)))) ?_
  refine FJ.call (goes_list rfl) rfl (by decide) rfl (c_call rfl Try.func47 rfl rfl (args2 (.t (.s .z)) (.t .z))) (.c (.s (.s .z)) .n) (fun w1 S1 hs tr => c_47 _ hs (by omega) (by first | omega | (omega))) ?_
  rintro _ _ ⟨rfl, rfl⟩
  refine FJ.cat (.c .n) ?_
  refine FJ.er (.s (.s (.s (.s .z)))) ?_
  refine FJ.q (goes_list rfl) rfl (by decide) rfl (q_assign rfl (.t .z)) ?_
  refine FJ.nil ?_
  refine FJ.then_ ?_
  refine FJ.seq ?_
  refine FJ.region ?_
  refine FJ.q (goes_list rfl) rfl (by decide) rfl (q_move rfl (.t .z)) ?_
  refine FJ.er (.s (.s (.s (.s (.s (.s (.s (.s (.s (.s .z)))))))))) ?_
  refine FJ.q (goes_list rfl) rfl (by decide) rfl (q_assign rfl (.t .z)) ?_
  refine FJ.nil ?_
  refine FJ.then_ ?_
  refine FJ.ret ?_
  refine FJ.doneS (res1 rfl .z) (.c (.s .z) (.c .z .n)) ?_
  exact ⟨congrArg (Value.int .i64) (by simp only [vcnt_DFs]; omega), rfl⟩

set_option maxHeartbeats 1000000 in
set_option maxRecDepth 20000 in
theorem c_51 {w0 : World} {S0 : Bs} {x : (List ByteArray)} {v0 : Value} (h0 : kSl_9.ro w0 (FF w0 S0) x [v0]) {y : (List ByteArray)} {v1 : Value} (h1 : kSl_9.ro w0 (FF w0 S0) y [v1])  :
    Calls Try.prog 51 #[v0, v1] w0 (TriPost w0 S0 (fun r l => r = .bool (decide (x = y)) ∧ l = [])) := by
  obtain ⟨A0, c0, rfl, hl0, hm0, hb0, he0⟩ := ro_form h0
  obtain ⟨A1, c1, rfl, hl1, hm1, hb1, he1⟩ := ro_form h1
  refine FJ.enter (N := 26) Try.func51 rfl rfl (by simp) [(0, .slice A0 x.length c0), (1, .slice A1 y.length c1)] (by simp) (l0 := []) trivial ?_
  refine FJ.seq ?_
  refine FJ.region ?_
  refine FJ.q (goes_list rfl) rfl (by decide) rfl (q_assign rfl .c) ?_
  refine FJ.nil ?_
  refine FJ.then_ ?_
  refine FJ.seq ?_
  refine FJ.seq ?_
  refine FJ.region ?_
  refine FJ.q (goes_list rfl) rfl (by decide) rfl (q_move rfl (.t (.s .z))) ?_
  refine FJ.q (goes_list rfl) rfl (by decide) rfl (q_len rfl u_47 (.t .z)) ?_
  refine FJ.q (goes_list rfl) rfl (by decide) rfl (q_move rfl (.t (.s (.s (.s (.s .z)))))) ?_
  refine FJ.q (goes_list rfl) rfl (by decide) rfl (q_len rfl u_47 (.t .z)) ?_
  refine FJ.q (goes_list rfl) rfl (by decide) rfl (q_neq rfl (.t (.s (.s .z))) (.t .z)) ?_
  refine FJ.nil ?_
  refine FJ.then_ ?_
  refine FJ.condN (.t .z) (fun b3 => ?_) (fun b3 => ?_)
  · -- b3: True
    refine FJ.seq ?_
    refine FJ.region ?_
    refine FJ.er (.s (.s (.s (.s (.s .z))))) ?_
    refine FJ.q (goes_list rfl) rfl (by decide) rfl (q_assign rfl .c) ?_
    refine FJ.nil ?_
    refine FJ.then_ ?_
    refine FJ.ret ?_
    refine FJ.thenR ?_
    refine FJ.doneS (res1 rfl .z) .n ?_
    exact ⟨by rw [decide_eq_false (fun h => by subst h; omega)], rfl⟩
  · -- b3: False
    refine FJ.skip ?_
    refine FJ.then_ ?_
    refine FJ.seq ?_
    refine FJ.seq ?_
    refine FJ.region ?_
    refine FJ.q (goes_list rfl) rfl (by decide) rfl (q_assign rfl .c) ?_
    refine FJ.nil ?_
    refine FJ.then_ ?_
    refine FJ.block ?_
    refine FJ.loopi (γ := Nat) (fun k => [(5, .int .i64 (k : Int)), (0, .slice A0 x.length c0), (1, .slice A1 y.length c1)]) (fun k => []) (fun k => k ≤ x.length ∧ ∀ j, j < k → x[j]? = y[j]?) (fun k => x.length - k) 0 ⟨Nat.zero_le _, all_eq_zero⟩ (.c .z (.c (.s (.s (.s (.s (.s (.s (.s .z))))))) (.c (.s (.s (.s (.s (.s (.s (.s (.s .z)))))))) .n))) (fun _ h => h) ?_
    rintro k ⟨hk, hallk⟩
    refine FJ.seq ?_
    refine FJ.seq ?_
    refine FJ.region ?_
    refine FJ.q (goes_list rfl) rfl (by decide) rfl (q_move rfl (.t .z)) ?_
    refine FJ.q (goes_list rfl) rfl (by decide) rfl (q_move rfl (.t (.s (.s .z)))) ?_
    refine FJ.q (goes_list rfl) rfl (by decide) rfl (q_len rfl u_47 (.t .z)) ?_
    refine FJ.q (goes_list rfl) rfl (by decide) rfl (q_lss rfl (.t (.s (.s .z))) (.t .z)) ?_
    refine FJ.nil ?_
    refine FJ.then_ ?_
    refine FJ.condP (.t .z) (fun b4 => ?_) (fun b4 => ?_)
    · -- b4: True
      refine FJ.skip ?_
      refine FJ.then_ ?_
      refine FJ.seq ?_
      refine FJ.block ?_
      refine FJ.seq ?_
      refine FJ.draw [] 9 (by kernel_rfl) ?_
      refine FJ.sch [(0, true), (1, true), (2, true), (3, true), (4, true), (5, true), (6, true), (7, true), (8, true)] 0 #[true, true, true, true, true, true, true, true, true] (by rfl) (by kernel_rfl) ?_
      refine FJ.dq rfl rfl rfl (by decide) rfl .z (q_move rfl (.t (.s (.s (.s (.s (.s .z))))))) ?_
      refine FJ.dq rfl rfl rfl (by decide) rfl .z (q_move rfl (.t (.s (.s (.s (.s (.s .z))))))) ?_
      obtain ⟨ad5, hAad5, hrad5⟩ := he0 (by omega)
      subst hAad5
      obtain ⟨x6, hx6⟩ := get_ex (xs := x) (j := k) (by omega)
      obtain ⟨ece7, hre7, hFe7, hce7⟩ := hrad5.elem hx6
      obtain ⟨rfl, se7⟩ := hre7
      refine FJ.dq rfl rfl rfl (by decide) rfl .z (q_indexAddr (j := k) rfl u_47 sz_9 (.t (.s .z)) (.t .z) rfl (by omega)) ?_
      refine FJ.dq rfl rfl rfl (by decide) rfl .z (q_load rfl ag_9 (.t .z) (WS.el0 hFe7 hce7 rfl)) ?_
      refine FJ.dq rfl rfl rfl (by decide) rfl .z (q_move rfl (.t (.s (.s (.s (.s (.s (.s (.s (.s (.s (.s .z)))))))))))) ?_
      refine FJ.dq rfl rfl rfl (by decide) rfl .z (q_move rfl (.t (.s (.s (.s (.s (.s (.s (.s (.s (.s .z))))))))))) ?_
      obtain ⟨ad8, hAad8, hrad8⟩ := he1 (by omega)
      subst hAad8
      obtain ⟨x9, hx9⟩ := get_ex (xs := y) (j := k) (by omega)
      obtain ⟨ece10, hre10, hFe10, hce10⟩ := hrad8.elem hx9
      obtain ⟨rfl, se10⟩ := hre10
      refine FJ.dq rfl rfl rfl (by decide) rfl .z (q_indexAddr (j := k) rfl u_47 sz_9 (.t (.s .z)) (.t .z) rfl (by omega)) ?_
      refine FJ.dq rfl rfl rfl (by decide) rfl .z (q_load rfl ag_9 (.t .z) (WS.el0 hFe10 hce10 rfl)) ?_
      refine FJ.dq rfl rfl rfl (by decide) rfl .z (q_sneq rfl (.t (.s (.s (.s (.s .z))))) (.t .z)) ?_
      refine FJ.schN ?_
      refine FJ.drawN (by kernel_rfl) ?_
      refine FJ.then_ ?_
      refine FJ.condN (.t .z) (fun b11 => ?_) (fun b11 => ?_)
      · -- b11: True
        refine FJ.seq ?_
        refine FJ.region ?_
        refine FJ.q (goes_list rfl) rfl (by decide) rfl (q_assign rfl .c) ?_
        refine FJ.nil ?_
        refine FJ.then_ ?_
        refine FJ.ret ?_
        refine FJ.inBR ?_
        refine FJ.thenR ?_
        refine FJ.thenR ?_
        refine FJ.inBR ?_
        refine FJ.thenR ?_
        refine FJ.doneS (res1 rfl .z) .n ?_
        exact ⟨by rw [decide_eq_false (ne_of_get hx6 hx9 (by first | assumption | (intro e; subst e; contradiction) | (simp_all; done)))], rfl⟩
      · -- b11: False
        refine FJ.skip ?_
        refine FJ.inBN ?_
        refine FJ.then_ ?_
        refine FJ.region ?_
        refine FJ.q (goes_list rfl) rfl (by decide) rfl (q_move rfl (.t (.s (.s (.s (.s (.s (.s (.s (.s (.s (.s (.s (.s (.s .z))))))))))))))) ?_
        refine FJ.q (goes_list rfl) rfl (by decide) rfl (q_add (c := ((k + 1 : Nat) : Int)) rfl (.t .z) .c (wr (by omega) (by omega) (by omega))) ?_
        refine FJ.er (.s (.s (.s (.s (.s (.s (.s (.s (.s (.s (.s (.s (.s (.s (.s .z))))))))))))))) ?_
        refine FJ.q (goes_list rfl) rfl (by decide) rfl (q_assign rfl (.t .z)) ?_
        refine FJ.nil ?_
        refine FJ.again (k + 1) ⟨by omega, all_eq_succ hallk hx6 hx9 (by first | assumption | exact byte_eq (by assumption) | (simp_all; done))⟩ (by first | omega | (dsimp only; omega)) (.c .z (.c (.s (.s (.s (.s (.s (.s (.s (.s (.s (.s (.s (.s (.s (.s (.s (.s .z)))))))))))))))) (.c (.s (.s (.s (.s (.s (.s (.s (.s (.s (.s (.s (.s (.s (.s (.s (.s (.s .z))))))))))))))))) .n))) (fun _ h => h)
    · -- b4: False
      refine FJ.exit ?_
      refine FJ.thenE ?_
      refine FJ.thenE ?_
      refine FJ.inB ?_
      refine FJ.then_ ?_
      refine FJ.seq ?_
      refine FJ.region ?_
      refine FJ.q (goes_list rfl) rfl (by decide) rfl (q_assign rfl .c) ?_
      refine FJ.nil ?_
      refine FJ.then_ ?_
      refine FJ.ret ?_
      refine FJ.doneS (res1 rfl .z) .n ?_
      exact ⟨by rw [decide_eq_true (eq_of_all (by omega) (by omega) hallk)], rfl⟩

set_option maxHeartbeats 1000000 in
set_option maxRecDepth 20000 in
theorem c_24 {w0 : World} {S0 : Bs} {x : RNames} {cs0 : List Value} (h0 : kT_49.ro w0 (FF w0 S0) x cs0) {y : RNames} {cs1 : List Value} (h1 : kT_49.ro w0 (FF w0 S0) y cs1)  :
    Calls Try.prog 24 #[.agg cs0.toArray, .agg cs1.toArray] w0 (TriPost w0 S0 (fun r l => r = .bool (decide (x = y)) ∧ l = [])) := by
  obtain ⟨u0_1, rfl, h0_1⟩ := kT_49_ro h0
  obtain ⟨A0_1, c0_1, rfl, hl0_1, hm0_1, hb0_1, he0_1⟩ := ro_form h0_1
  obtain ⟨u1_1, rfl, h1_1⟩ := kT_49_ro h1
  obtain ⟨A1_1, c1_1, rfl, hl1_1, hm1_1, hb1_1, he1_1⟩ := ro_form h1_1
  refine FJ.enter (N := 16) Try.func24 rfl rfl (by simp) [(0, .agg #[.int .i64 x.code, .slice A0_1 x.names.length c0_1]), (1, .agg #[.int .i64 y.code, .slice A1_1 y.names.length c1_1])] (by simp) (l0 := []) trivial ?_
  refine FJ.seq ?_
  refine FJ.region ?_
  refine FJ.e (goes_list rfl) rfl (by decide) rfl (e_box (cs := [.int .i64 x.code, .slice A0_1 x.names.length c0_1]) (n := 2) rfl (.t .z) rfl rfl) ?_
  rintro _ _ ⟨g3, rfl, rfl⟩
  refine FJ.e (goes_list rfl) rfl (by decide) rfl (e_box (cs := [.int .i64 y.code, .slice A1_1 y.names.length c1_1]) (n := 2) rfl (.t (.s (.s .z))) rfl rfl) ?_
  rintro _ _ ⟨g4, rfl, rfl⟩
  refine FJ.q (goes_list rfl) rfl (by decide) rfl (q_assign rfl .c) ?_
  refine FJ.nil ?_
  refine FJ.then_ ?_
  refine FJ.seq ?_
  refine FJ.seq ?_
  refine FJ.region ?_
  refine FJ.q (goes_list rfl) rfl (by decide) rfl (q_fieldAddr rfl (.t (.s (.s .z))) (fun _ => fa_49_0 _ _)) ?_
  refine FJ.q (goes_list rfl) rfl (by decide) rfl (q_load rfl ag_2 (.t .z) (WS.row (.s .z) rfl)) ?_
  refine FJ.q (goes_list rfl) rfl (by decide) rfl (q_fieldAddr rfl (.t (.s (.s (.s .z)))) (fun _ => fa_49_0 _ _)) ?_
  refine FJ.q (goes_list rfl) rfl (by decide) rfl (q_load rfl ag_2 (.t .z) (WS.row .z rfl)) ?_
  refine FJ.q (goes_list rfl) rfl (by decide) rfl (q_neq rfl (.t (.s (.s .z))) (.t .z)) ?_
  refine FJ.nil ?_
  refine FJ.then_ ?_
  refine FJ.condN (.t .z) (fun b5 => ?_) (fun b5 => ?_)
  · -- b5: True
    refine FJ.seq ?_
    refine FJ.region ?_
    refine FJ.er (.s (.s (.s (.s (.s .z))))) ?_
    refine FJ.q (goes_list rfl) rfl (by decide) rfl (q_assign rfl .c) ?_
    refine FJ.nil ?_
    refine FJ.then_ ?_
    refine FJ.ret ?_
    refine FJ.thenR ?_
    refine FJ.doneS (res1 rfl .z) .n ?_
    exact ⟨by rw [decide_eq_false]; rintro rfl; simp_all, rfl⟩
  · -- b5: False
    refine FJ.skip ?_
    refine FJ.then_ ?_
    refine FJ.seq ?_
    refine FJ.seq ?_
    refine FJ.region ?_
    refine FJ.q (goes_list rfl) rfl (by decide) rfl (q_fieldAddr rfl (.t (.s (.s (.s (.s (.s (.s (.s .z)))))))) (fun _ => fa_49_1 _ _)) ?_
    refine FJ.q (goes_list rfl) rfl (by decide) rfl (q_load rfl ag_47 (.t .z) (WS.row (.s .z) rfl)) ?_
    refine FJ.q (goes_list rfl) rfl (by decide) rfl (q_fieldAddr rfl (.t (.s (.s (.s (.s (.s (.s (.s (.s .z))))))))) (fun _ => fa_49_1 _ _)) ?_
    refine FJ.q (goes_list rfl) rfl (by decide) rfl (q_load rfl ag_47 (.t .z) (WS.row .z rfl)) ?_
    refine FJ.call (goes_list rfl) rfl (by decide) rfl (c_call rfl Try.func51 rfl rfl (args2 (.t (.s (.s .z))) (.t .z))) .n (fun w1 S1 hs tr => c_51 (tr.ctx h0_1) (tr.ctx h1_1)) ?_
    rintro _ _ ⟨rfl, rfl⟩
    refine FJ.cat .n ?_
    refine FJ.q (goes_list rfl) rfl (by decide) rfl (q_not rfl (.t .z)) ?_
    refine FJ.nil ?_
    refine FJ.then_ ?_
    refine FJ.condN (.t .z) (fun b6 => ?_) (fun b6 => ?_)
    · -- b6: True
      refine FJ.seq ?_
      refine FJ.region ?_
      refine FJ.er (.s (.s (.s (.s (.s (.s (.s (.s (.s (.s (.s .z))))))))))) ?_
      refine FJ.q (goes_list rfl) rfl (by decide) rfl (q_assign rfl .c) ?_
      refine FJ.nil ?_
      refine FJ.then_ ?_
      refine FJ.ret ?_
      refine FJ.thenR ?_
      refine FJ.doneS (res1 rfl .z) .n ?_
      exact ⟨by rw [decide_eq_false]; rintro rfl; simp_all, rfl⟩
    · -- b6: False
      refine FJ.skip ?_
      refine FJ.then_ ?_
      refine FJ.seq ?_
      refine FJ.region ?_
      refine FJ.er (.s (.s (.s (.s (.s (.s (.s (.s (.s (.s (.s .z))))))))))) ?_
      refine FJ.q (goes_list rfl) rfl (by decide) rfl (q_assign rfl .c) ?_
      refine FJ.nil ?_
      refine FJ.then_ ?_
      refine FJ.ret ?_
      refine FJ.doneS (res1 rfl .z) .n ?_
      exact ⟨by rw [decide_eq_true]; cases x; cases y; simp_all, rfl⟩

set_option maxHeartbeats 1000000 in
set_option maxRecDepth 20000 in
theorem c_52 {w0 : World} {S0 : Bs} {x : (List ByteArray)} {v0 : Value} (n : Int) (hs : Star [ownA kSl_9 x [v0]] w0 S0) (hn0 : 0 ≤ n) (hn1 : n + (x.length : Int) ≤ 4611686018427387904) :
    Calls Try.prog 52 #[v0, .int .i64 n] w0 (TriPost w0 S0 (fun r l => r = .int .i64 (n + (x.length : Int)) ∧ l = [ownA kSl_9 ((markL (fun _ => 1) (fun m _ => mtext m)) n x) [v0]])) := by
  refine FJ.enter (N := 20) Try.func52 rfl rfl (by simp) [(0, v0), (1, .int .i64 n)] (by simp) hs ?_
  refine FJ.know (WS.oform .z) ?_
  rintro ⟨Ao1, co1, rfl, hlo1, hmo1, hbo1⟩
  refine FJ.seq ?_
  refine FJ.region ?_
  refine FJ.q (goes_list rfl) rfl (by decide) rfl (q_assign rfl .c) ?_
  refine FJ.nil ?_
  refine FJ.then_ ?_
  refine FJ.seq ?_
  refine FJ.seq ?_
  refine FJ.region ?_
  refine FJ.q (goes_list rfl) rfl (by decide) rfl (q_assign rfl .c) ?_
  refine FJ.nil ?_
  refine FJ.then_ ?_
  refine FJ.block ?_
  refine FJ.ceq .z (markS_zero (fun m _ => mtext m) n x) ?_
  refine FJ.loopi (γ := Nat) (fun k => [(5, .int .i64 (k : Int)), (4, .int .i64 0), (0, .slice Ao1 x.length co1), (1, .int .i64 (n + (k : Int)))]) (fun k => [ownA kSl_9 (markS (fun m _ => mtext m) n x k) [.slice Ao1 x.length co1]]) (fun k => k ≤ x.length) (fun k => x.length - k) 0 (Nat.zero_le _) (.c .z (.c (.s .z) (.c (.s (.s .z)) (.e (.s (.s (.s .z))) (congrArg (Value.int .i64) (by omega)) .n)))) (fun _ h => h.sel (.c .z .n)) ?_
  rintro k hk
  refine FJ.seq ?_
  refine FJ.seq ?_
  refine FJ.region ?_
  refine FJ.q (goes_list rfl) rfl (by decide) rfl (q_move rfl (.t .z)) ?_
  refine FJ.q (goes_list rfl) rfl (by decide) rfl (q_move rfl (.t (.s (.s (.s .z))))) ?_
  refine FJ.q (goes_list rfl) rfl (by decide) rfl (q_len rfl u_47 (.t .z)) ?_
  refine FJ.q (goes_list rfl) rfl (by decide) rfl (q_lss rfl (.t (.s (.s .z))) (.t .z)) ?_
  refine FJ.nil ?_
  refine FJ.then_ ?_
  refine FJ.condP (.t .z) (fun b2 => ?_) (fun b2 => ?_)
  · -- b2: True
    refine FJ.skip ?_
    refine FJ.then_ ?_
    refine FJ.seq ?_
    refine FJ.block ?_
    refine FJ.seq ?_
    refine FJ.region ?_
    refine FJ.q (goes_list rfl) rfl (by decide) rfl (q_move rfl (.t (.s (.s (.s (.s (.s (.s .z)))))))) ?_
    refine FJ.q (goes_list rfl) rfl (by decide) rfl (q_move rfl (.t (.s (.s (.s (.s (.s .z))))))) ?_
    refine FJ.q (goes_list rfl) rfl (by decide) rfl (q_move rfl (.t (.s (.s (.s (.s (.s (.s (.s (.s (.s .z))))))))))) ?_
    refine FJ.call (goes_list rfl) rfl (by decide) rfl (c_call rfl Try.func75 rfl rfl (args1 (.t .z))) .n (fun w1 S1 hs tr => c_75 _ (by omega)) ?_
    rintro _ _ ⟨rfl, rfl⟩
    refine FJ.cat .n ?_
    refine FJ.know (WS.oad .z (by rw [markS_len (by omega)]; omega)) ?_
    rintro ⟨ad3, rfl⟩
    refine FJ.q (goes_list rfl) rfl (by decide) rfl (q_indexAddr (j := k) rfl u_47 sz_9 (.t (.s (.s (.s .z)))) (.t (.s (.s .z))) rfl (by first | omega | (rw [markS_len (by omega)]; omega))) ?_
    refine FJ.add (c := ownA kstr (mtext (n + (k : Int))) [.string (mtext (n + (k : Int)))]) (fun _ _ => ⟨rfl, by first | assumption | exact mtext_size (by omega)⟩) ?_
    refine FJ.es (goes_list rfl) rfl (es_set (j := k) rfl sz_9 (.t .z) (.t (.s .z)) rfl (.c (.s .z) (.c .z .n)) (by first | omega | (rw [markS_len (by omega)]; omega))) ?_
    obtain ⟨y, hy⟩ := get_ex (xs := x) (j := k) (by omega)
    refine FJ.ceq .z (markS_set (mk := (fun m _ => mtext m)) hy) ?_
    refine FJ.nil ?_
    refine FJ.then_ ?_
    refine FJ.region ?_
    refine FJ.q (goes_list rfl) rfl (by decide) rfl (q_move rfl (.t (.s (.s (.s (.s (.s (.s (.s (.s (.s (.s (.s (.s .z)))))))))))))) ?_
    refine FJ.q (goes_list rfl) rfl (by decide) rfl (q_add (c := (n + (k : Int)) + 1) rfl (.t .z) .c (wr (by omega) (by omega) (by omega))) ?_
    refine FJ.er (.s (.s (.s (.s (.s (.s (.s (.s (.s (.s (.s (.s (.s (.s .z)))))))))))))) ?_
    refine FJ.q (goes_list rfl) rfl (by decide) rfl (q_assign rfl (.t .z)) ?_
    refine FJ.nil ?_
    refine FJ.inBN ?_
    refine FJ.then_ ?_
    refine FJ.region ?_
    refine FJ.q (goes_list rfl) rfl (by decide) rfl (q_move rfl (.t (.s (.s (.s (.s (.s (.s (.s (.s (.s (.s (.s (.s .z)))))))))))))) ?_
    refine FJ.q (goes_list rfl) rfl (by decide) rfl (q_add (c := ((k + 1 : Nat) : Int)) rfl (.t .z) .c (wr (by omega) (by omega) (by omega))) ?_
    refine FJ.er (.s (.s (.s (.s (.s (.s (.s (.s (.s (.s (.s (.s (.s (.s .z)))))))))))))) ?_
    refine FJ.q (goes_list rfl) rfl (by decide) rfl (q_assign rfl (.t .z)) ?_
    refine FJ.nil ?_
    refine FJ.again (k + 1) (by omega) (by first | omega | (dsimp only; omega)) (.c .z (.c (.s (.s (.s (.s (.s (.s (.s (.s (.s (.s (.s (.s (.s (.s (.s .z))))))))))))))) (.c (.s (.s (.s (.s (.s (.s (.s (.s (.s (.s (.s (.s (.s (.s (.s (.s .z)))))))))))))))) (.e (.s (.s (.s .z))) (congrArg (Value.int .i64) (by omega)) .n)))) (fun _ h => h.sel (.c .z .n))
  · -- b2: False
    refine FJ.exit ?_
    refine FJ.thenE ?_
    refine FJ.thenE ?_
    refine FJ.inB ?_
    refine FJ.then_ ?_
    refine FJ.seq ?_
    refine FJ.region ?_
    refine FJ.q (goes_list rfl) rfl (by decide) rfl (q_move rfl (.t (.s (.s (.s (.s (.s (.s (.s .z))))))))) ?_
    refine FJ.er (.s (.s (.s (.s (.s (.s .z)))))) ?_
    refine FJ.q (goes_list rfl) rfl (by decide) rfl (q_assign rfl (.t .z)) ?_
    refine FJ.nil ?_
    refine FJ.then_ ?_
    refine FJ.ret ?_
    refine FJ.ceq .z (markS_all (by omega)) ?_
    refine FJ.doneS (res1 rfl .z) (.c .z .n) ?_
    exact ⟨congrArg (Value.int .i64) (by omega), rfl⟩

set_option maxHeartbeats 1000000 in
set_option maxRecDepth 20000 in
theorem c_25 {w0 : World} {S0 : Bs} {x : RNames} {v0_1 : Value} (n : Int) (hs : Star [ownA kSl_9 x.names [v0_1]] w0 S0) (hn0 : 0 ≤ n) (hn1 : n + ((vcnt_RNames x) : Int) ≤ 4611686018427387904) :
    Calls Try.prog 25 #[.agg #[.int .i64 x.code, v0_1], .int .i64 n] w0 (TriPost w0 S0 (fun r l => r = .int .i64 (n + ((vcnt_RNames x) : Int)) ∧ l = [ownA kSl_9 (vmark_RNames n x).names [v0_1]])) := by
  simp only [vcnt_RNames] at hn1
  refine FJ.enter (N := 10) Try.func25 rfl rfl (by simp) [(0, .agg #[.int .i64 x.code, v0_1]), (1, .int .i64 n)] (by simp) hs ?_
  refine FJ.know (WS.oform .z) ?_
  rintro ⟨Ao1, co1, rfl, hlo1, hmo1, hbo1⟩
  refine FJ.seq ?_
  refine FJ.region ?_
  refine FJ.e (goes_list rfl) rfl (by decide) rfl (e_box (cs := [.int .i64 x.code, .slice Ao1 x.names.length co1]) (n := 2) rfl (.t .z) rfl rfl) ?_
  rintro _ _ ⟨g2, rfl, rfl⟩
  refine FJ.q (goes_list rfl) rfl (by decide) rfl (q_assign rfl .c) ?_
  refine FJ.nil ?_
  refine FJ.then_ ?_
  refine FJ.seq ?_
  refine FJ.region ?_
  refine FJ.q (goes_list rfl) rfl (by decide) rfl (q_fieldAddr rfl (.t (.s .z)) (fun _ => fa_49_1 _ _)) ?_
  refine FJ.q (goes_list rfl) rfl (by decide) rfl (q_load rfl ag_47 (.t .z) (WS.row .z rfl)) ?_
  refine FJ.q (goes_list rfl) rfl (by decide) rfl (q_move rfl (.t (.s (.s (.s (.s (.s .z))))))) ?_
  refine FJ.call (goes_list rfl) rfl (by decide) rfl (c_call rfl Try.func52 rfl rfl (args2 (.t (.s .z)) (.t .z))) (.c (.s .z) .n) (fun w1 S1 hs tr => c_52 _ hs (by omega) (by first | omega | (omega))) ?_
  rintro _ _ ⟨rfl, rfl⟩
  refine FJ.cat (.c .n) ?_
  refine FJ.er (.s (.s (.s (.s (.s (.s (.s .z))))))) ?_
  refine FJ.q (goes_list rfl) rfl (by decide) rfl (q_assign rfl (.t .z)) ?_
  refine FJ.nil ?_
  refine FJ.then_ ?_
  refine FJ.seq ?_
  refine FJ.region ?_
  refine FJ.q (goes_list rfl) rfl (by decide) rfl (q_move rfl (.t .z)) ?_
  refine FJ.er (.s (.s (.s (.s (.s (.s .z)))))) ?_
  refine FJ.q (goes_list rfl) rfl (by decide) rfl (q_assign rfl (.t .z)) ?_
  refine FJ.nil ?_
  refine FJ.then_ ?_
  refine FJ.ret ?_
  refine FJ.doneS (res1 rfl .z) (.c .z .n) ?_
  exact ⟨congrArg (Value.int .i64) (by simp only [vcnt_RNames]; omega), rfl⟩

set_option maxHeartbeats 1000000 in
set_option maxRecDepth 20000 in
theorem c_53 {w0 : World} {S0 : Bs} {y : (List ByteArray)} {v0 : Value} (h0 : kSl_9.ro w0 (FF w0 S0) y [v0]) (n : Int) (x : (List ByteArray)) (e0 : y = ((markL (fun _ => 1) (fun m _ => mtext m)) n x)) (hn0 : 0 ≤ n) (hn1 : n + (x.length : Int) ≤ 4611686018427387904) :
    Calls Try.prog 53 #[v0, .int .i64 n] w0 (TriPost w0 S0 (fun r l => r = .int .i64 (n + (x.length : Int)) ∧ l = [])) := by
  obtain ⟨A0, c0, rfl, hl0, hm0, hb0, he0⟩ := ro_form h0
  have hl := markE_len e0
  refine FJ.enter (N := 22) Try.func53 rfl rfl (by simp) [(0, .slice A0 y.length c0), (1, .int .i64 n)] (by simp) (l0 := []) trivial ?_
  refine FJ.seq ?_
  refine FJ.region ?_
  refine FJ.q (goes_list rfl) rfl (by decide) rfl (q_assign rfl .c) ?_
  refine FJ.nil ?_
  refine FJ.then_ ?_
  refine FJ.seq ?_
  refine FJ.seq ?_
  refine FJ.region ?_
  refine FJ.q (goes_list rfl) rfl (by decide) rfl (q_assign rfl .c) ?_
  refine FJ.nil ?_
  refine FJ.then_ ?_
  refine FJ.block ?_
  refine FJ.loopi (γ := Nat) (fun k => [(5, .int .i64 (k : Int)), (0, .slice A0 y.length c0), (1, .int .i64 (n + (k : Int)))]) (fun k => []) (fun k => k ≤ y.length) (fun k => y.length - k) 0 (Nat.zero_le _) (.c .z (.c (.s (.s .z)) (.e (.s (.s (.s .z))) (congrArg (Value.int .i64) (by omega)) .n))) (fun _ h => h) ?_
  rintro k hk
  refine FJ.seq ?_
  refine FJ.seq ?_
  refine FJ.region ?_
  refine FJ.q (goes_list rfl) rfl (by decide) rfl (q_move rfl (.t .z)) ?_
  refine FJ.q (goes_list rfl) rfl (by decide) rfl (q_move rfl (.t (.s (.s .z)))) ?_
  refine FJ.q (goes_list rfl) rfl (by decide) rfl (q_len rfl u_47 (.t .z)) ?_
  refine FJ.q (goes_list rfl) rfl (by decide) rfl (q_lss rfl (.t (.s (.s .z))) (.t .z)) ?_
  refine FJ.nil ?_
  refine FJ.then_ ?_
  refine FJ.condP (.t .z) (fun b2 => ?_) (fun b2 => ?_)
  · -- b2: True
    refine FJ.skip ?_
    refine FJ.then_ ?_
    refine FJ.seq ?_
    refine FJ.block ?_
    refine FJ.seq ?_
    refine FJ.seq ?_
    refine FJ.draw [] 7 (by kernel_rfl) ?_
    refine FJ.sch [(0, true), (1, true), (2, true), (3, true), (4, true), (5, false), (6, true)] 0 #[true, true, true, true, true, true, true] (by rfl) (by kernel_rfl) ?_
    refine FJ.dq rfl rfl rfl (by decide) rfl .z (q_move rfl (.t (.s (.s (.s (.s (.s .z))))))) ?_
    refine FJ.dq rfl rfl rfl (by decide) rfl .z (q_move rfl (.t (.s (.s (.s (.s (.s .z))))))) ?_
    obtain ⟨ad3, hAad3, hrad3⟩ := he0 (by omega)
    subst hAad3
    obtain ⟨x4, hx4⟩ := get_ex (xs := y) (j := k) (by omega)
    obtain ⟨ece5, hre5, hFe5, hce5⟩ := hrad3.elem hx4
    obtain ⟨rfl, se5⟩ := hre5
    refine FJ.dq rfl rfl rfl (by decide) rfl .z (q_indexAddr (j := k) rfl u_47 sz_9 (.t (.s .z)) (.t .z) rfl (by omega)) ?_
    refine FJ.dq rfl rfl rfl (by decide) rfl .z (q_load rfl ag_9 (.t .z) (WS.el0 hFe5 hce5 rfl)) ?_
    refine FJ.dq rfl rfl rfl (by decide) rfl .z (q_move rfl (.t (.s (.s (.s (.s (.s (.s (.s (.s (.s (.s .z)))))))))))) ?_
    refine FJ.call (goes_sch rfl rfl) rfl (by decide) rfl (c_call rfl Try.func75 rfl rfl (args1 (.t .z))) .n (fun w1 S1 hs tr => c_75 _ (by omega)) ?_
    rintro _ _ ⟨rfl, rfl⟩
    refine FJ.cat .n ?_
    refine FJ.sk .z ?_
    refine FJ.dq rfl rfl rfl (by decide) rfl .z (q_sneq rfl (.t (.s (.s .z))) (.t .z)) ?_
    refine FJ.schN ?_
    refine FJ.drawN (by kernel_rfl) ?_
    refine FJ.then_ ?_
    refine FJ.condN (.t .z) (fun b6 => ?_) (fun b6 => ?_)
    · -- b6: True
      exfalso
      obtain ⟨z, hz⟩ := markS_get e0 hx4
      exact b6 hz
    · -- b6: False
      refine FJ.skip ?_
      refine FJ.then_ ?_
      refine FJ.region ?_
      refine FJ.q (goes_list rfl) rfl (by decide) rfl (q_move rfl (.t (.s (.s (.s (.s (.s (.s (.s (.s (.s (.s (.s (.s (.s .z))))))))))))))) ?_
      refine FJ.q (goes_list rfl) rfl (by decide) rfl (q_add (c := (n + (k : Int)) + 1) rfl (.t .z) .c (wr (by omega) (by omega) (by omega))) ?_
      refine FJ.er (.s (.s (.s (.s (.s (.s (.s (.s (.s (.s (.s (.s (.s (.s (.s .z))))))))))))))) ?_
      refine FJ.q (goes_list rfl) rfl (by decide) rfl (q_assign rfl (.t .z)) ?_
      refine FJ.nil ?_
      refine FJ.inBN ?_
      refine FJ.then_ ?_
      refine FJ.region ?_
      refine FJ.q (goes_list rfl) rfl (by decide) rfl (q_move rfl (.t (.s (.s (.s (.s (.s (.s (.s (.s (.s (.s (.s (.s (.s (.s .z)))))))))))))))) ?_
      refine FJ.q (goes_list rfl) rfl (by decide) rfl (q_add (c := ((k + 1 : Nat) : Int)) rfl (.t .z) .c (wr (by omega) (by omega) (by omega))) ?_
      refine FJ.er (.s (.s (.s (.s (.s (.s (.s (.s (.s (.s (.s (.s (.s (.s (.s (.s .z)))))))))))))))) ?_
      refine FJ.q (goes_list rfl) rfl (by decide) rfl (q_assign rfl (.t .z)) ?_
      refine FJ.nil ?_
      refine FJ.again (k + 1) (by omega) (by first | omega | (dsimp only; omega)) (.c .z (.c (.s (.s (.s (.s (.s (.s (.s (.s (.s (.s (.s (.s (.s (.s (.s (.s (.s .z))))))))))))))))) (.e (.s (.s (.s .z))) (congrArg (Value.int .i64) (by omega)) .n))) (fun _ h => h)
  · -- b2: False
    refine FJ.exit ?_
    refine FJ.thenE ?_
    refine FJ.thenE ?_
    refine FJ.inB ?_
    refine FJ.then_ ?_
    refine FJ.seq ?_
    refine FJ.region ?_
    refine FJ.q (goes_list rfl) rfl (by decide) rfl (q_move rfl (.t (.s (.s (.s (.s (.s (.s .z)))))))) ?_
    refine FJ.q (goes_list rfl) rfl (by decide) rfl (q_assign rfl (.t .z)) ?_
    refine FJ.nil ?_
    refine FJ.then_ ?_
    refine FJ.ret ?_
    refine FJ.doneS (res1 rfl .z) .n ?_
    exact ⟨congrArg (Value.int .i64) (by omega), rfl⟩

set_option maxHeartbeats 1000000 in
set_option maxRecDepth 20000 in
theorem c_26 {w0 : World} {S0 : Bs} {y : RNames} {cs0 : List Value} (h0 : kT_49.ro w0 (FF w0 S0) y cs0) (n : Int) (x : RNames) (e0 : y = (vmark_RNames n x)) (hn0 : 0 ≤ n) (hn1 : n + ((vcnt_RNames x) : Int) ≤ 4611686018427387904) :
    Calls Try.prog 26 #[.agg cs0.toArray, .int .i64 n] w0 (TriPost w0 S0 (fun r l => r = .int .i64 (n + ((vcnt_RNames x) : Int)) ∧ l = [])) := by
  obtain ⟨u0_1, rfl, h0_1⟩ := kT_49_ro h0
  obtain ⟨A0_1, c0_1, rfl, hl0_1, hm0_1, hb0_1, he0_1⟩ := ro_form h0_1
  simp only [vcnt_RNames] at hn1
  refine FJ.enter (N := 12) Try.func26 rfl rfl (by simp) [(0, .agg #[.int .i64 y.code, .slice A0_1 y.names.length c0_1]), (1, .int .i64 n)] (by simp) (l0 := []) trivial ?_
  refine FJ.seq ?_
  refine FJ.region ?_
  refine FJ.e (goes_list rfl) rfl (by decide) rfl (e_box (cs := [.int .i64 y.code, .slice A0_1 y.names.length c0_1]) (n := 2) rfl (.t .z) rfl rfl) ?_
  rintro _ _ ⟨g2, rfl, rfl⟩
  refine FJ.q (goes_list rfl) rfl (by decide) rfl (q_assign rfl .c) ?_
  refine FJ.nil ?_
  refine FJ.then_ ?_
  refine FJ.seq ?_
  refine FJ.region ?_
  refine FJ.q (goes_list rfl) rfl (by decide) rfl (q_fieldAddr rfl (.t (.s .z)) (fun _ => fa_49_1 _ _)) ?_
  refine FJ.q (goes_list rfl) rfl (by decide) rfl (q_load rfl ag_47 (.t .z) (WS.row .z rfl)) ?_
  refine FJ.q (goes_list rfl) rfl (by decide) rfl (q_move rfl (.t (.s (.s (.s (.s (.s .z))))))) ?_
  refine FJ.call (goes_list rfl) rfl (by decide) rfl (c_call rfl Try.func53 rfl rfl (args2 (.t (.s .z)) (.t .z))) .n (fun w1 S1 hs tr => c_53 (tr.ctx h0_1) _ x.names (congrArg (·.names) e0) (by omega) (by first | omega | (omega))) ?_
  rintro _ _ ⟨rfl, rfl⟩
  refine FJ.cat .n ?_
  refine FJ.er (.s (.s (.s (.s (.s (.s (.s .z))))))) ?_
  refine FJ.q (goes_list rfl) rfl (by decide) rfl (q_assign rfl (.t .z)) ?_
  refine FJ.nil ?_
  refine FJ.then_ ?_
  refine FJ.seq ?_
  refine FJ.seq ?_
  refine FJ.region ?_
  refine FJ.q (goes_list rfl) rfl (by decide) rfl (q_move rfl (.t .z)) ?_
  refine FJ.q (goes_list rfl) rfl (by decide) rfl (q_lss rfl (.t .z) .c) ?_
  refine FJ.nil ?_
  refine FJ.then_ ?_
  refine FJ.condP (.t .z) (fun b3 => ?_) (fun b3 => ?_)
  · -- b3: True
    refine FJ.seq ?_
    refine FJ.region ?_
    refine FJ.er (.s (.s (.s (.s (.s (.s (.s .z))))))) ?_
    refine FJ.q (goes_list rfl) rfl (by decide) rfl (q_assign rfl .c) ?_
    refine FJ.nil ?_
    refine FJ.then_ ?_
    refine FJ.ret ?_
    refine FJ.thenR ?_
    refine FJ.doneS (res1 rfl .z) .n ?_
    exfalso; omega
  · -- b3: False
    refine FJ.skip ?_
    refine FJ.then_ ?_
    refine FJ.seq ?_
    refine FJ.region ?_
    refine FJ.q (goes_list rfl) rfl (by decide) rfl (q_move rfl (.t (.s (.s .z)))) ?_
    refine FJ.er (.s (.s (.s (.s (.s (.s (.s (.s .z)))))))) ?_
    refine FJ.q (goes_list rfl) rfl (by decide) rfl (q_assign rfl (.t .z)) ?_
    refine FJ.nil ?_
    refine FJ.then_ ?_
    refine FJ.ret ?_
    refine FJ.doneS (res1 rfl .z) .n ?_
    exact ⟨congrArg (Value.int .i64) (by simp only [vcnt_RNames]; omega), rfl⟩

end Go.Proofs.Ytbcdcakcmdcafaa

/- What is proved: contracts of functions, one a function. No condition. -/
import Derived.Test.YtmejbfmhaoilmaaGreatBase1
import Derived.Test.YtmejbfmhaoilmaaGreatW50
namespace Go.Proofs.YtmejbfmhaoilmaaGreat
open Go Go.RowKit
set_option linter.unusedVariables false
set_option linter.unusedSimpArgs false
set_option maxHeartbeats 1000000
set_option maxRecDepth 20000
theorem c_12 {w0 : World} {S0 : Bs} {cd : (List UInt8)} {v0 : Value} (h0 : kSl_5.ro w0 (FF w0 S0) cd [v0]) (i : Int) (n : Int) (hi : 0 ≤ i ∧ i ≤ 100) (hn : n ≤ 1000) :
    Calls Tryz.prog 12 #[v0, .int .i64 i, .int .i64 n] w0 (TriPost w0 S0 (fun r l => ∃ m : Int, 0 ≤ m ∧ (1 ≤ n → m < n) ∧ r = .int .i64 m ∧ l = [])) := by
 obtain ⟨A0, c0, rfl, ap, aq, ar, ai⟩ := ro_form h0
 refine Y.enter (N := 47) Tryz.func12 rfl rfl (by simp) [(0, .slice A0 cd.length c0), (1, .int .i64 i), (2, .int .i64 n)] (by simp) (l0 := []) trivial ?_
 refine Y.seq (Y.region (Y.ql rfl (q_assign rfl .c) (Y.nt (Y.seq (Y.region (Y.mv rfl .g1 (Y.ql rfl (q_len rfl u_22 (.t .z)) ?_)))))))
 refine Y.as rfl .z (Y.nt (Y.seq (Y.seq (Y.region (Y.mv rfl .g6 (Y.ql rfl (q_leq rfl (.t .z) .c) (Y.nil ?_)))))))
 refine Y.then_ ?_
 refine Y.condP (.t .z) (fun b2 => ?_) (fun b2 => ?_)
 refine Y.seq (Y.region (Y.er .g5 (Y.ql rfl (q_assign rfl .c) (Y.nt (Y.ret (Y.thenR ?_))))))
 refine Y.doneS (res1 rfl .z) .n ?_
 exact ⟨0, by omega, fun h => by omega, rfl, rfl⟩
 refine Y.skip (Y.then_ (Y.seq (Y.seq (Y.region (Y.mv rfl .g2 (Y.ql rfl (q_eql rfl (.t .z) .c) (Y.nt ?_)))))))
 refine Y.condP (.t .z) (fun b3 => ?_) (fun b3 => ?_)
 refine Y.seq (Y.region (Y.mv rfl .g9 ?_))
 refine Y.ql rfl (q_mul (c := i * 7) rfl (.t .z) .c (wr (by omega) (by omega) (by omega))) ?_
 refine Y.mv rfl .g12 ?_
 refine Y.ql rfl (q_rem (c := Int.tmod (i * 7) n) rfl (.t .g1) (.t .z) (by omega) rfl) ?_
 refine Y.er .g11 (Y.as rfl .z (Y.nt (Y.ret (Y.thenR ?_))))
 refine Y.doneS (res1 rfl .z) .n ?_
 exact ⟨_, (tmod_in (by omega) (by omega)).1, fun h => (tmod_in (by omega) (by omega)).2, rfl, rfl⟩
 refine Y.skip (Y.then_ (Y.seq ?_))
 have au := tmod_in (x := i) (n := (cd.length : Int)) (by omega) (by omega); have av := div_in (x := i) (n := (cd.length : Int)) (by omega) (by omega); have aw := tmod_in (x := i + 1) (n := (cd.length : Int)) (by omega) (by omega)
 refine Y.dr .z 12 mixo ?_
 refine Y.sc (qs 0 12 ++ [(12, false)]) (by kernel_rfl) ?_
 refine Y.dm rfl rfl .z .g8 (Y.dm rfl rfl .z .g10 (Y.dm rfl rfl .z .g6 ?_))
 refine Y.dk rfl rfl .z (q_rem (c := Int.tmod i (cd.length : Int)) rfl (.t .g1) (.t .z) (by omega) rfl) ?_
 obtain ⟨ax, ab, aa⟩ := ai (by omega)
 subst ab
 obtain ⟨x5, aj⟩ := get_ex (xs := cd) (j := Int.toNat (Int.tmod i (cd.length : Int))) (by omega)
 obtain ⟨ak, ac, ad, ae⟩ := aa.elem aj
 obtain ⟨rfl, ay⟩ := ac
 have al := UInt8.toNat_lt x5
 refine Y.dk rfl rfl .z (q_indexAddr (j := Int.toNat (Int.tmod i (cd.length : Int))) rfl u_22 sz_5 (.t .g3) (.t .z) (by omega) (by omega)) ?_
 refine Y.dk rfl rfl .z (q_load rfl ag_5 (.t .z) (WS.el0 ad ae rfl)) ?_
 refine Y.dk rfl rfl .z (q_conv (c := (x5.toNat : Int)) rfl (.t .z) u_5 u_2 (wr rfl (by omega) (by have := UInt8.toNat_lt x5; omega))) ?_
 refine Y.dm rfl rfl .z .g16 (Y.dm rfl rfl .z .g12 ?_)
 refine Y.dk rfl rfl .z (q_quo (c := i / (cd.length : Int)) rfl (.t .g1) (.t .z) (by omega) (quo_nn (by omega) (by omega) (by omega))) ?_
 refine Y.dk rfl rfl .z (q_mul (c := (i / (cd.length : Int)) * 3) rfl (.t .z) .c (wr (by omega) (by omega) (by omega))) ?_
 refine Y.dk rfl rfl .z (q_add (c := (x5.toNat : Int) + ((i / (cd.length : Int)) * 3)) rfl (.t .g4) (.t .z) (wr (by omega) (by omega) (by omega))) ?_
 refine Y.q (goes_sch rfl rfl) rfl (by decide) rfl (q_assign rfl (.t .z)) ?_
 refine Y.sl rfl ?_
 refine Y.schN ?_
 refine Y.drawN (by kernel_rfl) ?_
 refine Y.then_ (Y.seq (Y.seq (Y.region (Y.mv rfl (.s16 .g7) (Y.ql rfl (q_gtr rfl (.t .z) .c) (Y.nt ?_))))))
 refine Y.condP (.t .z) (fun b7 => ?_) (fun b7 => ?_)
 refine Y.region (Y.mv rfl .g2 ?_)
 refine Y.ql rfl (q_mul (c := ((x5.toNat : Int) + ((i / (cd.length : Int)) * 3)) * 251) rfl (.t .z) .c (wr (by omega) (by omega) (by omega))) ?_
 refine Y.mv rfl (.s16 .g9) (Y.mv rfl (.s16 .g11) ?_)
 refine Y.ql rfl (q_add (c := i + 1) rfl (.t .z) .c (wr (by omega) (by omega) (by omega))) ?_
 refine Y.mv rfl (.s16 .g8) ?_
 refine Y.ql rfl (q_rem (c := Int.tmod (i + 1) (cd.length : Int)) rfl (.t .g1) (.t .z) (by omega) rfl) ?_
 obtain ⟨x8, am⟩ := get_ex (xs := cd) (j := Int.toNat (Int.tmod (i + 1) (cd.length : Int))) (by omega)
 obtain ⟨an, af, ag, ah⟩ := aa.elem am
 obtain ⟨rfl, az⟩ := af
 have ao := UInt8.toNat_lt x8
 refine Y.ql rfl (q_indexAddr (j := Int.toNat (Int.tmod (i + 1) (cd.length : Int))) rfl u_22 sz_5 (.t .g4) (.t .z) (by omega) (by omega)) ?_
 refine Y.ql rfl (q_load rfl ag_5 (.t .z) (WS.el0 ag ah rfl)) ?_
 refine Y.ql rfl (q_conv (c := (x8.toNat : Int)) rfl (.t .z) u_5 u_2 (wr rfl (by omega) (by have := UInt8.toNat_lt x8; omega))) ?_
 refine Y.ql rfl (q_add (c := (((x5.toNat : Int) + ((i / (cd.length : Int)) * 3)) * 251) + (x8.toNat : Int)) rfl (.t .g8) (.t .z) (wr (by omega) (by omega) (by omega))) ?_
 refine Y.er .g13 (Y.as rfl .z (Y.nt (Y.seq (Y.region (Y.mv rfl .z (Y.mv rfl (.s16 (.s16 .g5)) ?_))))))
 refine Y.ql rfl (q_rem (c := Int.tmod ((((x5.toNat : Int) + ((i / (cd.length : Int)) * 3)) * 251) + (x8.toNat : Int)) n) rfl (.t .g1) (.t .z) (by omega) rfl) ?_
 refine Y.er (.s16 (.s16 .g4)) (Y.as rfl .z (Y.nt (Y.ret ?_)))
 refine Y.doneS (res1 rfl .z) .n ?_
 exact ⟨_, (tmod_in (by omega) (by omega)).1, fun h => (tmod_in (by omega) (by omega)).2, rfl, rfl⟩
 refine Y.skip (Y.then_ (Y.seq (Y.region (Y.mv rfl .g2 (Y.mv rfl (.s16 .g10) ?_)))))
 refine Y.ql rfl (q_rem (c := Int.tmod ((x5.toNat : Int) + ((i / (cd.length : Int)) * 3)) n) rfl (.t .g1) (.t .z) (by omega) rfl) ?_
 refine Y.er (.s16 .g9) (Y.as rfl .z (Y.nt (Y.ret ?_)))
 refine Y.doneS (res1 rfl .z) .n ?_
 exact ⟨_, (tmod_in (by omega) (by omega)).1, fun h => (tmod_in (by omega) (by omega)).2, rfl, rfl⟩

end Go.Proofs.YtmejbfmhaoilmaaGreat

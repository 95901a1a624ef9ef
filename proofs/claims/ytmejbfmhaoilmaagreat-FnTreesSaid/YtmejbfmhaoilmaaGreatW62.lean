/- What is proved: contracts of functions, one a function. No condition. -/
import Derived.Test.YtmejbfmhaoilmaaGreatBase1
import Derived.Test.YtmejbfmhaoilmaaGreatW61
import Derived.Test.YtmejbfmhaoilmaaGreatBase2
namespace Go.Proofs.YtmejbfmhaoilmaaGreat
open Go Go.RowKit
set_option linter.unusedVariables false
set_option linter.unusedSimpArgs false
set_option maxHeartbeats 1000000
set_option maxRecDepth 20000
theorem c_194 {w0 : World} {S0 : Bs} (s : ByteArray) (ai : s.size ≤ 140737488351232)  :
    Calls Tryz.prog 194 #[.string s] w0 (TriPost w0 S0 (fun r l => ∃ v : Value, r = .tuple #[v, .string (lastT s), .int .i64 (lastC s)] ∧ l = [ownA kSl_9 (lastN s) [v]])) := by
 refine Y.enter (N := 29) Tryz.func194 rfl rfl (by simp) [(0, .string s)] (by simp) (l0 := []) trivial ?_
 refine Y.seq (Y.region (Y.ql rfl (q_assign rfl .c) (Y.ql rfl (q_assign rfl .c) (Y.ql rfl (q_assign rfl .c) (Y.nt (Y.seq (Y.region ?_)))))))
 refine Y.mv rfl .g3 ?_
 refine Y.cl rfl rfl Tryz.func196 rfl rfl (args1 (.t .z)) .n (fun _ _ hs tr => c_196 _ (by first | assumption | omega)) ?_
 rintro _ _ ⟨v1, rfl, rfl⟩
 refine Y.cat (.c .n) ?_
 refine Y.know (WS.oform .z) ?_
 rintro ⟨ad, aa, rfl, ae, af, ag⟩
 have ab := (splitN_ok s).1
 refine Y.mv rfl .z (Y.ql rfl (q_extract (v := .slice ad (splitN s).length aa) rfl (.t .z) rfl) (Y.ql rfl (q_extract (v := .int .i64 (splitC s)) rfl (.t .g1) rfl) (Y.as rfl .g1 (Y.as rfl .g1 (Y.nt (Y.seq (Y.seq ?_)))))))
 refine Y.region (Y.mv rfl .z (Y.ql rfl (q_neq rfl (.t .z) .c) (Y.nt ?_)))
 refine Y.condN (.t .z) (fun b4 => ?_) (fun b4 => ?_)
 refine Y.seq (Y.region (Y.mv rfl .g2 (Y.er .g12 (Y.ql rfl (q_assign rfl .c) (Y.er .g12 (Y.ql rfl (q_assign rfl .c) (Y.er .g12 (Y.as rfl .g2 ?_))))))))
 refine Y.nt (Y.ret (Y.thenR ?_))
 refine Y.add (c := ownA kSl_9 [] [.slice none 0 0]) (fun w S => own_nil w S none) ?_
 refine Y.doneS (res3 rfl .g2 .g1 .z) (.c .z .n) ?_
 first | (have hh := last_c (s := s) (by assumption); rw [hh.1, hh.2.1, hh.2.2]; exact ⟨_, rfl, rfl⟩) | (have hh := last_4 (s := s) (by assumption) (len_nil.1 (by assumption)); rw [hh.1, hh.2.1, hh.2.2]; exact ⟨_, rfl, rfl⟩)
 refine Y.skip (Y.then_ (Y.seq (Y.seq (Y.region (Y.mv rfl .g3 (Y.ql rfl (q_len rfl u_63 (.t .z)) (Y.ql rfl (q_eql rfl (.t .z) .c) (Y.nil ?_))))))))
 refine Y.then_ ?_
 refine Y.condP (.t .z) (fun b6 => ?_) (fun b6 => ?_)
 refine Y.seq (Y.region (Y.er .g14 (Y.ql rfl (q_assign rfl .c) (Y.er .g14 (Y.ql rfl (q_assign rfl .c) (Y.er .g14 (Y.ql rfl (q_assign rfl .c) (Y.nil ?_))))))))
 refine Y.then_ (Y.ret (Y.thenR ?_))
 refine Y.add (c := ownA kSl_9 [] [.slice none 0 0]) (fun w S => own_nil w S none) ?_
 refine Y.doneS (res3 rfl .g2 .g1 .z) (.c .z .n) ?_
 first | (have hh := last_c (s := s) (by assumption); rw [hh.1, hh.2.1, hh.2.2]; exact ⟨_, rfl, rfl⟩) | (have hh := last_4 (s := s) (by assumption) (len_nil.1 (by assumption)); rw [hh.1, hh.2.1, hh.2.2]; exact ⟨_, rfl, rfl⟩)
 refine Y.skip (Y.then_ (Y.seq ?_))
 refine Y.dr .z 13 mixo ?_
 refine Y.sc (qs 0 13 ++ [(13, false)]) (by kernel_rfl) ?_
 refine Y.dm rfl rfl .z .g6 (Y.dm rfl rfl .z .g7 (Y.dk rfl rfl .z (q_len rfl u_63 (.t .z)) ?_))
 refine Y.dk rfl rfl .z (q_sub (c := ((splitN s).length : Int) - 1) rfl (.t .z) .c (wr (by omega) (by omega) (by omega))) ?_
 refine Y.eq .z (congrArg (Value.int .i64) (show ((splitN s).length : Int) - 1 = ((Int.toNat (((splitN s).length : Int) - 1) : Nat) : Int) by omega)) ?_
 refine Y.dk rfl rfl .z (q_sliceTake (b := Int.toNat (((splitN s).length : Int) - 1)) rfl u_63 sz_9 (.t .g3) (.t .z) (by omega)) ?_
 refine Y.dm rfl rfl .z .g11 (Y.dm rfl rfl .z .g12 (Y.dk rfl rfl .z (q_len rfl u_63 (.t .z)) ?_))
 refine Y.dk rfl rfl .z (q_sub (c := ((splitN s).length : Int) - 1) rfl (.t .z) .c (wr (by omega) (by omega) (by omega))) ?_
 refine Y.know (WS.oad .z (by omega)) ?_
 rintro ⟨ah, rfl⟩
 refine Y.dk rfl rfl .z (q_indexAddr (j := Int.toNat (((splitN s).length : Int) - 1)) rfl u_63 sz_9 (.t .g3) (.t .z) (by omega) (by omega)) ?_
 obtain ⟨x9, ac⟩ := get_ex (xs := splitN s) (j := Int.toNat (((splitN s).length : Int) - 1)) (by omega)
 refine Y.dk rfl rfl .z (q_load rfl ag_9 (.t .z) (WS.oel .z ac)) (Y.er (.s16 .g9) (Y.dk rfl rfl .z (q_assign rfl (.t .g6)) (Y.er (.s16 .g9) (Y.dk rfl rfl .z (q_assign rfl (.t .g1)) (Y.er (.s16 .g9) ?_)))))
 refine Y.q (goes_sch rfl rfl) rfl (by decide) rfl (q_assign rfl .c) ?_
 refine Y.sl rfl ?_
 refine Y.schN ?_
 refine Y.drawN (by kernel_rfl) ?_
 refine Y.then_ (Y.ret ?_)
 refine Y.turns (c := ownA kSl_9 (List.take (Int.toNat (((splitN s).length : Int) - 1)) (splitN s)) [.slice (some ah) (Int.toNat (((splitN s).length : Int) - 1)) aa]) (.c .z .n) (own_take (by omega)) ?_
 refine Y.doneS (res3 rfl .g2 .g1 .z) (.c .z .n) ?_
 have hh := last_0 (s := s) (by assumption) (fun e => absurd (len_nil.2 e) (by assumption)); rw [hh.1, hh.2.1, hh.2.2 _ _ (by omega) ac]; exact ⟨_, rfl, by rw [show Int.toNat (((splitN s).length : Int) - 1) = (splitN s).length - 1 by omega]⟩

end Go.Proofs.YtmejbfmhaoilmaaGreat

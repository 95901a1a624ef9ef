/- What is proved: contracts of functions, one a function. No condition. -/
import Derived.Test.YticaddophhggoaaGreatDoorW61
import Derived.Test.YticaddophhggoaaGreatDoorBase2
namespace Go.Proofs.YticaddophhggoaaGreatDoor
open Go Go.RowKit
set_option linter.unusedVariables false
set_option linter.unusedSimpArgs false
set_option maxHeartbeats 1000000 in
set_option maxRecDepth 20000 in
theorem c_64 {w0 : World} {S0 : Bs} (s : ByteArray) (hz0 : s.size ≤ 140737488351232)  :
    Calls Tryz.prog 64 #[.string s] w0 (TriPost w0 S0 (fun r l => ∃ v : Value, r = .tuple #[v, .string (lastT s), .int .i64 (lastC s)] ∧ l = [ownA kSl_9 (lastN s) [v]])) := by
 refine FJ.enter (N := 29) Tryz.func64 rfl rfl (by simp) [(0, .string s)] (by simp) (l0 := []) trivial ?_
 refine FJ.seq (FJ.region (FJ.ql rfl (q_assign rfl .c) (FJ.ql rfl (q_assign rfl .c) (FJ.ql rfl (q_assign rfl .c) ?_))))
 refine FJ.nil (FJ.then_ (FJ.seq (FJ.region (FJ.ql rfl (q_move rfl (.t (.s (.s (.s .z))))) ?_))))
 refine FJ.call (goes_list rfl) rfl (by decide) rfl (c_call rfl Tryz.func54 rfl rfl (args1 (.t .z))) .n (fun w1 S1 hs tr => c_54 _ (by first | assumption | omega)) ?_
 rintro _ _ ⟨v1, rfl, rfl⟩
 refine FJ.cat (.c .n) ?_
 refine FJ.know (WS.oform .z) ?_
 rintro ⟨Ao3, co3, rfl, hlo3, hmo3, hbo3⟩
 have hskv1 := (splitN_ok s).1
 refine FJ.ql rfl (q_move rfl (.t .z)) (FJ.ql rfl (q_extract (v := .slice Ao3 (splitN s).length co3) rfl (.t .z) rfl) (FJ.ql rfl (q_extract (v := .int .i64 (splitC s)) rfl (.t (.s .z)) rfl) (FJ.ql rfl (q_assign rfl (.t (.s .z))) (FJ.ql rfl (q_assign rfl (.t (.s .z))) ?_))))
 refine FJ.nil (FJ.then_ (FJ.seq (FJ.seq (FJ.region ?_))))
 refine FJ.ql rfl (q_move rfl (.t .z)) (FJ.ql rfl (q_neq rfl (.t .z) .c) (FJ.nil (FJ.then_ ?_)))
 refine FJ.condN (.t .z) (fun b4 => ?_) (fun b4 => ?_)
 refine FJ.seq (FJ.region (FJ.ql rfl (q_move rfl (.t (.s (.s .z)))) (FJ.er (.s4 (.s4 (.s4 .z))) (FJ.ql rfl (q_assign rfl .c) ?_))))
 refine FJ.er (.s4 (.s4 (.s4 .z))) (FJ.ql rfl (q_assign rfl .c) (FJ.er (.s4 (.s4 (.s4 .z))) (FJ.ql rfl (q_assign rfl (.t (.s (.s .z)))) (FJ.nil ?_))))
 refine FJ.then_ (FJ.ret (FJ.thenR ?_))
 refine FJ.add (c := ownA kSl_9 [] [.slice none 0 0]) (fun w S => own_nil w S none) ?_
 refine FJ.doneS (res3 rfl (.s (.s .z)) (.s .z) .z) (.c .z .n) ?_
 first | (have hh := last_c (s := s) (by assumption); rw [hh.1, hh.2.1, hh.2.2]; exact ⟨_, rfl, rfl⟩) | (have hh := last_4 (s := s) (by assumption) (len_nil.1 (by assumption)); rw [hh.1, hh.2.1, hh.2.2]; exact ⟨_, rfl, rfl⟩)
 refine FJ.skip (FJ.then_ (FJ.seq (FJ.seq (FJ.region ?_))))
 refine FJ.ql rfl (q_move rfl (.t (.s (.s (.s .z))))) (FJ.ql rfl (q_len rfl u_44 (.t .z)) (FJ.ql rfl (q_eql rfl (.t .z) .c) (FJ.nil (FJ.then_ ?_))))
 refine FJ.condP (.t .z) (fun b6 => ?_) (fun b6 => ?_)
 refine FJ.seq (FJ.region (FJ.er (.s4 (.s4 (.s4 (.s (.s .z))))) (FJ.ql rfl (q_assign rfl .c) (FJ.er (.s4 (.s4 (.s4 (.s (.s .z))))) ?_))))
 refine FJ.ql rfl (q_assign rfl .c) (FJ.er (.s4 (.s4 (.s4 (.s (.s .z))))) (FJ.ql rfl (q_assign rfl .c) (FJ.nil (FJ.then_ ?_))))
 refine FJ.ret (FJ.thenR ?_)
 refine FJ.add (c := ownA kSl_9 [] [.slice none 0 0]) (fun w S => own_nil w S none) ?_
 refine FJ.doneS (res3 rfl (.s (.s .z)) (.s .z) .z) (.c .z .n) ?_
 first | (have hh := last_c (s := s) (by assumption); rw [hh.1, hh.2.1, hh.2.2]; exact ⟨_, rfl, rfl⟩) | (have hh := last_4 (s := s) (by assumption) (len_nil.1 (by assumption)); rw [hh.1, hh.2.1, hh.2.2]; exact ⟨_, rfl, rfl⟩)
 refine FJ.skip (FJ.then_ (FJ.seq ?_))
 refine FJ.draw [ownA kSl_9 (splitN s) [.slice Ao3 (splitN s).length co3]] 13 (by kernel_rfl) ?_
 refine FJ.sch [(0, true), (1, true), (2, true), (3, true), (4, true), (5, true), (6, true), (7, true), (8, true), (9, true), (10, true), (11, true), (12, true), (13, false)] 0 #[true, true, true, true, true, true, true, true, true, true, true, true, true, true] (by rfl) (by kernel_rfl) ?_
 refine FJ.dq rfl rfl rfl (by decide) rfl .z (q_move rfl (.t (.s4 (.s (.s .z))))) (FJ.dq rfl rfl rfl (by decide) rfl .z (q_move rfl (.t (.s4 (.s (.s (.s .z)))))) (FJ.dq rfl rfl rfl (by decide) rfl .z (q_len rfl u_44 (.t .z)) ?_))
 refine FJ.dq rfl rfl rfl (by decide) rfl .z (q_sub (c := ((splitN s).length : Int) - 1) rfl (.t .z) .c (wr (by omega) (by omega) (by omega))) ?_
 refine FJ.eq .z (congrArg (Value.int .i64) (show ((splitN s).length : Int) - 1 = ((Int.toNat (((splitN s).length : Int) - 1) : Nat) : Int) by omega)) ?_
 refine FJ.dq rfl rfl rfl (by decide) rfl .z (q_sliceTake (b := Int.toNat (((splitN s).length : Int) - 1)) rfl u_44 sz_9 (.t (.s (.s (.s .z)))) (.t .z) (by omega)) ?_
 refine FJ.dq rfl rfl rfl (by decide) rfl .z (q_move rfl (.t (.s4 (.s4 (.s (.s (.s .z))))))) (FJ.dq rfl rfl rfl (by decide) rfl .z (q_move rfl (.t (.s4 (.s4 (.s4 .z))))) (FJ.dq rfl rfl rfl (by decide) rfl .z (q_len rfl u_44 (.t .z)) ?_))
 refine FJ.dq rfl rfl rfl (by decide) rfl .z (q_sub (c := ((splitN s).length : Int) - 1) rfl (.t .z) .c (wr (by omega) (by omega) (by omega))) ?_
 refine FJ.know (WS.oad .z (by omega)) ?_
 rintro ⟨ad8, rfl⟩
 refine FJ.dq rfl rfl rfl (by decide) rfl .z (q_indexAddr (j := Int.toNat (((splitN s).length : Int) - 1)) rfl u_44 sz_9 (.t (.s (.s (.s .z)))) (.t .z) (by omega) (by omega)) ?_
 obtain ⟨x9, hx9⟩ := get_ex (xs := splitN s) (j := Int.toNat (((splitN s).length : Int) - 1)) (by omega)
 refine FJ.dq rfl rfl rfl (by decide) rfl .z (q_load rfl ag_9 (.t .z) (WS.oel .z hx9)) (FJ.er (.s16 (.s4 (.s4 (.s .z)))) (FJ.dq rfl rfl rfl (by decide) rfl .z (q_assign rfl (.t (.s4 (.s (.s .z))))) (FJ.er (.s16 (.s4 (.s4 (.s .z)))) (FJ.dq rfl rfl rfl (by decide) rfl .z (q_assign rfl (.t (.s .z))) ?_))))
 refine FJ.er (.s16 (.s4 (.s4 (.s .z)))) ?_
 refine FJ.q (goes_sch rfl rfl) rfl (by decide) rfl (q_assign rfl .c) ?_
 refine FJ.sl rfl ?_
 refine FJ.schN ?_
 refine FJ.drawN (by kernel_rfl) ?_
 refine FJ.then_ (FJ.ret ?_)
 refine FJ.turns (c := ownA kSl_9 (List.take (Int.toNat (((splitN s).length : Int) - 1)) (splitN s)) [.slice (some ad8) (Int.toNat (((splitN s).length : Int) - 1)) co3]) (.c .z .n) (own_take (by omega)) ?_
 refine FJ.doneS (res3 rfl (.s (.s .z)) (.s .z) .z) (.c .z .n) ?_
 have hh := last_0 (s := s) (by assumption) (fun e => absurd (len_nil.2 e) (by assumption)); rw [hh.1, hh.2.1, hh.2.2 _ _ (by omega) hx9]; exact ⟨_, rfl, by rw [show Int.toNat (((splitN s).length : Int) - 1) = (splitN s).length - 1 by omega]⟩

end Go.Proofs.YticaddophhggoaaGreatDoor

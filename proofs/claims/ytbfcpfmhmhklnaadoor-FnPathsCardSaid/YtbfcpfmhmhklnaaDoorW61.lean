/- What is proved: contracts of functions, one a function. No condition. -/
import Derived.Test.YtbfcpfmhmhklnaaDoorW60
namespace Go.Proofs.YtbfcpfmhmhklnaaDoor
open Go Go.RowKit
set_option linter.unusedVariables false
set_option linter.unusedSimpArgs false
set_option maxHeartbeats 1000000 in
set_option maxRecDepth 20000 in
theorem c_39 {w0 : World} {S0 : Bs} (s : ByteArray) (hz0 : s.size ≤ 140737488351232) (c : Int) (hc : c = 47) (hs : s.size ≤ 30) :
    Calls Tryd.prog 39 #[.string s, .int .u8 c] w0 (TriPost w0 S0 (fun r l => l = [ownA kSl_9 (cutB s) [r]])) := by
 refine FJ.enter (N := 36) Tryd.func39 rfl rfl (by simp) [(0, .string s), (1, .int .u8 c)] (by simp) (l0 := []) trivial ?_
 refine FJ.seq (FJ.region (FJ.ql rfl (q_assign rfl .c) (FJ.nil (FJ.then_ ?_))))
 refine FJ.seq (FJ.region ?_)
 refine FJ.e (goes_list rfl) rfl (by decide) rfl (e_buildNil rfl u_28 (inz inf_9)) ?_
 rintro _ _ ⟨g1, rfl, rfl⟩
 refine FJ.ql rfl (q_assign rfl (.t .z)) (FJ.nil (FJ.then_ (FJ.seq (FJ.region ?_))))
 refine FJ.ql rfl (q_assign rfl .c) (FJ.nil (FJ.then_ (FJ.seq (FJ.seq ?_))))
 refine FJ.region (FJ.ql rfl (q_assign rfl .c) (FJ.nil (FJ.then_ (FJ.block ?_))))
 refine FJ.add (c := ownA kSl_9 ([] : (List ByteArray)) [.slice (some ⟨g1, 0, none⟩) 0 0]) (fun w S => own_nil w S _) ?_
 refine FJ.loopi (γ := Nat × (Option Addr) × Nat × Nat × (List ByteArray)) (fun ⟨k, Agk0, cgk0, m, o⟩ => [(7, .int .i64 (k : Int)), (6, .int .i64 (m : Int)), (5, .slice Agk0 o.length cgk0), (4, .slice none 0 0), (0, .string s), (1, .int .u8 c)]) (fun ⟨k, Agk0, cgk0, m, o⟩ => [ownA kSl_9 o [.slice Agk0 o.length cgk0], rowA g1 9 1 0 []]) (fun ⟨k, Agk0, cgk0, m, o⟩ => k ≤ s.size + 1 ∧ (k ≤ s.size → CI s.data.toList m k o) ∧ (s.size < k → o = cutB s) ∧ m ≤ k ∧ o.length ≤ k) (fun ⟨k, Agk0, cgk0, m, o⟩ => s.size + 1 - k) (0, (some ⟨g1, 0, none⟩), 0, 0, []) ⟨Nat.zero_le _, fun _ => CI_0, fun h => absurd h (Nat.not_lt_zero _), Nat.le_refl _, Nat.le_refl _⟩ (.c .z (.c (.s .z) (.c (.s (.s .z)) (.c (.s4 .z) (.c (.s4 (.s .z)) (.c (.s4 (.s (.s .z))) .n)))))) (fun _ h => h.sel (.c .z (.c .z .n))) ?_
 rintro ⟨k, Agk0, cgk0, m, o⟩ ⟨hk, hI, hE, hmk, hol⟩
 refine FJ.seq (FJ.seq (FJ.region (FJ.ql rfl (q_move rfl (.t .z)) (FJ.ql rfl (q_move rfl (.t (.s4 (.s .z)))) ?_))))
 refine FJ.ql rfl (q_len_s rfl u_9 (.t .z)) (FJ.ql rfl (q_leq rfl (.t (.s (.s .z))) (.t .z)) (FJ.nil (FJ.then_ ?_)))
 refine FJ.condP (.t .z) (fun b3 => ?_) (fun b3 => ?_)
 refine FJ.skip (FJ.then_ (FJ.seq (FJ.block (FJ.seq ?_))))
 refine FJ.region (FJ.ql rfl (q_move rfl (.t (.s4 .z))) (FJ.ql rfl (q_move rfl (.t (.s4 (.s4 (.s .z))))) (FJ.ql rfl (q_len_s rfl u_9 (.t .z)) (FJ.ql rfl (q_eql rfl (.t (.s (.s .z))) (.t .z)) ?_))))
 refine FJ.ql rfl (q_move rfl (.t .z)) ?_
 refine FJ.caseP .z (fun g4 => ?_) (fun g4 => ?_)
 refine FJ.skipl rfl rfl .z rfl rfl (by decide) rfl ?_
 refine FJ.skipl rfl rfl (.s .z) rfl rfl (by decide) rfl ?_
 refine FJ.skipl rfl rfl (.s (.s .z)) rfl rfl (by decide) rfl ?_
 refine FJ.skipl rfl rfl (.s (.s (.s .z))) rfl rfl (by decide) rfl ?_
 refine FJ.skipl rfl rfl (.s4 .z) rfl rfl (by decide) rfl ?_
 refine FJ.ql rfl (q_pickT rfl (.t (.s4 (.s .z))) .c) (FJ.nil (FJ.then_ ?_))
 refine FJ.condT (.t .z) ?_
 refine FJ.seq (FJ.region (FJ.ql rfl (q_move rfl (.t (.s16 (.s .z)))) (FJ.ql rfl (q_move rfl (.t (.s16 (.s4 .z)))) (FJ.ql rfl (q_move rfl (.t (.s16 (.s (.s .z))))) ?_))))
 refine FJ.ql rfl (q_move rfl (.t (.s16 (.s (.s .z))))) ?_
 refine FJ.ql rfl (q_slice_s (a := m) (b := k) rfl u_9 (.t (.s (.s .z))) (.inr ⟨_, _, rfl, (.t (.s .z))⟩) (.inr ⟨_, _, rfl, (.t .z)⟩) (by omega) (by omega)) ?_
 refine FJ.e (goes_list rfl) rfl (by decide) rfl (e_buildSliceL (ps := [(0, .string (ByteArray.extract s m k))]) (cs := [.string (ByteArray.extract s m k)]) rfl u_28 (inz inf_9) (by decide) (by intro act hact; simp only [List.map_toArray, List.map_cons, List.map_nil, (show Val _ _ _ from (.t .z)) act hact]) rfl rfl (by decide) rfl rfl) ?_
 rintro _ _ ⟨g5, rfl, rfl⟩
 refine FJ.add (c := ownA kstr (ByteArray.extract s m k) [.string (ByteArray.extract s m k)]) (fun _ _ => ⟨rfl, by first | assumption | exact ext_size (by assumption)⟩) ?_
 refine FJ.e (goes_list rfl) rfl (by decide) rfl (e_append1 rfl u_28 inf_9 rfl (.t (.s4 (.s .z))) (.t .z) (.c (.s (.s .z)) (.c (.s .z) (.c .z .n))) (by first | omega | (simp only [List.length_append, List.length_take, List.length_nil, List.length_cons]; omega)) (by first | omega | (simp only [List.length_append, List.length_take, List.length_nil, List.length_cons]; omega))) ?_
 rintro _ _ rfl
 refine FJ.know (WS.oform .z) ?_
 rintro ⟨Ao7, co7, rfl, hlo7, hmo7, hbo7⟩
 refine FJ.er (.s16 (.s4 (.s4 .z))) (FJ.ql rfl (q_assign rfl (.t .z)) (FJ.nil (FJ.then_ (FJ.region ?_))))
 refine FJ.ql rfl (q_move rfl (.t (.s16 (.s4 (.s (.s (.s .z))))))) ?_
 refine FJ.ql rfl (q_add (c := ((k + 1 : Nat) : Int)) rfl (.t .z) .c (wr (by omega) (by omega) (by omega))) ?_
 refine FJ.er (.s16 (.s4 (.s4 (.s (.s .z))))) (FJ.ql rfl (q_assign rfl (.t .z)) (FJ.nil (FJ.inBN (FJ.then_ ?_))))
 refine FJ.region (FJ.ql rfl (q_move rfl (.t (.s16 (.s4 (.s4 (.s (.s .z))))))) ?_)
 refine FJ.ql rfl (q_add (c := ((k + 1 : Nat) : Int)) rfl (.t .z) .c (wr (by omega) (by omega) (by omega))) ?_
 refine FJ.er (.s16 (.s4 (.s4 (.s4 .z)))) (FJ.ql rfl (q_assign rfl (.t .z)) (FJ.nil ?_))
 refine FJ.again ((k + 1), Ao7, co7, k + 1, o ++ [ByteArray.extract s m k]) ⟨by omega, (by first | exact ⟨fun h => absurd h (by omega), fun _ => CI_end (hI (by omega)) (by omega), by omega, by simp only [List.length_append, List.length_cons, List.length_nil]; omega⟩)⟩ (by first | omega | (dsimp only; omega)) (.c .z (.c (.s (.s (.s .z))) (.c (.s4 (.s (.s .z))) (.c (.s16 (.s4 (.s4 (.s4 (.s .z))))) (.c (.s16 (.s4 (.s4 (.s4 (.s (.s .z)))))) (.c (.s16 (.s4 (.s4 (.s4 (.s (.s (.s .z))))))) .n)))))) (fun _ h => h.sel (.c .z (.c .z .n)))
 refine FJ.q (goes_listg rfl rfl .z) rfl (by decide) rfl (q_move rfl (.t (.s4 (.s4 (.s4 (.s .z)))))) ?_
 refine FJ.q (goes_listg rfl rfl (.s .z)) rfl (by decide) rfl (q_move rfl (.t (.s4 (.s4 (.s (.s .z)))))) ?_
 obtain ⟨b8, hb8⟩ := get_ex (xs := s.data.toList) (j := k) (by have := str_len s; omega)
 refine FJ.q (goes_listg rfl rfl (.s (.s .z))) rfl (by decide) rfl (q_index_s rfl u_9 (.t (.s .z)) (.t .z) rfl hb8) ?_
 refine FJ.q (goes_listg rfl rfl (.s (.s (.s .z)))) rfl (by decide) rfl (q_move rfl (.t (.s16 (.s .z)))) ?_
 refine FJ.q (goes_listg rfl rfl (.s4 .z)) rfl (by decide) rfl (q_eql rfl (.t (.s .z)) (.t .z)) ?_
 refine FJ.ql rfl (q_pickF rfl (.t (.s4 (.s .z))) (.t .z)) (FJ.nil (FJ.then_ ?_))
 refine FJ.condP (.t .z) (fun b9 => ?_) (fun b9 => ?_)
 refine FJ.seq (FJ.region (FJ.ql rfl (q_move rfl (.t (.s16 (.s .z)))) (FJ.ql rfl (q_move rfl (.t (.s16 (.s4 .z)))) (FJ.ql rfl (q_move rfl (.t (.s16 (.s (.s .z))))) ?_))))
 refine FJ.ql rfl (q_move rfl (.t (.s16 (.s (.s .z))))) ?_
 refine FJ.ql rfl (q_slice_s (a := m) (b := k) rfl u_9 (.t (.s (.s .z))) (.inr ⟨_, _, rfl, (.t (.s .z))⟩) (.inr ⟨_, _, rfl, (.t .z)⟩) (by omega) (by omega)) ?_
 refine FJ.e (goes_list rfl) rfl (by decide) rfl (e_buildSliceL (ps := [(0, .string (ByteArray.extract s m k))]) (cs := [.string (ByteArray.extract s m k)]) rfl u_28 (inz inf_9) (by decide) (by intro act hact; simp only [List.map_toArray, List.map_cons, List.map_nil, (show Val _ _ _ from (.t .z)) act hact]) rfl rfl (by decide) rfl rfl) ?_
 rintro _ _ ⟨g10, rfl, rfl⟩
 refine FJ.add (c := ownA kstr (ByteArray.extract s m k) [.string (ByteArray.extract s m k)]) (fun _ _ => ⟨rfl, by first | assumption | exact ext_size (by assumption)⟩) ?_
 refine FJ.e (goes_list rfl) rfl (by decide) rfl (e_append1 rfl u_28 inf_9 rfl (.t (.s4 (.s .z))) (.t .z) (.c (.s (.s .z)) (.c (.s .z) (.c .z .n))) (by first | omega | (simp only [List.length_append, List.length_take, List.length_nil, List.length_cons]; omega)) (by first | omega | (simp only [List.length_append, List.length_take, List.length_nil, List.length_cons]; omega))) ?_
 rintro _ _ rfl
 refine FJ.know (WS.oform .z) ?_
 rintro ⟨Ao12, co12, rfl, hlo12, hmo12, hbo12⟩
 refine FJ.er (.s16 (.s4 (.s4 .z))) (FJ.ql rfl (q_assign rfl (.t .z)) (FJ.nil (FJ.then_ (FJ.region ?_))))
 refine FJ.ql rfl (q_move rfl (.t (.s16 (.s4 (.s (.s (.s .z))))))) ?_
 refine FJ.ql rfl (q_add (c := ((k + 1 : Nat) : Int)) rfl (.t .z) .c (wr (by omega) (by omega) (by omega))) ?_
 refine FJ.er (.s16 (.s4 (.s4 (.s (.s .z))))) (FJ.ql rfl (q_assign rfl (.t .z)) (FJ.nil (FJ.inBN (FJ.then_ ?_))))
 refine FJ.region (FJ.ql rfl (q_move rfl (.t (.s16 (.s4 (.s4 (.s (.s .z))))))) ?_)
 refine FJ.ql rfl (q_add (c := ((k + 1 : Nat) : Int)) rfl (.t .z) .c (wr (by omega) (by omega) (by omega))) ?_
 refine FJ.er (.s16 (.s4 (.s4 (.s4 .z)))) (FJ.ql rfl (q_assign rfl (.t .z)) (FJ.nil ?_))
 refine FJ.again ((k + 1), Ao12, co12, k + 1, o ++ [ByteArray.extract s m k]) ⟨by omega, (by first | exact ⟨fun h => absurd h (by omega), fun _ => CI_end (hI (by omega)) (by omega), by omega, by simp only [List.length_append, List.length_cons, List.length_nil]; omega⟩ | exact ⟨fun _ => CI_y (hI (by omega)) hb8 (byte_47.1 (by omega)), fun h => absurd h (by omega), by omega, by simp only [List.length_append, List.length_cons, List.length_nil]; omega⟩ | exact ⟨fun _ => CI_n (hI (by omega)) hb8 (fun e => absurd (byte_47.2 e) (by omega)), fun h => absurd h (by omega), by omega, by omega⟩)⟩ (by first | omega | (dsimp only; omega)) (.c .z (.c (.s (.s (.s .z))) (.c (.s4 (.s (.s .z))) (.c (.s16 (.s4 (.s4 (.s4 (.s .z))))) (.c (.s16 (.s4 (.s4 (.s4 (.s (.s .z)))))) (.c (.s16 (.s4 (.s4 (.s4 (.s (.s (.s .z))))))) .n)))))) (fun _ h => h.sel (.c .z (.c .z .n)))
 refine FJ.skip (FJ.inBN (FJ.then_ (FJ.region (FJ.ql rfl (q_move rfl (.t (.s4 (.s4 (.s4 (.s (.s (.s .z)))))))) ?_))))
 refine FJ.ql rfl (q_add (c := ((k + 1 : Nat) : Int)) rfl (.t .z) .c (wr (by omega) (by omega) (by omega))) ?_
 refine FJ.er (.s16 (.s .z)) (FJ.ql rfl (q_assign rfl (.t .z)) (FJ.nil ?_))
 refine FJ.again ((k + 1), Agk0, cgk0, m, o) ⟨by omega, (by first | exact ⟨fun h => absurd h (by omega), fun _ => CI_end (hI (by omega)) (by omega), by omega, by simp only [List.length_append, List.length_cons, List.length_nil]; omega⟩ | exact ⟨fun _ => CI_y (hI (by omega)) hb8 (byte_47.1 (by omega)), fun h => absurd h (by omega), by omega, by simp only [List.length_append, List.length_cons, List.length_nil]; omega⟩ | exact ⟨fun _ => CI_n (hI (by omega)) hb8 (fun e => absurd (byte_47.2 e) (by omega)), fun h => absurd h (by omega), by omega, by omega⟩)⟩ (by first | omega | (dsimp only; omega)) (.c .z (.c (.s16 (.s (.s .z))) (.c (.s16 (.s (.s (.s .z)))) (.c (.s16 (.s4 .z)) (.c (.s16 (.s4 (.s .z))) (.c (.s16 (.s4 (.s (.s .z)))) .n)))))) (fun _ h => h.sel (.c .z (.c .z .n)))
 refine FJ.exit (FJ.thenE (FJ.thenE (FJ.inB (FJ.then_ ?_))))
 refine FJ.seq (FJ.region (FJ.ql rfl (q_move rfl (.t (.s4 (.s (.s .z))))) (FJ.er (.s4 (.s4 .z)) (FJ.ql rfl (q_assign rfl (.t .z)) ?_))))
 refine FJ.nil (FJ.then_ (FJ.ret ?_))
 refine FJ.doneS (res1 rfl .z) (.c .z .n) ?_
 rw [← hE (by omega)]

set_option maxHeartbeats 1000000 in
set_option maxRecDepth 20000 in
theorem c_26 {w0 : World} {S0 : Bs} (s : ByteArray) (hz0 : s.size ≤ 140737488351232)  :
    Calls Tryd.prog 26 #[.string s] w0 (TriPost w0 S0 (fun r l => ∃ v : Value, r = .tuple #[v, .int .i64 (splitC s)] ∧ l = [ownA kSl_9 (splitN s) [v]])) := by
 refine FJ.enter (N := 37) Tryd.func26 rfl rfl (by simp) [(0, .string s)] (by simp) (l0 := []) trivial ?_
 refine FJ.seq (FJ.region (FJ.ql rfl (q_assign rfl .c) (FJ.ql rfl (q_assign rfl .c) (FJ.nil ?_))))
 refine FJ.then_ (FJ.seq (FJ.seq (FJ.region (FJ.ql rfl (q_move rfl (.t (.s (.s .z)))) ?_))))
 refine FJ.ql rfl (q_len_s rfl u_9 (.t .z)) (FJ.ql rfl (q_gtr rfl (.t .z) .c) (FJ.nil (FJ.then_ ?_)))
 refine FJ.condP (.t .z) (fun b1 => ?_) (fun b1 => ?_)
 refine FJ.seq (FJ.region (FJ.er (.s4 .z) (FJ.ql rfl (q_assign rfl .c) (FJ.er (.s4 .z) ?_))))
 refine FJ.ql rfl (q_assign rfl .c) (FJ.nil (FJ.then_ (FJ.ret (FJ.thenR ?_))))
 refine FJ.add (c := ownA kSl_9 [] [.slice none 0 0]) (fun w S => own_nil w S none) ?_
 refine FJ.doneS (res2 rfl (.s .z) .z) (.c .z .n) ?_
 have hh := split_2 (s := s) (by omega); rw [hh.1, hh.2]; exact ⟨_, rfl, rfl⟩
 refine FJ.skip (FJ.then_ (FJ.seq (FJ.seq (FJ.region ?_))))
 refine FJ.ql rfl (q_move rfl (.t (.s4 (.s .z)))) (FJ.ql rfl (q_seql rfl (.t .z) .c) (FJ.nil (FJ.then_ ?_)))
 refine FJ.condP (.t .z) (fun b3 => ?_) (fun b3 => ?_)
 refine FJ.seq (FJ.region ?_)
 refine FJ.e (goes_list rfl) rfl (by decide) rfl (e_buildNil rfl u_28 (inz inf_9)) ?_
 rintro _ _ ⟨g4, rfl, rfl⟩
 refine FJ.er (.s4 (.s (.s (.s .z)))) (FJ.ql rfl (q_assign rfl (.t .z)) (FJ.er (.s4 (.s (.s (.s .z)))) (FJ.ql rfl (q_assign rfl .c) (FJ.nil ?_))))
 refine FJ.then_ (FJ.ret (FJ.thenR ?_))
 refine FJ.add (c := ownA kSl_9 ([] : (List ByteArray)) [.slice (some ⟨g4, 0, none⟩) 0 0]) (fun w S => own_nil w S _) ?_
 refine FJ.doneS (res2 rfl (.s .z) .z) (.c .z .n) ?_
 have hh := split_r (s := s) (by omega) (by assumption); rw [hh.1, hh.2]; exact ⟨_, rfl, rfl⟩
 refine FJ.skip (FJ.then_ (FJ.seq (FJ.seq (FJ.region ?_))))
 refine FJ.ql rfl (q_move rfl (.t (.s4 (.s (.s (.s .z)))))) (FJ.ql rfl (q_len_s rfl u_9 (.t .z)) (FJ.ql rfl (q_eql rfl (.t .z) .c) (FJ.ql rfl (q_move rfl (.t .z)) ?_)))
 refine FJ.caseP .z (fun g6 => ?_) (fun g6 => ?_)
 refine FJ.skipl rfl rfl .z rfl rfl (by decide) rfl ?_
 refine FJ.skipl rfl rfl (.s .z) rfl rfl (by decide) rfl ?_
 refine FJ.skipl rfl rfl (.s (.s .z)) rfl rfl (by decide) rfl ?_
 refine FJ.ql rfl (q_pickT rfl (.t (.s (.s (.s .z)))) .c) (FJ.ql rfl (q_move rfl (.t .z)) ?_)
 refine FJ.skipl rfl rfl .z rfl rfl (by decide) rfl ?_
 refine FJ.skipl rfl rfl (.s .z) rfl rfl (by decide) rfl ?_
 refine FJ.skipl rfl rfl (.s (.s .z)) rfl rfl (by decide) rfl ?_
 refine FJ.skipl rfl rfl (.s (.s (.s .z))) rfl rfl (by decide) rfl ?_
 refine FJ.skipl rfl rfl (.s4 .z) rfl rfl (by decide) rfl ?_
 refine FJ.skipl rfl rfl (.s4 (.s .z)) rfl rfl (by decide) rfl ?_
 refine FJ.ql rfl (q_pickT rfl (.t (.s4 (.s (.s .z)))) .c) (FJ.nil (FJ.then_ ?_))
 refine FJ.condT (.t .z) ?_
 refine FJ.seq (FJ.region (FJ.er (.s16 (.s4 (.s (.s .z)))) (FJ.ql rfl (q_assign rfl .c) (FJ.er (.s16 (.s4 (.s (.s .z)))) ?_))))
 refine FJ.ql rfl (q_assign rfl .c) (FJ.nil (FJ.then_ (FJ.ret (FJ.thenR ?_))))
 refine FJ.add (c := ownA kSl_9 [] [.slice none 0 0]) (fun w S => own_nil w S none) ?_
 refine FJ.doneS (res2 rfl (.s .z) .z) (.c .z .n) ?_
 have hh := split_5 (s := s) (by omega) (by assumption) (by first | exact bad_e (by omega) | exact .inl (by assumption) | exact .inr (by assumption)); rw [hh.1, hh.2]; exact ⟨_, rfl, rfl⟩
 refine FJ.q (goes_listg rfl rfl .z) rfl (by decide) rfl (q_move rfl (.t (.s4 (.s4 (.s (.s (.s .z))))))) ?_
 obtain ⟨b8, hb8⟩ := get_ex (xs := s.data.toList) (j := 0) (by have := str_len s; omega)
 refine FJ.q (goes_listg rfl rfl (.s .z)) rfl (by decide) rfl (q_index_s rfl u_9 (.t .z) .c rfl hb8) ?_
 refine FJ.q (goes_listg rfl rfl (.s (.s .z))) rfl (by decide) rfl (q_neq rfl (.t .z) .c) ?_
 refine FJ.ql rfl (q_pickF rfl (.t (.s (.s (.s .z)))) (.t .z)) (FJ.ql rfl (q_move rfl (.t .z)) ?_)
 refine FJ.caseN .z (fun g9 => ?_) (fun g9 => ?_)
 refine FJ.skipl rfl rfl .z rfl rfl (by decide) rfl ?_
 refine FJ.skipl rfl rfl (.s .z) rfl rfl (by decide) rfl ?_
 refine FJ.skipl rfl rfl (.s (.s .z)) rfl rfl (by decide) rfl ?_
 refine FJ.skipl rfl rfl (.s (.s (.s .z))) rfl rfl (by decide) rfl ?_
 refine FJ.skipl rfl rfl (.s4 .z) rfl rfl (by decide) rfl ?_
 refine FJ.skipl rfl rfl (.s4 (.s .z)) rfl rfl (by decide) rfl ?_
 refine FJ.ql rfl (q_pickT rfl (.t (.s4 (.s (.s .z)))) .c) (FJ.nil (FJ.then_ ?_))
 refine FJ.condT (.t .z) ?_
 refine FJ.seq (FJ.region (FJ.er (.s16 (.s4 (.s (.s .z)))) (FJ.ql rfl (q_assign rfl .c) (FJ.er (.s16 (.s4 (.s (.s .z)))) ?_))))
 refine FJ.ql rfl (q_assign rfl .c) (FJ.nil (FJ.then_ (FJ.ret (FJ.thenR ?_))))
 refine FJ.add (c := ownA kSl_9 [] [.slice none 0 0]) (fun w S => own_nil w S none) ?_
 refine FJ.doneS (res2 rfl (.s .z) .z) (.c .z .n) ?_
 have hh := split_5 (s := s) (by omega) (by assumption) (by first | exact bad_e (by omega) | exact .inl (by assumption) | exact .inr (by assumption) | exact bad_f hb8 (by omega)); rw [hh.1, hh.2]; exact ⟨_, rfl, rfl⟩
 refine FJ.q (goes_listg rfl rfl .z) rfl (by decide) rfl (q_move rfl (.t (.s16 .z))) ?_
 refine FJ.q (goes_listg rfl rfl (.s .z)) rfl (by decide) rfl (q_move rfl (.t (.s16 (.s .z)))) ?_
 refine FJ.q (goes_listg rfl rfl (.s (.s .z))) rfl (by decide) rfl (q_len_s rfl u_9 (.t .z)) ?_
 refine FJ.q (goes_listg rfl rfl (.s (.s (.s .z)))) rfl (by decide) rfl (q_sub (c := (s.size : Int) - 1) rfl (.t .z) .c (wr (by omega) (by omega) (by omega))) ?_
 obtain ⟨b11, hb11⟩ := get_ex (xs := s.data.toList) (j := Int.toNat ((s.size : Int) - 1)) (by have := str_len s; omega)
 refine FJ.q (goes_listg rfl rfl (.s4 .z)) rfl (by decide) rfl (q_index_s rfl u_9 (.t (.s (.s (.s .z)))) (.t .z) (by omega) hb11) ?_
 refine FJ.q (goes_listg rfl rfl (.s4 (.s .z))) rfl (by decide) rfl (q_eql rfl (.t .z) .c) ?_
 refine FJ.ql rfl (q_pickF rfl (.t (.s4 (.s (.s .z)))) (.t .z)) (FJ.nil (FJ.then_ ?_))
 refine FJ.condP (.t .z) (fun b12 => ?_) (fun b12 => ?_)
 refine FJ.seq (FJ.region (FJ.er (.s16 (.s4 (.s (.s .z)))) (FJ.ql rfl (q_assign rfl .c) (FJ.er (.s16 (.s4 (.s (.s .z)))) ?_))))
 refine FJ.ql rfl (q_assign rfl .c) (FJ.nil (FJ.then_ (FJ.ret (FJ.thenR ?_))))
 refine FJ.add (c := ownA kSl_9 [] [.slice none 0 0]) (fun w S => own_nil w S none) ?_
 refine FJ.doneS (res2 rfl (.s .z) .z) (.c .z .n) ?_
 have hh := split_5 (s := s) (by omega) (by assumption) (by first | exact bad_e (by omega) | exact .inl (by assumption) | exact .inr (by assumption) | exact bad_f hb8 (by omega) | exact bad_l hb11 (by omega) (by omega)); rw [hh.1, hh.2]; exact ⟨_, rfl, rfl⟩
 refine FJ.skip (FJ.then_ (FJ.seq (FJ.region (FJ.ql rfl (q_move rfl (.t (.s16 (.s4 (.s (.s (.s .z))))))) ?_))))
 refine FJ.ql rfl (q_slice_s (a := 1) (b := s.size) rfl u_9 (.t .z) (.inr ⟨_, _, rfl, .c⟩) (.inl ⟨rfl, rfl⟩) (by omega) (by omega)) ?_
 refine FJ.call (goes_list rfl) rfl (by decide) rfl (c_call rfl Tryd.func39 rfl rfl (args2 (.t .z) .c)) .n (fun w1 S1 hs tr => c_39 _ (by rw [ByteArray.size_extract]; omega) _ (by first | rfl | decide) (by first | omega | (rw [ByteArray.size_extract]; omega))) ?_
 rintro _ _ rfl
 refine FJ.cat (.c .n) ?_
 refine FJ.know (WS.oform .z) ?_
 rintro ⟨Ao15, co15, rfl, hlo15, hmo15, hbo15⟩
 refine FJ.ql rfl (q_assign rfl (.t .z)) (FJ.nil (FJ.then_ (FJ.seq (FJ.seq ?_))))
 refine FJ.region (FJ.ql rfl (q_move rfl (.t .z)) ?_)
 refine FJ.call (goes_list rfl) rfl (by decide) rfl (c_call rfl Tryd.func40 rfl rfl (args1 (.t .z))) .n (fun w1 S1 hs tr => c_40 (tr.own .z)) ?_
 rintro _ _ ⟨rfl, rfl⟩
 refine FJ.cat .n ?_
 refine FJ.ql rfl (q_assign rfl (.t .z)) (FJ.nil (FJ.then_ (FJ.seq (FJ.region ?_))))
 refine FJ.ql rfl (q_move rfl (.t .z)) (FJ.ql rfl (q_neq rfl (.t .z) .c) (FJ.nil (FJ.then_ ?_)))
 refine FJ.condN (.t .z) (fun b16 => ?_) (fun b16 => ?_)
 refine FJ.seq (FJ.region (FJ.ql rfl (q_move rfl (.t (.s (.s .z)))) (FJ.er (.s16 (.s16 .z)) (FJ.ql rfl (q_assign rfl .c) ?_))))
 refine FJ.er (.s16 (.s16 .z)) (FJ.ql rfl (q_assign rfl (.t (.s .z))) (FJ.nil (FJ.then_ (FJ.ret ?_))))
 refine FJ.thenR ?_
 refine FJ.add (c := ownA kSl_9 [] [.slice none 0 0]) (fun w S => own_nil w S none) ?_
 refine FJ.doneS (res2 rfl (.s .z) .z) (.c .z .n) ?_
 have hh := split_c (s := s) (by omega) (by assumption) (by first | exact nbad2 (by assumption) (by assumption) | exact nbad hb8 (by omega) hb11 (by omega) (by omega)) (by assumption); rw [hh.1, hh.2]; exact ⟨_, rfl, rfl⟩
 refine FJ.skip (FJ.then_ (FJ.seq (FJ.region (FJ.ql rfl (q_move rfl (.t (.s4 (.s .z)))) ?_))))
 refine FJ.er (.s16 (.s16 .z)) (FJ.ql rfl (q_assign rfl (.t .z)) (FJ.er (.s16 (.s16 .z)) (FJ.ql rfl (q_assign rfl .c) (FJ.nil ?_))))
 refine FJ.then_ (FJ.ret ?_)
 refine FJ.doneS (res2 rfl (.s .z) .z) (.c .z .n) ?_
 have hh := split_0 (s := s) (by omega) (by assumption) (by first | exact nbad2 (by assumption) (by assumption) | exact nbad hb8 (by omega) hb11 (by omega) (by omega)) (by first | assumption | omega); rw [hh.1, hh.2]; exact ⟨_, rfl, rfl⟩

set_option maxHeartbeats 1000000 in
set_option maxRecDepth 20000 in
theorem c_27 {w0 : World} {S0 : Bs} (s : ByteArray) (hz0 : s.size ≤ 140737488351232) (hG : MaxL gmax w0 (FF w0 S0)) :
    Calls Tryd.prog 27 #[.string s] w0 (TriPost w0 S0 (fun r l => ∃ v : Value, r = .tuple #[v, .int .i64 (splitC s)] ∧ l = [ownA kSl_9 (splitN s) [v]])) := by
 refine FJ.enter (N := 39) Tryd.func27 rfl rfl (by simp) [(0, .string s)] (by simp) (l0 := []) trivial ?_
 refine FJ.seq (FJ.region (FJ.ql rfl (q_assign rfl .c) (FJ.ql rfl (q_assign rfl .c) (FJ.nil ?_))))
 refine FJ.then_ (FJ.seq (FJ.seq (FJ.region (FJ.ql rfl (q_move rfl (.t (.s (.s .z)))) ?_))))
 refine FJ.ql rfl (q_len_s rfl u_9 (.t .z)) (FJ.ql rfl (q_gtr rfl (.t .z) .c) (FJ.nil (FJ.then_ ?_)))
 refine FJ.condP (.t .z) (fun b1 => ?_) (fun b1 => ?_)
 refine FJ.seq (FJ.region (FJ.er (.s4 .z) (FJ.ql rfl (q_assign rfl .c) (FJ.er (.s4 .z) ?_))))
 refine FJ.ql rfl (q_assign rfl .c) (FJ.nil (FJ.then_ (FJ.ret (FJ.thenR ?_))))
 refine FJ.add (c := ownA kSl_9 [] [.slice none 0 0]) (fun w S => own_nil w S none) ?_
 refine FJ.doneS (res2 rfl (.s .z) .z) (.c .z .n) ?_
 have hh := split_2 (s := s) (by omega); rw [hh.1, hh.2]; exact ⟨_, rfl, rfl⟩
 refine FJ.skip (FJ.then_ (FJ.seq (FJ.seq (FJ.region ?_))))
 refine FJ.ql rfl (q_move rfl (.t (.s4 (.s .z)))) (FJ.ql rfl (q_seql rfl (.t .z) .c) (FJ.nil (FJ.then_ ?_)))
 refine FJ.condP (.t .z) (fun b3 => ?_) (fun b3 => ?_)
 refine FJ.seq (FJ.region (FJ.er (.s4 (.s (.s .z))) (FJ.ql rfl (q_assign rfl .c) (FJ.er (.s4 (.s (.s .z))) ?_))))
 refine FJ.ql rfl (q_assign rfl .c) (FJ.nil (FJ.then_ (FJ.ret (FJ.thenR ?_))))
 refine FJ.add (c := ownA kSl_9 [] [.slice none 0 0]) (fun w S => own_nil w S none) ?_
 refine FJ.doneS (res2 rfl (.s .z) .z) (.c .z .n) ?_
 have hh := split_r (s := s) (by omega) (by assumption); rw [hh.1, hh.2]; exact ⟨_, rfl, rfl⟩
 refine FJ.skip (FJ.then_ (FJ.seq (FJ.seq (FJ.region ?_))))
 refine FJ.ql rfl (q_move rfl (.t (.s4 (.s (.s (.s .z)))))) ?_
 refine FJ.call (goes_list rfl) rfl (by decide) rfl (c_call rfl Tryd.func41 rfl rfl (args2 (.t .z) .c)) .n (fun w1 S1 hs tr => c_41 _ (by first | assumption | (have := cutB_size (List.mem_of_getElem? (by assumption)); rw [ByteArray.size_extract] at this; omega))) ?_
 rintro _ _ ⟨rfl, rfl⟩
 refine FJ.cat .n ?_
 refine FJ.ql rfl (q_not rfl (.t .z)) (FJ.ql rfl (q_move rfl (.t .z)) ?_)
 refine FJ.caseN .z (fun g5 => ?_) (fun g5 => ?_)
 refine FJ.skipl rfl rfl .z rfl rfl (by decide) rfl ?_
 refine FJ.skipl rfl rfl (.s .z) rfl rfl (by decide) rfl ?_
 refine FJ.ql rfl (q_pickT rfl (.t (.s (.s .z))) .c) (FJ.nil (FJ.then_ ?_))
 refine FJ.condT (.t .z) ?_
 refine FJ.seq (FJ.region (FJ.er (.s4 (.s4 (.s4 (.s .z)))) (FJ.ql rfl (q_assign rfl .c) (FJ.er (.s4 (.s4 (.s4 (.s .z)))) ?_))))
 refine FJ.ql rfl (q_assign rfl .c) (FJ.nil (FJ.then_ (FJ.ret (FJ.thenR ?_))))
 refine FJ.add (c := ownA kSl_9 [] [.slice none 0 0]) (fun w S => own_nil w S none) ?_
 refine FJ.doneS (res2 rfl (.s .z) .z) (.c .z .n) ?_
 have hh := split_5 (s := s) (by omega) (by assumption) (by first | exact bad_e (by omega) | exact .inl (by assumption) | exact .inr (by assumption)); rw [hh.1, hh.2]; exact ⟨_, rfl, rfl⟩
 have hs0 := size_0 g5
 refine FJ.q (goes_listg rfl rfl .z) rfl (by decide) rfl (q_move rfl (.t (.s4 (.s4 (.s (.s (.s .z))))))) ?_
 refine FJ.call (goes_listg rfl rfl (.s .z)) rfl (by decide) rfl (c_call rfl Tryd.func42 rfl rfl (args2 (.t .z) .c)) .n (fun w1 S1 hs tr => c_42 _ (by first | assumption | (have := cutB_size (List.mem_of_getElem? (by assumption)); rw [ByteArray.size_extract] at this; omega))) ?_
 rintro _ _ ⟨rfl, rfl⟩
 refine FJ.cat .n ?_
 refine FJ.ql rfl (q_pickF rfl (.t (.s (.s .z))) (.t .z)) (FJ.nil (FJ.then_ ?_))
 refine FJ.condP (.t .z) (fun b7 => ?_) (fun b7 => ?_)
 refine FJ.seq (FJ.region (FJ.er (.s4 (.s4 (.s4 (.s .z)))) (FJ.ql rfl (q_assign rfl .c) (FJ.er (.s4 (.s4 (.s4 (.s .z)))) ?_))))
 refine FJ.ql rfl (q_assign rfl .c) (FJ.nil (FJ.then_ (FJ.ret (FJ.thenR ?_))))
 refine FJ.add (c := ownA kSl_9 [] [.slice none 0 0]) (fun w S => own_nil w S none) ?_
 refine FJ.doneS (res2 rfl (.s .z) .z) (.c .z .n) ?_
 have hh := split_5 (s := s) (by omega) (by assumption) (by first | exact bad_e (by omega) | exact .inl (by assumption) | exact .inr (by assumption)); rw [hh.1, hh.2]; exact ⟨_, rfl, rfl⟩
 refine FJ.skip (FJ.then_ (FJ.seq (FJ.region (FJ.ql rfl (q_move rfl (.t (.s4 (.s4 (.s4 (.s (.s .z))))))) ?_))))
 refine FJ.ql rfl (q_slice_s (a := 1) (b := s.size) rfl u_9 (.t .z) (.inr ⟨_, _, rfl, .c⟩) (.inl ⟨rfl, rfl⟩) (by omega) (by omega)) ?_
 refine FJ.call (goes_list rfl) rfl (by decide) rfl (c_call rfl Tryd.func43 rfl rfl (args2 (.t .z) .c)) .n (fun w1 S1 hs tr => c_43 _ (by rw [ByteArray.size_extract]; omega) (MaxL.tr tr hG)) ?_
 rintro _ _ rfl
 refine FJ.cat (.c .n) ?_
 refine FJ.know (WS.oform .z) ?_
 rintro ⟨Ao10, co10, rfl, hlo10, hmo10, hbo10⟩
 refine FJ.ql rfl (q_assign rfl (.t .z)) (FJ.nil (FJ.then_ (FJ.seq (FJ.seq ?_))))
 refine FJ.region (FJ.ql rfl (q_move rfl (.t .z)) (FJ.ql rfl (q_len rfl u_28 (.t .z)) (FJ.ql rfl (q_gtr rfl (.t .z) .c) (FJ.nil ?_))))
 refine FJ.then_ ?_
 refine FJ.condP (.t .z) (fun b11 => ?_) (fun b11 => ?_)
 refine FJ.seq (FJ.region (FJ.er (.s16 (.s4 .z)) (FJ.ql rfl (q_assign rfl .c) (FJ.er (.s16 (.s4 .z)) ?_))))
 refine FJ.ql rfl (q_assign rfl .c) (FJ.nil (FJ.then_ (FJ.ret (FJ.thenR ?_))))
 refine FJ.add (c := ownA kSl_9 [] [.slice none 0 0]) (fun w S => own_nil w S none) ?_
 refine FJ.doneS (res2 rfl (.s .z) .z) (.c .z .n) ?_
 have hnc := namesC_2 (xs := cutB (ByteArray.extract s 1 s.size)) (by omega); have hh := split_c (s := s) (by omega) (by assumption) (by first | exact nbad2 (by assumption) (by assumption)) (by rw [hnc]; decide); rw [hnc] at hh; rw [hh.1, hh.2]; exact ⟨_, rfl, rfl⟩
 refine FJ.skip (FJ.then_ (FJ.seq (FJ.seq (FJ.region ?_))))
 refine FJ.ql rfl (q_move rfl (.t (.s (.s (.s .z))))) (FJ.ql rfl (q_len rfl u_28 (.t .z)) (FJ.ql rfl (q_move rfl .c) (FJ.nil (FJ.then_ ?_))))
 refine FJ.block ?_
 refine FJ.loopi (γ := Nat) (fun k => [(28, .int .i64 (k : Int)), (27, .int .i64 ((cutB (ByteArray.extract s 1 s.size)).length : Int)), (26, .slice Ao10 (cutB (ByteArray.extract s 1 s.size)).length co10), (4, .slice Ao10 (cutB (ByteArray.extract s 1 s.size)).length co10)]) (fun k => [ownA kSl_9 (cutB (ByteArray.extract s 1 s.size)) [.slice Ao10 (cutB (ByteArray.extract s 1 s.size)).length co10]]) (fun k => k ≤ (cutB (ByteArray.extract s 1 s.size)).length ∧ ∀ (j : Nat) (s_ : ByteArray), j < k → (cutB (ByteArray.extract s 1 s.size))[j]? = some s_ → nameFault s_ = 0) (fun k => (cutB (ByteArray.extract s 1 s.size)).length - k) 0 ⟨Nat.zero_le _, all_zero (q := fun _ (s : ByteArray) => nameFault s = 0)⟩ (.c .z (.c (.s .z) (.c (.s (.s .z)) (.c (.s4 (.s (.s .z))) .n)))) (fun _ h => h.sel (.c .z .n)) ?_
 rintro k ⟨hk, hallk⟩
 refine FJ.seq (FJ.region (FJ.ql rfl (q_lss rfl (.t .z) (.t (.s .z))) (FJ.nil (FJ.then_ ?_))))
 refine FJ.seq ?_
 refine FJ.condP (.t .z) (fun b13 => ?_) (fun b13 => ?_)
 refine FJ.skip (FJ.then_ (FJ.seq (FJ.block (FJ.seq ?_))))
 refine FJ.region ?_
 refine FJ.know (WS.oad .z (by omega)) ?_
 rintro ⟨ad14, rfl⟩
 refine FJ.ql rfl (q_indexAddr (j := k) rfl u_28 sz_9 (.t (.s (.s (.s .z)))) (.t (.s .z)) rfl (by omega)) ?_
 obtain ⟨x15, hx15⟩ := get_ex (xs := cutB (ByteArray.extract s 1 s.size)) (j := k) (by omega)
 refine FJ.ql rfl (q_load rfl ag_9 (.t .z) (WS.oel .z hx15)) (FJ.ql rfl (q_assign rfl (.t .z)) (FJ.nil (FJ.then_ (FJ.seq ?_))))
 refine FJ.region (FJ.ql rfl (q_move rfl (.t .z)) ?_)
 refine FJ.call (goes_list rfl) rfl (by decide) rfl (c_call rfl Tryd.func37 rfl rfl (args1 (.t .z))) .n (fun w1 S1 hs tr => c_37 _ (by first | assumption | (have := cutB_size (List.mem_of_getElem? (by assumption)); rw [ByteArray.size_extract] at this; omega))) ?_
 rintro _ _ ⟨rfl, rfl⟩
 refine FJ.cat .n ?_
 refine FJ.ql rfl (q_assign rfl (.t .z)) (FJ.nil (FJ.then_ (FJ.seq (FJ.region ?_))))
 refine FJ.ql rfl (q_move rfl (.t .z)) (FJ.ql rfl (q_neq rfl (.t .z) .c) (FJ.nil (FJ.then_ ?_)))
 refine FJ.condN (.t .z) (fun b16 => ?_) (fun b16 => ?_)
 refine FJ.seq (FJ.region (FJ.ql rfl (q_move rfl (.t (.s (.s .z)))) (FJ.ql rfl (q_assign rfl .c) (FJ.ql rfl (q_assign rfl (.t (.s .z))) ?_))))
 refine FJ.nil (FJ.then_ (FJ.ret (FJ.inBR (FJ.thenR ?_))))
 refine FJ.thenR (FJ.inBR (FJ.thenR ?_))
 refine FJ.add (c := ownA kSl_9 [] [.slice none 0 0]) (fun w S => own_nil w S none) ?_
 refine FJ.doneS (res2 rfl (.s .z) .z) (.c .z .n) ?_
 have hnc := namesC_n (xs := cutB (ByteArray.extract s 1 s.size)) (by omega) hallk hx15 (by assumption); have hh := split_c (s := s) (by omega) (by assumption) (by first | exact nbad2 (by assumption) (by assumption)) (by rw [hnc]; assumption); rw [hnc] at hh; rw [hh.1, hh.2]; exact ⟨_, rfl, rfl⟩
 refine FJ.skip (FJ.inBN (FJ.then_ (FJ.region ?_)))
 refine FJ.ql rfl (q_add (c := ((k + 1 : Nat) : Int)) rfl (.t (.s4 (.s4 (.s .z)))) .c (wr (by omega) (by omega) (by omega))) ?_
 refine FJ.er (.s4 (.s4 (.s (.s .z)))) (FJ.ql rfl (q_move rfl (.t .z)) (FJ.nil ?_))
 refine FJ.again (k + 1) ⟨by omega, all_succ (q := fun _ (s : ByteArray) => nameFault s = 0) hallk hx15 (by first | assumption | omega)⟩ (by first | omega | (dsimp only; omega)) (.c .z (.c (.s4 (.s4 (.s (.s (.s .z))))) (.c (.s4 (.s4 (.s4 .z))) (.c (.s4 (.s4 (.s4 (.s .z)))) .n)))) (fun _ h => h.sel (.c .z .n))
 refine FJ.exit (FJ.thenE (FJ.thenE (FJ.inB (FJ.then_ ?_))))
 refine FJ.seq (FJ.region (FJ.ql rfl (q_move rfl (.t (.s4 .z))) (FJ.ql rfl (q_assign rfl (.t .z)) (FJ.ql rfl (q_assign rfl .c) ?_))))
 refine FJ.nil (FJ.then_ (FJ.ret ?_))
 refine FJ.doneS (res2 rfl (.s .z) .z) (.c .z .n) ?_
 have hnc := namesC_0 (xs := cutB (ByteArray.extract s 1 s.size)) (by omega) hallk (by omega); have hh := split_0 (s := s) (by omega) (by assumption) (by first | exact nbad2 (by assumption) (by assumption)) hnc; rw [hh.1, hh.2]; exact ⟨_, rfl, rfl⟩

set_option maxHeartbeats 1000000 in
set_option maxRecDepth 20000 in
theorem c_14 {w0 : World} {S0 : Bs} (s : ByteArray) (hz0 : s.size ≤ 140737488351232) (hG : MaxL gmax w0 (FF w0 S0)) :
    Calls Tryd.prog 14 #[.string s] w0 (TriPost w0 S0 (RA_30 (splitR s))) := by
 refine FJ.enter (N := 13) Tryd.func14 rfl rfl (by simp) [(0, .string s)] (by simp) (l0 := []) trivial ?_
 refine FJ.seq (FJ.region ?_)
 refine FJ.e (goes_list rfl) rfl (by decide) rfl (e_alloc rfl z_30 rfl rfl) ?_
 rintro _ _ ⟨g1, rfl, rfl⟩
 refine FJ.nil (FJ.then_ (FJ.seq (FJ.region (FJ.ql rfl (q_move rfl (.t (.s .z))) ?_))))
 refine FJ.call (goes_list rfl) rfl (by decide) rfl (c_call rfl Tryd.func27 rfl rfl (args1 (.t .z))) .n (fun w1 S1 hs tr => c_27 _ (by first | assumption | omega) (MaxL.tr tr hG)) ?_
 rintro _ _ ⟨v2, rfl, rfl⟩
 refine FJ.cat (.c .n) ?_
 refine FJ.know (WS.oform .z) ?_
 rintro ⟨Ao4, co4, rfl, hlo4, hmo4, hbo4⟩
 have hskv2 := (splitN_ok s).1
 refine FJ.ql rfl (q_move rfl (.t .z)) (FJ.ql rfl (q_extract (v := .slice Ao4 (splitN s).length co4) rfl (.t .z) rfl) (FJ.ql rfl (q_extract (v := .int .i64 (splitC s)) rfl (.t (.s .z)) rfl) (FJ.ql rfl (q_assign rfl (.t (.s .z))) (FJ.ql rfl (q_assign rfl (.t (.s .z))) ?_))))
 refine FJ.nil (FJ.then_ (FJ.seq (FJ.region (FJ.ql rfl (q_move rfl (.t .z)) ?_))))
 refine FJ.ql rfl (q_move rfl (.t (.s (.s .z)))) ?_
 refine FJ.ql rfl (q_build (ps := [(0, .int .i64 (splitC s)), (1, .slice Ao4 (splitN s).length co4)]) (cs := [.int .i64 (splitC s), .slice Ao4 (splitN s).length co4]) rfl bl_30 (by intro act hact; simp only [List.map_toArray, List.map_cons, List.map_nil, (show Val _ _ _ from (.t (.s .z))) act hact, (show Val _ _ _ from (.t .z)) act hact]) rfl) ?_
 refine FJ.es (goes_list rfl) rfl (es_store (off := 0) (cs := [.int .i64 (splitC s), .slice Ao4 (splitN s).length co4]) rfl sz_30 (.t (.s4 (.s4 (.s (.s .z))))) (.t .z) rfl (ones rfl) (.s .z) (Nat.le_of_ble_eq_true rfl) (.c .z (.c (.s .z) .n))) ?_
 refine FJ.nil (FJ.then_ (FJ.ret ?_))
 refine FJ.doneS (resC (cs := [.int .i64 (splitC s), .slice Ao4 (splitN s).length co4]) rfl (.s4 (.s4 (.s (.s .z)))) ag_30 sz_30 (WS.rows0 (cs := [.int .i64 (splitC s), .slice Ao4 (splitN s).length co4]) .z (fun _ _ h => h))) (.c (.s .z) .n) ?_
 first | (rw [show splitR s = ⟨splitC s, splitN s⟩ from rfl]; exact ⟨_, rfl, rfl⟩)

set_option maxHeartbeats 1000000 in
set_option maxRecDepth 20000 in
theorem c_13 {w0 : World} {S0 : Bs} (s : ByteArray) (hz0 : s.size ≤ 140737488351232)  :
    Calls Tryd.prog 13 #[.string s] w0 (TriPost w0 S0 (RA_30 (splitR s))) := by
 refine FJ.enter (N := 13) Tryd.func13 rfl rfl (by simp) [(0, .string s)] (by simp) (l0 := []) trivial ?_
 refine FJ.seq (FJ.region ?_)
 refine FJ.e (goes_list rfl) rfl (by decide) rfl (e_alloc rfl z_30 rfl rfl) ?_
 rintro _ _ ⟨g1, rfl, rfl⟩
 refine FJ.nil (FJ.then_ (FJ.seq (FJ.region (FJ.ql rfl (q_move rfl (.t (.s .z))) ?_))))
 refine FJ.call (goes_list rfl) rfl (by decide) rfl (c_call rfl Tryd.func26 rfl rfl (args1 (.t .z))) .n (fun w1 S1 hs tr => c_26 _ (by first | assumption | omega)) ?_
 rintro _ _ ⟨v2, rfl, rfl⟩
 refine FJ.cat (.c .n) ?_
 refine FJ.know (WS.oform .z) ?_
 rintro ⟨Ao4, co4, rfl, hlo4, hmo4, hbo4⟩
 have hskv2 := (splitN_ok s).1
 refine FJ.ql rfl (q_move rfl (.t .z)) (FJ.ql rfl (q_extract (v := .slice Ao4 (splitN s).length co4) rfl (.t .z) rfl) (FJ.ql rfl (q_extract (v := .int .i64 (splitC s)) rfl (.t (.s .z)) rfl) (FJ.ql rfl (q_assign rfl (.t (.s .z))) (FJ.ql rfl (q_assign rfl (.t (.s .z))) ?_))))
 refine FJ.nil (FJ.then_ (FJ.seq (FJ.region (FJ.ql rfl (q_move rfl (.t .z)) ?_))))
 refine FJ.ql rfl (q_move rfl (.t (.s (.s .z)))) ?_
 refine FJ.ql rfl (q_build (ps := [(0, .int .i64 (splitC s)), (1, .slice Ao4 (splitN s).length co4)]) (cs := [.int .i64 (splitC s), .slice Ao4 (splitN s).length co4]) rfl bl_30 (by intro act hact; simp only [List.map_toArray, List.map_cons, List.map_nil, (show Val _ _ _ from (.t (.s .z))) act hact, (show Val _ _ _ from (.t .z)) act hact]) rfl) ?_
 refine FJ.es (goes_list rfl) rfl (es_store (off := 0) (cs := [.int .i64 (splitC s), .slice Ao4 (splitN s).length co4]) rfl sz_30 (.t (.s4 (.s4 (.s (.s .z))))) (.t .z) rfl (ones rfl) (.s .z) (Nat.le_of_ble_eq_true rfl) (.c .z (.c (.s .z) .n))) ?_
 refine FJ.nil (FJ.then_ (FJ.ret ?_))
 refine FJ.doneS (resC (cs := [.int .i64 (splitC s), .slice Ao4 (splitN s).length co4]) rfl (.s4 (.s4 (.s (.s .z)))) ag_30 sz_30 (WS.rows0 (cs := [.int .i64 (splitC s), .slice Ao4 (splitN s).length co4]) .z (fun _ _ h => h))) (.c (.s .z) .n) ?_
 first | (rw [show splitR s = ⟨splitC s, splitN s⟩ from rfl]; exact ⟨_, rfl, rfl⟩)

end Go.Proofs.YtbfcpfmhmhklnaaDoor

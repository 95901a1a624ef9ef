/- What is proved: contracts of functions, one a function. No condition. -/
import Derived.Test.YtbfcpfmhmhklnaaDoorW61
import Derived.Test.YtbfcpfmhmhklnaaDoorBase1
import Derived.Test.YtbfcpfmhmhklnaaDoorBase2
namespace Go.Proofs.YtbfcpfmhmhklnaaDoor
open Go Go.RowKit
set_option linter.unusedVariables false
set_option linter.unusedSimpArgs false
set_option maxHeartbeats 1000000 in
set_option maxRecDepth 20000 in
theorem c_19 {w0 : World} {S0 : Bs} (s : ByteArray) (hz0 : s.size ≤ 140737488351232) (hG : MaxL gmax w0 (FF w0 S0)) :
    Calls Tryd.prog 19 #[.string s] w0 (TriPost w0 S0 (RA_24 (parentR s))) := by
 refine FJ.enter (N := 27) Tryd.func19 rfl rfl (by simp) [(0, .string s)] (by simp) (l0 := []) trivial ?_
 refine FJ.seq (FJ.region ?_)
 refine FJ.e (goes_list rfl) rfl (by decide) rfl (e_alloc rfl z_24 rfl rfl) ?_
 rintro _ _ ⟨g1, rfl, rfl⟩
 refine FJ.nil (FJ.then_ (FJ.seq (FJ.region (FJ.ql rfl (q_move rfl (.t (.s .z))) ?_))))
 refine FJ.call (goes_list rfl) rfl (by decide) rfl (c_call rfl Tryd.func27 rfl rfl (args1 (.t .z))) .n (fun w1 S1 hs tr => c_27 _ (by first | assumption | omega) (MaxL.tr tr hG)) ?_
 rintro _ _ ⟨v2, rfl, rfl⟩
 refine FJ.cat (.c .n) ?_
 refine FJ.know (WS.oform .z) ?_
 rintro ⟨Ao4, co4, rfl, hlo4, hmo4, hbo4⟩
 have hskv2 := (splitN_ok s).1
 refine FJ.ql rfl (q_move rfl (.t .z)) (FJ.ql rfl (q_extract (v := .slice Ao4 (splitN s).length co4) rfl (.t .z) rfl) (FJ.ql rfl (q_extract (v := .int .i64 (splitC s)) rfl (.t (.s .z)) rfl) (FJ.ql rfl (q_assign rfl (.t (.s .z))) (FJ.ql rfl (q_assign rfl (.t (.s .z))) ?_))))
 refine FJ.nil (FJ.then_ (FJ.seq (FJ.block (FJ.seq ?_))))
 refine FJ.region (FJ.ql rfl (q_move rfl (.t .z)) (FJ.ql rfl (q_neq rfl (.t .z) .c) (FJ.ql rfl (q_assign rfl (.t .z)) (FJ.nil ?_))))
 refine FJ.then_ ?_
 refine FJ.condN (.t .z) (fun b5 => ?_) (fun b5 => ?_)
 refine FJ.seq (FJ.region (FJ.ql rfl (q_move rfl (.t (.s (.s (.s .z))))) ?_))
 refine FJ.ql rfl (q_build (ps := [(0, .int .i64 (splitC s))]) (cs := [.int .i64 (splitC s), .string (⟨#[]⟩)]) rfl bl_24 (by intro act hact; simp only [List.map_toArray, List.map_cons, List.map_nil, (show Val _ _ _ from (.t .z)) act hact]) rfl) ?_
 refine FJ.es (goes_list rfl) rfl (es_store (off := 0) (cs := [.int .i64 (splitC s), .string (⟨#[]⟩)]) rfl sz_24 (.t (.s4 (.s4 (.s4 .z)))) (.t .z) rfl (ones rfl) (.s .z) (Nat.le_of_ble_eq_true rfl) (.c .z (.c (.s .z) .n))) ?_
 refine FJ.nil (FJ.then_ (FJ.ret (FJ.inBR (FJ.thenR ?_))))
 refine FJ.doneS (resC (cs := [.int .i64 (splitC s), .string (⟨#[]⟩)]) rfl (.s4 (.s4 (.s4 .z))) ag_24 sz_24 (WS.rows0 (cs := [.int .i64 (splitC s), .string (⟨#[]⟩)]) .z (fun _ _ h => h))) .n ?_
 first | (exact ⟨by rw [parentR_c (by assumption)], rfl, parentR_size s⟩) | (exact ⟨by rw [parentR_0 (by assumption)], rfl, parentR_size s⟩) | (have hh := last_c (s := s) (by assumption); exact ⟨by rw [parentR_c (by rw [hh.1]; assumption), hh.1], rfl, parentR_size s⟩) | (have hh := last_4 (s := s) (by assumption) (len_nil.1 (by assumption)); exact ⟨by rw [parentR_c (by rw [hh.1]; decide), hh.1], rfl, parentR_size s⟩) | (have hh := last_0 (s := s) (by assumption) (fun e => absurd (len_nil.2 e) (by assumption)); exact ⟨by rw [parentR_0 hh.1, hh.2.1]; first | rfl | (congr 6; omega) | (rw [show Int.toNat (((splitN s).length : Int) - 1) = (splitN s).length - 1 by omega]), rfl, parentR_size s⟩)
 refine FJ.seq (FJ.region (FJ.ql rfl (q_move rfl (.t (.s4 .z))) (FJ.ql rfl (q_len rfl u_28 (.t .z)) (FJ.ql rfl (q_eql rfl (.t .z) .c) ?_))))
 refine FJ.ql rfl (q_assign rfl (.t .z)) (FJ.nil (FJ.then_ ?_))
 refine FJ.condP (.t .z) (fun b6 => ?_) (fun b6 => ?_)
 refine FJ.seq (FJ.region ?_)
 refine FJ.ql rfl (q_build (ps := [(0, .int .i64 4)]) (cs := [.int .i64 4, .string (⟨#[]⟩)]) rfl bl_24 (by intro act hact; simp only [List.map_toArray, List.map_cons, List.map_nil, (show Val _ _ _ from .c) act hact]) rfl) ?_
 refine FJ.es (goes_list rfl) rfl (es_store (off := 0) (cs := [.int .i64 4, .string (⟨#[]⟩)]) rfl sz_24 (.t (.s4 (.s4 (.s4 (.s (.s (.s .z))))))) (.t .z) rfl (ones rfl) (.s .z) (Nat.le_of_ble_eq_true rfl) (.c .z (.c (.s .z) .n))) ?_
 refine FJ.nil (FJ.then_ (FJ.ret (FJ.inBR (FJ.thenR ?_))))
 refine FJ.doneS (resC (cs := [.int .i64 4, .string (⟨#[]⟩)]) rfl (.s4 (.s4 (.s4 (.s (.s (.s .z)))))) ag_24 sz_24 (WS.rows0 (cs := [.int .i64 4, .string (⟨#[]⟩)]) .z (fun _ _ h => h))) .n ?_
 first | (exact ⟨by rw [parentR_c (by assumption)], rfl, parentR_size s⟩) | (exact ⟨by rw [parentR_0 (by assumption)], rfl, parentR_size s⟩) | (have hh := last_c (s := s) (by assumption); exact ⟨by rw [parentR_c (by rw [hh.1]; assumption), hh.1], rfl, parentR_size s⟩) | (have hh := last_4 (s := s) (by assumption) (len_nil.1 (by assumption)); exact ⟨by rw [parentR_c (by rw [hh.1]; decide), hh.1], rfl, parentR_size s⟩) | (have hh := last_0 (s := s) (by assumption) (fun e => absurd (len_nil.2 e) (by assumption)); exact ⟨by rw [parentR_0 hh.1, hh.2.1]; first | rfl | (congr 6; omega) | (rw [show Int.toNat (((splitN s).length : Int) - 1) = (splitN s).length - 1 by omega]), rfl, parentR_size s⟩)
 refine FJ.skip (FJ.inBN (FJ.then_ (FJ.seq (FJ.region ?_))))
 refine FJ.ql rfl (q_move rfl (.t (.s4 (.s4 .z)))) (FJ.ql rfl (q_move rfl (.t (.s4 (.s4 (.s .z))))) (FJ.ql rfl (q_len rfl u_28 (.t .z)) ?_))
 refine FJ.ql rfl (q_sub (c := ((splitN s).length : Int) - 1) rfl (.t .z) .c (wr (by omega) (by omega) (by omega))) ?_
 refine FJ.know (WS.ocap .z) ?_
 rintro ⟨-, hk7, -, -⟩
 have hm8 : (List.take (Int.toNat (((splitN s).length : Int) - 1)) (splitN s)).length = Int.toNat (((splitN s).length : Int) - 1) := by rw [List.length_take]; omega
 refine FJ.eq .z (congrArg (Value.int .i64) (show ((splitN s).length : Int) - 1 = (((List.take (Int.toNat (((splitN s).length : Int) - 1)) (splitN s)).length : Nat) : Int) by rw [hm8]; try omega)) ?_
 refine FJ.turns (c := ownA kSl_9 (List.take (Int.toNat (((splitN s).length : Int) - 1)) (splitN s)) [.slice Ao4 ((List.take (Int.toNat (((splitN s).length : Int) - 1)) (splitN s)).length) co4]) (.c .z .n) (own_take' (by omega)) ?_
 refine FJ.ql rfl (q_sliceTake (b := (List.take (Int.toNat (((splitN s).length : Int) - 1)) (splitN s)).length) rfl u_28 sz_9 (.t (.s (.s (.s .z)))) (.t .z) (by omega)) ?_
 refine FJ.call (goes_list rfl) rfl (by decide) rfl (c_call rfl Tryd.func34 rfl rfl (args1 (.t .z))) .n (fun w1 S1 hs tr => c_34 (tr.own .z) (by first | assumption | exact (splitN_ok _).2 | exact (lastN_ok _).2 | exact fun x hx => (splitN_ok _).2 x (List.mem_of_mem_take hx) | exact (namesOk (by assumption)).2) (by first | omega | exact (splitN_ok _).1 | exact (lastN_ok _).1 | exact (namesOk (by assumption)).1 | (rw [List.length_take]; have := (splitN_ok s).1; omega))) ?_
 rintro _ _ ⟨rfl, rfl⟩
 refine FJ.cat .n ?_
 refine FJ.ql rfl (q_build (ps := [(1, .string (joinB (List.take (Int.toNat (((splitN s).length : Int) - 1)) (splitN s))))]) (cs := [.int .i64 0, .string (joinB (List.take (Int.toNat (((splitN s).length : Int) - 1)) (splitN s)))]) rfl bl_24 (by intro act hact; simp only [List.map_toArray, List.map_cons, List.map_nil, (show Val _ _ _ from (.t .z)) act hact]) rfl) ?_
 refine FJ.es (goes_list rfl) rfl (es_store (off := 0) (cs := [.int .i64 0, .string (joinB (List.take (Int.toNat (((splitN s).length : Int) - 1)) (splitN s)))]) rfl sz_24 (.t (.s16 (.s4 (.s .z)))) (.t .z) rfl (ones rfl) (.s .z) (Nat.le_of_ble_eq_true rfl) (.c .z (.c (.s .z) .n))) ?_
 refine FJ.nil (FJ.then_ (FJ.ret ?_))
 refine FJ.doneS (resC (cs := [.int .i64 0, .string (joinB (List.take (Int.toNat (((splitN s).length : Int) - 1)) (splitN s)))]) rfl (.s16 (.s4 (.s .z))) ag_24 sz_24 (WS.rows0 (cs := [.int .i64 0, .string (joinB (List.take (Int.toNat (((splitN s).length : Int) - 1)) (splitN s)))]) .z (fun _ _ h => h))) .n ?_
 first | (exact ⟨by rw [parentR_c (by assumption)], rfl, parentR_size s⟩) | (exact ⟨by rw [parentR_0 (by assumption)], rfl, parentR_size s⟩) | (have hh := last_c (s := s) (by assumption); exact ⟨by rw [parentR_c (by rw [hh.1]; assumption), hh.1], rfl, parentR_size s⟩) | (have hh := last_4 (s := s) (by assumption) (len_nil.1 (by assumption)); exact ⟨by rw [parentR_c (by rw [hh.1]; decide), hh.1], rfl, parentR_size s⟩) | (have hh := last_0 (s := s) (by assumption) (fun e => absurd (len_nil.2 e) (by assumption)); exact ⟨by rw [parentR_0 hh.1, hh.2.1]; first | rfl | (congr 6; omega) | (rw [show Int.toNat (((splitN s).length : Int) - 1) = (splitN s).length - 1 by omega]), rfl, parentR_size s⟩)

set_option maxHeartbeats 1000000 in
set_option maxRecDepth 20000 in
theorem c_11 {w0 : World} {S0 : Bs} (s : ByteArray) (hz0 : s.size ≤ 140737488351232) (hG : MaxL gmax w0 (FF w0 S0)) :
    Calls Tryd.prog 11 #[.string s] w0 (TriPost w0 S0 (RA_24 (lastR s))) := by
 refine FJ.enter (N := 27) Tryd.func11 rfl rfl (by simp) [(0, .string s)] (by simp) (l0 := []) trivial ?_
 refine FJ.seq (FJ.region ?_)
 refine FJ.e (goes_list rfl) rfl (by decide) rfl (e_alloc rfl z_24 rfl rfl) ?_
 rintro _ _ ⟨g1, rfl, rfl⟩
 refine FJ.nil (FJ.then_ (FJ.seq (FJ.region (FJ.ql rfl (q_move rfl (.t (.s .z))) ?_))))
 refine FJ.call (goes_list rfl) rfl (by decide) rfl (c_call rfl Tryd.func27 rfl rfl (args1 (.t .z))) .n (fun w1 S1 hs tr => c_27 _ (by first | assumption | omega) (MaxL.tr tr hG)) ?_
 rintro _ _ ⟨v2, rfl, rfl⟩
 refine FJ.cat (.c .n) ?_
 refine FJ.know (WS.oform .z) ?_
 rintro ⟨Ao4, co4, rfl, hlo4, hmo4, hbo4⟩
 have hskv2 := (splitN_ok s).1
 refine FJ.ql rfl (q_move rfl (.t .z)) (FJ.ql rfl (q_extract (v := .slice Ao4 (splitN s).length co4) rfl (.t .z) rfl) (FJ.ql rfl (q_extract (v := .int .i64 (splitC s)) rfl (.t (.s .z)) rfl) (FJ.ql rfl (q_assign rfl (.t (.s .z))) (FJ.ql rfl (q_assign rfl (.t (.s .z))) ?_))))
 refine FJ.nil (FJ.then_ (FJ.seq (FJ.block (FJ.seq ?_))))
 refine FJ.region (FJ.ql rfl (q_move rfl (.t .z)) (FJ.ql rfl (q_neq rfl (.t .z) .c) (FJ.ql rfl (q_assign rfl (.t .z)) (FJ.nil ?_))))
 refine FJ.then_ ?_
 refine FJ.condN (.t .z) (fun b5 => ?_) (fun b5 => ?_)
 refine FJ.seq (FJ.region (FJ.ql rfl (q_move rfl (.t (.s (.s (.s .z))))) ?_))
 refine FJ.ql rfl (q_build (ps := [(0, .int .i64 (splitC s))]) (cs := [.int .i64 (splitC s), .string (⟨#[]⟩)]) rfl bl_24 (by intro act hact; simp only [List.map_toArray, List.map_cons, List.map_nil, (show Val _ _ _ from (.t .z)) act hact]) rfl) ?_
 refine FJ.es (goes_list rfl) rfl (es_store (off := 0) (cs := [.int .i64 (splitC s), .string (⟨#[]⟩)]) rfl sz_24 (.t (.s4 (.s4 (.s4 .z)))) (.t .z) rfl (ones rfl) (.s .z) (Nat.le_of_ble_eq_true rfl) (.c .z (.c (.s .z) .n))) ?_
 refine FJ.nil (FJ.then_ (FJ.ret (FJ.inBR (FJ.thenR ?_))))
 refine FJ.doneS (resC (cs := [.int .i64 (splitC s), .string (⟨#[]⟩)]) rfl (.s4 (.s4 (.s4 .z))) ag_24 sz_24 (WS.rows0 (cs := [.int .i64 (splitC s), .string (⟨#[]⟩)]) .z (fun _ _ h => h))) .n ?_
 first | (exact ⟨by rw [lastR_c (by assumption)], rfl, lastR_size s⟩) | (exact ⟨by rw [lastR_0 (by assumption)], rfl, lastR_size s⟩) | (have hh := last_c (s := s) (by assumption); exact ⟨by rw [lastR_c (by rw [hh.1]; assumption), hh.1], rfl, lastR_size s⟩) | (have hh := last_4 (s := s) (by assumption) (len_nil.1 (by assumption)); exact ⟨by rw [lastR_c (by rw [hh.1]; decide), hh.1], rfl, lastR_size s⟩)
 refine FJ.seq (FJ.region (FJ.ql rfl (q_move rfl (.t (.s4 .z))) (FJ.ql rfl (q_len rfl u_28 (.t .z)) (FJ.ql rfl (q_eql rfl (.t .z) .c) ?_))))
 refine FJ.ql rfl (q_assign rfl (.t .z)) (FJ.nil (FJ.then_ ?_))
 refine FJ.condP (.t .z) (fun b6 => ?_) (fun b6 => ?_)
 refine FJ.seq (FJ.region ?_)
 refine FJ.ql rfl (q_build (ps := [(0, .int .i64 4)]) (cs := [.int .i64 4, .string (⟨#[]⟩)]) rfl bl_24 (by intro act hact; simp only [List.map_toArray, List.map_cons, List.map_nil, (show Val _ _ _ from .c) act hact]) rfl) ?_
 refine FJ.es (goes_list rfl) rfl (es_store (off := 0) (cs := [.int .i64 4, .string (⟨#[]⟩)]) rfl sz_24 (.t (.s4 (.s4 (.s4 (.s (.s (.s .z))))))) (.t .z) rfl (ones rfl) (.s .z) (Nat.le_of_ble_eq_true rfl) (.c .z (.c (.s .z) .n))) ?_
 refine FJ.nil (FJ.then_ (FJ.ret (FJ.inBR (FJ.thenR ?_))))
 refine FJ.doneS (resC (cs := [.int .i64 4, .string (⟨#[]⟩)]) rfl (.s4 (.s4 (.s4 (.s (.s (.s .z)))))) ag_24 sz_24 (WS.rows0 (cs := [.int .i64 4, .string (⟨#[]⟩)]) .z (fun _ _ h => h))) .n ?_
 first | (exact ⟨by rw [lastR_c (by assumption)], rfl, lastR_size s⟩) | (exact ⟨by rw [lastR_0 (by assumption)], rfl, lastR_size s⟩) | (have hh := last_c (s := s) (by assumption); exact ⟨by rw [lastR_c (by rw [hh.1]; assumption), hh.1], rfl, lastR_size s⟩) | (have hh := last_4 (s := s) (by assumption) (len_nil.1 (by assumption)); exact ⟨by rw [lastR_c (by rw [hh.1]; decide), hh.1], rfl, lastR_size s⟩)
 refine FJ.skip (FJ.inBN (FJ.then_ (FJ.seq (FJ.region ?_))))
 refine FJ.ql rfl (q_move rfl (.t (.s4 (.s4 .z)))) (FJ.ql rfl (q_move rfl (.t (.s4 (.s4 (.s .z))))) (FJ.ql rfl (q_len rfl u_28 (.t .z)) ?_))
 refine FJ.ql rfl (q_sub (c := ((splitN s).length : Int) - 1) rfl (.t .z) .c (wr (by omega) (by omega) (by omega))) ?_
 refine FJ.know (WS.oad .z (by omega)) ?_
 rintro ⟨ad7, rfl⟩
 refine FJ.ql rfl (q_indexAddr (j := Int.toNat (((splitN s).length : Int) - 1)) rfl u_28 sz_9 (.t (.s (.s (.s .z)))) (.t .z) (by omega) (by omega)) ?_
 obtain ⟨x8, hx8⟩ := get_ex (xs := splitN s) (j := Int.toNat (((splitN s).length : Int) - 1)) (by omega)
 refine FJ.ql rfl (q_load rfl ag_9 (.t .z) (WS.oel .z hx8)) ?_
 refine FJ.ql rfl (q_build (ps := [(1, .string x8)]) (cs := [.int .i64 0, .string x8]) rfl bl_24 (by intro act hact; simp only [List.map_toArray, List.map_cons, List.map_nil, (show Val _ _ _ from (.t .z)) act hact]) rfl) ?_
 refine FJ.es (goes_list rfl) rfl (es_store (off := 0) (cs := [.int .i64 0, .string x8]) rfl sz_24 (.t (.s16 (.s4 (.s .z)))) (.t .z) rfl (ones rfl) (.s .z) (Nat.le_of_ble_eq_true rfl) (.c .z (.c (.s .z) .n))) ?_
 refine FJ.nil (FJ.then_ (FJ.ret ?_))
 refine FJ.doneS (resC (cs := [.int .i64 0, .string x8]) rfl (.s16 (.s4 (.s .z))) ag_24 sz_24 (WS.rows0 (cs := [.int .i64 0, .string x8]) .z (fun _ _ h => h))) .n ?_
 first | (exact ⟨by rw [lastR_c (by assumption)], rfl, lastR_size s⟩) | (exact ⟨by rw [lastR_0 (by assumption)], rfl, lastR_size s⟩) | (have hh := last_c (s := s) (by assumption); exact ⟨by rw [lastR_c (by rw [hh.1]; assumption), hh.1], rfl, lastR_size s⟩) | (have hh := last_4 (s := s) (by assumption) (len_nil.1 (by assumption)); exact ⟨by rw [lastR_c (by rw [hh.1]; decide), hh.1], rfl, lastR_size s⟩) | (have hh := last_0 (s := s) (by assumption) (fun e => absurd (len_nil.2 e) (by assumption)); exact ⟨by rw [lastR_0 hh.1, hh.2.2 _ _ (by omega) hx8], rfl, lastR_size s⟩)

set_option maxHeartbeats 1000000 in
set_option maxRecDepth 20000 in
theorem c_9 {w0 : World} {S0 : Bs} (p : ByteArray) (hz0 : p.size ≤ 140737488351232) (t : ByteArray) (hz1 : t.size ≤ 140737488351232) (hG : MaxL gmax w0 (FF w0 S0)) :
    Calls Tryd.prog 9 #[.string p, .string t] w0 (TriPost w0 S0 (fun r l => r = .bool (belowB p t) ∧ l = [])) := by
 refine FJ.enter (N := 40) Tryd.func9 rfl rfl (by simp) [(0, .string p), (1, .string t)] (by simp) (l0 := []) trivial ?_
 refine FJ.seq (FJ.region (FJ.ql rfl (q_assign rfl .c) (FJ.nil (FJ.then_ ?_))))
 refine FJ.seq (FJ.region (FJ.ql rfl (q_move rfl (.t (.s .z))) ?_))
 refine FJ.call (goes_list rfl) rfl (by decide) rfl (c_call rfl Tryd.func27 rfl rfl (args1 (.t .z))) .n (fun w1 S1 hs tr => c_27 _ (by first | assumption | omega) (MaxL.tr tr hG)) ?_
 rintro _ _ ⟨v1, rfl, rfl⟩
 refine FJ.cat (.c .n) ?_
 refine FJ.know (WS.oform .z) ?_
 rintro ⟨Ao3, co3, rfl, hlo3, hmo3, hbo3⟩
 have hskv1 := (splitN_ok p).1
 refine FJ.ql rfl (q_move rfl (.t .z)) (FJ.ql rfl (q_extract (v := .slice Ao3 (splitN p).length co3) rfl (.t .z) rfl) (FJ.ql rfl (q_extract (v := .int .i64 (splitC p)) rfl (.t (.s .z)) rfl) (FJ.ql rfl (q_assign rfl (.t (.s .z))) (FJ.ql rfl (q_assign rfl (.t (.s .z))) ?_))))
 refine FJ.nil (FJ.then_ (FJ.seq (FJ.region (FJ.ql rfl (q_move rfl (.t (.s4 (.s4 (.s .z))))) ?_))))
 refine FJ.call (goes_list rfl) rfl (by decide) rfl (c_call rfl Tryd.func27 rfl rfl (args1 (.t .z))) .n (fun w1 S1 hs tr => c_27 _ (by first | assumption | omega) (MaxL.tr tr hG)) ?_
 rintro _ _ ⟨v4, rfl, rfl⟩
 refine FJ.cat (.c .n) ?_
 refine FJ.know (WS.oform .z) ?_
 rintro ⟨Ao6, co6, rfl, hlo6, hmo6, hbo6⟩
 have hskv4 := (splitN_ok t).1
 refine FJ.ql rfl (q_move rfl (.t .z)) (FJ.ql rfl (q_extract (v := .slice Ao6 (splitN t).length co6) rfl (.t .z) rfl) (FJ.ql rfl (q_extract (v := .int .i64 (splitC t)) rfl (.t (.s .z)) rfl) (FJ.ql rfl (q_assign rfl (.t (.s .z))) (FJ.ql rfl (q_assign rfl (.t (.s .z))) ?_))))
 refine FJ.nil (FJ.then_ (FJ.seq (FJ.region (FJ.ql rfl (q_move rfl (.t (.s4 (.s (.s (.s .z)))))) ?_))))
 refine FJ.ql rfl (q_eql rfl (.t .z) .c) (FJ.ql rfl (q_move rfl (.t .z)) ?_)
 refine FJ.caseP .z (fun g7 => ?_) (fun g7 => ?_)
 refine FJ.q (goes_listg rfl rfl .z) rfl (by decide) rfl (q_move rfl (.t (.s (.s (.s .z))))) ?_
 refine FJ.q (goes_listg rfl rfl (.s .z)) rfl (by decide) rfl (q_eql rfl (.t .z) .c) ?_
 refine FJ.ql rfl (q_pickT rfl (.t (.s (.s .z))) (.t .z)) (FJ.ql rfl (q_move rfl (.t .z)) ?_)
 refine FJ.caseP .z (fun g8 => ?_) (fun g8 => ?_)
 refine FJ.q (goes_listg rfl rfl .z) rfl (by decide) rfl (q_move rfl (.t (.s4 (.s4 (.s4 (.s (.s (.s .z)))))))) ?_
 refine FJ.q (goes_listg rfl rfl (.s .z)) rfl (by decide) rfl (q_len rfl u_28 (.t .z)) ?_
 refine FJ.q (goes_listg rfl rfl (.s (.s .z))) rfl (by decide) rfl (q_move rfl (.t (.s4 (.s4 (.s (.s .z)))))) ?_
 refine FJ.q (goes_listg rfl rfl (.s (.s (.s .z)))) rfl (by decide) rfl (q_len rfl u_28 (.t .z)) ?_
 refine FJ.q (goes_listg rfl rfl (.s4 .z)) rfl (by decide) rfl (q_gtr rfl (.t (.s (.s .z))) (.t .z)) ?_
 refine FJ.ql rfl (q_pickT rfl (.t (.s4 (.s .z))) (.t .z)) (FJ.ql rfl (q_move rfl (.t .z)) ?_)
 refine FJ.caseP .z (fun g9 => ?_) (fun g9 => ?_)
 refine FJ.q (goes_listg rfl rfl .z) rfl (by decide) rfl (q_move rfl (.t (.s16 (.s4 (.s (.s .z)))))) ?_
 refine FJ.q (goes_listg rfl rfl (.s .z)) rfl (by decide) rfl (q_move rfl (.t (.s16 .z))) ?_
 refine FJ.q (goes_listg rfl rfl (.s (.s .z))) rfl (by decide) rfl (q_len rfl u_28 (.t .z)) ?_
 refine FJ.know (WS.ocap (.s .z)) ?_
 rintro ⟨-, hk10, -, -⟩
 have hm11 : (List.take ((splitN t).length) (splitN p)).length = (splitN t).length := by rw [List.length_take]; omega
 refine FJ.eq .z (congrArg (Value.int .i64) (show ((splitN t).length : Int) = (((List.take ((splitN t).length) (splitN p)).length : Nat) : Int) by rw [hm11]; try omega)) ?_
 refine FJ.turns (c := ownA kSl_9 (List.take ((splitN t).length) (splitN p)) [.slice Ao3 ((List.take ((splitN t).length) (splitN p)).length) co3]) (.c (.s .z) .n) (own_take' (by omega)) ?_
 refine FJ.q (goes_listg rfl rfl (.s (.s (.s .z)))) rfl (by decide) rfl (q_sliceTake (b := (List.take ((splitN t).length) (splitN p)).length) rfl u_28 sz_9 (.t (.s (.s .z))) (.t .z) (by omega)) ?_
 refine FJ.q (goes_listg rfl rfl (.s4 .z)) rfl (by decide) rfl (q_move rfl (.t (.s16 (.s (.s (.s .z)))))) ?_
 refine FJ.call (goes_listg rfl rfl (.s4 (.s .z))) rfl (by decide) rfl (c_call rfl Tryd.func28 rfl rfl (args2 (.t (.s .z)) (.t .z))) .n (fun w1 S1 hs tr => c_28 (tr.own .z) (tr.own (.s .z))) ?_
 rintro _ _ ⟨rfl, rfl⟩
 refine FJ.cat .n ?_
 refine FJ.ql rfl (q_pickT rfl (.t (.s4 (.s (.s .z)))) (.t .z)) (FJ.er (.s16 (.s16 (.s (.s (.s .z))))) (FJ.ql rfl (q_assign rfl (.t .z)) (FJ.nil (FJ.then_ ?_))))
 refine FJ.ret ?_
 refine FJ.doneS (res1 rfl .z) .n ?_
 first | (rw [below_n (by rintro ⟨h1, h2, h3⟩; first | contradiction | omega)]; exact ⟨rfl, rfl⟩) | (rw [below_e (by assumption) (by assumption) (by omega) (by omega) hallk]; exact ⟨rfl, rfl⟩) | (rw [below_t (by assumption) (by assumption) (by omega)]; exact ⟨rfl, rfl⟩)
 refine FJ.skipl rfl rfl .z rfl rfl (by decide) rfl ?_
 refine FJ.skipl rfl rfl (.s .z) rfl rfl (by decide) rfl ?_
 refine FJ.skipl rfl rfl (.s (.s .z)) rfl rfl (by decide) rfl ?_
 refine FJ.skipl rfl rfl (.s (.s (.s .z))) rfl rfl (by decide) rfl ?_
 refine FJ.skipl rfl rfl (.s4 .z) rfl rfl (by decide) rfl ?_
 refine FJ.skipl rfl rfl (.s4 (.s .z)) rfl rfl (by decide) rfl ?_
 refine FJ.ql rfl (q_pickF rfl (.t (.s4 (.s (.s .z)))) .c) (FJ.er (.s16 (.s16 (.s (.s (.s .z))))) (FJ.ql rfl (q_assign rfl (.t .z)) (FJ.nil (FJ.then_ ?_))))
 refine FJ.ret ?_
 refine FJ.doneS (res1 rfl .z) .n ?_
 first | (rw [below_n (by rintro ⟨h1, h2, h3⟩; first | contradiction | omega)]; exact ⟨rfl, rfl⟩) | (rw [below_e (by assumption) (by assumption) (by omega) (by omega) hallk]; exact ⟨rfl, rfl⟩) | (rw [below_t (by assumption) (by assumption) (by omega)]; exact ⟨rfl, rfl⟩)
 refine FJ.skipl rfl rfl .z rfl rfl (by decide) rfl ?_
 refine FJ.skipl rfl rfl (.s .z) rfl rfl (by decide) rfl ?_
 refine FJ.skipl rfl rfl (.s (.s .z)) rfl rfl (by decide) rfl ?_
 refine FJ.skipl rfl rfl (.s (.s (.s .z))) rfl rfl (by decide) rfl ?_
 refine FJ.skipl rfl rfl (.s4 .z) rfl rfl (by decide) rfl ?_
 refine FJ.ql rfl (q_pickF rfl (.t (.s4 (.s .z))) .c) (FJ.ql rfl (q_move rfl (.t .z)) ?_)
 refine FJ.skipl rfl rfl .z rfl rfl (by decide) rfl ?_
 refine FJ.skipl rfl rfl (.s .z) rfl rfl (by decide) rfl ?_
 refine FJ.skipl rfl rfl (.s (.s .z)) rfl rfl (by decide) rfl ?_
 refine FJ.skipl rfl rfl (.s (.s (.s .z))) rfl rfl (by decide) rfl ?_
 refine FJ.skipl rfl rfl (.s4 .z) rfl rfl (by decide) rfl ?_
 refine FJ.skipl rfl rfl (.s4 (.s .z)) rfl rfl (by decide) rfl ?_
 refine FJ.ql rfl (q_pickF rfl (.t (.s4 (.s (.s .z)))) .c) (FJ.er (.s16 (.s16 (.s (.s (.s .z))))) (FJ.ql rfl (q_assign rfl (.t .z)) (FJ.nil (FJ.then_ ?_))))
 refine FJ.ret ?_
 refine FJ.doneS (res1 rfl .z) .n ?_
 first | (rw [below_n (by rintro ⟨h1, h2, h3⟩; first | contradiction | omega)]; exact ⟨rfl, rfl⟩) | (rw [below_e (by assumption) (by assumption) (by omega) (by omega) hallk]; exact ⟨rfl, rfl⟩) | (rw [below_t (by assumption) (by assumption) (by omega)]; exact ⟨rfl, rfl⟩)
 refine FJ.skipl rfl rfl .z rfl rfl (by decide) rfl ?_
 refine FJ.skipl rfl rfl (.s .z) rfl rfl (by decide) rfl ?_
 refine FJ.ql rfl (q_pickF rfl (.t (.s (.s .z))) .c) (FJ.ql rfl (q_move rfl (.t .z)) ?_)
 refine FJ.skipl rfl rfl .z rfl rfl (by decide) rfl ?_
 refine FJ.skipl rfl rfl (.s .z) rfl rfl (by decide) rfl ?_
 refine FJ.skipl rfl rfl (.s (.s .z)) rfl rfl (by decide) rfl ?_
 refine FJ.skipl rfl rfl (.s (.s (.s .z))) rfl rfl (by decide) rfl ?_
 refine FJ.skipl rfl rfl (.s4 .z) rfl rfl (by decide) rfl ?_
 refine FJ.ql rfl (q_pickF rfl (.t (.s4 (.s .z))) .c) (FJ.ql rfl (q_move rfl (.t .z)) ?_)
 refine FJ.skipl rfl rfl .z rfl rfl (by decide) rfl ?_
 refine FJ.skipl rfl rfl (.s .z) rfl rfl (by decide) rfl ?_
 refine FJ.skipl rfl rfl (.s (.s .z)) rfl rfl (by decide) rfl ?_
 refine FJ.skipl rfl rfl (.s (.s (.s .z))) rfl rfl (by decide) rfl ?_
 refine FJ.skipl rfl rfl (.s4 .z) rfl rfl (by decide) rfl ?_
 refine FJ.skipl rfl rfl (.s4 (.s .z)) rfl rfl (by decide) rfl ?_
 refine FJ.ql rfl (q_pickF rfl (.t (.s4 (.s (.s .z)))) .c) (FJ.er (.s16 (.s16 (.s (.s (.s .z))))) (FJ.ql rfl (q_assign rfl (.t .z)) (FJ.nil (FJ.then_ ?_))))
 refine FJ.ret ?_
 refine FJ.doneS (res1 rfl .z) .n ?_
 first | (rw [below_n (by rintro ⟨h1, h2, h3⟩; first | contradiction | omega)]; exact ⟨rfl, rfl⟩) | (rw [below_e (by assumption) (by assumption) (by omega) (by omega) hallk]; exact ⟨rfl, rfl⟩) | (rw [below_t (by assumption) (by assumption) (by omega)]; exact ⟨rfl, rfl⟩)
end Go.Proofs.YtbfcpfmhmhklnaaDoor

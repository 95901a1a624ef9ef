/- What is proved: contracts of functions, one a function. No condition. -/
import Derived.Test.YtbfcpfmhmhklnaaDoorW1
import Derived.Test.YtbfcpfmhmhklnaaDoorStrL
namespace Go.Proofs.YtbfcpfmhmhklnaaDoor
open Go Go.RowKit
set_option linter.unusedVariables false
set_option linter.unusedSimpArgs false
set_option maxHeartbeats 1000000 in
set_option maxRecDepth 20000 in
theorem c_40 {w0 : World} {S0 : Bs} {x : (List ByteArray)} {v0 : Value} (h0 : kSl_9.ro w0 (FF w0 S0) x [v0])  :
    Calls Tryd.prog 40 #[v0] w0 (TriPost w0 S0 (fun r l => r = .int .i64 (namesC x) ∧ l = [])) := by
 obtain ⟨A0, c0, rfl, hl0, hm0, hb0, he0⟩ := ro_form h0
 refine FJ.enter (N := 22) Tryd.func40 rfl rfl (by simp) [(0, .slice A0 x.length c0)] (by simp) (l0 := []) trivial ?_
 refine FJ.seq (FJ.region (FJ.ql rfl (q_assign rfl .c) (FJ.nil (FJ.then_ ?_))))
 refine FJ.seq (FJ.seq (FJ.region (FJ.ql rfl (q_move rfl (.t (.s .z))) (FJ.ql rfl (q_len rfl u_28 (.t .z)) ?_))))
 refine FJ.ql rfl (q_gtr rfl (.t .z) .c) (FJ.nil (FJ.then_ ?_))
 refine FJ.condP (.t .z) (fun b2 => ?_) (fun b2 => ?_)
 refine FJ.seq (FJ.region (FJ.er (.s (.s (.s .z))) (FJ.ql rfl (q_assign rfl .c) (FJ.nil ?_))))
 refine FJ.then_ (FJ.ret (FJ.thenR ?_))
 refine FJ.doneS (res1 rfl .z) .n ?_
 exact ⟨by first | (rw [namesC_2 (by omega)]; done) | (rw [namesC_0 (by omega) hallk (by omega)]; done), rfl⟩
 refine FJ.skip (FJ.then_ (FJ.seq (FJ.seq (FJ.region ?_))))
 refine FJ.ql rfl (q_assign rfl .c) (FJ.nil (FJ.then_ (FJ.block ?_)))
 refine FJ.loopi (γ := Nat) (fun k => [(3, .int .i64 (k : Int)), (0, .slice A0 x.length c0)]) (fun k => []) (fun k => k ≤ x.length ∧ ∀ (j : Nat) (s : ByteArray), j < k → x[j]? = some s → nameFault s = 0) (fun k => x.length - k) 0 ⟨Nat.zero_le _, all_zero (q := fun _ (s : ByteArray) => nameFault s = 0)⟩ (.c .z (.c (.s4 (.s .z)) .n)) (fun _ h => h) ?_
 rintro k ⟨hk, hallk⟩
 refine FJ.seq (FJ.seq (FJ.region (FJ.ql rfl (q_move rfl (.t .z)) (FJ.ql rfl (q_move rfl (.t (.s (.s .z)))) ?_))))
 refine FJ.ql rfl (q_len rfl u_28 (.t .z)) (FJ.ql rfl (q_lss rfl (.t (.s (.s .z))) (.t .z)) (FJ.nil (FJ.then_ ?_)))
 refine FJ.condP (.t .z) (fun b3 => ?_) (fun b3 => ?_)
 refine FJ.skip (FJ.then_ (FJ.seq (FJ.block (FJ.seq ?_))))
 refine FJ.region (FJ.ql rfl (q_move rfl (.t (.s4 (.s .z)))) (FJ.ql rfl (q_move rfl (.t (.s4 (.s .z)))) ?_))
 obtain ⟨ad4, hAad4, hrad4⟩ := he0 (by omega)
 subst hAad4
 obtain ⟨x5, hx5⟩ := get_ex (xs := x) (j := k) (by omega)
 obtain ⟨ece6, hre6, hFe6, hce6⟩ := hrad4.elem hx5
 obtain ⟨rfl, se6⟩ := hre6
 refine FJ.ql rfl (q_indexAddr (j := k) rfl u_28 sz_9 (.t (.s .z)) (.t .z) rfl (by omega)) ?_
 refine FJ.ql rfl (q_load rfl ag_9 (.t .z) (WS.el0 hFe6 hce6 rfl)) ?_
 refine FJ.call (goes_list rfl) rfl (by decide) rfl (c_call rfl Tryd.func25 rfl rfl (args1 (.t .z))) .n (fun w1 S1 hs tr => c_25 _ (by first | assumption | omega)) ?_
 rintro _ _ ⟨rfl, rfl⟩
 refine FJ.cat .n ?_
 refine FJ.ql rfl (q_assign rfl (.t .z)) (FJ.nil (FJ.then_ (FJ.seq (FJ.region ?_))))
 refine FJ.ql rfl (q_move rfl (.t .z)) (FJ.ql rfl (q_neq rfl (.t .z) .c) (FJ.nil (FJ.then_ ?_)))
 refine FJ.condN (.t .z) (fun b7 => ?_) (fun b7 => ?_)
 refine FJ.seq (FJ.region (FJ.ql rfl (q_move rfl (.t (.s (.s .z)))) (FJ.ql rfl (q_assign rfl (.t .z)) (FJ.nil ?_))))
 refine FJ.then_ (FJ.ret (FJ.inBR (FJ.thenR (FJ.thenR ?_))))
 refine FJ.inBR (FJ.thenR ?_)
 refine FJ.doneS (res1 rfl .z) .n ?_
 exact ⟨by first | (rw [namesC_2 (by omega)]; done) | (rw [namesC_n (by omega) hallk hx5 (by assumption)]; done) | (rw [namesC_0 (by omega) hallk (by omega)]; done), rfl⟩
 refine FJ.skip (FJ.inBN (FJ.then_ (FJ.region (FJ.ql rfl (q_move rfl (.t (.s4 (.s4 (.s4 .z))))) ?_))))
 refine FJ.ql rfl (q_add (c := ((k + 1 : Nat) : Int)) rfl (.t .z) .c (wr (by omega) (by omega) (by omega))) ?_
 refine FJ.er (.s4 (.s4 (.s4 (.s (.s .z))))) (FJ.ql rfl (q_assign rfl (.t .z)) (FJ.nil ?_))
 refine FJ.again (k + 1) ⟨by omega, all_succ (q := fun _ (s : ByteArray) => nameFault s = 0) hallk hx5 (by first | assumption | omega)⟩ (by first | omega | (dsimp only; omega)) (.c .z (.c (.s4 (.s4 (.s4 (.s (.s (.s .z)))))) .n)) (fun _ h => h)
 refine FJ.exit (FJ.thenE (FJ.thenE (FJ.inB (FJ.then_ ?_))))
 refine FJ.seq (FJ.region (FJ.ql rfl (q_assign rfl .c) (FJ.nil (FJ.then_ ?_))))
 refine FJ.ret ?_
 refine FJ.doneS (res1 rfl .z) .n ?_
 exact ⟨by first | (rw [namesC_2 (by omega)]; done) | (rw [namesC_0 (by omega) hallk (by omega)]; done), rfl⟩

set_option maxHeartbeats 1000000 in
set_option maxRecDepth 20000 in
theorem c_33 {w0 : World} {S0 : Bs} {x : (List ByteArray)} {v0 : Value} (h0 : kSl_9.ro w0 (FF w0 S0) x [v0]) (hok : ∀ s, s ∈ x → nameFault s = 0) (hl : x.length ≤ 6) :
    Calls Tryd.prog 33 #[v0] w0 (TriPost w0 S0 (fun r l => r = .string (joinB x) ∧ l = [])) := by
 obtain ⟨A0, c0, rfl, hl0, hm0, hb0, he0⟩ := ro_form h0
 have h47 : (⟨#[47]⟩ : ByteArray).size = 1 := rfl
 refine FJ.enter (N := 21) Tryd.func33 rfl rfl (by simp) [(0, .slice A0 x.length c0)] (by simp) (l0 := []) trivial ?_
 refine FJ.seq (FJ.region (FJ.ql rfl (q_assign rfl .c) (FJ.nil (FJ.then_ ?_))))
 refine FJ.seq (FJ.region (FJ.ql rfl (q_assign rfl .c) (FJ.nil (FJ.then_ ?_))))
 refine FJ.seq (FJ.seq (FJ.region (FJ.ql rfl (q_assign rfl .c) (FJ.nil ?_))))
 refine FJ.then_ (FJ.block ?_)
 refine FJ.loopi (γ := Nat) (fun k => [(4, .int .i64 (k : Int)), (3, .string (jnB (List.take k x))), (2, .string (⟨#[]⟩)), (0, .slice A0 x.length c0)]) (fun k => []) (fun k => k ≤ x.length) (fun k => x.length - k) 0 (Nat.zero_le _) (.c .z (.e (.s .z) (congrArg Value.string (show (⟨#[]⟩ : ByteArray) = jnB (List.take 0 x) from rfl)) (.c (.s (.s .z)) (.c (.s (.s (.s .z))) .n)))) (fun _ h => h) ?_
 rintro k hk
 have hjs := jnB_size (xs := List.take k x) (fun s hs => hok s (List.mem_of_mem_take hs))
 have hjt := @List.length_take _ k x
 refine FJ.seq (FJ.seq (FJ.region (FJ.ql rfl (q_move rfl (.t .z)) (FJ.ql rfl (q_move rfl (.t (.s4 .z))) ?_))))
 refine FJ.ql rfl (q_len rfl u_28 (.t .z)) (FJ.ql rfl (q_lss rfl (.t (.s (.s .z))) (.t .z)) (FJ.nil (FJ.then_ ?_)))
 refine FJ.condP (.t .z) (fun b2 => ?_) (fun b2 => ?_)
 refine FJ.skip (FJ.then_ (FJ.seq (FJ.block (FJ.region ?_))))
 refine FJ.ql rfl (q_move rfl (.t (.s4 (.s .z)))) ?_
 refine FJ.ql rfl (q_sadd rfl (.t .z) .c (by first | omega | (rw [ByteArray.size_append]; omega))) ?_
 refine FJ.ql rfl (q_move rfl (.t (.s4 (.s4 (.s .z))))) (FJ.ql rfl (q_move rfl (.t (.s4 (.s (.s (.s .z)))))) ?_)
 obtain ⟨ad3, hAad3, hrad3⟩ := he0 (by omega)
 subst hAad3
 obtain ⟨x4, hx4⟩ := get_ex (xs := x) (j := k) (by omega)
 obtain ⟨ece5, hre5, hFe5, hce5⟩ := hrad3.elem hx4
 obtain ⟨rfl, se5⟩ := hre5
 have hszx4 := (name_4 (hok _ (List.mem_of_getElem? hx4))).1
 refine FJ.ql rfl (q_indexAddr (j := k) rfl u_28 sz_9 (.t (.s .z)) (.t .z) rfl (by omega)) ?_
 refine FJ.ql rfl (q_load rfl ag_9 (.t .z) (WS.el0 hFe5 hce5 rfl)) ?_
 refine FJ.ql rfl (q_sadd rfl (.t (.s4 .z)) (.t .z) (by first | omega | (rw [ByteArray.size_append]; omega))) ?_
 refine FJ.er (.s4 (.s4 (.s4 .z))) (FJ.ql rfl (q_assign rfl (.t .z)) (FJ.nil (FJ.inBN (FJ.then_ ?_))))
 refine FJ.region (FJ.ql rfl (q_move rfl (.t (.s4 (.s4 (.s4 .z))))) ?_)
 refine FJ.ql rfl (q_add (c := ((k + 1 : Nat) : Int)) rfl (.t .z) .c (wr (by omega) (by omega) (by omega))) ?_
 refine FJ.er (.s4 (.s4 (.s4 (.s (.s .z))))) (FJ.ql rfl (q_assign rfl (.t .z)) (FJ.nil ?_))
 refine FJ.again (k + 1) (by omega) (by first | omega | (dsimp only; omega)) (.c .z (.e (.s (.s (.s .z))) (congrArg Value.string (jnB_s hx4)) (.c (.s4 (.s4 (.s4 (.s (.s (.s .z)))))) (.c (.s16 .z) .n)))) (fun _ h => h)
 refine FJ.exit (FJ.thenE (FJ.thenE (FJ.inB (FJ.then_ ?_))))
 refine FJ.seq (FJ.seq (FJ.region (FJ.ql rfl (q_move rfl (.t (.s4 (.s .z)))) (FJ.ql rfl (q_seql rfl (.t .z) .c) ?_))))
 refine FJ.nil (FJ.then_ ?_)
 refine FJ.condP (.t .z) (fun b6 => ?_) (fun b6 => ?_)
 refine FJ.seq (FJ.region (FJ.er (.s4 (.s4 .z)) (FJ.ql rfl (q_assign rfl .c) (FJ.nil ?_))))
 refine FJ.then_ (FJ.ret (FJ.thenR ?_))
 refine FJ.doneS (res1 rfl .z) .n ?_
 first | (exact ⟨congrArg Value.string (by rw [List.take_of_length_le (by omega)] at *; exact (joinB_e (by assumption)).symm), rfl⟩) | (exact ⟨congrArg Value.string (by rw [List.take_of_length_le (by omega)] at *; exact (joinB_n (by assumption)).symm), rfl⟩)
 refine FJ.skip (FJ.then_ (FJ.seq (FJ.region (FJ.ql rfl (q_move rfl (.t (.s4 (.s (.s (.s .z)))))) ?_))))
 refine FJ.er (.s4 (.s4 (.s .z))) (FJ.ql rfl (q_assign rfl (.t .z)) (FJ.nil (FJ.then_ (FJ.ret ?_))))
 refine FJ.doneS (res1 rfl .z) .n ?_
 first | (exact ⟨congrArg Value.string (by rw [List.take_of_length_le (by omega)] at *; exact (joinB_e (by assumption)).symm), rfl⟩) | (exact ⟨congrArg Value.string (by rw [List.take_of_length_le (by omega)] at *; exact (joinB_n (by assumption)).symm), rfl⟩)

set_option maxHeartbeats 1000000 in
set_option maxRecDepth 20000 in
theorem c_34 {w0 : World} {S0 : Bs} {x : (List ByteArray)} {v0 : Value} (h0 : kSl_9.ro w0 (FF w0 S0) x [v0]) (hok : ∀ s, s ∈ x → nameFault s = 0) (hl : x.length ≤ 6) :
    Calls Tryd.prog 34 #[v0] w0 (TriPost w0 S0 (fun r l => r = .string (joinB x) ∧ l = [])) := by
 obtain ⟨A0, c0, rfl, hl0, hm0, hb0, he0⟩ := ro_form h0
 have hjs := join_sz hok hl
 have h47 : (⟨#[47]⟩ : ByteArray).size = 1 := rfl
 refine FJ.enter (N := 6) Tryd.func34 rfl rfl (by simp) [(0, .slice A0 x.length c0)] (by simp) (l0 := []) trivial ?_
 refine FJ.seq (FJ.region (FJ.ql rfl (q_assign rfl .c) (FJ.nil (FJ.then_ ?_))))
 refine FJ.seq (FJ.region (FJ.ql rfl (q_move rfl (.t (.s .z))) ?_))
 refine FJ.call (goes_list rfl) rfl (by decide) rfl (c_call rfl Tryd.func45 rfl rfl (args2 (.t .z) .c)) .n (fun w1 S1 hs tr => c_45 (tr.ctx h0) (by assumption) (by assumption)) ?_
 rintro _ _ ⟨rfl, rfl⟩
 refine FJ.cat .n ?_
 refine FJ.ql rfl (q_sadd rfl .c (.t .z) (by omega)) ?_
 refine FJ.er (.s (.s (.s .z))) (FJ.ql rfl (q_assign rfl (.t .z)) (FJ.nil (FJ.then_ (FJ.ret ?_))))
 refine FJ.doneS (res1 rfl .z) .n ?_
 exact ⟨congrArg Value.string (join_eq x), rfl⟩

set_option maxHeartbeats 1000000 in
set_option maxRecDepth 20000 in
theorem c_22 {w0 : World} {S0 : Bs} {x : (List ByteArray)} {v0 : Value} (h0 : kSl_9.ro w0 (FF w0 S0) x [v0])  :
    Calls Tryd.prog 22 #[v0] w0 (TriPost w0 S0 (RA_24 (joinR x))) := by
 obtain ⟨A0, c0, rfl, hl0, hm0, hb0, he0⟩ := ro_form h0
 refine FJ.enter (N := 26) Tryd.func22 rfl rfl (by simp) [(0, .slice A0 x.length c0)] (by simp) (l0 := []) trivial ?_
 refine FJ.seq (FJ.region ?_)
 refine FJ.e (goes_list rfl) rfl (by decide) rfl (e_alloc rfl z_24 rfl rfl) ?_
 rintro _ _ ⟨g2, rfl, rfl⟩
 refine FJ.nil (FJ.then_ (FJ.seq (FJ.seq (FJ.region ?_))))
 refine FJ.ql rfl (q_move rfl (.t (.s .z))) (FJ.ql rfl (q_len rfl u_28 (.t .z)) (FJ.ql rfl (q_gtr rfl (.t .z) .c) (FJ.nil (FJ.then_ ?_))))
 refine FJ.condP (.t .z) (fun b3 => ?_) (fun b3 => ?_)
 refine FJ.seq (FJ.region ?_)
 refine FJ.ql rfl (q_build (ps := [(0, .int .i64 2)]) (cs := [.int .i64 2, .string (⟨#[]⟩)]) rfl bl_24 (by intro act hact; simp only [List.map_toArray, List.map_cons, List.map_nil, (show Val _ _ _ from .c) act hact]) rfl) ?_
 refine FJ.es (goes_list rfl) rfl (es_store (off := 0) (cs := [.int .i64 2, .string (⟨#[]⟩)]) rfl sz_24 (.t (.s4 .z)) (.t .z) rfl (ones rfl) .z (Nat.le_of_ble_eq_true rfl) (.c .z (.c (.s .z) .n))) ?_
 refine FJ.nil (FJ.then_ (FJ.ret (FJ.thenR ?_)))
 refine FJ.doneS (resC (cs := [.int .i64 2, .string (⟨#[]⟩)]) rfl (.s4 .z) ag_24 sz_24 (WS.rows0 (cs := [.int .i64 2, .string (⟨#[]⟩)]) .z (fun _ _ h => h))) .n ?_
 first | (exact ⟨by rw [joinR_c (by assumption)], rfl, joinR_size x⟩) | (exact ⟨by rw [joinR_0 (by assumption)], rfl, joinR_size x⟩) | (exact ⟨by rw [joinR_c (by rw [namesC_2 (by omega)]; decide), namesC_2 (by omega)], rfl, joinR_size x⟩) | (exact ⟨by rw [joinR_0 (namesC_0 (by omega) hallk (by omega))], rfl, joinR_size x⟩)
 refine FJ.skip (FJ.then_ (FJ.seq (FJ.seq (FJ.region ?_))))
 refine FJ.ql rfl (q_move rfl (.t (.s4 .z))) (FJ.ql rfl (q_len rfl u_28 (.t .z)) (FJ.ql rfl (q_move rfl .c) (FJ.nil (FJ.then_ ?_))))
 refine FJ.block ?_
 refine FJ.loopi (γ := Nat) (fun k => [(12, .int .i64 (k : Int)), (11, .int .i64 (x.length : Int)), (10, .slice A0 x.length c0), (2, .pointer (some ⟨g2, 0, none⟩)), (0, .slice A0 x.length c0)]) (fun k => [rowA g2 24 2 1 [.int .i64 0, .string (⟨#[]⟩)]]) (fun k => k ≤ x.length ∧ ∀ (j : Nat) (s : ByteArray), j < k → x[j]? = some s → nameFault s = 0) (fun k => x.length - k) 0 ⟨Nat.zero_le _, all_zero (q := fun _ (s : ByteArray) => nameFault s = 0)⟩ (.c .z (.c (.s .z) (.c (.s (.s .z)) (.c (.s4 (.s (.s .z))) (.c (.s4 (.s (.s (.s .z)))) .n))))) (fun _ h => h.sel (.c .z .n)) ?_
 rintro k ⟨hk, hallk⟩
 refine FJ.seq (FJ.region (FJ.ql rfl (q_lss rfl (.t .z) (.t (.s .z))) (FJ.nil (FJ.then_ ?_))))
 refine FJ.seq ?_
 refine FJ.condP (.t .z) (fun b4 => ?_) (fun b4 => ?_)
 refine FJ.skip (FJ.then_ (FJ.seq (FJ.block (FJ.seq ?_))))
 refine FJ.region ?_
 obtain ⟨ad5, hAad5, hrad5⟩ := he0 (by omega)
 subst hAad5
 obtain ⟨x6, hx6⟩ := get_ex (xs := x) (j := k) (by omega)
 obtain ⟨ece7, hre7, hFe7, hce7⟩ := hrad5.elem hx6
 obtain ⟨rfl, se7⟩ := hre7
 refine FJ.ql rfl (q_indexAddr (j := k) rfl u_28 sz_9 (.t (.s (.s (.s .z)))) (.t (.s .z)) rfl (by omega)) ?_
 refine FJ.ql rfl (q_load rfl ag_9 (.t .z) (WS.el0 hFe7 hce7 rfl)) (FJ.ql rfl (q_assign rfl (.t .z)) (FJ.nil (FJ.then_ (FJ.seq ?_))))
 refine FJ.region (FJ.ql rfl (q_move rfl (.t .z)) ?_)
 refine FJ.call (goes_list rfl) rfl (by decide) rfl (c_call rfl Tryd.func37 rfl rfl (args1 (.t .z))) .n (fun w1 S1 hs tr => c_37 _ (by first | assumption | omega)) ?_
 rintro _ _ ⟨rfl, rfl⟩
 refine FJ.cat .n ?_
 refine FJ.ql rfl (q_assign rfl (.t .z)) (FJ.nil (FJ.then_ (FJ.seq (FJ.region ?_))))
 refine FJ.ql rfl (q_move rfl (.t .z)) (FJ.ql rfl (q_neq rfl (.t .z) .c) (FJ.nil (FJ.then_ ?_)))
 refine FJ.condN (.t .z) (fun b8 => ?_) (fun b8 => ?_)
 refine FJ.seq (FJ.region (FJ.ql rfl (q_move rfl (.t (.s (.s .z)))) ?_))
 refine FJ.ql rfl (q_build (ps := [(0, .int .i64 (nameFault x6))]) (cs := [.int .i64 (nameFault x6), .string (⟨#[]⟩)]) rfl bl_24 (by intro act hact; simp only [List.map_toArray, List.map_cons, List.map_nil, (show Val _ _ _ from (.t .z)) act hact]) rfl) ?_
 refine FJ.es (goes_list rfl) rfl (es_store (off := 0) (cs := [.int .i64 (nameFault x6), .string (⟨#[]⟩)]) rfl sz_24 (.t (.s4 (.s4 (.s4 (.s (.s .z)))))) (.t .z) rfl (ones rfl) .z (Nat.le_of_ble_eq_true rfl) (.c .z (.c (.s .z) .n))) ?_
 refine FJ.nil (FJ.then_ (FJ.ret (FJ.inBR (FJ.thenR ?_))))
 refine FJ.thenR (FJ.inBR (FJ.thenR ?_))
 refine FJ.doneS (resC (cs := [.int .i64 (nameFault x6), .string (⟨#[]⟩)]) rfl (.s4 (.s4 (.s4 (.s (.s .z))))) ag_24 sz_24 (WS.rows0 (cs := [.int .i64 (nameFault x6), .string (⟨#[]⟩)]) .z (fun _ _ h => h))) .n ?_
 first | (exact ⟨by rw [joinR_c (by assumption)], rfl, joinR_size x⟩) | (exact ⟨by rw [joinR_0 (by assumption)], rfl, joinR_size x⟩) | (exact ⟨by rw [joinR_c (by rw [namesC_2 (by omega)]; decide), namesC_2 (by omega)], rfl, joinR_size x⟩) | (exact ⟨by rw [joinR_0 (namesC_0 (by omega) hallk (by omega))], rfl, joinR_size x⟩) | (exact ⟨by rw [joinR_c (by rw [namesC_n (by omega) hallk hx6 (by assumption)]; assumption), namesC_n (by omega) hallk hx6 (by assumption)], rfl, joinR_size x⟩)
 refine FJ.skip (FJ.inBN (FJ.then_ (FJ.region ?_)))
 refine FJ.ql rfl (q_add (c := ((k + 1 : Nat) : Int)) rfl (.t (.s4 (.s4 (.s .z)))) .c (wr (by omega) (by omega) (by omega))) ?_
 refine FJ.er (.s4 (.s4 (.s (.s .z)))) (FJ.ql rfl (q_move rfl (.t .z)) (FJ.nil ?_))
 refine FJ.again (k + 1) ⟨by omega, all_succ (q := fun _ (s : ByteArray) => nameFault s = 0) hallk hx6 (by first | assumption | omega)⟩ (by first | omega | (dsimp only; omega)) (.c .z (.c (.s4 (.s4 (.s (.s (.s .z))))) (.c (.s4 (.s4 (.s4 .z))) (.c (.s4 (.s4 (.s4 (.s .z)))) (.c (.s4 (.s4 (.s4 (.s (.s .z))))) .n))))) (fun _ h => h.sel (.c .z .n))
 refine FJ.exit (FJ.thenE (FJ.thenE (FJ.inB (FJ.then_ ?_))))
 refine FJ.seq (FJ.region (FJ.ql rfl (q_move rfl (.t (.s4 (.s .z)))) ?_))
 refine FJ.call (goes_list rfl) rfl (by decide) rfl (c_call rfl Tryd.func34 rfl rfl (args1 (.t .z))) .n (fun w1 S1 hs tr => c_34 (tr.ctx h0) (by first | exact (namesOk (by assumption)).2 | exact (namesOk (namesC_0 (by omega) hallk (by omega))).2) (by first | omega | exact (namesOk (by assumption)).1)) ?_
 rintro _ _ ⟨rfl, rfl⟩
 refine FJ.cat .n ?_
 refine FJ.ql rfl (q_build (ps := [(1, .string (joinB x))]) (cs := [.int .i64 0, .string (joinB x)]) rfl bl_24 (by intro act hact; simp only [List.map_toArray, List.map_cons, List.map_nil, (show Val _ _ _ from (.t .z)) act hact]) rfl) ?_
 refine FJ.es (goes_list rfl) rfl (es_store (off := 0) (cs := [.int .i64 0, .string (joinB x)]) rfl sz_24 (.t (.s4 (.s (.s (.s .z))))) (.t .z) rfl (ones rfl) .z (Nat.le_of_ble_eq_true rfl) (.c .z (.c (.s .z) .n))) ?_
 refine FJ.nil (FJ.then_ (FJ.ret ?_))
 refine FJ.doneS (resC (cs := [.int .i64 0, .string (joinB x)]) rfl (.s4 (.s (.s (.s .z)))) ag_24 sz_24 (WS.rows0 (cs := [.int .i64 0, .string (joinB x)]) .z (fun _ _ h => h))) .n ?_
 first | (exact ⟨by rw [joinR_c (by assumption)], rfl, joinR_size x⟩) | (exact ⟨by rw [joinR_0 (by assumption)], rfl, joinR_size x⟩) | (exact ⟨by rw [joinR_c (by rw [namesC_2 (by omega)]; decide), namesC_2 (by omega)], rfl, joinR_size x⟩) | (exact ⟨by rw [joinR_0 (namesC_0 (by omega) hallk (by omega))], rfl, joinR_size x⟩)

end Go.Proofs.YtbfcpfmhmhklnaaDoor

/- What is proved: contracts of functions, one a function. No condition. -/
import Derived.Test.YtbfcpfmhmhklnaaDoorW63
namespace Go.Proofs.YtbfcpfmhmhklnaaDoor
open Go Go.RowKit
set_option linter.unusedVariables false
set_option linter.unusedSimpArgs false
set_option maxHeartbeats 1000000 in
set_option maxRecDepth 20000 in
theorem c_47 {w0 : World} {S0 : Bs} {g0 e0 s0 : Nat} {post0 : List Value} {cd : List UInt8} {Ac : Option Addr} {cc : Nat} (hcd : kSl_5.ro w0 (FF w0 S0) cd [.slice Ac cd.length cc]) {a : Int} (hs : Star [rowA g0 e0 s0 1 ((.slice Ac cd.length cc) :: (.int .i64 a) :: post0)] w0 S0) (ha : 0 ≤ a ∧ a ≤ 990000) :
    Calls Tryd.prog 47 #[.pointer (some ⟨g0, 0, none⟩)] w0 (TriPost w0 S0 (fun r l => ∃ (s : ByteArray) (u : Int), (s.size ≤ 100 ∧ a ≤ u ∧ u ≤ a + 8) ∧ r = .string s ∧ l = [rowA g0 e0 s0 1 (.slice Ac cd.length cc :: .int .i64 u :: post0)])) := by
 obtain ⟨hlc, hmc, hbc⟩ := src_hl hcd
 refine FJ.enter (N := 20) Tryd.func47 rfl rfl (by simp) [(0, .pointer (some ⟨g0, 0, none⟩))] (by simp) hs ?_
 refine FJ.seq (FJ.region (FJ.ql rfl (q_assign rfl .c) (FJ.nil (FJ.then_ ?_))))
 refine FJ.seq (FJ.region ?_)
 refine FJ.e (goes_list rfl) rfl (by decide) rfl (e_buildNil rfl u_28 (inz inf_9)) ?_
 rintro _ _ ⟨g2, rfl, rfl⟩
 refine FJ.ql rfl (q_assign rfl (.t .z)) (FJ.nil (FJ.then_ (FJ.seq (FJ.seq ?_))))
 refine FJ.region (FJ.ql rfl (q_move rfl (.t (.s (.s (.s .z))))) ?_)
 refine FJ.e (goes_list rfl) rfl (by decide) rfl (e_buildSliceL (ps := [(0, .int .i64 1), (1, .int .i64 1), (2, .int .i64 2), (3, .int .i64 2), (4, .int .i64 3), (5, .int .i64 0)]) (cs := [.int .i64 1, .int .i64 1, .int .i64 2, .int .i64 2, .int .i64 3, .int .i64 0]) rfl u_72 (inz inf_2) (by decide) (by intro act hact; simp only [List.map_toArray, List.map_cons, List.map_nil, (show Val _ _ _ from .c) act hact, (show Val _ _ _ from .c) act hact, (show Val _ _ _ from .c) act hact, (show Val _ _ _ from .c) act hact, (show Val _ _ _ from .c) act hact, (show Val _ _ _ from .c) act hact]) rfl rfl (by decide) rfl rfl) ?_
 rintro _ _ ⟨g3, rfl, rfl⟩
 refine FJ.turns (c := ownA kSl_2 ([1, 1, 2, 2, 3, 0] : (List Int)) [.slice (some ⟨g3, 0, none⟩) 6 6]) (.c .z .n) (fun w S h => lit_own (xs := ([1, 1, 2, 2, 3, 0] : (List Int))) h rfl (by simp) (by omega) (by omega)) ?_
 refine FJ.call (goes_list rfl) rfl (by decide) rfl (c_call rfl Tryd.func54 rfl rfl (args2 (.t (.s .z)) (.t .z))) (.c (.s (.s .z)) .n) (fun w1 S1 hs tr => c_54 (tr.ctx hcd) (tr.own .z) hs (by omega) (by simp)) ?_
 rintro _ _ ⟨m5, hm5, rfl, rfl⟩
 refine FJ.cat (.c .n) ?_
 simp only [List.mem_cons, List.not_mem_nil, or_false] at hm5
 refine FJ.ql rfl (q_assign rfl (.t .z)) (FJ.nil (FJ.then_ (FJ.block ?_)))
 refine FJ.add (c := ownA kSl_9 ([] : (List ByteArray)) [.slice (some ⟨g2, 0, none⟩) 0 0]) (fun w S => own_nil w S _) ?_
 refine FJ.loopi (γ := (Option Addr) × Nat × Int × Int × (List ByteArray)) (fun ⟨Agq0, cgq0, n, z, o⟩ => [(4, .int .i64 n), (3, .slice Agq0 o.length cgq0), (2, .string (⟨#[]⟩)), (0, .pointer (some ⟨g0, 0, none⟩))]) (fun ⟨Agq0, cgq0, n, z, o⟩ => [ownA kSl_9 o [.slice Agq0 o.length cgq0], rowA g0 e0 s0 1 ((.slice Ac cd.length cc) :: (.int .i64 z) :: post0), ownA kSl_2 ([1, 1, 2, 2, 3, 0] : (List Int)) [.slice (some ⟨g3, 0, none⟩) 6 6], rowA g2 9 1 0 []]) (fun ⟨Agq0, cgq0, n, z, o⟩ => (0 ≤ n ∧ n ≤ 3) ∧ (a ≤ z ∧ z + n ≤ a + 5) ∧ (∀ s, s ∈ o → nameFault s = 0) ∧ (o.length : Int) + n ≤ 3) (fun ⟨Agq0, cgq0, n, z, o⟩ => n.toNat) ((some ⟨g2, 0, none⟩), 0, m5, (a + 1), []) ⟨by omega, by omega, fun s h => absurd h (by simp), by simp only [List.length_nil]; omega⟩ (.c .z (.c (.s4 .z) (.c (.s4 (.s (.s .z))) (.c (.s4 (.s (.s (.s .z)))) .n)))) (fun _ h => h.sel (.c .z (.c .z (.c .z (.c .z .n))))) ?_
 rintro ⟨Agq0, cgq0, n, z, o⟩ ⟨hn, hz, ho, hol⟩
 refine FJ.seq (FJ.seq (FJ.region (FJ.ql rfl (q_move rfl (.t .z)) (FJ.ql rfl (q_gtr rfl (.t .z) .c) ?_))))
 refine FJ.nil (FJ.then_ ?_)
 refine FJ.condP (.t .z) (fun b7 => ?_) (fun b7 => ?_)
 refine FJ.skip (FJ.then_ (FJ.seq (FJ.block (FJ.region ?_))))
 refine FJ.ql rfl (q_move rfl (.t (.s (.s (.s .z))))) (FJ.ql rfl (q_move rfl (.t (.s4 (.s (.s .z))))) ?_)
 refine FJ.call (goes_list rfl) rfl (by decide) rfl (c_call rfl Tryd.func55 rfl rfl (args1 (.t .z))) (.c (.s .z) .n) (fun w1 S1 hs tr => c_55 (tr.ctx hcd) hs (by omega)) ?_
 rintro _ _ ⟨t8, hft8, rfl, rfl⟩
 refine FJ.cat (.c .n) ?_
 have hzt8 := (name_4 hft8).1
 refine FJ.e (goes_list rfl) rfl (by decide) rfl (e_buildSliceL (ps := [(0, .string t8)]) (cs := [.string t8]) rfl u_28 (inz inf_9) (by decide) (by intro act hact; simp only [List.map_toArray, List.map_cons, List.map_nil, (show Val _ _ _ from (.t .z)) act hact]) rfl rfl (by decide) rfl rfl) ?_
 rintro _ _ ⟨g10, rfl, rfl⟩
 refine FJ.add (c := ownA kstr t8 [.string t8]) (fun _ _ => ⟨rfl, by first | assumption | omega⟩) ?_
 refine FJ.e (goes_list rfl) rfl (by decide) rfl (e_append1 rfl u_28 inf_9 rfl (.t (.s (.s (.s .z)))) (.t .z) (.c (.s (.s (.s .z))) (.c (.s .z) (.c .z .n))) (by first | omega | (simp only [List.length_append, List.length_cons, List.length_nil]; omega)) (by first | omega | (simp only [List.length_append, List.length_cons, List.length_nil]; omega))) ?_
 rintro _ _ rfl
 refine FJ.know (WS.oform .z) ?_
 rintro ⟨Ao12, co12, rfl, hlo12, hmo12, hbo12⟩
 refine FJ.er (.s4 (.s4 .z)) (FJ.ql rfl (q_assign rfl (.t .z)) (FJ.nil (FJ.inBN (FJ.then_ ?_))))
 refine FJ.region (FJ.ql rfl (q_move rfl (.t (.s4 (.s4 .z)))) ?_)
 refine FJ.ql rfl (q_sub (c := n - 1) rfl (.t .z) .c (wr (by omega) (by omega) (by omega))) ?_
 refine FJ.er (.s4 (.s4 (.s (.s .z)))) (FJ.ql rfl (q_assign rfl (.t .z)) (FJ.nil ?_))
 refine FJ.again (Ao12, co12, n - 1, (z + 1), o ++ [t8]) ⟨by omega, by omega, (fun s h => (List.mem_append.1 h).elim (ho s) (fun h => by obtain rfl := List.mem_singleton.1 h; assumption)), by simp only [List.length_append, List.length_cons, List.length_nil]; omega⟩ (by first | omega | (dsimp only; omega)) (.c .z (.c (.s (.s (.s .z))) (.c (.s4 (.s4 (.s (.s (.s .z))))) (.c (.s4 (.s4 (.s4 .z))) .n)))) (fun _ h => h.sel (.c .z (.c .z (.c .z (.c .z .n)))))
 refine FJ.exit (FJ.thenE (FJ.thenE (FJ.inB (FJ.then_ ?_))))
 refine FJ.seq (FJ.region (FJ.ql rfl (q_move rfl (.t (.s (.s (.s .z))))) ?_))
 refine FJ.call (goes_list rfl) rfl (by decide) rfl (c_call rfl Tryd.func33 rfl rfl (args1 (.t .z))) .n (fun w1 S1 hs tr => c_33 (tr.own .z) (by exact ho) (by omega)) ?_
 rintro _ _ ⟨rfl, rfl⟩
 refine FJ.cat .n ?_
 refine FJ.er (.s4 (.s (.s .z))) (FJ.ql rfl (q_assign rfl (.t .z)) (FJ.nil (FJ.then_ (FJ.ret ?_))))
 refine FJ.doneS (res1 rfl .z) (.c (.s .z) .n) ?_
 exact ⟨_, _, ⟨by have := joinB_size ho; omega, by omega, by omega⟩, rfl, rfl⟩

set_option maxHeartbeats 1000000 in
set_option maxRecDepth 20000 in
theorem c_35 {w0 : World} {S0 : Bs} {g0 e0 s0 : Nat} {post0 : List Value} {cd : List UInt8} {Ac : Option Addr} {cc : Nat} (hcd : kSl_5.ro w0 (FF w0 S0) cd [.slice Ac cd.length cc]) {a : Int} (hs : Star [rowA g0 e0 s0 1 ((.slice Ac cd.length cc) :: (.int .i64 a) :: post0)] w0 S0) (ha : 0 ≤ a ∧ a ≤ 980000) :
    Calls Tryd.prog 35 #[.pointer (some ⟨g0, 0, none⟩)] w0 (TriPost w0 S0 (fun r l => ∃ (s : ByteArray) (u : Int), (s.size ≤ 100 ∧ a ≤ u ∧ u ≤ a + 10) ∧ r = .string s ∧ l = [rowA g0 e0 s0 1 (.slice Ac cd.length cc :: .int .i64 u :: post0)])) := by
 obtain ⟨hlc, hmc, hbc⟩ := src_hl hcd
 refine FJ.enter (N := 12) Tryd.func35 rfl rfl (by simp) [(0, .pointer (some ⟨g0, 0, none⟩))] (by simp) hs ?_
 refine FJ.seq (FJ.region (FJ.ql rfl (q_assign rfl .c) (FJ.nil (FJ.then_ ?_))))
 refine FJ.seq (FJ.seq (FJ.region (FJ.ql rfl (q_move rfl (.t (.s .z))) ?_)))
 refine FJ.call (goes_list rfl) rfl (by decide) rfl (c_call rfl Tryd.func46 rfl rfl (args2 (.t .z) .c)) (.c .z .n) (fun w1 S1 hs tr => c_46 (tr.ctx hcd) _ hs (by omega) (by omega)) ?_
 rintro _ _ ⟨b2, rfl, rfl⟩
 refine FJ.cat (.c .n) ?_
 refine FJ.nil (FJ.then_ ?_)
 refine FJ.cond (.t .z) (fun b3 => ?_) (fun b3 => ?_)
 refine FJ.seq (FJ.region ?_)
 refine FJ.e (goes_list rfl) rfl (by decide) rfl (e_buildSliceL (ps := [(0, .string (⟨#[]⟩)), (1, .string (⟨#[97]⟩)), (2, .string (⟨#[47, 97, 47]⟩)), (3, .string (⟨#[47, 47]⟩)), (4, .string (⟨#[47, 65]⟩)), (5, .string (⟨#[47, 97, 98, 99, 100, 101]⟩)), (6, .string (⟨#[47, 97, 47, 98, 47, 99, 47, 100, 47, 97, 47, 98, 47, 99]⟩)), (7, .string (⟨#[47, 97, 32, 98]⟩)), (8, .string (⟨#[47, 104, 97, 108, 108, 47, 104, 97, 108, 108, 47, 104, 97, 108, 108, 47, 104, 97, 108, 108, 47, 104, 97, 108, 108, 47, 104, 97, 108, 108]⟩)), (9, .string (⟨#[47, 104, 97, 108, 108, 47, 104, 97, 108, 108, 47, 104, 97, 108, 108, 47, 104, 97, 108, 108, 47, 104, 97, 108, 108, 47, 104, 97, 108, 108, 115]⟩))]) (cs := [.string (⟨#[]⟩), .string (⟨#[97]⟩), .string (⟨#[47, 97, 47]⟩), .string (⟨#[47, 47]⟩), .string (⟨#[47, 65]⟩), .string (⟨#[47, 97, 98, 99, 100, 101]⟩), .string (⟨#[47, 97, 47, 98, 47, 99, 47, 100, 47, 97, 47, 98, 47, 99]⟩), .string (⟨#[47, 97, 32, 98]⟩), .string (⟨#[47, 104, 97, 108, 108, 47, 104, 97, 108, 108, 47, 104, 97, 108, 108, 47, 104, 97, 108, 108, 47, 104, 97, 108, 108, 47, 104, 97, 108, 108]⟩), .string (⟨#[47, 104, 97, 108, 108, 47, 104, 97, 108, 108, 47, 104, 97, 108, 108, 47, 104, 97, 108, 108, 47, 104, 97, 108, 108, 47, 104, 97, 108, 108, 115]⟩)]) rfl u_28 (inz inf_9) (by decide) (by intro act hact; simp only [List.map_toArray, List.map_cons, List.map_nil, (show Val _ _ _ from .c) act hact, (show Val _ _ _ from .c) act hact, (show Val _ _ _ from .c) act hact, (show Val _ _ _ from .c) act hact, (show Val _ _ _ from .c) act hact, (show Val _ _ _ from .c) act hact, (show Val _ _ _ from .c) act hact, (show Val _ _ _ from .c) act hact, (show Val _ _ _ from .c) act hact, (show Val _ _ _ from .c) act hact]) rfl rfl (by decide) rfl rfl) ?_
 rintro _ _ ⟨g4, rfl, rfl⟩
 refine FJ.ql rfl (q_move rfl (.t (.s4 .z))) ?_
 refine FJ.call (goes_list rfl) rfl (by decide) rfl (c_call rfl Tryd.func38 rfl rfl (args2 (.t .z) .c)) (.c (.s .z) .n) (fun w1 S1 hs tr => c_38 (tr.ctx hcd) _ hs (by omega) (by omega)) ?_
 rintro _ _ ⟨m5, h0m5, h1m5, rfl, rfl⟩
 refine FJ.cat (.c .n) ?_
 refine FJ.turns (c := ownA kSl_9 ([⟨#[]⟩, ⟨#[97]⟩, ⟨#[47, 97, 47]⟩, ⟨#[47, 47]⟩, ⟨#[47, 65]⟩, ⟨#[47, 97, 98, 99, 100, 101]⟩, ⟨#[47, 97, 47, 98, 47, 99, 47, 100, 47, 97, 47, 98, 47, 99]⟩, ⟨#[47, 97, 32, 98]⟩, ⟨#[47, 104, 97, 108, 108, 47, 104, 97, 108, 108, 47, 104, 97, 108, 108, 47, 104, 97, 108, 108, 47, 104, 97, 108, 108, 47, 104, 97, 108, 108]⟩, ⟨#[47, 104, 97, 108, 108, 47, 104, 97, 108, 108, 47, 104, 97, 108, 108, 47, 104, 97, 108, 108, 47, 104, 97, 108, 108, 47, 104, 97, 108, 108, 115]⟩] : (List ByteArray)) [.slice (some ⟨g4, 0, none⟩) 10 10]) (.c (.s .z) .n) (fun w S h => lit_own (xs := ([⟨#[]⟩, ⟨#[97]⟩, ⟨#[47, 97, 47]⟩, ⟨#[47, 47]⟩, ⟨#[47, 65]⟩, ⟨#[47, 97, 98, 99, 100, 101]⟩, ⟨#[47, 97, 47, 98, 47, 99, 47, 100, 47, 97, 47, 98, 47, 99]⟩, ⟨#[47, 97, 32, 98]⟩, ⟨#[47, 104, 97, 108, 108, 47, 104, 97, 108, 108, 47, 104, 97, 108, 108, 47, 104, 97, 108, 108, 47, 104, 97, 108, 108, 47, 104, 97, 108, 108]⟩, ⟨#[47, 104, 97, 108, 108, 47, 104, 97, 108, 108, 47, 104, 97, 108, 108, 47, 104, 97, 108, 108, 47, 104, 97, 108, 108, 47, 104, 97, 108, 108, 115]⟩] : (List ByteArray))) h rfl (by decide) (by omega) (by omega)) ?_
 refine FJ.ql rfl (q_indexAddr (j := Int.toNat m5) rfl u_28 sz_9 (.t (.s (.s .z))) (.t .z) (by omega) (by first | omega | (simp only [List.length_cons, List.length_nil]; omega))) ?_
 obtain ⟨x7, hx7⟩ := get_ex (xs := ([⟨#[]⟩, ⟨#[97]⟩, ⟨#[47, 97, 47]⟩, ⟨#[47, 47]⟩, ⟨#[47, 65]⟩, ⟨#[47, 97, 98, 99, 100, 101]⟩, ⟨#[47, 97, 47, 98, 47, 99, 47, 100, 47, 97, 47, 98, 47, 99]⟩, ⟨#[47, 97, 32, 98]⟩, ⟨#[47, 104, 97, 108, 108, 47, 104, 97, 108, 108, 47, 104, 97, 108, 108, 47, 104, 97, 108, 108, 47, 104, 97, 108, 108, 47, 104, 97, 108, 108]⟩, ⟨#[47, 104, 97, 108, 108, 47, 104, 97, 108, 108, 47, 104, 97, 108, 108, 47, 104, 97, 108, 108, 47, 104, 97, 108, 108, 47, 104, 97, 108, 108, 115]⟩] : (List ByteArray))) (j := Int.toNat m5) (by first | omega | (simp only [List.length_cons, List.length_nil]; omega))
 refine FJ.ql rfl (q_load rfl ag_9 (.t .z) (WS.oel .z hx7)) (FJ.er (.s4 (.s (.s (.s .z)))) (FJ.ql rfl (q_assign rfl (.t .z)) (FJ.nil (FJ.then_ ?_))))
 refine FJ.ret (FJ.thenR ?_)
 refine FJ.doneS (res1 rfl .z) (.c (.s .z) .n) ?_
 first | (exact ⟨_, _, ⟨by omega, by omega, by omega⟩, rfl, rfl⟩) | (exact ⟨_, _, ⟨drawn_tx _ (List.mem_of_getElem? (by assumption)), by omega, by omega⟩, rfl, rfl⟩)
 refine FJ.skip (FJ.then_ (FJ.seq (FJ.region (FJ.ql rfl (q_move rfl (.t (.s (.s (.s .z))))) ?_))))
 refine FJ.call (goes_list rfl) rfl (by decide) rfl (c_call rfl Tryd.func47 rfl rfl (args1 (.t .z))) (.c .z .n) (fun w1 S1 hs tr => c_47 (tr.ctx hcd) hs (by omega)) ?_
 rintro _ _ ⟨t8, u9, hzt8, rfl, rfl⟩
 refine FJ.cat (.c .n) ?_
 refine FJ.er (.s4 .z) (FJ.ql rfl (q_assign rfl (.t .z)) (FJ.nil (FJ.then_ (FJ.ret ?_))))
 refine FJ.doneS (res1 rfl .z) (.c .z .n) ?_
 first | (exact ⟨_, _, ⟨by omega, by omega, by omega⟩, rfl, rfl⟩) | (exact ⟨_, _, ⟨drawn_tx _ (List.mem_of_getElem? (by assumption)), by omega, by omega⟩, rfl, rfl⟩)

set_option maxHeartbeats 1000000 in
set_option maxRecDepth 20000 in
theorem c_21 {w0 : World} {S0 : Bs} {cd : (List UInt8)} {v0 : Value} (h0 : kSl_5.ro w0 (FF w0 S0) cd [v0])  :
    Calls Tryd.prog 21 #[v0] w0 (TriPost w0 S0 (fun r l => ∃ s : ByteArray, s.size ≤ 100 ∧ r = .string s ∧ l = [])) := by
 obtain ⟨A0, c0, rfl, hl0, hm0, hb0, he0⟩ := ro_form h0
 refine FJ.enter (N := 6) Tryd.func21 rfl rfl (by simp) [(0, .slice A0 cd.length c0)] (by simp) (l0 := []) trivial ?_
 refine FJ.seq (FJ.region (FJ.ql rfl (q_assign rfl .c) (FJ.nil (FJ.then_ ?_))))
 refine FJ.seq (FJ.region (FJ.ql rfl (q_move rfl (.t (.s .z))) ?_))
 refine FJ.call (goes_list rfl) rfl (by decide) rfl (c_call rfl Tryd.func36 rfl rfl (args1 (.t .z))) .n (fun w1 S1 hs tr => c_36 (tr.ctx h0)) ?_
 rintro _ _ ⟨g2, rfl, rfl⟩
 refine FJ.cat (.c .n) ?_
 refine FJ.call (goes_list rfl) rfl (by decide) rfl (c_call rfl Tryd.func35 rfl rfl (args1 (.t .z))) (.c .z .n) (fun w1 S1 hs tr => c_35 (tr.ctx h0) hs (by omega)) ?_
 rintro _ _ ⟨t3, u4, hzt3, rfl, rfl⟩
 refine FJ.cat (.c .n) ?_
 refine FJ.er (.s (.s (.s .z))) (FJ.ql rfl (q_assign rfl (.t .z)) (FJ.nil (FJ.then_ (FJ.ret ?_))))
 refine FJ.doneS (res1 rfl .z) .n ?_
 exact ⟨_, by omega, rfl, rfl⟩

end Go.Proofs.YtbfcpfmhmhklnaaDoor

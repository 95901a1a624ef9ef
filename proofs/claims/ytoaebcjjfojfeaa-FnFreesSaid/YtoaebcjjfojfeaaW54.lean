/- What is proved: contracts of functions, one a function. No condition. -/
import Derived.Test.YtoaebcjjfojfeaaW51
namespace Go.Proofs.Ytoaebcjjfojfeaa
open Go Go.RowKit
set_option linter.unusedVariables false
set_option linter.unusedSimpArgs false
set_option maxHeartbeats 1000000 in
set_option maxRecDepth 20000 in
theorem c_109 {w0 : World} {S0 : Bs} {g0 e0 s0 : Nat} {post0 : List Value} {cd : List UInt8} {Ac : Option Addr} {cc : Nat} (hcd : kSl_5.ro w0 (FF w0 S0) cd [.slice Ac cd.length cc]) {a : Int} (hs : Star [rowA g0 e0 s0 1 ((.slice Ac cd.length cc) :: (.int .i64 a) :: post0)] w0 S0) (ha : 0 ≤ a ∧ a ≤ 990000) :
    Calls Try.prog 109 #[.pointer (some ⟨g0, 0, none⟩)] w0 (TriPost w0 S0 (fun r l => ∃ (x : List Int) (u : Int), (x.length ≤ 30 ∧ a ≤ u ∧ u ≤ a + 12) ∧ l = [ownA kSl_2 x [r], rowA g0 e0 s0 1 (.slice Ac cd.length cc :: .int .i64 u :: post0)])) := by
 obtain ⟨hlc, hmc, hbc⟩ := src_hl hcd
 refine FJ.enter (N := 31) Try.func109 rfl rfl (by simp) [(0, .pointer (some ⟨g0, 0, none⟩))] (by simp) hs ?_
 refine FJ.seq (FJ.region (FJ.ql rfl (q_assign rfl .c) (FJ.nil (FJ.then_ ?_))))
 refine FJ.seq (FJ.region ?_)
 refine FJ.e (goes_list rfl) rfl (by decide) rfl (e_buildNil rfl u_22 (inz inf_2)) ?_
 rintro _ _ ⟨g2, rfl, rfl⟩
 refine FJ.ql rfl (q_assign rfl (.t .z)) (FJ.nil (FJ.then_ (FJ.seq (FJ.seq ?_))))
 refine FJ.region (FJ.ql rfl (q_move rfl (.t (.s (.s (.s .z))))) ?_)
 refine FJ.call (goes_list rfl) rfl (by decide) rfl (c_call rfl Try.func93 rfl rfl (args2 (.t .z) .c)) (.c (.s .z) .n) (fun w1 S1 hs tr => c_93 (tr.ctx hcd) _ hs (by omega) (by omega)) ?_
 rintro _ _ ⟨m3, h0m3, h1m3, rfl, rfl⟩
 refine FJ.cat (.c .n) ?_
 refine FJ.ql rfl (q_assign rfl (.t .z)) (FJ.nil (FJ.then_ (FJ.block ?_)))
 refine FJ.add (c := ownA kSl_2 ([] : (List Int)) [.slice (some ⟨g2, 0, none⟩) 0 0]) (fun w S => own_nil w S _) ?_
 refine FJ.loopi (γ := (Option Addr) × Nat × Int × Int × (List Int)) (fun ⟨Agq0, cgq0, n, z, o⟩ => [(4, .int .i64 n), (3, .slice Agq0 o.length cgq0), (2, .slice none 0 0), (0, .pointer (some ⟨g0, 0, none⟩))]) (fun ⟨Agq0, cgq0, n, z, o⟩ => [ownA kSl_2 o [.slice Agq0 o.length cgq0], rowA g0 e0 s0 1 ((.slice Ac cd.length cc) :: (.int .i64 z) :: post0), rowA g2 2 1 0 []]) (fun ⟨Agq0, cgq0, n, z, o⟩ => (0 ≤ n ∧ n ≤ 5) ∧ (a ≤ z ∧ z + n ≤ a + 7) ∧ (o.length : Int) + n ≤ 5) (fun ⟨Agq0, cgq0, n, z, o⟩ => n.toNat) ((some ⟨g2, 0, none⟩), 0, m3, (a + 1), []) ⟨by omega, by omega, by simp only [List.length_nil]; omega⟩ (.c .z (.c (.s (.s (.s .z))) (.c (.s4 (.s .z)) (.c (.s4 (.s (.s .z))) .n)))) (fun _ h => h.sel (.c .z (.c .z (.c .z .n)))) ?_
 rintro ⟨Agq0, cgq0, n, z, o⟩ ⟨hn, hz, hol⟩
 refine FJ.seq (FJ.seq (FJ.region (FJ.ql rfl (q_move rfl (.t .z)) (FJ.ql rfl (q_gtr rfl (.t .z) .c) ?_))))
 refine FJ.nil (FJ.then_ ?_)
 refine FJ.condP (.t .z) (fun b5 => ?_) (fun b5 => ?_)
 refine FJ.skip (FJ.then_ (FJ.seq (FJ.block (FJ.region ?_))))
 refine FJ.ql rfl (q_move rfl (.t (.s (.s (.s .z))))) (FJ.ql rfl (q_move rfl (.t (.s4 (.s (.s .z))))) ?_)
 refine FJ.call (goes_list rfl) rfl (by decide) rfl (c_call rfl Try.func93 rfl rfl (args2 (.t .z) .c)) (.c (.s .z) .n) (fun w1 S1 hs tr => c_93 (tr.ctx hcd) _ hs (by omega) (by omega)) ?_
 rintro _ _ ⟨m6, h0m6, h1m6, rfl, rfl⟩
 refine FJ.cat (.c .n) ?_
 refine FJ.e (goes_list rfl) rfl (by decide) rfl (e_buildSliceL (ps := [(0, .int .i64 m6)]) (cs := [.int .i64 m6]) rfl u_22 (inz inf_2) (by decide) (by intro act hact; simp only [List.map_toArray, List.map_cons, List.map_nil, (show Val _ _ _ from (.t .z)) act hact]) rfl rfl (by decide) rfl rfl) ?_
 rintro _ _ ⟨g7, rfl, rfl⟩
 refine FJ.add (c := ownA (kint .i64) m6 [.int .i64 m6]) (fun _ _ => ⟨rfl, trivial⟩) ?_
 refine FJ.e (goes_list rfl) rfl (by decide) rfl (e_append1 rfl u_22 inf_2 rfl (.t (.s (.s (.s .z)))) (.t .z) (.c (.s (.s (.s .z))) (.c (.s .z) (.c .z .n))) (by first | omega | (simp only [List.length_append, List.length_cons, List.length_nil, List.length_replicate]; omega)) (by first | omega | (simp only [List.length_append, List.length_cons, List.length_nil, List.length_replicate]; omega))) ?_
 rintro _ _ rfl
 refine FJ.know (WS.oform .z) ?_
 rintro ⟨Ao9, co9, rfl, hlo9, hmo9, hbo9⟩
 refine FJ.er (.s4 (.s4 .z)) (FJ.ql rfl (q_assign rfl (.t .z)) (FJ.nil (FJ.inBN (FJ.then_ ?_))))
 refine FJ.region (FJ.ql rfl (q_move rfl (.t (.s4 (.s4 .z)))) ?_)
 refine FJ.ql rfl (q_sub (c := n - 1) rfl (.t .z) .c (wr (by omega) (by omega) (by omega))) ?_
 refine FJ.er (.s4 (.s4 (.s (.s .z)))) (FJ.ql rfl (q_assign rfl (.t .z)) (FJ.nil ?_))
 refine FJ.again (Ao9, co9, n - 1, (z + 1), o ++ [m6]) ⟨by omega, by omega, by simp only [List.length_append, List.length_cons, List.length_nil]; omega⟩ (by first | omega | (dsimp only; omega)) (.c .z (.c (.s (.s (.s .z))) (.c (.s4 (.s4 (.s (.s (.s .z))))) (.c (.s4 (.s4 (.s4 .z))) .n)))) (fun _ h => h.sel (.c .z (.c .z (.c .z .n))))
 refine FJ.exit (FJ.thenE (FJ.thenE (FJ.inB (FJ.then_ ?_))))
 refine FJ.seq (FJ.seq (FJ.region (FJ.ql rfl (q_move rfl (.t (.s4 (.s .z)))) ?_)))
 refine FJ.call (goes_list rfl) rfl (by decide) rfl (c_call rfl Try.func93 rfl rfl (args2 (.t .z) .c)) (.c (.s .z) .n) (fun w1 S1 hs tr => c_93 (tr.ctx hcd) _ hs (by omega) (by omega)) ?_
 rintro _ _ ⟨m10, h0m10, h1m10, rfl, rfl⟩
 refine FJ.cat (.c .n) ?_
 refine FJ.nil (FJ.then_ (FJ.block (FJ.seq (FJ.region ?_))))
 refine FJ.ql rfl (q_eql rfl (.t .z) .c) (FJ.ql rfl (q_assign rfl (.t .z)) (FJ.nil (FJ.then_ ?_)))
 refine FJ.condP (.t .z) (fun b11 => ?_) (fun b11 => ?_)
 refine FJ.region (FJ.ql rfl (q_move rfl (.t (.s4 (.s (.s (.s .z)))))) (FJ.ql rfl (q_move rfl (.t (.s4 (.s4 (.s (.s .z)))))) ?_))
 refine FJ.e (goes_list rfl) rfl (by decide) rfl (e_buildSliceL (ps := [(0, .int .i64 (-1)), (1, .int .i64 20)]) (cs := [.int .i64 (-1), .int .i64 20]) rfl u_22 (inz inf_2) (by decide) (by intro act hact; simp only [List.map_toArray, List.map_cons, List.map_nil, (show Val _ _ _ from .c) act hact, (show Val _ _ _ from .c) act hact]) rfl rfl (by decide) rfl rfl) ?_
 rintro _ _ ⟨g12, rfl, rfl⟩
 refine FJ.turns (c := ownA kSl_2 ([(-1), 20] : (List Int)) [.slice (some ⟨g12, 0, none⟩) 2 2]) (.c .z .n) (fun w S h => lit_own (xs := ([(-1), 20] : (List Int))) h rfl (by simp) (by omega) (by omega)) ?_
 refine FJ.call (goes_list rfl) rfl (by decide) rfl (c_call rfl Try.func94 rfl rfl (args2 (.t (.s .z)) (.t .z))) (.c (.s .z) .n) (fun w1 S1 hs tr => c_94 (tr.ctx hcd) (tr.own .z) hs (by omega) (by simp)) ?_
 rintro _ _ ⟨m14, hm14, rfl, rfl⟩
 refine FJ.cat (.c .n) ?_
 simp only [List.mem_cons, List.not_mem_nil, or_false] at hm14
 refine FJ.e (goes_list rfl) rfl (by decide) rfl (e_buildSliceL (ps := [(0, .int .i64 m14)]) (cs := [.int .i64 m14]) rfl u_22 (inz inf_2) (by decide) (by intro act hact; simp only [List.map_toArray, List.map_cons, List.map_nil, (show Val _ _ _ from (.t .z)) act hact]) rfl rfl (by decide) rfl rfl) ?_
 rintro _ _ ⟨g15, rfl, rfl⟩
 refine FJ.add (c := ownA (kint .i64) m14 [.int .i64 m14]) (fun _ _ => ⟨rfl, trivial⟩) ?_
 refine FJ.e (goes_list rfl) rfl (by decide) rfl (e_append1 rfl u_22 inf_2 rfl (.t (.s4 .z)) (.t .z) (.c (.s4 .z) (.c (.s .z) (.c .z .n))) (by first | omega | (simp only [List.length_append, List.length_cons, List.length_nil, List.length_replicate]; omega)) (by first | omega | (simp only [List.length_append, List.length_cons, List.length_nil, List.length_replicate]; omega))) ?_
 rintro _ _ rfl
 refine FJ.know (WS.oform .z) ?_
 rintro ⟨Ao17, co17, rfl, hlo17, hmo17, hbo17⟩
 refine FJ.er (.s4 (.s4 (.s4 (.s .z)))) (FJ.ql rfl (q_assign rfl (.t .z)) (FJ.nil (FJ.inBN (FJ.then_ ?_))))
 refine FJ.seq (FJ.region (FJ.ql rfl (q_move rfl (.t .z)) (FJ.er (.s4 (.s4 (.s4 (.s (.s (.s .z)))))) (FJ.ql rfl (q_assign rfl (.t .z)) ?_))))
 refine FJ.nil (FJ.then_ (FJ.ret ?_))
 refine FJ.doneS (res1 rfl .z) (.c .z (.c .z .n)) ?_
 exact ⟨_, _, ⟨by first | omega | (simp only [List.length_append, List.length_cons, List.length_nil, List.length_replicate]; omega), by omega, by omega⟩, rfl⟩
 refine FJ.seq (FJ.region (FJ.ql rfl (q_eql rfl (.t (.s (.s .z))) .c) (FJ.ql rfl (q_assign rfl (.t .z)) (FJ.nil ?_))))
 refine FJ.then_ ?_
 refine FJ.condP (.t .z) (fun b18 => ?_) (fun b18 => ?_)
 refine FJ.region ?_
 refine FJ.e (goes_list rfl) rfl (by decide) rfl (e_makeSlice (n := 21) (x0 := (0 : Int)) rfl u_22 inf_2 rfl (fun _ _ => ⟨rfl, trivial⟩) .c .c (by omega) (by omega)) ?_
 rintro _ _ rfl
 refine FJ.know (WS.oform .z) ?_
 rintro ⟨Ao20, co20, rfl, hlo20, hmo20, hbo20⟩
 refine FJ.er (.s4 (.s4 (.s (.s .z)))) (FJ.ql rfl (q_assign rfl (.t .z)) (FJ.nil (FJ.inBN (FJ.then_ ?_))))
 refine FJ.seq (FJ.region (FJ.ql rfl (q_move rfl (.t .z)) (FJ.er (.s4 (.s4 (.s4 .z))) (FJ.ql rfl (q_assign rfl (.t .z)) ?_))))
 refine FJ.nil (FJ.then_ (FJ.ret ?_))
 refine FJ.doneS (res1 rfl .z) (.c .z (.c .z .n)) ?_
 exact ⟨_, _, ⟨by first | omega | (simp only [List.length_append, List.length_cons, List.length_nil, List.length_replicate]; omega), by omega, by omega⟩, rfl⟩
 refine FJ.skip (FJ.inBN (FJ.then_ (FJ.seq (FJ.region ?_))))
 refine FJ.ql rfl (q_move rfl (.t (.s4 (.s4 (.s .z))))) (FJ.er (.s4 (.s4 (.s (.s (.s .z))))) (FJ.ql rfl (q_assign rfl (.t .z)) (FJ.nil (FJ.then_ ?_))))
 refine FJ.ret ?_
 refine FJ.doneS (res1 rfl .z) (.c (.s .z) (.c .z .n)) ?_
 exact ⟨_, _, ⟨by first | omega | (simp only [List.length_append, List.length_cons, List.length_nil, List.length_replicate]; omega), by omega, by omega⟩, rfl⟩

end Go.Proofs.Ytoaebcjjfojfeaa

/- What is proved: contracts of functions, one a function. No condition. -/
import Derived.Test.YtoaebcjjfojfeaaW55
import Derived.Test.YtoaebcjjfojfeaaW54
namespace Go.Proofs.Ytoaebcjjfojfeaa
open Go Go.RowKit
set_option linter.unusedVariables false
set_option linter.unusedSimpArgs false
set_option maxHeartbeats 1000000 in
set_option maxRecDepth 20000 in
theorem c_59 {w0 : World} {S0 : Bs} {cd : (List UInt8)} {v0 : Value} (h0 : kSl_5.ro w0 (FF w0 S0) cd [v0])  :
    Calls Try.prog 59 #[v0] w0 (TriPost w0 S0 (fun r l => ∃ (x : List DInode) (v0_ : Value) (b : List Int) (v1_ : Value) (n : Int), (x.length ≤ 11 ∧ b.length ≤ 30 ∧ -1 ≤ n ∧ n ≤ 5) ∧ r = .tuple #[v0_, v1_, .int .i64 n] ∧ l = [ownA kSl_30 x [v0_], ownA kSl_2 b [v1_]])) := by
 obtain ⟨A0, c0, rfl, hl0, hm0, hb0, he0⟩ := ro_form h0
 refine FJ.enter (N := 34) Try.func59 rfl rfl (by simp) [(0, .slice A0 cd.length c0)] (by simp) (l0 := []) trivial ?_
 refine FJ.seq (FJ.region (FJ.ql rfl (q_assign rfl .c) (FJ.ql rfl (q_assign rfl .c) (FJ.ql rfl (q_assign rfl .c) ?_))))
 refine FJ.nil (FJ.then_ (FJ.seq (FJ.region (FJ.ql rfl (q_move rfl (.t (.s (.s (.s .z))))) ?_))))
 refine FJ.call (goes_list rfl) rfl (by decide) rfl (c_call rfl Try.func91 rfl rfl (args1 (.t .z))) .n (fun w1 S1 hs tr => c_91 (tr.ctx h0)) ?_
 rintro _ _ ⟨g2, rfl, rfl⟩
 refine FJ.cat (.c .n) ?_
 refine FJ.ql rfl (q_assign rfl (.t .z)) (FJ.nil (FJ.then_ (FJ.seq (FJ.region ?_))))
 refine FJ.ql rfl (q_move rfl (.t .z)) ?_
 refine FJ.call (goes_list rfl) rfl (by decide) rfl (c_call rfl Try.func108 rfl rfl (args1 (.t .z))) (.c .z .n) (fun w1 S1 hs tr => c_108 (tr.ctx h0) hs (by omega)) ?_
 rintro _ _ ⟨xs3, u4, hzxs3, rfl⟩
 refine FJ.cat (.c (.c .n)) ?_
 refine FJ.know (WS.oform .z) ?_
 rintro ⟨Ao6, co6, rfl, hlo6, hmo6, hbo6⟩
 refine FJ.ql rfl (q_assign rfl (.t .z)) (FJ.nil (FJ.then_ (FJ.seq (FJ.region ?_))))
 refine FJ.ql rfl (q_move rfl (.t (.s (.s (.s .z))))) ?_
 refine FJ.call (goes_list rfl) rfl (by decide) rfl (c_call rfl Try.func109 rfl rfl (args1 (.t .z))) (.c (.s .z) .n) (fun w1 S1 hs tr => c_109 (tr.ctx h0) hs (by omega)) ?_
 rintro _ _ ⟨bs7, u8, hzbs7, rfl⟩
 refine FJ.cat (.c (.c .n)) ?_
 refine FJ.know (WS.oform .z) ?_
 rintro ⟨Ao10, co10, rfl, hlo10, hmo10, hbo10⟩
 refine FJ.ql rfl (q_assign rfl (.t .z)) (FJ.nil (FJ.then_ (FJ.seq (FJ.seq ?_))))
 refine FJ.region (FJ.ql rfl (q_move rfl (.t (.s4 (.s (.s .z))))) ?_)
 refine FJ.call (goes_list rfl) rfl (by decide) rfl (c_call rfl Try.func110 rfl rfl (args2 (.t .z) .c)) (.c (.s .z) .n) (fun w1 S1 hs tr => c_110 (tr.ctx h0) _ hs (by omega) (by omega)) ?_
 rintro _ _ ⟨b11, rfl, rfl⟩
 refine FJ.cat (.c .n) ?_
 refine FJ.nil (FJ.then_ ?_)
 refine FJ.cond (.t .z) (fun b12 => ?_) (fun b12 => ?_)
 refine FJ.seq (FJ.region (FJ.er (.s (.s .z)) (FJ.ql rfl (q_assign rfl .c) (FJ.nil ?_))))
 refine FJ.then_ (FJ.seq (FJ.region (FJ.ql rfl (q_assign rfl .c) (FJ.nil ?_))))
 refine FJ.then_ (FJ.block ?_)
 refine FJ.add (c := ownA kSl_2 [] [.slice none 0 0]) (fun w S => own_nil w S none) ?_
 refine FJ.loopi (γ := Nat × (Option Addr) × Nat × (List Int)) (fun ⟨k, Agk0, cgk0, o⟩ => [(8, .int .i64 (k : Int)), (7, .slice Agk0 o.length cgk0), (6, .slice Ao6 xs3.length co6), (5, .pointer (some ⟨g2, 0, none⟩)), (4, .int .i64 0), (3, .slice none 0 0), (2, .slice none 0 0)]) (fun ⟨k, Agk0, cgk0, o⟩ => [ownA kSl_2 o [.slice Agk0 o.length cgk0], rowA g2 140 2 1 [.slice A0 cd.length c0, .int .i64 (u8 + 1)], ownA kSl_2 bs7 [.slice Ao10 bs7.length co10], ownA kSl_30 xs3 [.slice Ao6 xs3.length co6]]) (fun ⟨k, Agk0, cgk0, o⟩ => k ≤ 20 ∧ o.length ≤ k) (fun ⟨k, Agk0, cgk0, o⟩ => 20 - k) (2, none, 0, []) ⟨by omega, by simp⟩ (.c .z (.c (.s .z) (.c (.s4 (.s (.s .z))) (.c (.s4 (.s4 (.s .z))) (.c (.s4 (.s4 (.s4 .z))) (.c (.s4 (.s4 (.s4 (.s .z)))) (.c (.s4 (.s4 (.s4 (.s (.s .z))))) .n))))))) (fun _ h => h.sel (.c .z (.c .z (.c .z (.c .z .n))))) ?_
 rintro ⟨k, Agk0, cgk0, o⟩ ⟨hk, hol⟩
 refine FJ.seq (FJ.seq (FJ.region (FJ.ql rfl (q_move rfl (.t .z)) (FJ.ql rfl (q_lss rfl (.t .z) .c) ?_))))
 refine FJ.nil (FJ.then_ ?_)
 refine FJ.condP (.t .z) (fun b14 => ?_) (fun b14 => ?_)
 refine FJ.skip (FJ.then_ (FJ.seq (FJ.block (FJ.region ?_))))
 refine FJ.ql rfl (q_move rfl (.t (.s (.s (.s .z))))) (FJ.ql rfl (q_move rfl (.t (.s (.s (.s .z))))) ?_)
 refine FJ.e (goes_list rfl) rfl (by decide) rfl (e_buildSliceL (ps := [(0, .int .i64 (k : Int))]) (cs := [.int .i64 (k : Int)]) rfl u_22 (inz inf_2) (by decide) (by intro act hact; simp only [List.map_toArray, List.map_cons, List.map_nil, (show Val _ _ _ from (.t .z)) act hact]) rfl rfl (by decide) rfl rfl) ?_
 rintro _ _ ⟨g15, rfl, rfl⟩
 refine FJ.add (c := ownA (kint .i64) (k : Int) [.int .i64 (k : Int)]) (fun _ _ => ⟨rfl, trivial⟩) ?_
 refine FJ.e (goes_list rfl) rfl (by decide) rfl (e_append1 rfl u_22 inf_2 rfl (.t (.s (.s .z))) (.t .z) (.c (.s (.s .z)) (.c (.s .z) (.c .z .n))) (by first | omega | (simp only [List.length_append, List.length_cons, List.length_nil, List.length_replicate]; omega)) (by first | omega | (simp only [List.length_append, List.length_cons, List.length_nil, List.length_replicate]; omega))) ?_
 rintro _ _ rfl
 refine FJ.know (WS.oform .z) ?_
 rintro ⟨Ao17, co17, rfl, hlo17, hmo17, hbo17⟩
 refine FJ.er (.s4 (.s (.s (.s .z)))) (FJ.ql rfl (q_assign rfl (.t .z)) (FJ.nil (FJ.inBN (FJ.then_ ?_))))
 refine FJ.region (FJ.ql rfl (q_move rfl (.t (.s4 (.s (.s (.s .z)))))) ?_)
 refine FJ.ql rfl (q_add (c := ((k + 1 : Nat) : Int)) rfl (.t .z) .c (wr (by omega) (by omega) (by omega))) ?_
 refine FJ.er (.s4 (.s4 (.s .z))) (FJ.ql rfl (q_assign rfl (.t .z)) (FJ.nil ?_))
 refine FJ.again ((k + 1), Ao17, co17, o ++ [(k : Int)]) ⟨by omega, by first | omega | (simp only [List.length_append, List.length_cons, List.length_nil]; omega)⟩ (by first | omega | (dsimp only; omega)) (.c .z (.c (.s (.s (.s .z))) (.c (.s4 (.s4 (.s (.s .z)))) (.c (.s4 (.s4 (.s (.s (.s .z))))) (.c (.s4 (.s4 (.s4 .z))) (.c (.s4 (.s4 (.s4 (.s .z)))) (.c (.s4 (.s4 (.s4 (.s (.s .z))))) .n))))))) (fun _ h => h.sel (.c .z (.c .z (.c .z (.c .z .n)))))
 refine FJ.exit (FJ.thenE (FJ.thenE (FJ.inB (FJ.then_ ?_))))
 refine FJ.seq (FJ.region (FJ.ql rfl (q_move rfl (.t (.s4 .z))) (FJ.ql rfl (q_move rfl (.t (.s4 .z))) (FJ.ql rfl (q_move rfl (.t (.s4 (.s (.s (.s .z)))))) ?_))))
 refine FJ.ql rfl (q_move rfl (.t (.s4 (.s4 .z)))) ?_
 refine FJ.call (goes_list rfl) rfl (by decide) rfl (c_call rfl Try.func93 rfl rfl (args2 (.t .z) .c)) (.c (.s .z) .n) (fun w1 S1 hs tr => c_93 (tr.ctx h0) _ hs (by omega) (by omega)) ?_
 rintro _ _ ⟨m18, h0m18, h1m18, rfl, rfl⟩
 refine FJ.cat (.c .n) ?_
 refine FJ.ql rfl (q_move rfl (.t (.s4 (.s4 (.s (.s .z)))))) ?_
 refine FJ.call (goes_list rfl) rfl (by decide) rfl (c_call rfl Try.func93 rfl rfl (args2 (.t .z) .c)) (.c .z .n) (fun w1 S1 hs tr => c_93 (tr.ctx h0) _ hs (by omega) (by omega)) ?_
 rintro _ _ ⟨m19, h0m19, h1m19, rfl, rfl⟩
 refine FJ.cat (.c .n) ?_
 refine FJ.e (goes_list rfl) rfl (by decide) rfl (e_buildSliceL (ps := [(0, .int .i64 m18), (1, .int .i64 m19), (2, .int .i64 5), (3, .int .i64 (-1))]) (cs := [.int .i64 m18, .int .i64 m19, .int .i64 5, .int .i64 (-1)]) rfl u_22 (inz inf_2) (by decide) (by intro act hact; simp only [List.map_toArray, List.map_cons, List.map_nil, (show Val _ _ _ from (.t (.s (.s .z)))) act hact, (show Val _ _ _ from (.t .z)) act hact, (show Val _ _ _ from .c) act hact, (show Val _ _ _ from .c) act hact]) rfl rfl (by decide) rfl rfl) ?_
 rintro _ _ ⟨g20, rfl, rfl⟩
 refine FJ.turns (c := ownA kSl_2 ([m18, m19, 5, (-1)] : (List Int)) [.slice (some ⟨g20, 0, none⟩) 4 4]) (.c .z .n) (fun w S h => lit_own (xs := ([m18, m19, 5, (-1)] : (List Int))) h rfl (by simp) (by omega) (by omega)) ?_
 refine FJ.call (goes_list rfl) rfl (by decide) rfl (c_call rfl Try.func94 rfl rfl (args2 (.t (.s4 (.s .z))) (.t .z))) (.c (.s .z) .n) (fun w1 S1 hs tr => c_94 (tr.ctx h0) (tr.own .z) hs (by omega) (by simp)) ?_
 rintro _ _ ⟨m22, hm22, rfl, rfl⟩
 refine FJ.cat (.c .n) ?_
 simp only [List.mem_cons, List.not_mem_nil, or_false] at hm22
 refine FJ.er (.s16 (.s .z)) (FJ.ql rfl (q_assign rfl (.t (.s4 (.s4 .z)))) (FJ.er (.s16 (.s .z)) (FJ.ql rfl (q_assign rfl (.t (.s4 (.s4 .z)))) (FJ.er (.s16 (.s .z)) ?_))))
 refine FJ.ql rfl (q_assign rfl (.t (.s (.s .z)))) (FJ.nil (FJ.then_ (FJ.ret ?_)))
 refine FJ.doneS (res3 rfl (.s (.s .z)) (.s .z) .z) (.c (.s4 .z) (.c (.s (.s .z)) .n)) ?_
 exact ⟨_, _, _, _, _, ⟨by omega, by omega, by omega, by omega⟩, rfl, rfl⟩
 refine FJ.skip (FJ.then_ (FJ.seq (FJ.region (FJ.ql rfl (q_move rfl (.t (.s4 (.s .z)))) ?_))))
 refine FJ.ql rfl (q_move rfl (.t (.s (.s (.s .z))))) (FJ.ql rfl (q_move rfl (.t (.s4 (.s4 (.s (.s .z)))))) (FJ.ql rfl (q_move rfl (.t (.s4 (.s4 (.s (.s (.s .z))))))) ?_))
 refine FJ.call (goes_list rfl) rfl (by decide) rfl (c_call rfl Try.func93 rfl rfl (args2 (.t .z) .c)) (.c .z .n) (fun w1 S1 hs tr => c_93 (tr.ctx h0) _ hs (by omega) (by omega)) ?_
 rintro _ _ ⟨m23, h0m23, h1m23, rfl, rfl⟩
 refine FJ.cat (.c .n) ?_
 refine FJ.ql rfl (q_move rfl (.t (.s4 (.s4 (.s4 (.s .z)))))) ?_
 refine FJ.call (goes_list rfl) rfl (by decide) rfl (c_call rfl Try.func93 rfl rfl (args2 (.t .z) .c)) (.c .z .n) (fun w1 S1 hs tr => c_93 (tr.ctx h0) _ hs (by omega) (by omega)) ?_
 rintro _ _ ⟨m24, h0m24, h1m24, rfl, rfl⟩
 refine FJ.cat (.c .n) ?_
 refine FJ.e (goes_list rfl) rfl (by decide) rfl (e_buildSliceL (ps := [(0, .int .i64 m23), (1, .int .i64 m24), (2, .int .i64 5), (3, .int .i64 (-1))]) (cs := [.int .i64 m23, .int .i64 m24, .int .i64 5, .int .i64 (-1)]) rfl u_22 (inz inf_2) (by decide) (by intro act hact; simp only [List.map_toArray, List.map_cons, List.map_nil, (show Val _ _ _ from (.t (.s (.s .z)))) act hact, (show Val _ _ _ from (.t .z)) act hact, (show Val _ _ _ from .c) act hact, (show Val _ _ _ from .c) act hact]) rfl rfl (by decide) rfl rfl) ?_
 rintro _ _ ⟨g25, rfl, rfl⟩
 refine FJ.turns (c := ownA kSl_2 ([m23, m24, 5, (-1)] : (List Int)) [.slice (some ⟨g25, 0, none⟩) 4 4]) (.c .z .n) (fun w S h => lit_own (xs := ([m23, m24, 5, (-1)] : (List Int))) h rfl (by simp) (by omega) (by omega)) ?_
 refine FJ.call (goes_list rfl) rfl (by decide) rfl (c_call rfl Try.func94 rfl rfl (args2 (.t (.s4 (.s .z))) (.t .z))) (.c (.s .z) .n) (fun w1 S1 hs tr => c_94 (tr.ctx h0) (tr.own .z) hs (by omega) (by simp)) ?_
 rintro _ _ ⟨m27, hm27, rfl, rfl⟩
 refine FJ.cat (.c .n) ?_
 simp only [List.mem_cons, List.not_mem_nil, or_false] at hm27
 refine FJ.er (.s16 (.s4 (.s (.s .z)))) (FJ.ql rfl (q_assign rfl (.t (.s4 (.s4 .z)))) (FJ.er (.s16 (.s4 (.s (.s .z)))) (FJ.ql rfl (q_assign rfl (.t (.s4 (.s4 .z)))) (FJ.er (.s16 (.s4 (.s (.s .z)))) ?_))))
 refine FJ.ql rfl (q_assign rfl (.t (.s (.s .z)))) (FJ.nil (FJ.then_ (FJ.ret ?_)))
 refine FJ.doneS (res3 rfl (.s (.s .z)) (.s .z) .z) (.c (.s (.s (.s .z))) (.c (.s (.s .z)) .n)) ?_
 exact ⟨_, _, _, _, _, ⟨by omega, by omega, by omega, by omega⟩, rfl, rfl⟩

end Go.Proofs.Ytoaebcjjfojfeaa

/- What is proved: contracts of functions, one a function. No condition. -/
import Derived.Test.YtkmcpcahbfdohaaW44
import Derived.Test.YtkmcpcahbfdohaaBase2
namespace Go.Proofs.Ytkmcpcahbfdohaa
open Go Go.RowKit
set_option linter.unusedVariables false
set_option linter.unusedSimpArgs false
set_option maxHeartbeats 1000000 in
set_option maxRecDepth 20000 in
theorem c_64 {w0 : World} {S0 : Bs} {cd : (List UInt8)} {v0 : Value} (h0 : kSl_5.ro w0 (FF w0 S0) cd [v0])  :
    Calls Try.prog 64 #[v0] w0 (TriPost w0 S0 (fun r l => ∃ (x : DKern) (w0_ w1_ w2_ : Value) (n0_ : Int) (n1_ : Int) (n2_ : Int), (x.disk.blocks.length ≤ 61 ∧ x.disk.cache.length ≤ 201 ∧ x.exts.length ≤ 9 ∧ -1 ≤ n0_ ∧ n0_ ≤ 20 ∧ 0 ≤ n1_ ∧ n1_ ≤ 10 ∧ 0 ≤ n2_ ∧ n2_ ≤ 10000) ∧ r = .tuple #[.agg #[w0_, w1_, w2_], .int .i64 n0_, .int .i64 n1_, .int .i64 n2_] ∧ l = [ownA kSl_40 x.disk.blocks [w0_], ownA kSl_57 x.disk.cache [w1_], ownA kSl_135 x.exts [w2_]])) := by
 obtain ⟨A0, c0, rfl, hl0, hm0, hb0, he0⟩ := ro_form h0
 refine FJ.enter (N := 32) Try.func64 rfl rfl (by simp) [(0, .slice A0 cd.length c0)] (by simp) (l0 := []) trivial ?_
 refine FJ.seq (FJ.region ?_)
 refine FJ.e (goes_list rfl) rfl (by decide) rfl (e_alloc rfl z_43 rfl rfl) ?_
 rintro _ _ ⟨g2, rfl, rfl⟩
 refine FJ.ql rfl (q_assign rfl .c) (FJ.ql rfl (q_assign rfl .c) (FJ.ql rfl (q_assign rfl .c) (FJ.nil (FJ.then_ ?_))))
 refine FJ.seq (FJ.region (FJ.ql rfl (q_move rfl (.t (.s4 .z))) ?_))
 refine FJ.call (goes_list rfl) rfl (by decide) rfl (c_call rfl Try.func92 rfl rfl (args1 (.t .z))) .n (fun w1 S1 hs tr => c_92 (tr.ctx h0)) ?_
 rintro _ _ ⟨g3, rfl, rfl⟩
 refine FJ.cat (.c .n) ?_
 refine FJ.ql rfl (q_assign rfl (.t .z)) (FJ.nil (FJ.then_ (FJ.seq (FJ.region ?_))))
 refine FJ.ql rfl (q_move rfl (.t .z)) ?_
 refine FJ.call (goes_list rfl) rfl (by decide) rfl (c_call rfl Try.func119 rfl rfl (args1 (.t .z))) (.c .z .n) (fun w1 S1 hs tr => c_119 (tr.ctx h0) hs (by omega)) ?_
 rintro _ _ ⟨kn4, v6, v8, v10, u5, hzkn4, rfl, rfl⟩
 refine FJ.cat (.c (.c (.c (.c .n)))) ?_
 refine FJ.know (WS.oform .z) ?_
 rintro ⟨Ao12, co12, rfl, hlo12, hmo12, hbo12⟩
 refine FJ.know (WS.oform (.s .z)) ?_
 rintro ⟨Ao13, co13, rfl, hlo13, hmo13, hbo13⟩
 refine FJ.know (WS.oform (.s (.s .z))) ?_
 rintro ⟨Ao14, co14, rfl, hlo14, hmo14, hbo14⟩
 refine FJ.e (goes_list rfl) rfl (by decide) rfl (e_alloc rfl z_43 rfl rfl) ?_
 rintro _ _ ⟨g15, rfl, rfl⟩
 refine FJ.es (goes_list rfl) rfl (es_store (off := 0) (cs := [.slice Ao12 kn4.disk.blocks.length co12, .slice Ao13 kn4.disk.cache.length co13, .slice Ao14 kn4.exts.length co14]) rfl sz_43 (.t .z) (.t (.s .z)) rfl (ones rfl) .z (Nat.le_of_ble_eq_true rfl) (.c .z (.c (.s .z) (.c (.s (.s .z)) .n)))) ?_
 refine FJ.nil (FJ.then_ (FJ.seq ?_))
 refine FJ.sel (.c (.s .z) (.c (.s .z) (.c (.s .z) (.c (.s .z) (.c (.s .z) (.c .z .n)))))) ?_
 refine FJ.draw [rowA g15 43 3 1 [.slice Ao12 kn4.disk.blocks.length co12, .slice Ao13 kn4.disk.cache.length co13, .slice Ao14 kn4.exts.length co14]] 23 (by kernel_rfl) ?_
 refine FJ.sch [(0, true), (1, true), (2, true), (4, true), (8, true), (11, true), (12, true), (15, true)] 16 #[true, true, true, false, true, false, false, false, true, false, false, true, true, false, false, true, false, false, false, false, false, false, false, false] (by rfl) (by kernel_rfl) ?_
 refine FJ.dq rfl rfl rfl (by decide) rfl (.s4 (.s .z)) (q_loadA (cs := [.slice Ao12 kn4.disk.blocks.length co12, .slice Ao13 kn4.disk.cache.length co13, .slice Ao14 kn4.exts.length co14]) rfl ag_43 sz_43 (.t .z) (WS.rows0 .z (fun i u h => by exact h))) ?_
 refine FJ.dq rfl rfl rfl (by decide) rfl (.s4 (.s .z)) (q_move rfl (.t (.s4 .z))) (FJ.dq rfl rfl rfl (by decide) rfl (.s4 (.s .z)) (q_move rfl (.t (.s4 (.s .z)))) (FJ.dq rfl rfl rfl (by decide) rfl (.s4 (.s .z)) (q_move rfl (.t (.s4 (.s (.s .z))))) (FJ.dq rfl rfl rfl (by decide) rfl (.s4 (.s .z)) (q_move rfl (.t (.s4 (.s (.s (.s .z)))))) (FJ.dq rfl rfl rfl (by decide) rfl (.s4 (.s .z)) (q_move rfl (.t (.s4 (.s4 .z)))) ?_))))
 refine FJ.dq rfl rfl rfl (by decide) rfl (.s4 (.s .z)) (q_move rfl (.t (.s4 (.s4 (.s .z))))) (FJ.dq rfl rfl rfl (by decide) rfl (.s4 (.s .z)) (q_move rfl (.t (.s4 (.s4 (.s (.s .z)))))) (FJ.schN ?_))
 refine FJ.fork2 (i := 3) (j := 9) (by kernel_rfl) ?_ ?_
 refine FJ.call (goes_sch rfl rfl) rfl (by decide) rfl (c_call rfl Try.func95 rfl rfl (args2 (.t (.s4 (.s .z))) .c)) (.c (.s (.s (.s .z))) .n) (fun w1 S1 hs tr => c_95 (tr.ctx h0) _ hs (by omega) (by omega)) ?_
 rintro _ _ ⟨m16, h0m16, h1m16, rfl, rfl⟩
 refine FJ.cat (.c .n) ?_
 refine FJ.sk (.s4 (.s .z)) ?_
 refine FJ.schN ?_
 refine FJ.sch [] 15 #[true, true, true, true, true, false, false, false, true, false, false, true, true, false, false, true, false, false, false, false, false, false, false, false] (by rfl) (by kernel_rfl) ?_
 refine FJ.schN ?_
 refine FJ.fork2 (i := 5) (j := 9) (by kernel_rfl) ?_ ?_
 refine FJ.call (goes_sch rfl rfl) rfl (by decide) rfl (c_call rfl Try.func95 rfl rfl (args2 (.t (.s4 (.s .z))) .c)) (.c .z .n) (fun w1 S1 hs tr => c_95 (tr.ctx h0) _ hs (by omega) (by omega)) ?_
 rintro _ _ ⟨m17, h0m17, h1m17, rfl, rfl⟩
 refine FJ.cat (.c .n) ?_
 refine FJ.sk (.s4 (.s .z)) ?_
 refine FJ.schN ?_
 refine FJ.sch [] 14 #[true, true, true, true, true, true, false, false, true, false, false, true, true, false, false, true, false, false, false, false, false, false, false, false] (by rfl) (by kernel_rfl) ?_
 refine FJ.schN ?_
 refine FJ.fork2 (i := 6) (j := 9) (by kernel_rfl) ?_ ?_
 refine FJ.e (goes_sch rfl rfl) rfl (by decide) rfl (e_buildSliceL (ps := [(0, .int .i64 m16), (1, .int .i64 m17), (2, .int .i64 (-1))]) (cs := [.int .i64 m16, .int .i64 m17, .int .i64 (-1)]) rfl u_40 (inz inf_2) (by decide) (by intro act hact; simp only [List.map_toArray, List.map_cons, List.map_nil, (show Val _ _ _ from (.t (.s .z))) act hact, (show Val _ _ _ from (.t .z)) act hact, (show Val _ _ _ from .c) act hact]) rfl rfl (by decide) rfl rfl) ?_
 rintro _ _ ⟨g18, rfl, rfl⟩
 refine FJ.sk (.s4 (.s (.s .z))) ?_
 refine FJ.schN ?_
 refine FJ.sch [] 13 #[true, true, true, true, true, true, true, false, true, false, false, true, true, false, false, true, false, false, false, false, false, false, false, false] (by rfl) (by kernel_rfl) ?_
 refine FJ.schN ?_
 refine FJ.fork2 (i := 7) (j := 9) (by kernel_rfl) ?_ ?_
 refine FJ.turns (c := ownA kSl_2 ([m16, m17, (-1)] : (List Int)) [.slice (some ⟨g18, 0, none⟩) 3 3]) (.c .z .n) (fun w S h => lit_own (xs := ([m16, m17, (-1)] : (List Int))) h rfl (by simp) (by omega) (by omega)) ?_
 refine FJ.call (goes_sch rfl rfl) rfl (by decide) rfl (c_call rfl Try.func120 rfl rfl (args2 (.t (.s4 (.s4 (.s .z)))) (.t .z))) (.c (.s .z) .n) (fun w1 S1 hs tr => c_120 (tr.ctx h0) (tr.own .z) hs (by omega) (by simp)) ?_
 rintro _ _ ⟨m20, hm20, rfl, rfl⟩
 refine FJ.cat (.c .n) ?_
 simp only [List.mem_cons, List.not_mem_nil, or_false] at hm20
 refine FJ.sk (.s4 (.s (.s .z))) ?_
 refine FJ.schN ?_
 refine FJ.sch [(9, false), (10, false), (13, false), (14, true), (16, false), (17, true), (18, false), (19, false), (20, false), (21, true), (22, true), (23, false)] 0 #[true, true, true, true, true, true, true, true, true, true, true, true, true, true, true, true, true, true, true, true, true, true, true, true] (by rfl) (by kernel_rfl) ?_
 refine FJ.e (goes_sch rfl rfl) rfl (by decide) rfl (e_buildSliceL (ps := [(0, .int .i64 1), (1, .int .i64 2), (2, .int .i64 1), (3, .int .i64 0), (4, .int .i64 9)]) (cs := [.int .i64 1, .int .i64 2, .int .i64 1, .int .i64 0, .int .i64 9]) rfl u_40 (inz inf_2) (by decide) (by intro act hact; simp only [List.map_toArray, List.map_cons, List.map_nil, (show Val _ _ _ from .c) act hact, (show Val _ _ _ from .c) act hact, (show Val _ _ _ from .c) act hact, (show Val _ _ _ from .c) act hact, (show Val _ _ _ from .c) act hact]) rfl rfl (by decide) rfl rfl) ?_
 rintro _ _ ⟨g21, rfl, rfl⟩
 refine FJ.sk (.s4 (.s (.s (.s .z)))) ?_
 refine FJ.turns (c := ownA kSl_2 ([1, 2, 1, 0, 9] : (List Int)) [.slice (some ⟨g21, 0, none⟩) 5 5]) (.c .z .n) (fun w S h => lit_own (xs := ([1, 2, 1, 0, 9] : (List Int))) h rfl (by simp) (by omega) (by omega)) ?_
 refine FJ.call (goes_sch rfl rfl) rfl (by decide) rfl (c_call rfl Try.func120 rfl rfl (args2 (.t (.s4 (.s4 .z))) (.t .z))) (.c (.s .z) .n) (fun w1 S1 hs tr => c_120 (tr.ctx h0) (tr.own .z) hs (by omega) (by simp)) ?_
 rintro _ _ ⟨m23, hm23, rfl, rfl⟩
 refine FJ.cat (.c .n) ?_
 simp only [List.mem_cons, List.not_mem_nil, or_false] at hm23
 refine FJ.sk (.s4 (.s (.s (.s .z)))) ?_
 refine FJ.call (goes_sch rfl rfl) rfl (by decide) rfl (c_call rfl Try.func95 rfl rfl (args2 (.t (.s4 (.s (.s (.s .z))))) .c)) (.c .z .n) (fun w1 S1 hs tr => c_95 (tr.ctx h0) _ hs (by omega) (by omega)) ?_
 rintro _ _ ⟨m24, h0m24, h1m24, rfl, rfl⟩
 refine FJ.cat (.c .n) ?_
 refine FJ.sk (.s4 (.s (.s (.s .z)))) ?_
 refine FJ.dq rfl rfl rfl (by decide) rfl (.s4 (.s (.s (.s .z)))) (q_add (c := 1 + m24) rfl .c (.t .z) (wr (by omega) (by omega) (by omega))) ?_
 refine FJ.call (goes_sch rfl rfl) rfl (by decide) rfl (c_call rfl Try.func95 rfl rfl (args2 (.t (.s4 (.s4 .z))) .c)) (.c .z .n) (fun w1 S1 hs tr => c_95 (tr.ctx h0) _ hs (by omega) (by omega)) ?_
 rintro _ _ ⟨m25, h0m25, h1m25, rfl, rfl⟩
 refine FJ.cat (.c .n) ?_
 refine FJ.sk (.s4 (.s (.s (.s .z)))) ?_
 refine FJ.dq rfl rfl rfl (by decide) rfl (.s4 (.s (.s (.s .z)))) (q_add (c := 1 + m25) rfl .c (.t .z) (wr (by omega) (by omega) (by omega))) ?_
 refine FJ.e (goes_sch rfl rfl) rfl (by decide) rfl (e_buildSliceL (ps := [(0, .int .i64 (1 + m24)), (1, .int .i64 (1 + m25)), (2, .int .i64 0), (3, .int .i64 10000)]) (cs := [.int .i64 (1 + m24), .int .i64 (1 + m25), .int .i64 0, .int .i64 10000]) rfl u_40 (inz inf_2) (by decide) (by intro act hact; simp only [List.map_toArray, List.map_cons, List.map_nil, (show Val _ _ _ from (.t (.s (.s .z)))) act hact, (show Val _ _ _ from (.t .z)) act hact, (show Val _ _ _ from .c) act hact, (show Val _ _ _ from .c) act hact]) rfl rfl (by decide) rfl rfl) ?_
 rintro _ _ ⟨g26, rfl, rfl⟩
 refine FJ.sk (.s4 (.s4 .z)) ?_
 refine FJ.turns (c := ownA kSl_2 ([1 + m24, 1 + m25, 0, 10000] : (List Int)) [.slice (some ⟨g26, 0, none⟩) 4 4]) (.c .z .n) (fun w S h => lit_own (xs := ([1 + m24, 1 + m25, 0, 10000] : (List Int))) h rfl (by simp) (by omega) (by omega)) ?_
 refine FJ.call (goes_sch rfl rfl) rfl (by decide) rfl (c_call rfl Try.func120 rfl rfl (args2 (.t (.s4 (.s4 (.s4 (.s .z))))) (.t .z))) (.c (.s .z) .n) (fun w1 S1 hs tr => c_120 (tr.ctx h0) (tr.own .z) hs (by omega) (by simp)) ?_
 rintro _ _ ⟨m28, hm28, rfl, rfl⟩
 refine FJ.cat (.c .n) ?_
 simp only [List.mem_cons, List.not_mem_nil, or_false] at hm28
 refine FJ.sk (.s4 (.s4 .z)) ?_
 refine FJ.es (goes_sch rfl rfl) rfl (es_store (off := 0) (cs := [.slice Ao12 kn4.disk.blocks.length co12, .slice Ao13 kn4.disk.cache.length co13, .slice Ao14 kn4.exts.length co14]) rfl sz_43 (.t (.s16 (.s4 (.s4 (.s4 (.s .z)))))) (.t (.s16 (.s (.s (.s .z))))) rfl (ones rfl) (.s4 (.s (.s (.s .z)))) (Nat.le_of_ble_eq_true rfl) (.c .z (.c (.s .z) (.c (.s (.s .z)) .n)))) ?_
 refine FJ.sk (.s4 (.s4 .z)) ?_
 refine FJ.er (.s16 (.s4 (.s4 (.s4 .z)))) (FJ.dq rfl rfl rfl (by decide) rfl (.s4 (.s4 .z)) (q_assign rfl (.t (.s4 (.s4 .z)))) (FJ.er (.s16 (.s4 (.s4 (.s4 .z)))) (FJ.dq rfl rfl rfl (by decide) rfl (.s4 (.s4 .z)) (q_assign rfl (.t (.s4 (.s (.s (.s .z)))))) (FJ.er (.s16 (.s4 (.s4 (.s4 .z)))) ?_))))
 refine FJ.q (goes_sch rfl rfl) rfl (by decide) rfl (q_assign rfl (.t (.s (.s .z)))) ?_
 refine FJ.sl rfl ?_
 refine FJ.schN ?_
 refine FJ.drawN (by kernel_rfl) ?_
 refine FJ.then_ (FJ.ret ?_)
 refine FJ.doneS (res_cttt (cs := [.slice Ao12 kn4.disk.blocks.length co12, .slice Ao13 kn4.disk.cache.length co13, .slice Ao14 kn4.exts.length co14]) rfl (.s16 (.s4 (.s4 (.s4 (.s .z))))) ag_43 sz_43 (WS.rows0 (cs := [.slice Ao12 kn4.disk.blocks.length co12, .slice Ao13 kn4.disk.cache.length co13, .slice Ao14 kn4.exts.length co14]) .z (fun _ _ h => h)) (.s (.s .z)) (.s .z) .z) (.c (.s4 (.s .z)) (.c (.s4 (.s .z)) (.c (.s4 (.s .z)) .n))) ?_
 exact ⟨⟨⟨kn4.disk.blocks, kn4.disk.cache⟩, kn4.exts⟩, _, _, _, _, _, _, ⟨by first | omega | (dsimp only; omega), by first | omega | (dsimp only; omega), by first | omega | (dsimp only; omega), by first | omega | (dsimp only; omega), by first | omega | (dsimp only; omega), by first | omega | (dsimp only; omega), by first | omega | (dsimp only; omega), by first | omega | (dsimp only; omega), by first | omega | (dsimp only; omega)⟩, rfl, rfl⟩
 refine FJ.e (goes_sch rfl rfl) rfl (by decide) rfl (e_buildSliceL (ps := [(0, .int .i64 1), (1, .int .i64 2), (2, .int .i64 1), (3, .int .i64 0), (4, .int .i64 9)]) (cs := [.int .i64 1, .int .i64 2, .int .i64 1, .int .i64 0, .int .i64 9]) rfl u_40 (inz inf_2) (by decide) (by intro act hact; simp only [List.map_toArray, List.map_cons, List.map_nil, (show Val _ _ _ from .c) act hact, (show Val _ _ _ from .c) act hact, (show Val _ _ _ from .c) act hact, (show Val _ _ _ from .c) act hact, (show Val _ _ _ from .c) act hact]) rfl rfl (by decide) rfl rfl) ?_
 rintro _ _ ⟨g29, rfl, rfl⟩
 refine FJ.sk (.s4 (.s (.s (.s .z)))) ?_
 refine FJ.schN ?_
 refine FJ.sch [(7, false), (10, false), (13, false), (14, true), (16, false), (17, true), (18, false), (19, false), (20, false), (21, true), (22, true), (23, false)] 0 #[true, true, true, true, true, true, true, true, true, true, true, true, true, true, true, true, true, true, true, true, true, true, true, true] (by rfl) (by kernel_rfl) ?_
 refine FJ.turns (c := ownA kSl_2 ([m16, m17, (-1)] : (List Int)) [.slice (some ⟨g18, 0, none⟩) 3 3]) (.c (.s .z) .n) (fun w S h => lit_own (xs := ([m16, m17, (-1)] : (List Int))) h rfl (by simp) (by omega) (by omega)) ?_
 refine FJ.call (goes_sch rfl rfl) rfl (by decide) rfl (c_call rfl Try.func120 rfl rfl (args2 (.t (.s4 (.s4 (.s (.s .z))))) (.t (.s .z)))) (.c (.s (.s .z)) .n) (fun w1 S1 hs tr => c_120 (tr.ctx h0) (tr.own .z) hs (by omega) (by simp)) ?_
 rintro _ _ ⟨m31, hm31, rfl, rfl⟩
 refine FJ.cat (.c .n) ?_
 simp only [List.mem_cons, List.not_mem_nil, or_false] at hm31
 refine FJ.sk (.s4 (.s (.s (.s .z)))) ?_
 refine FJ.turns (c := ownA kSl_2 ([1, 2, 1, 0, 9] : (List Int)) [.slice (some ⟨g29, 0, none⟩) 5 5]) (.c (.s (.s .z)) .n) (fun w S h => lit_own (xs := ([1, 2, 1, 0, 9] : (List Int))) h rfl (by simp) (by omega) (by omega)) ?_
 refine FJ.call (goes_sch rfl rfl) rfl (by decide) rfl (c_call rfl Try.func120 rfl rfl (args2 (.t (.s4 (.s4 .z))) (.t (.s .z)))) (.c (.s .z) .n) (fun w1 S1 hs tr => c_120 (tr.ctx h0) (tr.own .z) hs (by omega) (by simp)) ?_
 rintro _ _ ⟨m33, hm33, rfl, rfl⟩
 refine FJ.cat (.c .n) ?_
 simp only [List.mem_cons, List.not_mem_nil, or_false] at hm33
 refine FJ.sk (.s4 (.s (.s (.s .z)))) ?_
 refine FJ.call (goes_sch rfl rfl) rfl (by decide) rfl (c_call rfl Try.func95 rfl rfl (args2 (.t (.s4 (.s (.s (.s .z))))) .c)) (.c .z .n) (fun w1 S1 hs tr => c_95 (tr.ctx h0) _ hs (by omega) (by omega)) ?_
 rintro _ _ ⟨m34, h0m34, h1m34, rfl, rfl⟩
 refine FJ.cat (.c .n) ?_
 refine FJ.sk (.s4 (.s (.s (.s .z)))) ?_
 refine FJ.dq rfl rfl rfl (by decide) rfl (.s4 (.s (.s (.s .z)))) (q_add (c := 1 + m34) rfl .c (.t .z) (wr (by omega) (by omega) (by omega))) ?_
 refine FJ.call (goes_sch rfl rfl) rfl (by decide) rfl (c_call rfl Try.func95 rfl rfl (args2 (.t (.s4 (.s4 .z))) .c)) (.c .z .n) (fun w1 S1 hs tr => c_95 (tr.ctx h0) _ hs (by omega) (by omega)) ?_
 rintro _ _ ⟨m35, h0m35, h1m35, rfl, rfl⟩
 refine FJ.cat (.c .n) ?_
 refine FJ.sk (.s4 (.s (.s (.s .z)))) ?_
 refine FJ.dq rfl rfl rfl (by decide) rfl (.s4 (.s (.s (.s .z)))) (q_add (c := 1 + m35) rfl .c (.t .z) (wr (by omega) (by omega) (by omega))) ?_
 refine FJ.e (goes_sch rfl rfl) rfl (by decide) rfl (e_buildSliceL (ps := [(0, .int .i64 (1 + m34)), (1, .int .i64 (1 + m35)), (2, .int .i64 0), (3, .int .i64 10000)]) (cs := [.int .i64 (1 + m34), .int .i64 (1 + m35), .int .i64 0, .int .i64 10000]) rfl u_40 (inz inf_2) (by decide) (by intro act hact; simp only [List.map_toArray, List.map_cons, List.map_nil, (show Val _ _ _ from (.t (.s (.s .z)))) act hact, (show Val _ _ _ from (.t .z)) act hact, (show Val _ _ _ from .c) act hact, (show Val _ _ _ from .c) act hact]) rfl rfl (by decide) rfl rfl) ?_
 rintro _ _ ⟨g36, rfl, rfl⟩
 refine FJ.sk (.s4 (.s4 .z)) ?_
 refine FJ.turns (c := ownA kSl_2 ([1 + m34, 1 + m35, 0, 10000] : (List Int)) [.slice (some ⟨g36, 0, none⟩) 4 4]) (.c .z .n) (fun w S h => lit_own (xs := ([1 + m34, 1 + m35, 0, 10000] : (List Int))) h rfl (by simp) (by omega) (by omega)) ?_
 refine FJ.call (goes_sch rfl rfl) rfl (by decide) rfl (c_call rfl Try.func120 rfl rfl (args2 (.t (.s4 (.s4 (.s4 (.s .z))))) (.t .z))) (.c (.s .z) .n) (fun w1 S1 hs tr => c_120 (tr.ctx h0) (tr.own .z) hs (by omega) (by simp)) ?_
 rintro _ _ ⟨m38, hm38, rfl, rfl⟩
 refine FJ.cat (.c .n) ?_
 simp only [List.mem_cons, List.not_mem_nil, or_false] at hm38
 refine FJ.sk (.s4 (.s4 .z)) ?_
 refine FJ.es (goes_sch rfl rfl) rfl (es_store (off := 0) (cs := [.slice Ao12 kn4.disk.blocks.length co12, .slice Ao13 kn4.disk.cache.length co13, .slice Ao14 kn4.exts.length co14]) rfl sz_43 (.t (.s16 (.s4 (.s4 (.s4 (.s .z)))))) (.t (.s16 (.s (.s (.s .z))))) rfl (ones rfl) (.s4 (.s (.s (.s .z)))) (Nat.le_of_ble_eq_true rfl) (.c .z (.c (.s .z) (.c (.s (.s .z)) .n)))) ?_
 refine FJ.sk (.s4 (.s4 .z)) ?_
 refine FJ.er (.s16 (.s4 (.s4 (.s4 .z)))) (FJ.dq rfl rfl rfl (by decide) rfl (.s4 (.s4 .z)) (q_assign rfl (.t (.s4 (.s (.s (.s .z)))))) (FJ.er (.s16 (.s4 (.s4 (.s4 .z)))) (FJ.dq rfl rfl rfl (by decide) rfl (.s4 (.s4 .z)) (q_assign rfl (.t (.s4 (.s (.s (.s .z)))))) (FJ.er (.s16 (.s4 (.s4 (.s4 .z)))) ?_))))
 refine FJ.q (goes_sch rfl rfl) rfl (by decide) rfl (q_assign rfl (.t (.s (.s .z)))) ?_
 refine FJ.sl rfl ?_
 refine FJ.schN ?_
 refine FJ.drawN (by kernel_rfl) ?_
 refine FJ.then_ (FJ.ret ?_)
 refine FJ.doneS (res_cttt (cs := [.slice Ao12 kn4.disk.blocks.length co12, .slice Ao13 kn4.disk.cache.length co13, .slice Ao14 kn4.exts.length co14]) rfl (.s16 (.s4 (.s4 (.s4 (.s .z))))) ag_43 sz_43 (WS.rows0 (cs := [.slice Ao12 kn4.disk.blocks.length co12, .slice Ao13 kn4.disk.cache.length co13, .slice Ao14 kn4.exts.length co14]) .z (fun _ _ h => h)) (.s (.s .z)) (.s .z) .z) (.c (.s4 (.s .z)) (.c (.s4 (.s .z)) (.c (.s4 (.s .z)) .n))) ?_
 exact ⟨⟨⟨kn4.disk.blocks, kn4.disk.cache⟩, kn4.exts⟩, _, _, _, _, _, _, ⟨by first | omega | (dsimp only; omega), by first | omega | (dsimp only; omega), by first | omega | (dsimp only; omega), by first | omega | (dsimp only; omega), by first | omega | (dsimp only; omega), by first | omega | (dsimp only; omega), by first | omega | (dsimp only; omega), by first | omega | (dsimp only; omega), by first | omega | (dsimp only; omega)⟩, rfl, rfl⟩
 refine FJ.e (goes_sch rfl rfl) rfl (by decide) rfl (e_buildSliceL (ps := [(0, .int .i64 1), (1, .int .i64 2), (2, .int .i64 1), (3, .int .i64 0), (4, .int .i64 9)]) (cs := [.int .i64 1, .int .i64 2, .int .i64 1, .int .i64 0, .int .i64 9]) rfl u_40 (inz inf_2) (by decide) (by intro act hact; simp only [List.map_toArray, List.map_cons, List.map_nil, (show Val _ _ _ from .c) act hact, (show Val _ _ _ from .c) act hact, (show Val _ _ _ from .c) act hact, (show Val _ _ _ from .c) act hact, (show Val _ _ _ from .c) act hact]) rfl rfl (by decide) rfl rfl) ?_
 rintro _ _ ⟨g39, rfl, rfl⟩
 refine FJ.sk (.s4 (.s (.s .z))) ?_
 refine FJ.schN ?_
 refine FJ.sch [(6, false), (7, false), (10, false), (13, false), (14, true), (16, false), (17, true), (18, false), (19, false), (20, false), (21, true), (22, true), (23, false)] 0 #[true, true, true, true, true, true, true, true, true, true, true, true, true, true, true, true, true, true, true, true, true, true, true, true] (by rfl) (by kernel_rfl) ?_
 refine FJ.e (goes_sch rfl rfl) rfl (by decide) rfl (e_buildSliceL (ps := [(0, .int .i64 m16), (1, .int .i64 m17), (2, .int .i64 (-1))]) (cs := [.int .i64 m16, .int .i64 m17, .int .i64 (-1)]) rfl u_40 (inz inf_2) (by decide) (by intro act hact; simp only [List.map_toArray, List.map_cons, List.map_nil, (show Val _ _ _ from (.t (.s (.s .z)))) act hact, (show Val _ _ _ from (.t (.s .z))) act hact, (show Val _ _ _ from .c) act hact]) rfl rfl (by decide) rfl rfl) ?_
 rintro _ _ ⟨g40, rfl, rfl⟩
 refine FJ.sk (.s4 (.s (.s (.s .z)))) ?_
 refine FJ.turns (c := ownA kSl_2 ([m16, m17, (-1)] : (List Int)) [.slice (some ⟨g40, 0, none⟩) 3 3]) (.c .z .n) (fun w S h => lit_own (xs := ([m16, m17, (-1)] : (List Int))) h rfl (by simp) (by omega) (by omega)) ?_
 refine FJ.call (goes_sch rfl rfl) rfl (by decide) rfl (c_call rfl Try.func120 rfl rfl (args2 (.t (.s4 (.s4 (.s (.s .z))))) (.t .z))) (.c (.s (.s .z)) .n) (fun w1 S1 hs tr => c_120 (tr.ctx h0) (tr.own .z) hs (by omega) (by simp)) ?_
 rintro _ _ ⟨m42, hm42, rfl, rfl⟩
 refine FJ.cat (.c .n) ?_
 simp only [List.mem_cons, List.not_mem_nil, or_false] at hm42
 refine FJ.sk (.s4 (.s (.s (.s .z)))) ?_
 refine FJ.turns (c := ownA kSl_2 ([1, 2, 1, 0, 9] : (List Int)) [.slice (some ⟨g39, 0, none⟩) 5 5]) (.c (.s (.s .z)) .n) (fun w S h => lit_own (xs := ([1, 2, 1, 0, 9] : (List Int))) h rfl (by simp) (by omega) (by omega)) ?_
 refine FJ.call (goes_sch rfl rfl) rfl (by decide) rfl (c_call rfl Try.func120 rfl rfl (args2 (.t (.s4 (.s4 .z))) (.t (.s (.s .z))))) (.c (.s .z) .n) (fun w1 S1 hs tr => c_120 (tr.ctx h0) (tr.own .z) hs (by omega) (by simp)) ?_
 rintro _ _ ⟨m44, hm44, rfl, rfl⟩
 refine FJ.cat (.c .n) ?_
 simp only [List.mem_cons, List.not_mem_nil, or_false] at hm44
 refine FJ.sk (.s4 (.s (.s (.s .z)))) ?_
 refine FJ.call (goes_sch rfl rfl) rfl (by decide) rfl (c_call rfl Try.func95 rfl rfl (args2 (.t (.s4 (.s (.s (.s .z))))) .c)) (.c .z .n) (fun w1 S1 hs tr => c_95 (tr.ctx h0) _ hs (by omega) (by omega)) ?_
 rintro _ _ ⟨m45, h0m45, h1m45, rfl, rfl⟩
 refine FJ.cat (.c .n) ?_
 refine FJ.sk (.s4 (.s (.s (.s .z)))) ?_
 refine FJ.dq rfl rfl rfl (by decide) rfl (.s4 (.s (.s (.s .z)))) (q_add (c := 1 + m45) rfl .c (.t .z) (wr (by omega) (by omega) (by omega))) ?_
 refine FJ.call (goes_sch rfl rfl) rfl (by decide) rfl (c_call rfl Try.func95 rfl rfl (args2 (.t (.s4 (.s4 .z))) .c)) (.c .z .n) (fun w1 S1 hs tr => c_95 (tr.ctx h0) _ hs (by omega) (by omega)) ?_
 rintro _ _ ⟨m46, h0m46, h1m46, rfl, rfl⟩
 refine FJ.cat (.c .n) ?_
 refine FJ.sk (.s4 (.s (.s (.s .z)))) ?_
 refine FJ.dq rfl rfl rfl (by decide) rfl (.s4 (.s (.s (.s .z)))) (q_add (c := 1 + m46) rfl .c (.t .z) (wr (by omega) (by omega) (by omega))) ?_
 refine FJ.e (goes_sch rfl rfl) rfl (by decide) rfl (e_buildSliceL (ps := [(0, .int .i64 (1 + m45)), (1, .int .i64 (1 + m46)), (2, .int .i64 0), (3, .int .i64 10000)]) (cs := [.int .i64 (1 + m45), .int .i64 (1 + m46), .int .i64 0, .int .i64 10000]) rfl u_40 (inz inf_2) (by decide) (by intro act hact; simp only [List.map_toArray, List.map_cons, List.map_nil, (show Val _ _ _ from (.t (.s (.s .z)))) act hact, (show Val _ _ _ from (.t .z)) act hact, (show Val _ _ _ from .c) act hact, (show Val _ _ _ from .c) act hact]) rfl rfl (by decide) rfl rfl) ?_
 rintro _ _ ⟨g47, rfl, rfl⟩
 refine FJ.sk (.s4 (.s4 .z)) ?_
 refine FJ.turns (c := ownA kSl_2 ([1 + m45, 1 + m46, 0, 10000] : (List Int)) [.slice (some ⟨g47, 0, none⟩) 4 4]) (.c .z .n) (fun w S h => lit_own (xs := ([1 + m45, 1 + m46, 0, 10000] : (List Int))) h rfl (by simp) (by omega) (by omega)) ?_
 refine FJ.call (goes_sch rfl rfl) rfl (by decide) rfl (c_call rfl Try.func120 rfl rfl (args2 (.t (.s4 (.s4 (.s4 (.s .z))))) (.t .z))) (.c (.s .z) .n) (fun w1 S1 hs tr => c_120 (tr.ctx h0) (tr.own .z) hs (by omega) (by simp)) ?_
 rintro _ _ ⟨m49, hm49, rfl, rfl⟩
 refine FJ.cat (.c .n) ?_
 simp only [List.mem_cons, List.not_mem_nil, or_false] at hm49
 refine FJ.sk (.s4 (.s4 .z)) ?_
 refine FJ.es (goes_sch rfl rfl) rfl (es_store (off := 0) (cs := [.slice Ao12 kn4.disk.blocks.length co12, .slice Ao13 kn4.disk.cache.length co13, .slice Ao14 kn4.exts.length co14]) rfl sz_43 (.t (.s16 (.s4 (.s4 (.s4 (.s .z)))))) (.t (.s16 (.s (.s (.s .z))))) rfl (ones rfl) (.s4 (.s (.s (.s .z)))) (Nat.le_of_ble_eq_true rfl) (.c .z (.c (.s .z) (.c (.s (.s .z)) .n)))) ?_
 refine FJ.sk (.s4 (.s4 .z)) ?_
 refine FJ.er (.s16 (.s4 (.s4 (.s4 .z)))) (FJ.dq rfl rfl rfl (by decide) rfl (.s4 (.s4 .z)) (q_assign rfl (.t (.s4 (.s (.s (.s .z)))))) (FJ.er (.s16 (.s4 (.s4 (.s4 .z)))) (FJ.dq rfl rfl rfl (by decide) rfl (.s4 (.s4 .z)) (q_assign rfl (.t (.s4 (.s (.s (.s .z)))))) (FJ.er (.s16 (.s4 (.s4 (.s4 .z)))) ?_))))
 refine FJ.q (goes_sch rfl rfl) rfl (by decide) rfl (q_assign rfl (.t (.s (.s .z)))) ?_
 refine FJ.sl rfl ?_
 refine FJ.schN ?_
 refine FJ.drawN (by kernel_rfl) ?_
 refine FJ.then_ (FJ.ret ?_)
 refine FJ.doneS (res_cttt (cs := [.slice Ao12 kn4.disk.blocks.length co12, .slice Ao13 kn4.disk.cache.length co13, .slice Ao14 kn4.exts.length co14]) rfl (.s16 (.s4 (.s4 (.s4 (.s .z))))) ag_43 sz_43 (WS.rows0 (cs := [.slice Ao12 kn4.disk.blocks.length co12, .slice Ao13 kn4.disk.cache.length co13, .slice Ao14 kn4.exts.length co14]) .z (fun _ _ h => h)) (.s (.s .z)) (.s .z) .z) (.c (.s4 (.s .z)) (.c (.s4 (.s .z)) (.c (.s4 (.s .z)) .n))) ?_
 exact ⟨⟨⟨kn4.disk.blocks, kn4.disk.cache⟩, kn4.exts⟩, _, _, _, _, _, _, ⟨by first | omega | (dsimp only; omega), by first | omega | (dsimp only; omega), by first | omega | (dsimp only; omega), by first | omega | (dsimp only; omega), by first | omega | (dsimp only; omega), by first | omega | (dsimp only; omega), by first | omega | (dsimp only; omega), by first | omega | (dsimp only; omega), by first | omega | (dsimp only; omega)⟩, rfl, rfl⟩
 refine FJ.e (goes_sch rfl rfl) rfl (by decide) rfl (e_buildSliceL (ps := [(0, .int .i64 1), (1, .int .i64 2), (2, .int .i64 1), (3, .int .i64 0), (4, .int .i64 9)]) (cs := [.int .i64 1, .int .i64 2, .int .i64 1, .int .i64 0, .int .i64 9]) rfl u_40 (inz inf_2) (by decide) (by intro act hact; simp only [List.map_toArray, List.map_cons, List.map_nil, (show Val _ _ _ from .c) act hact, (show Val _ _ _ from .c) act hact, (show Val _ _ _ from .c) act hact, (show Val _ _ _ from .c) act hact, (show Val _ _ _ from .c) act hact]) rfl rfl (by decide) rfl rfl) ?_
 rintro _ _ ⟨g50, rfl, rfl⟩
 refine FJ.sk (.s4 (.s (.s .z))) ?_
 refine FJ.schN ?_
 refine FJ.sch [(5, false), (6, false), (7, false), (10, false), (13, false), (14, true), (16, false), (17, true), (18, false), (19, false), (20, false), (21, true), (22, true), (23, false)] 0 #[true, true, true, true, true, true, true, true, true, true, true, true, true, true, true, true, true, true, true, true, true, true, true, true] (by rfl) (by kernel_rfl) ?_
 refine FJ.call (goes_sch rfl rfl) rfl (by decide) rfl (c_call rfl Try.func95 rfl rfl (args2 (.t (.s4 (.s (.s .z)))) .c)) (.c (.s .z) .n) (fun w1 S1 hs tr => c_95 (tr.ctx h0) _ hs (by omega) (by omega)) ?_
 rintro _ _ ⟨m51, h0m51, h1m51, rfl, rfl⟩
 refine FJ.cat (.c .n) ?_
 refine FJ.sk (.s4 (.s (.s .z))) ?_
 refine FJ.e (goes_sch rfl rfl) rfl (by decide) rfl (e_buildSliceL (ps := [(0, .int .i64 m16), (1, .int .i64 m51), (2, .int .i64 (-1))]) (cs := [.int .i64 m16, .int .i64 m51, .int .i64 (-1)]) rfl u_40 (inz inf_2) (by decide) (by intro act hact; simp only [List.map_toArray, List.map_cons, List.map_nil, (show Val _ _ _ from (.t (.s (.s .z)))) act hact, (show Val _ _ _ from (.t .z)) act hact, (show Val _ _ _ from .c) act hact]) rfl rfl (by decide) rfl rfl) ?_
 rintro _ _ ⟨g52, rfl, rfl⟩
 refine FJ.sk (.s4 (.s (.s (.s .z)))) ?_
 refine FJ.turns (c := ownA kSl_2 ([m16, m51, (-1)] : (List Int)) [.slice (some ⟨g52, 0, none⟩) 3 3]) (.c .z .n) (fun w S h => lit_own (xs := ([m16, m51, (-1)] : (List Int))) h rfl (by simp) (by omega) (by omega)) ?_
 refine FJ.call (goes_sch rfl rfl) rfl (by decide) rfl (c_call rfl Try.func120 rfl rfl (args2 (.t (.s4 (.s4 (.s (.s .z))))) (.t .z))) (.c (.s .z) .n) (fun w1 S1 hs tr => c_120 (tr.ctx h0) (tr.own .z) hs (by omega) (by simp)) ?_
 rintro _ _ ⟨m54, hm54, rfl, rfl⟩
 refine FJ.cat (.c .n) ?_
 simp only [List.mem_cons, List.not_mem_nil, or_false] at hm54
 refine FJ.sk (.s4 (.s (.s (.s .z)))) ?_
 refine FJ.turns (c := ownA kSl_2 ([1, 2, 1, 0, 9] : (List Int)) [.slice (some ⟨g50, 0, none⟩) 5 5]) (.c (.s (.s .z)) .n) (fun w S h => lit_own (xs := ([1, 2, 1, 0, 9] : (List Int))) h rfl (by simp) (by omega) (by omega)) ?_
 refine FJ.call (goes_sch rfl rfl) rfl (by decide) rfl (c_call rfl Try.func120 rfl rfl (args2 (.t (.s4 (.s4 .z))) (.t (.s (.s (.s .z)))))) (.c (.s .z) .n) (fun w1 S1 hs tr => c_120 (tr.ctx h0) (tr.own .z) hs (by omega) (by simp)) ?_
 rintro _ _ ⟨m56, hm56, rfl, rfl⟩
 refine FJ.cat (.c .n) ?_
 simp only [List.mem_cons, List.not_mem_nil, or_false] at hm56
 refine FJ.sk (.s4 (.s (.s (.s .z)))) ?_
 refine FJ.call (goes_sch rfl rfl) rfl (by decide) rfl (c_call rfl Try.func95 rfl rfl (args2 (.t (.s4 (.s (.s (.s .z))))) .c)) (.c .z .n) (fun w1 S1 hs tr => c_95 (tr.ctx h0) _ hs (by omega) (by omega)) ?_
 rintro _ _ ⟨m57, h0m57, h1m57, rfl, rfl⟩
 refine FJ.cat (.c .n) ?_
 refine FJ.sk (.s4 (.s (.s (.s .z)))) ?_
 refine FJ.dq rfl rfl rfl (by decide) rfl (.s4 (.s (.s (.s .z)))) (q_add (c := 1 + m57) rfl .c (.t .z) (wr (by omega) (by omega) (by omega))) ?_
 refine FJ.call (goes_sch rfl rfl) rfl (by decide) rfl (c_call rfl Try.func95 rfl rfl (args2 (.t (.s4 (.s4 .z))) .c)) (.c .z .n) (fun w1 S1 hs tr => c_95 (tr.ctx h0) _ hs (by omega) (by omega)) ?_
 rintro _ _ ⟨m58, h0m58, h1m58, rfl, rfl⟩
 refine FJ.cat (.c .n) ?_
 refine FJ.sk (.s4 (.s (.s (.s .z)))) ?_
 refine FJ.dq rfl rfl rfl (by decide) rfl (.s4 (.s (.s (.s .z)))) (q_add (c := 1 + m58) rfl .c (.t .z) (wr (by omega) (by omega) (by omega))) ?_
 refine FJ.e (goes_sch rfl rfl) rfl (by decide) rfl (e_buildSliceL (ps := [(0, .int .i64 (1 + m57)), (1, .int .i64 (1 + m58)), (2, .int .i64 0), (3, .int .i64 10000)]) (cs := [.int .i64 (1 + m57), .int .i64 (1 + m58), .int .i64 0, .int .i64 10000]) rfl u_40 (inz inf_2) (by decide) (by intro act hact; simp only [List.map_toArray, List.map_cons, List.map_nil, (show Val _ _ _ from (.t (.s (.s .z)))) act hact, (show Val _ _ _ from (.t .z)) act hact, (show Val _ _ _ from .c) act hact, (show Val _ _ _ from .c) act hact]) rfl rfl (by decide) rfl rfl) ?_
 rintro _ _ ⟨g59, rfl, rfl⟩
 refine FJ.sk (.s4 (.s4 .z)) ?_
 refine FJ.turns (c := ownA kSl_2 ([1 + m57, 1 + m58, 0, 10000] : (List Int)) [.slice (some ⟨g59, 0, none⟩) 4 4]) (.c .z .n) (fun w S h => lit_own (xs := ([1 + m57, 1 + m58, 0, 10000] : (List Int))) h rfl (by simp) (by omega) (by omega)) ?_
 refine FJ.call (goes_sch rfl rfl) rfl (by decide) rfl (c_call rfl Try.func120 rfl rfl (args2 (.t (.s4 (.s4 (.s4 (.s .z))))) (.t .z))) (.c (.s .z) .n) (fun w1 S1 hs tr => c_120 (tr.ctx h0) (tr.own .z) hs (by omega) (by simp)) ?_
 rintro _ _ ⟨m61, hm61, rfl, rfl⟩
 refine FJ.cat (.c .n) ?_
 simp only [List.mem_cons, List.not_mem_nil, or_false] at hm61
 refine FJ.sk (.s4 (.s4 .z)) ?_
 refine FJ.es (goes_sch rfl rfl) rfl (es_store (off := 0) (cs := [.slice Ao12 kn4.disk.blocks.length co12, .slice Ao13 kn4.disk.cache.length co13, .slice Ao14 kn4.exts.length co14]) rfl sz_43 (.t (.s16 (.s4 (.s4 (.s4 (.s .z)))))) (.t (.s16 (.s (.s (.s .z))))) rfl (ones rfl) (.s4 (.s (.s (.s .z)))) (Nat.le_of_ble_eq_true rfl) (.c .z (.c (.s .z) (.c (.s (.s .z)) .n)))) ?_
 refine FJ.sk (.s4 (.s4 .z)) ?_
 refine FJ.er (.s16 (.s4 (.s4 (.s4 .z)))) (FJ.dq rfl rfl rfl (by decide) rfl (.s4 (.s4 .z)) (q_assign rfl (.t (.s4 (.s (.s (.s .z)))))) (FJ.er (.s16 (.s4 (.s4 (.s4 .z)))) (FJ.dq rfl rfl rfl (by decide) rfl (.s4 (.s4 .z)) (q_assign rfl (.t (.s4 (.s (.s (.s .z)))))) (FJ.er (.s16 (.s4 (.s4 (.s4 .z)))) ?_))))
 refine FJ.q (goes_sch rfl rfl) rfl (by decide) rfl (q_assign rfl (.t (.s (.s .z)))) ?_
 refine FJ.sl rfl ?_
 refine FJ.schN ?_
 refine FJ.drawN (by kernel_rfl) ?_
 refine FJ.then_ (FJ.ret ?_)
 refine FJ.doneS (res_cttt (cs := [.slice Ao12 kn4.disk.blocks.length co12, .slice Ao13 kn4.disk.cache.length co13, .slice Ao14 kn4.exts.length co14]) rfl (.s16 (.s4 (.s4 (.s4 (.s .z))))) ag_43 sz_43 (WS.rows0 (cs := [.slice Ao12 kn4.disk.blocks.length co12, .slice Ao13 kn4.disk.cache.length co13, .slice Ao14 kn4.exts.length co14]) .z (fun _ _ h => h)) (.s (.s .z)) (.s .z) .z) (.c (.s4 (.s .z)) (.c (.s4 (.s .z)) (.c (.s4 (.s .z)) .n))) ?_
 exact ⟨⟨⟨kn4.disk.blocks, kn4.disk.cache⟩, kn4.exts⟩, _, _, _, _, _, _, ⟨by first | omega | (dsimp only; omega), by first | omega | (dsimp only; omega), by first | omega | (dsimp only; omega), by first | omega | (dsimp only; omega), by first | omega | (dsimp only; omega), by first | omega | (dsimp only; omega), by first | omega | (dsimp only; omega), by first | omega | (dsimp only; omega), by first | omega | (dsimp only; omega)⟩, rfl, rfl⟩
 refine FJ.e (goes_sch rfl rfl) rfl (by decide) rfl (e_buildSliceL (ps := [(0, .int .i64 1), (1, .int .i64 2), (2, .int .i64 1), (3, .int .i64 0), (4, .int .i64 9)]) (cs := [.int .i64 1, .int .i64 2, .int .i64 1, .int .i64 0, .int .i64 9]) rfl u_40 (inz inf_2) (by decide) (by intro act hact; simp only [List.map_toArray, List.map_cons, List.map_nil, (show Val _ _ _ from .c) act hact, (show Val _ _ _ from .c) act hact, (show Val _ _ _ from .c) act hact, (show Val _ _ _ from .c) act hact, (show Val _ _ _ from .c) act hact]) rfl rfl (by decide) rfl rfl) ?_
 rintro _ _ ⟨g62, rfl, rfl⟩
 refine FJ.sk (.s4 (.s (.s .z))) ?_
 refine FJ.schN ?_
 refine FJ.sch [(3, false), (5, false), (6, false), (7, false), (10, false), (13, false), (14, true), (16, false), (17, true), (18, false), (19, false), (20, false), (21, true), (22, true), (23, false)] 0 #[true, true, true, true, true, true, true, true, true, true, true, true, true, true, true, true, true, true, true, true, true, true, true, true] (by rfl) (by kernel_rfl) ?_
 refine FJ.call (goes_sch rfl rfl) rfl (by decide) rfl (c_call rfl Try.func95 rfl rfl (args2 (.t (.s4 (.s (.s .z)))) .c)) (.c (.s4 .z) .n) (fun w1 S1 hs tr => c_95 (tr.ctx h0) _ hs (by omega) (by omega)) ?_
 rintro _ _ ⟨m63, h0m63, h1m63, rfl, rfl⟩
 refine FJ.cat (.c .n) ?_
 refine FJ.sk (.s4 (.s (.s .z))) ?_
 refine FJ.call (goes_sch rfl rfl) rfl (by decide) rfl (c_call rfl Try.func95 rfl rfl (args2 (.t (.s4 (.s (.s .z)))) .c)) (.c .z .n) (fun w1 S1 hs tr => c_95 (tr.ctx h0) _ hs (by omega) (by omega)) ?_
 rintro _ _ ⟨m64, h0m64, h1m64, rfl, rfl⟩
 refine FJ.cat (.c .n) ?_
 refine FJ.sk (.s4 (.s (.s .z))) ?_
 refine FJ.e (goes_sch rfl rfl) rfl (by decide) rfl (e_buildSliceL (ps := [(0, .int .i64 m63), (1, .int .i64 m64), (2, .int .i64 (-1))]) (cs := [.int .i64 m63, .int .i64 m64, .int .i64 (-1)]) rfl u_40 (inz inf_2) (by decide) (by intro act hact; simp only [List.map_toArray, List.map_cons, List.map_nil, (show Val _ _ _ from (.t (.s .z))) act hact, (show Val _ _ _ from (.t .z)) act hact, (show Val _ _ _ from .c) act hact]) rfl rfl (by decide) rfl rfl) ?_
 rintro _ _ ⟨g65, rfl, rfl⟩
 refine FJ.sk (.s4 (.s (.s (.s .z)))) ?_
 refine FJ.turns (c := ownA kSl_2 ([m63, m64, (-1)] : (List Int)) [.slice (some ⟨g65, 0, none⟩) 3 3]) (.c .z .n) (fun w S h => lit_own (xs := ([m63, m64, (-1)] : (List Int))) h rfl (by simp) (by omega) (by omega)) ?_
 refine FJ.call (goes_sch rfl rfl) rfl (by decide) rfl (c_call rfl Try.func120 rfl rfl (args2 (.t (.s4 (.s4 (.s (.s .z))))) (.t .z))) (.c (.s .z) .n) (fun w1 S1 hs tr => c_120 (tr.ctx h0) (tr.own .z) hs (by omega) (by simp)) ?_
 rintro _ _ ⟨m67, hm67, rfl, rfl⟩
 refine FJ.cat (.c .n) ?_
 simp only [List.mem_cons, List.not_mem_nil, or_false] at hm67
 refine FJ.sk (.s4 (.s (.s (.s .z)))) ?_
 refine FJ.turns (c := ownA kSl_2 ([1, 2, 1, 0, 9] : (List Int)) [.slice (some ⟨g62, 0, none⟩) 5 5]) (.c (.s (.s .z)) .n) (fun w S h => lit_own (xs := ([1, 2, 1, 0, 9] : (List Int))) h rfl (by simp) (by omega) (by omega)) ?_
 refine FJ.call (goes_sch rfl rfl) rfl (by decide) rfl (c_call rfl Try.func120 rfl rfl (args2 (.t (.s4 (.s4 .z))) (.t (.s4 .z)))) (.c (.s .z) .n) (fun w1 S1 hs tr => c_120 (tr.ctx h0) (tr.own .z) hs (by omega) (by simp)) ?_
 rintro _ _ ⟨m69, hm69, rfl, rfl⟩
 refine FJ.cat (.c .n) ?_
 simp only [List.mem_cons, List.not_mem_nil, or_false] at hm69
 refine FJ.sk (.s4 (.s (.s (.s .z)))) ?_
 refine FJ.call (goes_sch rfl rfl) rfl (by decide) rfl (c_call rfl Try.func95 rfl rfl (args2 (.t (.s4 (.s (.s (.s .z))))) .c)) (.c .z .n) (fun w1 S1 hs tr => c_95 (tr.ctx h0) _ hs (by omega) (by omega)) ?_
 rintro _ _ ⟨m70, h0m70, h1m70, rfl, rfl⟩
 refine FJ.cat (.c .n) ?_
 refine FJ.sk (.s4 (.s (.s (.s .z)))) ?_
 refine FJ.dq rfl rfl rfl (by decide) rfl (.s4 (.s (.s (.s .z)))) (q_add (c := 1 + m70) rfl .c (.t .z) (wr (by omega) (by omega) (by omega))) ?_
 refine FJ.call (goes_sch rfl rfl) rfl (by decide) rfl (c_call rfl Try.func95 rfl rfl (args2 (.t (.s4 (.s4 .z))) .c)) (.c .z .n) (fun w1 S1 hs tr => c_95 (tr.ctx h0) _ hs (by omega) (by omega)) ?_
 rintro _ _ ⟨m71, h0m71, h1m71, rfl, rfl⟩
 refine FJ.cat (.c .n) ?_
 refine FJ.sk (.s4 (.s (.s (.s .z)))) ?_
 refine FJ.dq rfl rfl rfl (by decide) rfl (.s4 (.s (.s (.s .z)))) (q_add (c := 1 + m71) rfl .c (.t .z) (wr (by omega) (by omega) (by omega))) ?_
 refine FJ.e (goes_sch rfl rfl) rfl (by decide) rfl (e_buildSliceL (ps := [(0, .int .i64 (1 + m70)), (1, .int .i64 (1 + m71)), (2, .int .i64 0), (3, .int .i64 10000)]) (cs := [.int .i64 (1 + m70), .int .i64 (1 + m71), .int .i64 0, .int .i64 10000]) rfl u_40 (inz inf_2) (by decide) (by intro act hact; simp only [List.map_toArray, List.map_cons, List.map_nil, (show Val _ _ _ from (.t (.s (.s .z)))) act hact, (show Val _ _ _ from (.t .z)) act hact, (show Val _ _ _ from .c) act hact, (show Val _ _ _ from .c) act hact]) rfl rfl (by decide) rfl rfl) ?_
 rintro _ _ ⟨g72, rfl, rfl⟩
 refine FJ.sk (.s4 (.s4 .z)) ?_
 refine FJ.turns (c := ownA kSl_2 ([1 + m70, 1 + m71, 0, 10000] : (List Int)) [.slice (some ⟨g72, 0, none⟩) 4 4]) (.c .z .n) (fun w S h => lit_own (xs := ([1 + m70, 1 + m71, 0, 10000] : (List Int))) h rfl (by simp) (by omega) (by omega)) ?_
 refine FJ.call (goes_sch rfl rfl) rfl (by decide) rfl (c_call rfl Try.func120 rfl rfl (args2 (.t (.s4 (.s4 (.s4 (.s .z))))) (.t .z))) (.c (.s .z) .n) (fun w1 S1 hs tr => c_120 (tr.ctx h0) (tr.own .z) hs (by omega) (by simp)) ?_
 rintro _ _ ⟨m74, hm74, rfl, rfl⟩
 refine FJ.cat (.c .n) ?_
 simp only [List.mem_cons, List.not_mem_nil, or_false] at hm74
 refine FJ.sk (.s4 (.s4 .z)) ?_
 refine FJ.es (goes_sch rfl rfl) rfl (es_store (off := 0) (cs := [.slice Ao12 kn4.disk.blocks.length co12, .slice Ao13 kn4.disk.cache.length co13, .slice Ao14 kn4.exts.length co14]) rfl sz_43 (.t (.s16 (.s4 (.s4 (.s4 (.s .z)))))) (.t (.s16 (.s (.s (.s .z))))) rfl (ones rfl) (.s4 (.s (.s (.s .z)))) (Nat.le_of_ble_eq_true rfl) (.c .z (.c (.s .z) (.c (.s (.s .z)) .n)))) ?_
 refine FJ.sk (.s4 (.s4 .z)) ?_
 refine FJ.er (.s16 (.s4 (.s4 (.s4 .z)))) (FJ.dq rfl rfl rfl (by decide) rfl (.s4 (.s4 .z)) (q_assign rfl (.t (.s4 (.s (.s (.s .z)))))) (FJ.er (.s16 (.s4 (.s4 (.s4 .z)))) (FJ.dq rfl rfl rfl (by decide) rfl (.s4 (.s4 .z)) (q_assign rfl (.t (.s4 (.s (.s (.s .z)))))) (FJ.er (.s16 (.s4 (.s4 (.s4 .z)))) ?_))))
 refine FJ.q (goes_sch rfl rfl) rfl (by decide) rfl (q_assign rfl (.t (.s (.s .z)))) ?_
 refine FJ.sl rfl ?_
 refine FJ.schN ?_
 refine FJ.drawN (by kernel_rfl) ?_
 refine FJ.then_ (FJ.ret ?_)
 refine FJ.doneS (res_cttt (cs := [.slice Ao12 kn4.disk.blocks.length co12, .slice Ao13 kn4.disk.cache.length co13, .slice Ao14 kn4.exts.length co14]) rfl (.s16 (.s4 (.s4 (.s4 (.s .z))))) ag_43 sz_43 (WS.rows0 (cs := [.slice Ao12 kn4.disk.blocks.length co12, .slice Ao13 kn4.disk.cache.length co13, .slice Ao14 kn4.exts.length co14]) .z (fun _ _ h => h)) (.s (.s .z)) (.s .z) .z) (.c (.s4 (.s .z)) (.c (.s4 (.s .z)) (.c (.s4 (.s .z)) .n))) ?_
 exact ⟨⟨⟨kn4.disk.blocks, kn4.disk.cache⟩, kn4.exts⟩, _, _, _, _, _, _, ⟨by first | omega | (dsimp only; omega), by first | omega | (dsimp only; omega), by first | omega | (dsimp only; omega), by first | omega | (dsimp only; omega), by first | omega | (dsimp only; omega), by first | omega | (dsimp only; omega), by first | omega | (dsimp only; omega), by first | omega | (dsimp only; omega), by first | omega | (dsimp only; omega)⟩, rfl, rfl⟩

end Go.Proofs.Ytkmcpcahbfdohaa

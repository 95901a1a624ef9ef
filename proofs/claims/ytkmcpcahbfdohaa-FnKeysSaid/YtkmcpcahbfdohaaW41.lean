/- What is proved: contracts of functions, one a function. No condition. -/
import Derived.Test.YtkmcpcahbfdohaaW40
namespace Go.Proofs.Ytkmcpcahbfdohaa
open Go Go.RowKit
set_option linter.unusedVariables false
set_option linter.unusedSimpArgs false
set_option maxHeartbeats 1000000 in
set_option maxRecDepth 20000 in
theorem c_93 {w0 : World} {S0 : Bs} {g0 e0 s0 : Nat} {post0 : List Value} {cd : List UInt8} {Ac : Option Addr} {cc : Nat} (hcd : kSl_5.ro w0 (FF w0 S0) cd [.slice Ac cd.length cc]) {a : Int} (hs : Star [rowA g0 e0 s0 1 ((.slice Ac cd.length cc) :: (.int .i64 a) :: post0)] w0 S0) (ha : 0 ≤ a ∧ a ≤ 980000) :
    Calls Try.prog 93 #[.pointer (some ⟨g0, 0, none⟩)] w0 (TriPost w0 S0 (fun r l => ∃ (x : DDisk) (v0 v1 : Value) (u : Int), (x.blocks.length ≤ 61 ∧ x.cache.length ≤ 201 ∧ a ≤ u ∧ u ≤ a + 60) ∧ r = .agg #[v0, v1] ∧ l = [ownA kSl_40 x.blocks [v0], ownA kSl_57 x.cache [v1], rowA g0 e0 s0 1 (.slice Ac cd.length cc :: .int .i64 u :: post0)])) := by
 obtain ⟨hlc, hmc, hbc⟩ := src_hl hcd
 refine FJ.enter (N := 80) Try.func93 rfl rfl (by simp) [(0, .pointer (some ⟨g0, 0, none⟩))] (by simp) hs ?_
 refine FJ.seq (FJ.region ?_)
 refine FJ.e (goes_list rfl) rfl (by decide) rfl (e_alloc rfl z_25 rfl rfl) ?_
 rintro _ _ ⟨g2, rfl, rfl⟩
 refine FJ.nil (FJ.then_ (FJ.seq (FJ.region (FJ.ql rfl (q_move rfl (.t (.s .z))) ?_))))
 refine FJ.call (goes_list rfl) rfl (by decide) rfl (c_call rfl Try.func95 rfl rfl (args2 (.t .z) .c)) (.c (.s .z) .n) (fun w1 S1 hs tr => c_95 (tr.ctx hcd) _ hs (by omega) (by omega)) ?_
 rintro _ _ ⟨m3, h0m3, h1m3, rfl, rfl⟩
 refine FJ.cat (.c .n) ?_
 refine FJ.ql rfl (q_add (c := 1 + m3) rfl .c (.t .z) (wr (by omega) (by omega) (by omega))) ?_
 refine FJ.ql rfl (q_assign rfl (.t .z)) (FJ.nil (FJ.then_ (FJ.seq (FJ.region ?_))))
 refine FJ.ql rfl (q_move rfl (.t .z)) ?_
 refine FJ.call (goes_list rfl) rfl (by decide) rfl (c_call rfl Try.func78 rfl rfl (args1 (.t .z))) .n (fun w1 S1 hs tr => c_78 _ (by first | assumption | omega)) ?_
 rintro _ _ ⟨v4, v6, rfl, rfl⟩
 refine FJ.cat (.c (.c .n)) ?_
 refine FJ.know (WS.oform .z) ?_
 rintro ⟨Ao8, co8, rfl, hlo8, hmo8, hbo8⟩
 refine FJ.know (WS.oform (.s .z)) ?_
 rintro ⟨Ao9, co9, rfl, hlo9, hmo9, hbo9⟩
 refine FJ.e (goes_list rfl) rfl (by decide) rfl (e_alloc rfl z_25 rfl rfl) ?_
 rintro _ _ ⟨g10, rfl, rfl⟩
 refine FJ.es (goes_list rfl) rfl (es_store (off := 0) (cs := [.slice Ao8 ((⟨List.replicate (Int.toNat (1 + m3)) [], []⟩ : DDisk).blocks).length co8, .slice Ao9 ((⟨List.replicate (Int.toNat (1 + m3)) [], []⟩ : DDisk).cache).length co9]) rfl sz_25 (.t .z) (.t (.s .z)) rfl (ones rfl) .z (Nat.le_of_ble_eq_true rfl) (.c .z (.c (.s .z) .n))) ?_
 refine FJ.nil (FJ.then_ (FJ.seq (FJ.seq (FJ.region ?_))))
 refine FJ.ql rfl (q_move rfl (.t (.s4 (.s4 .z)))) ?_
 refine FJ.call (goes_list rfl) rfl (by decide) rfl (c_call rfl Try.func95 rfl rfl (args2 (.t .z) .c)) (.c (.s (.s (.s .z))) .n) (fun w1 S1 hs tr => c_95 (tr.ctx hcd) _ hs (by omega) (by omega)) ?_
 rintro _ _ ⟨m11, h0m11, h1m11, rfl, rfl⟩
 refine FJ.cat (.c .n) ?_
 refine FJ.ql rfl (q_assign rfl (.t .z)) (FJ.nil (FJ.then_ (FJ.block ?_)))
 refine FJ.loopi (γ := Int × Int × (List (List Int))) (fun ⟨k, z, B⟩ => [(5, .int .i64 k), (4, .pointer (some ⟨g10, 0, none⟩)), (3, .int .i64 (1 + m3)), (2, .pointer (some ⟨g2, 0, none⟩)), (0, .pointer (some ⟨g0, 0, none⟩))]) (fun ⟨k, z, B⟩ => [rowA g0 e0 s0 1 ((.slice Ac cd.length cc) :: (.int .i64 z) :: post0), rowA g10 25 2 1 [.slice Ao8 ((⟨List.replicate (Int.toNat (1 + m3)) [], []⟩ : DDisk).blocks).length co8, .slice Ao9 ((⟨List.replicate (Int.toNat (1 + m3)) [], []⟩ : DDisk).cache).length co9], ownA kSl_40 B [.slice Ao8 ((⟨List.replicate (Int.toNat (1 + m3)) [], []⟩ : DDisk).blocks).length co8], ownA kSl_57 ((⟨List.replicate (Int.toNat (1 + m3)) [], []⟩ : DDisk).cache) [.slice Ao9 ((⟨List.replicate (Int.toNat (1 + m3)) [], []⟩ : DDisk).cache).length co9], rowA g2 25 2 1 [.slice none 0 0, .slice none 0 0]]) (fun ⟨k, z, B⟩ => (0 ≤ k ∧ k ≤ 5) ∧ (a ≤ z ∧ z + 2 * k ≤ a + 12) ∧ (B.length : Int) = 1 + m3) (fun ⟨k, z, B⟩ => k.toNat) (m11, ((a + 1) + 1), (⟨List.replicate (Int.toNat (1 + m3)) [], []⟩ : DDisk).blocks) ⟨by omega, by omega, by simp only [List.length_replicate]; omega⟩ (.c .z (.c (.s (.s (.s .z))) (.c (.s4 (.s (.s .z))) (.c (.s4 (.s4 (.s (.s .z)))) (.c (.s4 (.s4 (.s (.s (.s .z))))) .n))))) (fun _ h => h.sel (.c .z (.c .z (.c .z (.c .z (.c .z .n)))))) ?_
 rintro ⟨k, z, B⟩ ⟨hk, hz, hB⟩
 refine FJ.seq (FJ.seq (FJ.region (FJ.ql rfl (q_move rfl (.t .z)) (FJ.ql rfl (q_gtr rfl (.t .z) .c) ?_))))
 refine FJ.nil (FJ.then_ ?_)
 refine FJ.condP (.t .z) (fun b12 => ?_) (fun b12 => ?_)
 refine FJ.skip (FJ.then_ (FJ.seq (FJ.block ?_)))
 refine FJ.sel (.c .z (.c (.s .z) (.c (.s .z) (.c .z (.c .z .n))))) ?_
 refine FJ.draw [rowA g10 25 2 1 [.slice Ao8 ((⟨List.replicate (Int.toNat (1 + m3)) [], []⟩ : DDisk).blocks).length co8, .slice Ao9 ((⟨List.replicate (Int.toNat (1 + m3)) [], []⟩ : DDisk).cache).length co9], rowA g2 25 2 1 [.slice none 0 0, .slice none 0 0]] 9 (by kernel_rfl) ?_
 refine FJ.sch [(0, true), (1, true), (2, true), (3, true), (5, true), (4, false), (6, false), (7, false), (8, true), (9, false)] 0 #[true, true, true, true, true, true, true, true, true, true] (by rfl) (by kernel_rfl) ?_
 refine FJ.dq rfl rfl rfl (by decide) rfl (.s (.s (.s .z))) (q_fieldAddr rfl (.t (.s (.s (.s .z)))) (fun _ => fa_25_0 _ _)) (FJ.dq rfl rfl rfl (by decide) rfl (.s (.s (.s .z))) (q_load rfl ag_22 (.t .z) (WS.row .z rfl)) (FJ.dq rfl rfl rfl (by decide) rfl (.s (.s (.s .z))) (q_move rfl (.t (.s4 (.s4 .z)))) (FJ.dq rfl rfl rfl (by decide) rfl (.s (.s (.s .z))) (q_move rfl (.t (.s4 (.s (.s (.s .z)))))) (FJ.dq rfl rfl rfl (by decide) rfl (.s (.s (.s .z))) (q_move rfl (.t (.s4 (.s4 (.s (.s .z)))))) ?_))))
 refine FJ.call (goes_sch rfl rfl) rfl (by decide) rfl (c_call rfl Try.func95 rfl rfl (args2 (.t (.s (.s .z))) (.t (.s .z)))) (.c .z .n) (fun w1 S1 hs tr => c_95 (tr.ctx hcd) _ hs (by omega) (by omega)) ?_
 rintro _ _ ⟨m13, h0m13, h1m13, rfl, rfl⟩
 refine FJ.cat (.c .n) ?_
 refine FJ.sk (.s (.s (.s .z))) ?_
 refine FJ.call (goes_sch rfl rfl) rfl (by decide) rfl (c_call rfl Try.func95 rfl rfl (args2 (.t (.s .z)) .c)) (.c .z .n) (fun w1 S1 hs tr => c_95 (tr.ctx hcd) _ hs (by omega) (by omega)) ?_
 rintro _ _ ⟨m14, h0m14, h1m14, rfl, rfl⟩
 refine FJ.cat (.c .n) ?_
 refine FJ.sk (.s (.s (.s .z))) ?_
 refine FJ.e (goes_sch rfl rfl) rfl (by decide) rfl (e_buildSliceL (ps := [(0, .int .i64 m14)]) (cs := [.int .i64 m14]) rfl u_40 (inz inf_2) (by decide) (by intro act hact; simp only [List.map_toArray, List.map_cons, List.map_nil, (show Val _ _ _ from (.t .z)) act hact]) rfl rfl (by decide) rfl rfl) ?_
 rintro _ _ ⟨g15, rfl, rfl⟩
 refine FJ.sk (.s4 .z) ?_
 refine FJ.know (WS.oad (.s (.s .z)) (by omega)) ?_
 rintro ⟨ad16, rfl⟩
 refine FJ.dq rfl rfl rfl (by decide) rfl (.s4 .z) (q_indexAddr (j := Int.toNat m13) rfl u_22 sz_40 (.t (.s4 (.s (.s .z)))) (.t (.s (.s .z))) (by omega) (by first | omega | (simp only [List.length_replicate]; omega))) ?_
 refine FJ.turns (c := ownA kSl_2 ([m14] : (List Int)) [.slice (some ⟨g15, 0, none⟩) 1 1]) (.c .z .n) (fun w S h => lit_own (xs := ([m14] : (List Int))) h rfl (by simp) (by omega) (by omega)) ?_
 refine FJ.es (goes_sch rfl rfl) rfl (es_set (j := Int.toNat m13) rfl sz_40 (.t .z) (.t (.s .z)) rfl (.c (.s (.s .z)) (.c .z .n)) (by first | omega | (simp only [List.length_replicate]; omega))) ?_
 refine FJ.sl rfl ?_
 refine FJ.schN ?_
 refine FJ.drawN (by kernel_rfl) ?_
 refine FJ.inBN (FJ.then_ (FJ.region (FJ.ql rfl (q_move rfl (.t (.s4 (.s4 (.s (.s (.s .z))))))) ?_)))
 refine FJ.ql rfl (q_sub (c := k - 1) rfl (.t .z) .c (wr (by omega) (by omega) (by omega))) ?_
 refine FJ.er (.s4 (.s4 (.s4 (.s .z)))) (FJ.ql rfl (q_assign rfl (.t .z)) (FJ.nil ?_))
 refine FJ.again (k - 1, ((z + 1) + 1), List.set B (Int.toNat m13) ([m14] : (List Int))) ⟨by omega, by omega, by simp only [List.length_set]; omega⟩ (by first | omega | (dsimp only; omega)) (.c .z (.c (.s4 (.s4 (.s4 (.s (.s .z))))) (.c (.s4 (.s4 (.s4 (.s (.s (.s .z)))))) (.c (.s16 .z) (.c (.s16 (.s .z)) .n))))) (fun _ h => h.sel (.c (.s .z) (.c (.s (.s .z)) (.c .z (.c .z (.c .z .n))))))
 refine FJ.exit (FJ.thenE (FJ.thenE (FJ.inB (FJ.then_ ?_))))
 refine FJ.seq (FJ.seq (FJ.region (FJ.ql rfl (q_move rfl (.t (.s4 (.s (.s .z))))) ?_)))
 refine FJ.call (goes_list rfl) rfl (by decide) rfl (c_call rfl Try.func95 rfl rfl (args2 (.t .z) .c)) (.c .z .n) (fun w1 S1 hs tr => c_95 (tr.ctx hcd) _ hs (by omega) (by omega)) ?_
 rintro _ _ ⟨m18, h0m18, h1m18, rfl, rfl⟩
 refine FJ.cat (.c .n) ?_
 refine FJ.ql rfl (q_assign rfl (.t .z)) (FJ.nil (FJ.then_ (FJ.block ?_)))
 refine FJ.loopi (γ := (Option Addr) × Nat × Int × Int × (List DPut)) (fun ⟨Agq0, cgq0, k2, z2, C⟩ => [(6, .int .i64 k2), (4, .pointer (some ⟨g10, 0, none⟩)), (3, .int .i64 (1 + m3)), (2, .pointer (some ⟨g2, 0, none⟩)), (0, .pointer (some ⟨g0, 0, none⟩))]) (fun ⟨Agq0, cgq0, k2, z2, C⟩ => [rowA g0 e0 s0 1 ((.slice Ac cd.length cc) :: (.int .i64 z2) :: post0), rowA g10 25 2 1 [.slice Ao8 ((⟨List.replicate (Int.toNat (1 + m3)) [], []⟩ : DDisk).blocks).length co8, .slice Agq0 C.length cgq0], ownA kSl_40 B [.slice Ao8 ((⟨List.replicate (Int.toNat (1 + m3)) [], []⟩ : DDisk).blocks).length co8], ownA kSl_57 C [.slice Agq0 C.length cgq0], rowA g2 25 2 1 [.slice none 0 0, .slice none 0 0]]) (fun ⟨Agq0, cgq0, k2, z2, C⟩ => (0 ≤ k2 ∧ k2 ≤ 5) ∧ (a ≤ z2 ∧ z2 + 2 * k2 ≤ a + 24) ∧ (C.length : Int) + k2 ≤ 5) (fun ⟨Agq0, cgq0, k2, z2, C⟩ => k2.toNat) (Ao9, co9, m18, (z + 1), (⟨List.replicate (Int.toNat (1 + m3)) [], []⟩ : DDisk).cache) ⟨by omega, by omega, by simp only [List.length_nil]; omega⟩ (.c .z (.c (.s4 (.s (.s .z))) (.c (.s4 (.s (.s (.s .z)))) (.c (.s4 (.s4 .z)) (.c (.s4 (.s4 (.s .z))) .n))))) (fun _ h => h.sel (.c .z (.c .z (.c .z (.c .z (.c .z .n)))))) ?_
 rintro ⟨Agq0, cgq0, k2, z2, C⟩ ⟨hk2, hz2, hC⟩
 refine FJ.seq (FJ.seq (FJ.region (FJ.ql rfl (q_move rfl (.t .z)) (FJ.ql rfl (q_gtr rfl (.t .z) .c) ?_))))
 refine FJ.nil (FJ.then_ ?_)
 refine FJ.condP (.t .z) (fun b19 => ?_) (fun b19 => ?_)
 refine FJ.skip (FJ.then_ (FJ.seq (FJ.block ?_)))
 refine FJ.sel (.c .z (.c (.s .z) (.c (.s .z) (.c .z (.c .z .n))))) ?_
 refine FJ.draw [rowA g10 25 2 1 [.slice Ao8 ((⟨List.replicate (Int.toNat (1 + m3)) [], []⟩ : DDisk).blocks).length co8, .slice Agq0 C.length cgq0], rowA g2 25 2 1 [.slice none 0 0, .slice none 0 0]] 12 (by kernel_rfl) ?_
 refine FJ.sch [(0, true), (1, true), (2, true), (3, true), (5, true), (4, false), (6, false), (7, false), (8, true), (9, false), (10, false), (11, true), (12, false)] 0 #[true, true, true, true, true, true, true, true, true, true, true, true, true] (by rfl) (by kernel_rfl) ?_
 refine FJ.dq rfl rfl rfl (by decide) rfl (.s (.s (.s .z))) (q_fieldAddr rfl (.t (.s (.s (.s .z)))) (fun _ => fa_25_1 _ _)) (FJ.dq rfl rfl rfl (by decide) rfl (.s (.s (.s .z))) (q_load rfl ag_23 (.t .z) (WS.row .z rfl)) (FJ.dq rfl rfl rfl (by decide) rfl (.s (.s (.s .z))) (q_move rfl (.t (.s4 (.s4 .z)))) (FJ.dq rfl rfl rfl (by decide) rfl (.s (.s (.s .z))) (q_move rfl (.t (.s4 (.s (.s (.s .z)))))) (FJ.dq rfl rfl rfl (by decide) rfl (.s (.s (.s .z))) (q_move rfl (.t (.s4 (.s4 (.s (.s .z)))))) ?_))))
 refine FJ.call (goes_sch rfl rfl) rfl (by decide) rfl (c_call rfl Try.func95 rfl rfl (args2 (.t (.s (.s .z))) (.t (.s .z)))) (.c .z .n) (fun w1 S1 hs tr => c_95 (tr.ctx hcd) _ hs (by omega) (by omega)) ?_
 rintro _ _ ⟨m20, h0m20, h1m20, rfl, rfl⟩
 refine FJ.cat (.c .n) ?_
 refine FJ.sk (.s (.s (.s .z))) ?_
 refine FJ.call (goes_sch rfl rfl) rfl (by decide) rfl (c_call rfl Try.func95 rfl rfl (args2 (.t (.s .z)) .c)) (.c .z .n) (fun w1 S1 hs tr => c_95 (tr.ctx hcd) _ hs (by omega) (by omega)) ?_
 rintro _ _ ⟨m21, h0m21, h1m21, rfl, rfl⟩
 refine FJ.cat (.c .n) ?_
 refine FJ.sk (.s (.s (.s .z))) ?_
 refine FJ.e (goes_sch rfl rfl) rfl (by decide) rfl (e_buildSliceL (ps := [(0, .int .i64 m21), (1, .int .i64 3)]) (cs := [.int .i64 m21, .int .i64 3]) rfl u_40 (inz inf_2) (by decide) (by intro act hact; simp only [List.map_toArray, List.map_cons, List.map_nil, (show Val _ _ _ from (.t .z)) act hact, (show Val _ _ _ from .c) act hact]) rfl rfl (by decide) rfl rfl) ?_
 rintro _ _ ⟨g22, rfl, rfl⟩
 refine FJ.sk (.s4 .z) ?_
 refine FJ.dq rfl rfl rfl (by decide) rfl (.s4 .z) (q_build (ps := [(0, .int .i64 m20), (1, .slice (some ⟨g22, 0, none⟩) 2 2)]) (cs := [.int .i64 m20, .slice (some ⟨g22, 0, none⟩) 2 2]) rfl bl_57 (by intro act hact; simp only [List.map_toArray, List.map_cons, List.map_nil, (show Val _ _ _ from (.t (.s (.s .z)))) act hact, (show Val _ _ _ from (.t .z)) act hact]) rfl) ?_
 refine FJ.e (goes_sch rfl rfl) rfl (by decide) rfl (e_buildSliceL (ps := [(0, .agg #[.int .i64 m20, .slice (some ⟨g22, 0, none⟩) 2 2])]) (cs := [.int .i64 m20, .slice (some ⟨g22, 0, none⟩) 2 2]) rfl u_23 (inz inf_57) (by decide) (by intro act hact; simp only [List.map_toArray, List.map_cons, List.map_nil, (show Val _ _ _ from (.t .z)) act hact]) rfl rfl (by decide) rfl rfl) ?_
 rintro _ _ ⟨g23, rfl, rfl⟩
 refine FJ.sk (.s4 (.s .z)) ?_
 refine FJ.turns (c := ownA kSl_2 ([m21, 3] : (List Int)) [.slice (some ⟨g22, 0, none⟩) 2 2]) (.c (.s .z) .n) (fun w S h => lit_own (xs := ([m21, 3] : (List Int))) h rfl (by simp) (by omega) (by omega)) ?_
 refine FJ.turns (c := ownA kT_57 (⟨m20, ([m21, 3] : (List Int))⟩ : DPut) [.int .i64 m20, .slice (some ⟨g22, 0, none⟩) 2 2]) (.c .z .n) (fun w S h => kT_57_omk (⟨m20, ([m21, 3] : (List Int))⟩ : DPut) h) ?_
 refine FJ.e (goes_sch rfl rfl) rfl (by decide) rfl (e_append1 rfl u_23 inf_57 rfl (.t (.s4 (.s4 .z))) (.t .z) (.c (.s4 .z) (.c (.s .z) (.c .z .n))) (by first | omega | (simp only [List.length_append, List.length_cons, List.length_nil, List.length_replicate]; omega)) (by first | omega | (simp only [List.length_append, List.length_cons, List.length_nil, List.length_replicate]; omega))) ?_
 rintro _ _ rfl
 refine FJ.know (WS.oform .z) ?_
 rintro ⟨Ao26, co26, rfl, hlo26, hmo26, hbo26⟩
 refine FJ.sk (.s (.s (.s .z))) ?_
 refine FJ.dq rfl rfl rfl (by decide) rfl (.s (.s (.s .z))) (q_fieldAddr rfl (.t (.s4 (.s4 (.s4 (.s (.s .z)))))) (fun _ => fa_25_1 _ _)) ?_
 refine FJ.es (goes_sch rfl rfl) rfl (es_store (off := 1) (cs := [.slice Ao26 (C ++ [(⟨m20, ([m21, 3] : (List Int))⟩ : DPut)]).length co26]) rfl sz_23 (.t .z) (.t (.s .z)) rfl (ones rfl) (.s (.s (.s .z))) (Nat.le_of_ble_eq_true rfl) (.c (.s .z) .n)) ?_
 refine FJ.sl rfl ?_
 refine FJ.schN ?_
 refine FJ.drawN (by kernel_rfl) ?_
 refine FJ.inBN (FJ.then_ (FJ.region (FJ.ql rfl (q_move rfl (.t (.s4 (.s4 (.s4 (.s (.s .z))))))) ?_)))
 refine FJ.ql rfl (q_sub (c := k2 - 1) rfl (.t .z) .c (wr (by omega) (by omega) (by omega))) ?_
 refine FJ.er (.s16 .z) (FJ.ql rfl (q_assign rfl (.t .z)) (FJ.nil ?_))
 refine FJ.again (Ao26, co26, k2 - 1, ((z2 + 1) + 1), C ++ [(⟨m20, ([m21, 3] : (List Int))⟩ : DPut)]) ⟨by omega, by omega, by simp only [List.length_append, List.length_cons, List.length_nil]; omega⟩ (by first | omega | (dsimp only; omega)) (.c .z (.c (.s16 (.s .z)) (.c (.s16 (.s (.s .z))) (.c (.s16 (.s (.s (.s .z)))) (.c (.s16 (.s4 .z)) .n))))) (fun _ h => h.sel (.c (.s (.s .z)) (.c .z (.c (.s .z) (.c .z (.c .z .n))))))
 refine FJ.exit (FJ.thenE (FJ.thenE (FJ.inB (FJ.then_ ?_))))
 refine FJ.seq (FJ.seq (FJ.region (FJ.ql rfl (q_move rfl (.t (.s4 (.s (.s .z))))) ?_)))
 refine FJ.call (goes_list rfl) rfl (by decide) rfl (c_call rfl Try.func95 rfl rfl (args2 (.t .z) .c)) (.c .z .n) (fun w1 S1 hs tr => c_95 (tr.ctx hcd) _ hs (by omega) (by omega)) ?_
 rintro _ _ ⟨m27, h0m27, h1m27, rfl, rfl⟩
 refine FJ.cat (.c .n) ?_
 refine FJ.nil (FJ.then_ (FJ.block (FJ.seq (FJ.region ?_))))
 refine FJ.ql rfl (q_eql rfl (.t .z) .c) (FJ.ql rfl (q_assign rfl (.t .z)) (FJ.nil (FJ.then_ ?_)))
 refine FJ.condP (.t .z) (fun b28 => ?_) (fun b28 => ?_)
 refine FJ.sel (.c .z (.c (.s .z) (.c (.s .z) (.c .z (.c .z .n))))) ?_
 refine FJ.draw [rowA g10 25 2 1 [.slice Ao8 ((⟨List.replicate (Int.toNat (1 + m3)) [], []⟩ : DDisk).blocks).length co8, .slice Agq0 C.length cgq0], rowA g2 25 2 1 [.slice none 0 0, .slice none 0 0]] 5 (by kernel_rfl) ?_
 refine FJ.sch [(0, true), (1, true), (2, true), (3, false), (4, true), (5, false)] 0 #[true, true, true, true, true, true] (by rfl) (by kernel_rfl) ?_
 refine FJ.dq rfl rfl rfl (by decide) rfl (.s (.s (.s .z))) (q_fieldAddr rfl (.t (.s4 (.s (.s (.s .z))))) (fun _ => fa_25_0 _ _)) (FJ.dq rfl rfl rfl (by decide) rfl (.s (.s (.s .z))) (q_load rfl ag_22 (.t .z) (WS.row .z rfl)) (FJ.dq rfl rfl rfl (by decide) rfl (.s (.s (.s .z))) (q_move rfl (.t (.s4 (.s4 (.s4 .z))))) ?_))
 refine FJ.call (goes_sch rfl rfl) rfl (by decide) rfl (c_call rfl Try.func132 rfl rfl (args1 (.t .z))) (.c .z .n) (fun w1 S1 hs tr => c_132 (tr.ctx hcd) hs (by omega)) ?_
 rintro _ _ ⟨ws29, u30, hzws29, rfl⟩
 refine FJ.cat (.c (.c .n)) ?_
 refine FJ.know (WS.oform .z) ?_
 rintro ⟨Ao32, co32, rfl, hlo32, hmo32, hbo32⟩
 refine FJ.sk (.s4 .z) ?_
 refine FJ.know (WS.oad (.s (.s .z)) (by omega)) ?_
 rintro ⟨ad33, rfl⟩
 refine FJ.dq rfl rfl rfl (by decide) rfl (.s4 .z) (q_indexAddr (j := 0) rfl u_22 sz_40 (.t (.s (.s .z))) .c rfl (by first | omega | (simp only [List.length_replicate]; omega))) ?_
 refine FJ.es (goes_sch rfl rfl) rfl (es_set (j := 0) rfl sz_40 (.t .z) (.t (.s .z)) rfl (.c (.s (.s .z)) (.c .z .n)) (by first | omega | (simp only [List.length_replicate]; omega))) ?_
 refine FJ.sl rfl ?_
 refine FJ.schN ?_
 refine FJ.drawN (by kernel_rfl) ?_
 refine FJ.inBN (FJ.then_ (FJ.seq (FJ.region ?_)))
 refine FJ.ql rfl (q_loadA (cs := [.slice (some ad33) ((⟨List.replicate (Int.toNat (1 + m3)) [], []⟩ : DDisk).blocks).length co8, .slice Agq0 C.length cgq0]) rfl ag_25 sz_25 (.t (.s4 (.s4 (.s4 .z)))) (WS.rows0 (.s (.s (.s .z))) (fun i u h => by exact h))) ?_
 refine FJ.es (goes_list rfl) rfl (es_store (off := 0) (cs := [.slice (some ad33) ((⟨List.replicate (Int.toNat (1 + m3)) [], []⟩ : DDisk).blocks).length co8, .slice Agq0 C.length cgq0]) rfl sz_25 (.t (.s4 (.s4 (.s4 (.s (.s (.s .z))))))) (.t .z) rfl (ones rfl) (.s4 .z) (Nat.le_of_ble_eq_true rfl) (.c .z (.c (.s .z) .n))) ?_
 refine FJ.nil (FJ.then_ (FJ.ret ?_))
 refine FJ.doneS (resC (cs := [.slice (some ad33) ((⟨List.replicate (Int.toNat (1 + m3)) [], []⟩ : DDisk).blocks).length co8, .slice Agq0 C.length cgq0]) rfl (.s4 (.s4 (.s4 (.s (.s (.s .z)))))) ag_25 sz_25 (WS.rows0 (cs := [.slice (some ad33) ((⟨List.replicate (Int.toNat (1 + m3)) [], []⟩ : DDisk).blocks).length co8, .slice Agq0 C.length cgq0]) .z (fun _ _ h => h))) (.c (.s .z) (.c (.s (.s .z)) (.c (.s .z) .n))) ?_
 exact ⟨⟨List.set B 0 ws29, C⟩, _, _, _, ⟨by first | omega | (simp only [List.length_append, List.length_cons, List.length_nil, List.length_replicate, List.length_set]; omega), by first | omega | (simp only [List.length_append, List.length_cons, List.length_nil, List.length_replicate]; omega), by omega, by omega⟩, rfl, rfl⟩
 refine FJ.seq (FJ.region (FJ.ql rfl (q_eql rfl (.t (.s (.s .z))) .c) (FJ.ql rfl (q_assign rfl (.t .z)) (FJ.nil ?_))))
 refine FJ.then_ ?_
 refine FJ.condP (.t .z) (fun b34 => ?_) (fun b34 => ?_)
 refine FJ.sel (.c .z (.c (.s .z) (.c (.s .z) (.c .z (.c .z .n))))) ?_
 refine FJ.draw [rowA g10 25 2 1 [.slice Ao8 ((⟨List.replicate (Int.toNat (1 + m3)) [], []⟩ : DDisk).blocks).length co8, .slice Agq0 C.length cgq0], rowA g2 25 2 1 [.slice none 0 0, .slice none 0 0]] 12 (by kernel_rfl) ?_
 refine FJ.sch [(0, true), (1, true), (2, true), (3, true), (6, true), (4, false), (5, false), (7, false), (8, true), (9, false), (10, false), (11, true), (12, false)] 0 #[true, true, true, true, true, true, true, true, true, true, true, true, true] (by rfl) (by kernel_rfl) ?_
 refine FJ.dq rfl rfl rfl (by decide) rfl (.s (.s (.s .z))) (q_fieldAddr rfl (.t (.s4 (.s4 (.s .z)))) (fun _ => fa_25_1 _ _)) (FJ.dq rfl rfl rfl (by decide) rfl (.s (.s (.s .z))) (q_load rfl ag_23 (.t .z) (WS.row .z rfl)) (FJ.dq rfl rfl rfl (by decide) rfl (.s (.s (.s .z))) (q_move rfl (.t (.s4 (.s4 (.s4 (.s (.s .z))))))) (FJ.dq rfl rfl rfl (by decide) rfl (.s (.s (.s .z))) (q_move rfl (.t (.s4 (.s4 (.s4 (.s .z)))))) (FJ.dq rfl rfl rfl (by decide) rfl (.s (.s (.s .z))) (q_move rfl (.t (.s16 .z))) ?_))))
 refine FJ.e (goes_sch rfl rfl) rfl (by decide) rfl (e_buildSliceL (ps := [(0, .int .i64 (-1)), (1, .int .i64 (1 + m3)), (2, .int .i64 0)]) (cs := [.int .i64 (-1), .int .i64 (1 + m3), .int .i64 0]) rfl u_40 (inz inf_2) (by decide) (by intro act hact; simp only [List.map_toArray, List.map_cons, List.map_nil, (show Val _ _ _ from .c) act hact, (show Val _ _ _ from (.t (.s .z))) act hact, (show Val _ _ _ from .c) act hact]) rfl rfl (by decide) rfl rfl) ?_
 rintro _ _ ⟨g35, rfl, rfl⟩
 refine FJ.sk (.s4 .z) ?_
 refine FJ.turns (c := ownA kSl_2 ([(-1), 1 + m3, 0] : (List Int)) [.slice (some ⟨g35, 0, none⟩) 3 3]) (.c .z .n) (fun w S h => lit_own (xs := ([(-1), 1 + m3, 0] : (List Int))) h rfl (by simp) (by omega) (by omega)) ?_
 refine FJ.call (goes_sch rfl rfl) rfl (by decide) rfl (c_call rfl Try.func120 rfl rfl (args2 (.t (.s (.s (.s .z)))) (.t .z))) (.c (.s .z) .n) (fun w1 S1 hs tr => c_120 (tr.ctx hcd) (tr.own .z) hs (by omega) (by simp)) ?_
 rintro _ _ ⟨m37, hm37, rfl, rfl⟩
 refine FJ.cat (.c .n) ?_
 simp only [List.mem_cons, List.not_mem_nil, or_false] at hm37
 refine FJ.sk (.s4 .z) ?_
 refine FJ.call (goes_sch rfl rfl) rfl (by decide) rfl (c_call rfl Try.func132 rfl rfl (args1 (.t (.s (.s .z))))) (.c .z .n) (fun w1 S1 hs tr => c_132 (tr.ctx hcd) hs (by omega)) ?_
 rintro _ _ ⟨ws38, u39, hzws38, rfl⟩
 refine FJ.cat (.c (.c .n)) ?_
 refine FJ.know (WS.oform .z) ?_
 rintro ⟨Ao41, co41, rfl, hlo41, hmo41, hbo41⟩
 refine FJ.sk (.s4 (.s .z)) ?_
 refine FJ.dq rfl rfl rfl (by decide) rfl (.s4 (.s .z)) (q_build (ps := [(0, .int .i64 m37), (1, .slice Ao41 ws38.length co41)]) (cs := [.int .i64 m37, .slice Ao41 ws38.length co41]) rfl bl_57 (by intro act hact; simp only [List.map_toArray, List.map_cons, List.map_nil, (show Val _ _ _ from (.t (.s .z))) act hact, (show Val _ _ _ from (.t .z)) act hact]) rfl) ?_
 refine FJ.e (goes_sch rfl rfl) rfl (by decide) rfl (e_buildSliceL (ps := [(0, .agg #[.int .i64 m37, .slice Ao41 ws38.length co41])]) (cs := [.int .i64 m37, .slice Ao41 ws38.length co41]) rfl u_23 (inz inf_57) (by decide) (by intro act hact; simp only [List.map_toArray, List.map_cons, List.map_nil, (show Val _ _ _ from (.t .z)) act hact]) rfl rfl (by decide) rfl rfl) ?_
 rintro _ _ ⟨g42, rfl, rfl⟩
 refine FJ.sk (.s4 (.s (.s .z))) ?_
 refine FJ.turns (c := ownA kT_57 (⟨m37, ws38⟩ : DPut) [.int .i64 m37, .slice Ao41 ws38.length co41]) (.c (.s .z) .n) (fun w S h => kT_57_omk (⟨m37, ws38⟩ : DPut) h) ?_
 refine FJ.e (goes_sch rfl rfl) rfl (by decide) rfl (e_append1 rfl u_23 inf_57 rfl (.t (.s4 (.s4 .z))) (.t .z) (.c (.s4 (.s .z)) (.c (.s .z) (.c .z .n))) (by first | omega | (simp only [List.length_append, List.length_cons, List.length_nil, List.length_replicate]; omega)) (by first | omega | (simp only [List.length_append, List.length_cons, List.length_nil, List.length_replicate]; omega))) ?_
 rintro _ _ rfl
 refine FJ.know (WS.oform .z) ?_
 rintro ⟨Ao44, co44, rfl, hlo44, hmo44, hbo44⟩
 refine FJ.sk (.s4 .z) ?_
 refine FJ.dq rfl rfl rfl (by decide) rfl (.s4 .z) (q_fieldAddr rfl (.t (.s16 (.s4 .z))) (fun _ => fa_25_1 _ _)) ?_
 refine FJ.es (goes_sch rfl rfl) rfl (es_store (off := 1) (cs := [.slice Ao44 (C ++ [(⟨m37, ws38⟩ : DPut)]).length co44]) rfl sz_23 (.t .z) (.t (.s .z)) rfl (ones rfl) (.s4 .z) (Nat.le_of_ble_eq_true rfl) (.c (.s .z) .n)) ?_
 refine FJ.sl rfl ?_
 refine FJ.schN ?_
 refine FJ.drawN (by kernel_rfl) ?_
 refine FJ.inBN (FJ.then_ (FJ.seq (FJ.region ?_)))
 refine FJ.ql rfl (q_loadA (cs := [.slice Ao8 ((⟨List.replicate (Int.toNat (1 + m3)) [], []⟩ : DDisk).blocks).length co8, .slice Ao44 (C ++ [(⟨m37, ws38⟩ : DPut)]).length co44]) rfl ag_25 sz_25 (.t (.s16 (.s4 (.s .z)))) (WS.rows0 .z (fun i u h => by exact h))) ?_
 refine FJ.es (goes_list rfl) rfl (es_store (off := 0) (cs := [.slice Ao8 ((⟨List.replicate (Int.toNat (1 + m3)) [], []⟩ : DDisk).blocks).length co8, .slice Ao44 (C ++ [(⟨m37, ws38⟩ : DPut)]).length co44]) rfl sz_25 (.t (.s16 (.s4 (.s4 .z)))) (.t .z) rfl (ones rfl) (.s4 (.s .z)) (Nat.le_of_ble_eq_true rfl) (.c .z (.c (.s .z) .n))) ?_
 refine FJ.nil (FJ.then_ (FJ.ret ?_))
 refine FJ.doneS (resC (cs := [.slice Ao8 ((⟨List.replicate (Int.toNat (1 + m3)) [], []⟩ : DDisk).blocks).length co8, .slice Ao44 (C ++ [(⟨m37, ws38⟩ : DPut)]).length co44]) rfl (.s16 (.s4 (.s4 .z))) ag_25 sz_25 (WS.rows0 (cs := [.slice Ao8 ((⟨List.replicate (Int.toNat (1 + m3)) [], []⟩ : DDisk).blocks).length co8, .slice Ao44 (C ++ [(⟨m37, ws38⟩ : DPut)]).length co44]) .z (fun _ _ h => h))) (.c (.s4 (.s .z)) (.c (.s (.s .z)) (.c (.s (.s .z)) .n))) ?_
 exact ⟨⟨B, C ++ [(⟨m37, ws38⟩ : DPut)]⟩, _, _, _, ⟨by first | omega | (simp only [List.length_append, List.length_cons, List.length_nil, List.length_replicate, List.length_set]; omega), by first | omega | (simp only [List.length_append, List.length_cons, List.length_nil, List.length_replicate]; omega), by omega, by omega⟩, rfl, rfl⟩
 refine FJ.seq (FJ.region (FJ.ql rfl (q_eql rfl (.t (.s4 .z)) .c) (FJ.ql rfl (q_assign rfl (.t .z)) (FJ.nil ?_))))
 refine FJ.then_ ?_
 refine FJ.condP (.t .z) (fun b45 => ?_) (fun b45 => ?_)
 refine FJ.region ?_
 refine FJ.e (goes_list rfl) rfl (by decide) rfl (e_makeSlice (n := 61) (x0 := ([] : (List Int))) rfl u_22 inf_40 rfl (fun w S => own_nil w S none) .c .c (by omega) (by omega)) ?_
 rintro _ _ rfl
 refine FJ.know (WS.oform .z) ?_
 rintro ⟨Ao47, co47, rfl, hlo47, hmo47, hbo47⟩
 refine FJ.ql rfl (q_fieldAddr rfl (.t (.s4 (.s4 (.s4 .z)))) (fun _ => fa_25_0 _ _)) ?_
 refine FJ.es (goes_list rfl) rfl (es_store (off := 0) (cs := [.slice Ao47 (List.replicate 61 ([] : (List Int))).length co47]) rfl sz_22 (.t .z) (.t (.s .z)) rfl (ones rfl) (.s (.s .z)) (Nat.le_of_ble_eq_true rfl) (.c .z .n)) ?_
 refine FJ.nil (FJ.inBN (FJ.then_ (FJ.seq (FJ.region ?_))))
 refine FJ.ql rfl (q_loadA (cs := [.slice Ao47 (List.replicate 61 ([] : (List Int))).length co47, .slice Agq0 C.length cgq0]) rfl ag_25 sz_25 (.t (.s4 (.s4 (.s4 (.s .z))))) (WS.rows0 .z (fun i u h => by exact h))) ?_
 refine FJ.es (goes_list rfl) rfl (es_store (off := 0) (cs := [.slice Ao47 (List.replicate 61 ([] : (List Int))).length co47, .slice Agq0 C.length cgq0]) rfl sz_25 (.t (.s16 .z)) (.t .z) rfl (ones rfl) (.s4 (.s .z)) (Nat.le_of_ble_eq_true rfl) (.c .z (.c (.s .z) .n))) ?_
 refine FJ.nil (FJ.then_ (FJ.ret ?_))
 refine FJ.doneS (resC (cs := [.slice Ao47 (List.replicate 61 ([] : (List Int))).length co47, .slice Agq0 C.length cgq0]) rfl (.s16 .z) ag_25 sz_25 (WS.rows0 (cs := [.slice Ao47 (List.replicate 61 ([] : (List Int))).length co47, .slice Agq0 C.length cgq0]) .z (fun _ _ h => h))) (.c (.s (.s .z)) (.c (.s4 .z) (.c (.s (.s .z)) .n))) ?_
 exact ⟨⟨List.replicate 61 ([] : (List Int)), C⟩, _, _, _, ⟨by first | omega | (simp only [List.length_append, List.length_cons, List.length_nil, List.length_replicate, List.length_set]; omega), by first | omega | (simp only [List.length_append, List.length_cons, List.length_nil, List.length_replicate]; omega), by omega, by omega⟩, rfl, rfl⟩
 refine FJ.seq (FJ.region (FJ.ql rfl (q_eql rfl (.t (.s4 (.s (.s .z)))) .c) (FJ.ql rfl (q_assign rfl (.t .z)) (FJ.nil ?_))))
 refine FJ.then_ ?_
 refine FJ.condP (.t .z) (fun b48 => ?_) (fun b48 => ?_)
 refine FJ.region (FJ.ql rfl (q_move rfl (.t (.s16 .z))) ?_)
 refine FJ.call (goes_list rfl) rfl (by decide) rfl (c_call rfl Try.func95 rfl rfl (args2 (.t .z) .c)) (.c .z .n) (fun w1 S1 hs tr => c_95 (tr.ctx hcd) _ hs (by omega) (by omega)) ?_
 rintro _ _ ⟨m49, h0m49, h1m49, rfl, rfl⟩
 refine FJ.cat (.c .n) ?_
 refine FJ.ql rfl (q_add (c := 200 + m49) rfl .c (.t .z) (wr (by omega) (by omega) (by omega))) ?_
 refine FJ.eq .z (congrArg (Value.int .i64) (show 200 + m49 = ((Int.toNat (200 + m49) : Nat) : Int) by omega)) ?_
 refine FJ.e (goes_list rfl) rfl (by decide) rfl (e_makeSlice (n := Int.toNat (200 + m49)) (x0 := (⟨0, []⟩ : DPut)) rfl u_23 inf_57 rfl (fun w S => zero_57 w S) (.t .z) (.t .z) (by omega) (by omega)) ?_
 rintro _ _ rfl
 refine FJ.know (WS.oform .z) ?_
 rintro ⟨Ao51, co51, rfl, hlo51, hmo51, hbo51⟩
 refine FJ.ql rfl (q_fieldAddr rfl (.t (.s16 (.s .z))) (fun _ => fa_25_1 _ _)) ?_
 refine FJ.es (goes_list rfl) rfl (es_store (off := 1) (cs := [.slice Ao51 (List.replicate (Int.toNat (200 + m49)) (⟨0, []⟩ : DPut)).length co51]) rfl sz_23 (.t .z) (.t (.s .z)) rfl (ones rfl) (.s (.s .z)) (Nat.le_of_ble_eq_true rfl) (.c (.s .z) .n)) ?_
 refine FJ.nil (FJ.inBN (FJ.then_ (FJ.seq (FJ.region ?_))))
 refine FJ.ql rfl (q_loadA (cs := [.slice Ao8 ((⟨List.replicate (Int.toNat (1 + m3)) [], []⟩ : DDisk).blocks).length co8, .slice Ao51 (List.replicate (Int.toNat (200 + m49)) (⟨0, []⟩ : DPut)).length co51]) rfl ag_25 sz_25 (.t (.s16 (.s (.s .z)))) (WS.rows0 .z (fun i u h => by exact h))) ?_
 refine FJ.es (goes_list rfl) rfl (es_store (off := 0) (cs := [.slice Ao8 ((⟨List.replicate (Int.toNat (1 + m3)) [], []⟩ : DDisk).blocks).length co8, .slice Ao51 (List.replicate (Int.toNat (200 + m49)) (⟨0, []⟩ : DPut)).length co51]) rfl sz_25 (.t (.s16 (.s4 (.s .z)))) (.t .z) rfl (ones rfl) (.s4 (.s .z)) (Nat.le_of_ble_eq_true rfl) (.c .z (.c (.s .z) .n))) ?_
 refine FJ.nil (FJ.then_ (FJ.ret ?_))
 refine FJ.doneS (resC (cs := [.slice Ao8 ((⟨List.replicate (Int.toNat (1 + m3)) [], []⟩ : DDisk).blocks).length co8, .slice Ao51 (List.replicate (Int.toNat (200 + m49)) (⟨0, []⟩ : DPut)).length co51]) rfl (.s16 (.s4 (.s .z))) ag_25 sz_25 (WS.rows0 (cs := [.slice Ao8 ((⟨List.replicate (Int.toNat (1 + m3)) [], []⟩ : DDisk).blocks).length co8, .slice Ao51 (List.replicate (Int.toNat (200 + m49)) (⟨0, []⟩ : DPut)).length co51]) .z (fun _ _ h => h))) (.c (.s4 .z) (.c (.s (.s .z)) (.c (.s (.s .z)) .n))) ?_
 exact ⟨⟨B, List.replicate (Int.toNat (200 + m49)) (⟨0, []⟩ : DPut)⟩, _, _, _, ⟨by first | omega | (simp only [List.length_append, List.length_cons, List.length_nil, List.length_replicate, List.length_set]; omega), by first | omega | (simp only [List.length_append, List.length_cons, List.length_nil, List.length_replicate]; omega), by omega, by omega⟩, rfl, rfl⟩
 refine FJ.skip (FJ.inBN (FJ.then_ (FJ.seq (FJ.region ?_))))
 refine FJ.ql rfl (q_loadA (cs := [.slice Ao8 ((⟨List.replicate (Int.toNat (1 + m3)) [], []⟩ : DDisk).blocks).length co8, .slice Agq0 C.length cgq0]) rfl ag_25 sz_25 (.t (.s4 (.s4 (.s4 (.s .z))))) (WS.rows0 (.s .z) (fun i u h => by exact h))) ?_
 refine FJ.es (goes_list rfl) rfl (es_store (off := 0) (cs := [.slice Ao8 ((⟨List.replicate (Int.toNat (1 + m3)) [], []⟩ : DDisk).blocks).length co8, .slice Agq0 C.length cgq0]) rfl sz_25 (.t (.s16 .z)) (.t .z) rfl (ones rfl) (.s4 .z) (Nat.le_of_ble_eq_true rfl) (.c .z (.c (.s .z) .n))) ?_
 refine FJ.nil (FJ.then_ (FJ.ret ?_))
 refine FJ.doneS (resC (cs := [.slice Ao8 ((⟨List.replicate (Int.toNat (1 + m3)) [], []⟩ : DDisk).blocks).length co8, .slice Agq0 C.length cgq0]) rfl (.s16 .z) ag_25 sz_25 (WS.rows0 (cs := [.slice Ao8 ((⟨List.replicate (Int.toNat (1 + m3)) [], []⟩ : DDisk).blocks).length co8, .slice Agq0 C.length cgq0]) .z (fun _ _ h => h))) (.c (.s (.s (.s .z))) (.c (.s (.s (.s .z))) (.c (.s .z) .n))) ?_
 exact ⟨⟨B, C⟩, _, _, _, ⟨by first | omega | (simp only [List.length_append, List.length_cons, List.length_nil, List.length_replicate, List.length_set]; omega), by first | omega | (simp only [List.length_append, List.length_cons, List.length_nil, List.length_replicate]; omega), by omega, by omega⟩, rfl, rfl⟩

end Go.Proofs.Ytkmcpcahbfdohaa

/- What is proved: contracts of functions, one a function. No condition. -/
import Derived.Test.YtkmcpcahbfdohaaW41
import Derived.Test.YtkmcpcahbfdohaaBase2
namespace Go.Proofs.Ytkmcpcahbfdohaa
open Go Go.RowKit
set_option linter.unusedVariables false
set_option linter.unusedSimpArgs false
set_option maxHeartbeats 1000000 in
set_option maxRecDepth 20000 in
theorem c_94 {w0 : World} {S0 : Bs} {g0 e0 s0 : Nat} {post0 : List Value} {cd : List UInt8} {Ac : Option Addr} {cc : Nat} (hcd : kSl_5.ro w0 (FF w0 S0) cd [.slice Ac cd.length cc]) {a : Int} (n : Int) (hs : Star [rowA g0 e0 s0 1 ((.slice Ac cd.length cc) :: (.int .i64 a) :: post0)] w0 S0) (ha : 0 ≤ a ∧ a ≤ 990000) (hn : 0 ≤ n ∧ n ≤ 10) :
    Calls Try.prog 94 #[.pointer (some ⟨g0, 0, none⟩), .int .i64 n] w0 (TriPost w0 S0 (fun r l => ∃ (x : List Bool) (u : Int), (x.length ≤ 10 ∧ a ≤ u ∧ u ≤ a + 12) ∧ l = [ownA kSl_4 x [r], rowA g0 e0 s0 1 (.slice Ac cd.length cc :: .int .i64 u :: post0)])) := by
 obtain ⟨hlc, hmc, hbc⟩ := src_hl hcd
 refine FJ.enter (N := 17) Try.func94 rfl rfl (by simp) [(0, .pointer (some ⟨g0, 0, none⟩)), (1, .int .i64 n)] (by simp) hs ?_
 refine FJ.seq (FJ.region (FJ.ql rfl (q_assign rfl .c) (FJ.nil (FJ.then_ ?_))))
 refine FJ.seq (FJ.region ?_)
 refine FJ.e (goes_list rfl) rfl (by decide) rfl (e_buildNil rfl u_51 (inz inf_4)) ?_
 rintro _ _ ⟨g2, rfl, rfl⟩
 refine FJ.ql rfl (q_assign rfl (.t .z)) (FJ.nil (FJ.then_ (FJ.seq (FJ.block ?_))))
 refine FJ.add (c := ownA kSl_4 ([] : (List Bool)) [.slice (some ⟨g2, 0, none⟩) 0 0]) (fun w S => own_nil w S _) ?_
 refine FJ.loopi (γ := (Option Addr) × Nat × Int × Int × (List Bool)) (fun ⟨Agq0, cgq0, k, z, o⟩ => [(5, .slice Agq0 o.length cgq0), (4, .slice none 0 0), (0, .pointer (some ⟨g0, 0, none⟩)), (1, .int .i64 k)]) (fun ⟨Agq0, cgq0, k, z, o⟩ => [ownA kSl_4 o [.slice Agq0 o.length cgq0], rowA g2 4 1 0 [], rowA g0 e0 s0 1 ((.slice Ac cd.length cc) :: (.int .i64 z) :: post0)]) (fun ⟨Agq0, cgq0, k, z, o⟩ => (0 ≤ k ∧ k ≤ 10) ∧ (a ≤ z ∧ z + k ≤ a + 10) ∧ (o.length : Int) + k ≤ 10) (fun ⟨Agq0, cgq0, k, z, o⟩ => k.toNat) ((some ⟨g2, 0, none⟩), 0, n, a, []) ⟨by omega, by omega, by simp only [List.length_nil]; omega⟩ (.c .z (.c (.s (.s .z)) (.c (.s (.s (.s .z))) (.c (.s4 .z) .n)))) (fun _ h => h.sel (.c .z (.c .z (.c .z .n)))) ?_
 rintro ⟨Agq0, cgq0, k, z, o⟩ ⟨hk, hz, hol⟩
 refine FJ.seq (FJ.seq (FJ.region (FJ.ql rfl (q_move rfl (.t (.s (.s (.s .z))))) (FJ.ql rfl (q_gtr rfl (.t .z) .c) ?_))))
 refine FJ.nil (FJ.then_ ?_)
 refine FJ.condP (.t .z) (fun b4 => ?_) (fun b4 => ?_)
 refine FJ.skip (FJ.then_ (FJ.seq (FJ.block (FJ.region ?_))))
 refine FJ.ql rfl (q_move rfl (.t (.s (.s .z)))) (FJ.ql rfl (q_move rfl (.t (.s4 (.s .z)))) ?_)
 refine FJ.call (goes_list rfl) rfl (by decide) rfl (c_call rfl Try.func146 rfl rfl (args2 (.t .z) .c)) (.c (.s (.s .z)) .n) (fun w1 S1 hs tr => c_146 (tr.ctx hcd) _ hs (by omega) (by omega)) ?_
 rintro _ _ ⟨b5, rfl, rfl⟩
 refine FJ.cat (.c .n) ?_
 refine FJ.e (goes_list rfl) rfl (by decide) rfl (e_buildSliceL (ps := [(0, .bool b5)]) (cs := [.bool b5]) rfl u_51 (inz inf_4) (by decide) (by intro act hact; simp only [List.map_toArray, List.map_cons, List.map_nil, (show Val _ _ _ from (.t .z)) act hact]) rfl rfl (by decide) rfl rfl) ?_
 rintro _ _ ⟨g6, rfl, rfl⟩
 refine FJ.add (c := ownA kbool b5 [.bool b5]) (fun _ _ => ⟨rfl, trivial⟩) ?_
 refine FJ.e (goes_list rfl) rfl (by decide) rfl (e_append1 rfl u_51 inf_4 rfl (.t (.s (.s (.s .z)))) (.t .z) (.c (.s (.s (.s .z))) (.c (.s .z) (.c .z .n))) (by first | omega | (simp only [List.length_append, List.length_cons, List.length_nil, List.length_replicate]; omega)) (by first | omega | (simp only [List.length_append, List.length_cons, List.length_nil, List.length_replicate]; omega))) ?_
 rintro _ _ rfl
 refine FJ.know (WS.oform .z) ?_
 rintro ⟨Ao8, co8, rfl, hlo8, hmo8, hbo8⟩
 refine FJ.er (.s4 (.s (.s (.s .z)))) (FJ.ql rfl (q_assign rfl (.t .z)) (FJ.nil (FJ.inBN (FJ.then_ ?_))))
 refine FJ.region (FJ.ql rfl (q_move rfl (.t (.s4 (.s4 (.s (.s .z)))))) ?_)
 refine FJ.ql rfl (q_sub (c := k - 1) rfl (.t .z) .c (wr (by omega) (by omega) (by omega))) ?_
 refine FJ.er (.s4 (.s4 (.s4 .z))) (FJ.ql rfl (q_assign rfl (.t .z)) (FJ.nil ?_))
 refine FJ.again (Ao8, co8, k - 1, (z + 1), o ++ [b5]) ⟨by omega, by omega, by simp only [List.length_append, List.length_cons, List.length_nil]; omega⟩ (by first | omega | (dsimp only; omega)) (.c (.s (.s (.s .z))) (.c (.s4 (.s4 (.s (.s (.s .z))))) (.c (.s4 (.s4 (.s4 .z))) (.c .z .n)))) (fun _ h => h.sel (.c .z (.c (.s .z) (.c .z .n))))
 refine FJ.exit (FJ.thenE (FJ.thenE (FJ.inB (FJ.then_ ?_))))
 refine FJ.seq (FJ.region (FJ.ql rfl (q_move rfl (.t (.s (.s .z)))) (FJ.er (.s4 .z) (FJ.ql rfl (q_assign rfl (.t .z)) ?_))))
 refine FJ.nil (FJ.then_ (FJ.ret ?_))
 refine FJ.doneS (res1 rfl .z) (.c .z (.c (.s .z) .n)) ?_
 exact ⟨_, _, ⟨by omega, by omega, by omega⟩, rfl⟩

set_option maxHeartbeats 1000000 in
set_option maxRecDepth 20000 in
theorem c_36 {w0 : World} {S0 : Bs} {cd : (List UInt8)} {v0 : Value} (h0 : kSl_5.ro w0 (FF w0 S0) cd [v0])  :
    Calls Try.prog 36 #[v0] w0 (TriPost w0 S0 (fun r l => ∃ (x : DDisk) (v0_ v1_ : Value) (ks : List Bool) (v2_ : Value), (x.blocks.length ≤ 61 ∧ x.cache.length ≤ 201 ∧ ks.length ≤ 10) ∧ r = .tuple #[.agg #[v0_, v1_], v2_] ∧ l = [ownA kSl_40 x.blocks [v0_], ownA kSl_57 x.cache [v1_], ownA kSl_4 ks [v2_]])) := by
 obtain ⟨A0, c0, rfl, hl0, hm0, hb0, he0⟩ := ro_form h0
 refine FJ.enter (N := 15) Try.func36 rfl rfl (by simp) [(0, .slice A0 cd.length c0)] (by simp) (l0 := []) trivial ?_
 refine FJ.seq (FJ.region ?_)
 refine FJ.e (goes_list rfl) rfl (by decide) rfl (e_alloc rfl z_25 rfl rfl) ?_
 rintro _ _ ⟨g2, rfl, rfl⟩
 refine FJ.ql rfl (q_assign rfl .c) (FJ.nil (FJ.then_ (FJ.seq (FJ.region ?_))))
 refine FJ.ql rfl (q_move rfl (.t (.s (.s .z)))) ?_
 refine FJ.call (goes_list rfl) rfl (by decide) rfl (c_call rfl Try.func92 rfl rfl (args1 (.t .z))) .n (fun w1 S1 hs tr => c_92 (tr.ctx h0)) ?_
 rintro _ _ ⟨g3, rfl, rfl⟩
 refine FJ.cat (.c .n) ?_
 refine FJ.ql rfl (q_assign rfl (.t .z)) (FJ.nil (FJ.then_ (FJ.seq (FJ.region ?_))))
 refine FJ.ql rfl (q_move rfl (.t .z)) ?_
 refine FJ.call (goes_list rfl) rfl (by decide) rfl (c_call rfl Try.func93 rfl rfl (args1 (.t .z))) (.c .z .n) (fun w1 S1 hs tr => c_93 (tr.ctx h0) hs (by omega)) ?_
 rintro _ _ ⟨d4, v6, v8, u5, hzd4, rfl, rfl⟩
 refine FJ.cat (.c (.c (.c .n))) ?_
 refine FJ.know (WS.oform .z) ?_
 rintro ⟨Ao10, co10, rfl, hlo10, hmo10, hbo10⟩
 refine FJ.know (WS.oform (.s .z)) ?_
 rintro ⟨Ao11, co11, rfl, hlo11, hmo11, hbo11⟩
 refine FJ.e (goes_list rfl) rfl (by decide) rfl (e_alloc rfl z_25 rfl rfl) ?_
 rintro _ _ ⟨g12, rfl, rfl⟩
 refine FJ.es (goes_list rfl) rfl (es_store (off := 0) (cs := [.slice Ao10 d4.blocks.length co10, .slice Ao11 d4.cache.length co11]) rfl sz_25 (.t .z) (.t (.s .z)) rfl (ones rfl) .z (Nat.le_of_ble_eq_true rfl) (.c .z (.c (.s .z) .n))) ?_
 refine FJ.nil (FJ.then_ (FJ.seq ?_))
 refine FJ.sel (.c (.s .z) (.c (.s .z) (.c (.s .z) (.c (.s .z) (.c .z .n))))) ?_
 refine FJ.draw [rowA g12 25 2 1 [.slice Ao10 d4.blocks.length co10, .slice Ao11 d4.cache.length co11]] 6 (by kernel_rfl) ?_
 refine FJ.sch [(0, true), (1, true), (2, true), (3, false), (4, false), (5, false), (6, false)] 0 #[true, true, true, true, true, true, true] (by rfl) (by kernel_rfl) ?_
 refine FJ.dq rfl rfl rfl (by decide) rfl (.s4 .z) (q_loadA (cs := [.slice Ao10 d4.blocks.length co10, .slice Ao11 d4.cache.length co11]) rfl ag_25 sz_25 (.t .z) (WS.rows0 .z (fun i u h => by exact h))) ?_
 refine FJ.dq rfl rfl rfl (by decide) rfl (.s4 .z) (q_move rfl (.t (.s4 .z))) (FJ.dq rfl rfl rfl (by decide) rfl (.s4 .z) (q_move rfl (.t (.s4 (.s .z)))) ?_)
 refine FJ.call (goes_sch rfl rfl) rfl (by decide) rfl (c_call rfl Try.func95 rfl rfl (args2 (.t .z) .c)) (.c (.s (.s .z)) .n) (fun w1 S1 hs tr => c_95 (tr.ctx h0) _ hs (by omega) (by omega)) ?_
 rintro _ _ ⟨m13, h0m13, h1m13, rfl, rfl⟩
 refine FJ.cat (.c .n) ?_
 refine FJ.sk (.s4 .z) ?_
 refine FJ.call (goes_sch rfl rfl) rfl (by decide) rfl (c_call rfl Try.func94 rfl rfl (args2 (.t (.s (.s .z))) (.t .z))) (.c .z .n) (fun w1 S1 hs tr => c_94 (tr.ctx h0) _ hs (by omega) (by omega)) ?_
 rintro _ _ ⟨ks14, u15, hzks14, rfl⟩
 refine FJ.cat (.c (.c .n)) ?_
 refine FJ.know (WS.oform .z) ?_
 rintro ⟨Ao17, co17, rfl, hlo17, hmo17, hbo17⟩
 refine FJ.sk (.s4 (.s .z)) ?_
 refine FJ.es (goes_sch rfl rfl) rfl (es_store (off := 0) (cs := [.slice Ao10 d4.blocks.length co10, .slice Ao11 d4.cache.length co11]) rfl sz_25 (.t (.s4 (.s4 (.s4 .z)))) (.t (.s4 .z)) rfl (ones rfl) (.s4 .z) (Nat.le_of_ble_eq_true rfl) (.c .z (.c (.s .z) .n))) ?_
 refine FJ.sk (.s4 (.s .z)) ?_
 refine FJ.er (.s4 (.s4 (.s (.s (.s .z))))) ?_
 refine FJ.q (goes_sch rfl rfl) rfl (by decide) rfl (q_assign rfl (.t .z)) ?_
 refine FJ.sl rfl ?_
 refine FJ.schN ?_
 refine FJ.drawN (by kernel_rfl) ?_
 refine FJ.then_ (FJ.ret ?_)
 refine FJ.doneS (res_ct (cs := [.slice Ao10 d4.blocks.length co10, .slice Ao11 d4.cache.length co11]) rfl (.s4 (.s4 (.s4 .z))) ag_25 sz_25 (WS.rows0 (cs := [.slice Ao10 d4.blocks.length co10, .slice Ao11 d4.cache.length co11]) .z (fun _ _ h => h)) .z) (.c (.s (.s (.s .z))) (.c (.s (.s (.s .z))) (.c (.s .z) .n))) ?_
 exact ⟨⟨d4.blocks, d4.cache⟩, _, _, _, _, ⟨by dsimp only; omega, by dsimp only; omega, by omega⟩, rfl, rfl⟩

end Go.Proofs.Ytkmcpcahbfdohaa

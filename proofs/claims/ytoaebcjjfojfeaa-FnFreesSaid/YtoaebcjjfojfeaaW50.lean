/- What is proved: contracts of functions, one a function. No condition. -/
import Derived.Test.YtoaebcjjfojfeaaW14
import Derived.Test.YtoaebcjjfojfeaaBase2
namespace Go.Proofs.Ytoaebcjjfojfeaa
open Go Go.RowKit
set_option linter.unusedVariables false
set_option linter.unusedSimpArgs false
set_option maxHeartbeats 1000000 in
set_option maxRecDepth 20000 in
theorem c_91 {w0 : World} {S0 : Bs} {cd : (List UInt8)} {v0 : Value} (h0 : kSl_5.ro w0 (FF w0 S0) cd [v0])  :
    Calls Try.prog 91 #[v0] w0 (TriPost w0 S0 (fun r l => ∃ g : Nat, r = .pointer (some ⟨g, 0, none⟩) ∧ l = [rowA g 140 2 1 [v0, .int .i64 0]])) := by
 obtain ⟨A0, c0, rfl, hl0, hm0, hb0, he0⟩ := ro_form h0
 refine FJ.enter (N := 6) Try.func91 rfl rfl (by simp) [(0, .slice A0 cd.length c0)] (by simp) (l0 := []) trivial ?_
 refine FJ.seq (FJ.region (FJ.ql rfl (q_assign rfl .c) (FJ.nil (FJ.then_ ?_))))
 refine FJ.seq (FJ.region (FJ.ql rfl (q_move rfl (.t (.s .z))) ?_))
 refine FJ.ql rfl (q_build (ps := [(0, .slice A0 cd.length c0)]) (cs := [.slice A0 cd.length c0, .int .i64 0]) rfl bl_140 (by intro act hact; simp only [List.map_toArray, List.map_cons, List.map_nil, (show Val _ _ _ from (.t .z)) act hact]) rfl) ?_
 refine FJ.e (goes_list rfl) rfl (by decide) rfl (e_box (cs := [.slice A0 cd.length c0, .int .i64 0]) (n := 2) rfl (.t .z) rfl rfl) ?_
 rintro _ _ ⟨g2, rfl, rfl⟩
 refine FJ.er (.s (.s (.s .z))) (FJ.ql rfl (q_assign rfl (.t .z)) (FJ.nil (FJ.then_ (FJ.ret ?_))))
 refine FJ.doneS (res1 rfl .z) (.c .z .n) ?_
 exact ⟨_, rfl, rfl⟩

set_option maxHeartbeats 1000000 in
set_option maxRecDepth 20000 in
theorem c_93 {w0 : World} {S0 : Bs} {g0 e0 s0 : Nat} {post0 : List Value} {cd : List UInt8} {Ac : Option Addr} {cc : Nat} (hcd : kSl_5.ro w0 (FF w0 S0) cd [.slice Ac cd.length cc]) {a : Int} (n : Int) (hs : Star [rowA g0 e0 s0 1 ((.slice Ac cd.length cc) :: (.int .i64 a) :: post0)] w0 S0) (ha : 0 ≤ a ∧ a ≤ 1000000) (hn : n ≤ 1000000) :
    Calls Try.prog 93 #[.pointer (some ⟨g0, 0, none⟩), .int .i64 n] w0 (TriPost w0 S0 (fun r l => ∃ m : Int, 0 ≤ m ∧ (1 ≤ n → m < n) ∧ r = .int .i64 m ∧ l = [rowA g0 e0 s0 1 (.slice Ac cd.length cc :: .int .i64 (a + 1) :: post0)])) := by
 obtain ⟨hlc, hmc, hbc⟩ := src_hl hcd
 refine FJ.enter (N := 71) Try.func93 rfl rfl (by simp) [(0, .pointer (some ⟨g0, 0, none⟩)), (1, .int .i64 n)] (by simp) hs ?_
 refine FJ.seq (FJ.region (FJ.ql rfl (q_assign rfl .c) (FJ.nil (FJ.then_ ?_))))
 refine FJ.seq (FJ.region (FJ.ql rfl (q_move rfl (.t (.s .z))) (FJ.ql rfl (q_move rfl (.t (.s (.s .z)))) (FJ.ql rfl (q_nilCheck rfl (.t .z)) ?_))))
 refine FJ.ql rfl (q_fieldAddr rfl (.t .z) (fun _ => fa_140_1 _ _)) (FJ.ql rfl (q_load rfl ag_2 (.t .z) (WS.row .z rfl)) ?_)
 refine FJ.ql rfl (q_add (c := a + 1) rfl (.t .z) .c (wr (by omega) (by omega) (by omega))) ?_
 refine FJ.ql rfl (q_nilCheck rfl (.t (.s4 (.s .z)))) (FJ.ql rfl (q_fieldAddr rfl (.t .z) (fun _ => fa_140_1 _ _)) ?_)
 refine FJ.es (goes_list rfl) rfl (es_store (off := 1) (cs := [.int .i64 (a + 1)]) rfl sz_2 (.t .z) (.t (.s (.s .z))) rfl (ones rfl) .z (by simp only [List.length_cons, List.length_nil]; omega) (.c (.s .z) .n)) ?_
 refine FJ.nil (FJ.then_ (FJ.seq (FJ.seq (FJ.region ?_))))
 refine FJ.ql rfl (q_move rfl (.t (.s4 (.s4 (.s (.s .z)))))) (FJ.ql rfl (q_lss rfl (.t .z) .c) (FJ.nil (FJ.then_ ?_)))
 refine FJ.condP (.t .z) (fun b2 => ?_) (fun b2 => ?_)
 refine FJ.seq (FJ.region (FJ.er (.s4 (.s4 (.s (.s .z)))) (FJ.ql rfl (q_assign rfl .c) (FJ.nil ?_))))
 refine FJ.then_ (FJ.ret (FJ.thenR ?_))
 refine FJ.doneS (res1 rfl .z) (.c .z .n) ?_
 exact ⟨0, by omega, fun h => by omega, rfl, rfl⟩
 refine FJ.skip (FJ.then_ (FJ.seq (FJ.region (FJ.ql rfl (q_move rfl (.t (.s4 (.s4 (.s (.s (.s .z))))))) ?_))))
 refine FJ.ql rfl (q_nilCheck rfl (.t .z)) (FJ.ql rfl (q_fieldAddr rfl (.t .z) (fun _ => fa_140_1 _ _)) (FJ.ql rfl (q_load rfl ag_2 (.t .z) (WS.row .z rfl)) ?_))
 refine FJ.ql rfl (q_sub (c := (a + 1) - 1) rfl (.t .z) .c (wr (by omega) (by omega) (by omega))) ?_
 refine FJ.ql rfl (q_assign rfl (.t .z)) (FJ.nil (FJ.then_ (FJ.seq (FJ.region ?_))))
 refine FJ.ql rfl (q_move rfl (.t (.s16 (.s .z)))) (FJ.ql rfl (q_nilCheck rfl (.t .z)) (FJ.ql rfl (q_fieldAddr rfl (.t .z) (fun _ => fa_140_0 _ _)) (FJ.ql rfl (q_load rfl ag_62 (.t .z) (WS.row .z rfl)) (FJ.ql rfl (q_len rfl u_62 (.t .z)) ?_))))
 refine FJ.ql rfl (q_assign rfl (.t .z)) (FJ.nil (FJ.then_ (FJ.seq (FJ.seq ?_))))
 refine FJ.region (FJ.ql rfl (q_move rfl (.t .z)) (FJ.ql rfl (q_eql rfl (.t .z) .c) (FJ.nil (FJ.then_ ?_))))
 refine FJ.condP (.t .z) (fun b3 => ?_) (fun b3 => ?_)
 refine FJ.seq (FJ.region (FJ.ql rfl (q_move rfl (.t (.s4 (.s4 .z)))) ?_))
 refine FJ.ql rfl (q_mul (c := ((a + 1) - 1) * 7) rfl (.t .z) .c (wr (by omega) (by omega) (by omega))) ?_
 refine FJ.ql rfl (q_move rfl (.t (.s16 (.s4 (.s4 (.s4 .z)))))) ?_
 refine FJ.ql rfl (q_rem (c := Int.tmod (((a + 1) - 1) * 7) n) rfl (.t (.s .z)) (.t .z) (by omega) rfl) ?_
 refine FJ.er (.s16 (.s4 (.s4 (.s4 .z)))) (FJ.ql rfl (q_assign rfl (.t .z)) (FJ.nil (FJ.then_ (FJ.ret ?_))))
 refine FJ.thenR ?_
 refine FJ.doneS (res1 rfl .z) (.c .z .n) ?_
 exact ⟨_, (tmod_in (by omega) (by omega)).1, fun h => (tmod_in (by omega) (by omega)).2, rfl, rfl⟩
 refine FJ.skip (FJ.then_ (FJ.seq ?_))
 have hq1 := tmod_in (x := a + 1 - 1) (n := (cd.length : Int)) (by omega) (by omega); have hq2 := div_in (x := a + 1 - 1) (n := (cd.length : Int)) (by omega) (by omega); have hq3 := tmod_in (x := a + 1 - 1 + 1) (n := (cd.length : Int)) (by omega) (by omega)
 refine FJ.draw [rowA g0 e0 s0 1 ((.slice Ac cd.length cc) :: (.int .i64 (a + 1)) :: post0)] 15 (by kernel_rfl) ?_
 refine FJ.sch [(0, true), (1, true), (2, true), (3, true), (4, true), (5, true), (6, true), (7, true), (8, true), (9, true), (10, true), (11, true), (12, true), (13, true), (14, true), (15, false)] 0 #[true, true, true, true, true, true, true, true, true, true, true, true, true, true, true, true] (by rfl) (by kernel_rfl) ?_
 refine FJ.dq rfl rfl rfl (by decide) rfl .z (q_move rfl (.t (.s16 (.s4 (.s4 (.s .z)))))) (FJ.dq rfl rfl rfl (by decide) rfl .z (q_nilCheck rfl (.t .z)) (FJ.dq rfl rfl rfl (by decide) rfl .z (q_fieldAddr rfl (.t .z) (fun _ => fa_140_0 _ _)) (FJ.dq rfl rfl rfl (by decide) rfl .z (q_load rfl ag_62 (.t .z) (WS.row .z rfl)) (FJ.dq rfl rfl rfl (by decide) rfl .z (q_move rfl (.t (.s4 (.s4 (.s4 .z))))) ?_))))
 refine FJ.dq rfl rfl rfl (by decide) rfl .z (q_move rfl (.t (.s4 (.s (.s (.s .z)))))) ?_
 refine FJ.dq rfl rfl rfl (by decide) rfl .z (q_rem (c := Int.tmod ((a + 1) - 1) (cd.length : Int)) rfl (.t (.s .z)) (.t .z) (by omega) rfl) ?_
 obtain ⟨ad4, hAad4, hrad4⟩ := (ro_he hcd) (by omega)
 subst hAad4
 obtain ⟨x5, hx5⟩ := get_ex (xs := cd) (j := Int.toNat (Int.tmod ((a + 1) - 1) (cd.length : Int))) (by omega)
 obtain ⟨ece6, hre6, hFe6, hce6⟩ := hrad4.elem hx5
 obtain ⟨rfl, se6⟩ := hre6
 have hux5 := UInt8.toNat_lt x5
 refine FJ.dq rfl rfl rfl (by decide) rfl .z (q_indexAddr (j := Int.toNat (Int.tmod ((a + 1) - 1) (cd.length : Int))) rfl u_62 sz_5 (.t (.s (.s (.s .z)))) (.t .z) (by omega) (by omega)) ?_
 refine FJ.dq rfl rfl rfl (by decide) rfl .z (q_load rfl ag_5 (.t .z) (WS.el0 hFe6 hce6 rfl)) ?_
 refine FJ.dq rfl rfl rfl (by decide) rfl .z (q_conv (c := (x5.toNat : Int)) rfl (.t .z) u_5 u_2 (wr rfl (by omega) (by have := UInt8.toNat_lt x5; omega))) ?_
 refine FJ.dq rfl rfl rfl (by decide) rfl .z (q_move rfl (.t (.s16 (.s (.s .z))))) (FJ.dq rfl rfl rfl (by decide) rfl .z (q_move rfl (.t (.s4 (.s4 (.s4 (.s .z)))))) ?_)
 refine FJ.dq rfl rfl rfl (by decide) rfl .z (q_quo (c := ((a + 1) - 1) / (cd.length : Int)) rfl (.t (.s .z)) (.t .z) (by omega) (quo_nn (by omega) (by omega) (by omega))) ?_
 refine FJ.dq rfl rfl rfl (by decide) rfl .z (q_mul (c := (((a + 1) - 1) / (cd.length : Int)) * 37) rfl (.t .z) .c (wr (by omega) (by omega) (by omega))) ?_
 refine FJ.dq rfl rfl rfl (by decide) rfl .z (q_add (c := (x5.toNat : Int) + ((((a + 1) - 1) / (cd.length : Int)) * 37)) rfl (.t (.s4 .z)) (.t .z) (wr (by omega) (by omega) (by omega))) ?_
 refine FJ.q (goes_sch rfl rfl) rfl (by decide) rfl (q_assign rfl (.t .z)) ?_
 refine FJ.sl rfl ?_
 refine FJ.schN ?_
 refine FJ.drawN (by kernel_rfl) ?_
 refine FJ.then_ (FJ.seq (FJ.seq (FJ.region (FJ.ql rfl (q_move rfl (.t (.s16 (.s16 (.s4 (.s4 (.s (.s .z)))))))) ?_))))
 refine FJ.ql rfl (q_gtr rfl (.t .z) .c) (FJ.nil (FJ.then_ ?_))
 refine FJ.condP (.t .z) (fun b7 => ?_) (fun b7 => ?_)
 have hq1 := tmod_in (x := a + 1 - 1) (n := (cd.length : Int)) (by omega) (by omega); have hq2 := div_in (x := a + 1 - 1) (n := (cd.length : Int)) (by omega) (by omega); have hq3 := tmod_in (x := a + 1 - 1 + 1) (n := (cd.length : Int)) (by omega) (by omega)
 refine FJ.draw [rowA g0 e0 s0 1 ((.slice (some ad4) cd.length cc) :: (.int .i64 (a + 1)) :: post0)] 17 (by kernel_rfl) ?_
 refine FJ.sch [(0, true), (1, true), (2, true), (3, true), (4, true), (5, true), (6, true), (7, true), (8, true), (9, true), (10, true), (11, true), (12, true), (13, true), (14, true), (15, true), (16, true), (17, false)] 0 #[true, true, true, true, true, true, true, true, true, true, true, true, true, true, true, true, true, true] (by rfl) (by kernel_rfl) ?_
 refine FJ.dq rfl rfl rfl (by decide) rfl .z (q_move rfl (.t (.s (.s .z)))) ?_
 refine FJ.dq rfl rfl rfl (by decide) rfl .z (q_mul (c := ((x5.toNat : Int) + ((((a + 1) - 1) / (cd.length : Int)) * 37)) * 251) rfl (.t .z) .c (wr (by omega) (by omega) (by omega))) ?_
 refine FJ.dq rfl rfl rfl (by decide) rfl .z (q_move rfl (.t (.s16 (.s16 (.s4 (.s4 (.s4 (.s .z)))))))) (FJ.dq rfl rfl rfl (by decide) rfl .z (q_nilCheck rfl (.t .z)) (FJ.dq rfl rfl rfl (by decide) rfl .z (q_fieldAddr rfl (.t .z) (fun _ => fa_140_0 _ _)) (FJ.dq rfl rfl rfl (by decide) rfl .z (q_load rfl ag_62 (.t .z) (WS.row .z rfl)) (FJ.dq rfl rfl rfl (by decide) rfl .z (q_move rfl (.t (.s16 (.s16 .z)))) ?_))))
 refine FJ.dq rfl rfl rfl (by decide) rfl .z (q_add (c := ((a + 1) - 1) + 1) rfl (.t .z) .c (wr (by omega) (by omega) (by omega))) ?_
 refine FJ.dq rfl rfl rfl (by decide) rfl .z (q_move rfl (.t (.s16 (.s4 (.s4 (.s4 .z)))))) ?_
 refine FJ.dq rfl rfl rfl (by decide) rfl .z (q_rem (c := Int.tmod (((a + 1) - 1) + 1) (cd.length : Int)) rfl (.t (.s .z)) (.t .z) (by omega) rfl) ?_
 obtain ⟨x8, hx8⟩ := get_ex (xs := cd) (j := Int.toNat (Int.tmod (((a + 1) - 1) + 1) (cd.length : Int))) (by omega)
 obtain ⟨ece9, hre9, hFe9, hce9⟩ := hrad4.elem hx8
 obtain ⟨rfl, se9⟩ := hre9
 have hux8 := UInt8.toNat_lt x8
 refine FJ.dq rfl rfl rfl (by decide) rfl .z (q_indexAddr (j := Int.toNat (Int.tmod (((a + 1) - 1) + 1) (cd.length : Int))) rfl u_62 sz_5 (.t (.s4 .z)) (.t .z) (by omega) (by omega)) ?_
 refine FJ.dq rfl rfl rfl (by decide) rfl .z (q_load rfl ag_5 (.t .z) (WS.el0 hFe9 hce9 rfl)) ?_
 refine FJ.dq rfl rfl rfl (by decide) rfl .z (q_conv (c := (x8.toNat : Int)) rfl (.t .z) u_5 u_2 (wr rfl (by omega) (by have := UInt8.toNat_lt x8; omega))) ?_
 refine FJ.dq rfl rfl rfl (by decide) rfl .z (q_mul (c := ((x8.toNat * 13 : Nat) : Int)) rfl (.t .z) .c (wr (by omega) (by omega) (by omega))) ?_
 refine FJ.dq rfl rfl rfl (by decide) rfl .z (q_add (c := (((x5.toNat : Int) + ((((a + 1) - 1) / (cd.length : Int)) * 37)) * 251) + ((x8.toNat * 13 : Nat) : Int)) rfl (.t (.s4 (.s4 (.s4 .z)))) (.t .z) (wr (by omega) (by omega) (by omega))) ?_
 refine FJ.dq rfl rfl rfl (by decide) rfl .z (q_move rfl (.t (.s16 (.s16 (.s4 (.s4 (.s .z))))))) ?_
 refine FJ.dq rfl rfl rfl (by decide) rfl .z (q_add (c := ((((x5.toNat : Int) + ((((a + 1) - 1) / (cd.length : Int)) * 37)) * 251) + ((x8.toNat * 13 : Nat) : Int)) + ((a + 1) - 1)) rfl (.t (.s .z)) (.t .z) (wr (by omega) (by omega) (by omega))) ?_
 refine FJ.er (.s16 (.s (.s (.s .z)))) ?_
 refine FJ.q (goes_sch rfl rfl) rfl (by decide) rfl (q_assign rfl (.t .z)) ?_
 refine FJ.sl rfl ?_
 refine FJ.schN ?_
 refine FJ.drawN (by kernel_rfl) ?_
 refine FJ.then_ (FJ.seq (FJ.region (FJ.ql rfl (q_move rfl (.t .z)) (FJ.ql rfl (q_move rfl (.t (.s16 (.s16 (.s16 (.s4 (.s4 (.s4 (.s (.s .z)))))))))) ?_))))
 refine FJ.ql rfl (q_rem (c := Int.tmod (((((x5.toNat : Int) + ((((a + 1) - 1) / (cd.length : Int)) * 37)) * 251) + ((x8.toNat * 13 : Nat) : Int)) + ((a + 1) - 1)) n) rfl (.t (.s .z)) (.t .z) (by omega) rfl) ?_
 refine FJ.er (.s16 (.s16 (.s16 (.s4 (.s4 (.s4 (.s (.s .z)))))))) (FJ.ql rfl (q_assign rfl (.t .z)) (FJ.nil (FJ.then_ (FJ.ret ?_))))
 refine FJ.doneS (res1 rfl .z) (.c .z .n) ?_
 exact ⟨_, (tmod_in (by omega) (by omega)).1, fun h => (tmod_in (by omega) (by omega)).2, rfl, rfl⟩
 refine FJ.skip (FJ.then_ (FJ.seq (FJ.region (FJ.ql rfl (q_move rfl (.t (.s (.s .z)))) ?_))))
 refine FJ.ql rfl (q_move rfl (.t (.s16 (.s16 (.s4 (.s4 (.s4 (.s .z)))))))) ?_
 refine FJ.ql rfl (q_rem (c := Int.tmod ((x5.toNat : Int) + ((((a + 1) - 1) / (cd.length : Int)) * 37)) n) rfl (.t (.s .z)) (.t .z) (by omega) rfl) ?_
 refine FJ.er (.s16 (.s16 (.s4 (.s4 (.s4 (.s .z)))))) (FJ.ql rfl (q_assign rfl (.t .z)) (FJ.nil (FJ.then_ (FJ.ret ?_))))
 refine FJ.doneS (res1 rfl .z) (.c .z .n) ?_
 exact ⟨_, (tmod_in (by omega) (by omega)).1, fun h => (tmod_in (by omega) (by omega)).2, rfl, rfl⟩

set_option maxHeartbeats 1000000 in
set_option maxRecDepth 20000 in
theorem c_110 {w0 : World} {S0 : Bs} {g0 e0 s0 : Nat} {post0 : List Value} {cd : List UInt8} {Ac : Option Addr} {cc : Nat} (hcd : kSl_5.ro w0 (FF w0 S0) cd [.slice Ac cd.length cc]) {a : Int} (n : Int) (hs : Star [rowA g0 e0 s0 1 ((.slice Ac cd.length cc) :: (.int .i64 a) :: post0)] w0 S0) (ha : 0 ≤ a ∧ a ≤ 1000000) (hn : n ≤ 1000000) :
    Calls Try.prog 110 #[.pointer (some ⟨g0, 0, none⟩), .int .i64 n] w0 (TriPost w0 S0 (fun r l => ∃ b : Bool, r = .bool b ∧ l = [rowA g0 e0 s0 1 (.slice Ac cd.length cc :: .int .i64 (a + 1) :: post0)])) := by
 obtain ⟨hlc, hmc, hbc⟩ := src_hl hcd
 refine FJ.enter (N := 9) Try.func110 rfl rfl (by simp) [(0, .pointer (some ⟨g0, 0, none⟩)), (1, .int .i64 n)] (by simp) hs ?_
 refine FJ.seq (FJ.region (FJ.ql rfl (q_assign rfl .c) (FJ.nil (FJ.then_ ?_))))
 refine FJ.seq (FJ.region (FJ.ql rfl (q_move rfl (.t (.s .z))) (FJ.ql rfl (q_move rfl (.t (.s (.s (.s .z))))) ?_)))
 refine FJ.call (goes_list rfl) rfl (by decide) rfl (c_call rfl Try.func93 rfl rfl (args2 (.t (.s .z)) (.t .z))) (.c .z .n) (fun w1 S1 hs tr => c_93 (tr.ctx hcd) _ hs (by omega) (by omega)) ?_
 rintro _ _ ⟨m2, h0m2, h1m2, rfl, rfl⟩
 refine FJ.cat (.c .n) ?_
 refine FJ.ql rfl (q_eql rfl (.t .z) .c) (FJ.er (.s4 .z) (FJ.ql rfl (q_assign rfl (.t .z)) (FJ.nil (FJ.then_ ?_))))
 refine FJ.ret ?_
 refine FJ.doneS (res1 rfl .z) (.c .z .n) ?_
 exact ⟨_, rfl, rfl⟩

set_option maxHeartbeats 1000000 in
set_option maxRecDepth 20000 in
theorem c_94 {w0 : World} {S0 : Bs} {g0 e0 s0 : Nat} {post0 : List Value} {cd : List UInt8} {Ac : Option Addr} {cc : Nat} (hcd : kSl_5.ro w0 (FF w0 S0) cd [.slice Ac cd.length cc]) {a : Int} {ls : (List Int)} {v1 : Value} (h1 : kSl_2.ro w0 (FF w0 S0) ls [v1]) (hs : Star [rowA g0 e0 s0 1 ((.slice Ac cd.length cc) :: (.int .i64 a) :: post0)] w0 S0) (ha : 0 ≤ a ∧ a ≤ 1000000) (hn : 1 ≤ ls.length ∧ ls.length ≤ 1000) :
    Calls Try.prog 94 #[.pointer (some ⟨g0, 0, none⟩), v1] w0 (TriPost w0 S0 (fun r l => ∃ m : Int, m ∈ ls ∧ r = .int .i64 m ∧ l = [rowA g0 e0 s0 1 (.slice Ac cd.length cc :: .int .i64 (a + 1) :: post0)])) := by
 obtain ⟨hlc, hmc, hbc⟩ := src_hl hcd
 obtain ⟨A1, c1, rfl, hl1, hm1, hb1, he1⟩ := ro_form h1
 refine FJ.enter (N := 12) Try.func94 rfl rfl (by simp) [(0, .pointer (some ⟨g0, 0, none⟩)), (1, .slice A1 ls.length c1)] (by simp) hs ?_
 refine FJ.seq (FJ.region (FJ.ql rfl (q_assign rfl .c) (FJ.nil (FJ.then_ ?_))))
 refine FJ.seq (FJ.region (FJ.ql rfl (q_move rfl (.t (.s (.s .z)))) (FJ.ql rfl (q_move rfl (.t (.s (.s .z)))) (FJ.ql rfl (q_move rfl (.t (.s4 .z))) ?_))))
 refine FJ.ql rfl (q_len rfl u_22 (.t .z)) ?_
 refine FJ.call (goes_list rfl) rfl (by decide) rfl (c_call rfl Try.func93 rfl rfl (args2 (.t (.s (.s .z))) (.t .z))) (.c .z .n) (fun w1 S1 hs tr => c_93 (tr.ctx hcd) _ hs (by omega) (by omega)) ?_
 rintro _ _ ⟨m3, h0m3, h1m3, rfl, rfl⟩
 refine FJ.cat (.c .n) ?_
 obtain ⟨ad4, hAad4, hrad4⟩ := he1 (by omega)
 subst hAad4
 obtain ⟨x5, hx5⟩ := get_ex (xs := ls) (j := Int.toNat m3) (by omega)
 obtain ⟨ece6, hre6, hFe6, hce6⟩ := hrad4.elem hx5
 obtain ⟨rfl, se6⟩ := hre6
 refine FJ.ql rfl (q_indexAddr (j := Int.toNat m3) rfl u_22 sz_2 (.t (.s4 .z)) (.t .z) (by omega) (by omega)) ?_
 refine FJ.ql rfl (q_load rfl ag_2 (.t .z) (WS.el0 hFe6 hce6 rfl)) (FJ.er (.s4 (.s (.s (.s .z)))) (FJ.ql rfl (q_assign rfl (.t .z)) (FJ.nil (FJ.then_ ?_))))
 refine FJ.ret ?_
 refine FJ.doneS (res1 rfl .z) (.c .z .n) ?_
 exact ⟨_, List.mem_of_getElem? (by assumption), rfl, rfl⟩

set_option maxHeartbeats 1000000 in
set_option maxRecDepth 20000 in
theorem c_41 {w0 : World} {S0 : Bs} {cd : (List UInt8)} {v0 : Value} (h0 : kSl_5.ro w0 (FF w0 S0) cd [v0])  :
    Calls Try.prog 41 #[v0] w0 (TriPost w0 S0 (fun r l => r = .bool (decide ((1048576 : Int) < (cd.length : Int))) ∧ l = [])) := by
 obtain ⟨A0, c0, rfl, hl0, hm0, hb0, he0⟩ := ro_form h0
 refine FJ.enter (N := 6) Try.func41 rfl rfl (by simp) [(0, .slice A0 cd.length c0)] (by simp) (l0 := []) trivial ?_
 refine FJ.seq (FJ.region (FJ.ql rfl (q_assign rfl .c) (FJ.nil (FJ.then_ ?_))))
 refine FJ.seq (FJ.region (FJ.ql rfl (q_move rfl (.t (.s .z))) (FJ.ql rfl (q_len rfl u_62 (.t .z)) (FJ.ql rfl (q_gtr rfl (.t .z) .c) ?_))))
 refine FJ.er (.s (.s (.s .z))) (FJ.ql rfl (q_assign rfl (.t .z)) (FJ.nil (FJ.then_ (FJ.ret ?_))))
 refine FJ.doneS (res1 rfl .z) .n ?_
 exact ⟨by simp, rfl⟩

set_option maxHeartbeats 1000000 in
set_option maxRecDepth 20000 in
theorem c_134 {w0 : World} {S0 : Bs} {g0 e0 s0 : Nat} {post0 : List Value} {cd : List UInt8} {Ac : Option Addr} {cc : Nat} (hcd : kSl_5.ro w0 (FF w0 S0) cd [.slice Ac cd.length cc]) {a : Int} (hs : Star [rowA g0 e0 s0 1 ((.slice Ac cd.length cc) :: (.int .i64 a) :: post0)] w0 S0) (ha : 0 ≤ a ∧ a ≤ 1000000) :
    Calls Try.prog 134 #[.pointer (some ⟨g0, 0, none⟩)] w0 (TriPost w0 S0 (fun r l => ∃ s : ByteArray, nameFault s = 0 ∧ r = .string s ∧ l = [rowA g0 e0 s0 1 (.slice Ac cd.length cc :: .int .i64 (a + 1) :: post0)])) := by
 obtain ⟨hlc, hmc, hbc⟩ := src_hl hcd
 refine FJ.enter (N := 8) Try.func134 rfl rfl (by simp) [(0, .pointer (some ⟨g0, 0, none⟩))] (by simp) hs ?_
 refine FJ.seq (FJ.region (FJ.ql rfl (q_assign rfl .c) (FJ.nil (FJ.then_ ?_))))
 refine FJ.seq (FJ.region ?_)
 refine FJ.e (goes_list rfl) rfl (by decide) rfl (e_buildSliceL (ps := [(0, .string (⟨#[97]⟩)), (1, .string (⟨#[98]⟩)), (2, .string (⟨#[99]⟩)), (3, .string (⟨#[100]⟩)), (4, .string (⟨#[97, 98]⟩)), (5, .string (⟨#[104, 97, 108, 108]⟩))]) (cs := [.string (⟨#[97]⟩), .string (⟨#[98]⟩), .string (⟨#[99]⟩), .string (⟨#[100]⟩), .string (⟨#[97, 98]⟩), .string (⟨#[104, 97, 108, 108]⟩)]) rfl u_141 (inz inf_9) (by decide) (by intro act hact; simp only [List.map_toArray, List.map_cons, List.map_nil, (show Val _ _ _ from .c) act hact, (show Val _ _ _ from .c) act hact, (show Val _ _ _ from .c) act hact, (show Val _ _ _ from .c) act hact, (show Val _ _ _ from .c) act hact, (show Val _ _ _ from .c) act hact]) rfl rfl (by decide) rfl rfl) ?_
 rintro _ _ ⟨g2, rfl, rfl⟩
 refine FJ.ql rfl (q_move rfl (.t (.s (.s .z)))) ?_
 refine FJ.call (goes_list rfl) rfl (by decide) rfl (c_call rfl Try.func93 rfl rfl (args2 (.t .z) .c)) (.c (.s .z) .n) (fun w1 S1 hs tr => c_93 (tr.ctx hcd) _ hs (by omega) (by omega)) ?_
 rintro _ _ ⟨m3, h0m3, h1m3, rfl, rfl⟩
 refine FJ.cat (.c .n) ?_
 refine FJ.turns (c := ownA kSl_9 ([⟨#[97]⟩, ⟨#[98]⟩, ⟨#[99]⟩, ⟨#[100]⟩, ⟨#[97, 98]⟩, ⟨#[104, 97, 108, 108]⟩] : (List ByteArray)) [.slice (some ⟨g2, 0, none⟩) 6 6]) (.c (.s .z) .n) (fun w S h => lit_own (xs := ([⟨#[97]⟩, ⟨#[98]⟩, ⟨#[99]⟩, ⟨#[100]⟩, ⟨#[97, 98]⟩, ⟨#[104, 97, 108, 108]⟩] : (List ByteArray))) h rfl (by decide) (by omega) (by omega)) ?_
 refine FJ.ql rfl (q_indexAddr (j := Int.toNat m3) rfl u_141 sz_9 (.t (.s (.s .z))) (.t .z) (by omega) (by first | omega | (simp only [List.length_cons, List.length_nil]; omega))) ?_
 obtain ⟨x5, hx5⟩ := get_ex (xs := ([⟨#[97]⟩, ⟨#[98]⟩, ⟨#[99]⟩, ⟨#[100]⟩, ⟨#[97, 98]⟩, ⟨#[104, 97, 108, 108]⟩] : (List ByteArray))) (j := Int.toNat m3) (by first | omega | (simp only [List.length_cons, List.length_nil]; omega))
 refine FJ.ql rfl (q_load rfl ag_9 (.t .z) (WS.oel .z hx5)) (FJ.er (.s4 (.s .z)) (FJ.ql rfl (q_assign rfl (.t .z)) (FJ.nil (FJ.then_ ?_))))
 refine FJ.ret ?_
 refine FJ.doneS (res1 rfl .z) (.c (.s .z) .n) ?_
 exact ⟨_, (names_ok6 _ (List.mem_of_getElem? (by assumption))), rfl, rfl⟩
end Go.Proofs.Ytoaebcjjfojfeaa

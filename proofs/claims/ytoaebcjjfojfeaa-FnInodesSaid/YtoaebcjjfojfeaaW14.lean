/- What is proved: contracts of functions, one a function. No condition. -/
import Derived.Test.YtoaebcjjfojfeaaW13
import Derived.Test.YtoaebcjjfojfeaaW6
import Derived.Test.YtoaebcjjfojfeaaBase2
namespace Go.Proofs.Ytoaebcjjfojfeaa
open Go Go.RowKit
set_option linter.unusedVariables false
set_option linter.unusedSimpArgs false
set_option maxHeartbeats 1000000 in
set_option maxRecDepth 20000 in
theorem c_130 {w0 : World} {S0 : Bs} {xs : (List Int)} {v0 : Value} (h0 : kSl_2.ro w0 (FF w0 S0) xs [v0])  :
    Calls Try.prog 130 #[v0] w0 (TriPost w0 S0 (fun r l => r = .int .i64 (wordsFault xs) ∧ l = [])) := by
 obtain ⟨A0, c0, rfl, hl0, hm0, hb0, he0⟩ := ro_form h0
 refine FJ.enter (N := 10) Try.func130 rfl rfl (by simp) [(0, .slice A0 xs.length c0)] (by simp) (l0 := []) trivial ?_
 refine FJ.seq (FJ.region (FJ.ql rfl (q_assign rfl .c) (FJ.nil (FJ.then_ ?_))))
 refine FJ.seq (FJ.block (FJ.seq (FJ.region (FJ.ql rfl (q_move rfl (.t (.s .z))) ?_))))
 refine FJ.ql rfl (q_len rfl u_22 (.t .z)) (FJ.ql rfl (q_gtr rfl (.t .z) .c) (FJ.ql rfl (q_assign rfl (.t .z)) (FJ.nil (FJ.then_ ?_))))
 refine FJ.condP (.t .z) (fun b2 => ?_) (fun b2 => ?_)
 refine FJ.seq (FJ.region (FJ.er (.s4 .z) (FJ.ql rfl (q_assign rfl .c) (FJ.nil ?_))))
 refine FJ.then_ (FJ.ret (FJ.inBR (FJ.thenR ?_)))
 refine FJ.doneS (res1 rfl .z) .n ?_
 exact ⟨by rw [wordsFault_2 (by assumption)], rfl⟩
 refine FJ.seq (FJ.region (FJ.ql rfl (q_move rfl (.t (.s4 (.s .z)))) ?_))
 refine FJ.call (goes_list rfl) rfl (by decide) rfl (c_call rfl Try.func142 rfl rfl (args2 (.t .z) .f)) .n (fun w1 S1 hs tr => c_142 (tr.ctx h0) Try.func150 rfl rfl (fun w2 S2 h2 x => c_150 x)) ?_
 rintro _ _ ⟨rfl, rfl⟩
 refine FJ.cat .n ?_
 refine FJ.ql rfl (q_assign rfl (.t .z)) (FJ.nil (FJ.then_ ?_))
 refine FJ.cond (.t .z) (fun b3 => ?_) (fun b3 => ?_)
 refine FJ.seq (FJ.region (FJ.er (.s4 (.s (.s (.s .z)))) (FJ.ql rfl (q_assign rfl .c) (FJ.nil ?_))))
 refine FJ.then_ (FJ.ret (FJ.inBR (FJ.thenR ?_)))
 refine FJ.doneS (res1 rfl .z) .n ?_
 exact ⟨by rw [wordsFault_3' (by assumption) (by assumption)], rfl⟩
 refine FJ.skip (FJ.inBN (FJ.then_ (FJ.seq (FJ.region ?_))))
 refine FJ.er (.s4 (.s (.s (.s .z)))) (FJ.ql rfl (q_assign rfl .c) (FJ.nil (FJ.then_ (FJ.ret ?_))))
 refine FJ.doneS (res1 rfl .z) .n ?_
 exact ⟨by rw [wordsFault_0' (by assumption) (by assumption)], rfl⟩

set_option maxHeartbeats 1000000 in
set_option maxRecDepth 20000 in
theorem c_97 {w0 : World} {S0 : Bs} {xs : (List Int)} {v0 : Value} (h0 : kSl_2.ro w0 (FF w0 S0) xs [v0])  :
    Calls Try.prog 97 #[v0] w0 (TriPost w0 S0 (fun r l => r = .int .i64 (wordsFault xs) ∧ l = [])) := by
 obtain ⟨A0, c0, rfl, hl0, hm0, hb0, he0⟩ := ro_form h0
 refine FJ.enter (N := 19) Try.func97 rfl rfl (by simp) [(0, .slice A0 xs.length c0)] (by simp) (l0 := []) trivial ?_
 refine FJ.seq (FJ.region (FJ.ql rfl (q_assign rfl .c) (FJ.nil (FJ.then_ ?_))))
 refine FJ.seq (FJ.seq (FJ.region (FJ.ql rfl (q_move rfl (.t (.s .z))) (FJ.ql rfl (q_len rfl u_22 (.t .z)) ?_))))
 refine FJ.ql rfl (q_gtr rfl (.t .z) .c) (FJ.nil (FJ.then_ ?_))
 refine FJ.condP (.t .z) (fun b2 => ?_) (fun b2 => ?_)
 refine FJ.seq (FJ.region (FJ.er (.s (.s (.s .z))) (FJ.ql rfl (q_assign rfl .c) (FJ.nil ?_))))
 refine FJ.then_ (FJ.ret (FJ.thenR ?_))
 refine FJ.doneS (res1 rfl .z) .n ?_
 exact ⟨by rw [wordsFault_2 (by assumption)], rfl⟩
 refine FJ.skip (FJ.then_ (FJ.seq (FJ.seq (FJ.region ?_))))
 refine FJ.ql rfl (q_assign rfl .c) (FJ.nil (FJ.then_ (FJ.block ?_)))
 refine FJ.loopi (γ := Nat) (fun k => [(3, .int .i64 (k : Int)), (0, .slice A0 xs.length c0)]) (fun k => []) (fun k => k ≤ xs.length ∧ ∀ j x, j < k → xs[j]? = some x → 0 ≤ x ∧ x ≤ 65535) (fun k => xs.length - k) 0 ⟨Nat.zero_le _, all_zero (q := fun _ x => 0 ≤ x ∧ x ≤ 65535)⟩ (.c .z (.c (.s4 (.s .z)) .n)) (fun _ h => h) ?_
 rintro k ⟨hk, hallk⟩
 refine FJ.seq (FJ.seq (FJ.region (FJ.ql rfl (q_move rfl (.t .z)) (FJ.ql rfl (q_move rfl (.t (.s (.s .z)))) ?_))))
 refine FJ.ql rfl (q_len rfl u_22 (.t .z)) (FJ.ql rfl (q_lss rfl (.t (.s (.s .z))) (.t .z)) (FJ.nil (FJ.then_ ?_)))
 refine FJ.condP (.t .z) (fun b3 => ?_) (fun b3 => ?_)
 refine FJ.skip (FJ.then_ (FJ.seq (FJ.block (FJ.seq ?_))))
 refine FJ.region (FJ.ql rfl (q_move rfl (.t (.s4 (.s .z)))) (FJ.ql rfl (q_move rfl (.t (.s4 (.s .z)))) ?_))
 obtain ⟨ad4, hAad4, hrad4⟩ := he0 (by omega)
 subst hAad4
 obtain ⟨x5, hx5⟩ := get_ex (xs := xs) (j := k) (by omega)
 obtain ⟨ece6, hre6, hFe6, hce6⟩ := hrad4.elem hx5
 obtain ⟨rfl, se6⟩ := hre6
 refine FJ.ql rfl (q_indexAddr (j := k) rfl u_22 sz_2 (.t (.s .z)) (.t .z) rfl (by omega)) ?_
 refine FJ.ql rfl (q_load rfl ag_2 (.t .z) (WS.el0 hFe6 hce6 rfl)) ?_
 refine FJ.call (goes_list rfl) rfl (by decide) rfl (c_call rfl Try.func82 rfl rfl (args3 (.t .z) .c .c)) .n (fun w1 S1 hs tr => c_82 _ _ _) ?_
 rintro _ _ ⟨rfl, rfl⟩
 refine FJ.cat .n ?_
 refine FJ.ql rfl (q_not rfl (.t .z)) (FJ.nil (FJ.then_ ?_))
 refine FJ.condN (.t .z) (fun b7 => ?_) (fun b7 => ?_)
 refine FJ.seq (FJ.region (FJ.ql rfl (q_assign rfl .c) (FJ.nil (FJ.then_ ?_))))
 refine FJ.ret (FJ.inBR (FJ.thenR (FJ.thenR (FJ.inBR ?_))))
 refine FJ.thenR ?_
 refine FJ.doneS (res1 rfl .z) .n ?_
 exact ⟨by rw [wordsFault_3 (by assumption) (by assumption) (by assumption)], rfl⟩
 refine FJ.skip (FJ.inBN (FJ.then_ (FJ.region (FJ.ql rfl (q_move rfl (.t (.s4 (.s4 (.s (.s .z)))))) ?_))))
 refine FJ.ql rfl (q_add (c := ((k + 1 : Nat) : Int)) rfl (.t .z) .c (wr (by omega) (by omega) (by omega))) ?_
 refine FJ.er (.s4 (.s4 (.s4 .z))) (FJ.ql rfl (q_assign rfl (.t .z)) (FJ.nil ?_))
 refine FJ.again (k + 1) ⟨by omega, all_succ (q := fun _ x => 0 ≤ x ∧ x ≤ 65535) hallk hx5 b7⟩ (by first | omega | (dsimp only; omega)) (.c .z (.c (.s4 (.s4 (.s4 (.s .z)))) .n)) (fun _ h => h)
 refine FJ.exit (FJ.thenE (FJ.thenE (FJ.inB (FJ.then_ ?_))))
 refine FJ.seq (FJ.region (FJ.ql rfl (q_assign rfl .c) (FJ.nil (FJ.then_ ?_))))
 refine FJ.ret ?_
 refine FJ.doneS (res1 rfl .z) .n ?_
 exact ⟨by rw [wordsFault_0 (by assumption) (fun j x hj hx => hallk j x (by omega) hx)], rfl⟩

set_option maxHeartbeats 1000000 in
set_option maxRecDepth 20000 in
theorem c_131 {w0 : World} {S0 : Bs} {ws : (List Int)} {v0 : Value} (h0 : kSl_2.ro w0 (FF w0 S0) ws [v0]) (hw : wordsFault ws = 0) :
    Calls Try.prog 131 #[v0] w0 (TriPost w0 S0 (fun r l => ∃ (x : DInode) (ok : Bool) (v0 v1 : Value), Dec ws x ok ∧ r = .tuple #[.agg #[.int .i64 x.kind, .int .i64 x.links, .int .i64 x.size, v0, v1], .bool ok] ∧ l = [ownA kSl_2 x.blocks [v0], ownA kSl_130 x.ents [v1]])) := by
 obtain ⟨A0, c0, rfl, hl0, hm0, hb0, he0⟩ := ro_form h0
 have hwv := words_in hw
 have hwl := words_64 hw
 refine FJ.enter (N := 92) Try.func131 rfl rfl (by simp) [(0, .slice A0 ws.length c0)] (by simp) (l0 := []) trivial ?_
 refine FJ.seq (FJ.region ?_)
 refine FJ.e (goes_list rfl) rfl (by decide) rfl (e_alloc rfl z_30 rfl rfl) ?_
 rintro _ _ ⟨g2, rfl, rfl⟩
 refine FJ.ql rfl (q_assign rfl .c) (FJ.nil (FJ.then_ (FJ.seq (FJ.seq ?_))))
 refine FJ.region (FJ.ql rfl (q_move rfl (.t (.s (.s .z)))) (FJ.ql rfl (q_len rfl u_22 (.t .z)) (FJ.ql rfl (q_lss rfl (.t .z) .c) (FJ.nil ?_))))
 refine FJ.then_ ?_
 refine FJ.condP (.t .z) (fun b3 => ?_) (fun b3 => ?_)
 refine FJ.seq (FJ.region ?_)
 refine FJ.ql rfl (q_build (ps := []) (cs := [.int .i64 0, .int .i64 0, .int .i64 0, .slice none 0 0, .slice none 0 0]) rfl bl_30 (by intro act hact; simp only [List.map_toArray, List.map_cons, List.map_nil]) rfl) ?_
 refine FJ.es (goes_list rfl) rfl (es_store (off := 0) (cs := [.int .i64 0, .int .i64 0, .int .i64 0, .slice none 0 0, .slice none 0 0]) rfl sz_30 (.t (.s4 (.s .z))) (.t .z) rfl (ones rfl) .z (Nat.le_of_ble_eq_true rfl) (.c .z (.c (.s .z) (.c (.s (.s .z)) (.c (.s (.s (.s .z))) (.c (.s (.s (.s (.s .z)))) .n)))))) ?_
 refine FJ.er (.s4 .z) (FJ.ql rfl (q_assign rfl .c) (FJ.nil (FJ.then_ (FJ.ret ?_))))
 refine FJ.thenR ?_
 refine FJ.add (c := ownA kSl_2 [] [.slice none 0 0]) (fun w S => own_nil w S none) ?_
 refine FJ.add (c := ownA kSl_130 [] [.slice none 0 0]) (fun w S => own_nil w S none) ?_
 refine FJ.doneS (res_ct (cs := [.int .i64 0, .int .i64 0, .int .i64 0, .slice none 0 0, .slice none 0 0]) rfl (.s4 (.s .z)) ag_30 sz_30 (WS.rows0 (cs := [.int .i64 0, .int .i64 0, .int .i64 0, .slice none 0 0, .slice none 0 0]) (.s (.s .z)) (fun _ _ h => h)) .z) (.c (.s .z) (.c .z .n)) ?_
 exact ⟨(⟨0, 0, 0, [], []⟩ : DInode), false, _, _, dec_short (by omega), rfl, rfl⟩
 refine FJ.skip (FJ.then_ (FJ.seq ?_))
 refine FJ.draw [rowA g2 30 5 1 [.int .i64 0, .int .i64 0, .int .i64 0, .slice none 0 0, .slice none 0 0]] 11 (by kernel_rfl) ?_
 refine FJ.sch [(0, true), (1, true), (2, true), (3, true), (4, true), (5, true), (6, true), (7, true), (8, true), (9, true), (10, false), (11, false)] 0 #[true, true, true, true, true, true, true, true, true, true, true, true] (by rfl) (by kernel_rfl) ?_
 refine FJ.dq rfl rfl rfl (by decide) rfl .z (q_move rfl (.t (.s4 (.s .z)))) ?_
 obtain ⟨ad6, hAad6, hrad6⟩ := he0 (by omega)
 subst hAad6
 obtain ⟨x7, hx7⟩ := get_ex (xs := ws) (j := 0) (by omega)
 obtain ⟨ece8, hre8, hFe8, hce8⟩ := hrad6.elem hx7
 obtain ⟨rfl, se8⟩ := hre8
 have hvx7 := hwv _ (mem_at hx7)
 refine FJ.dq rfl rfl rfl (by decide) rfl .z (q_indexAddr (j := 0) rfl u_22 sz_2 (.t .z) .c rfl (by omega)) ?_
 refine FJ.dq rfl rfl rfl (by decide) rfl .z (q_load rfl ag_2 (.t .z) (WS.el0 hFe8 hce8 rfl)) (FJ.dq rfl rfl rfl (by decide) rfl .z (q_move rfl (.t (.s4 (.s4 .z)))) ?_)
 obtain ⟨x9, hx9⟩ := get_ex (xs := ws) (j := 1) (by omega)
 obtain ⟨ece10, hre10, hFe10, hce10⟩ := hrad6.elem hx9
 obtain ⟨rfl, se10⟩ := hre10
 have hvx9 := hwv _ (mem_at hx9)
 refine FJ.dq rfl rfl rfl (by decide) rfl .z (q_indexAddr (j := 1) rfl u_22 sz_2 (.t .z) .c rfl (by omega)) ?_
 refine FJ.dq rfl rfl rfl (by decide) rfl .z (q_load rfl ag_2 (.t .z) (WS.el0 hFe10 hce10 rfl)) (FJ.dq rfl rfl rfl (by decide) rfl .z (q_move rfl (.t (.s4 (.s4 (.s (.s (.s .z))))))) ?_)
 obtain ⟨x11, hx11⟩ := get_ex (xs := ws) (j := 2) (by omega)
 obtain ⟨ece12, hre12, hFe12, hce12⟩ := hrad6.elem hx11
 obtain ⟨rfl, se12⟩ := hre12
 have hvx11 := hwv _ (mem_at hx11)
 refine FJ.dq rfl rfl rfl (by decide) rfl .z (q_indexAddr (j := 2) rfl u_22 sz_2 (.t .z) .c rfl (by omega)) ?_
 refine FJ.dq rfl rfl rfl (by decide) rfl .z (q_load rfl ag_2 (.t .z) (WS.el0 hFe12 hce12 rfl)) ?_
 refine FJ.dq rfl rfl rfl (by decide) rfl .z (q_build (ps := [(0, .int .i64 x7), (1, .int .i64 x9), (2, .int .i64 x11)]) (cs := [.int .i64 x7, .int .i64 x9, .int .i64 x11, .slice none 0 0, .slice none 0 0]) rfl bl_30 (by intro act hact; simp only [List.map_toArray, List.map_cons, List.map_nil, (show Val _ _ _ from (.t (.s4 (.s (.s .z))))) act hact, (show Val _ _ _ from (.t (.s (.s (.s .z))))) act hact, (show Val _ _ _ from (.t .z)) act hact]) rfl) ?_
 refine FJ.e (goes_sch rfl rfl) rfl (by decide) rfl (e_alloc rfl z_30 rfl rfl) ?_
 rintro _ _ ⟨g13, rfl, rfl⟩
 refine FJ.sk (.s .z) ?_
 refine FJ.es (goes_sch rfl rfl) rfl (es_store (off := 0) (cs := [.int .i64 x7, .int .i64 x9, .int .i64 x11, .slice none 0 0, .slice none 0 0]) rfl sz_30 (.t .z) (.t (.s .z)) rfl (ones rfl) .z (Nat.le_of_ble_eq_true rfl) (.c .z (.c (.s .z) (.c (.s (.s .z)) (.c (.s (.s (.s .z))) (.c (.s (.s (.s (.s .z)))) .n)))))) ?_
 refine FJ.sl rfl ?_
 refine FJ.schN ?_
 refine FJ.drawN (by kernel_rfl) ?_
 refine FJ.then_ (FJ.seq (FJ.region (FJ.ql rfl (q_move rfl (.t (.s16 .z))) ?_)))
 obtain ⟨As14, hAs14⟩ : ∃ A' : Option Addr, A' = (if c0 = 3 then (some ad6) else Option.map (fun z => Addr.add z (3 * 1)) (some ad6)) := ⟨_, rfl⟩
 have hs14 := ro_sub (a := 3) (b := ws.length) hAs14 h0 (by omega) (by omega)
 have ls14 := subL_len (xs := ws) (a := 3) (b := ws.length) (by omega)
 refine FJ.ql rfl (q_sliceL (a := 3) (b := ws.length) rfl u_22 sz_2 (.t .z) hAs14 (.inr ⟨_, _, rfl, .c⟩) (.inl ⟨rfl, rfl⟩) (by omega) (by omega) (by omega)) ?_
 refine FJ.er (.s16 (.s (.s .z))) (FJ.ql rfl (q_assign rfl (.t .z)) (FJ.nil (FJ.then_ (FJ.seq ?_))))
 refine FJ.seq (FJ.region (FJ.ql rfl (q_fieldAddr rfl (.t (.s (.s (.s .z)))) (fun _ => fa_30_0 _ _)) (FJ.ql rfl (q_load rfl ag_2 (.t .z) (WS.row .z rfl)) (FJ.ql rfl (q_neq rfl (.t .z) .c) ?_))))
 refine FJ.nil (FJ.then_ ?_)
 refine FJ.condN (.t .z) (fun b16 => ?_) (fun b16 => ?_)
 refine FJ.seq (FJ.region (FJ.ql rfl (q_move rfl (.t (.s (.s (.s .z))))) ?_))
 refine FJ.call (goes_list rfl) rfl (by decide) rfl (c_call rfl Try.func139 rfl rfl (args1 (.t .z))) .n (fun w1 S1 hs tr => c_139 (tr.ctx hs14)) ?_
 rintro _ _ rfl
 refine FJ.cat (.c .n) ?_
 refine FJ.know (WS.oform .z) ?_
 rintro ⟨Ao18, co18, rfl, hlo18, hmo18, hbo18⟩
 refine FJ.ql rfl (q_fieldAddr rfl (.t (.s4 (.s4 .z))) (fun _ => fa_30_3 _ _)) ?_
 refine FJ.es (goes_list rfl) rfl (es_store (off := 3) (cs := [.slice Ao18 (subL ws 3 ws.length).length co18]) rfl sz_22 (.t .z) (.t (.s .z)) rfl (ones rfl) (.s .z) (Nat.le_of_ble_eq_true rfl) (.c (.s (.s (.s .z))) .n)) ?_
 refine FJ.nil (FJ.then_ (FJ.seq (FJ.region ?_)))
 refine FJ.ql rfl (q_loadA (cs := [.int .i64 x7, .int .i64 x9, .int .i64 x11, .slice Ao18 (subL ws 3 ws.length).length co18, .slice none 0 0]) rfl ag_30 sz_30 (.t (.s4 (.s4 (.s .z)))) (WS.rows0 .z (fun i u h => by exact h))) ?_
 refine FJ.es (goes_list rfl) rfl (es_store (off := 0) (cs := [.int .i64 x7, .int .i64 x9, .int .i64 x11, .slice Ao18 (subL ws 3 ws.length).length co18, .slice none 0 0]) rfl sz_30 (.t (.s16 (.s4 (.s4 (.s .z))))) (.t .z) rfl (ones rfl) (.s (.s .z)) (Nat.le_of_ble_eq_true rfl) (.c .z (.c (.s .z) (.c (.s (.s .z)) (.c (.s (.s (.s .z))) (.c (.s (.s (.s (.s .z)))) .n)))))) ?_
 refine FJ.er (.s16 (.s4 (.s4 .z))) (FJ.ql rfl (q_assign rfl .c) (FJ.nil (FJ.then_ (FJ.ret ?_))))
 refine FJ.thenR ?_
 refine FJ.add (c := ownA kSl_130 [] [.slice none 0 0]) (fun w S => own_nil w S none) ?_
 refine FJ.doneS (res_ct (cs := [.int .i64 x7, .int .i64 x9, .int .i64 x11, .slice Ao18 (subL ws 3 ws.length).length co18, .slice none 0 0]) rfl (.s16 (.s4 (.s4 (.s .z)))) ag_30 sz_30 (WS.rows0 (cs := [.int .i64 x7, .int .i64 x9, .int .i64 x11, .slice Ao18 (subL ws 3 ws.length).length co18, .slice none 0 0]) (.s .z) (fun _ _ h => h)) .z) (.c (.s (.s (.s .z))) (.c .z .n)) ?_
 exact ⟨(⟨x7, x9, x11, (subL ws 3 ws.length), []⟩ : DInode), true, _, _, (by rw [subL_end]; exact dec_file hx7 hx9 hx11 (by assumption)), rfl, rfl⟩
 refine FJ.skip (FJ.then_ (FJ.seq (FJ.seq (FJ.region ?_))))
 refine FJ.ql rfl (q_move rfl (.t (.s (.s (.s .z))))) (FJ.ql rfl (q_len rfl u_22 (.t .z)) (FJ.ql rfl (q_eql rfl (.t .z) .c) (FJ.nil (FJ.then_ ?_))))
 refine FJ.condP (.t .z) (fun b20 => ?_) (fun b20 => ?_)
 refine FJ.seq (FJ.region ?_)
 refine FJ.ql rfl (q_build (ps := []) (cs := [.int .i64 0, .int .i64 0, .int .i64 0, .slice none 0 0, .slice none 0 0]) rfl bl_30 (by intro act hact; simp only [List.map_toArray, List.map_cons, List.map_nil]) rfl) ?_
 refine FJ.es (goes_list rfl) rfl (es_store (off := 0) (cs := [.int .i64 0, .int .i64 0, .int .i64 0, .slice none 0 0, .slice none 0 0]) rfl sz_30 (.t (.s16 (.s4 (.s4 (.s .z))))) (.t .z) rfl (ones rfl) (.s .z) (Nat.le_of_ble_eq_true rfl) (.c .z (.c (.s .z) (.c (.s (.s .z)) (.c (.s (.s (.s .z))) (.c (.s (.s (.s (.s .z)))) .n)))))) ?_
 refine FJ.er (.s16 (.s4 (.s4 .z))) (FJ.ql rfl (q_assign rfl .c) (FJ.nil (FJ.then_ (FJ.ret ?_))))
 refine FJ.thenR ?_
 refine FJ.add (c := ownA kSl_2 [] [.slice none 0 0]) (fun w S => own_nil w S none) ?_
 refine FJ.add (c := ownA kSl_130 [] [.slice none 0 0]) (fun w S => own_nil w S none) ?_
 refine FJ.doneS (res_ct (cs := [.int .i64 0, .int .i64 0, .int .i64 0, .slice none 0 0, .slice none 0 0]) rfl (.s16 (.s4 (.s4 (.s .z)))) ag_30 sz_30 (WS.rows0 (cs := [.int .i64 0, .int .i64 0, .int .i64 0, .slice none 0 0, .slice none 0 0]) (.s (.s .z)) (fun _ _ h => h)) .z) (.c (.s .z) (.c .z .n)) ?_
 exact ⟨(⟨0, 0, 0, [], []⟩ : DInode), false, _, _, dec_e hx7 (by omega) (by omega), rfl, rfl⟩
 refine FJ.skip (FJ.then_ (FJ.seq (FJ.seq (FJ.region ?_))))
 refine FJ.ql rfl (q_move rfl (.t (.s4 (.s (.s .z))))) ?_
 obtain ⟨As23, hAs23⟩ : ∃ A' : Option Addr, A' = (if (c0 - 3) = 1 then As14 else Option.map (fun z => Addr.add z (1 * 1)) As14) := ⟨_, rfl⟩
 have hs23 := ro_sub (a := 1) (b := (subL ws 3 ws.length).length) hAs23 hs14 (by omega) (by omega)
 have ls23 := subL_len (xs := (subL ws 3 ws.length)) (a := 1) (b := (subL ws 3 ws.length).length) (by omega)
 refine FJ.ql rfl (q_sliceL (a := 1) (b := (subL ws 3 ws.length).length) rfl u_22 sz_2 (.t .z) hAs23 (.inr ⟨_, _, rfl, .c⟩) (.inl ⟨rfl, rfl⟩) (by omega) (by omega) (by omega)) ?_
 refine FJ.er (.s4 (.s4 .z)) (FJ.ql rfl (q_assign rfl (.t .z)) (FJ.nil (FJ.then_ (FJ.block ?_))))
 refine FJ.add (c := ownA kSl_130 [] [.slice none 0 0]) (fun w S => own_nil w S none) ?_
 refine FJ.loopi (γ := (Option Addr) × Nat × (List Int) × (Option Addr) × Nat × (List DEnt)) (fun ⟨Agz0, cgz0, q, Aq, cq, E⟩ => [(0, .slice Aq q.length cq), (4, .pointer (some ⟨g13, 0, none⟩)), (2, .pointer (some ⟨g2, 0, none⟩))]) (fun ⟨Agz0, cgz0, q, Aq, cq, E⟩ => [ownA kSl_130 E [.slice Agz0 E.length cgz0], rowA g13 30 5 1 [.int .i64 x7, .int .i64 x9, .int .i64 x11, .slice none 0 0, .slice Agz0 E.length cgz0], rowA g2 30 5 1 [.int .i64 0, .int .i64 0, .int .i64 0, .slice none 0 0, .slice none 0 0]]) (fun ⟨Agz0, cgz0, q, Aq, cq, E⟩ => kSl_2.ro w0 (FF w0 S0) q [.slice Aq q.length cq] ∧ (∀ v, v ∈ q → 0 ≤ v ∧ v ≤ 65535) ∧ (∀ y, Vd ws y → RI y E q) ∧ E.length + q.length ≤ 64) (fun ⟨Agz0, cgz0, q, Aq, cq, E⟩ => q.length) (none, 0, (subL (subL ws 3 ws.length) 1 ((subL ws 3 ws.length).length)), As23, ((c0 - 3) - 1), []) ⟨hs23, fun v hv => hwv v (mem_subL (mem_subL hv)), (by rw [subL_end, subL_end, List.drop_drop]; exact ri_0 hx7 (by omega)), (by simp only [List.length_nil]; omega)⟩ (.c .z (.c (.s4 (.s4 (.s (.s (.s .z))))) (.c (.s16 (.s4 (.s4 (.s (.s .z))))) .n))) (fun _ h => h.sel (.c .z (.c .z (.c .z .n)))) ?_
 rintro ⟨Agz0, cgz0, q, Aq, cq, E⟩ ⟨hq, hqv, hRI, hEq⟩
 obtain ⟨-, hlq, hmq⟩ := ro_hl hq
 refine FJ.seq (FJ.seq (FJ.region (FJ.ql rfl (q_move rfl (.t .z)) (FJ.ql rfl (q_len rfl u_22 (.t .z)) ?_))))
 refine FJ.ql rfl (q_gtr rfl (.t .z) .c) (FJ.nil (FJ.then_ ?_))
 refine FJ.condP (.t .z) (fun b27 => ?_) (fun b27 => ?_)
 refine FJ.skip (FJ.then_ (FJ.block (FJ.seq (FJ.seq ?_))))
 refine FJ.draw [rowA g13 30 5 1 [.int .i64 x7, .int .i64 x9, .int .i64 x11, .slice none 0 0, .slice Agz0 E.length cgz0], rowA g2 30 5 1 [.int .i64 0, .int .i64 0, .int .i64 0, .slice none 0 0, .slice none 0 0]] 12 (by kernel_rfl) ?_
 refine FJ.sch [(0, true), (1, true), (2, true), (3, true)] 8 #[true, true, true, true, false, false, false, false, false, false, false, false] (by rfl) (by kernel_rfl) ?_
 refine FJ.dq rfl rfl rfl (by decide) rfl (.s .z) (q_move rfl (.t (.s (.s (.s .z))))) (FJ.dq rfl rfl rfl (by decide) rfl (.s .z) (q_len rfl u_22 (.t .z)) (FJ.dq rfl rfl rfl (by decide) rfl (.s .z) (q_lss rfl (.t .z) .c) (FJ.dq rfl rfl rfl (by decide) rfl (.s .z) (q_move rfl (.t .z)) (FJ.schN ?_))))
 refine FJ.caseP .z (fun g28 => ?_) (fun g28 => ?_)
 refine FJ.sch [(4, true), (5, true), (6, true), (7, true), (8, true), (9, true), (10, true), (11, true)] 0 #[true, true, true, true, true, true, true, true, true, true, true, true] (by rfl) (by kernel_rfl) ?_
 refine FJ.dskip rfl rfl rfl .z rfl rfl (by decide) rfl (.s .z) ?_
 refine FJ.dskip rfl rfl rfl (.s .z) rfl rfl (by decide) rfl (.s .z) ?_
 refine FJ.dskip rfl rfl rfl (.s (.s .z)) rfl rfl (by decide) rfl (.s .z) ?_
 refine FJ.dskip rfl rfl rfl (.s (.s (.s .z))) rfl rfl (by decide) rfl (.s .z) ?_
 refine FJ.dskip rfl rfl rfl (.s4 .z) rfl rfl (by decide) rfl (.s .z) ?_
 refine FJ.dskip rfl rfl rfl (.s4 (.s .z)) rfl rfl (by decide) rfl (.s .z) ?_
 refine FJ.dskip rfl rfl rfl (.s4 (.s (.s .z))) rfl rfl (by decide) rfl (.s .z) ?_
 refine FJ.dq rfl rfl rfl (by decide) rfl (.s .z) (q_pickT rfl (.t (.s4 (.s (.s (.s .z))))) .c) (FJ.schN ?_)
 refine FJ.drawN (by kernel_rfl) ?_
 refine FJ.then_ ?_
 refine FJ.condT (.t .z) ?_
 refine FJ.seq (FJ.region ?_)
 refine FJ.ql rfl (q_build (ps := []) (cs := [.int .i64 0, .int .i64 0, .int .i64 0, .slice none 0 0, .slice none 0 0]) rfl bl_30 (by intro act hact; simp only [List.map_toArray, List.map_cons, List.map_nil]) rfl) ?_
 refine FJ.es (goes_list rfl) rfl (es_store (off := 0) (cs := [.int .i64 0, .int .i64 0, .int .i64 0, .slice none 0 0, .slice none 0 0]) rfl sz_30 (.t (.s16 (.s (.s .z)))) (.t .z) rfl (ones rfl) (.s (.s .z)) (Nat.le_of_ble_eq_true rfl) (.c .z (.c (.s .z) (.c (.s (.s .z)) (.c (.s (.s (.s .z))) (.c (.s (.s (.s (.s .z)))) .n)))))) ?_
 refine FJ.ql rfl (q_assign rfl .c) (FJ.nil (FJ.then_ (FJ.ret (FJ.thenR ?_))))
 refine FJ.inBR (FJ.thenR (FJ.inBR (FJ.thenR ?_)))
 refine FJ.add (c := ownA kSl_2 [] [.slice none 0 0]) (fun w S => own_nil w S none) ?_
 refine FJ.add (c := ownA kSl_130 [] [.slice none 0 0]) (fun w S => own_nil w S none) ?_
 refine FJ.doneS (res_ct (cs := [.int .i64 0, .int .i64 0, .int .i64 0, .slice none 0 0, .slice none 0 0]) rfl (.s16 (.s (.s (.s .z)))) ag_30 sz_30 (WS.rows0 (cs := [.int .i64 0, .int .i64 0, .int .i64 0, .slice none 0 0, .slice none 0 0]) (.s (.s .z)) (fun _ _ h => h)) .z) (.c (.s .z) (.c .z .n)) ?_
 exact ⟨(⟨0, 0, 0, [], []⟩ : DInode), false, _, _, ri_bad hRI (by omega) (.inl (by omega)), rfl, rfl⟩
 refine FJ.sch [(4, true), (5, true), (6, true), (7, true), (8, false), (9, true), (10, true), (11, true)] 0 #[true, true, true, true, true, true, true, true, true, true, true, true] (by rfl) (by kernel_rfl) ?_
 refine FJ.dqg rfl rfl rfl .z rfl (by decide) rfl (.s .z) (q_move rfl (.t (.s4 (.s (.s (.s .z)))))) ?_
 obtain ⟨ad31, hAad31, hrad31⟩ := (ro_he hq) (by omega)
 subst hAad31
 obtain ⟨x32, hx32⟩ := get_ex (xs := q) (j := 1) (by omega)
 obtain ⟨ece33, hre33, hFe33, hce33⟩ := hrad31.elem hx32
 obtain ⟨rfl, se33⟩ := hre33
 have hvx32 := hqv _ (mem_at hx32)
 refine FJ.dqg rfl rfl rfl (.s .z) rfl (by decide) rfl (.s .z) (q_indexAddr (j := 1) rfl u_22 sz_2 (.t .z) .c rfl (by omega)) ?_
 refine FJ.dqg rfl rfl rfl (.s (.s .z)) rfl (by decide) rfl (.s .z) (q_load rfl ag_2 (.t .z) (WS.el0 hFe33 hce33 rfl)) ?_
 refine FJ.dqg rfl rfl rfl (.s (.s (.s .z))) rfl (by decide) rfl (.s .z) (q_move rfl (.t (.s4 (.s4 (.s (.s .z)))))) ?_
 refine FJ.call (goes_schg rfl rfl rfl (.s4 .z)) rfl (by decide) rfl (c_call rfl Try.func145 rfl rfl (args1 (.t .z))) .n (fun w1 S1 hs tr => c_145 (tr.ctx hq)) ?_
 rintro _ _ ⟨rfl, rfl⟩
 refine FJ.cat .n ?_
 refine FJ.sk (.s .z) ?_
 refine FJ.dqg rfl rfl rfl (.s4 (.s .z)) rfl (by decide) rfl (.s .z) (q_sub (c := (q.length : Int) - 2) rfl (.t .z) .c (wr (by omega) (by omega) (by omega))) ?_
 refine FJ.dqg rfl rfl rfl (.s4 (.s (.s .z))) rfl (by decide) rfl (.s .z) (q_gtr rfl (.t (.s (.s (.s .z)))) (.t .z)) ?_
 refine FJ.dq rfl rfl rfl (by decide) rfl (.s .z) (q_pickF rfl (.t (.s4 (.s (.s (.s .z))))) (.t .z)) (FJ.schN ?_)
 refine FJ.drawN (by kernel_rfl) ?_
 refine FJ.then_ ?_
 refine FJ.condP (.t .z) (fun b34 => ?_) (fun b34 => ?_)
 refine FJ.seq (FJ.region ?_)
 refine FJ.ql rfl (q_build (ps := []) (cs := [.int .i64 0, .int .i64 0, .int .i64 0, .slice none 0 0, .slice none 0 0]) rfl bl_30 (by intro act hact; simp only [List.map_toArray, List.map_cons, List.map_nil]) rfl) ?_
 refine FJ.es (goes_list rfl) rfl (es_store (off := 0) (cs := [.int .i64 0, .int .i64 0, .int .i64 0, .slice none 0 0, .slice none 0 0]) rfl sz_30 (.t (.s16 (.s (.s .z)))) (.t .z) rfl (ones rfl) (.s (.s .z)) (Nat.le_of_ble_eq_true rfl) (.c .z (.c (.s .z) (.c (.s (.s .z)) (.c (.s (.s (.s .z))) (.c (.s (.s (.s (.s .z)))) .n)))))) ?_
 refine FJ.ql rfl (q_assign rfl .c) (FJ.nil (FJ.then_ (FJ.ret (FJ.thenR ?_))))
 refine FJ.inBR (FJ.thenR (FJ.inBR (FJ.thenR ?_)))
 refine FJ.add (c := ownA kSl_2 [] [.slice none 0 0]) (fun w S => own_nil w S none) ?_
 refine FJ.add (c := ownA kSl_130 [] [.slice none 0 0]) (fun w S => own_nil w S none) ?_
 refine FJ.doneS (res_ct (cs := [.int .i64 0, .int .i64 0, .int .i64 0, .slice none 0 0, .slice none 0 0]) rfl (.s16 (.s (.s (.s .z)))) ag_30 sz_30 (WS.rows0 (cs := [.int .i64 0, .int .i64 0, .int .i64 0, .slice none 0 0, .slice none 0 0]) (.s (.s .z)) (fun _ _ h => h)) .z) (.c (.s .z) (.c .z .n)) ?_
 exact ⟨(⟨0, 0, 0, [], []⟩ : DInode), false, _, _, ri_bad hRI (by omega) (by first | (exact .inl (by omega)) | (exact .inr ⟨_, hx32, by omega⟩)), rfl, rfl⟩
 refine FJ.skip (FJ.then_ (FJ.seq (FJ.region (FJ.ql rfl (q_move rfl (.t (.s4 (.s4 (.s4 (.s (.s (.s .z)))))))) ?_))))
 refine FJ.ql rfl (q_indexAddr (j := 1) rfl u_22 sz_2 (.t .z) .c rfl (by omega)) ?_
 refine FJ.ql rfl (q_load rfl ag_2 (.t .z) (WS.el0 hFe33 hce33 rfl)) ?_
 refine FJ.ql rfl (q_add (c := 2 + x32) rfl .c (.t .z) (wr (by omega) (by omega) (by omega))) ?_
 refine FJ.ql rfl (q_assign rfl (.t .z)) (FJ.nil (FJ.then_ (FJ.seq (FJ.region ?_))))
 refine FJ.ql rfl (q_move rfl (.t (.s16 (.s4 .z)))) ?_
 obtain ⟨x37, hx37⟩ := get_ex (xs := q) (j := 0) (by omega)
 obtain ⟨ece38, hre38, hFe38, hce38⟩ := hrad31.elem hx37
 obtain ⟨rfl, se38⟩ := hre38
 have hvx37 := hqv _ (mem_at hx37)
 refine FJ.ql rfl (q_indexAddr (j := 0) rfl u_22 sz_2 (.t .z) .c rfl (by omega)) ?_
 refine FJ.ql rfl (q_load rfl ag_2 (.t .z) (WS.el0 hFe38 hce38 rfl)) ?_
 refine FJ.ql rfl (q_build (ps := [(1, .int .i64 x37)]) (cs := [.string (⟨#[]⟩), .int .i64 x37]) rfl bl_130 (by intro act hact; simp only [List.map_toArray, List.map_cons, List.map_nil, (show Val _ _ _ from (.t .z)) act hact]) rfl) ?_
 refine FJ.e (goes_list rfl) rfl (by decide) rfl (e_alloc rfl z_130 rfl rfl) ?_
 rintro _ _ ⟨g39, rfl, rfl⟩
 refine FJ.es (goes_list rfl) rfl (es_store (off := 0) (cs := [.string (⟨#[]⟩), .int .i64 x37]) rfl sz_130 (.t .z) (.t (.s .z)) rfl (ones rfl) .z (Nat.le_of_ble_eq_true rfl) (.c .z (.c (.s .z) .n))) ?_
 refine FJ.nil (FJ.then_ (FJ.seq (FJ.seq (FJ.region ?_))))
 refine FJ.ql rfl (q_move rfl (.t (.s16 (.s4 (.s4 (.s .z)))))) (FJ.ql rfl (q_move rfl (.t (.s4 (.s (.s .z))))) ?_)
 refine FJ.eq .z (congrArg (Value.int .i64) (show 2 + x32 = ((Int.toNat (2 + x32) : Nat) : Int) by omega)) ?_
 obtain ⟨As40, hAs40⟩ : ∃ A' : Option Addr, A' = (if cq = 2 then (some ad31) else Option.map (fun z => Addr.add z (2 * 1)) (some ad31)) := ⟨_, rfl⟩
 have hs40 := ro_sub (a := 2) (b := Int.toNat (2 + x32)) hAs40 hq (by omega) (by omega)
 have ls40 := subL_len (xs := q) (a := 2) (b := Int.toNat (2 + x32)) (by omega)
 refine FJ.ql rfl (q_sliceL (a := 2) (b := Int.toNat (2 + x32)) rfl u_22 sz_2 (.t (.s .z)) hAs40 (.inr ⟨_, _, rfl, .c⟩) (.inr ⟨_, _, rfl, (.t .z)⟩) (by omega) (by omega) (by omega)) ?_
 refine FJ.ql rfl (q_len rfl u_22 (.t .z)) (FJ.ql rfl (q_move rfl .c) (FJ.nil (FJ.then_ (FJ.block ?_))))
 refine FJ.loopi (γ := Nat × ByteArray) (fun ⟨j, nm⟩ => [(66, .int .i64 (j : Int)), (65, .int .i64 ((subL q 2 (Int.toNat (2 + x32))).length : Int)), (64, .slice As40 (subL q 2 (Int.toNat (2 + x32))).length (cq - 2)), (6, .pointer (some ⟨g39, 0, none⟩)), (5, .int .i64 (2 + x32)), (0, .slice (some ad31) q.length cq), (4, .pointer (some ⟨g13, 0, none⟩)), (2, .pointer (some ⟨g2, 0, none⟩))]) (fun ⟨j, nm⟩ => [rowA g39 130 2 1 [.string nm, .int .i64 x37], ownA kSl_130 E [.slice Agz0 E.length cgz0], rowA g13 30 5 1 [.int .i64 x7, .int .i64 x9, .int .i64 x11, .slice none 0 0, .slice Agz0 E.length cgz0], rowA g2 30 5 1 [.int .i64 0, .int .i64 0, .int .i64 0, .slice none 0 0, .slice none 0 0]]) (fun ⟨j, nm⟩ => j ≤ (subL q 2 (Int.toNat (2 + x32))).length ∧ nm.size ≤ j ∧ NI ws E nm j) (fun ⟨j, nm⟩ => (subL q 2 (Int.toNat (2 + x32))).length - j) (0, ⟨#[]⟩) ⟨Nat.zero_le _, Nat.le_refl _, ni_0 hRI (by omega)⟩ (.c .z (.c (.s .z) (.c (.s (.s .z)) (.c (.s4 (.s .z)) (.c (.s4 (.s4 (.s (.s .z)))) (.c (.s16 (.s4 (.s4 (.s4 (.s (.s .z)))))) (.c (.s16 (.s4 (.s4 (.s4 (.s (.s (.s .z))))))) (.c (.s16 (.s16 .z)) .n)))))))) (fun _ h => h.sel (.c .z (.c .z (.c .z (.c .z .n))))) ?_
 rintro ⟨j, nm⟩ ⟨hj, hnj, hNI⟩
 refine FJ.seq (FJ.region (FJ.ql rfl (q_lss rfl (.t .z) (.t (.s .z))) (FJ.nil (FJ.then_ ?_))))
 refine FJ.seq ?_
 refine FJ.condP (.t .z) (fun b42 => ?_) (fun b42 => ?_)
 refine FJ.skip (FJ.then_ (FJ.seq (FJ.block (FJ.seq ?_))))
 refine FJ.region ?_
 obtain ⟨ad43, hAad43, hrad43⟩ := (ro_he hs40) (by omega)
 subst hAad43
 obtain ⟨x44, hx44⟩ := get_ex (xs := (subL q 2 (Int.toNat (2 + x32)))) (j := j) (by omega)
 obtain ⟨ece45, hre45, hFe45, hce45⟩ := hrad43.elem hx44
 obtain ⟨rfl, se45⟩ := hre45
 have hvx44 := hqv _ (mem_subL (mem_at hx44))
 refine FJ.ql rfl (q_indexAddr (j := j) rfl u_22 sz_2 (.t (.s (.s (.s .z)))) (.t (.s .z)) rfl (by omega)) ?_
 refine FJ.ql rfl (q_load rfl ag_2 (.t .z) (WS.el0 hFe45 hce45 rfl)) (FJ.ql rfl (q_assign rfl (.t .z)) (FJ.nil (FJ.then_ (FJ.seq ?_))))
 refine FJ.seq (FJ.region (FJ.ql rfl (q_move rfl (.t .z)) (FJ.ql rfl (q_gtr rfl (.t .z) .c) (FJ.nil ?_))))
 refine FJ.then_ ?_
 refine FJ.condP (.t .z) (fun b46 => ?_) (fun b46 => ?_)
 refine FJ.seq (FJ.region ?_)
 refine FJ.ql rfl (q_build (ps := []) (cs := [.int .i64 0, .int .i64 0, .int .i64 0, .slice none 0 0, .slice none 0 0]) rfl bl_30 (by intro act hact; simp only [List.map_toArray, List.map_cons, List.map_nil]) rfl) ?_
 refine FJ.es (goes_list rfl) rfl (es_store (off := 0) (cs := [.int .i64 0, .int .i64 0, .int .i64 0, .slice none 0 0, .slice none 0 0]) rfl sz_30 (.t (.s4 (.s4 (.s4 (.s (.s .z)))))) (.t .z) rfl (ones rfl) (.s (.s (.s .z))) (Nat.le_of_ble_eq_true rfl) (.c .z (.c (.s .z) (.c (.s (.s .z)) (.c (.s (.s (.s .z))) (.c (.s (.s (.s (.s .z)))) .n)))))) ?_
 refine FJ.ql rfl (q_assign rfl .c) (FJ.nil (FJ.then_ (FJ.ret (FJ.thenR ?_))))
 refine FJ.inBR (FJ.thenR (FJ.thenR (FJ.inBR (FJ.thenR ?_))))
 refine FJ.inBR (FJ.thenR (FJ.inBR (FJ.thenR ?_)))
 refine FJ.add (c := ownA kSl_2 [] [.slice none 0 0]) (fun w S => own_nil w S none) ?_
 refine FJ.add (c := ownA kSl_130 [] [.slice none 0 0]) (fun w S => own_nil w S none) ?_
 refine FJ.doneS (res_ct (cs := [.int .i64 0, .int .i64 0, .int .i64 0, .slice none 0 0, .slice none 0 0]) rfl (.s4 (.s4 (.s4 (.s (.s (.s .z)))))) ag_30 sz_30 (WS.rows0 (cs := [.int .i64 0, .int .i64 0, .int .i64 0, .slice none 0 0, .slice none 0 0]) (.s (.s .z)) (fun _ _ h => h)) .z) (.c (.s .z) (.c .z .n)) ?_
 exact ⟨(⟨0, 0, 0, [], []⟩ : DInode), false, _, _, ri_255 hRI (by omega) hx32 (j := j) (by omega) (subL_get hx44) (by omega), rfl, rfl⟩
 refine FJ.skip (FJ.then_ (FJ.region (FJ.ql rfl (q_fieldAddr rfl (.t (.s4 (.s4 (.s .z)))) (fun _ => fa_130_0 _ _)) (FJ.ql rfl (q_load rfl ag_9 (.t .z) (WS.row .z rfl)) ?_))))
 refine FJ.ql rfl (q_move rfl (.t (.s4 .z))) (FJ.ql rfl (q_conv (c := ((mbyte x44).toNat : Int)) rfl (.t .z) u_2 u_5 (mbyte_wrap _)) ?_)
 refine FJ.e (goes_list rfl) rfl (by decide) rfl (e_buildSliceL (ps := [(0, .int .u8 ((mbyte x44).toNat : Int))]) (cs := [.int .u8 ((mbyte x44).toNat : Int)]) rfl u_62 (inz inf_5) (by decide) (by intro act hact; simp only [List.map_toArray, List.map_cons, List.map_nil, (show Val _ _ _ from (.t .z)) act hact]) rfl rfl (by decide) rfl rfl) ?_
 rintro _ _ ⟨g49, rfl, rfl⟩
 refine FJ.turns (c := ownA kSl_5 ([(mbyte x44)] : (List UInt8)) [.slice (some ⟨g49, 0, none⟩) 1 1]) (.c .z .n) (fun w S h => lit_own (xs := ([(mbyte x44)] : (List UInt8))) h rfl (by simp) (by omega) (by omega)) ?_
 refine FJ.ql rfl (q_convBS (xs := ([(mbyte x44)] : (List UInt8))) rfl u_62 u_5 u_9 (.t .z) (WS.roown .z)) ?_
 refine FJ.ql rfl (q_sadd rfl (.t (.s4 .z)) (.t .z) (by first | (rw [bstr_size]; simp only [List.length_cons, List.length_nil]; omega) | (simp only [bstr_size, List.length_cons, List.length_nil]; omega))) ?_
 refine FJ.ql rfl (q_fieldAddr rfl (.t (.s16 .z)) (fun _ => fa_130_0 _ _)) ?_
 refine FJ.es (goes_list rfl) rfl (es_store (off := 0) (cs := [.string (nm ++ (bstr ([(mbyte x44)] : (List UInt8))))]) rfl sz_9 (.t .z) (.t (.s .z)) rfl (ones rfl) (.s .z) (Nat.le_of_ble_eq_true rfl) (.c .z .n)) ?_
 refine FJ.nil (FJ.inBN (FJ.then_ (FJ.region ?_)))
 refine FJ.ql rfl (q_add (c := ((j + 1 : Nat) : Int)) rfl (.t (.s4 (.s4 (.s4 (.s (.s .z)))))) .c (wr (by omega) (by omega) (by omega))) ?_
 refine FJ.er (.s4 (.s4 (.s4 (.s (.s (.s .z)))))) (FJ.ql rfl (q_move rfl (.t .z)) (FJ.nil ?_))
 refine FJ.again ((j + 1), nm ++ (bstr ([(mbyte x44)] : (List UInt8)))) ⟨by omega, ⟨(by rw [ByteArray.size_append, bstr_size]; simp only [List.length_cons, List.length_nil]; omega), ni_s hRI (by omega) hx32 (by omega) (subL_get hx44) hNI⟩⟩ (by first | omega | (dsimp only; omega)) (.c .z (.c (.s16 .z) (.c (.s16 (.s .z)) (.c (.s16 (.s (.s .z))) (.c (.s16 (.s (.s (.s .z)))) (.c (.s16 (.s4 .z)) (.c (.s16 (.s4 (.s .z))) (.c (.s16 (.s4 (.s (.s .z)))) .n)))))))) (fun _ h => h.sel (.c .z (.c (.s .z) (.c (.s .z) (.c (.s .z) .n)))))
 refine FJ.exit (FJ.thenE (FJ.thenE (FJ.inB (FJ.then_ ?_))))
 refine FJ.seq (FJ.region (FJ.ql rfl (q_fieldAddr rfl (.t (.s4 (.s (.s (.s .z))))) (fun _ => fa_30_4 _ _)) (FJ.ql rfl (q_load rfl ag_28 (.t .z) (WS.row (.s (.s .z)) rfl)) ?_)))
 refine FJ.ql rfl (q_loadA (cs := [.string nm, .int .i64 x37]) rfl ag_130 sz_130 (.t (.s4 (.s (.s .z)))) (WS.rows0 .z (fun i u h => by exact h))) ?_
 refine FJ.e (goes_list rfl) rfl (by decide) rfl (e_buildSliceL (ps := [(0, .agg #[.string nm, .int .i64 x37])]) (cs := [.string nm, .int .i64 x37]) rfl u_28 (inz inf_130) (by decide) (by intro act hact; simp only [List.map_toArray, List.map_cons, List.map_nil, (show Val _ _ _ from (.t .z)) act hact]) rfl rfl (by decide) rfl rfl) ?_
 rintro _ _ ⟨g51, rfl, rfl⟩
 refine FJ.turns (c := ownA kT_130 (⟨nm, x37⟩ : DEnt) [.string nm, .int .i64 x37]) .n (fun w S h => kT_130_omk (⟨nm, x37⟩ : DEnt) h (by first | assumption | omega | (dsimp only; omega))) ?_
 refine FJ.e (goes_list rfl) rfl (by decide) rfl (e_append1 rfl u_28 inf_130 rfl (.t (.s (.s .z))) (.t .z) (.c (.s (.s (.s .z))) (.c (.s .z) (.c .z .n))) (by first | omega | (simp only [List.length_append, List.length_cons, List.length_nil]; omega)) (by first | omega | (simp only [List.length_append, List.length_cons, List.length_nil]; omega))) ?_
 rintro _ _ rfl
 refine FJ.know (WS.oform .z) ?_
 rintro ⟨Ao53, co53, rfl, hlo53, hmo53, hbo53⟩
 refine FJ.ql rfl (q_fieldAddr rfl (.t (.s4 (.s4 (.s4 .z)))) (fun _ => fa_30_4 _ _)) ?_
 refine FJ.es (goes_list rfl) rfl (es_store (off := 4) (cs := [.slice Ao53 (E ++ [(⟨nm, x37⟩ : DEnt)]).length co53]) rfl sz_28 (.t .z) (.t (.s .z)) rfl (ones rfl) (.s (.s .z)) (Nat.le_of_ble_eq_true rfl) (.c (.s (.s (.s (.s .z)))) .n)) ?_
 refine FJ.nil (FJ.then_ (FJ.region (FJ.ql rfl (q_move rfl (.t (.s4 (.s4 (.s4 .z))))) (FJ.ql rfl (q_move rfl (.t (.s4 (.s4 (.s4 .z))))) ?_))))
 refine FJ.eq .z (congrArg (Value.int .i64) (show 2 + x32 = ((Int.toNat (2 + x32) : Nat) : Int) by omega)) ?_
 obtain ⟨As54, hAs54⟩ : ∃ A' : Option Addr, A' = (if cq = Int.toNat (2 + x32) then (some ad31) else Option.map (fun z => Addr.add z ((Int.toNat (2 + x32)) * 1)) (some ad31)) := ⟨_, rfl⟩
 have hs54 := ro_sub (a := Int.toNat (2 + x32)) (b := q.length) hAs54 hq (by omega) (by omega)
 have ls54 := subL_len (xs := q) (a := Int.toNat (2 + x32)) (b := q.length) (by omega)
 refine FJ.ql rfl (q_sliceL (a := Int.toNat (2 + x32)) (b := q.length) rfl u_22 sz_2 (.t (.s .z)) hAs54 (.inr ⟨_, _, rfl, (.t .z)⟩) (.inl ⟨rfl, rfl⟩) (by omega) (by omega) (by omega)) ?_
 refine FJ.er (.s4 (.s4 (.s4 (.s (.s (.s .z)))))) (FJ.ql rfl (q_assign rfl (.t .z)) (FJ.nil (FJ.inBN ?_)))
 refine FJ.again (Ao53, co53, (subL q (Int.toNat (2 + x32)) q.length), As54, (cq - Int.toNat (2 + x32)), E ++ [(⟨nm, x37⟩ : DEnt)]) ⟨hs54, fun v hv => hqv v (mem_subL hv), (by rw [subL_end]; exact ri_s hRI (by omega) hx37 hx32 (j := j) (fun _ _ => by omega) (by omega) hNI), by simp only [List.length_append, List.length_cons, List.length_nil]; omega⟩ (by first | omega | (dsimp only; omega)) (.c .z (.c (.s16 .z) (.c (.s16 (.s .z)) .n))) (fun _ h => h.sel (.c (.s .z) (.c .z (.c (.s .z) .n))))
 refine FJ.exit (FJ.thenE (FJ.thenE (FJ.inB (FJ.then_ ?_))))
 refine FJ.seq (FJ.region ?_)
 refine FJ.ql rfl (q_loadA (cs := [.int .i64 x7, .int .i64 x9, .int .i64 x11, .slice none 0 0, .slice Agz0 E.length cgz0]) rfl ag_30 sz_30 (.t (.s4 .z)) (WS.rows0 (.s .z) (fun i u h => by exact h))) ?_
 refine FJ.es (goes_list rfl) rfl (es_store (off := 0) (cs := [.int .i64 x7, .int .i64 x9, .int .i64 x11, .slice none 0 0, .slice Agz0 E.length cgz0]) rfl sz_30 (.t (.s4 (.s (.s .z)))) (.t .z) rfl (ones rfl) (.s (.s .z)) (Nat.le_of_ble_eq_true rfl) (.c .z (.c (.s .z) (.c (.s (.s .z)) (.c (.s (.s (.s .z))) (.c (.s (.s (.s (.s .z)))) .n)))))) ?_
 refine FJ.ql rfl (q_assign rfl .c) (FJ.nil (FJ.then_ (FJ.ret ?_)))
 refine FJ.add (c := ownA kSl_2 [] [.slice none 0 0]) (fun w S => own_nil w S none) ?_
 refine FJ.doneS (res_ct (cs := [.int .i64 x7, .int .i64 x9, .int .i64 x11, .slice none 0 0, .slice Agz0 E.length cgz0]) rfl (.s4 (.s (.s (.s .z)))) ag_30 sz_30 (WS.rows0 (cs := [.int .i64 x7, .int .i64 x9, .int .i64 x11, .slice none 0 0, .slice Agz0 E.length cgz0]) (.s .z) (fun _ _ h => h)) .z) (.c .z (.c (.s .z) .n)) ?_
 exact ⟨(⟨x7, x9, x11, [], E⟩ : DInode), true, _, _, ri_end hx7 hx9 hx11 (by omega) hRI (by omega), rfl, rfl⟩

set_option maxHeartbeats 1000000 in
set_option maxRecDepth 20000 in
theorem c_96 {w0 : World} {S0 : Bs} {ws : (List Int)} {v0 : Value} (h0 : kSl_2.ro w0 (FF w0 S0) ws [v0])  :
    Calls Try.prog 96 #[v0] w0 (TriPost w0 S0 (fun r l => ∃ v0 v1 : Value, r = .tuple #[.agg #[.int .i64 (unpR ws).inode.kind, .int .i64 (unpR ws).inode.links, .int .i64 (unpR ws).inode.size, v0, v1], .int .i64 (unpR ws).code] ∧ l = [ownA kSl_2 (unpR ws).inode.blocks [v0], ownA kSl_130 (unpR ws).inode.ents [v1]])) := by
 obtain ⟨A0, c0, rfl, hl0, hm0, hb0, he0⟩ := ro_form h0
 refine FJ.enter (N := 39) Try.func96 rfl rfl (by simp) [(0, .slice A0 ws.length c0)] (by simp) (l0 := []) trivial ?_
 refine FJ.seq (FJ.region ?_)
 refine FJ.e (goes_list rfl) rfl (by decide) rfl (e_alloc rfl z_30 rfl rfl) ?_
 rintro _ _ ⟨g2, rfl, rfl⟩
 refine FJ.ql rfl (q_assign rfl .c) (FJ.nil (FJ.then_ (FJ.seq (FJ.seq ?_))))
 refine FJ.region (FJ.ql rfl (q_move rfl (.t (.s (.s .z)))) ?_)
 refine FJ.call (goes_list rfl) rfl (by decide) rfl (c_call rfl Try.func130 rfl rfl (args1 (.t .z))) .n (fun w1 S1 hs tr => c_130 (tr.ctx h0)) ?_
 rintro _ _ ⟨rfl, rfl⟩
 refine FJ.cat .n ?_
 refine FJ.ql rfl (q_assign rfl (.t .z)) (FJ.nil (FJ.then_ (FJ.seq (FJ.region ?_))))
 refine FJ.ql rfl (q_move rfl (.t .z)) (FJ.ql rfl (q_neq rfl (.t .z) .c) (FJ.ql rfl (q_move rfl (.t .z)) ?_))
 refine FJ.caseN .z (fun g3 => ?_) (fun g3 => ?_)
 refine FJ.skipl rfl rfl .z rfl rfl (by decide) rfl ?_
 refine FJ.skipl rfl rfl (.s .z) rfl rfl (by decide) rfl ?_
 refine FJ.skipl rfl rfl (.s (.s .z)) rfl rfl (by decide) rfl ?_
 refine FJ.ql rfl (q_pickT rfl (.t (.s (.s (.s .z)))) .c) (FJ.nil (FJ.then_ ?_))
 refine FJ.condT (.t .z) ?_
 refine FJ.seq (FJ.region ?_)
 refine FJ.ql rfl (q_build (ps := []) (cs := [.int .i64 0, .int .i64 0, .int .i64 0, .slice none 0 0, .slice none 0 0]) rfl bl_30 (by intro act hact; simp only [List.map_toArray, List.map_cons, List.map_nil]) rfl) ?_
 refine FJ.ql rfl (q_move rfl (.t (.s4 (.s4 .z)))) ?_
 refine FJ.es (goes_list rfl) rfl (es_store (off := 0) (cs := [.int .i64 0, .int .i64 0, .int .i64 0, .slice none 0 0, .slice none 0 0]) rfl sz_30 (.t (.s4 (.s4 (.s4 (.s .z))))) (.t (.s .z)) rfl (ones rfl) .z (Nat.le_of_ble_eq_true rfl) (.c .z (.c (.s .z) (.c (.s (.s .z)) (.c (.s (.s (.s .z))) (.c (.s (.s (.s (.s .z)))) .n)))))) ?_
 refine FJ.er (.s4 (.s4 (.s4 .z))) (FJ.ql rfl (q_assign rfl (.t .z)) (FJ.nil (FJ.then_ (FJ.ret ?_))))
 refine FJ.thenR ?_
 refine FJ.add (c := ownA kSl_2 [] [.slice none 0 0]) (fun w S => own_nil w S none) ?_
 refine FJ.add (c := ownA kSl_130 [] [.slice none 0 0]) (fun w S => own_nil w S none) ?_
 refine FJ.doneS (res_ct (cs := [.int .i64 0, .int .i64 0, .int .i64 0, .slice none 0 0, .slice none 0 0]) rfl (.s4 (.s4 (.s4 (.s .z)))) ag_30 sz_30 (WS.rows0 (cs := [.int .i64 0, .int .i64 0, .int .i64 0, .slice none 0 0, .slice none 0 0]) (.s (.s .z)) (fun _ _ h => h)) .z) (.c (.s .z) (.c .z .n)) ?_
 first | (rw [unpR_f (by assumption)]; exact ⟨_, _, rfl, rfl⟩) | (have hc : wordsFault ws = 0 := (by omega); rw [unpR_e hc (by omega), hc]; exact ⟨_, _, rfl, rfl⟩)
 have hw : wordsFault ws = 0 := g3
 refine FJ.q (goes_listg rfl rfl .z) rfl (by decide) rfl (q_move rfl (.t (.s4 (.s4 .z)))) ?_
 refine FJ.q (goes_listg rfl rfl (.s .z)) rfl (by decide) rfl (q_len rfl u_22 (.t .z)) ?_
 refine FJ.q (goes_listg rfl rfl (.s (.s .z))) rfl (by decide) rfl (q_eql rfl (.t .z) .c) ?_
 refine FJ.ql rfl (q_pickF rfl (.t (.s (.s (.s .z)))) (.t .z)) (FJ.nil (FJ.then_ ?_))
 refine FJ.condP (.t .z) (fun b6 => ?_) (fun b6 => ?_)
 refine FJ.seq (FJ.region ?_)
 refine FJ.ql rfl (q_build (ps := []) (cs := [.int .i64 0, .int .i64 0, .int .i64 0, .slice none 0 0, .slice none 0 0]) rfl bl_30 (by intro act hact; simp only [List.map_toArray, List.map_cons, List.map_nil]) rfl) ?_
 refine FJ.ql rfl (q_move rfl (.t (.s4 (.s4 .z)))) ?_
 refine FJ.es (goes_list rfl) rfl (es_store (off := 0) (cs := [.int .i64 0, .int .i64 0, .int .i64 0, .slice none 0 0, .slice none 0 0]) rfl sz_30 (.t (.s4 (.s4 (.s4 (.s .z))))) (.t (.s .z)) rfl (ones rfl) .z (Nat.le_of_ble_eq_true rfl) (.c .z (.c (.s .z) (.c (.s (.s .z)) (.c (.s (.s (.s .z))) (.c (.s (.s (.s (.s .z)))) .n)))))) ?_
 refine FJ.er (.s4 (.s4 (.s4 .z))) (FJ.ql rfl (q_assign rfl (.t .z)) (FJ.nil (FJ.then_ (FJ.ret ?_))))
 refine FJ.thenR ?_
 refine FJ.add (c := ownA kSl_2 [] [.slice none 0 0]) (fun w S => own_nil w S none) ?_
 refine FJ.add (c := ownA kSl_130 [] [.slice none 0 0]) (fun w S => own_nil w S none) ?_
 refine FJ.doneS (res_ct (cs := [.int .i64 0, .int .i64 0, .int .i64 0, .slice none 0 0, .slice none 0 0]) rfl (.s4 (.s4 (.s4 (.s .z)))) ag_30 sz_30 (WS.rows0 (cs := [.int .i64 0, .int .i64 0, .int .i64 0, .slice none 0 0, .slice none 0 0]) (.s (.s .z)) (fun _ _ h => h)) .z) (.c (.s .z) (.c .z .n)) ?_
 first | (rw [unpR_f (by assumption)]; exact ⟨_, _, rfl, rfl⟩) | (have hc : wordsFault ws = 0 := (by omega); rw [unpR_e hc (by omega), hc]; exact ⟨_, _, rfl, rfl⟩)
 refine FJ.skip (FJ.then_ (FJ.seq (FJ.region (FJ.ql rfl (q_move rfl (.t (.s4 (.s4 (.s4 .z))))) ?_))))
 refine FJ.call (goes_list rfl) rfl (by decide) rfl (c_call rfl Try.func131 rfl rfl (args1 (.t .z))) .n (fun w1 S1 hs tr => c_131 (tr.ctx h0) (by assumption)) ?_
 rintro _ _ ⟨x9, ok10, v12, v14, hd11, rfl, rfl⟩
 refine FJ.cat (.c (.c .n)) ?_
 refine FJ.know (WS.oform .z) ?_
 rintro ⟨Ao16, co16, rfl, hlo16, hmo16, hbo16⟩
 refine FJ.know (WS.oform (.s .z)) ?_
 rintro ⟨Ao17, co17, rfl, hlo17, hmo17, hbo17⟩
 refine FJ.ql rfl (q_move rfl (.t .z)) (FJ.ql rfl (q_extract (v := .agg #[.int .i64 x9.kind, .int .i64 x9.links, .int .i64 x9.size, .slice Ao16 x9.blocks.length co16, .slice Ao17 x9.ents.length co17]) rfl (.t .z) rfl) (FJ.ql rfl (q_extract (v := .bool ok10) rfl (.t (.s .z)) rfl) ?_))
 refine FJ.e (goes_list rfl) rfl (by decide) rfl (e_alloc rfl z_30 rfl rfl) ?_
 rintro _ _ ⟨g18, rfl, rfl⟩
 refine FJ.es (goes_list rfl) rfl (es_store (off := 0) (cs := [.int .i64 x9.kind, .int .i64 x9.links, .int .i64 x9.size, .slice Ao16 x9.blocks.length co16, .slice Ao17 x9.ents.length co17]) rfl sz_30 (.t .z) (.t (.s (.s .z))) rfl (ones rfl) .z (Nat.le_of_ble_eq_true rfl) (.c .z (.c (.s .z) (.c (.s (.s .z)) (.c (.s (.s (.s .z))) (.c (.s (.s (.s (.s .z)))) .n)))))) ?_
 refine FJ.ql rfl (q_assign rfl (.t (.s .z))) (FJ.nil (FJ.then_ (FJ.seq (FJ.seq ?_))))
 refine FJ.region (FJ.ql rfl (q_move rfl (.t .z)) (FJ.ql rfl (q_not rfl (.t .z)) (FJ.ql rfl (q_move rfl (.t .z)) ?_)))
 refine FJ.caseB .z (fun g19 => ?_) (fun g19 => ?_)
 refine FJ.skipl rfl rfl .z rfl rfl (by decide) rfl ?_
 refine FJ.skipl rfl rfl (.s .z) rfl rfl (by decide) rfl ?_
 refine FJ.skipl rfl rfl (.s (.s .z)) rfl rfl (by decide) rfl ?_
 refine FJ.ql rfl (q_pickT rfl (.t (.s (.s (.s .z)))) .c) (FJ.ql rfl (q_move rfl (.t .z)) ?_)
 refine FJ.skipl rfl rfl .z rfl rfl (by decide) rfl ?_
 refine FJ.skipl rfl rfl (.s .z) rfl rfl (by decide) rfl ?_
 refine FJ.skipl rfl rfl (.s (.s .z)) rfl rfl (by decide) rfl ?_
 refine FJ.skipl rfl rfl (.s (.s (.s .z))) rfl rfl (by decide) rfl ?_
 refine FJ.skipl rfl rfl (.s4 .z) rfl rfl (by decide) rfl ?_
 refine FJ.ql rfl (q_pickT rfl (.t (.s4 (.s .z))) .c) (FJ.nil (FJ.then_ ?_))
 refine FJ.condT (.t .z) ?_
 refine FJ.seq (FJ.region ?_)
 refine FJ.ql rfl (q_build (ps := []) (cs := [.int .i64 0, .int .i64 0, .int .i64 0, .slice none 0 0, .slice none 0 0]) rfl bl_30 (by intro act hact; simp only [List.map_toArray, List.map_cons, List.map_nil]) rfl) ?_
 refine FJ.es (goes_list rfl) rfl (es_store (off := 0) (cs := [.int .i64 0, .int .i64 0, .int .i64 0, .slice none 0 0, .slice none 0 0]) rfl sz_30 (.t (.s16 (.s16 (.s .z)))) (.t .z) rfl (ones rfl) (.s (.s (.s .z))) (Nat.le_of_ble_eq_true rfl) (.c .z (.c (.s .z) (.c (.s (.s .z)) (.c (.s (.s (.s .z))) (.c (.s (.s (.s (.s .z)))) .n)))))) ?_
 refine FJ.er (.s16 (.s16 .z)) (FJ.ql rfl (q_assign rfl .c) (FJ.nil (FJ.then_ (FJ.ret ?_))))
 refine FJ.thenR ?_
 refine FJ.add (c := ownA kSl_2 [] [.slice none 0 0]) (fun w S => own_nil w S none) ?_
 refine FJ.add (c := ownA kSl_130 [] [.slice none 0 0]) (fun w S => own_nil w S none) ?_
 refine FJ.doneS (res_ct (cs := [.int .i64 0, .int .i64 0, .int .i64 0, .slice none 0 0, .slice none 0 0]) rfl (.s16 (.s16 (.s .z))) ag_30 sz_30 (WS.rows0 (cs := [.int .i64 0, .int .i64 0, .int .i64 0, .slice none 0 0, .slice none 0 0]) (.s (.s .z)) (fun _ _ h => h)) .z) (.c (.s .z) (.c .z .n)) ?_
 rw [unpR_n (by omega) (by omega) (unp_n hd11 (by rintro ⟨h1, h2, h3⟩; first | contradiction | (simp_all; done)))]; exact ⟨_, _, rfl, rfl⟩
 refine FJ.q (goes_listg rfl rfl .z) rfl (by decide) rfl (q_loadA (cs := [.int .i64 x9.kind, .int .i64 x9.links, .int .i64 x9.size, .slice Ao16 x9.blocks.length co16, .slice Ao17 x9.ents.length co17]) rfl ag_30 sz_30 (.t (.s4 .z)) (WS.rows0 .z (fun i u h => by exact h))) ?_
 refine FJ.call (goes_listg rfl rfl (.s .z)) rfl (by decide) rfl (c_call rfl Try.func70 rfl rfl (args1 (.t .z))) .n (fun w1 S1 hs tr => c_70 (kT_30_mk x9 (tr.own (.s .z)) (tr.own (.s (.s .z))))) ?_
 rintro _ _ ⟨rfl, rfl⟩
 refine FJ.cat .n ?_
 refine FJ.q (goes_listg rfl rfl (.s (.s .z))) rfl (by decide) rfl (q_neq rfl (.t .z) .c) ?_
 refine FJ.ql rfl (q_pickF rfl (.t (.s (.s (.s .z)))) (.t .z)) (FJ.ql rfl (q_move rfl (.t .z)) ?_)
 refine FJ.caseN .z (fun g22 => ?_) (fun g22 => ?_)
 refine FJ.skipl rfl rfl .z rfl rfl (by decide) rfl ?_
 refine FJ.skipl rfl rfl (.s .z) rfl rfl (by decide) rfl ?_
 refine FJ.skipl rfl rfl (.s (.s .z)) rfl rfl (by decide) rfl ?_
 refine FJ.skipl rfl rfl (.s (.s (.s .z))) rfl rfl (by decide) rfl ?_
 refine FJ.skipl rfl rfl (.s4 .z) rfl rfl (by decide) rfl ?_
 refine FJ.ql rfl (q_pickT rfl (.t (.s4 (.s .z))) .c) (FJ.nil (FJ.then_ ?_))
 refine FJ.condT (.t .z) ?_
 refine FJ.seq (FJ.region ?_)
 refine FJ.ql rfl (q_build (ps := []) (cs := [.int .i64 0, .int .i64 0, .int .i64 0, .slice none 0 0, .slice none 0 0]) rfl bl_30 (by intro act hact; simp only [List.map_toArray, List.map_cons, List.map_nil]) rfl) ?_
 refine FJ.es (goes_list rfl) rfl (es_store (off := 0) (cs := [.int .i64 0, .int .i64 0, .int .i64 0, .slice none 0 0, .slice none 0 0]) rfl sz_30 (.t (.s16 (.s16 (.s .z)))) (.t .z) rfl (ones rfl) (.s (.s (.s .z))) (Nat.le_of_ble_eq_true rfl) (.c .z (.c (.s .z) (.c (.s (.s .z)) (.c (.s (.s (.s .z))) (.c (.s (.s (.s (.s .z)))) .n)))))) ?_
 refine FJ.er (.s16 (.s16 .z)) (FJ.ql rfl (q_assign rfl .c) (FJ.nil (FJ.then_ (FJ.ret ?_))))
 refine FJ.thenR ?_
 refine FJ.add (c := ownA kSl_2 [] [.slice none 0 0]) (fun w S => own_nil w S none) ?_
 refine FJ.add (c := ownA kSl_130 [] [.slice none 0 0]) (fun w S => own_nil w S none) ?_
 refine FJ.doneS (res_ct (cs := [.int .i64 0, .int .i64 0, .int .i64 0, .slice none 0 0, .slice none 0 0]) rfl (.s16 (.s16 (.s .z))) ag_30 sz_30 (WS.rows0 (cs := [.int .i64 0, .int .i64 0, .int .i64 0, .slice none 0 0, .slice none 0 0]) (.s (.s .z)) (fun _ _ h => h)) .z) (.c (.s .z) (.c .z .n)) ?_
 rw [unpR_n (by omega) (by omega) (unp_n hd11 (by rintro ⟨h1, h2, h3⟩; first | contradiction | (simp_all; done)))]; exact ⟨_, _, rfl, rfl⟩
 refine FJ.q (goes_listg rfl rfl .z) rfl (by decide) rfl (q_loadA (cs := [.int .i64 x9.kind, .int .i64 x9.links, .int .i64 x9.size, .slice Ao16 x9.blocks.length co16, .slice Ao17 x9.ents.length co17]) rfl ag_30 sz_30 (.t (.s4 (.s4 (.s .z)))) (WS.rows0 .z (fun i u h => by exact h))) ?_
 refine FJ.call (goes_listg rfl rfl (.s .z)) rfl (by decide) rfl (c_call rfl Try.func88 rfl rfl (args1 (.t .z))) .n (fun w1 S1 hs tr => c_88 (kT_30_mk x9 (tr.own (.s .z)) (tr.own (.s (.s .z)))) (by assumption)) ?_
 rintro _ _ rfl
 refine FJ.cat (.c .n) ?_
 refine FJ.know (WS.oform .z) ?_
 rintro ⟨Ao26, co26, rfl, hlo26, hmo26, hbo26⟩
 refine FJ.q (goes_listg rfl rfl (.s (.s .z))) rfl (by decide) rfl (q_move rfl (.t (.s16 (.s4 (.s4 (.s4 (.s .z))))))) ?_
 refine FJ.call (goes_listg rfl rfl (.s (.s (.s .z)))) rfl (by decide) rfl (c_call rfl Try.func115 rfl rfl (args2 (.t (.s .z)) (.t .z))) .n (fun w1 S1 hs tr => c_115 (tr.own .z) (tr.ctx h0)) ?_
 rintro _ _ ⟨rfl, rfl⟩
 refine FJ.cat .n ?_
 refine FJ.q (goes_listg rfl rfl (.s4 .z)) rfl (by decide) rfl (q_not rfl (.t .z)) ?_
 refine FJ.ql rfl (q_pickF rfl (.t (.s4 (.s .z))) (.t .z)) (FJ.nil (FJ.then_ ?_))
 refine FJ.condN (.t .z) (fun b27 => ?_) (fun b27 => ?_)
 refine FJ.seq (FJ.region ?_)
 refine FJ.ql rfl (q_build (ps := []) (cs := [.int .i64 0, .int .i64 0, .int .i64 0, .slice none 0 0, .slice none 0 0]) rfl bl_30 (by intro act hact; simp only [List.map_toArray, List.map_cons, List.map_nil]) rfl) ?_
 refine FJ.es (goes_list rfl) rfl (es_store (off := 0) (cs := [.int .i64 0, .int .i64 0, .int .i64 0, .slice none 0 0, .slice none 0 0]) rfl sz_30 (.t (.s16 (.s16 (.s .z)))) (.t .z) rfl (ones rfl) (.s4 .z) (Nat.le_of_ble_eq_true rfl) (.c .z (.c (.s .z) (.c (.s (.s .z)) (.c (.s (.s (.s .z))) (.c (.s (.s (.s (.s .z)))) .n)))))) ?_
 refine FJ.er (.s16 (.s16 .z)) (FJ.ql rfl (q_assign rfl .c) (FJ.nil (FJ.then_ (FJ.ret ?_))))
 refine FJ.thenR ?_
 refine FJ.add (c := ownA kSl_2 [] [.slice none 0 0]) (fun w S => own_nil w S none) ?_
 refine FJ.add (c := ownA kSl_130 [] [.slice none 0 0]) (fun w S => own_nil w S none) ?_
 refine FJ.doneS (res_ct (cs := [.int .i64 0, .int .i64 0, .int .i64 0, .slice none 0 0, .slice none 0 0]) rfl (.s16 (.s16 (.s .z))) ag_30 sz_30 (WS.rows0 (cs := [.int .i64 0, .int .i64 0, .int .i64 0, .slice none 0 0, .slice none 0 0]) (.s (.s .z)) (fun _ _ h => h)) .z) (.c (.s .z) (.c .z .n)) ?_
 rw [unpR_n (by omega) (by omega) (unp_n hd11 (by rintro ⟨h1, h2, h3⟩; first | contradiction | (simp_all; done)))]; exact ⟨_, _, rfl, rfl⟩
 refine FJ.skip (FJ.then_ (FJ.seq (FJ.region ?_)))
 refine FJ.ql rfl (q_loadA (cs := [.int .i64 x9.kind, .int .i64 x9.links, .int .i64 x9.size, .slice Ao16 x9.blocks.length co16, .slice Ao17 x9.ents.length co17]) rfl ag_30 sz_30 (.t (.s4 (.s4 (.s4 (.s (.s (.s .z))))))) (WS.rows0 (.s .z) (fun i u h => by exact h))) ?_
 refine FJ.es (goes_list rfl) rfl (es_store (off := 0) (cs := [.int .i64 x9.kind, .int .i64 x9.links, .int .i64 x9.size, .slice Ao16 x9.blocks.length co16, .slice Ao17 x9.ents.length co17]) rfl sz_30 (.t (.s16 (.s16 (.s .z)))) (.t .z) rfl (ones rfl) (.s4 .z) (Nat.le_of_ble_eq_true rfl) (.c .z (.c (.s .z) (.c (.s (.s .z)) (.c (.s (.s (.s .z))) (.c (.s (.s (.s (.s .z)))) .n)))))) ?_
 refine FJ.er (.s16 (.s16 .z)) (FJ.ql rfl (q_assign rfl .c) (FJ.nil (FJ.then_ (FJ.ret ?_))))
 refine FJ.doneS (res_ct (cs := [.int .i64 x9.kind, .int .i64 x9.links, .int .i64 x9.size, .slice Ao16 x9.blocks.length co16, .slice Ao17 x9.ents.length co17]) rfl (.s16 (.s16 (.s .z))) ag_30 sz_30 (WS.rows0 (cs := [.int .i64 x9.kind, .int .i64 x9.links, .int .i64 x9.size, .slice Ao16 x9.blocks.length co16, .slice Ao17 x9.ents.length co17]) .z (fun _ _ h => h)) .z) (.c (.s (.s (.s .z))) (.c (.s (.s (.s .z))) .n)) ?_
 rw [unpR_y (by omega) (by omega) (unp_y hd11 (by assumption) (by assumption))]; exact ⟨_, _, rfl, rfl⟩

set_option maxHeartbeats 1000000 in
set_option maxRecDepth 20000 in
theorem c_43 {w0 : World} {S0 : Bs} {ws : (List Int)} {v0 : Value} (h0 : kSl_2.ro w0 (FF w0 S0) ws [v0])  :
    Calls Try.prog 43 #[v0] w0 (TriPost w0 S0 (RA_66 (unpR ws))) := by
 obtain ⟨A0, c0, rfl, hl0, hm0, hb0, he0⟩ := ro_form h0
 refine FJ.enter (N := 13) Try.func43 rfl rfl (by simp) [(0, .slice A0 ws.length c0)] (by simp) (l0 := []) trivial ?_
 refine FJ.seq (FJ.region ?_)
 refine FJ.e (goes_list rfl) rfl (by decide) rfl (e_alloc rfl z_66 rfl rfl) ?_
 rintro _ _ ⟨g2, rfl, rfl⟩
 refine FJ.nil (FJ.then_ (FJ.seq (FJ.region (FJ.ql rfl (q_move rfl (.t (.s .z))) ?_))))
 refine FJ.call (goes_list rfl) rfl (by decide) rfl (c_call rfl Try.func96 rfl rfl (args1 (.t .z))) .n (fun w1 S1 hs tr => c_96 (tr.ctx h0)) ?_
 rintro _ _ ⟨v3, v5, rfl, rfl⟩
 refine FJ.cat (.c (.c .n)) ?_
 refine FJ.know (WS.oform .z) ?_
 rintro ⟨Ao7, co7, rfl, hlo7, hmo7, hbo7⟩
 refine FJ.know (WS.oform (.s .z)) ?_
 rintro ⟨Ao8, co8, rfl, hlo8, hmo8, hbo8⟩
 refine FJ.ql rfl (q_move rfl (.t .z)) (FJ.ql rfl (q_extract (v := .agg #[.int .i64 ((unpR ws).inode.kind), .int .i64 ((unpR ws).inode.links), .int .i64 ((unpR ws).inode.size), .slice Ao7 ((unpR ws).inode.blocks).length co7, .slice Ao8 ((unpR ws).inode.ents).length co8]) rfl (.t .z) rfl) (FJ.ql rfl (q_extract (v := .int .i64 ((unpR ws).code)) rfl (.t (.s .z)) rfl) ?_))
 refine FJ.e (goes_list rfl) rfl (by decide) rfl (e_alloc rfl z_30 rfl rfl) ?_
 rintro _ _ ⟨g9, rfl, rfl⟩
 refine FJ.es (goes_list rfl) rfl (es_store (off := 0) (cs := [.int .i64 ((unpR ws).inode.kind), .int .i64 ((unpR ws).inode.links), .int .i64 ((unpR ws).inode.size), .slice Ao7 ((unpR ws).inode.blocks).length co7, .slice Ao8 ((unpR ws).inode.ents).length co8]) rfl sz_30 (.t .z) (.t (.s (.s .z))) rfl (ones rfl) .z (Nat.le_of_ble_eq_true rfl) (.c .z (.c (.s .z) (.c (.s (.s .z)) (.c (.s (.s (.s .z))) (.c (.s (.s (.s (.s .z)))) .n)))))) ?_
 refine FJ.ql rfl (q_assign rfl (.t (.s .z))) (FJ.nil (FJ.then_ (FJ.seq (FJ.region ?_))))
 refine FJ.ql rfl (q_move rfl (.t .z)) ?_
 refine FJ.ql rfl (q_loadA (cs := [.int .i64 ((unpR ws).inode.kind), .int .i64 ((unpR ws).inode.links), .int .i64 ((unpR ws).inode.size), .slice Ao7 ((unpR ws).inode.blocks).length co7, .slice Ao8 ((unpR ws).inode.ents).length co8]) rfl ag_30 sz_30 (.t (.s (.s .z))) (WS.rows0 .z (fun i u h => by exact h))) ?_
 refine FJ.ql rfl (q_build (ps := [(0, .int .i64 ((unpR ws).code)), (1, .agg #[.int .i64 ((unpR ws).inode.kind), .int .i64 ((unpR ws).inode.links), .int .i64 ((unpR ws).inode.size), .slice Ao7 ((unpR ws).inode.blocks).length co7, .slice Ao8 ((unpR ws).inode.ents).length co8])]) (cs := [.int .i64 ((unpR ws).code), .int .i64 ((unpR ws).inode.kind), .int .i64 ((unpR ws).inode.links), .int .i64 ((unpR ws).inode.size), .slice Ao7 ((unpR ws).inode.blocks).length co7, .slice Ao8 ((unpR ws).inode.ents).length co8]) rfl bl_66 (by intro act hact; simp only [List.map_toArray, List.map_cons, List.map_nil, (show Val _ _ _ from (.t (.s .z))) act hact, (show Val _ _ _ from (.t .z)) act hact]) rfl) ?_
 refine FJ.es (goes_list rfl) rfl (es_store (off := 0) (cs := [.int .i64 ((unpR ws).code), .int .i64 ((unpR ws).inode.kind), .int .i64 ((unpR ws).inode.links), .int .i64 ((unpR ws).inode.size), .slice Ao7 ((unpR ws).inode.blocks).length co7, .slice Ao8 ((unpR ws).inode.ents).length co8]) rfl sz_66 (.t (.s4 (.s4 (.s (.s .z))))) (.t .z) rfl (ones rfl) (.s (.s (.s .z))) (Nat.le_of_ble_eq_true rfl) (.c .z (.c (.s .z) (.c (.s (.s .z)) (.c (.s (.s (.s .z))) (.c (.s (.s (.s (.s .z)))) (.c (.s (.s (.s (.s (.s .z))))) .n))))))) ?_
 refine FJ.nil (FJ.then_ (FJ.ret ?_))
 refine FJ.doneS (resC (cs := [.int .i64 ((unpR ws).code), .int .i64 ((unpR ws).inode.kind), .int .i64 ((unpR ws).inode.links), .int .i64 ((unpR ws).inode.size), .slice Ao7 ((unpR ws).inode.blocks).length co7, .slice Ao8 ((unpR ws).inode.ents).length co8]) rfl (.s4 (.s4 (.s (.s .z)))) ag_66 sz_66 (WS.rows0 (cs := [.int .i64 ((unpR ws).code), .int .i64 ((unpR ws).inode.kind), .int .i64 ((unpR ws).inode.links), .int .i64 ((unpR ws).inode.size), .slice Ao7 ((unpR ws).inode.blocks).length co7, .slice Ao8 ((unpR ws).inode.ents).length co8]) .z (fun _ _ h => h))) (.c (.s (.s .z)) (.c (.s (.s .z)) .n)) ?_
 exact ⟨_, _, rfl, rfl⟩

set_option maxHeartbeats 1000000 in
set_option maxRecDepth 20000 in
theorem c_132 {w0 : World} {S0 : Bs} {ws : (List Int)} {v0 : Value} (h0 : kSl_2.ro w0 (FF w0 S0) ws [v0]) (a : Nat) (ha : a ≤ 1000000) :
    Calls Try.prog 132 #[v0, .int .i64 (a : Int)] w0 (TriPost w0 S0 (fun r l => r = .int .i64 (wd ws a) ∧ l = [])) := by
 obtain ⟨A0, c0, rfl, hl0, hm0, hb0, he0⟩ := ro_form h0
 refine FJ.enter (N := 13) Try.func132 rfl rfl (by simp) [(0, .slice A0 ws.length c0), (1, .int .i64 (a : Int))] (by simp) (l0 := []) trivial ?_
 refine FJ.seq (FJ.region (FJ.ql rfl (q_assign rfl .c) (FJ.nil (FJ.then_ ?_))))
 refine FJ.seq (FJ.seq (FJ.region (FJ.ql rfl (q_move rfl (.t (.s (.s .z)))) (FJ.ql rfl (q_move rfl (.t (.s (.s .z)))) ?_))))
 refine FJ.ql rfl (q_len rfl u_22 (.t .z)) (FJ.ql rfl (q_lss rfl (.t (.s (.s .z))) (.t .z)) (FJ.nil (FJ.then_ ?_)))
 refine FJ.condP (.t .z) (fun b2 => ?_) (fun b2 => ?_)
 refine FJ.seq (FJ.region (FJ.ql rfl (q_move rfl (.t (.s4 (.s .z)))) (FJ.ql rfl (q_move rfl (.t (.s4 (.s (.s (.s .z)))))) ?_)))
 obtain ⟨ad3, hAad3, hrad3⟩ := he0 (by omega)
 subst hAad3
 obtain ⟨x4, hx4⟩ := get_ex (xs := ws) (j := a) (by omega)
 obtain ⟨ece5, hre5, hFe5, hce5⟩ := hrad3.elem hx4
 obtain ⟨rfl, se5⟩ := hre5
 refine FJ.ql rfl (q_indexAddr (j := a) rfl u_22 sz_2 (.t (.s .z)) (.t .z) rfl (by omega)) ?_
 refine FJ.ql rfl (q_load rfl ag_2 (.t .z) (WS.el0 hFe5 hce5 rfl)) (FJ.er (.s4 (.s4 .z)) (FJ.ql rfl (q_assign rfl (.t .z)) (FJ.nil (FJ.then_ ?_))))
 refine FJ.ret (FJ.thenR ?_)
 refine FJ.doneS (res1 rfl .z) .n ?_
 exact ⟨by rw [wd_get hx4], rfl⟩
 refine FJ.skip (FJ.then_ (FJ.seq (FJ.region (FJ.er (.s4 .z) ?_))))
 refine FJ.ql rfl (q_assign rfl .c) (FJ.nil (FJ.then_ (FJ.ret ?_)))
 refine FJ.doneS (res1 rfl .z) .n ?_
 exact ⟨by rw [wd_out (by omega)], rfl⟩

set_option maxHeartbeats 1000000 in
set_option maxRecDepth 20000 in
theorem c_98 {w0 : World} {S0 : Bs} {ws : (List Int)} {v0 : Value} (h0 : kSl_2.ro w0 (FF w0 S0) ws [v0]) (hw : wordsFault ws = 0) :
    Calls Try.prog 98 #[v0] w0 (TriPost w0 S0 (fun r l => ∃ (x : DInode) (ok : Bool) (v0 v1 : Value), (ws.length = 0 → x = zeroI ∧ ok = true) ∧ (¬ ws.length = 0 → ok = decide (inodeFault x = 0 ∧ packI x = ws) ∧ Dec ws x true) ∧ r = .tuple #[.agg #[.int .i64 x.kind, .int .i64 x.links, .int .i64 x.size, v0, v1], .bool ok] ∧ l = [ownA kSl_2 x.blocks [v0], ownA kSl_130 x.ents [v1]])) := by
 obtain ⟨A0, c0, rfl, hl0, hm0, hb0, he0⟩ := ro_form h0
 have hwv := words_in hw
 have hwl := words_64 hw
 refine FJ.enter (N := 98) Try.func98 rfl rfl (by simp) [(0, .slice A0 ws.length c0)] (by simp) (l0 := []) trivial ?_
 refine FJ.seq (FJ.region ?_)
 refine FJ.e (goes_list rfl) rfl (by decide) rfl (e_alloc rfl z_30 rfl rfl) ?_
 rintro _ _ ⟨g2, rfl, rfl⟩
 refine FJ.ql rfl (q_assign rfl .c) (FJ.nil (FJ.then_ (FJ.seq (FJ.seq ?_))))
 refine FJ.region (FJ.ql rfl (q_move rfl (.t (.s (.s .z)))) (FJ.ql rfl (q_len rfl u_22 (.t .z)) (FJ.ql rfl (q_eql rfl (.t .z) .c) (FJ.nil ?_))))
 refine FJ.then_ ?_
 refine FJ.condP (.t .z) (fun b3 => ?_) (fun b3 => ?_)
 refine FJ.seq (FJ.region ?_)
 refine FJ.ql rfl (q_build (ps := []) (cs := [.int .i64 0, .int .i64 0, .int .i64 0, .slice none 0 0, .slice none 0 0]) rfl bl_30 (by intro act hact; simp only [List.map_toArray, List.map_cons, List.map_nil]) rfl) ?_
 refine FJ.es (goes_list rfl) rfl (es_store (off := 0) (cs := [.int .i64 0, .int .i64 0, .int .i64 0, .slice none 0 0, .slice none 0 0]) rfl sz_30 (.t (.s4 (.s .z))) (.t .z) rfl (ones rfl) .z (Nat.le_of_ble_eq_true rfl) (.c .z (.c (.s .z) (.c (.s (.s .z)) (.c (.s (.s (.s .z))) (.c (.s (.s (.s (.s .z)))) .n)))))) ?_
 refine FJ.er (.s4 .z) (FJ.ql rfl (q_assign rfl .c) (FJ.nil (FJ.then_ (FJ.ret ?_))))
 refine FJ.thenR ?_
 refine FJ.add (c := ownA kSl_2 [] [.slice none 0 0]) (fun w S => own_nil w S none) ?_
 refine FJ.add (c := ownA kSl_130 [] [.slice none 0 0]) (fun w S => own_nil w S none) ?_
 refine FJ.doneS (res_ct (cs := [.int .i64 0, .int .i64 0, .int .i64 0, .slice none 0 0, .slice none 0 0]) rfl (.s4 (.s .z)) ag_30 sz_30 (WS.rows0 (cs := [.int .i64 0, .int .i64 0, .int .i64 0, .slice none 0 0, .slice none 0 0]) (.s (.s .z)) (fun _ _ h => h)) .z) (.c (.s .z) (.c .z .n)) ?_
 exact ⟨(⟨0, 0, 0, [], []⟩ : DInode), true, _, _, fun _ => ⟨rfl, rfl⟩, fun h => absurd (by omega) h, rfl, rfl⟩
 refine FJ.skip (FJ.then_ (FJ.seq ?_))
 refine FJ.draw [rowA g2 30 5 1 [.int .i64 0, .int .i64 0, .int .i64 0, .slice none 0 0, .slice none 0 0]] 9 (by kernel_rfl) ?_
 refine FJ.sch [(0, true), (1, true), (2, true), (3, true), (5, true)] 5 #[true, true, true, true, false, true, false, false, false, false] (by rfl) (by kernel_rfl) ?_
 refine FJ.dq rfl rfl rfl (by decide) rfl .z (q_move rfl (.t (.s4 (.s .z)))) ?_
 obtain ⟨ad6, hAad6, hrad6⟩ := he0 (by omega)
 subst hAad6
 obtain ⟨x7, hx7⟩ := get_ex (xs := ws) (j := 0) (by omega)
 obtain ⟨ece8, hre8, hFe8, hce8⟩ := hrad6.elem hx7
 obtain ⟨rfl, se8⟩ := hre8
 have hvx7 := hwv _ (mem_at hx7)
 refine FJ.dq rfl rfl rfl (by decide) rfl .z (q_indexAddr (j := 0) rfl u_22 sz_2 (.t .z) .c rfl (by omega)) ?_
 refine FJ.dq rfl rfl rfl (by decide) rfl .z (q_load rfl ag_2 (.t .z) (WS.el0 hFe8 hce8 rfl)) (FJ.dq rfl rfl rfl (by decide) rfl .z (q_move rfl (.t (.s4 (.s4 .z)))) (FJ.dq rfl rfl rfl (by decide) rfl .z (q_move rfl (.t (.s4 (.s4 (.s .z))))) (FJ.schN ?_)))
 refine FJ.fork2 (i := 4) (j := 8) (by kernel_rfl) ?_ ?_
 refine FJ.call (goes_sch rfl rfl) rfl (by decide) rfl (c_call rfl Try.func132 rfl rfl (args2 (.t (.s .z)) .c)) .n (fun w1 S1 hs tr => c_132 (tr.ctx h0) 1 (by omega)) ?_
 rintro _ _ ⟨rfl, rfl⟩
 refine FJ.cat .n ?_
 refine FJ.sk .z ?_
 refine FJ.schN ?_
 refine FJ.sch [] 4 #[true, true, true, true, true, true, false, false, false, false] (by rfl) (by kernel_rfl) ?_
 refine FJ.schN ?_
 refine FJ.fork2 (i := 6) (j := 8) (by kernel_rfl) ?_ ?_
 refine FJ.call (goes_sch rfl rfl) rfl (by decide) rfl (c_call rfl Try.func132 rfl rfl (args2 (.t (.s .z)) .c)) .n (fun w1 S1 hs tr => c_132 (tr.ctx h0) 2 (by omega)) ?_
 rintro _ _ ⟨rfl, rfl⟩
 refine FJ.cat .n ?_
 refine FJ.sk .z ?_
 refine FJ.schN ?_
 refine FJ.sch [(7, true), (8, false), (9, false)] 0 #[true, true, true, true, true, true, true, true, true, true] (by rfl) (by kernel_rfl) ?_
 refine FJ.dq rfl rfl rfl (by decide) rfl .z (q_build (ps := [(0, .int .i64 x7), (1, .int .i64 (wd ws 1)), (2, .int .i64 (wd ws 2))]) (cs := [.int .i64 x7, .int .i64 (wd ws 1), .int .i64 (wd ws 2), .slice none 0 0, .slice none 0 0]) rfl bl_30 (by intro act hact; simp only [List.map_toArray, List.map_cons, List.map_nil, (show Val _ _ _ from (.t (.s4 .z))) act hact, (show Val _ _ _ from (.t (.s .z))) act hact, (show Val _ _ _ from (.t .z)) act hact]) rfl) ?_
 refine FJ.e (goes_sch rfl rfl) rfl (by decide) rfl (e_alloc rfl z_30 rfl rfl) ?_
 rintro _ _ ⟨g9, rfl, rfl⟩
 refine FJ.sk (.s .z) ?_
 refine FJ.es (goes_sch rfl rfl) rfl (es_store (off := 0) (cs := [.int .i64 x7, .int .i64 (wd ws 1), .int .i64 (wd ws 2), .slice none 0 0, .slice none 0 0]) rfl sz_30 (.t .z) (.t (.s .z)) rfl (ones rfl) .z (Nat.le_of_ble_eq_true rfl) (.c .z (.c (.s .z) (.c (.s (.s .z)) (.c (.s (.s (.s .z))) (.c (.s (.s (.s (.s .z)))) .n)))))) ?_
 refine FJ.sl rfl ?_
 refine FJ.schN ?_
 refine FJ.drawN (by kernel_rfl) ?_
 refine FJ.then_ (FJ.seq (FJ.seq (FJ.region (FJ.ql rfl (q_fieldAddr rfl (.t .z) (fun _ => fa_30_0 _ _)) ?_))))
 refine FJ.ql rfl (q_load rfl ag_2 (.t .z) (WS.row .z rfl)) (FJ.ql rfl (q_eql rfl (.t .z) .c) (FJ.ql rfl (q_move rfl (.t .z)) ?_))
 refine FJ.caseP .z (fun g10 => ?_) (fun g10 => ?_)
 refine FJ.q (goes_listg rfl rfl .z) rfl (by decide) rfl (q_move rfl (.t (.s16 (.s (.s .z))))) ?_
 refine FJ.q (goes_listg rfl rfl (.s .z)) rfl (by decide) rfl (q_len rfl u_22 (.t .z)) ?_
 refine FJ.q (goes_listg rfl rfl (.s (.s .z))) rfl (by decide) rfl (q_gtr rfl (.t .z) .c) ?_
 refine FJ.ql rfl (q_pickT rfl (.t (.s (.s (.s .z)))) (.t .z)) (FJ.nil (FJ.then_ ?_))
 refine FJ.condP (.t .z) (fun b11 => ?_) (fun b11 => ?_)
 refine FJ.region (FJ.ql rfl (q_move rfl (.t (.s16 (.s4 (.s (.s .z)))))) ?_)
 obtain ⟨As12, hAs12⟩ : ∃ A' : Option Addr, A' = (if c0 = 3 then (some ad6) else Option.map (fun z => Addr.add z (3 * 1)) (some ad6)) := ⟨_, rfl⟩
 have hs12 := ro_sub (a := 3) (b := ws.length) hAs12 h0 (by omega) (by omega)
 have ls12 := subL_len (xs := ws) (a := 3) (b := ws.length) (by omega)
 refine FJ.ql rfl (q_sliceL (a := 3) (b := ws.length) rfl u_22 sz_2 (.t .z) hAs12 (.inr ⟨_, _, rfl, .c⟩) (.inl ⟨rfl, rfl⟩) (by omega) (by omega) (by omega)) ?_
 refine FJ.call (goes_list rfl) rfl (by decide) rfl (c_call rfl Try.func133 rfl rfl (args1 (.t .z))) .n (fun w1 S1 hs tr => c_133 (tr.ctx hs12)) ?_
 rintro _ _ rfl
 refine FJ.cat (.c .n) ?_
 refine FJ.know (WS.oform .z) ?_
 rintro ⟨Ao15, co15, rfl, hlo15, hmo15, hbo15⟩
 refine FJ.ql rfl (q_fieldAddr rfl (.t (.s4 (.s4 (.s (.s (.s .z)))))) (fun _ => fa_30_3 _ _)) ?_
 refine FJ.es (goes_list rfl) rfl (es_store (off := 3) (cs := [.slice Ao15 (subL ws 3 ws.length).length co15]) rfl sz_22 (.t .z) (.t (.s .z)) rfl (ones rfl) (.s .z) (Nat.le_of_ble_eq_true rfl) (.c (.s (.s (.s .z))) .n)) ?_
 refine FJ.nil (FJ.then_ (FJ.seq (FJ.region (FJ.ql rfl (q_assign rfl .c) ?_))))
 refine FJ.nil (FJ.then_ (FJ.seq (FJ.seq (FJ.region ?_))))
 refine FJ.ql rfl (q_assign rfl .c) (FJ.nil (FJ.then_ (FJ.block ?_)))
 refine FJ.add (c := ownA kSl_130 [] [.slice none 0 0]) (fun w S => own_nil w S none) ?_
 refine FJ.loopi (γ := (Option Addr) × Nat × Nat × Nat × (List DEnt)) (fun ⟨Agz0, cgz0, p, k, E⟩ => [(6, .int .i64 (k : Int)), (5, .int .i64 (p : Int)), (4, .pointer (some ⟨g9, 0, none⟩)), (3, .bool false), (2, .pointer (some ⟨g2, 0, none⟩)), (0, .slice (some ad6) ws.length c0)]) (fun ⟨Agz0, cgz0, p, k, E⟩ => [ownA kSl_130 E [.slice Agz0 E.length cgz0], rowA g9 30 5 1 [.int .i64 x7, .int .i64 (wd ws 1), .int .i64 (wd ws 2), .slice Ao15 (subL ws 3 ws.length).length co15, .slice Agz0 E.length cgz0], ownA kSl_2 (subL ws 3 ws.length) [.slice Ao15 (subL ws 3 ws.length).length co15], rowA g2 30 5 1 [.int .i64 0, .int .i64 0, .int .i64 0, .slice none 0 0, .slice none 0 0]]) (fun ⟨Agz0, cgz0, p, k, E⟩ => E.length = k ∧ 4 + 2 * k ≤ p ∧ p ≤ ws.length + 14 ∧ (¬ x7 = 2 → E = []) ∧ (x7 = 2 → ∀ y, Vd ws y → RI y E (ws.drop p))) (fun ⟨Agz0, cgz0, p, k, E⟩ => ws.length - p) (none, 0, 4, 0, []) ⟨rfl, by omega, by omega, fun _ => rfl, ri_w0 hx7⟩ (.c .z (.c (.s .z) (.c (.s4 (.s4 (.s4 (.s (.s .z))))) (.c (.s16 (.s4 (.s4 (.s (.s .z))))) (.c (.s16 (.s4 (.s4 (.s (.s (.s .z)))))) (.c (.s16 (.s4 (.s4 (.s4 .z)))) .n)))))) (fun _ h => h.sel (.c .z (.c .z (.c .z (.c .z .n))))) ?_
 rintro ⟨Agz0, cgz0, p, k, E⟩ ⟨hEk, hkp, hpl, hE0, hRI⟩
 have hwp := wd_rng hwv (p + 1)
 refine FJ.seq (FJ.seq (FJ.region (FJ.ql rfl (q_fieldAddr rfl (.t (.s (.s .z))) (fun _ => fa_30_0 _ _)) (FJ.ql rfl (q_load rfl ag_2 (.t .z) (WS.row (.s .z) rfl)) ?_))))
 refine FJ.ql rfl (q_eql rfl (.t .z) .c) (FJ.ql rfl (q_move rfl (.t .z)) ?_)
 refine FJ.caseP .z (fun g17 => ?_) (fun g17 => ?_)
 exfalso; first | omega | contradiction
 refine FJ.skipl rfl rfl .z rfl rfl (by decide) rfl ?_
 refine FJ.skipl rfl rfl (.s .z) rfl rfl (by decide) rfl ?_
 refine FJ.skipl rfl rfl (.s (.s .z)) rfl rfl (by decide) rfl ?_
 refine FJ.skipl rfl rfl (.s (.s (.s .z))) rfl rfl (by decide) rfl ?_
 refine FJ.ql rfl (q_pickF rfl (.t (.s4 .z)) .c) (FJ.ql rfl (q_move rfl (.t .z)) ?_)
 refine FJ.skipl rfl rfl .z rfl rfl (by decide) rfl ?_
 refine FJ.skipl rfl rfl (.s .z) rfl rfl (by decide) rfl ?_
 refine FJ.skipl rfl rfl (.s (.s .z)) rfl rfl (by decide) rfl ?_
 refine FJ.skipl rfl rfl (.s (.s (.s .z))) rfl rfl (by decide) rfl ?_
 refine FJ.ql rfl (q_pickF rfl (.t (.s4 .z)) .c) (FJ.nil (FJ.then_ ?_))
 refine FJ.condF (.t .z) ?_
 refine FJ.exit (FJ.thenE (FJ.thenE (FJ.inB (FJ.then_ ?_))))
 refine FJ.seq ?_
 refine FJ.sel (.c .z (.c (.s .z) (.c (.s .z) (.c .z .n)))) ?_
 refine FJ.draw [rowA g9 30 5 1 [.int .i64 x7, .int .i64 (wd ws 1), .int .i64 (wd ws 2), .slice Ao15 (subL ws 3 ws.length).length co15, .slice Agz0 E.length cgz0]] 10 (by kernel_rfl) ?_
 refine FJ.sch [(0, true), (1, false), (2, true), (3, true)] 7 #[true, true, true, true, false, false, false, false, false, false, false] (by rfl) (by kernel_rfl) ?_
 refine FJ.dq rfl rfl rfl (by decide) rfl (.s (.s (.s .z))) (q_loadA (cs := [.int .i64 x7, .int .i64 (wd ws 1), .int .i64 (wd ws 2), .slice Ao15 (subL ws 3 ws.length).length co15, .slice Agz0 E.length cgz0]) rfl ag_30 sz_30 (.t (.s16 (.s .z))) (WS.rows0 .z (fun i u h => by exact h))) ?_
 refine FJ.call (goes_sch rfl rfl) rfl (by decide) rfl (c_call rfl Try.func69 rfl rfl (args1 (.t (.s16 (.s (.s .z)))))) .n (fun w1 S1 hs tr => c_69 (tr.ptr (.s (.s (.s .z))) (kT_30_mk (⟨x7, wd ws 1, wd ws 2, (subL ws 3 ws.length), E⟩ : DInode) (tr.own (.s .z)) (tr.own .z)))) ?_
 rintro _ _ ⟨rfl, rfl⟩
 refine FJ.cat .n ?_
 refine FJ.sk (.s (.s (.s .z))) ?_
 refine FJ.dq rfl rfl rfl (by decide) rfl (.s (.s (.s .z))) (q_eql rfl (.t .z) .c) (FJ.dq rfl rfl rfl (by decide) rfl (.s (.s (.s .z))) (q_move rfl (.t .z)) (FJ.schN ?_))
 refine FJ.caseP .z (fun g18 => ?_) (fun g18 => ?_)
 refine FJ.sch [(4, true), (6, true), (5, false), (7, false), (8, true), (9, false), (10, false)] 0 #[true, true, true, true, true, true, true, true, true, true, true] (by rfl) (by kernel_rfl) ?_
 refine FJ.dqg rfl rfl rfl .z rfl (by decide) rfl (.s (.s (.s .z))) (q_loadA (cs := [.int .i64 x7, .int .i64 (wd ws 1), .int .i64 (wd ws 2), .slice Ao15 (subL ws 3 ws.length).length co15, .slice Agz0 E.length cgz0]) rfl ag_30 sz_30 (.t (.s16 (.s4 (.s .z)))) (WS.rows0 .z (fun i u h => by exact h))) ?_
 refine FJ.dqg rfl rfl rfl (.s .z) rfl (by decide) rfl (.s (.s (.s .z))) (q_move rfl (.t (.s16 (.s4 (.s4 (.s .z)))))) ?_
 refine FJ.call (goes_schg rfl rfl rfl (.s (.s .z))) rfl (by decide) rfl (c_call rfl Try.func87 rfl rfl (args1 (.t (.s .z)))) .n (fun w1 S1 hs tr => c_87 (kT_30_mk (⟨x7, wd ws 1, wd ws 2, (subL ws 3 ws.length), E⟩ : DInode) (tr.own (.s .z)) (tr.own .z)) (by assumption)) ?_
 rintro _ _ rfl
 refine FJ.cat (.c .n) ?_
 refine FJ.know (WS.oform .z) ?_
 rintro ⟨Ao20, co20, rfl, hlo20, hmo20, hbo20⟩
 refine FJ.sk (.s4 .z) ?_
 refine FJ.call (goes_schg rfl rfl rfl (.s (.s (.s .z)))) rfl (by decide) rfl (c_call rfl Try.func113 rfl rfl (args2 (.t .z) (.t (.s .z)))) .n (fun w1 S1 hs tr => c_113 (tr.own .z) (tr.ctx h0)) ?_
 rintro _ _ ⟨rfl, rfl⟩
 refine FJ.cat .n ?_
 refine FJ.sk (.s4 .z) ?_
 refine FJ.dq rfl rfl rfl (by decide) rfl (.s4 .z) (q_pickT rfl (.t (.s4 .z)) (.t .z)) ?_
 refine FJ.es (goes_sch rfl rfl) rfl (es_store (off := 0) (cs := [.int .i64 x7, .int .i64 (wd ws 1), .int .i64 (wd ws 2), .slice Ao15 (subL ws 3 ws.length).length co15, .slice Agz0 E.length cgz0]) rfl sz_30 (.t (.s16 (.s4 (.s4 (.s4 .z))))) (.t (.s4 (.s4 .z))) rfl (ones rfl) (.s (.s (.s .z))) (Nat.le_of_ble_eq_true rfl) (.c .z (.c (.s .z) (.c (.s (.s .z)) (.c (.s (.s (.s .z))) (.c (.s (.s (.s (.s .z)))) .n)))))) ?_
 refine FJ.sk (.s4 .z) ?_
 refine FJ.er (.s16 (.s4 (.s4 (.s (.s (.s .z)))))) ?_
 refine FJ.q (goes_sch rfl rfl) rfl (by decide) rfl (q_assign rfl (.t .z)) ?_
 refine FJ.sl rfl ?_
 refine FJ.schN ?_
 refine FJ.drawN (by kernel_rfl) ?_
 refine FJ.then_ (FJ.ret ?_)
 refine FJ.doneS (res_ct (cs := [.int .i64 x7, .int .i64 (wd ws 1), .int .i64 (wd ws 2), .slice Ao15 (subL ws 3 ws.length).length co15, .slice Agz0 E.length cgz0]) rfl (.s16 (.s4 (.s4 (.s4 .z)))) ag_30 sz_30 (WS.rows0 (cs := [.int .i64 x7, .int .i64 (wd ws 1), .int .i64 (wd ws 2), .slice Ao15 (subL ws 3 ws.length).length co15, .slice Agz0 E.length cgz0]) .z (fun _ _ h => h)) .z) (.c (.s (.s (.s .z))) (.c (.s (.s .z)) .n)) ?_
 exact ⟨(⟨x7, wd ws 1, wd ws 2, (subL ws 3 ws.length), E⟩ : DInode), decide (packI (⟨x7, wd ws 1, wd ws 2, (subL ws 3 ws.length), E⟩ : DInode) = ws), _, _, fun h => absurd h (by omega), fun _ => ⟨(by first | exact decide_eq_true ⟨by assumption, by assumption⟩ | (symm; apply decide_eq_false; rintro ⟨h1, h2⟩; first | contradiction | (simp_all; done)) | (simp_all; done)), by first | (exact sdec_k hx7 (by assumption) (hRI (by assumption)) (by omega)) | (have hE := hE0 (by assumption); subst hE; rw [subL_end]; exact sdec_1 hx7 (by assumption)) | (have hE := hE0 (by omega); subst hE; exact sdec_n hx7 (by omega) (by rintro ⟨h1, h2⟩; first | contradiction | omega))⟩, rfl, rfl⟩
 refine FJ.sch [(4, true), (5, true), (6, true), (7, true), (8, true), (9, false), (10, false)] 0 #[true, true, true, true, true, true, true, true, true, true, true] (by rfl) (by kernel_rfl) ?_
 refine FJ.dskip rfl rfl rfl .z rfl rfl (by decide) rfl (.s (.s (.s .z))) ?_
 refine FJ.dskip rfl rfl rfl (.s .z) rfl rfl (by decide) rfl (.s (.s (.s .z))) ?_
 refine FJ.dskip rfl rfl rfl (.s (.s .z)) rfl rfl (by decide) rfl (.s (.s (.s .z))) ?_
 refine FJ.dskip rfl rfl rfl (.s (.s (.s .z))) rfl rfl (by decide) rfl (.s (.s (.s .z))) ?_
 refine FJ.dq rfl rfl rfl (by decide) rfl (.s (.s (.s .z))) (q_pickF rfl (.t (.s4 .z)) .c) ?_
 refine FJ.es (goes_sch rfl rfl) rfl (es_store (off := 0) (cs := [.int .i64 x7, .int .i64 (wd ws 1), .int .i64 (wd ws 2), .slice Ao15 (subL ws 3 ws.length).length co15, .slice Agz0 E.length cgz0]) rfl sz_30 (.t (.s16 (.s4 (.s4 (.s4 .z))))) (.t (.s4 (.s4 .z))) rfl (ones rfl) (.s (.s .z)) (Nat.le_of_ble_eq_true rfl) (.c .z (.c (.s .z) (.c (.s (.s .z)) (.c (.s (.s (.s .z))) (.c (.s (.s (.s (.s .z)))) .n)))))) ?_
 refine FJ.sk (.s (.s (.s .z))) ?_
 refine FJ.er (.s16 (.s4 (.s4 (.s (.s (.s .z)))))) ?_
 refine FJ.q (goes_sch rfl rfl) rfl (by decide) rfl (q_assign rfl (.t .z)) ?_
 refine FJ.sl rfl ?_
 refine FJ.schN ?_
 refine FJ.drawN (by kernel_rfl) ?_
 refine FJ.then_ (FJ.ret ?_)
 refine FJ.doneS (res_ct (cs := [.int .i64 x7, .int .i64 (wd ws 1), .int .i64 (wd ws 2), .slice Ao15 (subL ws 3 ws.length).length co15, .slice Agz0 E.length cgz0]) rfl (.s16 (.s4 (.s4 (.s4 .z)))) ag_30 sz_30 (WS.rows0 (cs := [.int .i64 x7, .int .i64 (wd ws 1), .int .i64 (wd ws 2), .slice Ao15 (subL ws 3 ws.length).length co15, .slice Agz0 E.length cgz0]) .z (fun _ _ h => h)) .z) (.c (.s (.s .z)) (.c (.s .z) .n)) ?_
 exact ⟨(⟨x7, wd ws 1, wd ws 2, (subL ws 3 ws.length), E⟩ : DInode), false, _, _, fun h => absurd h (by omega), fun _ => ⟨(by first | exact decide_eq_true ⟨by assumption, by assumption⟩ | (symm; apply decide_eq_false; rintro ⟨h1, h2⟩; first | contradiction | (simp_all; done)) | (simp_all; done)), by first | (exact sdec_k hx7 (by assumption) (hRI (by assumption)) (by omega)) | (have hE := hE0 (by assumption); subst hE; rw [subL_end]; exact sdec_1 hx7 (by assumption)) | (have hE := hE0 (by omega); subst hE; exact sdec_n hx7 (by omega) (by rintro ⟨h1, h2⟩; first | contradiction | omega))⟩, rfl, rfl⟩
 refine FJ.skip (FJ.then_ (FJ.seq (FJ.region (FJ.ql rfl (q_assign rfl .c) ?_))))
 refine FJ.nil (FJ.then_ (FJ.seq (FJ.seq (FJ.region ?_))))
 refine FJ.ql rfl (q_assign rfl .c) (FJ.nil (FJ.then_ (FJ.block ?_)))
 refine FJ.add (c := ownA kSl_130 [] [.slice none 0 0]) (fun w S => own_nil w S none) ?_
 refine FJ.loopi (γ := (Option Addr) × Nat × Nat × Nat × (List DEnt)) (fun ⟨Agz0, cgz0, p, k, E⟩ => [(6, .int .i64 (k : Int)), (5, .int .i64 (p : Int)), (4, .pointer (some ⟨g9, 0, none⟩)), (3, .bool false), (2, .pointer (some ⟨g2, 0, none⟩)), (0, .slice (some ad6) ws.length c0)]) (fun ⟨Agz0, cgz0, p, k, E⟩ => [ownA kSl_130 E [.slice Agz0 E.length cgz0], rowA g9 30 5 1 [.int .i64 x7, .int .i64 (wd ws 1), .int .i64 (wd ws 2), .slice none 0 0, .slice Agz0 E.length cgz0], rowA g2 30 5 1 [.int .i64 0, .int .i64 0, .int .i64 0, .slice none 0 0, .slice none 0 0]]) (fun ⟨Agz0, cgz0, p, k, E⟩ => E.length = k ∧ 4 + 2 * k ≤ p ∧ p ≤ ws.length + 14 ∧ (¬ x7 = 2 → E = []) ∧ (x7 = 2 → ∀ y, Vd ws y → RI y E (ws.drop p))) (fun ⟨Agz0, cgz0, p, k, E⟩ => ws.length - p) (none, 0, 4, 0, []) ⟨rfl, by omega, by omega, fun _ => rfl, ri_w0 hx7⟩ (.c .z (.c (.s .z) (.c (.s4 (.s4 (.s (.s .z)))) (.c (.s16 (.s4 (.s (.s .z)))) (.c (.s16 (.s4 (.s (.s (.s .z))))) (.c (.s16 (.s4 (.s4 .z))) .n)))))) (fun _ h => h.sel (.c .z (.c .z (.c .z .n)))) ?_
 rintro ⟨Agz0, cgz0, p, k, E⟩ ⟨hEk, hkp, hpl, hE0, hRI⟩
 have hwp := wd_rng hwv (p + 1)
 refine FJ.seq (FJ.seq (FJ.region (FJ.ql rfl (q_fieldAddr rfl (.t (.s (.s .z))) (fun _ => fa_30_0 _ _)) (FJ.ql rfl (q_load rfl ag_2 (.t .z) (WS.row (.s .z) rfl)) ?_))))
 refine FJ.ql rfl (q_eql rfl (.t .z) .c) (FJ.ql rfl (q_move rfl (.t .z)) ?_)
 refine FJ.caseP .z (fun g22 => ?_) (fun g22 => ?_)
 exfalso; first | omega | contradiction
 refine FJ.skipl rfl rfl .z rfl rfl (by decide) rfl ?_
 refine FJ.skipl rfl rfl (.s .z) rfl rfl (by decide) rfl ?_
 refine FJ.skipl rfl rfl (.s (.s .z)) rfl rfl (by decide) rfl ?_
 refine FJ.skipl rfl rfl (.s (.s (.s .z))) rfl rfl (by decide) rfl ?_
 refine FJ.ql rfl (q_pickF rfl (.t (.s4 .z)) .c) (FJ.ql rfl (q_move rfl (.t .z)) ?_)
 refine FJ.skipl rfl rfl .z rfl rfl (by decide) rfl ?_
 refine FJ.skipl rfl rfl (.s .z) rfl rfl (by decide) rfl ?_
 refine FJ.skipl rfl rfl (.s (.s .z)) rfl rfl (by decide) rfl ?_
 refine FJ.skipl rfl rfl (.s (.s (.s .z))) rfl rfl (by decide) rfl ?_
 refine FJ.ql rfl (q_pickF rfl (.t (.s4 .z)) .c) (FJ.nil (FJ.then_ ?_))
 refine FJ.condF (.t .z) ?_
 refine FJ.exit (FJ.thenE (FJ.thenE (FJ.inB (FJ.then_ ?_))))
 refine FJ.seq ?_
 refine FJ.sel (.c .z (.c (.s .z) (.c .z .n))) ?_
 refine FJ.draw [rowA g9 30 5 1 [.int .i64 x7, .int .i64 (wd ws 1), .int .i64 (wd ws 2), .slice none 0 0, .slice Agz0 E.length cgz0]] 10 (by kernel_rfl) ?_
 refine FJ.sch [(0, true), (1, false), (2, true), (3, true)] 7 #[true, true, true, true, false, false, false, false, false, false, false] (by rfl) (by kernel_rfl) ?_
 refine FJ.dq rfl rfl rfl (by decide) rfl (.s (.s .z)) (q_loadA (cs := [.int .i64 x7, .int .i64 (wd ws 1), .int .i64 (wd ws 2), .slice none 0 0, .slice Agz0 E.length cgz0]) rfl ag_30 sz_30 (.t (.s16 (.s .z))) (WS.rows0 .z (fun i u h => by exact h))) ?_
 refine FJ.call (goes_sch rfl rfl) rfl (by decide) rfl (c_call rfl Try.func69 rfl rfl (args1 (.t (.s16 (.s (.s .z)))))) .n (fun w1 S1 hs tr => c_69 (tr.ptr (.s (.s .z)) (kT_30_mk (⟨x7, wd ws 1, wd ws 2, [], E⟩ : DInode) ro_nil (tr.own .z)))) ?_
 rintro _ _ ⟨rfl, rfl⟩
 refine FJ.cat .n ?_
 refine FJ.sk (.s (.s .z)) ?_
 refine FJ.dq rfl rfl rfl (by decide) rfl (.s (.s .z)) (q_eql rfl (.t .z) .c) (FJ.dq rfl rfl rfl (by decide) rfl (.s (.s .z)) (q_move rfl (.t .z)) (FJ.schN ?_))
 refine FJ.caseP .z (fun g23 => ?_) (fun g23 => ?_)
 refine FJ.sch [(4, true), (6, true), (5, false), (7, false), (8, true), (9, false), (10, false)] 0 #[true, true, true, true, true, true, true, true, true, true, true] (by rfl) (by kernel_rfl) ?_
 refine FJ.dqg rfl rfl rfl .z rfl (by decide) rfl (.s (.s .z)) (q_loadA (cs := [.int .i64 x7, .int .i64 (wd ws 1), .int .i64 (wd ws 2), .slice none 0 0, .slice Agz0 E.length cgz0]) rfl ag_30 sz_30 (.t (.s16 (.s4 (.s .z)))) (WS.rows0 .z (fun i u h => by exact h))) ?_
 refine FJ.dqg rfl rfl rfl (.s .z) rfl (by decide) rfl (.s (.s .z)) (q_move rfl (.t (.s16 (.s4 (.s4 (.s .z)))))) ?_
 refine FJ.call (goes_schg rfl rfl rfl (.s (.s .z))) rfl (by decide) rfl (c_call rfl Try.func87 rfl rfl (args1 (.t (.s .z)))) .n (fun w1 S1 hs tr => c_87 (kT_30_mk (⟨x7, wd ws 1, wd ws 2, [], E⟩ : DInode) ro_nil (tr.own .z)) (by assumption)) ?_
 rintro _ _ rfl
 refine FJ.cat (.c .n) ?_
 refine FJ.know (WS.oform .z) ?_
 rintro ⟨Ao25, co25, rfl, hlo25, hmo25, hbo25⟩
 refine FJ.sk (.s (.s (.s .z))) ?_
 refine FJ.call (goes_schg rfl rfl rfl (.s (.s (.s .z)))) rfl (by decide) rfl (c_call rfl Try.func113 rfl rfl (args2 (.t .z) (.t (.s .z)))) .n (fun w1 S1 hs tr => c_113 (tr.own .z) (tr.ctx h0)) ?_
 rintro _ _ ⟨rfl, rfl⟩
 refine FJ.cat .n ?_
 refine FJ.sk (.s (.s (.s .z))) ?_
 refine FJ.dq rfl rfl rfl (by decide) rfl (.s (.s (.s .z))) (q_pickT rfl (.t (.s4 .z)) (.t .z)) ?_
 refine FJ.es (goes_sch rfl rfl) rfl (es_store (off := 0) (cs := [.int .i64 x7, .int .i64 (wd ws 1), .int .i64 (wd ws 2), .slice none 0 0, .slice Agz0 E.length cgz0]) rfl sz_30 (.t (.s16 (.s4 (.s4 (.s4 .z))))) (.t (.s4 (.s4 .z))) rfl (ones rfl) (.s (.s .z)) (Nat.le_of_ble_eq_true rfl) (.c .z (.c (.s .z) (.c (.s (.s .z)) (.c (.s (.s (.s .z))) (.c (.s (.s (.s (.s .z)))) .n)))))) ?_
 refine FJ.sk (.s (.s (.s .z))) ?_
 refine FJ.er (.s16 (.s4 (.s4 (.s (.s (.s .z)))))) ?_
 refine FJ.q (goes_sch rfl rfl) rfl (by decide) rfl (q_assign rfl (.t .z)) ?_
 refine FJ.sl rfl ?_
 refine FJ.schN ?_
 refine FJ.drawN (by kernel_rfl) ?_
 refine FJ.then_ (FJ.ret ?_)
 refine FJ.add (c := ownA kSl_2 [] [.slice none 0 0]) (fun w S => own_nil w S none) ?_
 refine FJ.doneS (res_ct (cs := [.int .i64 x7, .int .i64 (wd ws 1), .int .i64 (wd ws 2), .slice none 0 0, .slice Agz0 E.length cgz0]) rfl (.s16 (.s4 (.s4 (.s4 .z)))) ag_30 sz_30 (WS.rows0 (cs := [.int .i64 x7, .int .i64 (wd ws 1), .int .i64 (wd ws 2), .slice none 0 0, .slice Agz0 E.length cgz0]) (.s .z) (fun _ _ h => h)) .z) (.c .z (.c (.s (.s .z)) .n)) ?_
 exact ⟨(⟨x7, wd ws 1, wd ws 2, [], E⟩ : DInode), decide (packI (⟨x7, wd ws 1, wd ws 2, [], E⟩ : DInode) = ws), _, _, fun h => absurd h (by omega), fun _ => ⟨(by first | exact decide_eq_true ⟨by assumption, by assumption⟩ | (symm; apply decide_eq_false; rintro ⟨h1, h2⟩; first | contradiction | (simp_all; done)) | (simp_all; done)), by first | (exact sdec_k hx7 (by assumption) (hRI (by assumption)) (by omega)) | (have hE := hE0 (by assumption); subst hE; rw [subL_end]; exact sdec_1 hx7 (by assumption)) | (have hE := hE0 (by omega); subst hE; exact sdec_n hx7 (by omega) (by rintro ⟨h1, h2⟩; first | contradiction | omega))⟩, rfl, rfl⟩
 refine FJ.sch [(4, true), (5, true), (6, true), (7, true), (8, true), (9, false), (10, false)] 0 #[true, true, true, true, true, true, true, true, true, true, true] (by rfl) (by kernel_rfl) ?_
 refine FJ.dskip rfl rfl rfl .z rfl rfl (by decide) rfl (.s (.s .z)) ?_
 refine FJ.dskip rfl rfl rfl (.s .z) rfl rfl (by decide) rfl (.s (.s .z)) ?_
 refine FJ.dskip rfl rfl rfl (.s (.s .z)) rfl rfl (by decide) rfl (.s (.s .z)) ?_
 refine FJ.dskip rfl rfl rfl (.s (.s (.s .z))) rfl rfl (by decide) rfl (.s (.s .z)) ?_
 refine FJ.dq rfl rfl rfl (by decide) rfl (.s (.s .z)) (q_pickF rfl (.t (.s4 .z)) .c) ?_
 refine FJ.es (goes_sch rfl rfl) rfl (es_store (off := 0) (cs := [.int .i64 x7, .int .i64 (wd ws 1), .int .i64 (wd ws 2), .slice none 0 0, .slice Agz0 E.length cgz0]) rfl sz_30 (.t (.s16 (.s4 (.s4 (.s4 .z))))) (.t (.s4 (.s4 .z))) rfl (ones rfl) (.s .z) (Nat.le_of_ble_eq_true rfl) (.c .z (.c (.s .z) (.c (.s (.s .z)) (.c (.s (.s (.s .z))) (.c (.s (.s (.s (.s .z)))) .n)))))) ?_
 refine FJ.sk (.s (.s .z)) ?_
 refine FJ.er (.s16 (.s4 (.s4 (.s (.s (.s .z)))))) ?_
 refine FJ.q (goes_sch rfl rfl) rfl (by decide) rfl (q_assign rfl (.t .z)) ?_
 refine FJ.sl rfl ?_
 refine FJ.schN ?_
 refine FJ.drawN (by kernel_rfl) ?_
 refine FJ.then_ (FJ.ret ?_)
 refine FJ.add (c := ownA kSl_2 [] [.slice none 0 0]) (fun w S => own_nil w S none) ?_
 refine FJ.doneS (res_ct (cs := [.int .i64 x7, .int .i64 (wd ws 1), .int .i64 (wd ws 2), .slice none 0 0, .slice Agz0 E.length cgz0]) rfl (.s16 (.s4 (.s4 (.s4 .z)))) ag_30 sz_30 (WS.rows0 (cs := [.int .i64 x7, .int .i64 (wd ws 1), .int .i64 (wd ws 2), .slice none 0 0, .slice Agz0 E.length cgz0]) (.s .z) (fun _ _ h => h)) .z) (.c .z (.c (.s .z) .n)) ?_
 exact ⟨(⟨x7, wd ws 1, wd ws 2, [], E⟩ : DInode), false, _, _, fun h => absurd h (by omega), fun _ => ⟨(by first | exact decide_eq_true ⟨by assumption, by assumption⟩ | (symm; apply decide_eq_false; rintro ⟨h1, h2⟩; first | contradiction | (simp_all; done)) | (simp_all; done)), by first | (exact sdec_k hx7 (by assumption) (hRI (by assumption)) (by omega)) | (have hE := hE0 (by assumption); subst hE; rw [subL_end]; exact sdec_1 hx7 (by assumption)) | (have hE := hE0 (by omega); subst hE; exact sdec_n hx7 (by omega) (by rintro ⟨h1, h2⟩; first | contradiction | omega))⟩, rfl, rfl⟩
 refine FJ.skipl rfl rfl .z rfl rfl (by decide) rfl ?_
 refine FJ.skipl rfl rfl (.s .z) rfl rfl (by decide) rfl ?_
 refine FJ.skipl rfl rfl (.s (.s .z)) rfl rfl (by decide) rfl ?_
 refine FJ.ql rfl (q_pickF rfl (.t (.s (.s (.s .z)))) .c) (FJ.nil (FJ.then_ ?_))
 refine FJ.condF (.t .z) ?_
 refine FJ.skip (FJ.then_ (FJ.seq (FJ.region (FJ.ql rfl (q_assign rfl .c) ?_))))
 refine FJ.nil (FJ.then_ (FJ.seq (FJ.seq (FJ.region ?_))))
 refine FJ.ql rfl (q_assign rfl .c) (FJ.nil (FJ.then_ (FJ.block ?_)))
 refine FJ.add (c := ownA kSl_130 [] [.slice none 0 0]) (fun w S => own_nil w S none) ?_
 refine FJ.loopi (γ := (Option Addr) × Nat × Nat × Nat × (List DEnt)) (fun ⟨Agz0, cgz0, p, k, E⟩ => [(6, .int .i64 (k : Int)), (5, .int .i64 (p : Int)), (4, .pointer (some ⟨g9, 0, none⟩)), (3, .bool false), (2, .pointer (some ⟨g2, 0, none⟩)), (0, .slice (some ad6) ws.length c0)]) (fun ⟨Agz0, cgz0, p, k, E⟩ => [ownA kSl_130 E [.slice Agz0 E.length cgz0], rowA g9 30 5 1 [.int .i64 x7, .int .i64 (wd ws 1), .int .i64 (wd ws 2), .slice none 0 0, .slice Agz0 E.length cgz0], rowA g2 30 5 1 [.int .i64 0, .int .i64 0, .int .i64 0, .slice none 0 0, .slice none 0 0]]) (fun ⟨Agz0, cgz0, p, k, E⟩ => E.length = k ∧ 4 + 2 * k ≤ p ∧ p ≤ ws.length + 14 ∧ (¬ x7 = 2 → E = []) ∧ (x7 = 2 → ∀ y, Vd ws y → RI y E (ws.drop p))) (fun ⟨Agz0, cgz0, p, k, E⟩ => ws.length - p) (none, 0, 4, 0, []) ⟨rfl, by omega, by omega, fun _ => rfl, ri_w0 hx7⟩ (.c .z (.c (.s .z) (.c (.s4 (.s4 (.s (.s .z)))) (.c (.s16 (.s4 (.s (.s .z)))) (.c (.s16 (.s4 (.s (.s (.s .z))))) (.c (.s16 (.s4 (.s4 .z))) .n)))))) (fun _ h => h.sel (.c .z (.c .z (.c .z .n)))) ?_
 rintro ⟨Agz0, cgz0, p, k, E⟩ ⟨hEk, hkp, hpl, hE0, hRI⟩
 have hwp := wd_rng hwv (p + 1)
 refine FJ.seq (FJ.seq (FJ.region (FJ.ql rfl (q_fieldAddr rfl (.t (.s (.s .z))) (fun _ => fa_30_0 _ _)) (FJ.ql rfl (q_load rfl ag_2 (.t .z) (WS.row (.s .z) rfl)) ?_))))
 refine FJ.ql rfl (q_eql rfl (.t .z) .c) (FJ.ql rfl (q_move rfl (.t .z)) ?_)
 refine FJ.caseP .z (fun g29 => ?_) (fun g29 => ?_)
 refine FJ.q (goes_listg rfl rfl .z) rfl (by decide) rfl (q_move rfl (.t (.s4 .z))) ?_
 refine FJ.q (goes_listg rfl rfl (.s .z)) rfl (by decide) rfl (q_move rfl (.t (.s4 (.s4 (.s (.s .z)))))) ?_
 refine FJ.call (goes_listg rfl rfl (.s (.s .z))) rfl (by decide) rfl (c_call rfl Try.func132 rfl rfl (args2 (.t .z) .c)) .n (fun w1 S1 hs tr => c_132 (tr.ctx h0) 3 (by omega)) ?_
 rintro _ _ ⟨rfl, rfl⟩
 refine FJ.cat .n ?_
 refine FJ.q (goes_listg rfl rfl (.s (.s (.s .z)))) rfl (by decide) rfl (q_lss rfl (.t (.s (.s .z))) (.t .z)) ?_
 refine FJ.ql rfl (q_pickT rfl (.t (.s4 .z)) (.t .z)) (FJ.ql rfl (q_move rfl (.t .z)) ?_)
 refine FJ.caseP .z (fun g30 => ?_) (fun g30 => ?_)
 refine FJ.q (goes_listg rfl rfl .z) rfl (by decide) rfl (q_move rfl (.t (.s4 (.s4 (.s (.s (.s .z))))))) ?_
 refine FJ.q (goes_listg rfl rfl (.s .z)) rfl (by decide) rfl (q_move rfl (.t (.s16 .z))) ?_
 refine FJ.q (goes_listg rfl rfl (.s (.s .z))) rfl (by decide) rfl (q_len rfl u_22 (.t .z)) ?_
 refine FJ.q (goes_listg rfl rfl (.s (.s (.s .z)))) rfl (by decide) rfl (q_lss rfl (.t (.s (.s .z))) (.t .z)) ?_
 refine FJ.ql rfl (q_pickT rfl (.t (.s4 .z)) (.t .z)) (FJ.nil (FJ.then_ ?_))
 refine FJ.condP (.t .z) (fun b31 => ?_) (fun b31 => ?_)
 refine FJ.skip (FJ.then_ (FJ.seq (FJ.block (FJ.seq ?_))))
 refine FJ.region (FJ.ql rfl (q_move rfl (.t (.s16 (.s4 .z)))) (FJ.ql rfl (q_move rfl (.t (.s16 (.s .z)))) ?_))
 refine FJ.call (goes_list rfl) rfl (by decide) rfl (c_call rfl Try.func132 rfl rfl (args2 (.t (.s .z)) (.t .z))) .n (fun w1 S1 hs tr => c_132 (tr.ctx h0) p (by omega)) ?_
 rintro _ _ ⟨rfl, rfl⟩
 refine FJ.cat .n ?_
 refine FJ.ql rfl (q_build (ps := [(1, .int .i64 (wd ws p))]) (cs := [.string (⟨#[]⟩), .int .i64 (wd ws p)]) rfl bl_130 (by intro act hact; simp only [List.map_toArray, List.map_cons, List.map_nil, (show Val _ _ _ from (.t .z)) act hact]) rfl) ?_
 refine FJ.e (goes_list rfl) rfl (by decide) rfl (e_alloc rfl z_130 rfl rfl) ?_
 rintro _ _ ⟨g32, rfl, rfl⟩
 refine FJ.es (goes_list rfl) rfl (es_store (off := 0) (cs := [.string (⟨#[]⟩), .int .i64 (wd ws p)]) rfl sz_130 (.t .z) (.t (.s .z)) rfl (ones rfl) .z (Nat.le_of_ble_eq_true rfl) (.c .z (.c (.s .z) .n))) ?_
 refine FJ.nil (FJ.then_ (FJ.seq (FJ.region (FJ.ql rfl (q_move rfl (.t (.s16 (.s4 (.s4 (.s .z)))))) ?_))))
 refine FJ.ql rfl (q_move rfl (.t (.s16 (.s4 (.s (.s .z)))))) ?_
 refine FJ.ql rfl (q_add (c := ((p + 1 : Nat) : Int)) rfl (.t .z) .c (wr (by omega) (by omega) (by omega))) ?_
 refine FJ.call (goes_list rfl) rfl (by decide) rfl (c_call rfl Try.func132 rfl rfl (args2 (.t (.s (.s .z))) (.t .z))) .n (fun w1 S1 hs tr => c_132 (tr.ctx h0) (p + 1) (by omega)) ?_
 rintro _ _ ⟨rfl, rfl⟩
 refine FJ.cat .n ?_
 refine FJ.ql rfl (q_assign rfl (.t .z)) (FJ.nil (FJ.then_ (FJ.seq (FJ.region ?_))))
 refine FJ.ql rfl (q_move rfl (.t (.s16 (.s4 (.s4 (.s (.s .z))))))) ?_
 refine FJ.ql rfl (q_add (c := ((p + 2 : Nat) : Int)) rfl (.t .z) .c (wr (by omega) (by omega) (by omega))) ?_
 refine FJ.er (.s16 (.s4 (.s4 (.s4 .z)))) (FJ.ql rfl (q_assign rfl (.t .z)) (FJ.nil (FJ.then_ (FJ.seq ?_))))
 refine FJ.seq (FJ.region (FJ.ql rfl (q_assign rfl .c) (FJ.nil (FJ.then_ ?_))))
 refine FJ.block ?_
 refine FJ.loopi (γ := Nat × ByteArray) (fun ⟨j, nm⟩ => [(9, .int .i64 (j : Int)), (5, .int .i64 ((p + 2 + j : Nat) : Int)), (8, .int .i64 (wd ws (p + 1))), (7, .pointer (some ⟨g32, 0, none⟩)), (6, .int .i64 (k : Int)), (4, .pointer (some ⟨g9, 0, none⟩)), (3, .bool false), (2, .pointer (some ⟨g2, 0, none⟩)), (0, .slice (some ad6) ws.length c0)]) (fun ⟨j, nm⟩ => [rowA g32 130 2 1 [.string nm, .int .i64 (wd ws p)], ownA kSl_130 E [.slice Agz0 E.length cgz0], rowA g9 30 5 1 [.int .i64 x7, .int .i64 (wd ws 1), .int .i64 (wd ws 2), .slice none 0 0, .slice Agz0 E.length cgz0], rowA g2 30 5 1 [.int .i64 0, .int .i64 0, .int .i64 0, .slice none 0 0, .slice none 0 0]]) (fun ⟨j, nm⟩ => j ≤ 8 ∧ nm.size ≤ j ∧ (j = 0 ∨ (j : Int) ≤ wd ws (p + 1)) ∧ NI ws E nm j) (fun ⟨j, nm⟩ => 8 - j) (0, ⟨#[]⟩) ⟨Nat.zero_le _, Nat.le_refl _, .inl rfl, ni_w0 (hRI (by assumption)) (by omega)⟩ (.c .z (.e (.s .z) (congrArg (Value.int .i64) (by omega)) (.c (.s4 .z) (.c (.s4 (.s4 (.s .z))) (.c (.s16 (.s4 (.s4 (.s4 (.s .z))))) (.c (.s16 (.s4 (.s4 (.s4 (.s (.s .z)))))) (.c (.s16 (.s4 (.s4 (.s4 (.s (.s (.s .z))))))) (.c (.s16 (.s16 .z)) (.c (.s16 (.s16 (.s .z))) .n))))))))) (fun _ h => h.sel (.c .z (.c .z (.c .z (.c .z .n))))) ?_
 rintro ⟨j, nm⟩ ⟨hj, hnj, hjn, hNI⟩
 refine FJ.seq (FJ.seq (FJ.region (FJ.ql rfl (q_move rfl (.t .z)) (FJ.ql rfl (q_move rfl (.t (.s (.s (.s .z))))) ?_))))
 refine FJ.ql rfl (q_lss rfl (.t (.s .z)) (.t .z)) (FJ.ql rfl (q_move rfl (.t .z)) ?_)
 refine FJ.caseP .z (fun g33 => ?_) (fun g33 => ?_)
 refine FJ.q (goes_listg rfl rfl .z) rfl (by decide) rfl (q_move rfl (.t (.s4 .z))) ?_
 refine FJ.q (goes_listg rfl rfl (.s .z)) rfl (by decide) rfl (q_lss rfl (.t .z) .c) ?_
 refine FJ.ql rfl (q_pickT rfl (.t (.s (.s .z))) (.t .z)) (FJ.nil (FJ.then_ ?_))
 refine FJ.condP (.t .z) (fun b34 => ?_) (fun b34 => ?_)
 refine FJ.skip (FJ.then_ (FJ.seq (FJ.block (FJ.seq ?_))))
 refine FJ.sel (.c (.s .z) (.c .z (.c .z (.c .z .n)))) ?_
 refine FJ.draw [rowA g32 130 2 1 [.string nm, .int .i64 (wd ws p)], rowA g9 30 5 1 [.int .i64 x7, .int .i64 (wd ws 1), .int .i64 (wd ws 2), .slice none 0 0, .slice Agz0 E.length cgz0], rowA g2 30 5 1 [.int .i64 0, .int .i64 0, .int .i64 0, .slice none 0 0, .slice none 0 0]] 11 (by kernel_rfl) ?_
 refine FJ.sch [(0, true), (1, true), (2, true), (3, true), (4, false), (5, true), (6, true), (7, false), (8, false), (9, true), (10, true), (11, false)] 0 #[true, true, true, true, true, true, true, true, true, true, true, true] (by rfl) (by kernel_rfl) ?_
 refine FJ.dq rfl rfl rfl (by decide) rfl (.s .z) (q_fieldAddr rfl (.t (.s4 (.s4 (.s (.s .z))))) (fun _ => fa_130_0 _ _)) (FJ.dq rfl rfl rfl (by decide) rfl (.s .z) (q_load rfl ag_9 (.t .z) (WS.row .z rfl)) (FJ.dq rfl rfl rfl (by decide) rfl (.s .z) (q_move rfl (.t (.s16 (.s .z)))) (FJ.dq rfl rfl rfl (by decide) rfl (.s .z) (q_move rfl (.t (.s4 (.s4 (.s (.s (.s .z))))))) ?_)))
 refine FJ.call (goes_sch rfl rfl) rfl (by decide) rfl (c_call rfl Try.func132 rfl rfl (args2 (.t (.s .z)) (.t .z))) .n (fun w1 S1 hs tr => c_132 (tr.ctx h0) (p + 2 + j) (by omega)) ?_
 rintro _ _ ⟨rfl, rfl⟩
 refine FJ.cat .n ?_
 refine FJ.sk (.s .z) ?_
 refine FJ.dq rfl rfl rfl (by decide) rfl (.s .z) (q_rem (c := Int.tmod (wd ws (p + 2 + j)) 256) rfl (.t .z) .c (by omega) rfl) ?_
 refine FJ.dq rfl rfl rfl (by decide) rfl (.s .z) (q_conv (c := ((mbyte (Int.tmod (wd ws (p + 2 + j)) 256)).toNat : Int)) rfl (.t .z) u_2 u_5 (mbyte_wrap _)) ?_
 refine FJ.e (goes_sch rfl rfl) rfl (by decide) rfl (e_buildSliceL (ps := [(0, .int .u8 ((mbyte (Int.tmod (wd ws (p + 2 + j)) 256)).toNat : Int))]) (cs := [.int .u8 ((mbyte (Int.tmod (wd ws (p + 2 + j)) 256)).toNat : Int)]) rfl u_62 (inz inf_5) (by decide) (by intro act hact; simp only [List.map_toArray, List.map_cons, List.map_nil, (show Val _ _ _ from (.t .z)) act hact]) rfl rfl (by decide) rfl rfl) ?_
 rintro _ _ ⟨g35, rfl, rfl⟩
 refine FJ.sk (.s (.s .z)) ?_
 refine FJ.turns (c := ownA kSl_5 ([(mbyte (Int.tmod (wd ws (p + 2 + j)) 256))] : (List UInt8)) [.slice (some ⟨g35, 0, none⟩) 1 1]) (.c .z .n) (fun w S h => lit_own (xs := ([(mbyte (Int.tmod (wd ws (p + 2 + j)) 256))] : (List UInt8))) h rfl (by simp) (by omega) (by omega)) ?_
 refine FJ.q (goes_sch rfl rfl) rfl (by decide) rfl (q_convBS (xs := ([(mbyte (Int.tmod (wd ws (p + 2 + j)) 256))] : (List UInt8))) rfl u_62 u_5 u_9 (.t .z) (WS.roown .z)) ?_
 refine FJ.sk (.s (.s .z)) ?_
 refine FJ.dq rfl rfl rfl (by decide) rfl (.s (.s .z)) (q_sadd rfl (.t (.s4 (.s (.s (.s .z))))) (.t .z) (by first | (rw [bstr_size]; simp only [List.length_cons, List.length_nil]; omega) | (simp only [bstr_size, List.length_cons, List.length_nil]; omega))) ?_
 refine FJ.dq rfl rfl rfl (by decide) rfl (.s (.s .z)) (q_fieldAddr rfl (.t (.s16 (.s4 .z))) (fun _ => fa_130_0 _ _)) ?_
 refine FJ.es (goes_sch rfl rfl) rfl (es_store (off := 0) (cs := [.string (nm ++ (bstr ([(mbyte (Int.tmod (wd ws (p + 2 + j)) 256))] : (List UInt8))))]) rfl sz_9 (.t .z) (.t (.s .z)) rfl (ones rfl) (.s (.s .z)) (Nat.le_of_ble_eq_true rfl) (.c .z .n)) ?_
 refine FJ.sl rfl ?_
 refine FJ.schN ?_
 refine FJ.drawN (by kernel_rfl) ?_
 refine FJ.then_ (FJ.region (FJ.ql rfl (q_move rfl (.t (.s16 (.s (.s (.s .z)))))) ?_))
 refine FJ.ql rfl (q_add (c := (((p + 2 + j) + 1 : Nat) : Int)) rfl (.t .z) .c (wr (by omega) (by omega) (by omega))) ?_
 refine FJ.er (.s16 (.s4 (.s .z))) (FJ.ql rfl (q_assign rfl (.t .z)) (FJ.nil (FJ.inBN (FJ.then_ ?_))))
 refine FJ.region (FJ.ql rfl (q_move rfl (.t (.s16 (.s4 (.s .z))))) ?_)
 refine FJ.ql rfl (q_add (c := ((j + 1 : Nat) : Int)) rfl (.t .z) .c (wr (by omega) (by omega) (by omega))) ?_
 refine FJ.er (.s16 (.s4 (.s (.s (.s .z))))) (FJ.ql rfl (q_assign rfl (.t .z)) (FJ.nil ?_))
 refine FJ.again ((j + 1), nm ++ (bstr ([(mbyte (Int.tmod (wd ws (p + 2 + j)) 256))] : (List UInt8)))) ⟨by omega, ⟨(by rw [ByteArray.size_append, bstr_size]; simp only [List.length_cons, List.length_nil]; omega), .inr (by omega), ni_w (hRI (by assumption)) (by omega) (by omega) hNI⟩⟩ (by first | omega | (dsimp only; omega)) (.c .z (.e (.s (.s (.s .z))) (congrArg (Value.int .i64) (by omega)) (.c (.s16 (.s4 (.s4 .z))) (.c (.s16 (.s4 (.s4 (.s .z)))) (.c (.s16 (.s4 (.s4 (.s (.s .z))))) (.c (.s16 (.s4 (.s4 (.s (.s (.s .z)))))) (.c (.s16 (.s4 (.s4 (.s4 .z)))) (.c (.s16 (.s4 (.s4 (.s4 (.s .z))))) (.c (.s16 (.s4 (.s4 (.s4 (.s (.s .z)))))) .n))))))))) (fun _ h => h.sel (.c .z (.c (.s .z) (.c (.s .z) (.c (.s .z) .n)))))
 refine FJ.exit (FJ.thenE (FJ.thenE (FJ.inB (FJ.then_ ?_))))
 refine FJ.region (FJ.ql rfl (q_fieldAddr rfl (.t (.s4 (.s4 (.s4 .z)))) (fun _ => fa_30_4 _ _)) (FJ.ql rfl (q_load rfl ag_28 (.t .z) (WS.row (.s (.s .z)) rfl)) ?_))
 refine FJ.ql rfl (q_loadA (cs := [.string nm, .int .i64 (wd ws p)]) rfl ag_130 sz_130 (.t (.s4 (.s4 (.s4 .z)))) (WS.rows0 .z (fun i u h => by exact h))) ?_
 refine FJ.e (goes_list rfl) rfl (by decide) rfl (e_buildSliceL (ps := [(0, .agg #[.string nm, .int .i64 (wd ws p)])]) (cs := [.string nm, .int .i64 (wd ws p)]) rfl u_28 (inz inf_130) (by decide) (by intro act hact; simp only [List.map_toArray, List.map_cons, List.map_nil, (show Val _ _ _ from (.t .z)) act hact]) rfl rfl (by decide) rfl rfl) ?_
 rintro _ _ ⟨g37, rfl, rfl⟩
 refine FJ.turns (c := ownA kT_130 (⟨nm, wd ws p⟩ : DEnt) [.string nm, .int .i64 (wd ws p)]) .n (fun w S h => kT_130_omk (⟨nm, wd ws p⟩ : DEnt) h (by first | assumption | omega | (dsimp only; omega))) ?_
 refine FJ.e (goes_list rfl) rfl (by decide) rfl (e_append1 rfl u_28 inf_130 rfl (.t (.s (.s .z))) (.t .z) (.c (.s (.s (.s .z))) (.c (.s .z) (.c .z .n))) (by first | omega | (simp only [List.length_append, List.length_cons, List.length_nil]; omega)) (by first | omega | (simp only [List.length_append, List.length_cons, List.length_nil]; omega))) ?_
 rintro _ _ rfl
 refine FJ.know (WS.oform .z) ?_
 rintro ⟨Ao39, co39, rfl, hlo39, hmo39, hbo39⟩
 refine FJ.ql rfl (q_fieldAddr rfl (.t (.s16 (.s .z))) (fun _ => fa_30_4 _ _)) ?_
 refine FJ.es (goes_list rfl) rfl (es_store (off := 4) (cs := [.slice Ao39 (E ++ [(⟨nm, wd ws p⟩ : DEnt)]).length co39]) rfl sz_28 (.t .z) (.t (.s .z)) rfl (ones rfl) (.s (.s .z)) (Nat.le_of_ble_eq_true rfl) (.c (.s (.s (.s (.s .z)))) .n)) ?_
 refine FJ.nil (FJ.inBN (FJ.then_ (FJ.region (FJ.ql rfl (q_move rfl (.t (.s16 (.s .z)))) ?_))))
 refine FJ.ql rfl (q_add (c := ((k + 1 : Nat) : Int)) rfl (.t .z) .c (wr (by omega) (by omega) (by omega))) ?_
 refine FJ.er (.s16 (.s (.s (.s .z)))) (FJ.ql rfl (q_assign rfl (.t .z)) (FJ.nil ?_))
 refine FJ.again (Ao39, co39, p + 2 + j, k + 1, E ++ [(⟨nm, wd ws p⟩ : DEnt)]) ⟨by simp only [List.length_append, List.length_cons, List.length_nil]; omega, by omega, by omega, fun h => absurd (by assumption) h, fun _ => ri_w (hRI (by assumption)) (by omega) (by omega) (by omega) hNI⟩ (by first | omega | (dsimp only; omega)) (.c .z (.c (.s16 (.s .z)) (.c (.s16 (.s4 .z)) (.c (.s16 (.s4 (.s .z))) (.c (.s16 (.s4 (.s (.s .z)))) (.c (.s16 (.s4 (.s (.s (.s .z))))) .n)))))) (fun _ h => h.sel (.c (.s .z) (.c .z (.c (.s .z) .n))))
 refine FJ.skipl rfl rfl .z rfl rfl (by decide) rfl ?_
 refine FJ.skipl rfl rfl (.s .z) rfl rfl (by decide) rfl ?_
 refine FJ.ql rfl (q_pickF rfl (.t (.s (.s .z))) .c) (FJ.nil (FJ.then_ ?_))
 refine FJ.condF (.t .z) ?_
 refine FJ.exit (FJ.thenE (FJ.thenE (FJ.inB (FJ.then_ ?_))))
 refine FJ.region (FJ.ql rfl (q_fieldAddr rfl (.t (.s4 (.s4 (.s4 .z)))) (fun _ => fa_30_4 _ _)) (FJ.ql rfl (q_load rfl ag_28 (.t .z) (WS.row (.s (.s .z)) rfl)) ?_))
 refine FJ.ql rfl (q_loadA (cs := [.string nm, .int .i64 (wd ws p)]) rfl ag_130 sz_130 (.t (.s4 (.s4 (.s4 .z)))) (WS.rows0 .z (fun i u h => by exact h))) ?_
 refine FJ.e (goes_list rfl) rfl (by decide) rfl (e_buildSliceL (ps := [(0, .agg #[.string nm, .int .i64 (wd ws p)])]) (cs := [.string nm, .int .i64 (wd ws p)]) rfl u_28 (inz inf_130) (by decide) (by intro act hact; simp only [List.map_toArray, List.map_cons, List.map_nil, (show Val _ _ _ from (.t .z)) act hact]) rfl rfl (by decide) rfl rfl) ?_
 rintro _ _ ⟨g40, rfl, rfl⟩
 refine FJ.turns (c := ownA kT_130 (⟨nm, wd ws p⟩ : DEnt) [.string nm, .int .i64 (wd ws p)]) .n (fun w S h => kT_130_omk (⟨nm, wd ws p⟩ : DEnt) h (by first | assumption | omega | (dsimp only; omega))) ?_
 refine FJ.e (goes_list rfl) rfl (by decide) rfl (e_append1 rfl u_28 inf_130 rfl (.t (.s (.s .z))) (.t .z) (.c (.s (.s (.s .z))) (.c (.s .z) (.c .z .n))) (by first | omega | (simp only [List.length_append, List.length_cons, List.length_nil]; omega)) (by first | omega | (simp only [List.length_append, List.length_cons, List.length_nil]; omega))) ?_
 rintro _ _ rfl
 refine FJ.know (WS.oform .z) ?_
 rintro ⟨Ao42, co42, rfl, hlo42, hmo42, hbo42⟩
 refine FJ.ql rfl (q_fieldAddr rfl (.t (.s16 (.s .z))) (fun _ => fa_30_4 _ _)) ?_
 refine FJ.es (goes_list rfl) rfl (es_store (off := 4) (cs := [.slice Ao42 (E ++ [(⟨nm, wd ws p⟩ : DEnt)]).length co42]) rfl sz_28 (.t .z) (.t (.s .z)) rfl (ones rfl) (.s (.s .z)) (Nat.le_of_ble_eq_true rfl) (.c (.s (.s (.s (.s .z)))) .n)) ?_
 refine FJ.nil (FJ.inBN (FJ.then_ (FJ.region (FJ.ql rfl (q_move rfl (.t (.s16 (.s .z)))) ?_))))
 refine FJ.ql rfl (q_add (c := ((k + 1 : Nat) : Int)) rfl (.t .z) .c (wr (by omega) (by omega) (by omega))) ?_
 refine FJ.er (.s16 (.s (.s (.s .z)))) (FJ.ql rfl (q_assign rfl (.t .z)) (FJ.nil ?_))
 refine FJ.again (Ao42, co42, p + 2 + j, k + 1, E ++ [(⟨nm, wd ws p⟩ : DEnt)]) ⟨by simp only [List.length_append, List.length_cons, List.length_nil]; omega, by omega, by omega, fun h => absurd (by assumption) h, fun _ => ri_w (hRI (by assumption)) (by omega) (by omega) (by omega) hNI⟩ (by first | omega | (dsimp only; omega)) (.c .z (.c (.s16 (.s .z)) (.c (.s16 (.s4 .z)) (.c (.s16 (.s4 (.s .z))) (.c (.s16 (.s4 (.s (.s .z)))) (.c (.s16 (.s4 (.s (.s (.s .z))))) .n)))))) (fun _ h => h.sel (.c (.s .z) (.c .z (.c (.s .z) .n))))
 refine FJ.exit (FJ.thenE (FJ.thenE (FJ.inB (FJ.then_ ?_))))
 refine FJ.seq ?_
 refine FJ.sel (.c .z (.c (.s .z) (.c .z .n))) ?_
 refine FJ.draw [rowA g9 30 5 1 [.int .i64 x7, .int .i64 (wd ws 1), .int .i64 (wd ws 2), .slice none 0 0, .slice Agz0 E.length cgz0]] 10 (by kernel_rfl) ?_
 refine FJ.sch [(0, true), (1, false), (2, true), (3, true)] 7 #[true, true, true, true, false, false, false, false, false, false, false] (by rfl) (by kernel_rfl) ?_
 refine FJ.dq rfl rfl rfl (by decide) rfl (.s (.s .z)) (q_loadA (cs := [.int .i64 x7, .int .i64 (wd ws 1), .int .i64 (wd ws 2), .slice none 0 0, .slice Agz0 E.length cgz0]) rfl ag_30 sz_30 (.t (.s16 (.s .z))) (WS.rows0 .z (fun i u h => by exact h))) ?_
 refine FJ.call (goes_sch rfl rfl) rfl (by decide) rfl (c_call rfl Try.func69 rfl rfl (args1 (.t (.s16 (.s (.s .z)))))) .n (fun w1 S1 hs tr => c_69 (tr.ptr (.s (.s .z)) (kT_30_mk (⟨x7, wd ws 1, wd ws 2, [], E⟩ : DInode) ro_nil (tr.own .z)))) ?_
 rintro _ _ ⟨rfl, rfl⟩
 refine FJ.cat .n ?_
 refine FJ.sk (.s (.s .z)) ?_
 refine FJ.dq rfl rfl rfl (by decide) rfl (.s (.s .z)) (q_eql rfl (.t .z) .c) (FJ.dq rfl rfl rfl (by decide) rfl (.s (.s .z)) (q_move rfl (.t .z)) (FJ.schN ?_))
 refine FJ.caseP .z (fun g43 => ?_) (fun g43 => ?_)
 refine FJ.sch [(4, true), (6, true), (5, false), (7, false), (8, true), (9, false), (10, false)] 0 #[true, true, true, true, true, true, true, true, true, true, true] (by rfl) (by kernel_rfl) ?_
 refine FJ.dqg rfl rfl rfl .z rfl (by decide) rfl (.s (.s .z)) (q_loadA (cs := [.int .i64 x7, .int .i64 (wd ws 1), .int .i64 (wd ws 2), .slice none 0 0, .slice Agz0 E.length cgz0]) rfl ag_30 sz_30 (.t (.s16 (.s4 (.s .z)))) (WS.rows0 .z (fun i u h => by exact h))) ?_
 refine FJ.dqg rfl rfl rfl (.s .z) rfl (by decide) rfl (.s (.s .z)) (q_move rfl (.t (.s16 (.s4 (.s4 (.s .z)))))) ?_
 refine FJ.call (goes_schg rfl rfl rfl (.s (.s .z))) rfl (by decide) rfl (c_call rfl Try.func87 rfl rfl (args1 (.t (.s .z)))) .n (fun w1 S1 hs tr => c_87 (kT_30_mk (⟨x7, wd ws 1, wd ws 2, [], E⟩ : DInode) ro_nil (tr.own .z)) (by assumption)) ?_
 rintro _ _ rfl
 refine FJ.cat (.c .n) ?_
 refine FJ.know (WS.oform .z) ?_
 rintro ⟨Ao45, co45, rfl, hlo45, hmo45, hbo45⟩
 refine FJ.sk (.s (.s (.s .z))) ?_
 refine FJ.call (goes_schg rfl rfl rfl (.s (.s (.s .z)))) rfl (by decide) rfl (c_call rfl Try.func113 rfl rfl (args2 (.t .z) (.t (.s .z)))) .n (fun w1 S1 hs tr => c_113 (tr.own .z) (tr.ctx h0)) ?_
 rintro _ _ ⟨rfl, rfl⟩
 refine FJ.cat .n ?_
 refine FJ.sk (.s (.s (.s .z))) ?_
 refine FJ.dq rfl rfl rfl (by decide) rfl (.s (.s (.s .z))) (q_pickT rfl (.t (.s4 .z)) (.t .z)) ?_
 refine FJ.es (goes_sch rfl rfl) rfl (es_store (off := 0) (cs := [.int .i64 x7, .int .i64 (wd ws 1), .int .i64 (wd ws 2), .slice none 0 0, .slice Agz0 E.length cgz0]) rfl sz_30 (.t (.s16 (.s4 (.s4 (.s4 .z))))) (.t (.s4 (.s4 .z))) rfl (ones rfl) (.s (.s .z)) (Nat.le_of_ble_eq_true rfl) (.c .z (.c (.s .z) (.c (.s (.s .z)) (.c (.s (.s (.s .z))) (.c (.s (.s (.s (.s .z)))) .n)))))) ?_
 refine FJ.sk (.s (.s (.s .z))) ?_
 refine FJ.er (.s16 (.s4 (.s4 (.s (.s (.s .z)))))) ?_
 refine FJ.q (goes_sch rfl rfl) rfl (by decide) rfl (q_assign rfl (.t .z)) ?_
 refine FJ.sl rfl ?_
 refine FJ.schN ?_
 refine FJ.drawN (by kernel_rfl) ?_
 refine FJ.then_ (FJ.ret ?_)
 refine FJ.add (c := ownA kSl_2 [] [.slice none 0 0]) (fun w S => own_nil w S none) ?_
 refine FJ.doneS (res_ct (cs := [.int .i64 x7, .int .i64 (wd ws 1), .int .i64 (wd ws 2), .slice none 0 0, .slice Agz0 E.length cgz0]) rfl (.s16 (.s4 (.s4 (.s4 .z)))) ag_30 sz_30 (WS.rows0 (cs := [.int .i64 x7, .int .i64 (wd ws 1), .int .i64 (wd ws 2), .slice none 0 0, .slice Agz0 E.length cgz0]) (.s .z) (fun _ _ h => h)) .z) (.c .z (.c (.s (.s .z)) .n)) ?_
 exact ⟨(⟨x7, wd ws 1, wd ws 2, [], E⟩ : DInode), decide (packI (⟨x7, wd ws 1, wd ws 2, [], E⟩ : DInode) = ws), _, _, fun h => absurd h (by omega), fun _ => ⟨(by first | exact decide_eq_true ⟨by assumption, by assumption⟩ | (symm; apply decide_eq_false; rintro ⟨h1, h2⟩; first | contradiction | (simp_all; done)) | (simp_all; done)), by first | (exact sdec_k hx7 (by assumption) (hRI (by assumption)) (by omega)) | (have hE := hE0 (by assumption); subst hE; rw [subL_end]; exact sdec_1 hx7 (by assumption)) | (have hE := hE0 (by omega); subst hE; exact sdec_n hx7 (by omega) (by rintro ⟨h1, h2⟩; first | contradiction | omega))⟩, rfl, rfl⟩
 refine FJ.sch [(4, true), (5, true), (6, true), (7, true), (8, true), (9, false), (10, false)] 0 #[true, true, true, true, true, true, true, true, true, true, true] (by rfl) (by kernel_rfl) ?_
 refine FJ.dskip rfl rfl rfl .z rfl rfl (by decide) rfl (.s (.s .z)) ?_
 refine FJ.dskip rfl rfl rfl (.s .z) rfl rfl (by decide) rfl (.s (.s .z)) ?_
 refine FJ.dskip rfl rfl rfl (.s (.s .z)) rfl rfl (by decide) rfl (.s (.s .z)) ?_
 refine FJ.dskip rfl rfl rfl (.s (.s (.s .z))) rfl rfl (by decide) rfl (.s (.s .z)) ?_
 refine FJ.dq rfl rfl rfl (by decide) rfl (.s (.s .z)) (q_pickF rfl (.t (.s4 .z)) .c) ?_
 refine FJ.es (goes_sch rfl rfl) rfl (es_store (off := 0) (cs := [.int .i64 x7, .int .i64 (wd ws 1), .int .i64 (wd ws 2), .slice none 0 0, .slice Agz0 E.length cgz0]) rfl sz_30 (.t (.s16 (.s4 (.s4 (.s4 .z))))) (.t (.s4 (.s4 .z))) rfl (ones rfl) (.s .z) (Nat.le_of_ble_eq_true rfl) (.c .z (.c (.s .z) (.c (.s (.s .z)) (.c (.s (.s (.s .z))) (.c (.s (.s (.s (.s .z)))) .n)))))) ?_
 refine FJ.sk (.s (.s .z)) ?_
 refine FJ.er (.s16 (.s4 (.s4 (.s (.s (.s .z)))))) ?_
 refine FJ.q (goes_sch rfl rfl) rfl (by decide) rfl (q_assign rfl (.t .z)) ?_
 refine FJ.sl rfl ?_
 refine FJ.schN ?_
 refine FJ.drawN (by kernel_rfl) ?_
 refine FJ.then_ (FJ.ret ?_)
 refine FJ.add (c := ownA kSl_2 [] [.slice none 0 0]) (fun w S => own_nil w S none) ?_
 refine FJ.doneS (res_ct (cs := [.int .i64 x7, .int .i64 (wd ws 1), .int .i64 (wd ws 2), .slice none 0 0, .slice Agz0 E.length cgz0]) rfl (.s16 (.s4 (.s4 (.s4 .z)))) ag_30 sz_30 (WS.rows0 (cs := [.int .i64 x7, .int .i64 (wd ws 1), .int .i64 (wd ws 2), .slice none 0 0, .slice Agz0 E.length cgz0]) (.s .z) (fun _ _ h => h)) .z) (.c .z (.c (.s .z) .n)) ?_
 exact ⟨(⟨x7, wd ws 1, wd ws 2, [], E⟩ : DInode), false, _, _, fun h => absurd h (by omega), fun _ => ⟨(by first | exact decide_eq_true ⟨by assumption, by assumption⟩ | (symm; apply decide_eq_false; rintro ⟨h1, h2⟩; first | contradiction | (simp_all; done)) | (simp_all; done)), by first | (exact sdec_k hx7 (by assumption) (hRI (by assumption)) (by omega)) | (have hE := hE0 (by assumption); subst hE; rw [subL_end]; exact sdec_1 hx7 (by assumption)) | (have hE := hE0 (by omega); subst hE; exact sdec_n hx7 (by omega) (by rintro ⟨h1, h2⟩; first | contradiction | omega))⟩, rfl, rfl⟩
 refine FJ.skipl rfl rfl .z rfl rfl (by decide) rfl ?_
 refine FJ.skipl rfl rfl (.s .z) rfl rfl (by decide) rfl ?_
 refine FJ.skipl rfl rfl (.s (.s .z)) rfl rfl (by decide) rfl ?_
 refine FJ.skipl rfl rfl (.s (.s (.s .z))) rfl rfl (by decide) rfl ?_
 refine FJ.ql rfl (q_pickF rfl (.t (.s4 .z)) .c) (FJ.nil (FJ.then_ ?_))
 refine FJ.condF (.t .z) ?_
 refine FJ.exit (FJ.thenE (FJ.thenE (FJ.inB (FJ.then_ ?_))))
 refine FJ.seq ?_
 refine FJ.sel (.c .z (.c (.s .z) (.c .z .n))) ?_
 refine FJ.draw [rowA g9 30 5 1 [.int .i64 x7, .int .i64 (wd ws 1), .int .i64 (wd ws 2), .slice none 0 0, .slice Agz0 E.length cgz0]] 10 (by kernel_rfl) ?_
 refine FJ.sch [(0, true), (1, false), (2, true), (3, true)] 7 #[true, true, true, true, false, false, false, false, false, false, false] (by rfl) (by kernel_rfl) ?_
 refine FJ.dq rfl rfl rfl (by decide) rfl (.s (.s .z)) (q_loadA (cs := [.int .i64 x7, .int .i64 (wd ws 1), .int .i64 (wd ws 2), .slice none 0 0, .slice Agz0 E.length cgz0]) rfl ag_30 sz_30 (.t (.s16 (.s .z))) (WS.rows0 .z (fun i u h => by exact h))) ?_
 refine FJ.call (goes_sch rfl rfl) rfl (by decide) rfl (c_call rfl Try.func69 rfl rfl (args1 (.t (.s16 (.s (.s .z)))))) .n (fun w1 S1 hs tr => c_69 (tr.ptr (.s (.s .z)) (kT_30_mk (⟨x7, wd ws 1, wd ws 2, [], E⟩ : DInode) ro_nil (tr.own .z)))) ?_
 rintro _ _ ⟨rfl, rfl⟩
 refine FJ.cat .n ?_
 refine FJ.sk (.s (.s .z)) ?_
 refine FJ.dq rfl rfl rfl (by decide) rfl (.s (.s .z)) (q_eql rfl (.t .z) .c) (FJ.dq rfl rfl rfl (by decide) rfl (.s (.s .z)) (q_move rfl (.t .z)) (FJ.schN ?_))
 refine FJ.caseP .z (fun g48 => ?_) (fun g48 => ?_)
 refine FJ.sch [(4, true), (6, true), (5, false), (7, false), (8, true), (9, false), (10, false)] 0 #[true, true, true, true, true, true, true, true, true, true, true] (by rfl) (by kernel_rfl) ?_
 refine FJ.dqg rfl rfl rfl .z rfl (by decide) rfl (.s (.s .z)) (q_loadA (cs := [.int .i64 x7, .int .i64 (wd ws 1), .int .i64 (wd ws 2), .slice none 0 0, .slice Agz0 E.length cgz0]) rfl ag_30 sz_30 (.t (.s16 (.s4 (.s .z)))) (WS.rows0 .z (fun i u h => by exact h))) ?_
 refine FJ.dqg rfl rfl rfl (.s .z) rfl (by decide) rfl (.s (.s .z)) (q_move rfl (.t (.s16 (.s4 (.s4 (.s .z)))))) ?_
 refine FJ.call (goes_schg rfl rfl rfl (.s (.s .z))) rfl (by decide) rfl (c_call rfl Try.func87 rfl rfl (args1 (.t (.s .z)))) .n (fun w1 S1 hs tr => c_87 (kT_30_mk (⟨x7, wd ws 1, wd ws 2, [], E⟩ : DInode) ro_nil (tr.own .z)) (by assumption)) ?_
 rintro _ _ rfl
 refine FJ.cat (.c .n) ?_
 refine FJ.know (WS.oform .z) ?_
 rintro ⟨Ao50, co50, rfl, hlo50, hmo50, hbo50⟩
 refine FJ.sk (.s (.s (.s .z))) ?_
 refine FJ.call (goes_schg rfl rfl rfl (.s (.s (.s .z)))) rfl (by decide) rfl (c_call rfl Try.func113 rfl rfl (args2 (.t .z) (.t (.s .z)))) .n (fun w1 S1 hs tr => c_113 (tr.own .z) (tr.ctx h0)) ?_
 rintro _ _ ⟨rfl, rfl⟩
 refine FJ.cat .n ?_
 refine FJ.sk (.s (.s (.s .z))) ?_
 refine FJ.dq rfl rfl rfl (by decide) rfl (.s (.s (.s .z))) (q_pickT rfl (.t (.s4 .z)) (.t .z)) ?_
 refine FJ.es (goes_sch rfl rfl) rfl (es_store (off := 0) (cs := [.int .i64 x7, .int .i64 (wd ws 1), .int .i64 (wd ws 2), .slice none 0 0, .slice Agz0 E.length cgz0]) rfl sz_30 (.t (.s16 (.s4 (.s4 (.s4 .z))))) (.t (.s4 (.s4 .z))) rfl (ones rfl) (.s (.s .z)) (Nat.le_of_ble_eq_true rfl) (.c .z (.c (.s .z) (.c (.s (.s .z)) (.c (.s (.s (.s .z))) (.c (.s (.s (.s (.s .z)))) .n)))))) ?_
 refine FJ.sk (.s (.s (.s .z))) ?_
 refine FJ.er (.s16 (.s4 (.s4 (.s (.s (.s .z)))))) ?_
 refine FJ.q (goes_sch rfl rfl) rfl (by decide) rfl (q_assign rfl (.t .z)) ?_
 refine FJ.sl rfl ?_
 refine FJ.schN ?_
 refine FJ.drawN (by kernel_rfl) ?_
 refine FJ.then_ (FJ.ret ?_)
 refine FJ.add (c := ownA kSl_2 [] [.slice none 0 0]) (fun w S => own_nil w S none) ?_
 refine FJ.doneS (res_ct (cs := [.int .i64 x7, .int .i64 (wd ws 1), .int .i64 (wd ws 2), .slice none 0 0, .slice Agz0 E.length cgz0]) rfl (.s16 (.s4 (.s4 (.s4 .z)))) ag_30 sz_30 (WS.rows0 (cs := [.int .i64 x7, .int .i64 (wd ws 1), .int .i64 (wd ws 2), .slice none 0 0, .slice Agz0 E.length cgz0]) (.s .z) (fun _ _ h => h)) .z) (.c .z (.c (.s (.s .z)) .n)) ?_
 exact ⟨(⟨x7, wd ws 1, wd ws 2, [], E⟩ : DInode), decide (packI (⟨x7, wd ws 1, wd ws 2, [], E⟩ : DInode) = ws), _, _, fun h => absurd h (by omega), fun _ => ⟨(by first | exact decide_eq_true ⟨by assumption, by assumption⟩ | (symm; apply decide_eq_false; rintro ⟨h1, h2⟩; first | contradiction | (simp_all; done)) | (simp_all; done)), by first | (exact sdec_k hx7 (by assumption) (hRI (by assumption)) (by omega)) | (have hE := hE0 (by assumption); subst hE; rw [subL_end]; exact sdec_1 hx7 (by assumption)) | (have hE := hE0 (by omega); subst hE; exact sdec_n hx7 (by omega) (by rintro ⟨h1, h2⟩; first | contradiction | omega))⟩, rfl, rfl⟩
 refine FJ.sch [(4, true), (5, true), (6, true), (7, true), (8, true), (9, false), (10, false)] 0 #[true, true, true, true, true, true, true, true, true, true, true] (by rfl) (by kernel_rfl) ?_
 refine FJ.dskip rfl rfl rfl .z rfl rfl (by decide) rfl (.s (.s .z)) ?_
 refine FJ.dskip rfl rfl rfl (.s .z) rfl rfl (by decide) rfl (.s (.s .z)) ?_
 refine FJ.dskip rfl rfl rfl (.s (.s .z)) rfl rfl (by decide) rfl (.s (.s .z)) ?_
 refine FJ.dskip rfl rfl rfl (.s (.s (.s .z))) rfl rfl (by decide) rfl (.s (.s .z)) ?_
 refine FJ.dq rfl rfl rfl (by decide) rfl (.s (.s .z)) (q_pickF rfl (.t (.s4 .z)) .c) ?_
 refine FJ.es (goes_sch rfl rfl) rfl (es_store (off := 0) (cs := [.int .i64 x7, .int .i64 (wd ws 1), .int .i64 (wd ws 2), .slice none 0 0, .slice Agz0 E.length cgz0]) rfl sz_30 (.t (.s16 (.s4 (.s4 (.s4 .z))))) (.t (.s4 (.s4 .z))) rfl (ones rfl) (.s .z) (Nat.le_of_ble_eq_true rfl) (.c .z (.c (.s .z) (.c (.s (.s .z)) (.c (.s (.s (.s .z))) (.c (.s (.s (.s (.s .z)))) .n)))))) ?_
 refine FJ.sk (.s (.s .z)) ?_
 refine FJ.er (.s16 (.s4 (.s4 (.s (.s (.s .z)))))) ?_
 refine FJ.q (goes_sch rfl rfl) rfl (by decide) rfl (q_assign rfl (.t .z)) ?_
 refine FJ.sl rfl ?_
 refine FJ.schN ?_
 refine FJ.drawN (by kernel_rfl) ?_
 refine FJ.then_ (FJ.ret ?_)
 refine FJ.add (c := ownA kSl_2 [] [.slice none 0 0]) (fun w S => own_nil w S none) ?_
 refine FJ.doneS (res_ct (cs := [.int .i64 x7, .int .i64 (wd ws 1), .int .i64 (wd ws 2), .slice none 0 0, .slice Agz0 E.length cgz0]) rfl (.s16 (.s4 (.s4 (.s4 .z)))) ag_30 sz_30 (WS.rows0 (cs := [.int .i64 x7, .int .i64 (wd ws 1), .int .i64 (wd ws 2), .slice none 0 0, .slice Agz0 E.length cgz0]) (.s .z) (fun _ _ h => h)) .z) (.c .z (.c (.s .z) .n)) ?_
 exact ⟨(⟨x7, wd ws 1, wd ws 2, [], E⟩ : DInode), false, _, _, fun h => absurd h (by omega), fun _ => ⟨(by first | exact decide_eq_true ⟨by assumption, by assumption⟩ | (symm; apply decide_eq_false; rintro ⟨h1, h2⟩; first | contradiction | (simp_all; done)) | (simp_all; done)), by first | (exact sdec_k hx7 (by assumption) (hRI (by assumption)) (by omega)) | (have hE := hE0 (by assumption); subst hE; rw [subL_end]; exact sdec_1 hx7 (by assumption)) | (have hE := hE0 (by omega); subst hE; exact sdec_n hx7 (by omega) (by rintro ⟨h1, h2⟩; first | contradiction | omega))⟩, rfl, rfl⟩
 refine FJ.skipl rfl rfl .z rfl rfl (by decide) rfl ?_
 refine FJ.skipl rfl rfl (.s .z) rfl rfl (by decide) rfl ?_
 refine FJ.skipl rfl rfl (.s (.s .z)) rfl rfl (by decide) rfl ?_
 refine FJ.skipl rfl rfl (.s (.s (.s .z))) rfl rfl (by decide) rfl ?_
 refine FJ.ql rfl (q_pickF rfl (.t (.s4 .z)) .c) (FJ.ql rfl (q_move rfl (.t .z)) ?_)
 refine FJ.skipl rfl rfl .z rfl rfl (by decide) rfl ?_
 refine FJ.skipl rfl rfl (.s .z) rfl rfl (by decide) rfl ?_
 refine FJ.skipl rfl rfl (.s (.s .z)) rfl rfl (by decide) rfl ?_
 refine FJ.skipl rfl rfl (.s (.s (.s .z))) rfl rfl (by decide) rfl ?_
 refine FJ.ql rfl (q_pickF rfl (.t (.s4 .z)) .c) (FJ.nil (FJ.then_ ?_))
 refine FJ.condF (.t .z) ?_
 refine FJ.exit (FJ.thenE (FJ.thenE (FJ.inB (FJ.then_ ?_))))
 refine FJ.seq ?_
 refine FJ.sel (.c .z (.c (.s .z) (.c .z .n))) ?_
 refine FJ.draw [rowA g9 30 5 1 [.int .i64 x7, .int .i64 (wd ws 1), .int .i64 (wd ws 2), .slice none 0 0, .slice Agz0 E.length cgz0]] 10 (by kernel_rfl) ?_
 refine FJ.sch [(0, true), (1, false), (2, true), (3, true)] 7 #[true, true, true, true, false, false, false, false, false, false, false] (by rfl) (by kernel_rfl) ?_
 refine FJ.dq rfl rfl rfl (by decide) rfl (.s (.s .z)) (q_loadA (cs := [.int .i64 x7, .int .i64 (wd ws 1), .int .i64 (wd ws 2), .slice none 0 0, .slice Agz0 E.length cgz0]) rfl ag_30 sz_30 (.t (.s16 (.s .z))) (WS.rows0 .z (fun i u h => by exact h))) ?_
 refine FJ.call (goes_sch rfl rfl) rfl (by decide) rfl (c_call rfl Try.func69 rfl rfl (args1 (.t (.s16 (.s (.s .z)))))) .n (fun w1 S1 hs tr => c_69 (tr.ptr (.s (.s .z)) (kT_30_mk (⟨x7, wd ws 1, wd ws 2, [], E⟩ : DInode) ro_nil (tr.own .z)))) ?_
 rintro _ _ ⟨rfl, rfl⟩
 refine FJ.cat .n ?_
 refine FJ.sk (.s (.s .z)) ?_
 refine FJ.dq rfl rfl rfl (by decide) rfl (.s (.s .z)) (q_eql rfl (.t .z) .c) (FJ.dq rfl rfl rfl (by decide) rfl (.s (.s .z)) (q_move rfl (.t .z)) (FJ.schN ?_))
 refine FJ.caseP .z (fun g53 => ?_) (fun g53 => ?_)
 refine FJ.sch [(4, true), (6, true), (5, false), (7, false), (8, true), (9, false), (10, false)] 0 #[true, true, true, true, true, true, true, true, true, true, true] (by rfl) (by kernel_rfl) ?_
 refine FJ.dqg rfl rfl rfl .z rfl (by decide) rfl (.s (.s .z)) (q_loadA (cs := [.int .i64 x7, .int .i64 (wd ws 1), .int .i64 (wd ws 2), .slice none 0 0, .slice Agz0 E.length cgz0]) rfl ag_30 sz_30 (.t (.s16 (.s4 (.s .z)))) (WS.rows0 .z (fun i u h => by exact h))) ?_
 refine FJ.dqg rfl rfl rfl (.s .z) rfl (by decide) rfl (.s (.s .z)) (q_move rfl (.t (.s16 (.s4 (.s4 (.s .z)))))) ?_
 refine FJ.call (goes_schg rfl rfl rfl (.s (.s .z))) rfl (by decide) rfl (c_call rfl Try.func87 rfl rfl (args1 (.t (.s .z)))) .n (fun w1 S1 hs tr => c_87 (kT_30_mk (⟨x7, wd ws 1, wd ws 2, [], E⟩ : DInode) ro_nil (tr.own .z)) (by assumption)) ?_
 rintro _ _ rfl
 refine FJ.cat (.c .n) ?_
 refine FJ.know (WS.oform .z) ?_
 rintro ⟨Ao55, co55, rfl, hlo55, hmo55, hbo55⟩
 refine FJ.sk (.s (.s (.s .z))) ?_
 refine FJ.call (goes_schg rfl rfl rfl (.s (.s (.s .z)))) rfl (by decide) rfl (c_call rfl Try.func113 rfl rfl (args2 (.t .z) (.t (.s .z)))) .n (fun w1 S1 hs tr => c_113 (tr.own .z) (tr.ctx h0)) ?_
 rintro _ _ ⟨rfl, rfl⟩
 refine FJ.cat .n ?_
 refine FJ.sk (.s (.s (.s .z))) ?_
 refine FJ.dq rfl rfl rfl (by decide) rfl (.s (.s (.s .z))) (q_pickT rfl (.t (.s4 .z)) (.t .z)) ?_
 refine FJ.es (goes_sch rfl rfl) rfl (es_store (off := 0) (cs := [.int .i64 x7, .int .i64 (wd ws 1), .int .i64 (wd ws 2), .slice none 0 0, .slice Agz0 E.length cgz0]) rfl sz_30 (.t (.s16 (.s4 (.s4 (.s4 .z))))) (.t (.s4 (.s4 .z))) rfl (ones rfl) (.s (.s .z)) (Nat.le_of_ble_eq_true rfl) (.c .z (.c (.s .z) (.c (.s (.s .z)) (.c (.s (.s (.s .z))) (.c (.s (.s (.s (.s .z)))) .n)))))) ?_
 refine FJ.sk (.s (.s (.s .z))) ?_
 refine FJ.er (.s16 (.s4 (.s4 (.s (.s (.s .z)))))) ?_
 refine FJ.q (goes_sch rfl rfl) rfl (by decide) rfl (q_assign rfl (.t .z)) ?_
 refine FJ.sl rfl ?_
 refine FJ.schN ?_
 refine FJ.drawN (by kernel_rfl) ?_
 refine FJ.then_ (FJ.ret ?_)
 refine FJ.add (c := ownA kSl_2 [] [.slice none 0 0]) (fun w S => own_nil w S none) ?_
 refine FJ.doneS (res_ct (cs := [.int .i64 x7, .int .i64 (wd ws 1), .int .i64 (wd ws 2), .slice none 0 0, .slice Agz0 E.length cgz0]) rfl (.s16 (.s4 (.s4 (.s4 .z)))) ag_30 sz_30 (WS.rows0 (cs := [.int .i64 x7, .int .i64 (wd ws 1), .int .i64 (wd ws 2), .slice none 0 0, .slice Agz0 E.length cgz0]) (.s .z) (fun _ _ h => h)) .z) (.c .z (.c (.s (.s .z)) .n)) ?_
 exact ⟨(⟨x7, wd ws 1, wd ws 2, [], E⟩ : DInode), decide (packI (⟨x7, wd ws 1, wd ws 2, [], E⟩ : DInode) = ws), _, _, fun h => absurd h (by omega), fun _ => ⟨(by first | exact decide_eq_true ⟨by assumption, by assumption⟩ | (symm; apply decide_eq_false; rintro ⟨h1, h2⟩; first | contradiction | (simp_all; done)) | (simp_all; done)), by first | (exact sdec_k hx7 (by assumption) (hRI (by assumption)) (by omega)) | (have hE := hE0 (by assumption); subst hE; rw [subL_end]; exact sdec_1 hx7 (by assumption)) | (have hE := hE0 (by omega); subst hE; exact sdec_n hx7 (by omega) (by rintro ⟨h1, h2⟩; first | contradiction | omega))⟩, rfl, rfl⟩
 refine FJ.sch [(4, true), (5, true), (6, true), (7, true), (8, true), (9, false), (10, false)] 0 #[true, true, true, true, true, true, true, true, true, true, true] (by rfl) (by kernel_rfl) ?_
 refine FJ.dskip rfl rfl rfl .z rfl rfl (by decide) rfl (.s (.s .z)) ?_
 refine FJ.dskip rfl rfl rfl (.s .z) rfl rfl (by decide) rfl (.s (.s .z)) ?_
 refine FJ.dskip rfl rfl rfl (.s (.s .z)) rfl rfl (by decide) rfl (.s (.s .z)) ?_
 refine FJ.dskip rfl rfl rfl (.s (.s (.s .z))) rfl rfl (by decide) rfl (.s (.s .z)) ?_
 refine FJ.dq rfl rfl rfl (by decide) rfl (.s (.s .z)) (q_pickF rfl (.t (.s4 .z)) .c) ?_
 refine FJ.es (goes_sch rfl rfl) rfl (es_store (off := 0) (cs := [.int .i64 x7, .int .i64 (wd ws 1), .int .i64 (wd ws 2), .slice none 0 0, .slice Agz0 E.length cgz0]) rfl sz_30 (.t (.s16 (.s4 (.s4 (.s4 .z))))) (.t (.s4 (.s4 .z))) rfl (ones rfl) (.s .z) (Nat.le_of_ble_eq_true rfl) (.c .z (.c (.s .z) (.c (.s (.s .z)) (.c (.s (.s (.s .z))) (.c (.s (.s (.s (.s .z)))) .n)))))) ?_
 refine FJ.sk (.s (.s .z)) ?_
 refine FJ.er (.s16 (.s4 (.s4 (.s (.s (.s .z)))))) ?_
 refine FJ.q (goes_sch rfl rfl) rfl (by decide) rfl (q_assign rfl (.t .z)) ?_
 refine FJ.sl rfl ?_
 refine FJ.schN ?_
 refine FJ.drawN (by kernel_rfl) ?_
 refine FJ.then_ (FJ.ret ?_)
 refine FJ.add (c := ownA kSl_2 [] [.slice none 0 0]) (fun w S => own_nil w S none) ?_
 refine FJ.doneS (res_ct (cs := [.int .i64 x7, .int .i64 (wd ws 1), .int .i64 (wd ws 2), .slice none 0 0, .slice Agz0 E.length cgz0]) rfl (.s16 (.s4 (.s4 (.s4 .z)))) ag_30 sz_30 (WS.rows0 (cs := [.int .i64 x7, .int .i64 (wd ws 1), .int .i64 (wd ws 2), .slice none 0 0, .slice Agz0 E.length cgz0]) (.s .z) (fun _ _ h => h)) .z) (.c .z (.c (.s .z) .n)) ?_
 exact ⟨(⟨x7, wd ws 1, wd ws 2, [], E⟩ : DInode), false, _, _, fun h => absurd h (by omega), fun _ => ⟨(by first | exact decide_eq_true ⟨by assumption, by assumption⟩ | (symm; apply decide_eq_false; rintro ⟨h1, h2⟩; first | contradiction | (simp_all; done)) | (simp_all; done)), by first | (exact sdec_k hx7 (by assumption) (hRI (by assumption)) (by omega)) | (have hE := hE0 (by assumption); subst hE; rw [subL_end]; exact sdec_1 hx7 (by assumption)) | (have hE := hE0 (by omega); subst hE; exact sdec_n hx7 (by omega) (by rintro ⟨h1, h2⟩; first | contradiction | omega))⟩, rfl, rfl⟩
 refine FJ.e (goes_sch rfl rfl) rfl (by decide) rfl (e_alloc rfl z_30 rfl rfl) ?_
 rintro _ _ ⟨g58, rfl, rfl⟩
 refine FJ.sk (.s .z) ?_
 refine FJ.schN ?_
 refine FJ.sch [(6, false), (7, true), (9, false)] 0 #[true, true, true, true, true, true, true, true, true, true] (by rfl) (by kernel_rfl) ?_
 refine FJ.call (goes_sch rfl rfl) rfl (by decide) rfl (c_call rfl Try.func132 rfl rfl (args2 (.t (.s (.s .z))) .c)) .n (fun w1 S1 hs tr => c_132 (tr.ctx h0) 2 (by omega)) ?_
 rintro _ _ ⟨rfl, rfl⟩
 refine FJ.cat .n ?_
 refine FJ.sk (.s .z) ?_
 refine FJ.dq rfl rfl rfl (by decide) rfl (.s .z) (q_build (ps := [(0, .int .i64 x7), (1, .int .i64 (wd ws 1)), (2, .int .i64 (wd ws 2))]) (cs := [.int .i64 x7, .int .i64 (wd ws 1), .int .i64 (wd ws 2), .slice none 0 0, .slice none 0 0]) rfl bl_30 (by intro act hact; simp only [List.map_toArray, List.map_cons, List.map_nil, (show Val _ _ _ from (.t (.s4 (.s .z)))) act hact, (show Val _ _ _ from (.t (.s (.s .z)))) act hact, (show Val _ _ _ from (.t .z)) act hact]) rfl) ?_
 refine FJ.es (goes_sch rfl rfl) rfl (es_store (off := 0) (cs := [.int .i64 x7, .int .i64 (wd ws 1), .int .i64 (wd ws 2), .slice none 0 0, .slice none 0 0]) rfl sz_30 (.t (.s (.s .z))) (.t .z) rfl (ones rfl) .z (Nat.le_of_ble_eq_true rfl) (.c .z (.c (.s .z) (.c (.s (.s .z)) (.c (.s (.s (.s .z))) (.c (.s (.s (.s (.s .z)))) .n)))))) ?_
 refine FJ.sl rfl ?_
 refine FJ.schN ?_
 refine FJ.drawN (by kernel_rfl) ?_
 refine FJ.then_ (FJ.seq (FJ.seq (FJ.region (FJ.ql rfl (q_fieldAddr rfl (.t (.s (.s .z))) (fun _ => fa_30_0 _ _)) ?_))))
 refine FJ.ql rfl (q_load rfl ag_2 (.t .z) (WS.row .z rfl)) (FJ.ql rfl (q_eql rfl (.t .z) .c) (FJ.ql rfl (q_move rfl (.t .z)) ?_))
 refine FJ.caseP .z (fun g59 => ?_) (fun g59 => ?_)
 refine FJ.q (goes_listg rfl rfl .z) rfl (by decide) rfl (q_move rfl (.t (.s16 (.s (.s .z))))) ?_
 refine FJ.q (goes_listg rfl rfl (.s .z)) rfl (by decide) rfl (q_len rfl u_22 (.t .z)) ?_
 refine FJ.q (goes_listg rfl rfl (.s (.s .z))) rfl (by decide) rfl (q_gtr rfl (.t .z) .c) ?_
 refine FJ.ql rfl (q_pickT rfl (.t (.s (.s (.s .z)))) (.t .z)) (FJ.nil (FJ.then_ ?_))
 refine FJ.condP (.t .z) (fun b60 => ?_) (fun b60 => ?_)
 refine FJ.region (FJ.ql rfl (q_move rfl (.t (.s16 (.s4 (.s (.s .z)))))) ?_)
 obtain ⟨As61, hAs61⟩ : ∃ A' : Option Addr, A' = (if c0 = 3 then (some ad6) else Option.map (fun z => Addr.add z (3 * 1)) (some ad6)) := ⟨_, rfl⟩
 have hs61 := ro_sub (a := 3) (b := ws.length) hAs61 h0 (by omega) (by omega)
 have ls61 := subL_len (xs := ws) (a := 3) (b := ws.length) (by omega)
 refine FJ.ql rfl (q_sliceL (a := 3) (b := ws.length) rfl u_22 sz_2 (.t .z) hAs61 (.inr ⟨_, _, rfl, .c⟩) (.inl ⟨rfl, rfl⟩) (by omega) (by omega) (by omega)) ?_
 refine FJ.call (goes_list rfl) rfl (by decide) rfl (c_call rfl Try.func133 rfl rfl (args1 (.t .z))) .n (fun w1 S1 hs tr => c_133 (tr.ctx hs61)) ?_
 rintro _ _ rfl
 refine FJ.cat (.c .n) ?_
 refine FJ.know (WS.oform .z) ?_
 rintro ⟨Ao64, co64, rfl, hlo64, hmo64, hbo64⟩
 refine FJ.ql rfl (q_fieldAddr rfl (.t (.s4 (.s4 (.s4 (.s .z))))) (fun _ => fa_30_3 _ _)) ?_
 refine FJ.es (goes_list rfl) rfl (es_store (off := 3) (cs := [.slice Ao64 (subL ws 3 ws.length).length co64]) rfl sz_22 (.t .z) (.t (.s .z)) rfl (ones rfl) (.s .z) (Nat.le_of_ble_eq_true rfl) (.c (.s (.s (.s .z))) .n)) ?_
 refine FJ.nil (FJ.then_ (FJ.seq (FJ.region (FJ.ql rfl (q_assign rfl .c) ?_))))
 refine FJ.nil (FJ.then_ (FJ.seq (FJ.seq (FJ.region ?_))))
 refine FJ.ql rfl (q_assign rfl .c) (FJ.nil (FJ.then_ (FJ.block ?_)))
 refine FJ.add (c := ownA kSl_130 [] [.slice none 0 0]) (fun w S => own_nil w S none) ?_
 refine FJ.loopi (γ := (Option Addr) × Nat × Nat × Nat × (List DEnt)) (fun ⟨Agz0, cgz0, p, k, E⟩ => [(6, .int .i64 (k : Int)), (5, .int .i64 (p : Int)), (4, .pointer (some ⟨g58, 0, none⟩)), (3, .bool false), (2, .pointer (some ⟨g2, 0, none⟩)), (0, .slice (some ad6) ws.length c0)]) (fun ⟨Agz0, cgz0, p, k, E⟩ => [ownA kSl_130 E [.slice Agz0 E.length cgz0], rowA g58 30 5 1 [.int .i64 x7, .int .i64 (wd ws 1), .int .i64 (wd ws 2), .slice Ao64 (subL ws 3 ws.length).length co64, .slice Agz0 E.length cgz0], ownA kSl_2 (subL ws 3 ws.length) [.slice Ao64 (subL ws 3 ws.length).length co64], rowA g2 30 5 1 [.int .i64 0, .int .i64 0, .int .i64 0, .slice none 0 0, .slice none 0 0]]) (fun ⟨Agz0, cgz0, p, k, E⟩ => E.length = k ∧ 4 + 2 * k ≤ p ∧ p ≤ ws.length + 14 ∧ (¬ x7 = 2 → E = []) ∧ (x7 = 2 → ∀ y, Vd ws y → RI y E (ws.drop p))) (fun ⟨Agz0, cgz0, p, k, E⟩ => ws.length - p) (none, 0, 4, 0, []) ⟨rfl, by omega, by omega, fun _ => rfl, ri_w0 hx7⟩ (.c .z (.c (.s .z) (.c (.s16 .z) (.c (.s16 (.s4 (.s4 (.s (.s .z))))) (.c (.s16 (.s4 (.s4 (.s (.s (.s .z)))))) (.c (.s16 (.s4 (.s4 (.s4 .z)))) .n)))))) (fun _ h => h.sel (.c .z (.c .z (.c .z (.c .z .n))))) ?_
 rintro ⟨Agz0, cgz0, p, k, E⟩ ⟨hEk, hkp, hpl, hE0, hRI⟩
 have hwp := wd_rng hwv (p + 1)
 refine FJ.seq (FJ.seq (FJ.region (FJ.ql rfl (q_fieldAddr rfl (.t (.s (.s .z))) (fun _ => fa_30_0 _ _)) (FJ.ql rfl (q_load rfl ag_2 (.t .z) (WS.row (.s .z) rfl)) ?_))))
 refine FJ.ql rfl (q_eql rfl (.t .z) .c) (FJ.ql rfl (q_move rfl (.t .z)) ?_)
 refine FJ.caseP .z (fun g66 => ?_) (fun g66 => ?_)
 exfalso; first | omega | contradiction
 refine FJ.skipl rfl rfl .z rfl rfl (by decide) rfl ?_
 refine FJ.skipl rfl rfl (.s .z) rfl rfl (by decide) rfl ?_
 refine FJ.skipl rfl rfl (.s (.s .z)) rfl rfl (by decide) rfl ?_
 refine FJ.skipl rfl rfl (.s (.s (.s .z))) rfl rfl (by decide) rfl ?_
 refine FJ.ql rfl (q_pickF rfl (.t (.s4 .z)) .c) (FJ.ql rfl (q_move rfl (.t .z)) ?_)
 refine FJ.skipl rfl rfl .z rfl rfl (by decide) rfl ?_
 refine FJ.skipl rfl rfl (.s .z) rfl rfl (by decide) rfl ?_
 refine FJ.skipl rfl rfl (.s (.s .z)) rfl rfl (by decide) rfl ?_
 refine FJ.skipl rfl rfl (.s (.s (.s .z))) rfl rfl (by decide) rfl ?_
 refine FJ.ql rfl (q_pickF rfl (.t (.s4 .z)) .c) (FJ.nil (FJ.then_ ?_))
 refine FJ.condF (.t .z) ?_
 refine FJ.exit (FJ.thenE (FJ.thenE (FJ.inB (FJ.then_ ?_))))
 refine FJ.seq ?_
 refine FJ.sel (.c .z (.c (.s .z) (.c (.s .z) (.c .z .n)))) ?_
 refine FJ.draw [rowA g58 30 5 1 [.int .i64 x7, .int .i64 (wd ws 1), .int .i64 (wd ws 2), .slice Ao64 (subL ws 3 ws.length).length co64, .slice Agz0 E.length cgz0]] 10 (by kernel_rfl) ?_
 refine FJ.sch [(0, true), (1, false), (2, true), (3, true)] 7 #[true, true, true, true, false, false, false, false, false, false, false] (by rfl) (by kernel_rfl) ?_
 refine FJ.dq rfl rfl rfl (by decide) rfl (.s (.s (.s .z))) (q_loadA (cs := [.int .i64 x7, .int .i64 (wd ws 1), .int .i64 (wd ws 2), .slice Ao64 (subL ws 3 ws.length).length co64, .slice Agz0 E.length cgz0]) rfl ag_30 sz_30 (.t (.s16 (.s .z))) (WS.rows0 .z (fun i u h => by exact h))) ?_
 refine FJ.call (goes_sch rfl rfl) rfl (by decide) rfl (c_call rfl Try.func69 rfl rfl (args1 (.t (.s16 (.s (.s .z)))))) .n (fun w1 S1 hs tr => c_69 (tr.ptr (.s (.s (.s .z))) (kT_30_mk (⟨x7, wd ws 1, wd ws 2, (subL ws 3 ws.length), E⟩ : DInode) (tr.own (.s .z)) (tr.own .z)))) ?_
 rintro _ _ ⟨rfl, rfl⟩
 refine FJ.cat .n ?_
 refine FJ.sk (.s (.s (.s .z))) ?_
 refine FJ.dq rfl rfl rfl (by decide) rfl (.s (.s (.s .z))) (q_eql rfl (.t .z) .c) (FJ.dq rfl rfl rfl (by decide) rfl (.s (.s (.s .z))) (q_move rfl (.t .z)) (FJ.schN ?_))
 refine FJ.caseP .z (fun g67 => ?_) (fun g67 => ?_)
 refine FJ.sch [(4, true), (6, true), (5, false), (7, false), (8, true), (9, false), (10, false)] 0 #[true, true, true, true, true, true, true, true, true, true, true] (by rfl) (by kernel_rfl) ?_
 refine FJ.dqg rfl rfl rfl .z rfl (by decide) rfl (.s (.s (.s .z))) (q_loadA (cs := [.int .i64 x7, .int .i64 (wd ws 1), .int .i64 (wd ws 2), .slice Ao64 (subL ws 3 ws.length).length co64, .slice Agz0 E.length cgz0]) rfl ag_30 sz_30 (.t (.s16 (.s4 (.s .z)))) (WS.rows0 .z (fun i u h => by exact h))) ?_
 refine FJ.dqg rfl rfl rfl (.s .z) rfl (by decide) rfl (.s (.s (.s .z))) (q_move rfl (.t (.s16 (.s4 (.s4 (.s .z)))))) ?_
 refine FJ.call (goes_schg rfl rfl rfl (.s (.s .z))) rfl (by decide) rfl (c_call rfl Try.func87 rfl rfl (args1 (.t (.s .z)))) .n (fun w1 S1 hs tr => c_87 (kT_30_mk (⟨x7, wd ws 1, wd ws 2, (subL ws 3 ws.length), E⟩ : DInode) (tr.own (.s .z)) (tr.own .z)) (by assumption)) ?_
 rintro _ _ rfl
 refine FJ.cat (.c .n) ?_
 refine FJ.know (WS.oform .z) ?_
 rintro ⟨Ao69, co69, rfl, hlo69, hmo69, hbo69⟩
 refine FJ.sk (.s4 .z) ?_
 refine FJ.call (goes_schg rfl rfl rfl (.s (.s (.s .z)))) rfl (by decide) rfl (c_call rfl Try.func113 rfl rfl (args2 (.t .z) (.t (.s .z)))) .n (fun w1 S1 hs tr => c_113 (tr.own .z) (tr.ctx h0)) ?_
 rintro _ _ ⟨rfl, rfl⟩
 refine FJ.cat .n ?_
 refine FJ.sk (.s4 .z) ?_
 refine FJ.dq rfl rfl rfl (by decide) rfl (.s4 .z) (q_pickT rfl (.t (.s4 .z)) (.t .z)) ?_
 refine FJ.es (goes_sch rfl rfl) rfl (es_store (off := 0) (cs := [.int .i64 x7, .int .i64 (wd ws 1), .int .i64 (wd ws 2), .slice Ao64 (subL ws 3 ws.length).length co64, .slice Agz0 E.length cgz0]) rfl sz_30 (.t (.s16 (.s4 (.s4 (.s4 .z))))) (.t (.s4 (.s4 .z))) rfl (ones rfl) (.s (.s (.s .z))) (Nat.le_of_ble_eq_true rfl) (.c .z (.c (.s .z) (.c (.s (.s .z)) (.c (.s (.s (.s .z))) (.c (.s (.s (.s (.s .z)))) .n)))))) ?_
 refine FJ.sk (.s4 .z) ?_
 refine FJ.er (.s16 (.s4 (.s4 (.s (.s (.s .z)))))) ?_
 refine FJ.q (goes_sch rfl rfl) rfl (by decide) rfl (q_assign rfl (.t .z)) ?_
 refine FJ.sl rfl ?_
 refine FJ.schN ?_
 refine FJ.drawN (by kernel_rfl) ?_
 refine FJ.then_ (FJ.ret ?_)
 refine FJ.doneS (res_ct (cs := [.int .i64 x7, .int .i64 (wd ws 1), .int .i64 (wd ws 2), .slice Ao64 (subL ws 3 ws.length).length co64, .slice Agz0 E.length cgz0]) rfl (.s16 (.s4 (.s4 (.s4 .z)))) ag_30 sz_30 (WS.rows0 (cs := [.int .i64 x7, .int .i64 (wd ws 1), .int .i64 (wd ws 2), .slice Ao64 (subL ws 3 ws.length).length co64, .slice Agz0 E.length cgz0]) .z (fun _ _ h => h)) .z) (.c (.s (.s (.s .z))) (.c (.s (.s .z)) .n)) ?_
 exact ⟨(⟨x7, wd ws 1, wd ws 2, (subL ws 3 ws.length), E⟩ : DInode), decide (packI (⟨x7, wd ws 1, wd ws 2, (subL ws 3 ws.length), E⟩ : DInode) = ws), _, _, fun h => absurd h (by omega), fun _ => ⟨(by first | exact decide_eq_true ⟨by assumption, by assumption⟩ | (symm; apply decide_eq_false; rintro ⟨h1, h2⟩; first | contradiction | (simp_all; done)) | (simp_all; done)), by first | (exact sdec_k hx7 (by assumption) (hRI (by assumption)) (by omega)) | (have hE := hE0 (by assumption); subst hE; rw [subL_end]; exact sdec_1 hx7 (by assumption)) | (have hE := hE0 (by omega); subst hE; exact sdec_n hx7 (by omega) (by rintro ⟨h1, h2⟩; first | contradiction | omega))⟩, rfl, rfl⟩
 refine FJ.sch [(4, true), (5, true), (6, true), (7, true), (8, true), (9, false), (10, false)] 0 #[true, true, true, true, true, true, true, true, true, true, true] (by rfl) (by kernel_rfl) ?_
 refine FJ.dskip rfl rfl rfl .z rfl rfl (by decide) rfl (.s (.s (.s .z))) ?_
 refine FJ.dskip rfl rfl rfl (.s .z) rfl rfl (by decide) rfl (.s (.s (.s .z))) ?_
 refine FJ.dskip rfl rfl rfl (.s (.s .z)) rfl rfl (by decide) rfl (.s (.s (.s .z))) ?_
 refine FJ.dskip rfl rfl rfl (.s (.s (.s .z))) rfl rfl (by decide) rfl (.s (.s (.s .z))) ?_
 refine FJ.dq rfl rfl rfl (by decide) rfl (.s (.s (.s .z))) (q_pickF rfl (.t (.s4 .z)) .c) ?_
 refine FJ.es (goes_sch rfl rfl) rfl (es_store (off := 0) (cs := [.int .i64 x7, .int .i64 (wd ws 1), .int .i64 (wd ws 2), .slice Ao64 (subL ws 3 ws.length).length co64, .slice Agz0 E.length cgz0]) rfl sz_30 (.t (.s16 (.s4 (.s4 (.s4 .z))))) (.t (.s4 (.s4 .z))) rfl (ones rfl) (.s (.s .z)) (Nat.le_of_ble_eq_true rfl) (.c .z (.c (.s .z) (.c (.s (.s .z)) (.c (.s (.s (.s .z))) (.c (.s (.s (.s (.s .z)))) .n)))))) ?_
 refine FJ.sk (.s (.s (.s .z))) ?_
 refine FJ.er (.s16 (.s4 (.s4 (.s (.s (.s .z)))))) ?_
 refine FJ.q (goes_sch rfl rfl) rfl (by decide) rfl (q_assign rfl (.t .z)) ?_
 refine FJ.sl rfl ?_
 refine FJ.schN ?_
 refine FJ.drawN (by kernel_rfl) ?_
 refine FJ.then_ (FJ.ret ?_)
 refine FJ.doneS (res_ct (cs := [.int .i64 x7, .int .i64 (wd ws 1), .int .i64 (wd ws 2), .slice Ao64 (subL ws 3 ws.length).length co64, .slice Agz0 E.length cgz0]) rfl (.s16 (.s4 (.s4 (.s4 .z)))) ag_30 sz_30 (WS.rows0 (cs := [.int .i64 x7, .int .i64 (wd ws 1), .int .i64 (wd ws 2), .slice Ao64 (subL ws 3 ws.length).length co64, .slice Agz0 E.length cgz0]) .z (fun _ _ h => h)) .z) (.c (.s (.s .z)) (.c (.s .z) .n)) ?_
 exact ⟨(⟨x7, wd ws 1, wd ws 2, (subL ws 3 ws.length), E⟩ : DInode), false, _, _, fun h => absurd h (by omega), fun _ => ⟨(by first | exact decide_eq_true ⟨by assumption, by assumption⟩ | (symm; apply decide_eq_false; rintro ⟨h1, h2⟩; first | contradiction | (simp_all; done)) | (simp_all; done)), by first | (exact sdec_k hx7 (by assumption) (hRI (by assumption)) (by omega)) | (have hE := hE0 (by assumption); subst hE; rw [subL_end]; exact sdec_1 hx7 (by assumption)) | (have hE := hE0 (by omega); subst hE; exact sdec_n hx7 (by omega) (by rintro ⟨h1, h2⟩; first | contradiction | omega))⟩, rfl, rfl⟩
 refine FJ.skip (FJ.then_ (FJ.seq (FJ.region (FJ.ql rfl (q_assign rfl .c) ?_))))
 refine FJ.nil (FJ.then_ (FJ.seq (FJ.seq (FJ.region ?_))))
 refine FJ.ql rfl (q_assign rfl .c) (FJ.nil (FJ.then_ (FJ.block ?_)))
 refine FJ.add (c := ownA kSl_130 [] [.slice none 0 0]) (fun w S => own_nil w S none) ?_
 refine FJ.loopi (γ := (Option Addr) × Nat × Nat × Nat × (List DEnt)) (fun ⟨Agz0, cgz0, p, k, E⟩ => [(6, .int .i64 (k : Int)), (5, .int .i64 (p : Int)), (4, .pointer (some ⟨g58, 0, none⟩)), (3, .bool false), (2, .pointer (some ⟨g2, 0, none⟩)), (0, .slice (some ad6) ws.length c0)]) (fun ⟨Agz0, cgz0, p, k, E⟩ => [ownA kSl_130 E [.slice Agz0 E.length cgz0], rowA g58 30 5 1 [.int .i64 x7, .int .i64 (wd ws 1), .int .i64 (wd ws 2), .slice none 0 0, .slice Agz0 E.length cgz0], rowA g2 30 5 1 [.int .i64 0, .int .i64 0, .int .i64 0, .slice none 0 0, .slice none 0 0]]) (fun ⟨Agz0, cgz0, p, k, E⟩ => E.length = k ∧ 4 + 2 * k ≤ p ∧ p ≤ ws.length + 14 ∧ (¬ x7 = 2 → E = []) ∧ (x7 = 2 → ∀ y, Vd ws y → RI y E (ws.drop p))) (fun ⟨Agz0, cgz0, p, k, E⟩ => ws.length - p) (none, 0, 4, 0, []) ⟨rfl, by omega, by omega, fun _ => rfl, ri_w0 hx7⟩ (.c .z (.c (.s .z) (.c (.s4 (.s4 (.s4 .z))) (.c (.s16 (.s4 (.s (.s .z)))) (.c (.s16 (.s4 (.s (.s (.s .z))))) (.c (.s16 (.s4 (.s4 .z))) .n)))))) (fun _ h => h.sel (.c .z (.c .z (.c .z .n)))) ?_
 rintro ⟨Agz0, cgz0, p, k, E⟩ ⟨hEk, hkp, hpl, hE0, hRI⟩
 have hwp := wd_rng hwv (p + 1)
 refine FJ.seq (FJ.seq (FJ.region (FJ.ql rfl (q_fieldAddr rfl (.t (.s (.s .z))) (fun _ => fa_30_0 _ _)) (FJ.ql rfl (q_load rfl ag_2 (.t .z) (WS.row (.s .z) rfl)) ?_))))
 refine FJ.ql rfl (q_eql rfl (.t .z) .c) (FJ.ql rfl (q_move rfl (.t .z)) ?_)
 refine FJ.caseP .z (fun g71 => ?_) (fun g71 => ?_)
 exfalso; first | omega | contradiction
 refine FJ.skipl rfl rfl .z rfl rfl (by decide) rfl ?_
 refine FJ.skipl rfl rfl (.s .z) rfl rfl (by decide) rfl ?_
 refine FJ.skipl rfl rfl (.s (.s .z)) rfl rfl (by decide) rfl ?_
 refine FJ.skipl rfl rfl (.s (.s (.s .z))) rfl rfl (by decide) rfl ?_
 refine FJ.ql rfl (q_pickF rfl (.t (.s4 .z)) .c) (FJ.ql rfl (q_move rfl (.t .z)) ?_)
 refine FJ.skipl rfl rfl .z rfl rfl (by decide) rfl ?_
 refine FJ.skipl rfl rfl (.s .z) rfl rfl (by decide) rfl ?_
 refine FJ.skipl rfl rfl (.s (.s .z)) rfl rfl (by decide) rfl ?_
 refine FJ.skipl rfl rfl (.s (.s (.s .z))) rfl rfl (by decide) rfl ?_
 refine FJ.ql rfl (q_pickF rfl (.t (.s4 .z)) .c) (FJ.nil (FJ.then_ ?_))
 refine FJ.condF (.t .z) ?_
 refine FJ.exit (FJ.thenE (FJ.thenE (FJ.inB (FJ.then_ ?_))))
 refine FJ.seq ?_
 refine FJ.sel (.c .z (.c (.s .z) (.c .z .n))) ?_
 refine FJ.draw [rowA g58 30 5 1 [.int .i64 x7, .int .i64 (wd ws 1), .int .i64 (wd ws 2), .slice none 0 0, .slice Agz0 E.length cgz0]] 10 (by kernel_rfl) ?_
 refine FJ.sch [(0, true), (1, false), (2, true), (3, true)] 7 #[true, true, true, true, false, false, false, false, false, false, false] (by rfl) (by kernel_rfl) ?_
 refine FJ.dq rfl rfl rfl (by decide) rfl (.s (.s .z)) (q_loadA (cs := [.int .i64 x7, .int .i64 (wd ws 1), .int .i64 (wd ws 2), .slice none 0 0, .slice Agz0 E.length cgz0]) rfl ag_30 sz_30 (.t (.s16 (.s .z))) (WS.rows0 .z (fun i u h => by exact h))) ?_
 refine FJ.call (goes_sch rfl rfl) rfl (by decide) rfl (c_call rfl Try.func69 rfl rfl (args1 (.t (.s16 (.s (.s .z)))))) .n (fun w1 S1 hs tr => c_69 (tr.ptr (.s (.s .z)) (kT_30_mk (⟨x7, wd ws 1, wd ws 2, [], E⟩ : DInode) ro_nil (tr.own .z)))) ?_
 rintro _ _ ⟨rfl, rfl⟩
 refine FJ.cat .n ?_
 refine FJ.sk (.s (.s .z)) ?_
 refine FJ.dq rfl rfl rfl (by decide) rfl (.s (.s .z)) (q_eql rfl (.t .z) .c) (FJ.dq rfl rfl rfl (by decide) rfl (.s (.s .z)) (q_move rfl (.t .z)) (FJ.schN ?_))
 refine FJ.caseP .z (fun g72 => ?_) (fun g72 => ?_)
 refine FJ.sch [(4, true), (6, true), (5, false), (7, false), (8, true), (9, false), (10, false)] 0 #[true, true, true, true, true, true, true, true, true, true, true] (by rfl) (by kernel_rfl) ?_
 refine FJ.dqg rfl rfl rfl .z rfl (by decide) rfl (.s (.s .z)) (q_loadA (cs := [.int .i64 x7, .int .i64 (wd ws 1), .int .i64 (wd ws 2), .slice none 0 0, .slice Agz0 E.length cgz0]) rfl ag_30 sz_30 (.t (.s16 (.s4 (.s .z)))) (WS.rows0 .z (fun i u h => by exact h))) ?_
 refine FJ.dqg rfl rfl rfl (.s .z) rfl (by decide) rfl (.s (.s .z)) (q_move rfl (.t (.s16 (.s4 (.s4 (.s .z)))))) ?_
 refine FJ.call (goes_schg rfl rfl rfl (.s (.s .z))) rfl (by decide) rfl (c_call rfl Try.func87 rfl rfl (args1 (.t (.s .z)))) .n (fun w1 S1 hs tr => c_87 (kT_30_mk (⟨x7, wd ws 1, wd ws 2, [], E⟩ : DInode) ro_nil (tr.own .z)) (by assumption)) ?_
 rintro _ _ rfl
 refine FJ.cat (.c .n) ?_
 refine FJ.know (WS.oform .z) ?_
 rintro ⟨Ao74, co74, rfl, hlo74, hmo74, hbo74⟩
 refine FJ.sk (.s (.s (.s .z))) ?_
 refine FJ.call (goes_schg rfl rfl rfl (.s (.s (.s .z)))) rfl (by decide) rfl (c_call rfl Try.func113 rfl rfl (args2 (.t .z) (.t (.s .z)))) .n (fun w1 S1 hs tr => c_113 (tr.own .z) (tr.ctx h0)) ?_
 rintro _ _ ⟨rfl, rfl⟩
 refine FJ.cat .n ?_
 refine FJ.sk (.s (.s (.s .z))) ?_
 refine FJ.dq rfl rfl rfl (by decide) rfl (.s (.s (.s .z))) (q_pickT rfl (.t (.s4 .z)) (.t .z)) ?_
 refine FJ.es (goes_sch rfl rfl) rfl (es_store (off := 0) (cs := [.int .i64 x7, .int .i64 (wd ws 1), .int .i64 (wd ws 2), .slice none 0 0, .slice Agz0 E.length cgz0]) rfl sz_30 (.t (.s16 (.s4 (.s4 (.s4 .z))))) (.t (.s4 (.s4 .z))) rfl (ones rfl) (.s (.s .z)) (Nat.le_of_ble_eq_true rfl) (.c .z (.c (.s .z) (.c (.s (.s .z)) (.c (.s (.s (.s .z))) (.c (.s (.s (.s (.s .z)))) .n)))))) ?_
 refine FJ.sk (.s (.s (.s .z))) ?_
 refine FJ.er (.s16 (.s4 (.s4 (.s (.s (.s .z)))))) ?_
 refine FJ.q (goes_sch rfl rfl) rfl (by decide) rfl (q_assign rfl (.t .z)) ?_
 refine FJ.sl rfl ?_
 refine FJ.schN ?_
 refine FJ.drawN (by kernel_rfl) ?_
 refine FJ.then_ (FJ.ret ?_)
 refine FJ.add (c := ownA kSl_2 [] [.slice none 0 0]) (fun w S => own_nil w S none) ?_
 refine FJ.doneS (res_ct (cs := [.int .i64 x7, .int .i64 (wd ws 1), .int .i64 (wd ws 2), .slice none 0 0, .slice Agz0 E.length cgz0]) rfl (.s16 (.s4 (.s4 (.s4 .z)))) ag_30 sz_30 (WS.rows0 (cs := [.int .i64 x7, .int .i64 (wd ws 1), .int .i64 (wd ws 2), .slice none 0 0, .slice Agz0 E.length cgz0]) (.s .z) (fun _ _ h => h)) .z) (.c .z (.c (.s (.s .z)) .n)) ?_
 exact ⟨(⟨x7, wd ws 1, wd ws 2, [], E⟩ : DInode), decide (packI (⟨x7, wd ws 1, wd ws 2, [], E⟩ : DInode) = ws), _, _, fun h => absurd h (by omega), fun _ => ⟨(by first | exact decide_eq_true ⟨by assumption, by assumption⟩ | (symm; apply decide_eq_false; rintro ⟨h1, h2⟩; first | contradiction | (simp_all; done)) | (simp_all; done)), by first | (exact sdec_k hx7 (by assumption) (hRI (by assumption)) (by omega)) | (have hE := hE0 (by assumption); subst hE; rw [subL_end]; exact sdec_1 hx7 (by assumption)) | (have hE := hE0 (by omega); subst hE; exact sdec_n hx7 (by omega) (by rintro ⟨h1, h2⟩; first | contradiction | omega))⟩, rfl, rfl⟩
 refine FJ.sch [(4, true), (5, true), (6, true), (7, true), (8, true), (9, false), (10, false)] 0 #[true, true, true, true, true, true, true, true, true, true, true] (by rfl) (by kernel_rfl) ?_
 refine FJ.dskip rfl rfl rfl .z rfl rfl (by decide) rfl (.s (.s .z)) ?_
 refine FJ.dskip rfl rfl rfl (.s .z) rfl rfl (by decide) rfl (.s (.s .z)) ?_
 refine FJ.dskip rfl rfl rfl (.s (.s .z)) rfl rfl (by decide) rfl (.s (.s .z)) ?_
 refine FJ.dskip rfl rfl rfl (.s (.s (.s .z))) rfl rfl (by decide) rfl (.s (.s .z)) ?_
 refine FJ.dq rfl rfl rfl (by decide) rfl (.s (.s .z)) (q_pickF rfl (.t (.s4 .z)) .c) ?_
 refine FJ.es (goes_sch rfl rfl) rfl (es_store (off := 0) (cs := [.int .i64 x7, .int .i64 (wd ws 1), .int .i64 (wd ws 2), .slice none 0 0, .slice Agz0 E.length cgz0]) rfl sz_30 (.t (.s16 (.s4 (.s4 (.s4 .z))))) (.t (.s4 (.s4 .z))) rfl (ones rfl) (.s .z) (Nat.le_of_ble_eq_true rfl) (.c .z (.c (.s .z) (.c (.s (.s .z)) (.c (.s (.s (.s .z))) (.c (.s (.s (.s (.s .z)))) .n)))))) ?_
 refine FJ.sk (.s (.s .z)) ?_
 refine FJ.er (.s16 (.s4 (.s4 (.s (.s (.s .z)))))) ?_
 refine FJ.q (goes_sch rfl rfl) rfl (by decide) rfl (q_assign rfl (.t .z)) ?_
 refine FJ.sl rfl ?_
 refine FJ.schN ?_
 refine FJ.drawN (by kernel_rfl) ?_
 refine FJ.then_ (FJ.ret ?_)
 refine FJ.add (c := ownA kSl_2 [] [.slice none 0 0]) (fun w S => own_nil w S none) ?_
 refine FJ.doneS (res_ct (cs := [.int .i64 x7, .int .i64 (wd ws 1), .int .i64 (wd ws 2), .slice none 0 0, .slice Agz0 E.length cgz0]) rfl (.s16 (.s4 (.s4 (.s4 .z)))) ag_30 sz_30 (WS.rows0 (cs := [.int .i64 x7, .int .i64 (wd ws 1), .int .i64 (wd ws 2), .slice none 0 0, .slice Agz0 E.length cgz0]) (.s .z) (fun _ _ h => h)) .z) (.c .z (.c (.s .z) .n)) ?_
 exact ⟨(⟨x7, wd ws 1, wd ws 2, [], E⟩ : DInode), false, _, _, fun h => absurd h (by omega), fun _ => ⟨(by first | exact decide_eq_true ⟨by assumption, by assumption⟩ | (symm; apply decide_eq_false; rintro ⟨h1, h2⟩; first | contradiction | (simp_all; done)) | (simp_all; done)), by first | (exact sdec_k hx7 (by assumption) (hRI (by assumption)) (by omega)) | (have hE := hE0 (by assumption); subst hE; rw [subL_end]; exact sdec_1 hx7 (by assumption)) | (have hE := hE0 (by omega); subst hE; exact sdec_n hx7 (by omega) (by rintro ⟨h1, h2⟩; first | contradiction | omega))⟩, rfl, rfl⟩
 refine FJ.skipl rfl rfl .z rfl rfl (by decide) rfl ?_
 refine FJ.skipl rfl rfl (.s .z) rfl rfl (by decide) rfl ?_
 refine FJ.skipl rfl rfl (.s (.s .z)) rfl rfl (by decide) rfl ?_
 refine FJ.ql rfl (q_pickF rfl (.t (.s (.s (.s .z)))) .c) (FJ.nil (FJ.then_ ?_))
 refine FJ.condF (.t .z) ?_
 refine FJ.skip (FJ.then_ (FJ.seq (FJ.region (FJ.ql rfl (q_assign rfl .c) ?_))))
 refine FJ.nil (FJ.then_ (FJ.seq (FJ.seq (FJ.region ?_))))
 refine FJ.ql rfl (q_assign rfl .c) (FJ.nil (FJ.then_ (FJ.block ?_)))
 refine FJ.add (c := ownA kSl_130 [] [.slice none 0 0]) (fun w S => own_nil w S none) ?_
 refine FJ.loopi (γ := (Option Addr) × Nat × Nat × Nat × (List DEnt)) (fun ⟨Agz0, cgz0, p, k, E⟩ => [(6, .int .i64 (k : Int)), (5, .int .i64 (p : Int)), (4, .pointer (some ⟨g58, 0, none⟩)), (3, .bool false), (2, .pointer (some ⟨g2, 0, none⟩)), (0, .slice (some ad6) ws.length c0)]) (fun ⟨Agz0, cgz0, p, k, E⟩ => [ownA kSl_130 E [.slice Agz0 E.length cgz0], rowA g58 30 5 1 [.int .i64 x7, .int .i64 (wd ws 1), .int .i64 (wd ws 2), .slice none 0 0, .slice Agz0 E.length cgz0], rowA g2 30 5 1 [.int .i64 0, .int .i64 0, .int .i64 0, .slice none 0 0, .slice none 0 0]]) (fun ⟨Agz0, cgz0, p, k, E⟩ => E.length = k ∧ 4 + 2 * k ≤ p ∧ p ≤ ws.length + 14 ∧ (¬ x7 = 2 → E = []) ∧ (x7 = 2 → ∀ y, Vd ws y → RI y E (ws.drop p))) (fun ⟨Agz0, cgz0, p, k, E⟩ => ws.length - p) (none, 0, 4, 0, []) ⟨rfl, by omega, by omega, fun _ => rfl, ri_w0 hx7⟩ (.c .z (.c (.s .z) (.c (.s4 (.s4 (.s4 .z))) (.c (.s16 (.s4 (.s (.s .z)))) (.c (.s16 (.s4 (.s (.s (.s .z))))) (.c (.s16 (.s4 (.s4 .z))) .n)))))) (fun _ h => h.sel (.c .z (.c .z (.c .z .n)))) ?_
 rintro ⟨Agz0, cgz0, p, k, E⟩ ⟨hEk, hkp, hpl, hE0, hRI⟩
 have hwp := wd_rng hwv (p + 1)
 refine FJ.seq (FJ.seq (FJ.region (FJ.ql rfl (q_fieldAddr rfl (.t (.s (.s .z))) (fun _ => fa_30_0 _ _)) (FJ.ql rfl (q_load rfl ag_2 (.t .z) (WS.row (.s .z) rfl)) ?_))))
 refine FJ.ql rfl (q_eql rfl (.t .z) .c) (FJ.ql rfl (q_move rfl (.t .z)) ?_)
 refine FJ.caseP .z (fun g78 => ?_) (fun g78 => ?_)
 refine FJ.q (goes_listg rfl rfl .z) rfl (by decide) rfl (q_move rfl (.t (.s4 .z))) ?_
 refine FJ.q (goes_listg rfl rfl (.s .z)) rfl (by decide) rfl (q_move rfl (.t (.s4 (.s4 (.s (.s .z)))))) ?_
 refine FJ.call (goes_listg rfl rfl (.s (.s .z))) rfl (by decide) rfl (c_call rfl Try.func132 rfl rfl (args2 (.t .z) .c)) .n (fun w1 S1 hs tr => c_132 (tr.ctx h0) 3 (by omega)) ?_
 rintro _ _ ⟨rfl, rfl⟩
 refine FJ.cat .n ?_
 refine FJ.q (goes_listg rfl rfl (.s (.s (.s .z)))) rfl (by decide) rfl (q_lss rfl (.t (.s (.s .z))) (.t .z)) ?_
 refine FJ.ql rfl (q_pickT rfl (.t (.s4 .z)) (.t .z)) (FJ.ql rfl (q_move rfl (.t .z)) ?_)
 refine FJ.caseP .z (fun g79 => ?_) (fun g79 => ?_)
 refine FJ.q (goes_listg rfl rfl .z) rfl (by decide) rfl (q_move rfl (.t (.s4 (.s4 (.s (.s (.s .z))))))) ?_
 refine FJ.q (goes_listg rfl rfl (.s .z)) rfl (by decide) rfl (q_move rfl (.t (.s16 .z))) ?_
 refine FJ.q (goes_listg rfl rfl (.s (.s .z))) rfl (by decide) rfl (q_len rfl u_22 (.t .z)) ?_
 refine FJ.q (goes_listg rfl rfl (.s (.s (.s .z)))) rfl (by decide) rfl (q_lss rfl (.t (.s (.s .z))) (.t .z)) ?_
 refine FJ.ql rfl (q_pickT rfl (.t (.s4 .z)) (.t .z)) (FJ.nil (FJ.then_ ?_))
 refine FJ.condP (.t .z) (fun b80 => ?_) (fun b80 => ?_)
 refine FJ.skip (FJ.then_ (FJ.seq (FJ.block (FJ.seq ?_))))
 refine FJ.region (FJ.ql rfl (q_move rfl (.t (.s16 (.s4 .z)))) (FJ.ql rfl (q_move rfl (.t (.s16 (.s .z)))) ?_))
 refine FJ.call (goes_list rfl) rfl (by decide) rfl (c_call rfl Try.func132 rfl rfl (args2 (.t (.s .z)) (.t .z))) .n (fun w1 S1 hs tr => c_132 (tr.ctx h0) p (by omega)) ?_
 rintro _ _ ⟨rfl, rfl⟩
 refine FJ.cat .n ?_
 refine FJ.ql rfl (q_build (ps := [(1, .int .i64 (wd ws p))]) (cs := [.string (⟨#[]⟩), .int .i64 (wd ws p)]) rfl bl_130 (by intro act hact; simp only [List.map_toArray, List.map_cons, List.map_nil, (show Val _ _ _ from (.t .z)) act hact]) rfl) ?_
 refine FJ.e (goes_list rfl) rfl (by decide) rfl (e_alloc rfl z_130 rfl rfl) ?_
 rintro _ _ ⟨g81, rfl, rfl⟩
 refine FJ.es (goes_list rfl) rfl (es_store (off := 0) (cs := [.string (⟨#[]⟩), .int .i64 (wd ws p)]) rfl sz_130 (.t .z) (.t (.s .z)) rfl (ones rfl) .z (Nat.le_of_ble_eq_true rfl) (.c .z (.c (.s .z) .n))) ?_
 refine FJ.nil (FJ.then_ (FJ.seq (FJ.region (FJ.ql rfl (q_move rfl (.t (.s16 (.s4 (.s4 (.s .z)))))) ?_))))
 refine FJ.ql rfl (q_move rfl (.t (.s16 (.s4 (.s (.s .z)))))) ?_
 refine FJ.ql rfl (q_add (c := ((p + 1 : Nat) : Int)) rfl (.t .z) .c (wr (by omega) (by omega) (by omega))) ?_
 refine FJ.call (goes_list rfl) rfl (by decide) rfl (c_call rfl Try.func132 rfl rfl (args2 (.t (.s (.s .z))) (.t .z))) .n (fun w1 S1 hs tr => c_132 (tr.ctx h0) (p + 1) (by omega)) ?_
 rintro _ _ ⟨rfl, rfl⟩
 refine FJ.cat .n ?_
 refine FJ.ql rfl (q_assign rfl (.t .z)) (FJ.nil (FJ.then_ (FJ.seq (FJ.region ?_))))
 refine FJ.ql rfl (q_move rfl (.t (.s16 (.s4 (.s4 (.s (.s .z))))))) ?_
 refine FJ.ql rfl (q_add (c := ((p + 2 : Nat) : Int)) rfl (.t .z) .c (wr (by omega) (by omega) (by omega))) ?_
 refine FJ.er (.s16 (.s4 (.s4 (.s4 .z)))) (FJ.ql rfl (q_assign rfl (.t .z)) (FJ.nil (FJ.then_ (FJ.seq ?_))))
 refine FJ.seq (FJ.region (FJ.ql rfl (q_assign rfl .c) (FJ.nil (FJ.then_ ?_))))
 refine FJ.block ?_
 refine FJ.loopi (γ := Nat × ByteArray) (fun ⟨j, nm⟩ => [(9, .int .i64 (j : Int)), (5, .int .i64 ((p + 2 + j : Nat) : Int)), (8, .int .i64 (wd ws (p + 1))), (7, .pointer (some ⟨g81, 0, none⟩)), (6, .int .i64 (k : Int)), (4, .pointer (some ⟨g58, 0, none⟩)), (3, .bool false), (2, .pointer (some ⟨g2, 0, none⟩)), (0, .slice (some ad6) ws.length c0)]) (fun ⟨j, nm⟩ => [rowA g81 130 2 1 [.string nm, .int .i64 (wd ws p)], ownA kSl_130 E [.slice Agz0 E.length cgz0], rowA g58 30 5 1 [.int .i64 x7, .int .i64 (wd ws 1), .int .i64 (wd ws 2), .slice none 0 0, .slice Agz0 E.length cgz0], rowA g2 30 5 1 [.int .i64 0, .int .i64 0, .int .i64 0, .slice none 0 0, .slice none 0 0]]) (fun ⟨j, nm⟩ => j ≤ 8 ∧ nm.size ≤ j ∧ (j = 0 ∨ (j : Int) ≤ wd ws (p + 1)) ∧ NI ws E nm j) (fun ⟨j, nm⟩ => 8 - j) (0, ⟨#[]⟩) ⟨Nat.zero_le _, Nat.le_refl _, .inl rfl, ni_w0 (hRI (by assumption)) (by omega)⟩ (.c .z (.e (.s .z) (congrArg (Value.int .i64) (by omega)) (.c (.s4 .z) (.c (.s4 (.s4 (.s .z))) (.c (.s16 (.s4 (.s4 (.s4 (.s .z))))) (.c (.s16 (.s4 (.s4 (.s4 (.s (.s .z)))))) (.c (.s16 (.s4 (.s4 (.s4 (.s (.s (.s .z))))))) (.c (.s16 (.s16 .z)) (.c (.s16 (.s16 (.s .z))) .n))))))))) (fun _ h => h.sel (.c .z (.c .z (.c .z (.c .z .n))))) ?_
 rintro ⟨j, nm⟩ ⟨hj, hnj, hjn, hNI⟩
 refine FJ.seq (FJ.seq (FJ.region (FJ.ql rfl (q_move rfl (.t .z)) (FJ.ql rfl (q_move rfl (.t (.s (.s (.s .z))))) ?_))))
 refine FJ.ql rfl (q_lss rfl (.t (.s .z)) (.t .z)) (FJ.ql rfl (q_move rfl (.t .z)) ?_)
 refine FJ.caseP .z (fun g82 => ?_) (fun g82 => ?_)
 refine FJ.q (goes_listg rfl rfl .z) rfl (by decide) rfl (q_move rfl (.t (.s4 .z))) ?_
 refine FJ.q (goes_listg rfl rfl (.s .z)) rfl (by decide) rfl (q_lss rfl (.t .z) .c) ?_
 refine FJ.ql rfl (q_pickT rfl (.t (.s (.s .z))) (.t .z)) (FJ.nil (FJ.then_ ?_))
 refine FJ.condP (.t .z) (fun b83 => ?_) (fun b83 => ?_)
 refine FJ.skip (FJ.then_ (FJ.seq (FJ.block (FJ.seq ?_))))
 refine FJ.sel (.c (.s .z) (.c .z (.c .z (.c .z .n)))) ?_
 refine FJ.draw [rowA g81 130 2 1 [.string nm, .int .i64 (wd ws p)], rowA g58 30 5 1 [.int .i64 x7, .int .i64 (wd ws 1), .int .i64 (wd ws 2), .slice none 0 0, .slice Agz0 E.length cgz0], rowA g2 30 5 1 [.int .i64 0, .int .i64 0, .int .i64 0, .slice none 0 0, .slice none 0 0]] 11 (by kernel_rfl) ?_
 refine FJ.sch [(0, true), (1, true), (2, true), (3, true), (4, false), (5, true), (6, true), (7, false), (8, false), (9, true), (10, true), (11, false)] 0 #[true, true, true, true, true, true, true, true, true, true, true, true] (by rfl) (by kernel_rfl) ?_
 refine FJ.dq rfl rfl rfl (by decide) rfl (.s .z) (q_fieldAddr rfl (.t (.s4 (.s4 (.s (.s .z))))) (fun _ => fa_130_0 _ _)) (FJ.dq rfl rfl rfl (by decide) rfl (.s .z) (q_load rfl ag_9 (.t .z) (WS.row .z rfl)) (FJ.dq rfl rfl rfl (by decide) rfl (.s .z) (q_move rfl (.t (.s16 (.s .z)))) (FJ.dq rfl rfl rfl (by decide) rfl (.s .z) (q_move rfl (.t (.s4 (.s4 (.s (.s (.s .z))))))) ?_)))
 refine FJ.call (goes_sch rfl rfl) rfl (by decide) rfl (c_call rfl Try.func132 rfl rfl (args2 (.t (.s .z)) (.t .z))) .n (fun w1 S1 hs tr => c_132 (tr.ctx h0) (p + 2 + j) (by omega)) ?_
 rintro _ _ ⟨rfl, rfl⟩
 refine FJ.cat .n ?_
 refine FJ.sk (.s .z) ?_
 refine FJ.dq rfl rfl rfl (by decide) rfl (.s .z) (q_rem (c := Int.tmod (wd ws (p + 2 + j)) 256) rfl (.t .z) .c (by omega) rfl) ?_
 refine FJ.dq rfl rfl rfl (by decide) rfl (.s .z) (q_conv (c := ((mbyte (Int.tmod (wd ws (p + 2 + j)) 256)).toNat : Int)) rfl (.t .z) u_2 u_5 (mbyte_wrap _)) ?_
 refine FJ.e (goes_sch rfl rfl) rfl (by decide) rfl (e_buildSliceL (ps := [(0, .int .u8 ((mbyte (Int.tmod (wd ws (p + 2 + j)) 256)).toNat : Int))]) (cs := [.int .u8 ((mbyte (Int.tmod (wd ws (p + 2 + j)) 256)).toNat : Int)]) rfl u_62 (inz inf_5) (by decide) (by intro act hact; simp only [List.map_toArray, List.map_cons, List.map_nil, (show Val _ _ _ from (.t .z)) act hact]) rfl rfl (by decide) rfl rfl) ?_
 rintro _ _ ⟨g84, rfl, rfl⟩
 refine FJ.sk (.s (.s .z)) ?_
 refine FJ.turns (c := ownA kSl_5 ([(mbyte (Int.tmod (wd ws (p + 2 + j)) 256))] : (List UInt8)) [.slice (some ⟨g84, 0, none⟩) 1 1]) (.c .z .n) (fun w S h => lit_own (xs := ([(mbyte (Int.tmod (wd ws (p + 2 + j)) 256))] : (List UInt8))) h rfl (by simp) (by omega) (by omega)) ?_
 refine FJ.q (goes_sch rfl rfl) rfl (by decide) rfl (q_convBS (xs := ([(mbyte (Int.tmod (wd ws (p + 2 + j)) 256))] : (List UInt8))) rfl u_62 u_5 u_9 (.t .z) (WS.roown .z)) ?_
 refine FJ.sk (.s (.s .z)) ?_
 refine FJ.dq rfl rfl rfl (by decide) rfl (.s (.s .z)) (q_sadd rfl (.t (.s4 (.s (.s (.s .z))))) (.t .z) (by first | (rw [bstr_size]; simp only [List.length_cons, List.length_nil]; omega) | (simp only [bstr_size, List.length_cons, List.length_nil]; omega))) ?_
 refine FJ.dq rfl rfl rfl (by decide) rfl (.s (.s .z)) (q_fieldAddr rfl (.t (.s16 (.s4 .z))) (fun _ => fa_130_0 _ _)) ?_
 refine FJ.es (goes_sch rfl rfl) rfl (es_store (off := 0) (cs := [.string (nm ++ (bstr ([(mbyte (Int.tmod (wd ws (p + 2 + j)) 256))] : (List UInt8))))]) rfl sz_9 (.t .z) (.t (.s .z)) rfl (ones rfl) (.s (.s .z)) (Nat.le_of_ble_eq_true rfl) (.c .z .n)) ?_
 refine FJ.sl rfl ?_
 refine FJ.schN ?_
 refine FJ.drawN (by kernel_rfl) ?_
 refine FJ.then_ (FJ.region (FJ.ql rfl (q_move rfl (.t (.s16 (.s (.s (.s .z)))))) ?_))
 refine FJ.ql rfl (q_add (c := (((p + 2 + j) + 1 : Nat) : Int)) rfl (.t .z) .c (wr (by omega) (by omega) (by omega))) ?_
 refine FJ.er (.s16 (.s4 (.s .z))) (FJ.ql rfl (q_assign rfl (.t .z)) (FJ.nil (FJ.inBN (FJ.then_ ?_))))
 refine FJ.region (FJ.ql rfl (q_move rfl (.t (.s16 (.s4 (.s .z))))) ?_)
 refine FJ.ql rfl (q_add (c := ((j + 1 : Nat) : Int)) rfl (.t .z) .c (wr (by omega) (by omega) (by omega))) ?_
 refine FJ.er (.s16 (.s4 (.s (.s (.s .z))))) (FJ.ql rfl (q_assign rfl (.t .z)) (FJ.nil ?_))
 refine FJ.again ((j + 1), nm ++ (bstr ([(mbyte (Int.tmod (wd ws (p + 2 + j)) 256))] : (List UInt8)))) ⟨by omega, ⟨(by rw [ByteArray.size_append, bstr_size]; simp only [List.length_cons, List.length_nil]; omega), .inr (by omega), ni_w (hRI (by assumption)) (by omega) (by omega) hNI⟩⟩ (by first | omega | (dsimp only; omega)) (.c .z (.e (.s (.s (.s .z))) (congrArg (Value.int .i64) (by omega)) (.c (.s16 (.s4 (.s4 .z))) (.c (.s16 (.s4 (.s4 (.s .z)))) (.c (.s16 (.s4 (.s4 (.s (.s .z))))) (.c (.s16 (.s4 (.s4 (.s (.s (.s .z)))))) (.c (.s16 (.s4 (.s4 (.s4 .z)))) (.c (.s16 (.s4 (.s4 (.s4 (.s .z))))) (.c (.s16 (.s4 (.s4 (.s4 (.s (.s .z)))))) .n))))))))) (fun _ h => h.sel (.c .z (.c (.s .z) (.c (.s .z) (.c (.s .z) .n)))))
 refine FJ.exit (FJ.thenE (FJ.thenE (FJ.inB (FJ.then_ ?_))))
 refine FJ.region (FJ.ql rfl (q_fieldAddr rfl (.t (.s4 (.s4 (.s4 .z)))) (fun _ => fa_30_4 _ _)) (FJ.ql rfl (q_load rfl ag_28 (.t .z) (WS.row (.s (.s .z)) rfl)) ?_))
 refine FJ.ql rfl (q_loadA (cs := [.string nm, .int .i64 (wd ws p)]) rfl ag_130 sz_130 (.t (.s4 (.s4 (.s4 .z)))) (WS.rows0 .z (fun i u h => by exact h))) ?_
 refine FJ.e (goes_list rfl) rfl (by decide) rfl (e_buildSliceL (ps := [(0, .agg #[.string nm, .int .i64 (wd ws p)])]) (cs := [.string nm, .int .i64 (wd ws p)]) rfl u_28 (inz inf_130) (by decide) (by intro act hact; simp only [List.map_toArray, List.map_cons, List.map_nil, (show Val _ _ _ from (.t .z)) act hact]) rfl rfl (by decide) rfl rfl) ?_
 rintro _ _ ⟨g86, rfl, rfl⟩
 refine FJ.turns (c := ownA kT_130 (⟨nm, wd ws p⟩ : DEnt) [.string nm, .int .i64 (wd ws p)]) .n (fun w S h => kT_130_omk (⟨nm, wd ws p⟩ : DEnt) h (by first | assumption | omega | (dsimp only; omega))) ?_
 refine FJ.e (goes_list rfl) rfl (by decide) rfl (e_append1 rfl u_28 inf_130 rfl (.t (.s (.s .z))) (.t .z) (.c (.s (.s (.s .z))) (.c (.s .z) (.c .z .n))) (by first | omega | (simp only [List.length_append, List.length_cons, List.length_nil]; omega)) (by first | omega | (simp only [List.length_append, List.length_cons, List.length_nil]; omega))) ?_
 rintro _ _ rfl
 refine FJ.know (WS.oform .z) ?_
 rintro ⟨Ao88, co88, rfl, hlo88, hmo88, hbo88⟩
 refine FJ.ql rfl (q_fieldAddr rfl (.t (.s16 (.s .z))) (fun _ => fa_30_4 _ _)) ?_
 refine FJ.es (goes_list rfl) rfl (es_store (off := 4) (cs := [.slice Ao88 (E ++ [(⟨nm, wd ws p⟩ : DEnt)]).length co88]) rfl sz_28 (.t .z) (.t (.s .z)) rfl (ones rfl) (.s (.s .z)) (Nat.le_of_ble_eq_true rfl) (.c (.s (.s (.s (.s .z)))) .n)) ?_
 refine FJ.nil (FJ.inBN (FJ.then_ (FJ.region (FJ.ql rfl (q_move rfl (.t (.s16 (.s .z)))) ?_))))
 refine FJ.ql rfl (q_add (c := ((k + 1 : Nat) : Int)) rfl (.t .z) .c (wr (by omega) (by omega) (by omega))) ?_
 refine FJ.er (.s16 (.s (.s (.s .z)))) (FJ.ql rfl (q_assign rfl (.t .z)) (FJ.nil ?_))
 refine FJ.again (Ao88, co88, p + 2 + j, k + 1, E ++ [(⟨nm, wd ws p⟩ : DEnt)]) ⟨by simp only [List.length_append, List.length_cons, List.length_nil]; omega, by omega, by omega, fun h => absurd (by assumption) h, fun _ => ri_w (hRI (by assumption)) (by omega) (by omega) (by omega) hNI⟩ (by first | omega | (dsimp only; omega)) (.c .z (.c (.s16 (.s .z)) (.c (.s16 (.s4 .z)) (.c (.s16 (.s4 (.s .z))) (.c (.s16 (.s4 (.s (.s .z)))) (.c (.s16 (.s4 (.s (.s (.s .z))))) .n)))))) (fun _ h => h.sel (.c (.s .z) (.c .z (.c (.s .z) .n))))
 refine FJ.skipl rfl rfl .z rfl rfl (by decide) rfl ?_
 refine FJ.skipl rfl rfl (.s .z) rfl rfl (by decide) rfl ?_
 refine FJ.ql rfl (q_pickF rfl (.t (.s (.s .z))) .c) (FJ.nil (FJ.then_ ?_))
 refine FJ.condF (.t .z) ?_
 refine FJ.exit (FJ.thenE (FJ.thenE (FJ.inB (FJ.then_ ?_))))
 refine FJ.region (FJ.ql rfl (q_fieldAddr rfl (.t (.s4 (.s4 (.s4 .z)))) (fun _ => fa_30_4 _ _)) (FJ.ql rfl (q_load rfl ag_28 (.t .z) (WS.row (.s (.s .z)) rfl)) ?_))
 refine FJ.ql rfl (q_loadA (cs := [.string nm, .int .i64 (wd ws p)]) rfl ag_130 sz_130 (.t (.s4 (.s4 (.s4 .z)))) (WS.rows0 .z (fun i u h => by exact h))) ?_
 refine FJ.e (goes_list rfl) rfl (by decide) rfl (e_buildSliceL (ps := [(0, .agg #[.string nm, .int .i64 (wd ws p)])]) (cs := [.string nm, .int .i64 (wd ws p)]) rfl u_28 (inz inf_130) (by decide) (by intro act hact; simp only [List.map_toArray, List.map_cons, List.map_nil, (show Val _ _ _ from (.t .z)) act hact]) rfl rfl (by decide) rfl rfl) ?_
 rintro _ _ ⟨g89, rfl, rfl⟩
 refine FJ.turns (c := ownA kT_130 (⟨nm, wd ws p⟩ : DEnt) [.string nm, .int .i64 (wd ws p)]) .n (fun w S h => kT_130_omk (⟨nm, wd ws p⟩ : DEnt) h (by first | assumption | omega | (dsimp only; omega))) ?_
 refine FJ.e (goes_list rfl) rfl (by decide) rfl (e_append1 rfl u_28 inf_130 rfl (.t (.s (.s .z))) (.t .z) (.c (.s (.s (.s .z))) (.c (.s .z) (.c .z .n))) (by first | omega | (simp only [List.length_append, List.length_cons, List.length_nil]; omega)) (by first | omega | (simp only [List.length_append, List.length_cons, List.length_nil]; omega))) ?_
 rintro _ _ rfl
 refine FJ.know (WS.oform .z) ?_
 rintro ⟨Ao91, co91, rfl, hlo91, hmo91, hbo91⟩
 refine FJ.ql rfl (q_fieldAddr rfl (.t (.s16 (.s .z))) (fun _ => fa_30_4 _ _)) ?_
 refine FJ.es (goes_list rfl) rfl (es_store (off := 4) (cs := [.slice Ao91 (E ++ [(⟨nm, wd ws p⟩ : DEnt)]).length co91]) rfl sz_28 (.t .z) (.t (.s .z)) rfl (ones rfl) (.s (.s .z)) (Nat.le_of_ble_eq_true rfl) (.c (.s (.s (.s (.s .z)))) .n)) ?_
 refine FJ.nil (FJ.inBN (FJ.then_ (FJ.region (FJ.ql rfl (q_move rfl (.t (.s16 (.s .z)))) ?_))))
 refine FJ.ql rfl (q_add (c := ((k + 1 : Nat) : Int)) rfl (.t .z) .c (wr (by omega) (by omega) (by omega))) ?_
 refine FJ.er (.s16 (.s (.s (.s .z)))) (FJ.ql rfl (q_assign rfl (.t .z)) (FJ.nil ?_))
 refine FJ.again (Ao91, co91, p + 2 + j, k + 1, E ++ [(⟨nm, wd ws p⟩ : DEnt)]) ⟨by simp only [List.length_append, List.length_cons, List.length_nil]; omega, by omega, by omega, fun h => absurd (by assumption) h, fun _ => ri_w (hRI (by assumption)) (by omega) (by omega) (by omega) hNI⟩ (by first | omega | (dsimp only; omega)) (.c .z (.c (.s16 (.s .z)) (.c (.s16 (.s4 .z)) (.c (.s16 (.s4 (.s .z))) (.c (.s16 (.s4 (.s (.s .z)))) (.c (.s16 (.s4 (.s (.s (.s .z))))) .n)))))) (fun _ h => h.sel (.c (.s .z) (.c .z (.c (.s .z) .n))))
 refine FJ.exit (FJ.thenE (FJ.thenE (FJ.inB (FJ.then_ ?_))))
 refine FJ.seq ?_
 refine FJ.sel (.c .z (.c (.s .z) (.c .z .n))) ?_
 refine FJ.draw [rowA g58 30 5 1 [.int .i64 x7, .int .i64 (wd ws 1), .int .i64 (wd ws 2), .slice none 0 0, .slice Agz0 E.length cgz0]] 10 (by kernel_rfl) ?_
 refine FJ.sch [(0, true), (1, false), (2, true), (3, true)] 7 #[true, true, true, true, false, false, false, false, false, false, false] (by rfl) (by kernel_rfl) ?_
 refine FJ.dq rfl rfl rfl (by decide) rfl (.s (.s .z)) (q_loadA (cs := [.int .i64 x7, .int .i64 (wd ws 1), .int .i64 (wd ws 2), .slice none 0 0, .slice Agz0 E.length cgz0]) rfl ag_30 sz_30 (.t (.s16 (.s .z))) (WS.rows0 .z (fun i u h => by exact h))) ?_
 refine FJ.call (goes_sch rfl rfl) rfl (by decide) rfl (c_call rfl Try.func69 rfl rfl (args1 (.t (.s16 (.s (.s .z)))))) .n (fun w1 S1 hs tr => c_69 (tr.ptr (.s (.s .z)) (kT_30_mk (⟨x7, wd ws 1, wd ws 2, [], E⟩ : DInode) ro_nil (tr.own .z)))) ?_
 rintro _ _ ⟨rfl, rfl⟩
 refine FJ.cat .n ?_
 refine FJ.sk (.s (.s .z)) ?_
 refine FJ.dq rfl rfl rfl (by decide) rfl (.s (.s .z)) (q_eql rfl (.t .z) .c) (FJ.dq rfl rfl rfl (by decide) rfl (.s (.s .z)) (q_move rfl (.t .z)) (FJ.schN ?_))
 refine FJ.caseP .z (fun g92 => ?_) (fun g92 => ?_)
 refine FJ.sch [(4, true), (6, true), (5, false), (7, false), (8, true), (9, false), (10, false)] 0 #[true, true, true, true, true, true, true, true, true, true, true] (by rfl) (by kernel_rfl) ?_
 refine FJ.dqg rfl rfl rfl .z rfl (by decide) rfl (.s (.s .z)) (q_loadA (cs := [.int .i64 x7, .int .i64 (wd ws 1), .int .i64 (wd ws 2), .slice none 0 0, .slice Agz0 E.length cgz0]) rfl ag_30 sz_30 (.t (.s16 (.s4 (.s .z)))) (WS.rows0 .z (fun i u h => by exact h))) ?_
 refine FJ.dqg rfl rfl rfl (.s .z) rfl (by decide) rfl (.s (.s .z)) (q_move rfl (.t (.s16 (.s4 (.s4 (.s .z)))))) ?_
 refine FJ.call (goes_schg rfl rfl rfl (.s (.s .z))) rfl (by decide) rfl (c_call rfl Try.func87 rfl rfl (args1 (.t (.s .z)))) .n (fun w1 S1 hs tr => c_87 (kT_30_mk (⟨x7, wd ws 1, wd ws 2, [], E⟩ : DInode) ro_nil (tr.own .z)) (by assumption)) ?_
 rintro _ _ rfl
 refine FJ.cat (.c .n) ?_
 refine FJ.know (WS.oform .z) ?_
 rintro ⟨Ao94, co94, rfl, hlo94, hmo94, hbo94⟩
 refine FJ.sk (.s (.s (.s .z))) ?_
 refine FJ.call (goes_schg rfl rfl rfl (.s (.s (.s .z)))) rfl (by decide) rfl (c_call rfl Try.func113 rfl rfl (args2 (.t .z) (.t (.s .z)))) .n (fun w1 S1 hs tr => c_113 (tr.own .z) (tr.ctx h0)) ?_
 rintro _ _ ⟨rfl, rfl⟩
 refine FJ.cat .n ?_
 refine FJ.sk (.s (.s (.s .z))) ?_
 refine FJ.dq rfl rfl rfl (by decide) rfl (.s (.s (.s .z))) (q_pickT rfl (.t (.s4 .z)) (.t .z)) ?_
 refine FJ.es (goes_sch rfl rfl) rfl (es_store (off := 0) (cs := [.int .i64 x7, .int .i64 (wd ws 1), .int .i64 (wd ws 2), .slice none 0 0, .slice Agz0 E.length cgz0]) rfl sz_30 (.t (.s16 (.s4 (.s4 (.s4 .z))))) (.t (.s4 (.s4 .z))) rfl (ones rfl) (.s (.s .z)) (Nat.le_of_ble_eq_true rfl) (.c .z (.c (.s .z) (.c (.s (.s .z)) (.c (.s (.s (.s .z))) (.c (.s (.s (.s (.s .z)))) .n)))))) ?_
 refine FJ.sk (.s (.s (.s .z))) ?_
 refine FJ.er (.s16 (.s4 (.s4 (.s (.s (.s .z)))))) ?_
 refine FJ.q (goes_sch rfl rfl) rfl (by decide) rfl (q_assign rfl (.t .z)) ?_
 refine FJ.sl rfl ?_
 refine FJ.schN ?_
 refine FJ.drawN (by kernel_rfl) ?_
 refine FJ.then_ (FJ.ret ?_)
 refine FJ.add (c := ownA kSl_2 [] [.slice none 0 0]) (fun w S => own_nil w S none) ?_
 refine FJ.doneS (res_ct (cs := [.int .i64 x7, .int .i64 (wd ws 1), .int .i64 (wd ws 2), .slice none 0 0, .slice Agz0 E.length cgz0]) rfl (.s16 (.s4 (.s4 (.s4 .z)))) ag_30 sz_30 (WS.rows0 (cs := [.int .i64 x7, .int .i64 (wd ws 1), .int .i64 (wd ws 2), .slice none 0 0, .slice Agz0 E.length cgz0]) (.s .z) (fun _ _ h => h)) .z) (.c .z (.c (.s (.s .z)) .n)) ?_
 exact ⟨(⟨x7, wd ws 1, wd ws 2, [], E⟩ : DInode), decide (packI (⟨x7, wd ws 1, wd ws 2, [], E⟩ : DInode) = ws), _, _, fun h => absurd h (by omega), fun _ => ⟨(by first | exact decide_eq_true ⟨by assumption, by assumption⟩ | (symm; apply decide_eq_false; rintro ⟨h1, h2⟩; first | contradiction | (simp_all; done)) | (simp_all; done)), by first | (exact sdec_k hx7 (by assumption) (hRI (by assumption)) (by omega)) | (have hE := hE0 (by assumption); subst hE; rw [subL_end]; exact sdec_1 hx7 (by assumption)) | (have hE := hE0 (by omega); subst hE; exact sdec_n hx7 (by omega) (by rintro ⟨h1, h2⟩; first | contradiction | omega))⟩, rfl, rfl⟩
 refine FJ.sch [(4, true), (5, true), (6, true), (7, true), (8, true), (9, false), (10, false)] 0 #[true, true, true, true, true, true, true, true, true, true, true] (by rfl) (by kernel_rfl) ?_
 refine FJ.dskip rfl rfl rfl .z rfl rfl (by decide) rfl (.s (.s .z)) ?_
 refine FJ.dskip rfl rfl rfl (.s .z) rfl rfl (by decide) rfl (.s (.s .z)) ?_
 refine FJ.dskip rfl rfl rfl (.s (.s .z)) rfl rfl (by decide) rfl (.s (.s .z)) ?_
 refine FJ.dskip rfl rfl rfl (.s (.s (.s .z))) rfl rfl (by decide) rfl (.s (.s .z)) ?_
 refine FJ.dq rfl rfl rfl (by decide) rfl (.s (.s .z)) (q_pickF rfl (.t (.s4 .z)) .c) ?_
 refine FJ.es (goes_sch rfl rfl) rfl (es_store (off := 0) (cs := [.int .i64 x7, .int .i64 (wd ws 1), .int .i64 (wd ws 2), .slice none 0 0, .slice Agz0 E.length cgz0]) rfl sz_30 (.t (.s16 (.s4 (.s4 (.s4 .z))))) (.t (.s4 (.s4 .z))) rfl (ones rfl) (.s .z) (Nat.le_of_ble_eq_true rfl) (.c .z (.c (.s .z) (.c (.s (.s .z)) (.c (.s (.s (.s .z))) (.c (.s (.s (.s (.s .z)))) .n)))))) ?_
 refine FJ.sk (.s (.s .z)) ?_
 refine FJ.er (.s16 (.s4 (.s4 (.s (.s (.s .z)))))) ?_
 refine FJ.q (goes_sch rfl rfl) rfl (by decide) rfl (q_assign rfl (.t .z)) ?_
 refine FJ.sl rfl ?_
 refine FJ.schN ?_
 refine FJ.drawN (by kernel_rfl) ?_
 refine FJ.then_ (FJ.ret ?_)
 refine FJ.add (c := ownA kSl_2 [] [.slice none 0 0]) (fun w S => own_nil w S none) ?_
 refine FJ.doneS (res_ct (cs := [.int .i64 x7, .int .i64 (wd ws 1), .int .i64 (wd ws 2), .slice none 0 0, .slice Agz0 E.length cgz0]) rfl (.s16 (.s4 (.s4 (.s4 .z)))) ag_30 sz_30 (WS.rows0 (cs := [.int .i64 x7, .int .i64 (wd ws 1), .int .i64 (wd ws 2), .slice none 0 0, .slice Agz0 E.length cgz0]) (.s .z) (fun _ _ h => h)) .z) (.c .z (.c (.s .z) .n)) ?_
 exact ⟨(⟨x7, wd ws 1, wd ws 2, [], E⟩ : DInode), false, _, _, fun h => absurd h (by omega), fun _ => ⟨(by first | exact decide_eq_true ⟨by assumption, by assumption⟩ | (symm; apply decide_eq_false; rintro ⟨h1, h2⟩; first | contradiction | (simp_all; done)) | (simp_all; done)), by first | (exact sdec_k hx7 (by assumption) (hRI (by assumption)) (by omega)) | (have hE := hE0 (by assumption); subst hE; rw [subL_end]; exact sdec_1 hx7 (by assumption)) | (have hE := hE0 (by omega); subst hE; exact sdec_n hx7 (by omega) (by rintro ⟨h1, h2⟩; first | contradiction | omega))⟩, rfl, rfl⟩
 refine FJ.skipl rfl rfl .z rfl rfl (by decide) rfl ?_
 refine FJ.skipl rfl rfl (.s .z) rfl rfl (by decide) rfl ?_
 refine FJ.skipl rfl rfl (.s (.s .z)) rfl rfl (by decide) rfl ?_
 refine FJ.skipl rfl rfl (.s (.s (.s .z))) rfl rfl (by decide) rfl ?_
 refine FJ.ql rfl (q_pickF rfl (.t (.s4 .z)) .c) (FJ.nil (FJ.then_ ?_))
 refine FJ.condF (.t .z) ?_
 refine FJ.exit (FJ.thenE (FJ.thenE (FJ.inB (FJ.then_ ?_))))
 refine FJ.seq ?_
 refine FJ.sel (.c .z (.c (.s .z) (.c .z .n))) ?_
 refine FJ.draw [rowA g58 30 5 1 [.int .i64 x7, .int .i64 (wd ws 1), .int .i64 (wd ws 2), .slice none 0 0, .slice Agz0 E.length cgz0]] 10 (by kernel_rfl) ?_
 refine FJ.sch [(0, true), (1, false), (2, true), (3, true)] 7 #[true, true, true, true, false, false, false, false, false, false, false] (by rfl) (by kernel_rfl) ?_
 refine FJ.dq rfl rfl rfl (by decide) rfl (.s (.s .z)) (q_loadA (cs := [.int .i64 x7, .int .i64 (wd ws 1), .int .i64 (wd ws 2), .slice none 0 0, .slice Agz0 E.length cgz0]) rfl ag_30 sz_30 (.t (.s16 (.s .z))) (WS.rows0 .z (fun i u h => by exact h))) ?_
 refine FJ.call (goes_sch rfl rfl) rfl (by decide) rfl (c_call rfl Try.func69 rfl rfl (args1 (.t (.s16 (.s (.s .z)))))) .n (fun w1 S1 hs tr => c_69 (tr.ptr (.s (.s .z)) (kT_30_mk (⟨x7, wd ws 1, wd ws 2, [], E⟩ : DInode) ro_nil (tr.own .z)))) ?_
 rintro _ _ ⟨rfl, rfl⟩
 refine FJ.cat .n ?_
 refine FJ.sk (.s (.s .z)) ?_
 refine FJ.dq rfl rfl rfl (by decide) rfl (.s (.s .z)) (q_eql rfl (.t .z) .c) (FJ.dq rfl rfl rfl (by decide) rfl (.s (.s .z)) (q_move rfl (.t .z)) (FJ.schN ?_))
 refine FJ.caseP .z (fun g97 => ?_) (fun g97 => ?_)
 refine FJ.sch [(4, true), (6, true), (5, false), (7, false), (8, true), (9, false), (10, false)] 0 #[true, true, true, true, true, true, true, true, true, true, true] (by rfl) (by kernel_rfl) ?_
 refine FJ.dqg rfl rfl rfl .z rfl (by decide) rfl (.s (.s .z)) (q_loadA (cs := [.int .i64 x7, .int .i64 (wd ws 1), .int .i64 (wd ws 2), .slice none 0 0, .slice Agz0 E.length cgz0]) rfl ag_30 sz_30 (.t (.s16 (.s4 (.s .z)))) (WS.rows0 .z (fun i u h => by exact h))) ?_
 refine FJ.dqg rfl rfl rfl (.s .z) rfl (by decide) rfl (.s (.s .z)) (q_move rfl (.t (.s16 (.s4 (.s4 (.s .z)))))) ?_
 refine FJ.call (goes_schg rfl rfl rfl (.s (.s .z))) rfl (by decide) rfl (c_call rfl Try.func87 rfl rfl (args1 (.t (.s .z)))) .n (fun w1 S1 hs tr => c_87 (kT_30_mk (⟨x7, wd ws 1, wd ws 2, [], E⟩ : DInode) ro_nil (tr.own .z)) (by assumption)) ?_
 rintro _ _ rfl
 refine FJ.cat (.c .n) ?_
 refine FJ.know (WS.oform .z) ?_
 rintro ⟨Ao99, co99, rfl, hlo99, hmo99, hbo99⟩
 refine FJ.sk (.s (.s (.s .z))) ?_
 refine FJ.call (goes_schg rfl rfl rfl (.s (.s (.s .z)))) rfl (by decide) rfl (c_call rfl Try.func113 rfl rfl (args2 (.t .z) (.t (.s .z)))) .n (fun w1 S1 hs tr => c_113 (tr.own .z) (tr.ctx h0)) ?_
 rintro _ _ ⟨rfl, rfl⟩
 refine FJ.cat .n ?_
 refine FJ.sk (.s (.s (.s .z))) ?_
 refine FJ.dq rfl rfl rfl (by decide) rfl (.s (.s (.s .z))) (q_pickT rfl (.t (.s4 .z)) (.t .z)) ?_
 refine FJ.es (goes_sch rfl rfl) rfl (es_store (off := 0) (cs := [.int .i64 x7, .int .i64 (wd ws 1), .int .i64 (wd ws 2), .slice none 0 0, .slice Agz0 E.length cgz0]) rfl sz_30 (.t (.s16 (.s4 (.s4 (.s4 .z))))) (.t (.s4 (.s4 .z))) rfl (ones rfl) (.s (.s .z)) (Nat.le_of_ble_eq_true rfl) (.c .z (.c (.s .z) (.c (.s (.s .z)) (.c (.s (.s (.s .z))) (.c (.s (.s (.s (.s .z)))) .n)))))) ?_
 refine FJ.sk (.s (.s (.s .z))) ?_
 refine FJ.er (.s16 (.s4 (.s4 (.s (.s (.s .z)))))) ?_
 refine FJ.q (goes_sch rfl rfl) rfl (by decide) rfl (q_assign rfl (.t .z)) ?_
 refine FJ.sl rfl ?_
 refine FJ.schN ?_
 refine FJ.drawN (by kernel_rfl) ?_
 refine FJ.then_ (FJ.ret ?_)
 refine FJ.add (c := ownA kSl_2 [] [.slice none 0 0]) (fun w S => own_nil w S none) ?_
 refine FJ.doneS (res_ct (cs := [.int .i64 x7, .int .i64 (wd ws 1), .int .i64 (wd ws 2), .slice none 0 0, .slice Agz0 E.length cgz0]) rfl (.s16 (.s4 (.s4 (.s4 .z)))) ag_30 sz_30 (WS.rows0 (cs := [.int .i64 x7, .int .i64 (wd ws 1), .int .i64 (wd ws 2), .slice none 0 0, .slice Agz0 E.length cgz0]) (.s .z) (fun _ _ h => h)) .z) (.c .z (.c (.s (.s .z)) .n)) ?_
 exact ⟨(⟨x7, wd ws 1, wd ws 2, [], E⟩ : DInode), decide (packI (⟨x7, wd ws 1, wd ws 2, [], E⟩ : DInode) = ws), _, _, fun h => absurd h (by omega), fun _ => ⟨(by first | exact decide_eq_true ⟨by assumption, by assumption⟩ | (symm; apply decide_eq_false; rintro ⟨h1, h2⟩; first | contradiction | (simp_all; done)) | (simp_all; done)), by first | (exact sdec_k hx7 (by assumption) (hRI (by assumption)) (by omega)) | (have hE := hE0 (by assumption); subst hE; rw [subL_end]; exact sdec_1 hx7 (by assumption)) | (have hE := hE0 (by omega); subst hE; exact sdec_n hx7 (by omega) (by rintro ⟨h1, h2⟩; first | contradiction | omega))⟩, rfl, rfl⟩
 refine FJ.sch [(4, true), (5, true), (6, true), (7, true), (8, true), (9, false), (10, false)] 0 #[true, true, true, true, true, true, true, true, true, true, true] (by rfl) (by kernel_rfl) ?_
 refine FJ.dskip rfl rfl rfl .z rfl rfl (by decide) rfl (.s (.s .z)) ?_
 refine FJ.dskip rfl rfl rfl (.s .z) rfl rfl (by decide) rfl (.s (.s .z)) ?_
 refine FJ.dskip rfl rfl rfl (.s (.s .z)) rfl rfl (by decide) rfl (.s (.s .z)) ?_
 refine FJ.dskip rfl rfl rfl (.s (.s (.s .z))) rfl rfl (by decide) rfl (.s (.s .z)) ?_
 refine FJ.dq rfl rfl rfl (by decide) rfl (.s (.s .z)) (q_pickF rfl (.t (.s4 .z)) .c) ?_
 refine FJ.es (goes_sch rfl rfl) rfl (es_store (off := 0) (cs := [.int .i64 x7, .int .i64 (wd ws 1), .int .i64 (wd ws 2), .slice none 0 0, .slice Agz0 E.length cgz0]) rfl sz_30 (.t (.s16 (.s4 (.s4 (.s4 .z))))) (.t (.s4 (.s4 .z))) rfl (ones rfl) (.s .z) (Nat.le_of_ble_eq_true rfl) (.c .z (.c (.s .z) (.c (.s (.s .z)) (.c (.s (.s (.s .z))) (.c (.s (.s (.s (.s .z)))) .n)))))) ?_
 refine FJ.sk (.s (.s .z)) ?_
 refine FJ.er (.s16 (.s4 (.s4 (.s (.s (.s .z)))))) ?_
 refine FJ.q (goes_sch rfl rfl) rfl (by decide) rfl (q_assign rfl (.t .z)) ?_
 refine FJ.sl rfl ?_
 refine FJ.schN ?_
 refine FJ.drawN (by kernel_rfl) ?_
 refine FJ.then_ (FJ.ret ?_)
 refine FJ.add (c := ownA kSl_2 [] [.slice none 0 0]) (fun w S => own_nil w S none) ?_
 refine FJ.doneS (res_ct (cs := [.int .i64 x7, .int .i64 (wd ws 1), .int .i64 (wd ws 2), .slice none 0 0, .slice Agz0 E.length cgz0]) rfl (.s16 (.s4 (.s4 (.s4 .z)))) ag_30 sz_30 (WS.rows0 (cs := [.int .i64 x7, .int .i64 (wd ws 1), .int .i64 (wd ws 2), .slice none 0 0, .slice Agz0 E.length cgz0]) (.s .z) (fun _ _ h => h)) .z) (.c .z (.c (.s .z) .n)) ?_
 exact ⟨(⟨x7, wd ws 1, wd ws 2, [], E⟩ : DInode), false, _, _, fun h => absurd h (by omega), fun _ => ⟨(by first | exact decide_eq_true ⟨by assumption, by assumption⟩ | (symm; apply decide_eq_false; rintro ⟨h1, h2⟩; first | contradiction | (simp_all; done)) | (simp_all; done)), by first | (exact sdec_k hx7 (by assumption) (hRI (by assumption)) (by omega)) | (have hE := hE0 (by assumption); subst hE; rw [subL_end]; exact sdec_1 hx7 (by assumption)) | (have hE := hE0 (by omega); subst hE; exact sdec_n hx7 (by omega) (by rintro ⟨h1, h2⟩; first | contradiction | omega))⟩, rfl, rfl⟩
 refine FJ.skipl rfl rfl .z rfl rfl (by decide) rfl ?_
 refine FJ.skipl rfl rfl (.s .z) rfl rfl (by decide) rfl ?_
 refine FJ.skipl rfl rfl (.s (.s .z)) rfl rfl (by decide) rfl ?_
 refine FJ.skipl rfl rfl (.s (.s (.s .z))) rfl rfl (by decide) rfl ?_
 refine FJ.ql rfl (q_pickF rfl (.t (.s4 .z)) .c) (FJ.ql rfl (q_move rfl (.t .z)) ?_)
 refine FJ.skipl rfl rfl .z rfl rfl (by decide) rfl ?_
 refine FJ.skipl rfl rfl (.s .z) rfl rfl (by decide) rfl ?_
 refine FJ.skipl rfl rfl (.s (.s .z)) rfl rfl (by decide) rfl ?_
 refine FJ.skipl rfl rfl (.s (.s (.s .z))) rfl rfl (by decide) rfl ?_
 refine FJ.ql rfl (q_pickF rfl (.t (.s4 .z)) .c) (FJ.nil (FJ.then_ ?_))
 refine FJ.condF (.t .z) ?_
 refine FJ.exit (FJ.thenE (FJ.thenE (FJ.inB (FJ.then_ ?_))))
 refine FJ.seq ?_
 refine FJ.sel (.c .z (.c (.s .z) (.c .z .n))) ?_
 refine FJ.draw [rowA g58 30 5 1 [.int .i64 x7, .int .i64 (wd ws 1), .int .i64 (wd ws 2), .slice none 0 0, .slice Agz0 E.length cgz0]] 10 (by kernel_rfl) ?_
 refine FJ.sch [(0, true), (1, false), (2, true), (3, true)] 7 #[true, true, true, true, false, false, false, false, false, false, false] (by rfl) (by kernel_rfl) ?_
 refine FJ.dq rfl rfl rfl (by decide) rfl (.s (.s .z)) (q_loadA (cs := [.int .i64 x7, .int .i64 (wd ws 1), .int .i64 (wd ws 2), .slice none 0 0, .slice Agz0 E.length cgz0]) rfl ag_30 sz_30 (.t (.s16 (.s .z))) (WS.rows0 .z (fun i u h => by exact h))) ?_
 refine FJ.call (goes_sch rfl rfl) rfl (by decide) rfl (c_call rfl Try.func69 rfl rfl (args1 (.t (.s16 (.s (.s .z)))))) .n (fun w1 S1 hs tr => c_69 (tr.ptr (.s (.s .z)) (kT_30_mk (⟨x7, wd ws 1, wd ws 2, [], E⟩ : DInode) ro_nil (tr.own .z)))) ?_
 rintro _ _ ⟨rfl, rfl⟩
 refine FJ.cat .n ?_
 refine FJ.sk (.s (.s .z)) ?_
 refine FJ.dq rfl rfl rfl (by decide) rfl (.s (.s .z)) (q_eql rfl (.t .z) .c) (FJ.dq rfl rfl rfl (by decide) rfl (.s (.s .z)) (q_move rfl (.t .z)) (FJ.schN ?_))
 refine FJ.caseP .z (fun g102 => ?_) (fun g102 => ?_)
 refine FJ.sch [(4, true), (6, true), (5, false), (7, false), (8, true), (9, false), (10, false)] 0 #[true, true, true, true, true, true, true, true, true, true, true] (by rfl) (by kernel_rfl) ?_
 refine FJ.dqg rfl rfl rfl .z rfl (by decide) rfl (.s (.s .z)) (q_loadA (cs := [.int .i64 x7, .int .i64 (wd ws 1), .int .i64 (wd ws 2), .slice none 0 0, .slice Agz0 E.length cgz0]) rfl ag_30 sz_30 (.t (.s16 (.s4 (.s .z)))) (WS.rows0 .z (fun i u h => by exact h))) ?_
 refine FJ.dqg rfl rfl rfl (.s .z) rfl (by decide) rfl (.s (.s .z)) (q_move rfl (.t (.s16 (.s4 (.s4 (.s .z)))))) ?_
 refine FJ.call (goes_schg rfl rfl rfl (.s (.s .z))) rfl (by decide) rfl (c_call rfl Try.func87 rfl rfl (args1 (.t (.s .z)))) .n (fun w1 S1 hs tr => c_87 (kT_30_mk (⟨x7, wd ws 1, wd ws 2, [], E⟩ : DInode) ro_nil (tr.own .z)) (by assumption)) ?_
 rintro _ _ rfl
 refine FJ.cat (.c .n) ?_
 refine FJ.know (WS.oform .z) ?_
 rintro ⟨Ao104, co104, rfl, hlo104, hmo104, hbo104⟩
 refine FJ.sk (.s (.s (.s .z))) ?_
 refine FJ.call (goes_schg rfl rfl rfl (.s (.s (.s .z)))) rfl (by decide) rfl (c_call rfl Try.func113 rfl rfl (args2 (.t .z) (.t (.s .z)))) .n (fun w1 S1 hs tr => c_113 (tr.own .z) (tr.ctx h0)) ?_
 rintro _ _ ⟨rfl, rfl⟩
 refine FJ.cat .n ?_
 refine FJ.sk (.s (.s (.s .z))) ?_
 refine FJ.dq rfl rfl rfl (by decide) rfl (.s (.s (.s .z))) (q_pickT rfl (.t (.s4 .z)) (.t .z)) ?_
 refine FJ.es (goes_sch rfl rfl) rfl (es_store (off := 0) (cs := [.int .i64 x7, .int .i64 (wd ws 1), .int .i64 (wd ws 2), .slice none 0 0, .slice Agz0 E.length cgz0]) rfl sz_30 (.t (.s16 (.s4 (.s4 (.s4 .z))))) (.t (.s4 (.s4 .z))) rfl (ones rfl) (.s (.s .z)) (Nat.le_of_ble_eq_true rfl) (.c .z (.c (.s .z) (.c (.s (.s .z)) (.c (.s (.s (.s .z))) (.c (.s (.s (.s (.s .z)))) .n)))))) ?_
 refine FJ.sk (.s (.s (.s .z))) ?_
 refine FJ.er (.s16 (.s4 (.s4 (.s (.s (.s .z)))))) ?_
 refine FJ.q (goes_sch rfl rfl) rfl (by decide) rfl (q_assign rfl (.t .z)) ?_
 refine FJ.sl rfl ?_
 refine FJ.schN ?_
 refine FJ.drawN (by kernel_rfl) ?_
 refine FJ.then_ (FJ.ret ?_)
 refine FJ.add (c := ownA kSl_2 [] [.slice none 0 0]) (fun w S => own_nil w S none) ?_
 refine FJ.doneS (res_ct (cs := [.int .i64 x7, .int .i64 (wd ws 1), .int .i64 (wd ws 2), .slice none 0 0, .slice Agz0 E.length cgz0]) rfl (.s16 (.s4 (.s4 (.s4 .z)))) ag_30 sz_30 (WS.rows0 (cs := [.int .i64 x7, .int .i64 (wd ws 1), .int .i64 (wd ws 2), .slice none 0 0, .slice Agz0 E.length cgz0]) (.s .z) (fun _ _ h => h)) .z) (.c .z (.c (.s (.s .z)) .n)) ?_
 exact ⟨(⟨x7, wd ws 1, wd ws 2, [], E⟩ : DInode), decide (packI (⟨x7, wd ws 1, wd ws 2, [], E⟩ : DInode) = ws), _, _, fun h => absurd h (by omega), fun _ => ⟨(by first | exact decide_eq_true ⟨by assumption, by assumption⟩ | (symm; apply decide_eq_false; rintro ⟨h1, h2⟩; first | contradiction | (simp_all; done)) | (simp_all; done)), by first | (exact sdec_k hx7 (by assumption) (hRI (by assumption)) (by omega)) | (have hE := hE0 (by assumption); subst hE; rw [subL_end]; exact sdec_1 hx7 (by assumption)) | (have hE := hE0 (by omega); subst hE; exact sdec_n hx7 (by omega) (by rintro ⟨h1, h2⟩; first | contradiction | omega))⟩, rfl, rfl⟩
 refine FJ.sch [(4, true), (5, true), (6, true), (7, true), (8, true), (9, false), (10, false)] 0 #[true, true, true, true, true, true, true, true, true, true, true] (by rfl) (by kernel_rfl) ?_
 refine FJ.dskip rfl rfl rfl .z rfl rfl (by decide) rfl (.s (.s .z)) ?_
 refine FJ.dskip rfl rfl rfl (.s .z) rfl rfl (by decide) rfl (.s (.s .z)) ?_
 refine FJ.dskip rfl rfl rfl (.s (.s .z)) rfl rfl (by decide) rfl (.s (.s .z)) ?_
 refine FJ.dskip rfl rfl rfl (.s (.s (.s .z))) rfl rfl (by decide) rfl (.s (.s .z)) ?_
 refine FJ.dq rfl rfl rfl (by decide) rfl (.s (.s .z)) (q_pickF rfl (.t (.s4 .z)) .c) ?_
 refine FJ.es (goes_sch rfl rfl) rfl (es_store (off := 0) (cs := [.int .i64 x7, .int .i64 (wd ws 1), .int .i64 (wd ws 2), .slice none 0 0, .slice Agz0 E.length cgz0]) rfl sz_30 (.t (.s16 (.s4 (.s4 (.s4 .z))))) (.t (.s4 (.s4 .z))) rfl (ones rfl) (.s .z) (Nat.le_of_ble_eq_true rfl) (.c .z (.c (.s .z) (.c (.s (.s .z)) (.c (.s (.s (.s .z))) (.c (.s (.s (.s (.s .z)))) .n)))))) ?_
 refine FJ.sk (.s (.s .z)) ?_
 refine FJ.er (.s16 (.s4 (.s4 (.s (.s (.s .z)))))) ?_
 refine FJ.q (goes_sch rfl rfl) rfl (by decide) rfl (q_assign rfl (.t .z)) ?_
 refine FJ.sl rfl ?_
 refine FJ.schN ?_
 refine FJ.drawN (by kernel_rfl) ?_
 refine FJ.then_ (FJ.ret ?_)
 refine FJ.add (c := ownA kSl_2 [] [.slice none 0 0]) (fun w S => own_nil w S none) ?_
 refine FJ.doneS (res_ct (cs := [.int .i64 x7, .int .i64 (wd ws 1), .int .i64 (wd ws 2), .slice none 0 0, .slice Agz0 E.length cgz0]) rfl (.s16 (.s4 (.s4 (.s4 .z)))) ag_30 sz_30 (WS.rows0 (cs := [.int .i64 x7, .int .i64 (wd ws 1), .int .i64 (wd ws 2), .slice none 0 0, .slice Agz0 E.length cgz0]) (.s .z) (fun _ _ h => h)) .z) (.c .z (.c (.s .z) .n)) ?_
 exact ⟨(⟨x7, wd ws 1, wd ws 2, [], E⟩ : DInode), false, _, _, fun h => absurd h (by omega), fun _ => ⟨(by first | exact decide_eq_true ⟨by assumption, by assumption⟩ | (symm; apply decide_eq_false; rintro ⟨h1, h2⟩; first | contradiction | (simp_all; done)) | (simp_all; done)), by first | (exact sdec_k hx7 (by assumption) (hRI (by assumption)) (by omega)) | (have hE := hE0 (by assumption); subst hE; rw [subL_end]; exact sdec_1 hx7 (by assumption)) | (have hE := hE0 (by omega); subst hE; exact sdec_n hx7 (by omega) (by rintro ⟨h1, h2⟩; first | contradiction | omega))⟩, rfl, rfl⟩
 refine FJ.e (goes_sch rfl rfl) rfl (by decide) rfl (e_alloc rfl z_30 rfl rfl) ?_
 rintro _ _ ⟨g107, rfl, rfl⟩
 refine FJ.sk (.s .z) ?_
 refine FJ.schN ?_
 refine FJ.sch [(4, false), (6, false), (7, true), (9, false)] 0 #[true, true, true, true, true, true, true, true, true, true] (by rfl) (by kernel_rfl) ?_
 refine FJ.call (goes_sch rfl rfl) rfl (by decide) rfl (c_call rfl Try.func132 rfl rfl (args2 (.t (.s (.s .z))) .c)) .n (fun w1 S1 hs tr => c_132 (tr.ctx h0) 1 (by omega)) ?_
 rintro _ _ ⟨rfl, rfl⟩
 refine FJ.cat .n ?_
 refine FJ.sk (.s .z) ?_
 refine FJ.call (goes_sch rfl rfl) rfl (by decide) rfl (c_call rfl Try.func132 rfl rfl (args2 (.t (.s (.s .z))) .c)) .n (fun w1 S1 hs tr => c_132 (tr.ctx h0) 2 (by omega)) ?_
 rintro _ _ ⟨rfl, rfl⟩
 refine FJ.cat .n ?_
 refine FJ.sk (.s .z) ?_
 refine FJ.dq rfl rfl rfl (by decide) rfl (.s .z) (q_build (ps := [(0, .int .i64 x7), (1, .int .i64 (wd ws 1)), (2, .int .i64 (wd ws 2))]) (cs := [.int .i64 x7, .int .i64 (wd ws 1), .int .i64 (wd ws 2), .slice none 0 0, .slice none 0 0]) rfl bl_30 (by intro act hact; simp only [List.map_toArray, List.map_cons, List.map_nil, (show Val _ _ _ from (.t (.s4 (.s .z)))) act hact, (show Val _ _ _ from (.t (.s .z))) act hact, (show Val _ _ _ from (.t .z)) act hact]) rfl) ?_
 refine FJ.es (goes_sch rfl rfl) rfl (es_store (off := 0) (cs := [.int .i64 x7, .int .i64 (wd ws 1), .int .i64 (wd ws 2), .slice none 0 0, .slice none 0 0]) rfl sz_30 (.t (.s (.s (.s .z)))) (.t .z) rfl (ones rfl) .z (Nat.le_of_ble_eq_true rfl) (.c .z (.c (.s .z) (.c (.s (.s .z)) (.c (.s (.s (.s .z))) (.c (.s (.s (.s (.s .z)))) .n)))))) ?_
 refine FJ.sl rfl ?_
 refine FJ.schN ?_
 refine FJ.drawN (by kernel_rfl) ?_
 refine FJ.then_ (FJ.seq (FJ.seq (FJ.region (FJ.ql rfl (q_fieldAddr rfl (.t (.s (.s (.s .z)))) (fun _ => fa_30_0 _ _)) ?_))))
 refine FJ.ql rfl (q_load rfl ag_2 (.t .z) (WS.row .z rfl)) (FJ.ql rfl (q_eql rfl (.t .z) .c) (FJ.ql rfl (q_move rfl (.t .z)) ?_))
 refine FJ.caseP .z (fun g108 => ?_) (fun g108 => ?_)
 refine FJ.q (goes_listg rfl rfl .z) rfl (by decide) rfl (q_move rfl (.t (.s16 (.s (.s .z))))) ?_
 refine FJ.q (goes_listg rfl rfl (.s .z)) rfl (by decide) rfl (q_len rfl u_22 (.t .z)) ?_
 refine FJ.q (goes_listg rfl rfl (.s (.s .z))) rfl (by decide) rfl (q_gtr rfl (.t .z) .c) ?_
 refine FJ.ql rfl (q_pickT rfl (.t (.s (.s (.s .z)))) (.t .z)) (FJ.nil (FJ.then_ ?_))
 refine FJ.condP (.t .z) (fun b109 => ?_) (fun b109 => ?_)
 refine FJ.region (FJ.ql rfl (q_move rfl (.t (.s16 (.s4 (.s (.s .z)))))) ?_)
 obtain ⟨As110, hAs110⟩ : ∃ A' : Option Addr, A' = (if c0 = 3 then (some ad6) else Option.map (fun z => Addr.add z (3 * 1)) (some ad6)) := ⟨_, rfl⟩
 have hs110 := ro_sub (a := 3) (b := ws.length) hAs110 h0 (by omega) (by omega)
 have ls110 := subL_len (xs := ws) (a := 3) (b := ws.length) (by omega)
 refine FJ.ql rfl (q_sliceL (a := 3) (b := ws.length) rfl u_22 sz_2 (.t .z) hAs110 (.inr ⟨_, _, rfl, .c⟩) (.inl ⟨rfl, rfl⟩) (by omega) (by omega) (by omega)) ?_
 refine FJ.call (goes_list rfl) rfl (by decide) rfl (c_call rfl Try.func133 rfl rfl (args1 (.t .z))) .n (fun w1 S1 hs tr => c_133 (tr.ctx hs110)) ?_
 rintro _ _ rfl
 refine FJ.cat (.c .n) ?_
 refine FJ.know (WS.oform .z) ?_
 rintro ⟨Ao113, co113, rfl, hlo113, hmo113, hbo113⟩
 refine FJ.ql rfl (q_fieldAddr rfl (.t (.s4 (.s4 (.s4 (.s (.s .z)))))) (fun _ => fa_30_3 _ _)) ?_
 refine FJ.es (goes_list rfl) rfl (es_store (off := 3) (cs := [.slice Ao113 (subL ws 3 ws.length).length co113]) rfl sz_22 (.t .z) (.t (.s .z)) rfl (ones rfl) (.s .z) (Nat.le_of_ble_eq_true rfl) (.c (.s (.s (.s .z))) .n)) ?_
 refine FJ.nil (FJ.then_ (FJ.seq (FJ.region (FJ.ql rfl (q_assign rfl .c) ?_))))
 refine FJ.nil (FJ.then_ (FJ.seq (FJ.seq (FJ.region ?_))))
 refine FJ.ql rfl (q_assign rfl .c) (FJ.nil (FJ.then_ (FJ.block ?_)))
 refine FJ.add (c := ownA kSl_130 [] [.slice none 0 0]) (fun w S => own_nil w S none) ?_
 refine FJ.loopi (γ := (Option Addr) × Nat × Nat × Nat × (List DEnt)) (fun ⟨Agz0, cgz0, p, k, E⟩ => [(6, .int .i64 (k : Int)), (5, .int .i64 (p : Int)), (4, .pointer (some ⟨g107, 0, none⟩)), (3, .bool false), (2, .pointer (some ⟨g2, 0, none⟩)), (0, .slice (some ad6) ws.length c0)]) (fun ⟨Agz0, cgz0, p, k, E⟩ => [ownA kSl_130 E [.slice Agz0 E.length cgz0], rowA g107 30 5 1 [.int .i64 x7, .int .i64 (wd ws 1), .int .i64 (wd ws 2), .slice Ao113 (subL ws 3 ws.length).length co113, .slice Agz0 E.length cgz0], ownA kSl_2 (subL ws 3 ws.length) [.slice Ao113 (subL ws 3 ws.length).length co113], rowA g2 30 5 1 [.int .i64 0, .int .i64 0, .int .i64 0, .slice none 0 0, .slice none 0 0]]) (fun ⟨Agz0, cgz0, p, k, E⟩ => E.length = k ∧ 4 + 2 * k ≤ p ∧ p ≤ ws.length + 14 ∧ (¬ x7 = 2 → E = []) ∧ (x7 = 2 → ∀ y, Vd ws y → RI y E (ws.drop p))) (fun ⟨Agz0, cgz0, p, k, E⟩ => ws.length - p) (none, 0, 4, 0, []) ⟨rfl, by omega, by omega, fun _ => rfl, ri_w0 hx7⟩ (.c .z (.c (.s .z) (.c (.s16 (.s .z)) (.c (.s16 (.s4 (.s4 (.s (.s .z))))) (.c (.s16 (.s4 (.s4 (.s (.s (.s .z)))))) (.c (.s16 (.s4 (.s4 (.s4 .z)))) .n)))))) (fun _ h => h.sel (.c .z (.c .z (.c .z (.c .z .n))))) ?_
 rintro ⟨Agz0, cgz0, p, k, E⟩ ⟨hEk, hkp, hpl, hE0, hRI⟩
 have hwp := wd_rng hwv (p + 1)
 refine FJ.seq (FJ.seq (FJ.region (FJ.ql rfl (q_fieldAddr rfl (.t (.s (.s .z))) (fun _ => fa_30_0 _ _)) (FJ.ql rfl (q_load rfl ag_2 (.t .z) (WS.row (.s .z) rfl)) ?_))))
 refine FJ.ql rfl (q_eql rfl (.t .z) .c) (FJ.ql rfl (q_move rfl (.t .z)) ?_)
 refine FJ.caseP .z (fun g115 => ?_) (fun g115 => ?_)
 exfalso; first | omega | contradiction
 refine FJ.skipl rfl rfl .z rfl rfl (by decide) rfl ?_
 refine FJ.skipl rfl rfl (.s .z) rfl rfl (by decide) rfl ?_
 refine FJ.skipl rfl rfl (.s (.s .z)) rfl rfl (by decide) rfl ?_
 refine FJ.skipl rfl rfl (.s (.s (.s .z))) rfl rfl (by decide) rfl ?_
 refine FJ.ql rfl (q_pickF rfl (.t (.s4 .z)) .c) (FJ.ql rfl (q_move rfl (.t .z)) ?_)
 refine FJ.skipl rfl rfl .z rfl rfl (by decide) rfl ?_
 refine FJ.skipl rfl rfl (.s .z) rfl rfl (by decide) rfl ?_
 refine FJ.skipl rfl rfl (.s (.s .z)) rfl rfl (by decide) rfl ?_
 refine FJ.skipl rfl rfl (.s (.s (.s .z))) rfl rfl (by decide) rfl ?_
 refine FJ.ql rfl (q_pickF rfl (.t (.s4 .z)) .c) (FJ.nil (FJ.then_ ?_))
 refine FJ.condF (.t .z) ?_
 refine FJ.exit (FJ.thenE (FJ.thenE (FJ.inB (FJ.then_ ?_))))
 refine FJ.seq ?_
 refine FJ.sel (.c .z (.c (.s .z) (.c (.s .z) (.c .z .n)))) ?_
 refine FJ.draw [rowA g107 30 5 1 [.int .i64 x7, .int .i64 (wd ws 1), .int .i64 (wd ws 2), .slice Ao113 (subL ws 3 ws.length).length co113, .slice Agz0 E.length cgz0]] 10 (by kernel_rfl) ?_
 refine FJ.sch [(0, true), (1, false), (2, true), (3, true)] 7 #[true, true, true, true, false, false, false, false, false, false, false] (by rfl) (by kernel_rfl) ?_
 refine FJ.dq rfl rfl rfl (by decide) rfl (.s (.s (.s .z))) (q_loadA (cs := [.int .i64 x7, .int .i64 (wd ws 1), .int .i64 (wd ws 2), .slice Ao113 (subL ws 3 ws.length).length co113, .slice Agz0 E.length cgz0]) rfl ag_30 sz_30 (.t (.s16 (.s .z))) (WS.rows0 .z (fun i u h => by exact h))) ?_
 refine FJ.call (goes_sch rfl rfl) rfl (by decide) rfl (c_call rfl Try.func69 rfl rfl (args1 (.t (.s16 (.s (.s .z)))))) .n (fun w1 S1 hs tr => c_69 (tr.ptr (.s (.s (.s .z))) (kT_30_mk (⟨x7, wd ws 1, wd ws 2, (subL ws 3 ws.length), E⟩ : DInode) (tr.own (.s .z)) (tr.own .z)))) ?_
 rintro _ _ ⟨rfl, rfl⟩
 refine FJ.cat .n ?_
 refine FJ.sk (.s (.s (.s .z))) ?_
 refine FJ.dq rfl rfl rfl (by decide) rfl (.s (.s (.s .z))) (q_eql rfl (.t .z) .c) (FJ.dq rfl rfl rfl (by decide) rfl (.s (.s (.s .z))) (q_move rfl (.t .z)) (FJ.schN ?_))
 refine FJ.caseP .z (fun g116 => ?_) (fun g116 => ?_)
 refine FJ.sch [(4, true), (6, true), (5, false), (7, false), (8, true), (9, false), (10, false)] 0 #[true, true, true, true, true, true, true, true, true, true, true] (by rfl) (by kernel_rfl) ?_
 refine FJ.dqg rfl rfl rfl .z rfl (by decide) rfl (.s (.s (.s .z))) (q_loadA (cs := [.int .i64 x7, .int .i64 (wd ws 1), .int .i64 (wd ws 2), .slice Ao113 (subL ws 3 ws.length).length co113, .slice Agz0 E.length cgz0]) rfl ag_30 sz_30 (.t (.s16 (.s4 (.s .z)))) (WS.rows0 .z (fun i u h => by exact h))) ?_
 refine FJ.dqg rfl rfl rfl (.s .z) rfl (by decide) rfl (.s (.s (.s .z))) (q_move rfl (.t (.s16 (.s4 (.s4 (.s .z)))))) ?_
 refine FJ.call (goes_schg rfl rfl rfl (.s (.s .z))) rfl (by decide) rfl (c_call rfl Try.func87 rfl rfl (args1 (.t (.s .z)))) .n (fun w1 S1 hs tr => c_87 (kT_30_mk (⟨x7, wd ws 1, wd ws 2, (subL ws 3 ws.length), E⟩ : DInode) (tr.own (.s .z)) (tr.own .z)) (by assumption)) ?_
 rintro _ _ rfl
 refine FJ.cat (.c .n) ?_
 refine FJ.know (WS.oform .z) ?_
 rintro ⟨Ao118, co118, rfl, hlo118, hmo118, hbo118⟩
 refine FJ.sk (.s4 .z) ?_
 refine FJ.call (goes_schg rfl rfl rfl (.s (.s (.s .z)))) rfl (by decide) rfl (c_call rfl Try.func113 rfl rfl (args2 (.t .z) (.t (.s .z)))) .n (fun w1 S1 hs tr => c_113 (tr.own .z) (tr.ctx h0)) ?_
 rintro _ _ ⟨rfl, rfl⟩
 refine FJ.cat .n ?_
 refine FJ.sk (.s4 .z) ?_
 refine FJ.dq rfl rfl rfl (by decide) rfl (.s4 .z) (q_pickT rfl (.t (.s4 .z)) (.t .z)) ?_
 refine FJ.es (goes_sch rfl rfl) rfl (es_store (off := 0) (cs := [.int .i64 x7, .int .i64 (wd ws 1), .int .i64 (wd ws 2), .slice Ao113 (subL ws 3 ws.length).length co113, .slice Agz0 E.length cgz0]) rfl sz_30 (.t (.s16 (.s4 (.s4 (.s4 .z))))) (.t (.s4 (.s4 .z))) rfl (ones rfl) (.s (.s (.s .z))) (Nat.le_of_ble_eq_true rfl) (.c .z (.c (.s .z) (.c (.s (.s .z)) (.c (.s (.s (.s .z))) (.c (.s (.s (.s (.s .z)))) .n)))))) ?_
 refine FJ.sk (.s4 .z) ?_
 refine FJ.er (.s16 (.s4 (.s4 (.s (.s (.s .z)))))) ?_
 refine FJ.q (goes_sch rfl rfl) rfl (by decide) rfl (q_assign rfl (.t .z)) ?_
 refine FJ.sl rfl ?_
 refine FJ.schN ?_
 refine FJ.drawN (by kernel_rfl) ?_
 refine FJ.then_ (FJ.ret ?_)
 refine FJ.doneS (res_ct (cs := [.int .i64 x7, .int .i64 (wd ws 1), .int .i64 (wd ws 2), .slice Ao113 (subL ws 3 ws.length).length co113, .slice Agz0 E.length cgz0]) rfl (.s16 (.s4 (.s4 (.s4 .z)))) ag_30 sz_30 (WS.rows0 (cs := [.int .i64 x7, .int .i64 (wd ws 1), .int .i64 (wd ws 2), .slice Ao113 (subL ws 3 ws.length).length co113, .slice Agz0 E.length cgz0]) .z (fun _ _ h => h)) .z) (.c (.s (.s (.s .z))) (.c (.s (.s .z)) .n)) ?_
 exact ⟨(⟨x7, wd ws 1, wd ws 2, (subL ws 3 ws.length), E⟩ : DInode), decide (packI (⟨x7, wd ws 1, wd ws 2, (subL ws 3 ws.length), E⟩ : DInode) = ws), _, _, fun h => absurd h (by omega), fun _ => ⟨(by first | exact decide_eq_true ⟨by assumption, by assumption⟩ | (symm; apply decide_eq_false; rintro ⟨h1, h2⟩; first | contradiction | (simp_all; done)) | (simp_all; done)), by first | (exact sdec_k hx7 (by assumption) (hRI (by assumption)) (by omega)) | (have hE := hE0 (by assumption); subst hE; rw [subL_end]; exact sdec_1 hx7 (by assumption)) | (have hE := hE0 (by omega); subst hE; exact sdec_n hx7 (by omega) (by rintro ⟨h1, h2⟩; first | contradiction | omega))⟩, rfl, rfl⟩
 refine FJ.sch [(4, true), (5, true), (6, true), (7, true), (8, true), (9, false), (10, false)] 0 #[true, true, true, true, true, true, true, true, true, true, true] (by rfl) (by kernel_rfl) ?_
 refine FJ.dskip rfl rfl rfl .z rfl rfl (by decide) rfl (.s (.s (.s .z))) ?_
 refine FJ.dskip rfl rfl rfl (.s .z) rfl rfl (by decide) rfl (.s (.s (.s .z))) ?_
 refine FJ.dskip rfl rfl rfl (.s (.s .z)) rfl rfl (by decide) rfl (.s (.s (.s .z))) ?_
 refine FJ.dskip rfl rfl rfl (.s (.s (.s .z))) rfl rfl (by decide) rfl (.s (.s (.s .z))) ?_
 refine FJ.dq rfl rfl rfl (by decide) rfl (.s (.s (.s .z))) (q_pickF rfl (.t (.s4 .z)) .c) ?_
 refine FJ.es (goes_sch rfl rfl) rfl (es_store (off := 0) (cs := [.int .i64 x7, .int .i64 (wd ws 1), .int .i64 (wd ws 2), .slice Ao113 (subL ws 3 ws.length).length co113, .slice Agz0 E.length cgz0]) rfl sz_30 (.t (.s16 (.s4 (.s4 (.s4 .z))))) (.t (.s4 (.s4 .z))) rfl (ones rfl) (.s (.s .z)) (Nat.le_of_ble_eq_true rfl) (.c .z (.c (.s .z) (.c (.s (.s .z)) (.c (.s (.s (.s .z))) (.c (.s (.s (.s (.s .z)))) .n)))))) ?_
 refine FJ.sk (.s (.s (.s .z))) ?_
 refine FJ.er (.s16 (.s4 (.s4 (.s (.s (.s .z)))))) ?_
 refine FJ.q (goes_sch rfl rfl) rfl (by decide) rfl (q_assign rfl (.t .z)) ?_
 refine FJ.sl rfl ?_
 refine FJ.schN ?_
 refine FJ.drawN (by kernel_rfl) ?_
 refine FJ.then_ (FJ.ret ?_)
 refine FJ.doneS (res_ct (cs := [.int .i64 x7, .int .i64 (wd ws 1), .int .i64 (wd ws 2), .slice Ao113 (subL ws 3 ws.length).length co113, .slice Agz0 E.length cgz0]) rfl (.s16 (.s4 (.s4 (.s4 .z)))) ag_30 sz_30 (WS.rows0 (cs := [.int .i64 x7, .int .i64 (wd ws 1), .int .i64 (wd ws 2), .slice Ao113 (subL ws 3 ws.length).length co113, .slice Agz0 E.length cgz0]) .z (fun _ _ h => h)) .z) (.c (.s (.s .z)) (.c (.s .z) .n)) ?_
 exact ⟨(⟨x7, wd ws 1, wd ws 2, (subL ws 3 ws.length), E⟩ : DInode), false, _, _, fun h => absurd h (by omega), fun _ => ⟨(by first | exact decide_eq_true ⟨by assumption, by assumption⟩ | (symm; apply decide_eq_false; rintro ⟨h1, h2⟩; first | contradiction | (simp_all; done)) | (simp_all; done)), by first | (exact sdec_k hx7 (by assumption) (hRI (by assumption)) (by omega)) | (have hE := hE0 (by assumption); subst hE; rw [subL_end]; exact sdec_1 hx7 (by assumption)) | (have hE := hE0 (by omega); subst hE; exact sdec_n hx7 (by omega) (by rintro ⟨h1, h2⟩; first | contradiction | omega))⟩, rfl, rfl⟩
 refine FJ.skip (FJ.then_ (FJ.seq (FJ.region (FJ.ql rfl (q_assign rfl .c) ?_))))
 refine FJ.nil (FJ.then_ (FJ.seq (FJ.seq (FJ.region ?_))))
 refine FJ.ql rfl (q_assign rfl .c) (FJ.nil (FJ.then_ (FJ.block ?_)))
 refine FJ.add (c := ownA kSl_130 [] [.slice none 0 0]) (fun w S => own_nil w S none) ?_
 refine FJ.loopi (γ := (Option Addr) × Nat × Nat × Nat × (List DEnt)) (fun ⟨Agz0, cgz0, p, k, E⟩ => [(6, .int .i64 (k : Int)), (5, .int .i64 (p : Int)), (4, .pointer (some ⟨g107, 0, none⟩)), (3, .bool false), (2, .pointer (some ⟨g2, 0, none⟩)), (0, .slice (some ad6) ws.length c0)]) (fun ⟨Agz0, cgz0, p, k, E⟩ => [ownA kSl_130 E [.slice Agz0 E.length cgz0], rowA g107 30 5 1 [.int .i64 x7, .int .i64 (wd ws 1), .int .i64 (wd ws 2), .slice none 0 0, .slice Agz0 E.length cgz0], rowA g2 30 5 1 [.int .i64 0, .int .i64 0, .int .i64 0, .slice none 0 0, .slice none 0 0]]) (fun ⟨Agz0, cgz0, p, k, E⟩ => E.length = k ∧ 4 + 2 * k ≤ p ∧ p ≤ ws.length + 14 ∧ (¬ x7 = 2 → E = []) ∧ (x7 = 2 → ∀ y, Vd ws y → RI y E (ws.drop p))) (fun ⟨Agz0, cgz0, p, k, E⟩ => ws.length - p) (none, 0, 4, 0, []) ⟨rfl, by omega, by omega, fun _ => rfl, ri_w0 hx7⟩ (.c .z (.c (.s .z) (.c (.s4 (.s4 (.s4 (.s .z)))) (.c (.s16 (.s4 (.s (.s .z)))) (.c (.s16 (.s4 (.s (.s (.s .z))))) (.c (.s16 (.s4 (.s4 .z))) .n)))))) (fun _ h => h.sel (.c .z (.c .z (.c .z .n)))) ?_
 rintro ⟨Agz0, cgz0, p, k, E⟩ ⟨hEk, hkp, hpl, hE0, hRI⟩
 have hwp := wd_rng hwv (p + 1)
 refine FJ.seq (FJ.seq (FJ.region (FJ.ql rfl (q_fieldAddr rfl (.t (.s (.s .z))) (fun _ => fa_30_0 _ _)) (FJ.ql rfl (q_load rfl ag_2 (.t .z) (WS.row (.s .z) rfl)) ?_))))
 refine FJ.ql rfl (q_eql rfl (.t .z) .c) (FJ.ql rfl (q_move rfl (.t .z)) ?_)
 refine FJ.caseP .z (fun g120 => ?_) (fun g120 => ?_)
 exfalso; first | omega | contradiction
 refine FJ.skipl rfl rfl .z rfl rfl (by decide) rfl ?_
 refine FJ.skipl rfl rfl (.s .z) rfl rfl (by decide) rfl ?_
 refine FJ.skipl rfl rfl (.s (.s .z)) rfl rfl (by decide) rfl ?_
 refine FJ.skipl rfl rfl (.s (.s (.s .z))) rfl rfl (by decide) rfl ?_
 refine FJ.ql rfl (q_pickF rfl (.t (.s4 .z)) .c) (FJ.ql rfl (q_move rfl (.t .z)) ?_)
 refine FJ.skipl rfl rfl .z rfl rfl (by decide) rfl ?_
 refine FJ.skipl rfl rfl (.s .z) rfl rfl (by decide) rfl ?_
 refine FJ.skipl rfl rfl (.s (.s .z)) rfl rfl (by decide) rfl ?_
 refine FJ.skipl rfl rfl (.s (.s (.s .z))) rfl rfl (by decide) rfl ?_
 refine FJ.ql rfl (q_pickF rfl (.t (.s4 .z)) .c) (FJ.nil (FJ.then_ ?_))
 refine FJ.condF (.t .z) ?_
 refine FJ.exit (FJ.thenE (FJ.thenE (FJ.inB (FJ.then_ ?_))))
 refine FJ.seq ?_
 refine FJ.sel (.c .z (.c (.s .z) (.c .z .n))) ?_
 refine FJ.draw [rowA g107 30 5 1 [.int .i64 x7, .int .i64 (wd ws 1), .int .i64 (wd ws 2), .slice none 0 0, .slice Agz0 E.length cgz0]] 10 (by kernel_rfl) ?_
 refine FJ.sch [(0, true), (1, false), (2, true), (3, true)] 7 #[true, true, true, true, false, false, false, false, false, false, false] (by rfl) (by kernel_rfl) ?_
 refine FJ.dq rfl rfl rfl (by decide) rfl (.s (.s .z)) (q_loadA (cs := [.int .i64 x7, .int .i64 (wd ws 1), .int .i64 (wd ws 2), .slice none 0 0, .slice Agz0 E.length cgz0]) rfl ag_30 sz_30 (.t (.s16 (.s .z))) (WS.rows0 .z (fun i u h => by exact h))) ?_
 refine FJ.call (goes_sch rfl rfl) rfl (by decide) rfl (c_call rfl Try.func69 rfl rfl (args1 (.t (.s16 (.s (.s .z)))))) .n (fun w1 S1 hs tr => c_69 (tr.ptr (.s (.s .z)) (kT_30_mk (⟨x7, wd ws 1, wd ws 2, [], E⟩ : DInode) ro_nil (tr.own .z)))) ?_
 rintro _ _ ⟨rfl, rfl⟩
 refine FJ.cat .n ?_
 refine FJ.sk (.s (.s .z)) ?_
 refine FJ.dq rfl rfl rfl (by decide) rfl (.s (.s .z)) (q_eql rfl (.t .z) .c) (FJ.dq rfl rfl rfl (by decide) rfl (.s (.s .z)) (q_move rfl (.t .z)) (FJ.schN ?_))
 refine FJ.caseP .z (fun g121 => ?_) (fun g121 => ?_)
 refine FJ.sch [(4, true), (6, true), (5, false), (7, false), (8, true), (9, false), (10, false)] 0 #[true, true, true, true, true, true, true, true, true, true, true] (by rfl) (by kernel_rfl) ?_
 refine FJ.dqg rfl rfl rfl .z rfl (by decide) rfl (.s (.s .z)) (q_loadA (cs := [.int .i64 x7, .int .i64 (wd ws 1), .int .i64 (wd ws 2), .slice none 0 0, .slice Agz0 E.length cgz0]) rfl ag_30 sz_30 (.t (.s16 (.s4 (.s .z)))) (WS.rows0 .z (fun i u h => by exact h))) ?_
 refine FJ.dqg rfl rfl rfl (.s .z) rfl (by decide) rfl (.s (.s .z)) (q_move rfl (.t (.s16 (.s4 (.s4 (.s .z)))))) ?_
 refine FJ.call (goes_schg rfl rfl rfl (.s (.s .z))) rfl (by decide) rfl (c_call rfl Try.func87 rfl rfl (args1 (.t (.s .z)))) .n (fun w1 S1 hs tr => c_87 (kT_30_mk (⟨x7, wd ws 1, wd ws 2, [], E⟩ : DInode) ro_nil (tr.own .z)) (by assumption)) ?_
 rintro _ _ rfl
 refine FJ.cat (.c .n) ?_
 refine FJ.know (WS.oform .z) ?_
 rintro ⟨Ao123, co123, rfl, hlo123, hmo123, hbo123⟩
 refine FJ.sk (.s (.s (.s .z))) ?_
 refine FJ.call (goes_schg rfl rfl rfl (.s (.s (.s .z)))) rfl (by decide) rfl (c_call rfl Try.func113 rfl rfl (args2 (.t .z) (.t (.s .z)))) .n (fun w1 S1 hs tr => c_113 (tr.own .z) (tr.ctx h0)) ?_
 rintro _ _ ⟨rfl, rfl⟩
 refine FJ.cat .n ?_
 refine FJ.sk (.s (.s (.s .z))) ?_
 refine FJ.dq rfl rfl rfl (by decide) rfl (.s (.s (.s .z))) (q_pickT rfl (.t (.s4 .z)) (.t .z)) ?_
 refine FJ.es (goes_sch rfl rfl) rfl (es_store (off := 0) (cs := [.int .i64 x7, .int .i64 (wd ws 1), .int .i64 (wd ws 2), .slice none 0 0, .slice Agz0 E.length cgz0]) rfl sz_30 (.t (.s16 (.s4 (.s4 (.s4 .z))))) (.t (.s4 (.s4 .z))) rfl (ones rfl) (.s (.s .z)) (Nat.le_of_ble_eq_true rfl) (.c .z (.c (.s .z) (.c (.s (.s .z)) (.c (.s (.s (.s .z))) (.c (.s (.s (.s (.s .z)))) .n)))))) ?_
 refine FJ.sk (.s (.s (.s .z))) ?_
 refine FJ.er (.s16 (.s4 (.s4 (.s (.s (.s .z)))))) ?_
 refine FJ.q (goes_sch rfl rfl) rfl (by decide) rfl (q_assign rfl (.t .z)) ?_
 refine FJ.sl rfl ?_
 refine FJ.schN ?_
 refine FJ.drawN (by kernel_rfl) ?_
 refine FJ.then_ (FJ.ret ?_)
 refine FJ.add (c := ownA kSl_2 [] [.slice none 0 0]) (fun w S => own_nil w S none) ?_
 refine FJ.doneS (res_ct (cs := [.int .i64 x7, .int .i64 (wd ws 1), .int .i64 (wd ws 2), .slice none 0 0, .slice Agz0 E.length cgz0]) rfl (.s16 (.s4 (.s4 (.s4 .z)))) ag_30 sz_30 (WS.rows0 (cs := [.int .i64 x7, .int .i64 (wd ws 1), .int .i64 (wd ws 2), .slice none 0 0, .slice Agz0 E.length cgz0]) (.s .z) (fun _ _ h => h)) .z) (.c .z (.c (.s (.s .z)) .n)) ?_
 exact ⟨(⟨x7, wd ws 1, wd ws 2, [], E⟩ : DInode), decide (packI (⟨x7, wd ws 1, wd ws 2, [], E⟩ : DInode) = ws), _, _, fun h => absurd h (by omega), fun _ => ⟨(by first | exact decide_eq_true ⟨by assumption, by assumption⟩ | (symm; apply decide_eq_false; rintro ⟨h1, h2⟩; first | contradiction | (simp_all; done)) | (simp_all; done)), by first | (exact sdec_k hx7 (by assumption) (hRI (by assumption)) (by omega)) | (have hE := hE0 (by assumption); subst hE; rw [subL_end]; exact sdec_1 hx7 (by assumption)) | (have hE := hE0 (by omega); subst hE; exact sdec_n hx7 (by omega) (by rintro ⟨h1, h2⟩; first | contradiction | omega))⟩, rfl, rfl⟩
 refine FJ.sch [(4, true), (5, true), (6, true), (7, true), (8, true), (9, false), (10, false)] 0 #[true, true, true, true, true, true, true, true, true, true, true] (by rfl) (by kernel_rfl) ?_
 refine FJ.dskip rfl rfl rfl .z rfl rfl (by decide) rfl (.s (.s .z)) ?_
 refine FJ.dskip rfl rfl rfl (.s .z) rfl rfl (by decide) rfl (.s (.s .z)) ?_
 refine FJ.dskip rfl rfl rfl (.s (.s .z)) rfl rfl (by decide) rfl (.s (.s .z)) ?_
 refine FJ.dskip rfl rfl rfl (.s (.s (.s .z))) rfl rfl (by decide) rfl (.s (.s .z)) ?_
 refine FJ.dq rfl rfl rfl (by decide) rfl (.s (.s .z)) (q_pickF rfl (.t (.s4 .z)) .c) ?_
 refine FJ.es (goes_sch rfl rfl) rfl (es_store (off := 0) (cs := [.int .i64 x7, .int .i64 (wd ws 1), .int .i64 (wd ws 2), .slice none 0 0, .slice Agz0 E.length cgz0]) rfl sz_30 (.t (.s16 (.s4 (.s4 (.s4 .z))))) (.t (.s4 (.s4 .z))) rfl (ones rfl) (.s .z) (Nat.le_of_ble_eq_true rfl) (.c .z (.c (.s .z) (.c (.s (.s .z)) (.c (.s (.s (.s .z))) (.c (.s (.s (.s (.s .z)))) .n)))))) ?_
 refine FJ.sk (.s (.s .z)) ?_
 refine FJ.er (.s16 (.s4 (.s4 (.s (.s (.s .z)))))) ?_
 refine FJ.q (goes_sch rfl rfl) rfl (by decide) rfl (q_assign rfl (.t .z)) ?_
 refine FJ.sl rfl ?_
 refine FJ.schN ?_
 refine FJ.drawN (by kernel_rfl) ?_
 refine FJ.then_ (FJ.ret ?_)
 refine FJ.add (c := ownA kSl_2 [] [.slice none 0 0]) (fun w S => own_nil w S none) ?_
 refine FJ.doneS (res_ct (cs := [.int .i64 x7, .int .i64 (wd ws 1), .int .i64 (wd ws 2), .slice none 0 0, .slice Agz0 E.length cgz0]) rfl (.s16 (.s4 (.s4 (.s4 .z)))) ag_30 sz_30 (WS.rows0 (cs := [.int .i64 x7, .int .i64 (wd ws 1), .int .i64 (wd ws 2), .slice none 0 0, .slice Agz0 E.length cgz0]) (.s .z) (fun _ _ h => h)) .z) (.c .z (.c (.s .z) .n)) ?_
 exact ⟨(⟨x7, wd ws 1, wd ws 2, [], E⟩ : DInode), false, _, _, fun h => absurd h (by omega), fun _ => ⟨(by first | exact decide_eq_true ⟨by assumption, by assumption⟩ | (symm; apply decide_eq_false; rintro ⟨h1, h2⟩; first | contradiction | (simp_all; done)) | (simp_all; done)), by first | (exact sdec_k hx7 (by assumption) (hRI (by assumption)) (by omega)) | (have hE := hE0 (by assumption); subst hE; rw [subL_end]; exact sdec_1 hx7 (by assumption)) | (have hE := hE0 (by omega); subst hE; exact sdec_n hx7 (by omega) (by rintro ⟨h1, h2⟩; first | contradiction | omega))⟩, rfl, rfl⟩
 refine FJ.skipl rfl rfl .z rfl rfl (by decide) rfl ?_
 refine FJ.skipl rfl rfl (.s .z) rfl rfl (by decide) rfl ?_
 refine FJ.skipl rfl rfl (.s (.s .z)) rfl rfl (by decide) rfl ?_
 refine FJ.ql rfl (q_pickF rfl (.t (.s (.s (.s .z)))) .c) (FJ.nil (FJ.then_ ?_))
 refine FJ.condF (.t .z) ?_
 refine FJ.skip (FJ.then_ (FJ.seq (FJ.region (FJ.ql rfl (q_assign rfl .c) ?_))))
 refine FJ.nil (FJ.then_ (FJ.seq (FJ.seq (FJ.region ?_))))
 refine FJ.ql rfl (q_assign rfl .c) (FJ.nil (FJ.then_ (FJ.block ?_)))
 refine FJ.add (c := ownA kSl_130 [] [.slice none 0 0]) (fun w S => own_nil w S none) ?_
 refine FJ.loopi (γ := (Option Addr) × Nat × Nat × Nat × (List DEnt)) (fun ⟨Agz0, cgz0, p, k, E⟩ => [(6, .int .i64 (k : Int)), (5, .int .i64 (p : Int)), (4, .pointer (some ⟨g107, 0, none⟩)), (3, .bool false), (2, .pointer (some ⟨g2, 0, none⟩)), (0, .slice (some ad6) ws.length c0)]) (fun ⟨Agz0, cgz0, p, k, E⟩ => [ownA kSl_130 E [.slice Agz0 E.length cgz0], rowA g107 30 5 1 [.int .i64 x7, .int .i64 (wd ws 1), .int .i64 (wd ws 2), .slice none 0 0, .slice Agz0 E.length cgz0], rowA g2 30 5 1 [.int .i64 0, .int .i64 0, .int .i64 0, .slice none 0 0, .slice none 0 0]]) (fun ⟨Agz0, cgz0, p, k, E⟩ => E.length = k ∧ 4 + 2 * k ≤ p ∧ p ≤ ws.length + 14 ∧ (¬ x7 = 2 → E = []) ∧ (x7 = 2 → ∀ y, Vd ws y → RI y E (ws.drop p))) (fun ⟨Agz0, cgz0, p, k, E⟩ => ws.length - p) (none, 0, 4, 0, []) ⟨rfl, by omega, by omega, fun _ => rfl, ri_w0 hx7⟩ (.c .z (.c (.s .z) (.c (.s4 (.s4 (.s4 (.s .z)))) (.c (.s16 (.s4 (.s (.s .z)))) (.c (.s16 (.s4 (.s (.s (.s .z))))) (.c (.s16 (.s4 (.s4 .z))) .n)))))) (fun _ h => h.sel (.c .z (.c .z (.c .z .n)))) ?_
 rintro ⟨Agz0, cgz0, p, k, E⟩ ⟨hEk, hkp, hpl, hE0, hRI⟩
 have hwp := wd_rng hwv (p + 1)
 refine FJ.seq (FJ.seq (FJ.region (FJ.ql rfl (q_fieldAddr rfl (.t (.s (.s .z))) (fun _ => fa_30_0 _ _)) (FJ.ql rfl (q_load rfl ag_2 (.t .z) (WS.row (.s .z) rfl)) ?_))))
 refine FJ.ql rfl (q_eql rfl (.t .z) .c) (FJ.ql rfl (q_move rfl (.t .z)) ?_)
 refine FJ.caseP .z (fun g127 => ?_) (fun g127 => ?_)
 refine FJ.q (goes_listg rfl rfl .z) rfl (by decide) rfl (q_move rfl (.t (.s4 .z))) ?_
 refine FJ.q (goes_listg rfl rfl (.s .z)) rfl (by decide) rfl (q_move rfl (.t (.s4 (.s4 (.s (.s .z)))))) ?_
 refine FJ.call (goes_listg rfl rfl (.s (.s .z))) rfl (by decide) rfl (c_call rfl Try.func132 rfl rfl (args2 (.t .z) .c)) .n (fun w1 S1 hs tr => c_132 (tr.ctx h0) 3 (by omega)) ?_
 rintro _ _ ⟨rfl, rfl⟩
 refine FJ.cat .n ?_
 refine FJ.q (goes_listg rfl rfl (.s (.s (.s .z)))) rfl (by decide) rfl (q_lss rfl (.t (.s (.s .z))) (.t .z)) ?_
 refine FJ.ql rfl (q_pickT rfl (.t (.s4 .z)) (.t .z)) (FJ.ql rfl (q_move rfl (.t .z)) ?_)
 refine FJ.caseP .z (fun g128 => ?_) (fun g128 => ?_)
 refine FJ.q (goes_listg rfl rfl .z) rfl (by decide) rfl (q_move rfl (.t (.s4 (.s4 (.s (.s (.s .z))))))) ?_
 refine FJ.q (goes_listg rfl rfl (.s .z)) rfl (by decide) rfl (q_move rfl (.t (.s16 .z))) ?_
 refine FJ.q (goes_listg rfl rfl (.s (.s .z))) rfl (by decide) rfl (q_len rfl u_22 (.t .z)) ?_
 refine FJ.q (goes_listg rfl rfl (.s (.s (.s .z)))) rfl (by decide) rfl (q_lss rfl (.t (.s (.s .z))) (.t .z)) ?_
 refine FJ.ql rfl (q_pickT rfl (.t (.s4 .z)) (.t .z)) (FJ.nil (FJ.then_ ?_))
 refine FJ.condP (.t .z) (fun b129 => ?_) (fun b129 => ?_)
 refine FJ.skip (FJ.then_ (FJ.seq (FJ.block (FJ.seq ?_))))
 refine FJ.region (FJ.ql rfl (q_move rfl (.t (.s16 (.s4 .z)))) (FJ.ql rfl (q_move rfl (.t (.s16 (.s .z)))) ?_))
 refine FJ.call (goes_list rfl) rfl (by decide) rfl (c_call rfl Try.func132 rfl rfl (args2 (.t (.s .z)) (.t .z))) .n (fun w1 S1 hs tr => c_132 (tr.ctx h0) p (by omega)) ?_
 rintro _ _ ⟨rfl, rfl⟩
 refine FJ.cat .n ?_
 refine FJ.ql rfl (q_build (ps := [(1, .int .i64 (wd ws p))]) (cs := [.string (⟨#[]⟩), .int .i64 (wd ws p)]) rfl bl_130 (by intro act hact; simp only [List.map_toArray, List.map_cons, List.map_nil, (show Val _ _ _ from (.t .z)) act hact]) rfl) ?_
 refine FJ.e (goes_list rfl) rfl (by decide) rfl (e_alloc rfl z_130 rfl rfl) ?_
 rintro _ _ ⟨g130, rfl, rfl⟩
 refine FJ.es (goes_list rfl) rfl (es_store (off := 0) (cs := [.string (⟨#[]⟩), .int .i64 (wd ws p)]) rfl sz_130 (.t .z) (.t (.s .z)) rfl (ones rfl) .z (Nat.le_of_ble_eq_true rfl) (.c .z (.c (.s .z) .n))) ?_
 refine FJ.nil (FJ.then_ (FJ.seq (FJ.region (FJ.ql rfl (q_move rfl (.t (.s16 (.s4 (.s4 (.s .z)))))) ?_))))
 refine FJ.ql rfl (q_move rfl (.t (.s16 (.s4 (.s (.s .z)))))) ?_
 refine FJ.ql rfl (q_add (c := ((p + 1 : Nat) : Int)) rfl (.t .z) .c (wr (by omega) (by omega) (by omega))) ?_
 refine FJ.call (goes_list rfl) rfl (by decide) rfl (c_call rfl Try.func132 rfl rfl (args2 (.t (.s (.s .z))) (.t .z))) .n (fun w1 S1 hs tr => c_132 (tr.ctx h0) (p + 1) (by omega)) ?_
 rintro _ _ ⟨rfl, rfl⟩
 refine FJ.cat .n ?_
 refine FJ.ql rfl (q_assign rfl (.t .z)) (FJ.nil (FJ.then_ (FJ.seq (FJ.region ?_))))
 refine FJ.ql rfl (q_move rfl (.t (.s16 (.s4 (.s4 (.s (.s .z))))))) ?_
 refine FJ.ql rfl (q_add (c := ((p + 2 : Nat) : Int)) rfl (.t .z) .c (wr (by omega) (by omega) (by omega))) ?_
 refine FJ.er (.s16 (.s4 (.s4 (.s4 .z)))) (FJ.ql rfl (q_assign rfl (.t .z)) (FJ.nil (FJ.then_ (FJ.seq ?_))))
 refine FJ.seq (FJ.region (FJ.ql rfl (q_assign rfl .c) (FJ.nil (FJ.then_ ?_))))
 refine FJ.block ?_
 refine FJ.loopi (γ := Nat × ByteArray) (fun ⟨j, nm⟩ => [(9, .int .i64 (j : Int)), (5, .int .i64 ((p + 2 + j : Nat) : Int)), (8, .int .i64 (wd ws (p + 1))), (7, .pointer (some ⟨g130, 0, none⟩)), (6, .int .i64 (k : Int)), (4, .pointer (some ⟨g107, 0, none⟩)), (3, .bool false), (2, .pointer (some ⟨g2, 0, none⟩)), (0, .slice (some ad6) ws.length c0)]) (fun ⟨j, nm⟩ => [rowA g130 130 2 1 [.string nm, .int .i64 (wd ws p)], ownA kSl_130 E [.slice Agz0 E.length cgz0], rowA g107 30 5 1 [.int .i64 x7, .int .i64 (wd ws 1), .int .i64 (wd ws 2), .slice none 0 0, .slice Agz0 E.length cgz0], rowA g2 30 5 1 [.int .i64 0, .int .i64 0, .int .i64 0, .slice none 0 0, .slice none 0 0]]) (fun ⟨j, nm⟩ => j ≤ 8 ∧ nm.size ≤ j ∧ (j = 0 ∨ (j : Int) ≤ wd ws (p + 1)) ∧ NI ws E nm j) (fun ⟨j, nm⟩ => 8 - j) (0, ⟨#[]⟩) ⟨Nat.zero_le _, Nat.le_refl _, .inl rfl, ni_w0 (hRI (by assumption)) (by omega)⟩ (.c .z (.e (.s .z) (congrArg (Value.int .i64) (by omega)) (.c (.s4 .z) (.c (.s4 (.s4 (.s .z))) (.c (.s16 (.s4 (.s4 (.s4 (.s .z))))) (.c (.s16 (.s4 (.s4 (.s4 (.s (.s .z)))))) (.c (.s16 (.s4 (.s4 (.s4 (.s (.s (.s .z))))))) (.c (.s16 (.s16 .z)) (.c (.s16 (.s16 (.s .z))) .n))))))))) (fun _ h => h.sel (.c .z (.c .z (.c .z (.c .z .n))))) ?_
 rintro ⟨j, nm⟩ ⟨hj, hnj, hjn, hNI⟩
 refine FJ.seq (FJ.seq (FJ.region (FJ.ql rfl (q_move rfl (.t .z)) (FJ.ql rfl (q_move rfl (.t (.s (.s (.s .z))))) ?_))))
 refine FJ.ql rfl (q_lss rfl (.t (.s .z)) (.t .z)) (FJ.ql rfl (q_move rfl (.t .z)) ?_)
 refine FJ.caseP .z (fun g131 => ?_) (fun g131 => ?_)
 refine FJ.q (goes_listg rfl rfl .z) rfl (by decide) rfl (q_move rfl (.t (.s4 .z))) ?_
 refine FJ.q (goes_listg rfl rfl (.s .z)) rfl (by decide) rfl (q_lss rfl (.t .z) .c) ?_
 refine FJ.ql rfl (q_pickT rfl (.t (.s (.s .z))) (.t .z)) (FJ.nil (FJ.then_ ?_))
 refine FJ.condP (.t .z) (fun b132 => ?_) (fun b132 => ?_)
 refine FJ.skip (FJ.then_ (FJ.seq (FJ.block (FJ.seq ?_))))
 refine FJ.sel (.c (.s .z) (.c .z (.c .z (.c .z .n)))) ?_
 refine FJ.draw [rowA g130 130 2 1 [.string nm, .int .i64 (wd ws p)], rowA g107 30 5 1 [.int .i64 x7, .int .i64 (wd ws 1), .int .i64 (wd ws 2), .slice none 0 0, .slice Agz0 E.length cgz0], rowA g2 30 5 1 [.int .i64 0, .int .i64 0, .int .i64 0, .slice none 0 0, .slice none 0 0]] 11 (by kernel_rfl) ?_
 refine FJ.sch [(0, true), (1, true), (2, true), (3, true), (4, false), (5, true), (6, true), (7, false), (8, false), (9, true), (10, true), (11, false)] 0 #[true, true, true, true, true, true, true, true, true, true, true, true] (by rfl) (by kernel_rfl) ?_
 refine FJ.dq rfl rfl rfl (by decide) rfl (.s .z) (q_fieldAddr rfl (.t (.s4 (.s4 (.s (.s .z))))) (fun _ => fa_130_0 _ _)) (FJ.dq rfl rfl rfl (by decide) rfl (.s .z) (q_load rfl ag_9 (.t .z) (WS.row .z rfl)) (FJ.dq rfl rfl rfl (by decide) rfl (.s .z) (q_move rfl (.t (.s16 (.s .z)))) (FJ.dq rfl rfl rfl (by decide) rfl (.s .z) (q_move rfl (.t (.s4 (.s4 (.s (.s (.s .z))))))) ?_)))
 refine FJ.call (goes_sch rfl rfl) rfl (by decide) rfl (c_call rfl Try.func132 rfl rfl (args2 (.t (.s .z)) (.t .z))) .n (fun w1 S1 hs tr => c_132 (tr.ctx h0) (p + 2 + j) (by omega)) ?_
 rintro _ _ ⟨rfl, rfl⟩
 refine FJ.cat .n ?_
 refine FJ.sk (.s .z) ?_
 refine FJ.dq rfl rfl rfl (by decide) rfl (.s .z) (q_rem (c := Int.tmod (wd ws (p + 2 + j)) 256) rfl (.t .z) .c (by omega) rfl) ?_
 refine FJ.dq rfl rfl rfl (by decide) rfl (.s .z) (q_conv (c := ((mbyte (Int.tmod (wd ws (p + 2 + j)) 256)).toNat : Int)) rfl (.t .z) u_2 u_5 (mbyte_wrap _)) ?_
 refine FJ.e (goes_sch rfl rfl) rfl (by decide) rfl (e_buildSliceL (ps := [(0, .int .u8 ((mbyte (Int.tmod (wd ws (p + 2 + j)) 256)).toNat : Int))]) (cs := [.int .u8 ((mbyte (Int.tmod (wd ws (p + 2 + j)) 256)).toNat : Int)]) rfl u_62 (inz inf_5) (by decide) (by intro act hact; simp only [List.map_toArray, List.map_cons, List.map_nil, (show Val _ _ _ from (.t .z)) act hact]) rfl rfl (by decide) rfl rfl) ?_
 rintro _ _ ⟨g133, rfl, rfl⟩
 refine FJ.sk (.s (.s .z)) ?_
 refine FJ.turns (c := ownA kSl_5 ([(mbyte (Int.tmod (wd ws (p + 2 + j)) 256))] : (List UInt8)) [.slice (some ⟨g133, 0, none⟩) 1 1]) (.c .z .n) (fun w S h => lit_own (xs := ([(mbyte (Int.tmod (wd ws (p + 2 + j)) 256))] : (List UInt8))) h rfl (by simp) (by omega) (by omega)) ?_
 refine FJ.q (goes_sch rfl rfl) rfl (by decide) rfl (q_convBS (xs := ([(mbyte (Int.tmod (wd ws (p + 2 + j)) 256))] : (List UInt8))) rfl u_62 u_5 u_9 (.t .z) (WS.roown .z)) ?_
 refine FJ.sk (.s (.s .z)) ?_
 refine FJ.dq rfl rfl rfl (by decide) rfl (.s (.s .z)) (q_sadd rfl (.t (.s4 (.s (.s (.s .z))))) (.t .z) (by first | (rw [bstr_size]; simp only [List.length_cons, List.length_nil]; omega) | (simp only [bstr_size, List.length_cons, List.length_nil]; omega))) ?_
 refine FJ.dq rfl rfl rfl (by decide) rfl (.s (.s .z)) (q_fieldAddr rfl (.t (.s16 (.s4 .z))) (fun _ => fa_130_0 _ _)) ?_
 refine FJ.es (goes_sch rfl rfl) rfl (es_store (off := 0) (cs := [.string (nm ++ (bstr ([(mbyte (Int.tmod (wd ws (p + 2 + j)) 256))] : (List UInt8))))]) rfl sz_9 (.t .z) (.t (.s .z)) rfl (ones rfl) (.s (.s .z)) (Nat.le_of_ble_eq_true rfl) (.c .z .n)) ?_
 refine FJ.sl rfl ?_
 refine FJ.schN ?_
 refine FJ.drawN (by kernel_rfl) ?_
 refine FJ.then_ (FJ.region (FJ.ql rfl (q_move rfl (.t (.s16 (.s (.s (.s .z)))))) ?_))
 refine FJ.ql rfl (q_add (c := (((p + 2 + j) + 1 : Nat) : Int)) rfl (.t .z) .c (wr (by omega) (by omega) (by omega))) ?_
 refine FJ.er (.s16 (.s4 (.s .z))) (FJ.ql rfl (q_assign rfl (.t .z)) (FJ.nil (FJ.inBN (FJ.then_ ?_))))
 refine FJ.region (FJ.ql rfl (q_move rfl (.t (.s16 (.s4 (.s .z))))) ?_)
 refine FJ.ql rfl (q_add (c := ((j + 1 : Nat) : Int)) rfl (.t .z) .c (wr (by omega) (by omega) (by omega))) ?_
 refine FJ.er (.s16 (.s4 (.s (.s (.s .z))))) (FJ.ql rfl (q_assign rfl (.t .z)) (FJ.nil ?_))
 refine FJ.again ((j + 1), nm ++ (bstr ([(mbyte (Int.tmod (wd ws (p + 2 + j)) 256))] : (List UInt8)))) ⟨by omega, ⟨(by rw [ByteArray.size_append, bstr_size]; simp only [List.length_cons, List.length_nil]; omega), .inr (by omega), ni_w (hRI (by assumption)) (by omega) (by omega) hNI⟩⟩ (by first | omega | (dsimp only; omega)) (.c .z (.e (.s (.s (.s .z))) (congrArg (Value.int .i64) (by omega)) (.c (.s16 (.s4 (.s4 .z))) (.c (.s16 (.s4 (.s4 (.s .z)))) (.c (.s16 (.s4 (.s4 (.s (.s .z))))) (.c (.s16 (.s4 (.s4 (.s (.s (.s .z)))))) (.c (.s16 (.s4 (.s4 (.s4 .z)))) (.c (.s16 (.s4 (.s4 (.s4 (.s .z))))) (.c (.s16 (.s4 (.s4 (.s4 (.s (.s .z)))))) .n))))))))) (fun _ h => h.sel (.c .z (.c (.s .z) (.c (.s .z) (.c (.s .z) .n)))))
 refine FJ.exit (FJ.thenE (FJ.thenE (FJ.inB (FJ.then_ ?_))))
 refine FJ.region (FJ.ql rfl (q_fieldAddr rfl (.t (.s4 (.s4 (.s4 .z)))) (fun _ => fa_30_4 _ _)) (FJ.ql rfl (q_load rfl ag_28 (.t .z) (WS.row (.s (.s .z)) rfl)) ?_))
 refine FJ.ql rfl (q_loadA (cs := [.string nm, .int .i64 (wd ws p)]) rfl ag_130 sz_130 (.t (.s4 (.s4 (.s4 .z)))) (WS.rows0 .z (fun i u h => by exact h))) ?_
 refine FJ.e (goes_list rfl) rfl (by decide) rfl (e_buildSliceL (ps := [(0, .agg #[.string nm, .int .i64 (wd ws p)])]) (cs := [.string nm, .int .i64 (wd ws p)]) rfl u_28 (inz inf_130) (by decide) (by intro act hact; simp only [List.map_toArray, List.map_cons, List.map_nil, (show Val _ _ _ from (.t .z)) act hact]) rfl rfl (by decide) rfl rfl) ?_
 rintro _ _ ⟨g135, rfl, rfl⟩
 refine FJ.turns (c := ownA kT_130 (⟨nm, wd ws p⟩ : DEnt) [.string nm, .int .i64 (wd ws p)]) .n (fun w S h => kT_130_omk (⟨nm, wd ws p⟩ : DEnt) h (by first | assumption | omega | (dsimp only; omega))) ?_
 refine FJ.e (goes_list rfl) rfl (by decide) rfl (e_append1 rfl u_28 inf_130 rfl (.t (.s (.s .z))) (.t .z) (.c (.s (.s (.s .z))) (.c (.s .z) (.c .z .n))) (by first | omega | (simp only [List.length_append, List.length_cons, List.length_nil]; omega)) (by first | omega | (simp only [List.length_append, List.length_cons, List.length_nil]; omega))) ?_
 rintro _ _ rfl
 refine FJ.know (WS.oform .z) ?_
 rintro ⟨Ao137, co137, rfl, hlo137, hmo137, hbo137⟩
 refine FJ.ql rfl (q_fieldAddr rfl (.t (.s16 (.s .z))) (fun _ => fa_30_4 _ _)) ?_
 refine FJ.es (goes_list rfl) rfl (es_store (off := 4) (cs := [.slice Ao137 (E ++ [(⟨nm, wd ws p⟩ : DEnt)]).length co137]) rfl sz_28 (.t .z) (.t (.s .z)) rfl (ones rfl) (.s (.s .z)) (Nat.le_of_ble_eq_true rfl) (.c (.s (.s (.s (.s .z)))) .n)) ?_
 refine FJ.nil (FJ.inBN (FJ.then_ (FJ.region (FJ.ql rfl (q_move rfl (.t (.s16 (.s .z)))) ?_))))
 refine FJ.ql rfl (q_add (c := ((k + 1 : Nat) : Int)) rfl (.t .z) .c (wr (by omega) (by omega) (by omega))) ?_
 refine FJ.er (.s16 (.s (.s (.s .z)))) (FJ.ql rfl (q_assign rfl (.t .z)) (FJ.nil ?_))
 refine FJ.again (Ao137, co137, p + 2 + j, k + 1, E ++ [(⟨nm, wd ws p⟩ : DEnt)]) ⟨by simp only [List.length_append, List.length_cons, List.length_nil]; omega, by omega, by omega, fun h => absurd (by assumption) h, fun _ => ri_w (hRI (by assumption)) (by omega) (by omega) (by omega) hNI⟩ (by first | omega | (dsimp only; omega)) (.c .z (.c (.s16 (.s .z)) (.c (.s16 (.s4 .z)) (.c (.s16 (.s4 (.s .z))) (.c (.s16 (.s4 (.s (.s .z)))) (.c (.s16 (.s4 (.s (.s (.s .z))))) .n)))))) (fun _ h => h.sel (.c (.s .z) (.c .z (.c (.s .z) .n))))
 refine FJ.skipl rfl rfl .z rfl rfl (by decide) rfl ?_
 refine FJ.skipl rfl rfl (.s .z) rfl rfl (by decide) rfl ?_
 refine FJ.ql rfl (q_pickF rfl (.t (.s (.s .z))) .c) (FJ.nil (FJ.then_ ?_))
 refine FJ.condF (.t .z) ?_
 refine FJ.exit (FJ.thenE (FJ.thenE (FJ.inB (FJ.then_ ?_))))
 refine FJ.region (FJ.ql rfl (q_fieldAddr rfl (.t (.s4 (.s4 (.s4 .z)))) (fun _ => fa_30_4 _ _)) (FJ.ql rfl (q_load rfl ag_28 (.t .z) (WS.row (.s (.s .z)) rfl)) ?_))
 refine FJ.ql rfl (q_loadA (cs := [.string nm, .int .i64 (wd ws p)]) rfl ag_130 sz_130 (.t (.s4 (.s4 (.s4 .z)))) (WS.rows0 .z (fun i u h => by exact h))) ?_
 refine FJ.e (goes_list rfl) rfl (by decide) rfl (e_buildSliceL (ps := [(0, .agg #[.string nm, .int .i64 (wd ws p)])]) (cs := [.string nm, .int .i64 (wd ws p)]) rfl u_28 (inz inf_130) (by decide) (by intro act hact; simp only [List.map_toArray, List.map_cons, List.map_nil, (show Val _ _ _ from (.t .z)) act hact]) rfl rfl (by decide) rfl rfl) ?_
 rintro _ _ ⟨g138, rfl, rfl⟩
 refine FJ.turns (c := ownA kT_130 (⟨nm, wd ws p⟩ : DEnt) [.string nm, .int .i64 (wd ws p)]) .n (fun w S h => kT_130_omk (⟨nm, wd ws p⟩ : DEnt) h (by first | assumption | omega | (dsimp only; omega))) ?_
 refine FJ.e (goes_list rfl) rfl (by decide) rfl (e_append1 rfl u_28 inf_130 rfl (.t (.s (.s .z))) (.t .z) (.c (.s (.s (.s .z))) (.c (.s .z) (.c .z .n))) (by first | omega | (simp only [List.length_append, List.length_cons, List.length_nil]; omega)) (by first | omega | (simp only [List.length_append, List.length_cons, List.length_nil]; omega))) ?_
 rintro _ _ rfl
 refine FJ.know (WS.oform .z) ?_
 rintro ⟨Ao140, co140, rfl, hlo140, hmo140, hbo140⟩
 refine FJ.ql rfl (q_fieldAddr rfl (.t (.s16 (.s .z))) (fun _ => fa_30_4 _ _)) ?_
 refine FJ.es (goes_list rfl) rfl (es_store (off := 4) (cs := [.slice Ao140 (E ++ [(⟨nm, wd ws p⟩ : DEnt)]).length co140]) rfl sz_28 (.t .z) (.t (.s .z)) rfl (ones rfl) (.s (.s .z)) (Nat.le_of_ble_eq_true rfl) (.c (.s (.s (.s (.s .z)))) .n)) ?_
 refine FJ.nil (FJ.inBN (FJ.then_ (FJ.region (FJ.ql rfl (q_move rfl (.t (.s16 (.s .z)))) ?_))))
 refine FJ.ql rfl (q_add (c := ((k + 1 : Nat) : Int)) rfl (.t .z) .c (wr (by omega) (by omega) (by omega))) ?_
 refine FJ.er (.s16 (.s (.s (.s .z)))) (FJ.ql rfl (q_assign rfl (.t .z)) (FJ.nil ?_))
 refine FJ.again (Ao140, co140, p + 2 + j, k + 1, E ++ [(⟨nm, wd ws p⟩ : DEnt)]) ⟨by simp only [List.length_append, List.length_cons, List.length_nil]; omega, by omega, by omega, fun h => absurd (by assumption) h, fun _ => ri_w (hRI (by assumption)) (by omega) (by omega) (by omega) hNI⟩ (by first | omega | (dsimp only; omega)) (.c .z (.c (.s16 (.s .z)) (.c (.s16 (.s4 .z)) (.c (.s16 (.s4 (.s .z))) (.c (.s16 (.s4 (.s (.s .z)))) (.c (.s16 (.s4 (.s (.s (.s .z))))) .n)))))) (fun _ h => h.sel (.c (.s .z) (.c .z (.c (.s .z) .n))))
 refine FJ.exit (FJ.thenE (FJ.thenE (FJ.inB (FJ.then_ ?_))))
 refine FJ.seq ?_
 refine FJ.sel (.c .z (.c (.s .z) (.c .z .n))) ?_
 refine FJ.draw [rowA g107 30 5 1 [.int .i64 x7, .int .i64 (wd ws 1), .int .i64 (wd ws 2), .slice none 0 0, .slice Agz0 E.length cgz0]] 10 (by kernel_rfl) ?_
 refine FJ.sch [(0, true), (1, false), (2, true), (3, true)] 7 #[true, true, true, true, false, false, false, false, false, false, false] (by rfl) (by kernel_rfl) ?_
 refine FJ.dq rfl rfl rfl (by decide) rfl (.s (.s .z)) (q_loadA (cs := [.int .i64 x7, .int .i64 (wd ws 1), .int .i64 (wd ws 2), .slice none 0 0, .slice Agz0 E.length cgz0]) rfl ag_30 sz_30 (.t (.s16 (.s .z))) (WS.rows0 .z (fun i u h => by exact h))) ?_
 refine FJ.call (goes_sch rfl rfl) rfl (by decide) rfl (c_call rfl Try.func69 rfl rfl (args1 (.t (.s16 (.s (.s .z)))))) .n (fun w1 S1 hs tr => c_69 (tr.ptr (.s (.s .z)) (kT_30_mk (⟨x7, wd ws 1, wd ws 2, [], E⟩ : DInode) ro_nil (tr.own .z)))) ?_
 rintro _ _ ⟨rfl, rfl⟩
 refine FJ.cat .n ?_
 refine FJ.sk (.s (.s .z)) ?_
 refine FJ.dq rfl rfl rfl (by decide) rfl (.s (.s .z)) (q_eql rfl (.t .z) .c) (FJ.dq rfl rfl rfl (by decide) rfl (.s (.s .z)) (q_move rfl (.t .z)) (FJ.schN ?_))
 refine FJ.caseP .z (fun g141 => ?_) (fun g141 => ?_)
 refine FJ.sch [(4, true), (6, true), (5, false), (7, false), (8, true), (9, false), (10, false)] 0 #[true, true, true, true, true, true, true, true, true, true, true] (by rfl) (by kernel_rfl) ?_
 refine FJ.dqg rfl rfl rfl .z rfl (by decide) rfl (.s (.s .z)) (q_loadA (cs := [.int .i64 x7, .int .i64 (wd ws 1), .int .i64 (wd ws 2), .slice none 0 0, .slice Agz0 E.length cgz0]) rfl ag_30 sz_30 (.t (.s16 (.s4 (.s .z)))) (WS.rows0 .z (fun i u h => by exact h))) ?_
 refine FJ.dqg rfl rfl rfl (.s .z) rfl (by decide) rfl (.s (.s .z)) (q_move rfl (.t (.s16 (.s4 (.s4 (.s .z)))))) ?_
 refine FJ.call (goes_schg rfl rfl rfl (.s (.s .z))) rfl (by decide) rfl (c_call rfl Try.func87 rfl rfl (args1 (.t (.s .z)))) .n (fun w1 S1 hs tr => c_87 (kT_30_mk (⟨x7, wd ws 1, wd ws 2, [], E⟩ : DInode) ro_nil (tr.own .z)) (by assumption)) ?_
 rintro _ _ rfl
 refine FJ.cat (.c .n) ?_
 refine FJ.know (WS.oform .z) ?_
 rintro ⟨Ao143, co143, rfl, hlo143, hmo143, hbo143⟩
 refine FJ.sk (.s (.s (.s .z))) ?_
 refine FJ.call (goes_schg rfl rfl rfl (.s (.s (.s .z)))) rfl (by decide) rfl (c_call rfl Try.func113 rfl rfl (args2 (.t .z) (.t (.s .z)))) .n (fun w1 S1 hs tr => c_113 (tr.own .z) (tr.ctx h0)) ?_
 rintro _ _ ⟨rfl, rfl⟩
 refine FJ.cat .n ?_
 refine FJ.sk (.s (.s (.s .z))) ?_
 refine FJ.dq rfl rfl rfl (by decide) rfl (.s (.s (.s .z))) (q_pickT rfl (.t (.s4 .z)) (.t .z)) ?_
 refine FJ.es (goes_sch rfl rfl) rfl (es_store (off := 0) (cs := [.int .i64 x7, .int .i64 (wd ws 1), .int .i64 (wd ws 2), .slice none 0 0, .slice Agz0 E.length cgz0]) rfl sz_30 (.t (.s16 (.s4 (.s4 (.s4 .z))))) (.t (.s4 (.s4 .z))) rfl (ones rfl) (.s (.s .z)) (Nat.le_of_ble_eq_true rfl) (.c .z (.c (.s .z) (.c (.s (.s .z)) (.c (.s (.s (.s .z))) (.c (.s (.s (.s (.s .z)))) .n)))))) ?_
 refine FJ.sk (.s (.s (.s .z))) ?_
 refine FJ.er (.s16 (.s4 (.s4 (.s (.s (.s .z)))))) ?_
 refine FJ.q (goes_sch rfl rfl) rfl (by decide) rfl (q_assign rfl (.t .z)) ?_
 refine FJ.sl rfl ?_
 refine FJ.schN ?_
 refine FJ.drawN (by kernel_rfl) ?_
 refine FJ.then_ (FJ.ret ?_)
 refine FJ.add (c := ownA kSl_2 [] [.slice none 0 0]) (fun w S => own_nil w S none) ?_
 refine FJ.doneS (res_ct (cs := [.int .i64 x7, .int .i64 (wd ws 1), .int .i64 (wd ws 2), .slice none 0 0, .slice Agz0 E.length cgz0]) rfl (.s16 (.s4 (.s4 (.s4 .z)))) ag_30 sz_30 (WS.rows0 (cs := [.int .i64 x7, .int .i64 (wd ws 1), .int .i64 (wd ws 2), .slice none 0 0, .slice Agz0 E.length cgz0]) (.s .z) (fun _ _ h => h)) .z) (.c .z (.c (.s (.s .z)) .n)) ?_
 exact ⟨(⟨x7, wd ws 1, wd ws 2, [], E⟩ : DInode), decide (packI (⟨x7, wd ws 1, wd ws 2, [], E⟩ : DInode) = ws), _, _, fun h => absurd h (by omega), fun _ => ⟨(by first | exact decide_eq_true ⟨by assumption, by assumption⟩ | (symm; apply decide_eq_false; rintro ⟨h1, h2⟩; first | contradiction | (simp_all; done)) | (simp_all; done)), by first | (exact sdec_k hx7 (by assumption) (hRI (by assumption)) (by omega)) | (have hE := hE0 (by assumption); subst hE; rw [subL_end]; exact sdec_1 hx7 (by assumption)) | (have hE := hE0 (by omega); subst hE; exact sdec_n hx7 (by omega) (by rintro ⟨h1, h2⟩; first | contradiction | omega))⟩, rfl, rfl⟩
 refine FJ.sch [(4, true), (5, true), (6, true), (7, true), (8, true), (9, false), (10, false)] 0 #[true, true, true, true, true, true, true, true, true, true, true] (by rfl) (by kernel_rfl) ?_
 refine FJ.dskip rfl rfl rfl .z rfl rfl (by decide) rfl (.s (.s .z)) ?_
 refine FJ.dskip rfl rfl rfl (.s .z) rfl rfl (by decide) rfl (.s (.s .z)) ?_
 refine FJ.dskip rfl rfl rfl (.s (.s .z)) rfl rfl (by decide) rfl (.s (.s .z)) ?_
 refine FJ.dskip rfl rfl rfl (.s (.s (.s .z))) rfl rfl (by decide) rfl (.s (.s .z)) ?_
 refine FJ.dq rfl rfl rfl (by decide) rfl (.s (.s .z)) (q_pickF rfl (.t (.s4 .z)) .c) ?_
 refine FJ.es (goes_sch rfl rfl) rfl (es_store (off := 0) (cs := [.int .i64 x7, .int .i64 (wd ws 1), .int .i64 (wd ws 2), .slice none 0 0, .slice Agz0 E.length cgz0]) rfl sz_30 (.t (.s16 (.s4 (.s4 (.s4 .z))))) (.t (.s4 (.s4 .z))) rfl (ones rfl) (.s .z) (Nat.le_of_ble_eq_true rfl) (.c .z (.c (.s .z) (.c (.s (.s .z)) (.c (.s (.s (.s .z))) (.c (.s (.s (.s (.s .z)))) .n)))))) ?_
 refine FJ.sk (.s (.s .z)) ?_
 refine FJ.er (.s16 (.s4 (.s4 (.s (.s (.s .z)))))) ?_
 refine FJ.q (goes_sch rfl rfl) rfl (by decide) rfl (q_assign rfl (.t .z)) ?_
 refine FJ.sl rfl ?_
 refine FJ.schN ?_
 refine FJ.drawN (by kernel_rfl) ?_
 refine FJ.then_ (FJ.ret ?_)
 refine FJ.add (c := ownA kSl_2 [] [.slice none 0 0]) (fun w S => own_nil w S none) ?_
 refine FJ.doneS (res_ct (cs := [.int .i64 x7, .int .i64 (wd ws 1), .int .i64 (wd ws 2), .slice none 0 0, .slice Agz0 E.length cgz0]) rfl (.s16 (.s4 (.s4 (.s4 .z)))) ag_30 sz_30 (WS.rows0 (cs := [.int .i64 x7, .int .i64 (wd ws 1), .int .i64 (wd ws 2), .slice none 0 0, .slice Agz0 E.length cgz0]) (.s .z) (fun _ _ h => h)) .z) (.c .z (.c (.s .z) .n)) ?_
 exact ⟨(⟨x7, wd ws 1, wd ws 2, [], E⟩ : DInode), false, _, _, fun h => absurd h (by omega), fun _ => ⟨(by first | exact decide_eq_true ⟨by assumption, by assumption⟩ | (symm; apply decide_eq_false; rintro ⟨h1, h2⟩; first | contradiction | (simp_all; done)) | (simp_all; done)), by first | (exact sdec_k hx7 (by assumption) (hRI (by assumption)) (by omega)) | (have hE := hE0 (by assumption); subst hE; rw [subL_end]; exact sdec_1 hx7 (by assumption)) | (have hE := hE0 (by omega); subst hE; exact sdec_n hx7 (by omega) (by rintro ⟨h1, h2⟩; first | contradiction | omega))⟩, rfl, rfl⟩
 refine FJ.skipl rfl rfl .z rfl rfl (by decide) rfl ?_
 refine FJ.skipl rfl rfl (.s .z) rfl rfl (by decide) rfl ?_
 refine FJ.skipl rfl rfl (.s (.s .z)) rfl rfl (by decide) rfl ?_
 refine FJ.skipl rfl rfl (.s (.s (.s .z))) rfl rfl (by decide) rfl ?_
 refine FJ.ql rfl (q_pickF rfl (.t (.s4 .z)) .c) (FJ.nil (FJ.then_ ?_))
 refine FJ.condF (.t .z) ?_
 refine FJ.exit (FJ.thenE (FJ.thenE (FJ.inB (FJ.then_ ?_))))
 refine FJ.seq ?_
 refine FJ.sel (.c .z (.c (.s .z) (.c .z .n))) ?_
 refine FJ.draw [rowA g107 30 5 1 [.int .i64 x7, .int .i64 (wd ws 1), .int .i64 (wd ws 2), .slice none 0 0, .slice Agz0 E.length cgz0]] 10 (by kernel_rfl) ?_
 refine FJ.sch [(0, true), (1, false), (2, true), (3, true)] 7 #[true, true, true, true, false, false, false, false, false, false, false] (by rfl) (by kernel_rfl) ?_
 refine FJ.dq rfl rfl rfl (by decide) rfl (.s (.s .z)) (q_loadA (cs := [.int .i64 x7, .int .i64 (wd ws 1), .int .i64 (wd ws 2), .slice none 0 0, .slice Agz0 E.length cgz0]) rfl ag_30 sz_30 (.t (.s16 (.s .z))) (WS.rows0 .z (fun i u h => by exact h))) ?_
 refine FJ.call (goes_sch rfl rfl) rfl (by decide) rfl (c_call rfl Try.func69 rfl rfl (args1 (.t (.s16 (.s (.s .z)))))) .n (fun w1 S1 hs tr => c_69 (tr.ptr (.s (.s .z)) (kT_30_mk (⟨x7, wd ws 1, wd ws 2, [], E⟩ : DInode) ro_nil (tr.own .z)))) ?_
 rintro _ _ ⟨rfl, rfl⟩
 refine FJ.cat .n ?_
 refine FJ.sk (.s (.s .z)) ?_
 refine FJ.dq rfl rfl rfl (by decide) rfl (.s (.s .z)) (q_eql rfl (.t .z) .c) (FJ.dq rfl rfl rfl (by decide) rfl (.s (.s .z)) (q_move rfl (.t .z)) (FJ.schN ?_))
 refine FJ.caseP .z (fun g146 => ?_) (fun g146 => ?_)
 refine FJ.sch [(4, true), (6, true), (5, false), (7, false), (8, true), (9, false), (10, false)] 0 #[true, true, true, true, true, true, true, true, true, true, true] (by rfl) (by kernel_rfl) ?_
 refine FJ.dqg rfl rfl rfl .z rfl (by decide) rfl (.s (.s .z)) (q_loadA (cs := [.int .i64 x7, .int .i64 (wd ws 1), .int .i64 (wd ws 2), .slice none 0 0, .slice Agz0 E.length cgz0]) rfl ag_30 sz_30 (.t (.s16 (.s4 (.s .z)))) (WS.rows0 .z (fun i u h => by exact h))) ?_
 refine FJ.dqg rfl rfl rfl (.s .z) rfl (by decide) rfl (.s (.s .z)) (q_move rfl (.t (.s16 (.s4 (.s4 (.s .z)))))) ?_
 refine FJ.call (goes_schg rfl rfl rfl (.s (.s .z))) rfl (by decide) rfl (c_call rfl Try.func87 rfl rfl (args1 (.t (.s .z)))) .n (fun w1 S1 hs tr => c_87 (kT_30_mk (⟨x7, wd ws 1, wd ws 2, [], E⟩ : DInode) ro_nil (tr.own .z)) (by assumption)) ?_
 rintro _ _ rfl
 refine FJ.cat (.c .n) ?_
 refine FJ.know (WS.oform .z) ?_
 rintro ⟨Ao148, co148, rfl, hlo148, hmo148, hbo148⟩
 refine FJ.sk (.s (.s (.s .z))) ?_
 refine FJ.call (goes_schg rfl rfl rfl (.s (.s (.s .z)))) rfl (by decide) rfl (c_call rfl Try.func113 rfl rfl (args2 (.t .z) (.t (.s .z)))) .n (fun w1 S1 hs tr => c_113 (tr.own .z) (tr.ctx h0)) ?_
 rintro _ _ ⟨rfl, rfl⟩
 refine FJ.cat .n ?_
 refine FJ.sk (.s (.s (.s .z))) ?_
 refine FJ.dq rfl rfl rfl (by decide) rfl (.s (.s (.s .z))) (q_pickT rfl (.t (.s4 .z)) (.t .z)) ?_
 refine FJ.es (goes_sch rfl rfl) rfl (es_store (off := 0) (cs := [.int .i64 x7, .int .i64 (wd ws 1), .int .i64 (wd ws 2), .slice none 0 0, .slice Agz0 E.length cgz0]) rfl sz_30 (.t (.s16 (.s4 (.s4 (.s4 .z))))) (.t (.s4 (.s4 .z))) rfl (ones rfl) (.s (.s .z)) (Nat.le_of_ble_eq_true rfl) (.c .z (.c (.s .z) (.c (.s (.s .z)) (.c (.s (.s (.s .z))) (.c (.s (.s (.s (.s .z)))) .n)))))) ?_
 refine FJ.sk (.s (.s (.s .z))) ?_
 refine FJ.er (.s16 (.s4 (.s4 (.s (.s (.s .z)))))) ?_
 refine FJ.q (goes_sch rfl rfl) rfl (by decide) rfl (q_assign rfl (.t .z)) ?_
 refine FJ.sl rfl ?_
 refine FJ.schN ?_
 refine FJ.drawN (by kernel_rfl) ?_
 refine FJ.then_ (FJ.ret ?_)
 refine FJ.add (c := ownA kSl_2 [] [.slice none 0 0]) (fun w S => own_nil w S none) ?_
 refine FJ.doneS (res_ct (cs := [.int .i64 x7, .int .i64 (wd ws 1), .int .i64 (wd ws 2), .slice none 0 0, .slice Agz0 E.length cgz0]) rfl (.s16 (.s4 (.s4 (.s4 .z)))) ag_30 sz_30 (WS.rows0 (cs := [.int .i64 x7, .int .i64 (wd ws 1), .int .i64 (wd ws 2), .slice none 0 0, .slice Agz0 E.length cgz0]) (.s .z) (fun _ _ h => h)) .z) (.c .z (.c (.s (.s .z)) .n)) ?_
 exact ⟨(⟨x7, wd ws 1, wd ws 2, [], E⟩ : DInode), decide (packI (⟨x7, wd ws 1, wd ws 2, [], E⟩ : DInode) = ws), _, _, fun h => absurd h (by omega), fun _ => ⟨(by first | exact decide_eq_true ⟨by assumption, by assumption⟩ | (symm; apply decide_eq_false; rintro ⟨h1, h2⟩; first | contradiction | (simp_all; done)) | (simp_all; done)), by first | (exact sdec_k hx7 (by assumption) (hRI (by assumption)) (by omega)) | (have hE := hE0 (by assumption); subst hE; rw [subL_end]; exact sdec_1 hx7 (by assumption)) | (have hE := hE0 (by omega); subst hE; exact sdec_n hx7 (by omega) (by rintro ⟨h1, h2⟩; first | contradiction | omega))⟩, rfl, rfl⟩
 refine FJ.sch [(4, true), (5, true), (6, true), (7, true), (8, true), (9, false), (10, false)] 0 #[true, true, true, true, true, true, true, true, true, true, true] (by rfl) (by kernel_rfl) ?_
 refine FJ.dskip rfl rfl rfl .z rfl rfl (by decide) rfl (.s (.s .z)) ?_
 refine FJ.dskip rfl rfl rfl (.s .z) rfl rfl (by decide) rfl (.s (.s .z)) ?_
 refine FJ.dskip rfl rfl rfl (.s (.s .z)) rfl rfl (by decide) rfl (.s (.s .z)) ?_
 refine FJ.dskip rfl rfl rfl (.s (.s (.s .z))) rfl rfl (by decide) rfl (.s (.s .z)) ?_
 refine FJ.dq rfl rfl rfl (by decide) rfl (.s (.s .z)) (q_pickF rfl (.t (.s4 .z)) .c) ?_
 refine FJ.es (goes_sch rfl rfl) rfl (es_store (off := 0) (cs := [.int .i64 x7, .int .i64 (wd ws 1), .int .i64 (wd ws 2), .slice none 0 0, .slice Agz0 E.length cgz0]) rfl sz_30 (.t (.s16 (.s4 (.s4 (.s4 .z))))) (.t (.s4 (.s4 .z))) rfl (ones rfl) (.s .z) (Nat.le_of_ble_eq_true rfl) (.c .z (.c (.s .z) (.c (.s (.s .z)) (.c (.s (.s (.s .z))) (.c (.s (.s (.s (.s .z)))) .n)))))) ?_
 refine FJ.sk (.s (.s .z)) ?_
 refine FJ.er (.s16 (.s4 (.s4 (.s (.s (.s .z)))))) ?_
 refine FJ.q (goes_sch rfl rfl) rfl (by decide) rfl (q_assign rfl (.t .z)) ?_
 refine FJ.sl rfl ?_
 refine FJ.schN ?_
 refine FJ.drawN (by kernel_rfl) ?_
 refine FJ.then_ (FJ.ret ?_)
 refine FJ.add (c := ownA kSl_2 [] [.slice none 0 0]) (fun w S => own_nil w S none) ?_
 refine FJ.doneS (res_ct (cs := [.int .i64 x7, .int .i64 (wd ws 1), .int .i64 (wd ws 2), .slice none 0 0, .slice Agz0 E.length cgz0]) rfl (.s16 (.s4 (.s4 (.s4 .z)))) ag_30 sz_30 (WS.rows0 (cs := [.int .i64 x7, .int .i64 (wd ws 1), .int .i64 (wd ws 2), .slice none 0 0, .slice Agz0 E.length cgz0]) (.s .z) (fun _ _ h => h)) .z) (.c .z (.c (.s .z) .n)) ?_
 exact ⟨(⟨x7, wd ws 1, wd ws 2, [], E⟩ : DInode), false, _, _, fun h => absurd h (by omega), fun _ => ⟨(by first | exact decide_eq_true ⟨by assumption, by assumption⟩ | (symm; apply decide_eq_false; rintro ⟨h1, h2⟩; first | contradiction | (simp_all; done)) | (simp_all; done)), by first | (exact sdec_k hx7 (by assumption) (hRI (by assumption)) (by omega)) | (have hE := hE0 (by assumption); subst hE; rw [subL_end]; exact sdec_1 hx7 (by assumption)) | (have hE := hE0 (by omega); subst hE; exact sdec_n hx7 (by omega) (by rintro ⟨h1, h2⟩; first | contradiction | omega))⟩, rfl, rfl⟩
 refine FJ.skipl rfl rfl .z rfl rfl (by decide) rfl ?_
 refine FJ.skipl rfl rfl (.s .z) rfl rfl (by decide) rfl ?_
 refine FJ.skipl rfl rfl (.s (.s .z)) rfl rfl (by decide) rfl ?_
 refine FJ.skipl rfl rfl (.s (.s (.s .z))) rfl rfl (by decide) rfl ?_
 refine FJ.ql rfl (q_pickF rfl (.t (.s4 .z)) .c) (FJ.ql rfl (q_move rfl (.t .z)) ?_)
 refine FJ.skipl rfl rfl .z rfl rfl (by decide) rfl ?_
 refine FJ.skipl rfl rfl (.s .z) rfl rfl (by decide) rfl ?_
 refine FJ.skipl rfl rfl (.s (.s .z)) rfl rfl (by decide) rfl ?_
 refine FJ.skipl rfl rfl (.s (.s (.s .z))) rfl rfl (by decide) rfl ?_
 refine FJ.ql rfl (q_pickF rfl (.t (.s4 .z)) .c) (FJ.nil (FJ.then_ ?_))
 refine FJ.condF (.t .z) ?_
 refine FJ.exit (FJ.thenE (FJ.thenE (FJ.inB (FJ.then_ ?_))))
 refine FJ.seq ?_
 refine FJ.sel (.c .z (.c (.s .z) (.c .z .n))) ?_
 refine FJ.draw [rowA g107 30 5 1 [.int .i64 x7, .int .i64 (wd ws 1), .int .i64 (wd ws 2), .slice none 0 0, .slice Agz0 E.length cgz0]] 10 (by kernel_rfl) ?_
 refine FJ.sch [(0, true), (1, false), (2, true), (3, true)] 7 #[true, true, true, true, false, false, false, false, false, false, false] (by rfl) (by kernel_rfl) ?_
 refine FJ.dq rfl rfl rfl (by decide) rfl (.s (.s .z)) (q_loadA (cs := [.int .i64 x7, .int .i64 (wd ws 1), .int .i64 (wd ws 2), .slice none 0 0, .slice Agz0 E.length cgz0]) rfl ag_30 sz_30 (.t (.s16 (.s .z))) (WS.rows0 .z (fun i u h => by exact h))) ?_
 refine FJ.call (goes_sch rfl rfl) rfl (by decide) rfl (c_call rfl Try.func69 rfl rfl (args1 (.t (.s16 (.s (.s .z)))))) .n (fun w1 S1 hs tr => c_69 (tr.ptr (.s (.s .z)) (kT_30_mk (⟨x7, wd ws 1, wd ws 2, [], E⟩ : DInode) ro_nil (tr.own .z)))) ?_
 rintro _ _ ⟨rfl, rfl⟩
 refine FJ.cat .n ?_
 refine FJ.sk (.s (.s .z)) ?_
 refine FJ.dq rfl rfl rfl (by decide) rfl (.s (.s .z)) (q_eql rfl (.t .z) .c) (FJ.dq rfl rfl rfl (by decide) rfl (.s (.s .z)) (q_move rfl (.t .z)) (FJ.schN ?_))
 refine FJ.caseP .z (fun g151 => ?_) (fun g151 => ?_)
 refine FJ.sch [(4, true), (6, true), (5, false), (7, false), (8, true), (9, false), (10, false)] 0 #[true, true, true, true, true, true, true, true, true, true, true] (by rfl) (by kernel_rfl) ?_
 refine FJ.dqg rfl rfl rfl .z rfl (by decide) rfl (.s (.s .z)) (q_loadA (cs := [.int .i64 x7, .int .i64 (wd ws 1), .int .i64 (wd ws 2), .slice none 0 0, .slice Agz0 E.length cgz0]) rfl ag_30 sz_30 (.t (.s16 (.s4 (.s .z)))) (WS.rows0 .z (fun i u h => by exact h))) ?_
 refine FJ.dqg rfl rfl rfl (.s .z) rfl (by decide) rfl (.s (.s .z)) (q_move rfl (.t (.s16 (.s4 (.s4 (.s .z)))))) ?_
 refine FJ.call (goes_schg rfl rfl rfl (.s (.s .z))) rfl (by decide) rfl (c_call rfl Try.func87 rfl rfl (args1 (.t (.s .z)))) .n (fun w1 S1 hs tr => c_87 (kT_30_mk (⟨x7, wd ws 1, wd ws 2, [], E⟩ : DInode) ro_nil (tr.own .z)) (by assumption)) ?_
 rintro _ _ rfl
 refine FJ.cat (.c .n) ?_
 refine FJ.know (WS.oform .z) ?_
 rintro ⟨Ao153, co153, rfl, hlo153, hmo153, hbo153⟩
 refine FJ.sk (.s (.s (.s .z))) ?_
 refine FJ.call (goes_schg rfl rfl rfl (.s (.s (.s .z)))) rfl (by decide) rfl (c_call rfl Try.func113 rfl rfl (args2 (.t .z) (.t (.s .z)))) .n (fun w1 S1 hs tr => c_113 (tr.own .z) (tr.ctx h0)) ?_
 rintro _ _ ⟨rfl, rfl⟩
 refine FJ.cat .n ?_
 refine FJ.sk (.s (.s (.s .z))) ?_
 refine FJ.dq rfl rfl rfl (by decide) rfl (.s (.s (.s .z))) (q_pickT rfl (.t (.s4 .z)) (.t .z)) ?_
 refine FJ.es (goes_sch rfl rfl) rfl (es_store (off := 0) (cs := [.int .i64 x7, .int .i64 (wd ws 1), .int .i64 (wd ws 2), .slice none 0 0, .slice Agz0 E.length cgz0]) rfl sz_30 (.t (.s16 (.s4 (.s4 (.s4 .z))))) (.t (.s4 (.s4 .z))) rfl (ones rfl) (.s (.s .z)) (Nat.le_of_ble_eq_true rfl) (.c .z (.c (.s .z) (.c (.s (.s .z)) (.c (.s (.s (.s .z))) (.c (.s (.s (.s (.s .z)))) .n)))))) ?_
 refine FJ.sk (.s (.s (.s .z))) ?_
 refine FJ.er (.s16 (.s4 (.s4 (.s (.s (.s .z)))))) ?_
 refine FJ.q (goes_sch rfl rfl) rfl (by decide) rfl (q_assign rfl (.t .z)) ?_
 refine FJ.sl rfl ?_
 refine FJ.schN ?_
 refine FJ.drawN (by kernel_rfl) ?_
 refine FJ.then_ (FJ.ret ?_)
 refine FJ.add (c := ownA kSl_2 [] [.slice none 0 0]) (fun w S => own_nil w S none) ?_
 refine FJ.doneS (res_ct (cs := [.int .i64 x7, .int .i64 (wd ws 1), .int .i64 (wd ws 2), .slice none 0 0, .slice Agz0 E.length cgz0]) rfl (.s16 (.s4 (.s4 (.s4 .z)))) ag_30 sz_30 (WS.rows0 (cs := [.int .i64 x7, .int .i64 (wd ws 1), .int .i64 (wd ws 2), .slice none 0 0, .slice Agz0 E.length cgz0]) (.s .z) (fun _ _ h => h)) .z) (.c .z (.c (.s (.s .z)) .n)) ?_
 exact ⟨(⟨x7, wd ws 1, wd ws 2, [], E⟩ : DInode), decide (packI (⟨x7, wd ws 1, wd ws 2, [], E⟩ : DInode) = ws), _, _, fun h => absurd h (by omega), fun _ => ⟨(by first | exact decide_eq_true ⟨by assumption, by assumption⟩ | (symm; apply decide_eq_false; rintro ⟨h1, h2⟩; first | contradiction | (simp_all; done)) | (simp_all; done)), by first | (exact sdec_k hx7 (by assumption) (hRI (by assumption)) (by omega)) | (have hE := hE0 (by assumption); subst hE; rw [subL_end]; exact sdec_1 hx7 (by assumption)) | (have hE := hE0 (by omega); subst hE; exact sdec_n hx7 (by omega) (by rintro ⟨h1, h2⟩; first | contradiction | omega))⟩, rfl, rfl⟩
 refine FJ.sch [(4, true), (5, true), (6, true), (7, true), (8, true), (9, false), (10, false)] 0 #[true, true, true, true, true, true, true, true, true, true, true] (by rfl) (by kernel_rfl) ?_
 refine FJ.dskip rfl rfl rfl .z rfl rfl (by decide) rfl (.s (.s .z)) ?_
 refine FJ.dskip rfl rfl rfl (.s .z) rfl rfl (by decide) rfl (.s (.s .z)) ?_
 refine FJ.dskip rfl rfl rfl (.s (.s .z)) rfl rfl (by decide) rfl (.s (.s .z)) ?_
 refine FJ.dskip rfl rfl rfl (.s (.s (.s .z))) rfl rfl (by decide) rfl (.s (.s .z)) ?_
 refine FJ.dq rfl rfl rfl (by decide) rfl (.s (.s .z)) (q_pickF rfl (.t (.s4 .z)) .c) ?_
 refine FJ.es (goes_sch rfl rfl) rfl (es_store (off := 0) (cs := [.int .i64 x7, .int .i64 (wd ws 1), .int .i64 (wd ws 2), .slice none 0 0, .slice Agz0 E.length cgz0]) rfl sz_30 (.t (.s16 (.s4 (.s4 (.s4 .z))))) (.t (.s4 (.s4 .z))) rfl (ones rfl) (.s .z) (Nat.le_of_ble_eq_true rfl) (.c .z (.c (.s .z) (.c (.s (.s .z)) (.c (.s (.s (.s .z))) (.c (.s (.s (.s (.s .z)))) .n)))))) ?_
 refine FJ.sk (.s (.s .z)) ?_
 refine FJ.er (.s16 (.s4 (.s4 (.s (.s (.s .z)))))) ?_
 refine FJ.q (goes_sch rfl rfl) rfl (by decide) rfl (q_assign rfl (.t .z)) ?_
 refine FJ.sl rfl ?_
 refine FJ.schN ?_
 refine FJ.drawN (by kernel_rfl) ?_
 refine FJ.then_ (FJ.ret ?_)
 refine FJ.add (c := ownA kSl_2 [] [.slice none 0 0]) (fun w S => own_nil w S none) ?_
 refine FJ.doneS (res_ct (cs := [.int .i64 x7, .int .i64 (wd ws 1), .int .i64 (wd ws 2), .slice none 0 0, .slice Agz0 E.length cgz0]) rfl (.s16 (.s4 (.s4 (.s4 .z)))) ag_30 sz_30 (WS.rows0 (cs := [.int .i64 x7, .int .i64 (wd ws 1), .int .i64 (wd ws 2), .slice none 0 0, .slice Agz0 E.length cgz0]) (.s .z) (fun _ _ h => h)) .z) (.c .z (.c (.s .z) .n)) ?_
 exact ⟨(⟨x7, wd ws 1, wd ws 2, [], E⟩ : DInode), false, _, _, fun h => absurd h (by omega), fun _ => ⟨(by first | exact decide_eq_true ⟨by assumption, by assumption⟩ | (symm; apply decide_eq_false; rintro ⟨h1, h2⟩; first | contradiction | (simp_all; done)) | (simp_all; done)), by first | (exact sdec_k hx7 (by assumption) (hRI (by assumption)) (by omega)) | (have hE := hE0 (by assumption); subst hE; rw [subL_end]; exact sdec_1 hx7 (by assumption)) | (have hE := hE0 (by omega); subst hE; exact sdec_n hx7 (by omega) (by rintro ⟨h1, h2⟩; first | contradiction | omega))⟩, rfl, rfl⟩

set_option maxHeartbeats 1000000 in
set_option maxRecDepth 20000 in
theorem c_45 {w0 : World} {S0 : Bs} {ws : (List Int)} {v0 : Value} (h0 : kSl_2.ro w0 (FF w0 S0) ws [v0])  :
    Calls Try.prog 45 #[v0] w0 (TriPost w0 S0 (RA_66 (unpR ws))) := by
 obtain ⟨A0, c0, rfl, hl0, hm0, hb0, he0⟩ := ro_form h0
 refine FJ.enter (N := 22) Try.func45 rfl rfl (by simp) [(0, .slice A0 ws.length c0)] (by simp) (l0 := []) trivial ?_
 refine FJ.seq (FJ.region ?_)
 refine FJ.e (goes_list rfl) rfl (by decide) rfl (e_alloc rfl z_66 rfl rfl) ?_
 rintro _ _ ⟨g2, rfl, rfl⟩
 refine FJ.nil (FJ.then_ (FJ.seq (FJ.seq (FJ.region ?_))))
 refine FJ.ql rfl (q_move rfl (.t (.s .z))) ?_
 refine FJ.call (goes_list rfl) rfl (by decide) rfl (c_call rfl Try.func97 rfl rfl (args1 (.t .z))) .n (fun w1 S1 hs tr => c_97 (tr.ctx h0)) ?_
 rintro _ _ ⟨rfl, rfl⟩
 refine FJ.cat .n ?_
 refine FJ.ql rfl (q_assign rfl (.t .z)) (FJ.nil (FJ.then_ (FJ.seq (FJ.region ?_))))
 refine FJ.ql rfl (q_move rfl (.t .z)) (FJ.ql rfl (q_neq rfl (.t .z) .c) (FJ.nil (FJ.then_ ?_)))
 refine FJ.condN (.t .z) (fun b3 => ?_) (fun b3 => ?_)
 refine FJ.seq (FJ.region (FJ.ql rfl (q_move rfl (.t (.s (.s .z)))) ?_))
 refine FJ.ql rfl (q_build (ps := [(0, .int .i64 (wordsFault ws))]) (cs := [.int .i64 (wordsFault ws), .int .i64 0, .int .i64 0, .int .i64 0, .slice none 0 0, .slice none 0 0]) rfl bl_66 (by intro act hact; simp only [List.map_toArray, List.map_cons, List.map_nil, (show Val _ _ _ from (.t .z)) act hact]) rfl) ?_
 refine FJ.es (goes_list rfl) rfl (es_store (off := 0) (cs := [.int .i64 (wordsFault ws), .int .i64 0, .int .i64 0, .int .i64 0, .slice none 0 0, .slice none 0 0]) rfl sz_66 (.t (.s4 (.s (.s (.s .z))))) (.t .z) rfl (ones rfl) .z (Nat.le_of_ble_eq_true rfl) (.c .z (.c (.s .z) (.c (.s (.s .z)) (.c (.s (.s (.s .z))) (.c (.s (.s (.s (.s .z)))) (.c (.s (.s (.s (.s (.s .z))))) .n))))))) ?_
 refine FJ.nil (FJ.then_ (FJ.ret (FJ.thenR ?_)))
 refine FJ.add (c := ownA kSl_2 [] [.slice none 0 0]) (fun w S => own_nil w S none) ?_
 refine FJ.add (c := ownA kSl_130 [] [.slice none 0 0]) (fun w S => own_nil w S none) ?_
 refine FJ.doneS (resC (cs := [.int .i64 (wordsFault ws), .int .i64 0, .int .i64 0, .int .i64 0, .slice none 0 0, .slice none 0 0]) rfl (.s4 (.s (.s (.s .z)))) ag_66 sz_66 (WS.rows0 (cs := [.int .i64 (wordsFault ws), .int .i64 0, .int .i64 0, .int .i64 0, .slice none 0 0, .slice none 0 0]) (.s (.s .z)) (fun _ _ h => h))) (.c (.s .z) (.c .z .n)) ?_
 rw [unpR_f (by assumption)]; exact ⟨_, _, rfl, rfl⟩
 have hw : wordsFault ws = 0 := b3
 refine FJ.skip (FJ.then_ (FJ.seq (FJ.region (FJ.ql rfl (q_move rfl (.t (.s4 (.s (.s .z))))) ?_))))
 refine FJ.call (goes_list rfl) rfl (by decide) rfl (c_call rfl Try.func98 rfl rfl (args1 (.t .z))) .n (fun w1 S1 hs tr => c_98 (tr.ctx h0) (by assumption)) ?_
 rintro _ _ ⟨x6, ok7, v10, v12, hz8, hd9, rfl, rfl⟩
 refine FJ.cat (.c (.c .n)) ?_
 refine FJ.know (WS.oform .z) ?_
 rintro ⟨Ao14, co14, rfl, hlo14, hmo14, hbo14⟩
 refine FJ.know (WS.oform (.s .z)) ?_
 rintro ⟨Ao15, co15, rfl, hlo15, hmo15, hbo15⟩
 refine FJ.ql rfl (q_move rfl (.t .z)) (FJ.ql rfl (q_extract (v := .agg #[.int .i64 x6.kind, .int .i64 x6.links, .int .i64 x6.size, .slice Ao14 x6.blocks.length co14, .slice Ao15 x6.ents.length co15]) rfl (.t .z) rfl) (FJ.ql rfl (q_extract (v := .bool ok7) rfl (.t (.s .z)) rfl) ?_))
 refine FJ.e (goes_list rfl) rfl (by decide) rfl (e_alloc rfl z_30 rfl rfl) ?_
 rintro _ _ ⟨g16, rfl, rfl⟩
 refine FJ.es (goes_list rfl) rfl (es_store (off := 0) (cs := [.int .i64 x6.kind, .int .i64 x6.links, .int .i64 x6.size, .slice Ao14 x6.blocks.length co14, .slice Ao15 x6.ents.length co15]) rfl sz_30 (.t .z) (.t (.s (.s .z))) rfl (ones rfl) .z (Nat.le_of_ble_eq_true rfl) (.c .z (.c (.s .z) (.c (.s (.s .z)) (.c (.s (.s (.s .z))) (.c (.s (.s (.s (.s .z)))) .n)))))) ?_
 refine FJ.ql rfl (q_assign rfl (.t (.s .z))) (FJ.nil (FJ.then_ (FJ.seq (FJ.seq ?_))))
 refine FJ.region (FJ.ql rfl (q_move rfl (.t .z)) (FJ.ql rfl (q_not rfl (.t .z)) (FJ.nil (FJ.then_ ?_))))
 refine FJ.cond (.t .z) (fun b17 => ?_) (fun b17 => ?_)
 refine FJ.seq (FJ.region ?_)
 refine FJ.ql rfl (q_build (ps := [(0, .int .i64 5)]) (cs := [.int .i64 5, .int .i64 0, .int .i64 0, .int .i64 0, .slice none 0 0, .slice none 0 0]) rfl bl_66 (by intro act hact; simp only [List.map_toArray, List.map_cons, List.map_nil, (show Val _ _ _ from .c) act hact]) rfl) ?_
 refine FJ.es (goes_list rfl) rfl (es_store (off := 0) (cs := [.int .i64 5, .int .i64 0, .int .i64 0, .int .i64 0, .slice none 0 0, .slice none 0 0]) rfl sz_66 (.t (.s4 (.s4 (.s4 (.s (.s (.s .z))))))) (.t .z) rfl (ones rfl) (.s (.s (.s .z))) (Nat.le_of_ble_eq_true rfl) (.c .z (.c (.s .z) (.c (.s (.s .z)) (.c (.s (.s (.s .z))) (.c (.s (.s (.s (.s .z)))) (.c (.s (.s (.s (.s (.s .z))))) .n))))))) ?_
 refine FJ.nil (FJ.then_ (FJ.ret (FJ.thenR ?_)))
 refine FJ.add (c := ownA kSl_2 [] [.slice none 0 0]) (fun w S => own_nil w S none) ?_
 refine FJ.add (c := ownA kSl_130 [] [.slice none 0 0]) (fun w S => own_nil w S none) ?_
 refine FJ.doneS (resC (cs := [.int .i64 5, .int .i64 0, .int .i64 0, .int .i64 0, .slice none 0 0, .slice none 0 0]) rfl (.s4 (.s4 (.s4 (.s (.s (.s .z)))))) ag_66 sz_66 (WS.rows0 (cs := [.int .i64 5, .int .i64 0, .int .i64 0, .int .i64 0, .slice none 0 0, .slice none 0 0]) (.s (.s .z)) (fun _ _ h => h))) (.c (.s .z) (.c .z .n)) ?_
 have hl : ¬ ws.length = 0 := (fun h => by have h2 := (hz8 h).2; simp_all); obtain ⟨ho, hD⟩ := hd9 hl; rw [unpR_n hw hl (unp_n hD (by rintro ⟨-, h2, h3⟩; rw [decide_eq_true ⟨h2, h3⟩] at ho; simp_all))]; exact ⟨_, _, rfl, rfl⟩
 refine FJ.skip (FJ.then_ (FJ.seq (FJ.region ?_)))
 refine FJ.ql rfl (q_loadA (cs := [.int .i64 x6.kind, .int .i64 x6.links, .int .i64 x6.size, .slice Ao14 x6.blocks.length co14, .slice Ao15 x6.ents.length co15]) rfl ag_30 sz_30 (.t (.s (.s (.s .z)))) (WS.rows0 .z (fun i u h => by exact h))) ?_
 refine FJ.ql rfl (q_build (ps := [(1, .agg #[.int .i64 x6.kind, .int .i64 x6.links, .int .i64 x6.size, .slice Ao14 x6.blocks.length co14, .slice Ao15 x6.ents.length co15])]) (cs := [.int .i64 0, .int .i64 x6.kind, .int .i64 x6.links, .int .i64 x6.size, .slice Ao14 x6.blocks.length co14, .slice Ao15 x6.ents.length co15]) rfl bl_66 (by intro act hact; simp only [List.map_toArray, List.map_cons, List.map_nil, (show Val _ _ _ from (.t .z)) act hact]) rfl) ?_
 refine FJ.es (goes_list rfl) rfl (es_store (off := 0) (cs := [.int .i64 0, .int .i64 x6.kind, .int .i64 x6.links, .int .i64 x6.size, .slice Ao14 x6.blocks.length co14, .slice Ao15 x6.ents.length co15]) rfl sz_66 (.t (.s16 .z)) (.t .z) rfl (ones rfl) (.s (.s (.s .z))) (Nat.le_of_ble_eq_true rfl) (.c .z (.c (.s .z) (.c (.s (.s .z)) (.c (.s (.s (.s .z))) (.c (.s (.s (.s (.s .z)))) (.c (.s (.s (.s (.s (.s .z))))) .n))))))) ?_
 refine FJ.nil (FJ.then_ (FJ.ret ?_))
 refine FJ.doneS (resC (cs := [.int .i64 0, .int .i64 x6.kind, .int .i64 x6.links, .int .i64 x6.size, .slice Ao14 x6.blocks.length co14, .slice Ao15 x6.ents.length co15]) rfl (.s16 .z) ag_66 sz_66 (WS.rows0 (cs := [.int .i64 0, .int .i64 x6.kind, .int .i64 x6.links, .int .i64 x6.size, .slice Ao14 x6.blocks.length co14, .slice Ao15 x6.ents.length co15]) .z (fun _ _ h => h))) (.c (.s (.s .z)) (.c (.s (.s .z)) .n)) ?_
 by_cases hl : ws.length = 0; (focus (obtain ⟨rfl, -⟩ := hz8 hl; rw [unpR_e hw hl]; exact ⟨_, _, rfl, rfl⟩)); (focus (obtain ⟨ho, hD⟩ := hd9 hl; have h23 := of_decide_eq_true (ho.symm.trans (by simp_all)); rw [unpR_y hw hl (unp_y hD h23.1 h23.2)]; exact ⟨_, _, rfl, rfl⟩))

end Go.Proofs.Ytoaebcjjfojfeaa

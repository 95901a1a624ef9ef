/- What is proved: contracts of functions, one a function. No condition. -/
import Derived.Test.YticaddophhggoaaGreatW3
namespace Go.Proofs.YticaddophhggoaaGreat
open Go Go.RowKit
set_option linter.unusedVariables false
set_option linter.unusedSimpArgs false
set_option maxHeartbeats 1000000 in
set_option maxRecDepth 20000 in
theorem c_110 {w0 : World} {S0 : Bs} {xs : (List DInode)} {v0 : Value} (h0 : kSl_73.ro w0 (FF w0 S0) xs [v0]) (a : Int) (hb : linksOf xs a ≤ 60) :
    Calls Tryz.prog 110 #[v0, .int .i64 a] w0 (TriPost w0 S0 (fun r l => r = .int .i64 (linksOf xs a : Int) ∧ l = [])) := by
 obtain ⟨A0, c0, rfl, hl0, hm0, hb0, he0⟩ := ro_form h0
 refine FJ.enter (N := 32) Tryz.func110 rfl rfl (by simp) [(0, .slice A0 xs.length c0), (1, .int .i64 a)] (by simp) (l0 := []) trivial ?_
 refine FJ.seq (FJ.region (FJ.ql rfl (q_assign rfl .c) (FJ.nil (FJ.then_ ?_))))
 refine FJ.seq (FJ.region (FJ.ql rfl (q_assign rfl .c) (FJ.nil (FJ.then_ ?_))))
 refine FJ.seq (FJ.seq (FJ.region (FJ.ql rfl (q_move rfl (.t (.s (.s .z)))) (FJ.ql rfl (q_len rfl u_29 (.t .z)) ?_))))
 refine FJ.ql rfl (q_move rfl .c) (FJ.nil (FJ.then_ (FJ.block ?_)))
 refine FJ.loopi (γ := Nat) (fun k => [(12, .int .i64 (k : Int)), (11, .int .i64 (xs.length : Int)), (10, .slice A0 xs.length c0), (5, .int .i64 (sumF (linksIn a) (List.take k xs) : Int)), (4, .int .i64 0), (1, .int .i64 a)]) (fun k => []) (fun k => k ≤ xs.length) (fun k => xs.length - k) 0 (Nat.zero_le _) (.c .z (.c (.s .z) (.c (.s (.s .z)) (.e (.s (.s (.s .z))) rfl (.c (.s4 .z) (.c (.s4 (.s (.s .z))) .n)))))) (fun _ h => h) ?_
 rintro k hk
 refine FJ.seq (FJ.region (FJ.ql rfl (q_lss rfl (.t .z) (.t (.s .z))) (FJ.nil (FJ.then_ ?_))))
 refine FJ.seq ?_
 refine FJ.condP (.t .z) (fun b2 => ?_) (fun b2 => ?_)
 refine FJ.skip (FJ.then_ (FJ.seq (FJ.block (FJ.seq ?_))))
 refine FJ.region ?_
 obtain ⟨ad3, hAad3, hrad3⟩ := he0 (by omega)
 subst hAad3
 obtain ⟨x4, hx4⟩ := get_ex (xs := xs) (j := k) (by omega)
 obtain ⟨ece5, hre5, hFe5, hce5⟩ := hrad3.elem hx4
 obtain ⟨ue5_3, ue5_4, rfl, he5_3, he5_4⟩ := kT_73_ro hre5
 obtain ⟨Ae5_3, ce5_3, rfl, hle5_3, hme5_3, hbe5_3, hee5_3⟩ := ro_form he5_3
 obtain ⟨Ae5_4, ce5_4, rfl, hle5_4, hme5_4, hbe5_4, hee5_4⟩ := ro_form he5_4
 refine FJ.ql rfl (q_indexAddr (j := k) rfl u_29 sz_73 (.t (.s (.s (.s .z)))) (.t (.s .z)) rfl (by omega)) ?_
 refine FJ.ql rfl (q_loadA (cs := [.int .i64 x4.kind, .int .i64 x4.links, .int .i64 x4.size, .slice Ae5_3 x4.blocks.length ce5_3, .slice Ae5_4 x4.ents.length ce5_4]) rfl ag_73 sz_73 (.t .z) (WS.els hFe5 hce5)) ?_
 refine FJ.e (goes_list rfl) rfl (by decide) rfl (e_alloc rfl z_73 rfl rfl) ?_
 rintro _ _ ⟨g8, rfl, rfl⟩
 refine FJ.es (goes_list rfl) rfl (es_store (off := 0) (cs := [.int .i64 x4.kind, .int .i64 x4.links, .int .i64 x4.size, .slice Ae5_3 x4.blocks.length ce5_3, .slice Ae5_4 x4.ents.length ce5_4]) rfl sz_73 (.t .z) (.t (.s .z)) rfl (ones rfl) .z (Nat.le_of_ble_eq_true rfl) (.c .z (.c (.s .z) (.c (.s (.s .z)) (.c (.s (.s (.s .z))) (.c (.s (.s (.s (.s .z)))) .n)))))) ?_
 refine FJ.nil (FJ.then_ (FJ.seq (FJ.region (FJ.ql rfl (q_fieldAddr rfl (.t .z) (fun _ => fa_73_4 _ _)) ?_))))
 refine FJ.ql rfl (q_load rfl ag_71 (.t .z) (WS.row .z rfl)) (FJ.ql rfl (q_len rfl u_71 (.t .z)) (FJ.ql rfl (q_move rfl .c) (FJ.nil (FJ.then_ ?_))))
 refine FJ.block ?_
 have g1 := sumF_get (linksIn a) hx4
 have g3 := hb
 unfold linksOf at g3
 refine FJ.loopi (γ := Nat) (fun q => [(19, .int .i64 (q : Int)), (18, .int .i64 (x4.ents.length : Int)), (17, .slice Ae5_4 x4.ents.length ce5_4), (12, .int .i64 (k : Int)), (11, .int .i64 (xs.length : Int)), (10, .slice (some ad3) xs.length c0), (5, .int .i64 ((sumF (linksIn a) (List.take k xs) + sumF (cntE a) (List.take q x4.ents) : Nat) : Int)), (4, .int .i64 0), (1, .int .i64 a)]) (fun q => [rowA g8 73 5 1 [.int .i64 x4.kind, .int .i64 x4.links, .int .i64 x4.size, .slice Ae5_3 x4.blocks.length ce5_3, .slice Ae5_4 x4.ents.length ce5_4]]) (fun q => q ≤ x4.ents.length) (fun q => x4.ents.length - q) 0 (Nat.zero_le _) (.c .z (.c (.s .z) (.c (.s (.s .z)) (.c (.s4 (.s4 .z)) (.c (.s4 (.s4 (.s .z))) (.c (.s4 (.s4 (.s (.s .z)))) (.e (.s4 (.s4 (.s (.s (.s .z))))) (congrArg (Value.int .i64) (by simp only [List.take_zero, sumF]; omega)) (.c (.s4 (.s4 (.s4 .z))) (.c (.s4 (.s4 (.s4 (.s .z)))) .n))))))))) (fun _ h => h.sel (.c .z .n)) ?_
 rintro q hq
 have g2 := sumF_le (cntE a) (xs := x4.ents) (k := q)
 have g4 : linksIn a x4 = sumF (cntE a) x4.ents := rfl
 refine FJ.seq (FJ.region (FJ.ql rfl (q_lss rfl (.t .z) (.t (.s .z))) (FJ.nil (FJ.then_ ?_))))
 refine FJ.seq ?_
 refine FJ.condP (.t .z) (fun b9 => ?_) (fun b9 => ?_)
 refine FJ.skip (FJ.then_ (FJ.seq (FJ.block (FJ.seq ?_))))
 refine FJ.region ?_
 obtain ⟨ad10, hAad10, hrad10⟩ := hee5_4 (by omega)
 subst hAad10
 obtain ⟨x11, hx11⟩ := get_ex (xs := x4.ents) (j := q) (by omega)
 obtain ⟨ece12, hre12, hFe12, hce12⟩ := hrad10.elem hx11
 obtain ⟨rfl, se12_0⟩ := kT_151_ro hre12
 refine FJ.ql rfl (q_indexAddr (j := q) rfl u_71 sz_151 (.t (.s (.s (.s .z)))) (.t (.s .z)) rfl (by omega)) ?_
 refine FJ.ql rfl (q_loadA (cs := [.string x11.name, .int .i64 x11.ino]) rfl ag_151 sz_151 (.t .z) (WS.els hFe12 hce12)) ?_
 refine FJ.e (goes_list rfl) rfl (by decide) rfl (e_alloc rfl z_151 rfl rfl) ?_
 rintro _ _ ⟨g13, rfl, rfl⟩
 refine FJ.es (goes_list rfl) rfl (es_store (off := 0) (cs := [.string x11.name, .int .i64 x11.ino]) rfl sz_151 (.t .z) (.t (.s .z)) rfl (ones rfl) .z (Nat.le_of_ble_eq_true rfl) (.c .z (.c (.s .z) .n))) ?_
 refine FJ.nil (FJ.then_ (FJ.seq (FJ.region (FJ.ql rfl (q_fieldAddr rfl (.t .z) (fun _ => fa_151_1 _ _)) ?_))))
 refine FJ.ql rfl (q_load rfl ag_2 (.t .z) (WS.row .z rfl)) (FJ.ql rfl (q_move rfl (.t (.s4 (.s4 (.s4 (.s (.s .z))))))) (FJ.ql rfl (q_eql rfl (.t (.s .z)) (.t .z)) (FJ.nil (FJ.then_ ?_))))
 refine FJ.condP (.t .z) (fun b14 => ?_) (fun b14 => ?_)
 refine FJ.region (FJ.ql rfl (q_move rfl (.t (.s4 (.s4 (.s4 (.s (.s .z))))))) ?_)
 refine FJ.ql rfl (q_add (c := (((sumF (linksIn a) (List.take k xs) + sumF (cntE a) (List.take q x4.ents)) + 1 : Nat) : Int)) rfl (.t .z) .c (wr (by omega) (by omega) (by omega))) ?_
 refine FJ.er (.s16 .z) (FJ.ql rfl (q_assign rfl (.t .z)) (FJ.nil (FJ.inBN (FJ.then_ ?_))))
 refine FJ.region ?_
 refine FJ.ql rfl (q_add (c := ((q + 1 : Nat) : Int)) rfl (.t (.s4 (.s4 (.s (.s (.s .z)))))) .c (wr (by omega) (by omega) (by omega))) ?_
 refine FJ.er (.s4 (.s4 (.s4 .z))) (FJ.ql rfl (q_move rfl (.t .z)) (FJ.nil ?_))
 refine FJ.again (q + 1) (by omega) (by first | omega | (dsimp only; omega)) (.c .z (.c (.s4 (.s4 (.s4 (.s .z)))) (.c (.s4 (.s4 (.s4 (.s (.s .z))))) (.c (.s4 (.s4 (.s4 (.s (.s (.s .z)))))) (.c (.s16 .z) (.c (.s16 (.s .z)) (.e (.s (.s .z)) (congrArg (Value.int .i64) (by have hs := sumF_take (cntE a) hx11; unfold cntE at hs ⊢; split at hs <;> (first | omega | contradiction))) (.c (.s16 (.s (.s .z))) (.c (.s16 (.s (.s (.s .z)))) .n))))))))) (fun _ h => h.sel (.c (.s .z) .n))
 refine FJ.skip (FJ.inBN (FJ.then_ (FJ.region ?_)))
 refine FJ.ql rfl (q_add (c := ((q + 1 : Nat) : Int)) rfl (.t (.s4 (.s4 .z))) .c (wr (by omega) (by omega) (by omega))) ?_
 refine FJ.er (.s4 (.s4 (.s .z))) (FJ.ql rfl (q_move rfl (.t .z)) (FJ.nil ?_))
 refine FJ.again (q + 1) (by omega) (by first | omega | (dsimp only; omega)) (.c .z (.c (.s4 (.s4 (.s (.s .z)))) (.c (.s4 (.s4 (.s (.s (.s .z))))) (.c (.s4 (.s4 (.s4 .z))) (.c (.s4 (.s4 (.s4 (.s .z)))) (.c (.s4 (.s4 (.s4 (.s (.s .z))))) (.e (.s4 (.s4 (.s4 (.s (.s (.s .z)))))) (congrArg (Value.int .i64) (by have hs := sumF_take (cntE a) hx11; unfold cntE at hs ⊢; split at hs <;> (first | omega | contradiction))) (.c (.s16 .z) (.c (.s16 (.s .z)) .n))))))))) (fun _ h => h.sel (.c (.s .z) .n))
 refine FJ.exit (FJ.thenE (FJ.thenE (FJ.inB (FJ.inBN ?_))))
 refine FJ.then_ (FJ.region ?_)
 refine FJ.ql rfl (q_add (c := ((k + 1 : Nat) : Int)) rfl (.t (.s4 .z)) .c (wr (by omega) (by omega) (by omega))) ?_
 refine FJ.er (.s4 (.s .z)) (FJ.ql rfl (q_move rfl (.t .z)) (FJ.nil ?_))
 refine FJ.again (k + 1) (by omega) (by first | omega | (dsimp only; omega)) (.c .z (.c (.s4 (.s (.s .z))) (.c (.s4 (.s (.s (.s .z)))) (.e (.s4 (.s4 .z)) (congrArg (Value.int .i64) (by have hs := sumF_take (linksIn a) hx4; have hq2 := sumF_all (cntE a) (xs := x4.ents) (k := q) (by omega); unfold linksIn at hs ⊢; omega)) (.c (.s4 (.s4 (.s .z))) (.c (.s4 (.s4 (.s (.s .z)))) .n)))))) (fun _ h => h.sel .n)
 refine FJ.exit (FJ.thenE (FJ.thenE (FJ.inB (FJ.then_ ?_))))
 refine FJ.seq (FJ.region (FJ.ql rfl (q_move rfl (.t (.s4 .z))) (FJ.er (.s4 (.s (.s .z))) (FJ.ql rfl (q_assign rfl (.t .z)) ?_))))
 refine FJ.nil (FJ.then_ (FJ.ret ?_))
 refine FJ.doneS (res1 rfl .z) .n ?_
 exact ⟨by unfold linksOf; rw [sumF_all _ (by omega)], rfl⟩

set_option maxHeartbeats 1000000 in
set_option maxRecDepth 20000 in
theorem c_176 {w0 : World} {S0 : Bs} {xs : (List DInode)} {v0 : Value} (h0 : kSl_73.ro w0 (FF w0 S0) xs [v0]) (a : Int) (hb : linksOf xs a ≤ 60) :
    Calls Tryz.prog 176 #[v0, .int .i64 a] w0 (TriPost w0 S0 (fun r l => r = .int .i64 (linksOf xs a : Int) ∧ l = [])) := by
 obtain ⟨A0, c0, rfl, hl0, hm0, hb0, he0⟩ := ro_form h0
 refine FJ.enter (N := 38) Tryz.func176 rfl rfl (by simp) [(0, .slice A0 xs.length c0), (1, .int .i64 a)] (by simp) (l0 := []) trivial ?_
 refine FJ.seq (FJ.region (FJ.ql rfl (q_assign rfl .c) (FJ.nil (FJ.then_ ?_))))
 refine FJ.seq (FJ.region (FJ.ql rfl (q_assign rfl .c) (FJ.nil (FJ.then_ ?_))))
 refine FJ.seq (FJ.seq (FJ.region (FJ.ql rfl (q_assign rfl .c) (FJ.nil ?_))))
 refine FJ.then_ (FJ.block ?_)
 refine FJ.loopi (γ := Nat) (fun k => [(6, .int .i64 (k : Int)), (5, .int .i64 (sumF (linksIn a) (List.take k xs) : Int)), (4, .int .i64 0), (0, .slice A0 xs.length c0), (1, .int .i64 a)]) (fun k => []) (fun k => k ≤ xs.length) (fun k => xs.length - k) 0 (Nat.zero_le _) (.c .z (.e (.s .z) rfl (.c (.s (.s .z)) (.c (.s (.s (.s .z))) (.c (.s4 .z) .n))))) (fun _ h => h) ?_
 rintro k hk
 refine FJ.seq (FJ.seq (FJ.region (FJ.ql rfl (q_move rfl (.t .z)) (FJ.ql rfl (q_move rfl (.t (.s4 .z))) ?_))))
 refine FJ.ql rfl (q_len rfl u_29 (.t .z)) (FJ.ql rfl (q_lss rfl (.t (.s (.s .z))) (.t .z)) (FJ.nil (FJ.then_ ?_)))
 refine FJ.condP (.t .z) (fun b2 => ?_) (fun b2 => ?_)
 refine FJ.skip (FJ.then_ (FJ.seq (FJ.block (FJ.seq ?_))))
 refine FJ.region (FJ.ql rfl (q_assign rfl .c) (FJ.nil (FJ.then_ (FJ.block ?_))))
 obtain ⟨ad3, hAad3, hrad3⟩ := he0 (by omega)
 subst hAad3
 obtain ⟨x4, hx4⟩ := get_ex (xs := xs) (j := k) (by omega)
 obtain ⟨ece5, hre5, hFe5, hce5⟩ := hrad3.elem hx4
 obtain ⟨ue5_3, ue5_4, rfl, he5_3, he5_4⟩ := kT_73_ro hre5
 obtain ⟨Ae5_3, ce5_3, rfl, hle5_3, hme5_3, hbe5_3, hee5_3⟩ := ro_form he5_3
 obtain ⟨Ae5_4, ce5_4, rfl, hle5_4, hme5_4, hbe5_4, hee5_4⟩ := ro_form he5_4
 have g1 := sumF_get (linksIn a) hx4
 have g3 := hb
 unfold linksOf at g3
 refine FJ.loopi (γ := Nat) (fun q => [(7, .int .i64 (q : Int)), (6, .int .i64 (k : Int)), (5, .int .i64 ((sumF (linksIn a) (List.take k xs) + sumF (cntE a) (List.take q x4.ents) : Nat) : Int)), (4, .int .i64 0), (0, .slice (some ad3) xs.length c0), (1, .int .i64 a)]) (fun q => []) (fun q => q ≤ x4.ents.length) (fun q => x4.ents.length - q) 0 (Nat.zero_le _) (.c .z (.c (.s4 (.s .z)) (.e (.s4 (.s (.s .z))) (congrArg (Value.int .i64) (by simp only [List.take_zero, sumF]; omega)) (.c (.s4 (.s (.s (.s .z)))) (.c (.s4 (.s4 .z)) (.c (.s4 (.s4 (.s .z))) .n)))))) (fun _ h => h) ?_
 rintro q hq
 have g2 := sumF_le (cntE a) (xs := x4.ents) (k := q)
 have g4 : linksIn a x4 = sumF (cntE a) x4.ents := rfl
 refine FJ.seq (FJ.seq (FJ.region (FJ.ql rfl (q_move rfl (.t .z)) (FJ.ql rfl (q_move rfl (.t (.s4 (.s .z)))) ?_))))
 refine FJ.ql rfl (q_move rfl (.t (.s (.s (.s .z))))) ?_
 refine FJ.ql rfl (q_indexAddr (j := k) rfl u_29 sz_73 (.t (.s .z)) (.t .z) rfl (by omega)) ?_
 refine FJ.ql rfl (q_fieldAddr rfl (.t .z) (fun _ => fa_73_4 _ _)) (FJ.ql rfl (q_load rfl ag_71 (.t .z) (WS.el hFe5 hce5 rfl)) (FJ.ql rfl (q_len rfl u_71 (.t .z)) (FJ.ql rfl (q_lss rfl (.t (.s4 (.s (.s .z)))) (.t .z)) (FJ.nil ?_))))
 refine FJ.then_ ?_
 refine FJ.condP (.t .z) (fun b8 => ?_) (fun b8 => ?_)
 refine FJ.skip (FJ.then_ (FJ.seq (FJ.block (FJ.seq ?_))))
 refine FJ.region (FJ.ql rfl (q_move rfl (.t (.s4 (.s4 (.s4 .z))))) (FJ.ql rfl (q_move rfl (.t (.s4 (.s4 (.s (.s .z)))))) ?_))
 refine FJ.ql rfl (q_indexAddr (j := k) rfl u_29 sz_73 (.t (.s .z)) (.t .z) rfl (by omega)) ?_
 refine FJ.ql rfl (q_fieldAddr rfl (.t .z) (fun _ => fa_73_4 _ _)) (FJ.ql rfl (q_load rfl ag_71 (.t .z) (WS.el hFe5 hce5 rfl)) (FJ.ql rfl (q_move rfl (.t (.s4 (.s4 (.s4 (.s .z)))))) ?_))
 obtain ⟨ad9, hAad9, hrad9⟩ := hee5_4 (by omega)
 subst hAad9
 obtain ⟨x10, hx10⟩ := get_ex (xs := x4.ents) (j := q) (by omega)
 obtain ⟨ece11, hre11, hFe11, hce11⟩ := hrad9.elem hx10
 obtain ⟨rfl, se11_0⟩ := kT_151_ro hre11
 refine FJ.ql rfl (q_indexAddr (j := q) rfl u_71 sz_151 (.t (.s .z)) (.t .z) rfl (by omega)) ?_
 refine FJ.ql rfl (q_fieldAddr rfl (.t .z) (fun _ => fa_151_1 _ _)) (FJ.ql rfl (q_load rfl ag_2 (.t .z) (WS.el hFe11 hce11 rfl)) (FJ.ql rfl (q_move rfl (.t (.s16 (.s4 (.s (.s .z)))))) (FJ.ql rfl (q_eql rfl (.t (.s .z)) (.t .z)) (FJ.nil ?_))))
 refine FJ.then_ ?_
 refine FJ.condP (.t .z) (fun b12 => ?_) (fun b12 => ?_)
 refine FJ.region (FJ.ql rfl (q_move rfl (.t (.s16 (.s4 (.s .z))))) ?_)
 refine FJ.ql rfl (q_add (c := (((sumF (linksIn a) (List.take k xs) + sumF (cntE a) (List.take q x4.ents)) + 1 : Nat) : Int)) rfl (.t .z) .c (wr (by omega) (by omega) (by omega))) ?_
 refine FJ.er (.s16 (.s4 (.s (.s (.s .z))))) (FJ.ql rfl (q_assign rfl (.t .z)) (FJ.nil (FJ.inBN (FJ.then_ ?_))))
 refine FJ.region (FJ.ql rfl (q_move rfl (.t (.s16 (.s4 (.s (.s .z)))))) ?_)
 refine FJ.ql rfl (q_add (c := ((q + 1 : Nat) : Int)) rfl (.t .z) .c (wr (by omega) (by omega) (by omega))) ?_
 refine FJ.er (.s16 (.s4 (.s4 .z))) (FJ.ql rfl (q_assign rfl (.t .z)) (FJ.nil ?_))
 refine FJ.again (q + 1) (by omega) (by first | omega | (dsimp only; omega)) (.c .z (.c (.s16 (.s4 (.s4 (.s .z)))) (.e (.s (.s (.s .z))) (congrArg (Value.int .i64) (by have hs := sumF_take (cntE a) hx10; unfold cntE at hs ⊢; split at hs <;> (first | omega | contradiction))) (.c (.s16 (.s4 (.s4 (.s (.s .z))))) (.c (.s16 (.s4 (.s4 (.s (.s (.s .z)))))) (.c (.s16 (.s4 (.s4 (.s4 .z)))) .n)))))) (fun _ h => h)
 refine FJ.skip (FJ.inBN (FJ.then_ (FJ.region (FJ.ql rfl (q_move rfl (.t (.s16 (.s (.s (.s .z)))))) ?_))))
 refine FJ.ql rfl (q_add (c := ((q + 1 : Nat) : Int)) rfl (.t .z) .c (wr (by omega) (by omega) (by omega))) ?_
 refine FJ.er (.s16 (.s4 (.s .z))) (FJ.ql rfl (q_assign rfl (.t .z)) (FJ.nil ?_))
 refine FJ.again (q + 1) (by omega) (by first | omega | (dsimp only; omega)) (.c .z (.c (.s16 (.s4 (.s (.s .z)))) (.e (.s16 (.s4 (.s (.s (.s .z))))) (congrArg (Value.int .i64) (by have hs := sumF_take (cntE a) hx10; unfold cntE at hs ⊢; split at hs <;> (first | omega | contradiction))) (.c (.s16 (.s4 (.s4 .z))) (.c (.s16 (.s4 (.s4 (.s .z)))) (.c (.s16 (.s4 (.s4 (.s (.s .z))))) .n)))))) (fun _ h => h)
 refine FJ.exit (FJ.thenE (FJ.thenE (FJ.inB (FJ.inBN ?_))))
 refine FJ.then_ (FJ.region (FJ.ql rfl (q_move rfl (.t (.s4 (.s4 (.s .z))))) ?_))
 refine FJ.ql rfl (q_add (c := ((k + 1 : Nat) : Int)) rfl (.t .z) .c (wr (by omega) (by omega) (by omega))) ?_
 refine FJ.er (.s4 (.s4 (.s (.s (.s .z))))) (FJ.ql rfl (q_assign rfl (.t .z)) (FJ.nil ?_))
 refine FJ.again (k + 1) (by omega) (by first | omega | (dsimp only; omega)) (.c .z (.e (.s4 (.s4 (.s4 .z))) (congrArg (Value.int .i64) (by have hs := sumF_take (linksIn a) hx4; have hq2 := sumF_all (cntE a) (xs := x4.ents) (k := q) (by omega); unfold linksIn at hs ⊢; omega)) (.c (.s4 (.s4 (.s4 (.s .z)))) (.c (.s4 (.s4 (.s4 (.s (.s .z))))) (.c (.s4 (.s4 (.s4 (.s (.s (.s .z)))))) .n))))) (fun _ h => h)
 refine FJ.exit (FJ.thenE (FJ.thenE (FJ.inB (FJ.then_ ?_))))
 refine FJ.seq (FJ.region (FJ.ql rfl (q_move rfl (.t (.s4 (.s .z)))) (FJ.er (.s4 (.s (.s (.s .z)))) (FJ.ql rfl (q_assign rfl (.t .z)) ?_))))
 refine FJ.nil (FJ.then_ (FJ.ret ?_))
 refine FJ.doneS (res1 rfl .z) .n ?_
 exact ⟨by unfold linksOf; rw [sumF_all _ (by omega)], rfl⟩

end Go.Proofs.YticaddophhggoaaGreat

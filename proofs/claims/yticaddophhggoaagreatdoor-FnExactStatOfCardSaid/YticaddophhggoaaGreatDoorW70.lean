/- What is proved: contracts of functions, one a function. No condition. -/
import Derived.Test.YticaddophhggoaaGreatDoorW33
import Derived.Test.YticaddophhggoaaGreatDoorW62
import Derived.Test.YticaddophhggoaaGreatDoorBase2
namespace Go.Proofs.YticaddophhggoaaGreatDoor
open Go Go.RowKit
set_option linter.unusedVariables false
set_option linter.unusedSimpArgs false
set_option maxHeartbeats 1000000 in
set_option maxRecDepth 20000 in
theorem c_61 {w0 : World} {S0 : Bs} {f : DFs} {ad0 : Addr} (h0 : PtrRo kT_32 w0 (FF w0 S0) ad0 f) {x : (List ByteArray)} {v1 : Value} (h1 : kSl_9.ro w0 (FF w0 S0) x [v1]) (ht : treeFault f = 0) :
    Calls Tryz.prog 61 #[.pointer (some ad0), v1] w0 (TriPost w0 S0 (fun r l => r = .tuple #[.int .i64 (wkC f.inodes 0 x).1, .int .i64 (wkC f.inodes 0 x).2] ∧ l = [])) := by
 obtain ⟨ec0, hF0, hr0, hc0⟩ := id h0
 obtain ⟨u0_0, u0_1, rfl, h0_0, h0_1⟩ := kT_32_ro hr0
 obtain ⟨A0_0, c0_0, rfl, hl0_0, hm0_0, hb0_0, he0_0⟩ := ro_form h0_0
 obtain ⟨A0_1, c0_1, rfl, hl0_1, hm0_1, hb0_1, he0_1⟩ := ro_form h0_1
 obtain ⟨A1, c1, rfl, hl1, hm1, hb1, he1⟩ := ro_form h1
 have hI := treeI ht
 have hp0 := place_0 ht
 refine FJ.enter (N := 32) Tryz.func61 rfl rfl (by simp) [(0, .pointer (some ad0)), (1, .slice A1 x.length c1)] (by simp) (l0 := []) trivial ?_
 refine FJ.seq (FJ.region (FJ.ql rfl (q_assign rfl .c) (FJ.ql rfl (q_assign rfl .c) (FJ.nil ?_))))
 refine FJ.then_ (FJ.seq (FJ.region (FJ.ql rfl (q_assign rfl .c) (FJ.nil ?_))))
 refine FJ.then_ (FJ.seq (FJ.seq (FJ.region (FJ.ql rfl (q_move rfl (.t (.s4 .z))) ?_))))
 refine FJ.ql rfl (q_len rfl u_44 (.t .z)) (FJ.ql rfl (q_move rfl .c) (FJ.nil (FJ.then_ (FJ.block ?_))))
 refine FJ.loopi (γ := Nat × Int) (fun ⟨k, a⟩ => [(11, .int .i64 (k : Int)), (10, .int .i64 (x.length : Int)), (9, .slice A1 x.length c1), (6, .int .i64 a), (0, .pointer (some ad0))]) (fun ⟨k, a⟩ => []) (fun ⟨k, a⟩ => k ≤ x.length ∧ placeIn f.inodes.length a ∧ wkC f.inodes 0 x = wkC f.inodes a (x.drop k)) (fun ⟨k, a⟩ => x.length - k) (0, 0) ⟨Nat.zero_le _, place_0 ht, rfl⟩ (.c .z (.c (.s .z) (.c (.s (.s .z)) (.c (.s (.s (.s .z))) (.c (.s4 (.s (.s .z))) .n))))) (fun _ h => h) ?_
 rintro ⟨k, a⟩ ⟨hk, hpa, hwk⟩
 obtain ⟨hp1, hp2⟩ := hpa
 have hor := fun s : ByteArray => look_or (s := s) (a := a) ht rfl
 refine FJ.seq (FJ.region (FJ.ql rfl (q_lss rfl (.t .z) (.t (.s .z))) (FJ.nil (FJ.then_ ?_))))
 refine FJ.seq ?_
 refine FJ.condP (.t .z) (fun b4 => ?_) (fun b4 => ?_)
 refine FJ.skip (FJ.then_ (FJ.seq (FJ.block (FJ.seq ?_))))
 refine FJ.region ?_
 obtain ⟨ad5, hAad5, hrad5⟩ := he1 (by omega)
 subst hAad5
 obtain ⟨x6, hx6⟩ := get_ex (xs := x) (j := k) (by first | omega)
 obtain ⟨ece7, hre7, hFe7, hce7⟩ := hrad5.elem hx6
 obtain ⟨rfl, se7⟩ := hre7
 refine FJ.ql rfl (q_indexAddr (j := k) rfl u_44 sz_9 (.t (.s (.s (.s .z)))) (.t (.s .z)) rfl (by first | omega)) ?_
 refine FJ.ql rfl (q_load rfl ag_9 (.t .z) (WS.el0 hFe7 hce7 rfl)) (FJ.ql rfl (q_assign rfl (.t .z)) (FJ.nil (FJ.then_ (FJ.seq ?_))))
 refine FJ.seq (FJ.region (FJ.ql rfl (q_move rfl (.t (.s4 (.s4 .z)))) (FJ.ql rfl (q_nilCheck rfl (.t .z)) (FJ.ql rfl (q_fieldAddr rfl (.t .z) (fun _ => fa_32_0 _ _)) ?_))))
 refine FJ.ql rfl (q_load rfl ag_30 (.t .z) (WS.el hF0 hc0 rfl)) (FJ.ql rfl (q_move rfl (.t (.s4 (.s4 (.s (.s (.s .z))))))) ?_)
 obtain ⟨ad8, hAad8, hrad8⟩ := he0_0 (by omega)
 subst hAad8
 obtain ⟨x9, hx9⟩ := get_ex (xs := f.inodes) (j := Int.toNat a) (by first | omega)
 obtain ⟨ece10, hre10, hFe10, hce10⟩ := hrad8.elem hx9
 obtain ⟨ue10_3, ue10_4, rfl, he10_3, he10_4⟩ := kT_55_ro hre10
 obtain ⟨Ae10_3, ce10_3, rfl, hle10_3, hme10_3, hbe10_3, hee10_3⟩ := ro_form he10_3
 obtain ⟨Ae10_4, ce10_4, rfl, hle10_4, hme10_4, hbe10_4, hee10_4⟩ := ro_form he10_4
 have kx9 := kind_at (i := a) hx9 (by omega)
 have nx9 := ents_at (a := a) hx9 (by omega)
 have lx9 := links_at (a := a) hx9 (by omega)
 have zx9 := size_at (a := a) hx9 (by omega)
 refine FJ.ql rfl (q_indexAddr (j := Int.toNat a) rfl u_30 sz_55 (.t (.s .z)) (.t .z) (by omega) (by first | omega)) ?_
 refine FJ.ql rfl (q_fieldAddr rfl (.t .z) (fun _ => fa_55_0 _ _)) (FJ.ql rfl (q_load rfl ag_2 (.t .z) (WS.el hFe10 hce10 rfl)) (FJ.ql rfl (q_neq rfl (.t .z) .c) (FJ.nil (FJ.then_ ?_))))
 refine FJ.condN (.t .z) (fun b13 => ?_) (fun b13 => ?_)
 refine FJ.seq (FJ.region (FJ.ql rfl (q_assign rfl .c) (FJ.ql rfl (q_assign rfl .c) (FJ.nil ?_))))
 refine FJ.then_ (FJ.ret (FJ.thenR (FJ.inBR (FJ.thenR ?_))))
 refine FJ.thenR (FJ.inBR (FJ.thenR ?_))
 refine FJ.doneS (res2 rfl (.s .z) .z) .n ?_
 rw [hwk, wk_9 hx6 (by omega)]; exact ⟨rfl, rfl⟩
 refine FJ.skip (FJ.then_ (FJ.seq (FJ.region (FJ.ql rfl (q_move rfl (.t (.s16 (.s .z)))) ?_))))
 refine FJ.ql rfl (q_move rfl (.t (.s16 (.s .z)))) (FJ.ql rfl (q_move rfl (.t (.s4 (.s4 (.s (.s (.s .z))))))) ?_)
 refine FJ.call (goes_list rfl) rfl (by decide) rfl (c_call rfl Tryz.func44 rfl rfl (args3 (.t (.s (.s .z))) (.t (.s .z)) (.t .z))) .n (fun w1 S1 hs tr => c_44 (tr.ctxP h0) _ _ (by first | assumption | omega) (by first | assumption | (constructor <;> omega))) ?_
 rintro _ _ ⟨rfl, rfl⟩
 refine FJ.cat .n ?_
 refine FJ.er (.s16 (.s4 .z)) (FJ.ql rfl (q_assign rfl (.t .z)) (FJ.nil (FJ.then_ (FJ.seq ?_))))
 refine FJ.region (FJ.ql rfl (q_move rfl (.t .z)) (FJ.ql rfl (q_lss rfl (.t .z) .c) (FJ.nil (FJ.then_ ?_))))
 refine FJ.condP (.t .z) (fun b14 => ?_) (fun b14 => ?_)
 refine FJ.seq (FJ.region (FJ.ql rfl (q_assign rfl .c) (FJ.ql rfl (q_assign rfl .c) (FJ.nil ?_))))
 refine FJ.then_ (FJ.ret (FJ.inBR (FJ.thenR (FJ.thenR ?_))))
 refine FJ.inBR (FJ.thenR ?_)
 refine FJ.doneS (res2 rfl (.s .z) .z) .n ?_
 have h9 := look_or (s := x6) (a := a) ht nx9; have h8 := hor x6; rw [hwk, wk_4 hx6 (by omega) (by omega)]; exact ⟨rfl, rfl⟩
 refine FJ.skip (FJ.inBN (FJ.then_ (FJ.region ?_)))
 refine FJ.ql rfl (q_add (c := ((k + 1 : Nat) : Int)) rfl (.t (.s16 (.s4 .z))) .c (wr (by omega) (by omega) (by omega))) ?_
 refine FJ.er (.s16 (.s4 (.s .z))) (FJ.ql rfl (q_move rfl (.t .z)) (FJ.nil ?_))
 refine FJ.again ((k + 1), lookI (entsAt (f).inodes a) x6) ⟨by omega, (by exact look_place ht (by omega)), (by have h8 := wk_s hx6 (show kindAt f.inodes a = 2 by omega) (by omega); rw [hwk, h8])⟩ (by first | omega | (dsimp only; omega)) (.c .z (.c (.s16 (.s4 (.s (.s .z)))) (.c (.s16 (.s4 (.s (.s (.s .z))))) (.c (.s4 .z) (.c (.s16 (.s4 (.s4 .z))) .n))))) (fun _ h => h)
 refine FJ.exit (FJ.thenE (FJ.thenE (FJ.inB (FJ.then_ ?_))))
 refine FJ.seq (FJ.region (FJ.ql rfl (q_move rfl (.t (.s4 .z))) (FJ.ql rfl (q_assign rfl (.t .z)) (FJ.ql rfl (q_assign rfl .c) ?_))))
 refine FJ.nil (FJ.then_ (FJ.ret ?_))
 refine FJ.doneS (res2 rfl (.s .z) .z) .n ?_
 rw [hwk, wk_end (by omega)]; exact ⟨rfl, rfl⟩

set_option maxHeartbeats 1000000 in
set_option maxRecDepth 20000 in
theorem c_55 {w0 : World} {S0 : Bs} {f : DFs} {ad0 : Addr} (h0 : PtrRo kT_32 w0 (FF w0 S0) ad0 f) {x : (List ByteArray)} {v1 : Value} (h1 : kSl_9.ro w0 (FF w0 S0) x [v1]) (ht : treeFault f = 0) :
    Calls Tryz.prog 55 #[.pointer (some ad0), v1] w0 (TriPost w0 S0 (fun r l => r = .tuple #[.int .i64 (wkC f.inodes 0 x).1, .int .i64 (wkC f.inodes 0 x).2] ∧ l = [])) := by
 obtain ⟨ec0, hF0, hr0, hc0⟩ := id h0
 obtain ⟨u0_0, u0_1, rfl, h0_0, h0_1⟩ := kT_32_ro hr0
 obtain ⟨A0_0, c0_0, rfl, hl0_0, hm0_0, hb0_0, he0_0⟩ := ro_form h0_0
 obtain ⟨A0_1, c0_1, rfl, hl0_1, hm0_1, hb0_1, he0_1⟩ := ro_form h0_1
 obtain ⟨A1, c1, rfl, hl1, hm1, hb1, he1⟩ := ro_form h1
 have hI := treeI ht
 have hp0 := place_0 ht
 refine FJ.enter (N := 52) Tryz.func55 rfl rfl (by simp) [(0, .pointer (some ad0)), (1, .slice A1 x.length c1)] (by simp) (l0 := []) trivial ?_
 refine FJ.seq (FJ.region (FJ.ql rfl (q_assign rfl .c) (FJ.ql rfl (q_assign rfl .c) (FJ.nil ?_))))
 refine FJ.then_ (FJ.seq (FJ.region (FJ.ql rfl (q_assign rfl .c) (FJ.nil ?_))))
 refine FJ.then_ (FJ.seq (FJ.seq (FJ.region (FJ.ql rfl (q_assign rfl .c) ?_))))
 refine FJ.nil (FJ.then_ (FJ.block ?_))
 refine FJ.loopi (γ := Nat × Int) (fun ⟨k, a⟩ => [(7, .int .i64 (k : Int)), (6, .int .i64 a), (0, .pointer (some ad0)), (1, .slice A1 x.length c1)]) (fun ⟨k, a⟩ => []) (fun ⟨k, a⟩ => k ≤ x.length ∧ placeIn f.inodes.length a ∧ wkC f.inodes 0 x = wkC f.inodes a (x.drop k)) (fun ⟨k, a⟩ => x.length - k) (0, 0) ⟨Nat.zero_le _, place_0 ht, rfl⟩ (.c .z (.c (.s .z) (.c (.s4 .z) (.c (.s4 (.s .z)) .n)))) (fun _ h => h) ?_
 rintro ⟨k, a⟩ ⟨hk, hpa, hwk⟩
 obtain ⟨hp1, hp2⟩ := hpa
 have hor := fun s : ByteArray => look_or (s := s) (a := a) ht rfl
 refine FJ.seq (FJ.seq (FJ.region (FJ.ql rfl (q_move rfl (.t .z)) (FJ.ql rfl (q_move rfl (.t (.s4 .z))) ?_))))
 refine FJ.ql rfl (q_len rfl u_44 (.t .z)) (FJ.ql rfl (q_lss rfl (.t (.s (.s .z))) (.t .z)) (FJ.nil (FJ.then_ ?_)))
 refine FJ.condP (.t .z) (fun b4 => ?_) (fun b4 => ?_)
 refine FJ.skip (FJ.then_ (FJ.seq (FJ.block (FJ.seq ?_))))
 refine FJ.seq (FJ.region (FJ.ql rfl (q_move rfl (.t (.s4 (.s (.s .z))))) (FJ.ql rfl (q_nilCheck rfl (.t .z)) (FJ.ql rfl (q_fieldAddr rfl (.t .z) (fun _ => fa_32_0 _ _)) ?_))))
 refine FJ.ql rfl (q_load rfl ag_30 (.t .z) (WS.el hF0 hc0 rfl)) (FJ.ql rfl (q_move rfl (.t (.s4 (.s4 (.s .z))))) ?_)
 obtain ⟨ad5, hAad5, hrad5⟩ := he0_0 (by omega)
 subst hAad5
 obtain ⟨x6, hx6⟩ := get_ex (xs := f.inodes) (j := Int.toNat a) (by first | omega)
 obtain ⟨ece7, hre7, hFe7, hce7⟩ := hrad5.elem hx6
 obtain ⟨ue7_3, ue7_4, rfl, he7_3, he7_4⟩ := kT_55_ro hre7
 obtain ⟨Ae7_3, ce7_3, rfl, hle7_3, hme7_3, hbe7_3, hee7_3⟩ := ro_form he7_3
 obtain ⟨Ae7_4, ce7_4, rfl, hle7_4, hme7_4, hbe7_4, hee7_4⟩ := ro_form he7_4
 have kx6 := kind_at (i := a) hx6 (by omega)
 have nx6 := ents_at (a := a) hx6 (by omega)
 have lx6 := links_at (a := a) hx6 (by omega)
 have zx6 := size_at (a := a) hx6 (by omega)
 refine FJ.ql rfl (q_indexAddr (j := Int.toNat a) rfl u_30 sz_55 (.t (.s .z)) (.t .z) (by omega) (by first | omega)) ?_
 refine FJ.ql rfl (q_fieldAddr rfl (.t .z) (fun _ => fa_55_0 _ _)) (FJ.ql rfl (q_load rfl ag_2 (.t .z) (WS.el hFe7 hce7 rfl)) (FJ.ql rfl (q_neq rfl (.t .z) .c) (FJ.nil (FJ.then_ ?_))))
 refine FJ.condN (.t .z) (fun b10 => ?_) (fun b10 => ?_)
 refine FJ.seq (FJ.region (FJ.ql rfl (q_assign rfl .c) (FJ.ql rfl (q_assign rfl .c) (FJ.nil ?_))))
 refine FJ.then_ (FJ.ret (FJ.thenR (FJ.inBR (FJ.thenR ?_))))
 refine FJ.thenR (FJ.inBR (FJ.thenR ?_))
 refine FJ.doneS (res2 rfl (.s .z) .z) .n ?_
 obtain ⟨zn, hzn⟩ := get_ex (xs := x) (j := k) (by omega); rw [hwk, wk_9 hzn (by omega)]; exact ⟨rfl, rfl⟩
 refine FJ.skip (FJ.then_ (FJ.seq ?_))
 refine FJ.draw [] 13 (by kernel_rfl) ?_
 refine FJ.sch [(0, true), (1, true), (2, true), (3, true), (4, true), (5, true), (6, true), (7, true), (8, true), (9, true), (10, true), (11, true), (12, false), (13, false)] 0 #[true, true, true, true, true, true, true, true, true, true, true, true, true, true] (by rfl) (by kernel_rfl) ?_
 refine FJ.dq rfl rfl rfl (by decide) rfl .z (q_move rfl (.t (.s4 (.s4 (.s4 (.s (.s (.s .z)))))))) (FJ.dq rfl rfl rfl (by decide) rfl .z (q_nilCheck rfl (.t .z)) (FJ.dq rfl rfl rfl (by decide) rfl .z (q_fieldAddr rfl (.t .z) (fun _ => fa_32_0 _ _)) (FJ.dq rfl rfl rfl (by decide) rfl .z (q_load rfl ag_30 (.t .z) (WS.el hF0 hc0 rfl)) (FJ.dq rfl rfl rfl (by decide) rfl .z (q_move rfl (.t (.s16 (.s (.s .z))))) ?_))))
 refine FJ.dq rfl rfl rfl (by decide) rfl .z (q_indexAddr (j := Int.toNat a) rfl u_30 sz_55 (.t (.s .z)) (.t .z) (by omega) (by first | omega)) ?_
 refine FJ.dq rfl rfl rfl (by decide) rfl .z (q_fieldAddr rfl (.t .z) (fun _ => fa_55_4 _ _)) (FJ.dq rfl rfl rfl (by decide) rfl .z (q_load rfl ag_53 (.t .z) (WS.el hFe7 hce7 rfl)) (FJ.dq rfl rfl rfl (by decide) rfl .z (q_move rfl (.t (.s16 (.s4 (.s4 .z))))) (FJ.dq rfl rfl rfl (by decide) rfl .z (q_move rfl (.t (.s16 (.s4 (.s (.s .z)))))) ?_)))
 obtain ⟨ad11, hAad11, hrad11⟩ := he1 (by omega)
 subst hAad11
 obtain ⟨x12, hx12⟩ := get_ex (xs := x) (j := k) (by first | omega)
 obtain ⟨ece13, hre13, hFe13, hce13⟩ := hrad11.elem hx12
 obtain ⟨rfl, se13⟩ := hre13
 refine FJ.dq rfl rfl rfl (by decide) rfl .z (q_indexAddr (j := k) rfl u_44 sz_9 (.t (.s .z)) (.t .z) rfl (by first | omega)) ?_
 refine FJ.dq rfl rfl rfl (by decide) rfl .z (q_load rfl ag_9 (.t .z) (WS.el0 hFe13 hce13 rfl)) ?_
 refine FJ.call (goes_sch rfl rfl) rfl (by decide) rfl (c_call rfl Tryz.func90 rfl rfl (args2 (.t (.s4 .z)) (.t .z))) .n (fun w1 S1 hs tr => c_90 (tr.ctx he7_4) _ (by first | assumption | omega)) ?_
 rintro _ _ ⟨rfl, rfl⟩
 refine FJ.cat .n ?_
 refine FJ.sk .z ?_
 refine FJ.q (goes_sch rfl rfl) rfl (by decide) rfl (q_assign rfl (.t .z)) ?_
 refine FJ.sl rfl ?_
 refine FJ.schN ?_
 refine FJ.drawN (by kernel_rfl) ?_
 refine FJ.then_ (FJ.seq (FJ.seq (FJ.region (FJ.ql rfl (q_move rfl (.t .z)) ?_))))
 refine FJ.ql rfl (q_lss rfl (.t .z) .c) (FJ.nil (FJ.then_ ?_))
 refine FJ.condP (.t .z) (fun b14 => ?_) (fun b14 => ?_)
 have hob14 := look_or (s := x12) (a := a) ht nx6
 have hrb14 := idxF_rng (nameP x12) x6.ents
 refine FJ.seq (FJ.region (FJ.ql rfl (q_assign rfl .c) (FJ.ql rfl (q_assign rfl .c) (FJ.nil ?_))))
 refine FJ.then_ (FJ.ret (FJ.thenR (FJ.inBR (FJ.thenR ?_))))
 refine FJ.thenR (FJ.inBR (FJ.thenR ?_))
 refine FJ.doneS (res2 rfl (.s .z) .z) .n ?_
 have h9 := look_or (s := x12) (a := a) ht nx6; have h8 := hor x12; rw [hwk, wk_4 hx12 (by omega) (by omega)]; exact ⟨rfl, rfl⟩
 have hob14 := look_or (s := x12) (a := a) ht nx6
 have hrb14 := idxF_rng (nameP x12) x6.ents
 refine FJ.skip (FJ.then_ (FJ.region (FJ.ql rfl (q_move rfl (.t (.s16 (.s4 (.s4 (.s4 (.s (.s (.s .z))))))))) (FJ.ql rfl (q_nilCheck rfl (.t .z)) ?_))))
 refine FJ.ql rfl (q_fieldAddr rfl (.t .z) (fun _ => fa_32_0 _ _)) (FJ.ql rfl (q_load rfl ag_30 (.t .z) (WS.el hF0 hc0 rfl)) (FJ.ql rfl (q_move rfl (.t (.s16 (.s16 (.s (.s .z)))))) ?_))
 refine FJ.ql rfl (q_indexAddr (j := Int.toNat a) rfl u_30 sz_55 (.t (.s .z)) (.t .z) (by omega) (by first | omega)) ?_
 refine FJ.ql rfl (q_fieldAddr rfl (.t .z) (fun _ => fa_55_4 _ _)) (FJ.ql rfl (q_load rfl ag_53 (.t .z) (WS.el hFe7 hce7 rfl)) (FJ.ql rfl (q_move rfl (.t (.s4 (.s4 (.s (.s .z)))))) ?_))
 obtain ⟨ad15, hAad15, hrad15⟩ := hee7_4 (by omega)
 subst hAad15
 obtain ⟨x16, hx16⟩ := get_ex (xs := x6.ents) (j := Int.toNat (idxF (nameP x12) x6.ents)) (by first | omega)
 obtain ⟨ece17, hre17, hFe17, hce17⟩ := hrad15.elem hx16
 obtain ⟨rfl, se17_0⟩ := kT_103_ro hre17
 refine FJ.ql rfl (q_indexAddr (j := Int.toNat (idxF (nameP x12) x6.ents)) rfl u_53 sz_103 (.t (.s .z)) (.t .z) (by omega) (by first | omega)) ?_
 refine FJ.ql rfl (q_fieldAddr rfl (.t .z) (fun _ => fa_103_1 _ _)) (FJ.ql rfl (q_load rfl ag_2 (.t .z) (WS.el hFe17 hce17 rfl)) (FJ.er (.s16 (.s16 (.s4 (.s4 (.s (.s .z)))))) (FJ.ql rfl (q_assign rfl (.t .z)) (FJ.nil ?_))))
 refine FJ.inBN (FJ.then_ (FJ.region (FJ.ql rfl (q_move rfl (.t (.s16 (.s16 (.s4 (.s4 (.s (.s .z)))))))) ?_)))
 refine FJ.ql rfl (q_add (c := ((k + 1 : Nat) : Int)) rfl (.t .z) .c (wr (by omega) (by omega) (by omega))) ?_
 refine FJ.er (.s16 (.s16 (.s4 (.s4 (.s4 .z))))) (FJ.ql rfl (q_assign rfl (.t .z)) (FJ.nil ?_))
 refine FJ.again ((k + 1), x16.ino) ⟨by omega, (by have h9 := look_at (by assumption) hx16; rw [← nx6] at h9; rw [← h9]; exact look_place ht (by omega)), (by have h9 := look_at (by assumption) hx16; rw [← nx6] at h9; rw [← h9]; have h8 := wk_s hx12 (show kindAt f.inodes a = 2 by omega) (by omega); rw [hwk, h8])⟩ (by first | omega | (dsimp only; omega)) (.c .z (.c (.s (.s (.s .z))) (.c (.s16 (.s16 (.s4 (.s4 (.s4 (.s .z)))))) (.c (.s16 (.s16 (.s4 (.s4 (.s4 (.s (.s .z))))))) .n)))) (fun _ h => h)
 refine FJ.exit (FJ.thenE (FJ.thenE (FJ.inB (FJ.then_ ?_))))
 refine FJ.seq (FJ.region (FJ.ql rfl (q_move rfl (.t (.s4 (.s .z)))) (FJ.ql rfl (q_assign rfl (.t .z)) (FJ.ql rfl (q_assign rfl .c) ?_))))
 refine FJ.nil (FJ.then_ (FJ.ret ?_))
 refine FJ.doneS (res2 rfl (.s .z) .z) .n ?_
 rw [hwk, wk_end (by omega)]; exact ⟨rfl, rfl⟩

set_option maxHeartbeats 1000000 in
set_option maxRecDepth 20000 in
theorem c_33 {w0 : World} {S0 : Bs} {f : DFs} {ad0 : Addr} (h0 : PtrRo kT_32 w0 (FF w0 S0) ad0 f) (s : ByteArray) (hz1 : s.size ≤ 140737488351232) (ht : treeFault f = 0) (hG : MaxL gmax w0 (FF w0 S0)) :
    Calls Tryz.prog 33 #[.pointer (some ad0), .string s] w0 (TriPost w0 S0 (fun r l => r = .tuple #[.int .i64 (walkP f s).1, .int .i64 (walkP f s).2] ∧ l = [])) := by
 obtain ⟨ec0, hF0, hr0, hc0⟩ := id h0
 obtain ⟨u0_0, u0_1, rfl, h0_0, h0_1⟩ := kT_32_ro hr0
 obtain ⟨A0_0, c0_0, rfl, hl0_0, hm0_0, hb0_0, he0_0⟩ := ro_form h0_0
 obtain ⟨A0_1, c0_1, rfl, hl0_1, hm0_1, hb0_1, he0_1⟩ := ro_form h0_1
 refine FJ.enter (N := 21) Tryz.func33 rfl rfl (by simp) [(0, .pointer (some ad0)), (1, .string s)] (by simp) (l0 := []) trivial ?_
 refine FJ.seq (FJ.region (FJ.ql rfl (q_assign rfl .c) (FJ.ql rfl (q_assign rfl .c) (FJ.nil ?_))))
 refine FJ.then_ (FJ.seq (FJ.region (FJ.ql rfl (q_move rfl (.t (.s (.s (.s .z))))) ?_)))
 refine FJ.call (goes_list rfl) rfl (by decide) rfl (c_call rfl Tryz.func45 rfl rfl (args1 (.t .z))) .n (fun w1 S1 hs tr => c_45 _ (by first | assumption | omega) (MaxL.tr tr hG)) ?_
 rintro _ _ ⟨v3, rfl, rfl⟩
 refine FJ.cat (.c .n) ?_
 refine FJ.know (WS.oform .z) ?_
 rintro ⟨Ao5, co5, rfl, hlo5, hmo5, hbo5⟩
 have hskv3 := (splitN_ok s).1
 refine FJ.ql rfl (q_move rfl (.t .z)) (FJ.ql rfl (q_extract (v := .slice Ao5 (splitN s).length co5) rfl (.t .z) rfl) (FJ.ql rfl (q_extract (v := .int .i64 (splitC s)) rfl (.t (.s .z)) rfl) (FJ.ql rfl (q_assign rfl (.t (.s .z))) (FJ.ql rfl (q_assign rfl (.t (.s .z))) ?_))))
 refine FJ.nil (FJ.then_ (FJ.seq (FJ.seq (FJ.region ?_))))
 refine FJ.ql rfl (q_move rfl (.t .z)) (FJ.ql rfl (q_neq rfl (.t .z) .c) (FJ.nil (FJ.then_ ?_)))
 refine FJ.condN (.t .z) (fun b6 => ?_) (fun b6 => ?_)
 refine FJ.seq (FJ.region (FJ.ql rfl (q_move rfl (.t (.s (.s .z)))) (FJ.er (.s4 (.s4 (.s (.s (.s .z))))) (FJ.ql rfl (q_assign rfl .c) ?_))))
 refine FJ.er (.s4 (.s4 (.s (.s (.s .z))))) (FJ.ql rfl (q_assign rfl (.t (.s .z))) (FJ.nil (FJ.then_ (FJ.ret ?_))))
 refine FJ.thenR ?_
 refine FJ.doneS (res2 rfl (.s .z) .z) .n ?_
 rw [walkP_c (by assumption)]; exact ⟨rfl, rfl⟩
 refine FJ.skip (FJ.then_ (FJ.seq (FJ.region (FJ.ql rfl (q_move rfl (.t (.s4 (.s4 (.s (.s (.s .z))))))) ?_))))
 refine FJ.ql rfl (q_move rfl (.t (.s4 .z))) ?_
 refine FJ.call (goes_list rfl) rfl (by decide) rfl (c_call rfl Tryz.func61 rfl rfl (args2 (.t (.s .z)) (.t .z))) .n (fun w1 S1 hs tr => c_61 (tr.ctxP h0) (tr.own .z) (by assumption)) ?_
 rintro _ _ ⟨rfl, rfl⟩
 refine FJ.cat .n ?_
 have hwpp7 := wk_place ht (splitN s) 0 (place_0 ht)
 refine FJ.ql rfl (q_extract (v := .int .i64 ((wkC (f).inodes 0 (splitN s)).1)) rfl (.t .z) rfl) (FJ.ql rfl (q_extract (v := .int .i64 ((wkC (f).inodes 0 (splitN s)).2)) rfl (.t (.s .z)) rfl) (FJ.er (.s4 (.s4 (.s4 (.s (.s (.s .z)))))) (FJ.ql rfl (q_assign rfl (.t (.s .z))) (FJ.er (.s4 (.s4 (.s4 (.s (.s (.s .z)))))) ?_))))
 refine FJ.ql rfl (q_assign rfl (.t (.s .z))) (FJ.nil (FJ.then_ (FJ.ret ?_)))
 refine FJ.doneS (res2 rfl (.s .z) .z) .n ?_
 rw [walkP_0 (by assumption)]; exact ⟨rfl, rfl⟩

set_option maxHeartbeats 1000000 in
set_option maxRecDepth 20000 in
theorem c_28 {w0 : World} {S0 : Bs} {f : DFs} {ad0 : Addr} (h0 : PtrRo kT_32 w0 (FF w0 S0) ad0 f) (s : ByteArray) (hz1 : s.size ≤ 140737488351232) (ht : treeFault f = 0) :
    Calls Tryz.prog 28 #[.pointer (some ad0), .string s] w0 (TriPost w0 S0 (fun r l => r = .tuple #[.int .i64 (walkP f s).1, .int .i64 (walkP f s).2] ∧ l = [])) := by
 obtain ⟨ec0, hF0, hr0, hc0⟩ := id h0
 obtain ⟨u0_0, u0_1, rfl, h0_0, h0_1⟩ := kT_32_ro hr0
 obtain ⟨A0_0, c0_0, rfl, hl0_0, hm0_0, hb0_0, he0_0⟩ := ro_form h0_0
 obtain ⟨A0_1, c0_1, rfl, hl0_1, hm0_1, hb0_1, he0_1⟩ := ro_form h0_1
 refine FJ.enter (N := 21) Tryz.func28 rfl rfl (by simp) [(0, .pointer (some ad0)), (1, .string s)] (by simp) (l0 := []) trivial ?_
 refine FJ.seq (FJ.region (FJ.ql rfl (q_assign rfl .c) (FJ.ql rfl (q_assign rfl .c) (FJ.nil ?_))))
 refine FJ.then_ (FJ.seq (FJ.region (FJ.ql rfl (q_move rfl (.t (.s (.s (.s .z))))) ?_)))
 refine FJ.call (goes_list rfl) rfl (by decide) rfl (c_call rfl Tryz.func54 rfl rfl (args1 (.t .z))) .n (fun w1 S1 hs tr => c_54 _ (by first | assumption | omega)) ?_
 rintro _ _ ⟨v3, rfl, rfl⟩
 refine FJ.cat (.c .n) ?_
 refine FJ.know (WS.oform .z) ?_
 rintro ⟨Ao5, co5, rfl, hlo5, hmo5, hbo5⟩
 have hskv3 := (splitN_ok s).1
 refine FJ.ql rfl (q_move rfl (.t .z)) (FJ.ql rfl (q_extract (v := .slice Ao5 (splitN s).length co5) rfl (.t .z) rfl) (FJ.ql rfl (q_extract (v := .int .i64 (splitC s)) rfl (.t (.s .z)) rfl) (FJ.ql rfl (q_assign rfl (.t (.s .z))) (FJ.ql rfl (q_assign rfl (.t (.s .z))) ?_))))
 refine FJ.nil (FJ.then_ (FJ.seq (FJ.seq (FJ.region ?_))))
 refine FJ.ql rfl (q_move rfl (.t .z)) (FJ.ql rfl (q_neq rfl (.t .z) .c) (FJ.nil (FJ.then_ ?_)))
 refine FJ.condN (.t .z) (fun b6 => ?_) (fun b6 => ?_)
 refine FJ.seq (FJ.region (FJ.ql rfl (q_move rfl (.t (.s (.s .z)))) (FJ.er (.s4 (.s4 (.s (.s (.s .z))))) (FJ.ql rfl (q_assign rfl .c) ?_))))
 refine FJ.er (.s4 (.s4 (.s (.s (.s .z))))) (FJ.ql rfl (q_assign rfl (.t (.s .z))) (FJ.nil (FJ.then_ (FJ.ret ?_))))
 refine FJ.thenR ?_
 refine FJ.doneS (res2 rfl (.s .z) .z) .n ?_
 rw [walkP_c (by assumption)]; exact ⟨rfl, rfl⟩
 refine FJ.skip (FJ.then_ (FJ.seq (FJ.region (FJ.ql rfl (q_move rfl (.t (.s4 (.s4 (.s (.s (.s .z))))))) ?_))))
 refine FJ.ql rfl (q_move rfl (.t (.s4 .z))) ?_
 refine FJ.call (goes_list rfl) rfl (by decide) rfl (c_call rfl Tryz.func55 rfl rfl (args2 (.t (.s .z)) (.t .z))) .n (fun w1 S1 hs tr => c_55 (tr.ctxP h0) (tr.own .z) (by assumption)) ?_
 rintro _ _ ⟨rfl, rfl⟩
 refine FJ.cat .n ?_
 have hwpp7 := wk_place ht (splitN s) 0 (place_0 ht)
 refine FJ.ql rfl (q_extract (v := .int .i64 ((wkC (f).inodes 0 (splitN s)).1)) rfl (.t .z) rfl) (FJ.ql rfl (q_extract (v := .int .i64 ((wkC (f).inodes 0 (splitN s)).2)) rfl (.t (.s .z)) rfl) (FJ.er (.s4 (.s4 (.s4 (.s (.s (.s .z)))))) (FJ.ql rfl (q_assign rfl (.t (.s .z))) (FJ.er (.s4 (.s4 (.s4 (.s (.s (.s .z)))))) ?_))))
 refine FJ.ql rfl (q_assign rfl (.t (.s .z))) (FJ.nil (FJ.then_ (FJ.ret ?_)))
 refine FJ.doneS (res2 rfl (.s .z) .z) .n ?_
 rw [walkP_0 (by assumption)]; exact ⟨rfl, rfl⟩

set_option maxHeartbeats 1000000 in
set_option maxRecDepth 20000 in
theorem c_38 {w0 : World} {S0 : Bs} {f : DFs} {ad0 : Addr} (h0 : PtrRo kT_32 w0 (FF w0 S0) ad0 f) (a : Int) (hp : placeIn f.inodes.length a) :
    Calls Tryz.prog 38 #[.pointer (some ad0), .int .i64 a] w0 (TriPost w0 S0 (RA_38 (statA f a))) := by
 obtain ⟨ec0, hF0, hr0, hc0⟩ := id h0
 obtain ⟨u0_0, u0_1, rfl, h0_0, h0_1⟩ := kT_32_ro hr0
 obtain ⟨A0_0, c0_0, rfl, hl0_0, hm0_0, hb0_0, he0_0⟩ := ro_form h0_0
 obtain ⟨A0_1, c0_1, rfl, hl0_1, hm0_1, hb0_1, he0_1⟩ := ro_form h0_1
 obtain ⟨hp1, hp2⟩ := hp
 refine FJ.enter (N := 31) Tryz.func38 rfl rfl (by simp) [(0, .pointer (some ad0)), (1, .int .i64 a)] (by simp) (l0 := []) trivial ?_
 refine FJ.seq (FJ.region ?_)
 refine FJ.e (goes_list rfl) rfl (by decide) rfl (e_alloc rfl z_38 rfl rfl) ?_
 rintro _ _ ⟨g3, rfl, rfl⟩
 refine FJ.nil (FJ.then_ (FJ.seq (FJ.region (FJ.ql rfl (q_move rfl (.t (.s .z))) ?_))))
 refine FJ.ql rfl (q_nilCheck rfl (.t .z)) (FJ.ql rfl (q_fieldAddr rfl (.t .z) (fun _ => fa_32_0 _ _)) (FJ.ql rfl (q_load rfl ag_30 (.t .z) (WS.el hF0 hc0 rfl)) (FJ.ql rfl (q_move rfl (.t (.s4 (.s (.s .z))))) ?_)))
 obtain ⟨ad4, hAad4, hrad4⟩ := he0_0 (by omega)
 subst hAad4
 obtain ⟨x5, hx5⟩ := get_ex (xs := f.inodes) (j := Int.toNat a) (by omega)
 obtain ⟨ece6, hre6, hFe6, hce6⟩ := hrad4.elem hx5
 obtain ⟨ue6_3, ue6_4, rfl, he6_3, he6_4⟩ := kT_55_ro hre6
 obtain ⟨Ae6_3, ce6_3, rfl, hle6_3, hme6_3, hbe6_3, hee6_3⟩ := ro_form he6_3
 obtain ⟨Ae6_4, ce6_4, rfl, hle6_4, hme6_4, hbe6_4, hee6_4⟩ := ro_form he6_4
 have kx5 := kind_at (i := a) hx5 (by omega)
 have nx5 := ents_at (a := a) hx5 (by omega)
 have lx5 := links_at (a := a) hx5 (by omega)
 have zx5 := size_at (a := a) hx5 (by omega)
 refine FJ.ql rfl (q_indexAddr (j := Int.toNat a) rfl u_30 sz_55 (.t (.s .z)) (.t .z) (by omega) (by omega)) ?_
 refine FJ.ql rfl (q_loadA (cs := [.int .i64 x5.kind, .int .i64 x5.links, .int .i64 x5.size, .slice Ae6_3 x5.blocks.length ce6_3, .slice Ae6_4 x5.ents.length ce6_4]) rfl ag_55 sz_55 (.t .z) (WS.els hFe6 hce6)) ?_
 refine FJ.e (goes_list rfl) rfl (by decide) rfl (e_alloc rfl z_55 rfl rfl) ?_
 rintro _ _ ⟨g9, rfl, rfl⟩
 refine FJ.es (goes_list rfl) rfl (es_store (off := 0) (cs := [.int .i64 x5.kind, .int .i64 x5.links, .int .i64 x5.size, .slice Ae6_3 x5.blocks.length ce6_3, .slice Ae6_4 x5.ents.length ce6_4]) rfl sz_55 (.t .z) (.t (.s .z)) rfl (ones rfl) .z (Nat.le_of_ble_eq_true rfl) (.c .z (.c (.s .z) (.c (.s (.s .z)) (.c (.s (.s (.s .z))) (.c (.s (.s (.s (.s .z)))) .n)))))) ?_
 refine FJ.nil (FJ.then_ (FJ.seq (FJ.seq (FJ.region ?_))))
 refine FJ.ql rfl (q_fieldAddr rfl (.t .z) (fun _ => fa_55_0 _ _)) (FJ.ql rfl (q_load rfl ag_2 (.t .z) (WS.row .z rfl)) (FJ.ql rfl (q_eql rfl (.t .z) .c) (FJ.nil (FJ.then_ ?_))))
 refine FJ.condP (.t .z) (fun b10 => ?_) (fun b10 => ?_)
 refine FJ.seq ?_
 refine FJ.draw [rowA g9 55 5 1 [.int .i64 x5.kind, .int .i64 x5.links, .int .i64 x5.size, .slice Ae6_3 x5.blocks.length ce6_3, .slice Ae6_4 x5.ents.length ce6_4], rowA g3 38 5 1 [.int .i64 0, .int .i64 0, .int .i64 0, .int .i64 0, .int .i64 0]] 7 (by kernel_rfl) ?_
 refine FJ.sch [(0, true), (1, true), (2, true), (3, true), (4, true), (5, false), (6, true), (7, false)] 0 #[true, true, true, true, true, true, true, true] (by rfl) (by kernel_rfl) ?_
 refine FJ.dq rfl rfl rfl (by decide) rfl .z (q_move rfl (.t (.s4 (.s4 (.s4 (.s .z)))))) (FJ.dq rfl rfl rfl (by decide) rfl .z (q_fieldAddr rfl (.t (.s4 .z)) (fun _ => fa_55_0 _ _)) (FJ.dq rfl rfl rfl (by decide) rfl .z (q_load rfl ag_2 (.t .z) (WS.row .z rfl)) (FJ.dq rfl rfl rfl (by decide) rfl .z (q_fieldAddr rfl (.t (.s4 (.s (.s .z)))) (fun _ => fa_55_4 _ _)) (FJ.dq rfl rfl rfl (by decide) rfl .z (q_load rfl ag_53 (.t .z) (WS.row .z rfl)) ?_))))
 refine FJ.call (goes_sch rfl rfl) rfl (by decide) rfl (c_call rfl Tryz.func65 rfl rfl (args1 (.t .z))) .n (fun w1 S1 hs tr => c_65 (tr.ctx he6_4)) ?_
 rintro _ _ ⟨rfl, rfl⟩
 refine FJ.cat .n ?_
 refine FJ.sk .z ?_
 refine FJ.dq rfl rfl rfl (by decide) rfl .z (q_build (ps := [(0, .int .i64 0), (1, .int .i64 a), (2, .int .i64 x5.kind), (3, .int .i64 1), (4, .int .i64 (x5.ents.length : Int))]) (cs := [.int .i64 0, .int .i64 a, .int .i64 x5.kind, .int .i64 1, .int .i64 (x5.ents.length : Int)]) rfl bl_38 (by intro act hact; simp only [List.map_toArray, List.map_cons, List.map_nil, (show Val _ _ _ from .c) act hact, (show Val _ _ _ from (.t (.s4 (.s .z)))) act hact, (show Val _ _ _ from (.t (.s (.s (.s .z))))) act hact, (show Val _ _ _ from .c) act hact, (show Val _ _ _ from (.t .z)) act hact]) rfl) ?_
 refine FJ.es (goes_sch rfl rfl) rfl (es_store (off := 0) (cs := [.int .i64 0, .int .i64 a, .int .i64 x5.kind, .int .i64 1, .int .i64 (x5.ents.length : Int)]) rfl sz_38 (.t (.s16 (.s (.s .z)))) (.t .z) rfl (ones rfl) (.s .z) (Nat.le_of_ble_eq_true rfl) (.c .z (.c (.s .z) (.c (.s (.s .z)) (.c (.s (.s (.s .z))) (.c (.s (.s (.s (.s .z)))) .n)))))) ?_
 refine FJ.sl rfl ?_
 refine FJ.schN ?_
 refine FJ.drawN (by kernel_rfl) ?_
 refine FJ.then_ (FJ.ret (FJ.thenR ?_))
 refine FJ.doneS (resC (cs := [.int .i64 0, .int .i64 a, .int .i64 x5.kind, .int .i64 1, .int .i64 (x5.ents.length : Int)]) rfl (.s16 (.s (.s .z))) ag_38 sz_38 (WS.rows0 (cs := [.int .i64 0, .int .i64 a, .int .i64 x5.kind, .int .i64 1, .int .i64 (x5.ents.length : Int)]) .z (fun _ _ h => h))) .n ?_
 first | (rw [statA_d (by omega), kx5, nx5]; exact ⟨rfl, rfl⟩) | (rw [statA_f (by omega), kx5, lx5, zx5]; exact ⟨rfl, rfl⟩)
 refine FJ.skip (FJ.then_ (FJ.seq (FJ.region (FJ.ql rfl (q_move rfl (.t (.s4 (.s4 (.s4 (.s .z)))))) ?_))))
 refine FJ.ql rfl (q_fieldAddr rfl (.t (.s4 .z)) (fun _ => fa_55_0 _ _)) (FJ.ql rfl (q_load rfl ag_2 (.t .z) (WS.row .z rfl)) (FJ.ql rfl (q_fieldAddr rfl (.t (.s4 (.s (.s .z)))) (fun _ => fa_55_1 _ _)) (FJ.ql rfl (q_load rfl ag_2 (.t .z) (WS.row .z rfl)) (FJ.ql rfl (q_fieldAddr rfl (.t (.s4 (.s4 .z))) (fun _ => fa_55_2 _ _)) ?_))))
 refine FJ.ql rfl (q_load rfl ag_2 (.t .z) (WS.row .z rfl)) ?_
 refine FJ.ql rfl (q_build (ps := [(0, .int .i64 0), (1, .int .i64 a), (2, .int .i64 x5.kind), (3, .int .i64 x5.links), (4, .int .i64 x5.size)]) (cs := [.int .i64 0, .int .i64 a, .int .i64 x5.kind, .int .i64 x5.links, .int .i64 x5.size]) rfl bl_38 (by intro act hact; simp only [List.map_toArray, List.map_cons, List.map_nil, (show Val _ _ _ from .c) act hact, (show Val _ _ _ from (.t (.s4 (.s (.s .z))))) act hact, (show Val _ _ _ from (.t (.s4 .z))) act hact, (show Val _ _ _ from (.t (.s (.s .z)))) act hact, (show Val _ _ _ from (.t .z)) act hact]) rfl) ?_
 refine FJ.es (goes_list rfl) rfl (es_store (off := 0) (cs := [.int .i64 0, .int .i64 a, .int .i64 x5.kind, .int .i64 x5.links, .int .i64 x5.size]) rfl sz_38 (.t (.s16 (.s (.s (.s .z))))) (.t .z) rfl (ones rfl) (.s .z) (Nat.le_of_ble_eq_true rfl) (.c .z (.c (.s .z) (.c (.s (.s .z)) (.c (.s (.s (.s .z))) (.c (.s (.s (.s (.s .z)))) .n)))))) ?_
 refine FJ.nil (FJ.then_ (FJ.ret ?_))
 refine FJ.doneS (resC (cs := [.int .i64 0, .int .i64 a, .int .i64 x5.kind, .int .i64 x5.links, .int .i64 x5.size]) rfl (.s16 (.s (.s (.s .z)))) ag_38 sz_38 (WS.rows0 (cs := [.int .i64 0, .int .i64 a, .int .i64 x5.kind, .int .i64 x5.links, .int .i64 x5.size]) .z (fun _ _ h => h))) .n ?_
 first | (rw [statA_d (by omega), kx5, nx5]; exact ⟨rfl, rfl⟩) | (rw [statA_f (by omega), kx5, lx5, zx5]; exact ⟨rfl, rfl⟩)

end Go.Proofs.YticaddophhggoaaGreatDoor

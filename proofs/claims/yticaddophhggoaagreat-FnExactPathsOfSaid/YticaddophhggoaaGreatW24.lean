/- What is proved: contracts of functions, one a function. No condition. -/
import Derived.Test.YticaddophhggoaaGreatW23
import Derived.Test.YticaddophhggoaaGreatTypesA
namespace Go.Proofs.YticaddophhggoaaGreat
open Go Go.RowKit
set_option linter.unusedVariables false
set_option linter.unusedSimpArgs false
set_option maxHeartbeats 1000000 in
set_option maxRecDepth 20000 in
theorem c_125 {w0 : World} {S0 : Bs} {b : (List UInt8)} {v0 : Value} (h0 : kSl_5.ro w0 (FF w0 S0) b [v0])  :
    Calls Tryz.prog 125 #[v0] w0 (TriPost w0 S0 (fun r l => r = .int .i64 b.length ∧ l = [])) := by
 obtain ⟨A0, c0, rfl, hl0, hm0, hb0, he0⟩ := ro_form h0
 refine FJ.enter (N := 5) Tryz.func125 rfl rfl (by simp) [(0, .slice A0 b.length c0)] (by simp) (l0 := []) trivial ?_
 refine FJ.seq (FJ.region (FJ.ql rfl (q_assign rfl .c) (FJ.nil (FJ.then_ ?_))))
 refine FJ.seq (FJ.region (FJ.ql rfl (q_move rfl (.t (.s .z))) (FJ.ql rfl (q_len rfl u_26 (.t .z)) (FJ.er (.s (.s .z)) ?_))))
 refine FJ.ql rfl (q_assign rfl (.t .z)) (FJ.nil (FJ.then_ (FJ.ret ?_)))
 refine FJ.doneS (res1 rfl .z) .n ?_
 exact ⟨rfl, rfl⟩

set_option maxHeartbeats 1000000 in
set_option maxRecDepth 20000 in
theorem c_90 {w0 : World} {S0 : Bs} (a : Int) (b : Int)  :
    Calls Tryz.prog 90 #[.int .i64 a, .int .i64 b] w0 (TriPost w0 S0 (fun r l => r = .int .i64 (minI a b) ∧ l = [])) := by
 refine FJ.enter (N := 10) Tryz.func90 rfl rfl (by simp) [(0, .int .i64 a), (1, .int .i64 b)] (by simp) (l0 := []) trivial ?_
 refine FJ.seq (FJ.region (FJ.ql rfl (q_assign rfl .c) (FJ.nil (FJ.then_ ?_))))
 refine FJ.seq (FJ.seq (FJ.region (FJ.ql rfl (q_move rfl (.t (.s .z))) (FJ.ql rfl (q_move rfl (.t (.s (.s (.s .z))))) ?_))))
 refine FJ.ql rfl (q_lss rfl (.t (.s .z)) (.t .z)) (FJ.nil (FJ.then_ ?_))
 refine FJ.condP (.t .z) (fun b1 => ?_) (fun b1 => ?_)
 refine FJ.seq (FJ.region (FJ.ql rfl (q_move rfl (.t (.s4 .z))) (FJ.er (.s4 .z) (FJ.ql rfl (q_assign rfl (.t .z)) ?_))))
 refine FJ.nil (FJ.then_ (FJ.ret (FJ.thenR ?_)))
 refine FJ.doneS (res1 rfl .z) .n ?_
 exact ⟨by first | (rw [minI_a (by assumption)]; done) | (rw [minI_b (by assumption)]; done), rfl⟩
 refine FJ.skip (FJ.then_ (FJ.seq (FJ.region (FJ.ql rfl (q_move rfl (.t (.s4 (.s .z)))) ?_))))
 refine FJ.er (.s4 .z) (FJ.ql rfl (q_assign rfl (.t .z)) (FJ.nil (FJ.then_ (FJ.ret ?_))))
 refine FJ.doneS (res1 rfl .z) .n ?_
 exact ⟨by first | (rw [minI_a (by assumption)]; done) | (rw [minI_b (by assumption)]; done), rfl⟩

set_option maxHeartbeats 1000000 in
set_option maxRecDepth 20000 in
theorem c_184 {w0 : World} {S0 : Bs} {xs : (List DInode)} {v0 : Value} (h0 : kSl_73.ro w0 (FF w0 S0) xs [v0]) (hI : inodesFault xs = 0) :
    Calls Tryz.prog 184 #[v0] w0 (TriPost w0 S0 (fun r l => r = .agg (List.map (Value.int .i64) (wantTo xs xs.length)).toArray ∧ l = [])) := by
 obtain ⟨A0, c0, rfl, hl0, hm0, hb0, he0⟩ := ro_form h0
 refine FJ.enter (N := 33) Tryz.func184 rfl rfl (by simp) [(0, .slice A0 xs.length c0)] (by simp) (l0 := []) trivial ?_
 refine FJ.seq (FJ.region ?_)
 refine FJ.e (goes_list rfl) rfl (by decide) rfl (e_alloc (cs := List.map (Value.int .i64) (List.replicate 20 (0 : Int))) (n := 20) rfl z_187 rfl rfl) ?_
 rintro _ _ ⟨g2, rfl, rfl⟩
 refine FJ.nil (FJ.then_ (FJ.seq (FJ.region ?_)))
 refine FJ.e (goes_list rfl) rfl (by decide) rfl (e_alloc (cs := List.map (Value.int .i64) (List.replicate 20 (0 : Int))) (n := 20) rfl z_187 rfl rfl) ?_
 rintro _ _ ⟨g3, rfl, rfl⟩
 refine FJ.nil (FJ.then_ (FJ.seq (FJ.seq (FJ.region ?_))))
 refine FJ.ql rfl (q_move rfl (.t (.s (.s .z)))) (FJ.ql rfl (q_len rfl u_29 (.t .z)) (FJ.ql rfl (q_move rfl .c) (FJ.nil (FJ.then_ ?_))))
 refine FJ.block ?_
 refine FJ.loopi (γ := Nat) (fun k => [(10, .int .i64 (k : Int)), (9, .int .i64 (xs.length : Int)), (8, .slice A0 xs.length c0), (3, .pointer (some ⟨g3, 0, none⟩)), (2, .pointer (some ⟨g2, 0, none⟩))]) (fun k => [rowA g3 187 20 1 (List.map (Value.int .i64) (wantTo xs k)), rowA g2 187 20 1 (List.map (Value.int .i64) (List.replicate 20 (0 : Int)))]) (fun k => k ≤ xs.length) (fun k => xs.length - k) 0 (Nat.zero_le _) (.c .z (.c (.s .z) (.c (.s (.s .z)) (.c (.s (.s (.s .z))) (.c (.s4 .z) .n))))) (fun _ h => h.sel (.c .z (.c .z .n))) ?_
 rintro k hk
 have hwt : (wantTo xs k).length = 20 := wantTo_len k
 refine FJ.seq (FJ.region (FJ.ql rfl (q_lss rfl (.t .z) (.t (.s .z))) (FJ.nil (FJ.then_ ?_))))
 refine FJ.seq ?_
 refine FJ.condP (.t .z) (fun b4 => ?_) (fun b4 => ?_)
 refine FJ.skip (FJ.then_ (FJ.seq (FJ.block (FJ.seq ?_))))
 refine FJ.region ?_
 obtain ⟨ad5, hAad5, hrad5⟩ := he0 (by omega)
 subst hAad5
 obtain ⟨x6, hx6⟩ := get_ex (xs := xs) (j := k) (by omega)
 obtain ⟨ece7, hre7, hFe7, hce7⟩ := hrad5.elem hx6
 obtain ⟨ue7_3, ue7_4, rfl, he7_3, he7_4⟩ := kT_73_ro hre7
 obtain ⟨Ae7_3, ce7_3, rfl, hle7_3, hme7_3, hbe7_3, hee7_3⟩ := ro_form he7_3
 obtain ⟨Ae7_4, ce7_4, rfl, hle7_4, hme7_4, hbe7_4, hee7_4⟩ := ro_form he7_4
 have kx6 := kind_at (i := ((k : Nat) : Int)) hx6 (by omega)
 have nx6 := ents_at (a := ((k : Nat) : Int)) hx6 (by omega)
 have iox6 := inodes_all hI _ (List.mem_of_getElem? hx6)
 refine FJ.ql rfl (q_indexAddr (j := k) rfl u_29 sz_73 (.t (.s (.s (.s .z)))) (.t (.s .z)) rfl (by omega)) ?_
 refine FJ.ql rfl (q_loadA (cs := [.int .i64 x6.kind, .int .i64 x6.links, .int .i64 x6.size, .slice Ae7_3 x6.blocks.length ce7_3, .slice Ae7_4 x6.ents.length ce7_4]) rfl ag_73 sz_73 (.t .z) (WS.els hFe7 hce7)) ?_
 refine FJ.e (goes_list rfl) rfl (by decide) rfl (e_alloc rfl z_73 rfl rfl) ?_
 rintro _ _ ⟨g10, rfl, rfl⟩
 refine FJ.es (goes_list rfl) rfl (es_store (off := 0) (cs := [.int .i64 x6.kind, .int .i64 x6.links, .int .i64 x6.size, .slice Ae7_3 x6.blocks.length ce7_3, .slice Ae7_4 x6.ents.length ce7_4]) rfl sz_73 (.t .z) (.t (.s .z)) rfl (ones rfl) .z (Nat.le_of_ble_eq_true rfl) (.c .z (.c (.s .z) (.c (.s (.s .z)) (.c (.s (.s (.s .z))) (.c (.s (.s (.s (.s .z)))) .n)))))) ?_
 refine FJ.nil (FJ.then_ (FJ.seq (FJ.region (FJ.ql rfl (q_fieldAddr rfl (.t .z) (fun _ => fa_73_3 _ _)) ?_))))
 refine FJ.ql rfl (q_load rfl ag_27 (.t .z) (WS.row .z rfl)) (FJ.ql rfl (q_len rfl u_27 (.t .z)) (FJ.ql rfl (q_move rfl .c) (FJ.nil (FJ.then_ ?_))))
 refine FJ.block ?_
 have he11 : wantTo xs k = wantI x6 (wantTo xs k) 0 := rfl
 refine FJ.chEq (.s .z) (congrArg (fun z_ => (rowA g3 187 20 1 (List.map (Value.int .i64) (z_)) : Asn)) he11) ?_
 refine FJ.loopi (γ := Nat) (fun q => [(17, .int .i64 (q : Int)), (16, .int .i64 (x6.blocks.length : Int)), (15, .slice Ae7_3 x6.blocks.length ce7_3), (5, .pointer (some ⟨g10, 0, none⟩)), (10, .int .i64 (k : Int)), (9, .int .i64 (xs.length : Int)), (8, .slice (some ad5) xs.length c0), (3, .pointer (some ⟨g3, 0, none⟩)), (2, .pointer (some ⟨g2, 0, none⟩))]) (fun q => [rowA g3 187 20 1 (List.map (Value.int .i64) (wantI x6 (wantTo xs k) q)), rowA g10 73 5 1 [.int .i64 x6.kind, .int .i64 x6.links, .int .i64 x6.size, .slice Ae7_3 x6.blocks.length ce7_3, .slice Ae7_4 x6.ents.length ce7_4], rowA g2 187 20 1 (List.map (Value.int .i64) (List.replicate 20 (0 : Int)))]) (fun q => q ≤ x6.blocks.length) (fun q => x6.blocks.length - q) 0 (Nat.zero_le _) (.c .z (.c (.s .z) (.c (.s (.s .z)) (.c (.s4 .z) (.c (.s4 (.s4 .z)) (.c (.s4 (.s4 (.s .z))) (.c (.s4 (.s4 (.s (.s .z)))) (.c (.s4 (.s4 (.s (.s (.s .z))))) (.c (.s4 (.s4 (.s4 .z))) .n))))))))) (fun _ h => h.sel (.c .z (.c .z (.c .z .n)))) ?_
 rintro q hq
 have hwi : (wantI x6 (wantTo xs k) q).length = 20 := (wantI_len q).trans (wantTo_len k)
 refine FJ.seq (FJ.region (FJ.ql rfl (q_lss rfl (.t .z) (.t (.s .z))) (FJ.nil (FJ.then_ ?_))))
 refine FJ.seq ?_
 refine FJ.condP (.t .z) (fun b12 => ?_) (fun b12 => ?_)
 refine FJ.skip (FJ.then_ (FJ.seq (FJ.block (FJ.seq ?_))))
 refine FJ.region (FJ.ql rfl (q_move rfl (.t (.s .z))) ?_)
 obtain ⟨ad13, hAad13, hrad13⟩ := hee7_3 (by omega)
 subst hAad13
 obtain ⟨x14, hx14⟩ := get_ex (xs := x6.blocks) (j := q) (by omega)
 obtain ⟨ece15, hre15, hFe15, hce15⟩ := hrad13.elem hx14
 obtain ⟨rfl, se15⟩ := hre15
 have pbx14 := (blocks_4 iox6).2 _ (List.mem_of_getElem? hx14)
 have p4x14 := (blocks_4 iox6).1
 have psx14 := size_32 iox6
 refine FJ.ql rfl (q_indexAddr (j := q) rfl u_27 sz_2 (.t (.s4 .z)) (.t (.s (.s .z))) rfl (by omega)) ?_
 refine FJ.ql rfl (q_load rfl ag_2 (.t .z) (WS.el0 hFe15 hce15 rfl)) (FJ.ql rfl (q_assign rfl (.t (.s (.s .z)))) (FJ.ql rfl (q_assign rfl (.t (.s .z))) (FJ.nil (FJ.then_ ?_))))
 refine FJ.region (FJ.ql rfl (q_move rfl (.t .z)) (FJ.ql rfl (q_fieldAddr rfl (.t (.s4 (.s4 (.s (.s .z))))) (fun _ => fa_73_2 _ _)) (FJ.ql rfl (q_load rfl ag_2 (.t .z) (WS.row (.s .z) rfl)) (FJ.ql rfl (q_move rfl (.t (.s4 .z))) ?_))))
 refine FJ.ql rfl (q_mul (c := ((q * 8 : Nat) : Int)) rfl (.t .z) .c (wr (by omega) (by omega) (by omega))) ?_
 refine FJ.ql rfl (q_sub (c := x6.size - ((q * 8 : Nat) : Int)) rfl (.t (.s (.s .z))) (.t .z) (wr (by omega) (by omega) (by omega))) ?_
 have hm16 := minI_spec 8 (x6.size - ((q * 8 : Nat) : Int))
 refine FJ.ql rfl (q_min rfl .c (.t .z)) ?_
 refine FJ.ql rfl (q_indexAddrA (j := Int.toNat x14) rfl u_187 sz_2 (.t (.s16 (.s4 .z))) (.t (.s4 (.s (.s .z)))) (by omega) (by omega)) ?_
 refine FJ.es (goes_list rfl) rfl (es_store (off := (Int.toNat x14) * 1) (cs := [.int .i64 (minI 8 (x6.size - ((q * 8 : Nat) : Int)))]) rfl sz_2 (.t .z) (.t (.s .z)) rfl (ones rfl) .z (by have e1 : (wantI x6 (wantTo xs k) q).length = 20 := (by (first | rfl | exact List.length_replicate | exact wantTo_len _ | (rw [wantI_len]; exact wantTo_len _) | (rw [List.length_set, wantI_len]; exact wantTo_len _))); simp only [List.length_map, List.length_cons, List.length_nil]; omega) (put_arr (by have e1 : (wantI x6 (wantTo xs k) q).length = 20 := (by (first | rfl | exact List.length_replicate | exact wantTo_len _ | (rw [wantI_len]; exact wantTo_len _) | (rw [List.length_set, wantI_len]; exact wantTo_len _))); omega))) ?_
 have he17 : List.set (wantI x6 (wantTo xs k) q) (Int.toNat x14) (minI 8 (x6.size - ((q * 8 : Nat) : Int))) = wantI x6 (wantTo xs k) (q + 1) := (wantI_s hx14)
 refine FJ.chEq .z (congrArg (fun z_ => (rowA g3 187 20 1 (List.map (Value.int .i64) (z_)) : Asn)) he17) ?_
 refine FJ.nil (FJ.inBN (FJ.then_ (FJ.region ?_)))
 refine FJ.ql rfl (q_add (c := ((q + 1 : Nat) : Int)) rfl (.t (.s4 (.s4 (.s4 (.s (.s .z)))))) .c (wr (by omega) (by omega) (by omega))) ?_
 refine FJ.er (.s4 (.s4 (.s4 (.s (.s (.s .z)))))) (FJ.ql rfl (q_move rfl (.t .z)) (FJ.nil ?_))
 refine FJ.again (q + 1) (by omega) (by first | omega | (dsimp only; omega)) (.c .z (.c (.s16 .z) (.c (.s16 (.s .z)) (.c (.s16 (.s (.s .z))) (.c (.s16 (.s (.s (.s .z)))) (.c (.s16 (.s4 .z)) (.c (.s16 (.s4 (.s .z))) (.c (.s16 (.s4 (.s (.s .z)))) (.c (.s16 (.s4 (.s (.s (.s .z))))) .n))))))))) (fun _ h => h.sel (.c .z (.c .z (.c .z .n))))
 refine FJ.exit (FJ.thenE (FJ.thenE (FJ.inB (FJ.inBN ?_))))
 refine FJ.then_ (FJ.region ?_)
 refine FJ.ql rfl (q_add (c := ((k + 1 : Nat) : Int)) rfl (.t (.s4 (.s .z))) .c (wr (by omega) (by omega) (by omega))) ?_
 refine FJ.er (.s4 (.s (.s .z))) (FJ.ql rfl (q_move rfl (.t .z)) (FJ.nil ?_))
 have he18 : wantI x6 (wantTo xs k) q = wantTo xs (k + 1) := (wantTo_s hx6 (by omega) (by omega))
 refine FJ.chEq .z (congrArg (fun z_ => (rowA g3 187 20 1 (List.map (Value.int .i64) (z_)) : Asn)) he18) ?_
 refine FJ.again (k + 1) (by omega) (by first | omega | (dsimp only; omega)) (.c .z (.c (.s4 (.s (.s (.s .z)))) (.c (.s4 (.s4 .z)) (.c (.s4 (.s4 (.s .z))) (.c (.s4 (.s4 (.s (.s .z)))) .n))))) (fun _ h => h.sel (.c .z (.c (.s .z) .n)))
 refine FJ.exit (FJ.thenE (FJ.thenE (FJ.inB (FJ.then_ ?_))))
 refine FJ.seq (FJ.region ?_)
 refine FJ.ql rfl (q_loadA (cs := List.map (Value.int .i64) (wantTo xs k)) rfl ag_187 (by rw [List.length_map, show (wantTo xs k).length = 20 by first | rfl | exact List.length_replicate | exact wantTo_len _ | (rw [wantI_len]; exact wantTo_len _) | (rw [List.length_set, wantI_len]; exact wantTo_len _)]; exact sz_187) (.t (.s4 .z)) (WS.rows0 .z (fun i u h => h))) ?_
 refine FJ.es (goes_list rfl) rfl (es_store (off := 0) (cs := List.map (Value.int .i64) (wantTo xs k)) rfl (by rw [List.length_map, show (wantTo xs k).length = 20 by (first | rfl | exact List.length_replicate | exact wantTo_len _ | (rw [wantI_len]; exact wantTo_len _) | (rw [List.length_set, wantI_len]; exact wantTo_len _))]; exact sz_187) (.t (.s4 (.s (.s .z)))) (.t .z) rfl (ones_map _) (.s .z) (by have e1 : (wantTo xs k).length = 20 := (by (first | rfl | exact List.length_replicate | exact wantTo_len _ | (rw [wantI_len]; exact wantTo_len _) | (rw [List.length_set, wantI_len]; exact wantTo_len _))); have e2 : (List.replicate 20 (0 : Int)).length = 20 := (by (first | rfl | exact List.length_replicate | exact wantTo_len _ | (rw [wantI_len]; exact wantTo_len _) | (rw [List.length_set, wantI_len]; exact wantTo_len _))); rw [List.length_map, List.length_map, e1, e2]; decide) (put_whole (by have e1 : (wantTo xs k).length = 20 := (by (first | rfl | exact List.length_replicate | exact wantTo_len _ | (rw [wantI_len]; exact wantTo_len _) | (rw [List.length_set, wantI_len]; exact wantTo_len _))); have e2 : (List.replicate 20 (0 : Int)).length = 20 := (by (first | rfl | exact List.length_replicate | exact wantTo_len _ | (rw [wantI_len]; exact wantTo_len _) | (rw [List.length_set, wantI_len]; exact wantTo_len _))); rw [List.length_map, List.length_map, e1, e2]))) ?_
 refine FJ.nil (FJ.then_ (FJ.ret ?_))
 refine FJ.doneS (resC (cs := List.map (Value.int .i64) (wantTo xs k)) rfl (.s4 (.s (.s .z))) ag_187 (by rw [List.length_map, show (wantTo xs k).length = 20 by first | rfl | exact List.length_replicate | exact wantTo_len _ | (rw [wantI_len]; exact wantTo_len _) | (rw [List.length_set, wantI_len]; exact wantTo_len _)]; exact sz_187) (WS.rows0 (cs := List.map (Value.int .i64) (wantTo xs k)) .z (fun _ _ h => h))) .n ?_
 exact ⟨by rw [show k = xs.length by omega], rfl⟩

set_option maxHeartbeats 1000000 in
set_option maxRecDepth 20000 in
theorem c_140 {w0 : World} {S0 : Bs} {f : DFs} {cs0 : List Value} (h0 : kT_31.ro w0 (FF w0 S0) f cs0) (ht : treeFault f = 0) :
    Calls Tryz.prog 140 #[.agg cs0.toArray] w0 (TriPost w0 S0 (fun r l => r = .int .i64 (dataF f) ∧ l = [])) := by
 obtain ⟨u0_0, u0_1, rfl, h0_0, h0_1⟩ := kT_31_ro h0
 obtain ⟨A0_0, c0_0, rfl, hl0_0, hm0_0, hb0_0, he0_0⟩ := ro_form h0_0
 obtain ⟨A0_1, c0_1, rfl, hl0_1, hm0_1, hb0_1, he0_1⟩ := ro_form h0_1
 have hI := treeI ht
 have hG := treeG ht
 have hL0 := treeL ht
 have h10 := inodes_10 hI
 have hd20 := data_20 ht
 refine FJ.enter (N := 21) Tryz.func140 rfl rfl (by simp) [(0, .agg #[.slice A0_0 f.inodes.length c0_0, .slice A0_1 f.data.length c0_1])] (by simp) (l0 := []) trivial ?_
 refine FJ.seq (FJ.region ?_)
 refine FJ.e (goes_list rfl) rfl (by decide) rfl (e_box (cs := [.slice A0_0 f.inodes.length c0_0, .slice A0_1 f.data.length c0_1]) (n := 2) rfl (.t .z) rfl rfl) ?_
 rintro _ _ ⟨g3, rfl, rfl⟩
 refine FJ.ql rfl (q_assign rfl .c) (FJ.nil (FJ.then_ (FJ.seq (FJ.seq ?_))))
 refine FJ.region (FJ.ql rfl (q_fieldAddr rfl (.t (.s .z)) (fun _ => fa_31_0 _ _)) (FJ.ql rfl (q_load rfl ag_29 (.t .z) (WS.row .z rfl)) ?_))
 refine FJ.call (goes_list rfl) rfl (by decide) rfl (c_call rfl Tryz.func184 rfl rfl (args1 (.t .z))) .n (fun w1 S1 hs tr => c_184 (tr.ctx h0_0) (by assumption)) ?_
 rintro _ _ ⟨rfl, rfl⟩
 refine FJ.cat .n ?_
 refine FJ.ql rfl (q_move rfl .c) (FJ.nil (FJ.then_ (FJ.block ?_)))
 refine FJ.loopi (γ := Nat) (fun k => [(8, .int .i64 (k : Int)), (7, .agg (List.map (Value.int .i64) (wantTo f.inodes f.inodes.length)).toArray), (1, .pointer (some ⟨g3, 0, none⟩))]) (fun k => [rowA g3 31 2 1 [.slice A0_0 f.inodes.length c0_0, .slice A0_1 f.data.length c0_1]]) (fun k => k ≤ 20 ∧ ∀ (j : Nat) (b : List UInt8), j < k → f.data[j]? = some b → (lens f)[j]? = some (b.length : Int)) (fun k => 20 - k) 0 ⟨Nat.zero_le _, all_zero (q := fun j (b : List UInt8) => (lens f)[j]? = some (b.length : Int))⟩ (.c .z (.c (.s .z) (.c (.s4 (.s .z)) .n))) (fun _ h => h.sel (.c .z .n)) ?_
 rintro k ⟨hk, hallk⟩
 have hwl : (wantTo f.inodes f.inodes.length).length = 20 := wantTo_len _
 refine FJ.seq (FJ.region (FJ.ql rfl (q_lss rfl (.t .z) .c) (FJ.nil (FJ.then_ ?_))))
 refine FJ.seq ?_
 refine FJ.condP (.t .z) (fun b4 => ?_) (fun b4 => ?_)
 refine FJ.skip (FJ.then_ (FJ.seq (FJ.block (FJ.seq ?_))))
 refine FJ.region (FJ.ql rfl (q_move rfl (.t (.s .z))) ?_)
 obtain ⟨x5, hx5⟩ := get_ex (xs := wantTo f.inodes f.inodes.length) (j := k) (by omega)
 refine FJ.ql rfl (q_indexArr (j := k) rfl u_187 sz_2 ag_2 (.t (.s (.s (.s .z)))) (.t (.s (.s .z))) rfl hx5 (by first | rfl | exact List.length_replicate | exact wantTo_len _ | (rw [wantI_len]; exact wantTo_len _) | (rw [List.length_set, wantI_len]; exact wantTo_len _))) ?_
 refine FJ.ql rfl (q_assign rfl (.t (.s .z))) (FJ.ql rfl (q_assign rfl (.t (.s .z))) (FJ.nil (FJ.then_ (FJ.seq ?_))))
 refine FJ.region (FJ.ql rfl (q_fieldAddr rfl (.t (.s4 (.s (.s (.s .z))))) (fun _ => fa_31_1 _ _)) (FJ.ql rfl (q_load rfl ag_23 (.t .z) (WS.row .z rfl)) (FJ.ql rfl (q_move rfl (.t (.s (.s (.s .z))))) ?_)))
 obtain ⟨ad6, hAad6, hrad6⟩ := he0_1 (by omega)
 subst hAad6
 obtain ⟨x7, hx7⟩ := get_ex (xs := f.data) (j := k) (by omega)
 obtain ⟨ece8, hre8, hFe8, hce8⟩ := hrad6.elem hx7
 obtain ⟨ue8, rfl⟩ := sl_one hre8
 obtain ⟨Ae8, ce8, rfl, hle8, hme8, hbe8, hee8⟩ := ro_form hre8
 refine FJ.ql rfl (q_indexAddr (j := k) rfl u_23 sz_26 (.t (.s .z)) (.t .z) rfl (by omega)) ?_
 refine FJ.ql rfl (q_load rfl ag_26 (.t .z) (WS.el0 hFe8 hce8 rfl)) ?_
 refine FJ.call (goes_list rfl) rfl (by decide) rfl (c_call rfl Tryz.func125 rfl rfl (args1 (.t .z))) .n (fun w1 S1 hs tr => c_125 (tr.ctx hre8)) ?_
 rintro _ _ ⟨rfl, rfl⟩
 refine FJ.cat .n ?_
 refine FJ.ql rfl (q_move rfl (.t (.s4 (.s (.s .z))))) (FJ.ql rfl (q_neq rfl (.t (.s .z)) (.t .z)) (FJ.nil (FJ.then_ ?_)))
 refine FJ.condN (.t .z) (fun b10 => ?_) (fun b10 => ?_)
 refine FJ.seq (FJ.region (FJ.ql rfl (q_assign rfl .c) (FJ.nil (FJ.then_ ?_))))
 refine FJ.ret (FJ.inBR (FJ.thenR (FJ.thenR (FJ.inBR ?_))))
 refine FJ.thenR ?_
 refine FJ.doneS (res1 rfl .z) .n ?_
 exact ⟨by first | (rw [dataF_1 (data_no hx7 hx5 (by omega))]; done) | (rw [dataF_0 (data_yes (k := k) (by omega) hallk)]; done), rfl⟩
 refine FJ.skip (FJ.inBN (FJ.then_ (FJ.region ?_)))
 refine FJ.ql rfl (q_add (c := ((k + 1 : Nat) : Int)) rfl (.t (.s4 (.s4 (.s4 (.s .z))))) .c (wr (by omega) (by omega) (by omega))) ?_
 refine FJ.er (.s4 (.s4 (.s4 (.s (.s .z))))) (FJ.ql rfl (q_move rfl (.t .z)) (FJ.nil ?_))
 refine FJ.again (k + 1) ⟨by omega, data_s hallk hx7 hx5 (by omega)⟩ (by first | omega | (dsimp only; omega)) (.c .z (.c (.s4 (.s4 (.s4 (.s (.s (.s .z)))))) (.c (.s16 .z) .n))) (fun _ h => h.sel (.c .z .n))
 refine FJ.exit (FJ.thenE (FJ.thenE (FJ.inB (FJ.then_ ?_))))
 refine FJ.seq (FJ.region (FJ.ql rfl (q_assign rfl .c) (FJ.nil (FJ.then_ ?_))))
 refine FJ.ret ?_
 refine FJ.doneS (res1 rfl .z) .n ?_
 exact ⟨by first | (rw [dataF_0 (data_yes (k := k) (by omega) hallk)]; done), rfl⟩

set_option maxHeartbeats 1000000 in
set_option maxRecDepth 20000 in
theorem c_136 {w0 : World} {S0 : Bs} {f : DFs} {ad0 : Addr} (h0 : PtrRo kT_31 w0 (FF w0 S0) ad0 f) (ht : treeFault f = 0) :
    Calls Tryz.prog 136 #[.pointer (some ad0)] w0 (TriPost w0 S0 (fun r l => r = .bool (decide (DataOk f)) ∧ l = [])) := by
 obtain ⟨ec0, hF0, hr0, hc0⟩ := id h0
 obtain ⟨u0_0, u0_1, rfl, h0_0, h0_1⟩ := kT_31_ro hr0
 obtain ⟨A0_0, c0_0, rfl, hl0_0, hm0_0, hb0_0, he0_0⟩ := ro_form h0_0
 obtain ⟨A0_1, c0_1, rfl, hl0_1, hm0_1, hb0_1, he0_1⟩ := ro_form h0_1
 have hI := treeI ht
 have hG := treeG ht
 have hL0 := treeL ht
 have h10 := inodes_10 hI
 have hd20 := data_20 ht
 refine FJ.enter (N := 72) Tryz.func136 rfl rfl (by simp) [(0, .pointer (some ad0))] (by simp) (l0 := []) trivial ?_
 refine FJ.seq (FJ.region (FJ.ql rfl (q_assign rfl .c) (FJ.nil (FJ.then_ ?_))))
 refine FJ.seq (FJ.region ?_)
 refine FJ.e (goes_list rfl) rfl (by decide) rfl (e_makeSlice (n := 20) (x0 := (0 : Int)) rfl u_27 inf_2 rfl (fun _ _ => ⟨rfl, trivial⟩) .c .c (by omega) (by omega)) ?_
 rintro _ _ rfl
 refine FJ.know (WS.oform .z) ?_
 rintro ⟨Ao4, co4, rfl, hlo4, hmo4, hbo4⟩
 refine FJ.ql rfl (q_assign rfl (.t .z)) (FJ.nil (FJ.then_ (FJ.seq (FJ.seq ?_))))
 refine FJ.region (FJ.ql rfl (q_assign rfl .c) (FJ.nil (FJ.then_ (FJ.block ?_))))
 refine FJ.loopi (γ := Nat × (Option Addr) × Nat) (fun ⟨k, Agk0, cgk0⟩ => [(4, .int .i64 (k : Int)), (3, .slice Agk0 (wantTo f.inodes k).length cgk0), (2, .bool false), (0, .pointer (some ad0))]) (fun ⟨k, Agk0, cgk0⟩ => [ownA kSl_2 (wantTo f.inodes k) [.slice Agk0 (wantTo f.inodes k).length cgk0]]) (fun ⟨k, Agk0, cgk0⟩ => k ≤ f.inodes.length) (fun ⟨k, Agk0, cgk0⟩ => f.inodes.length - k) (0, Ao4, co4) (Nat.zero_le _) (.c .z (.c (.s .z) (.c (.s (.s (.s .z))) (.c (.s4 .z) .n)))) (fun _ h => h.sel (.c .z .n)) ?_
 rintro ⟨k, Agk0, cgk0⟩ hk
 have hwt : (wantTo f.inodes k).length = 20 := wantTo_len k
 refine FJ.seq (FJ.seq (FJ.region (FJ.ql rfl (q_move rfl (.t .z)) (FJ.ql rfl (q_move rfl (.t (.s4 .z))) ?_))))
 refine FJ.ql rfl (q_nilCheck rfl (.t .z)) (FJ.ql rfl (q_fieldAddr rfl (.t .z) (fun _ => fa_31_0 _ _)) (FJ.ql rfl (q_load rfl ag_29 (.t .z) (WS.el hF0 hc0 rfl)) (FJ.ql rfl (q_len rfl u_29 (.t .z)) (FJ.ql rfl (q_lss rfl (.t (.s4 (.s .z))) (.t .z)) ?_))))
 refine FJ.nil (FJ.then_ ?_)
 refine FJ.condP (.t .z) (fun b5 => ?_) (fun b5 => ?_)
 refine FJ.skip (FJ.then_ (FJ.seq (FJ.block (FJ.seq ?_))))
 refine FJ.region (FJ.ql rfl (q_move rfl (.t (.s4 (.s4 (.s (.s .z)))))) (FJ.ql rfl (q_nilCheck rfl (.t .z)) (FJ.ql rfl (q_fieldAddr rfl (.t .z) (fun _ => fa_31_0 _ _)) (FJ.ql rfl (q_load rfl ag_29 (.t .z) (WS.el hF0 hc0 rfl)) ?_))))
 refine FJ.ql rfl (q_move rfl (.t (.s4 (.s4 (.s (.s (.s .z))))))) ?_
 obtain ⟨ad6, hAad6, hrad6⟩ := he0_0 (by omega)
 subst hAad6
 obtain ⟨x7, hx7⟩ := get_ex (xs := f.inodes) (j := k) (by first | omega | (simp only [List.length_replicate]; omega))
 obtain ⟨ece8, hre8, hFe8, hce8⟩ := hrad6.elem hx7
 obtain ⟨ue8_3, ue8_4, rfl, he8_3, he8_4⟩ := kT_73_ro hre8
 obtain ⟨Ae8_3, ce8_3, rfl, hle8_3, hme8_3, hbe8_3, hee8_3⟩ := ro_form he8_3
 obtain ⟨Ae8_4, ce8_4, rfl, hle8_4, hme8_4, hbe8_4, hee8_4⟩ := ro_form he8_4
 have kx7 := kind_at (i := ((k : Nat) : Int)) hx7 (by omega)
 have nx7 := ents_at (a := ((k : Nat) : Int)) hx7 (by omega)
 have iox7 := inodes_all hI _ (List.mem_of_getElem? hx7)
 refine FJ.ql rfl (q_indexAddr (j := k) rfl u_29 sz_73 (.t (.s .z)) (.t .z) rfl (by first | omega | (simp only [List.length_replicate]; omega))) ?_
 refine FJ.ql rfl (q_assign rfl (.t .z)) (FJ.nil (FJ.then_ (FJ.seq (FJ.region ?_))))
 refine FJ.ql rfl (q_assign rfl .c) (FJ.nil (FJ.then_ (FJ.block ?_)))
 have he11 : wantTo f.inodes k = wantI x7 (wantTo f.inodes k) 0 := rfl
 refine FJ.eq (.s16 .z) (congrArg (fun z_ => (.slice Agk0 (z_).length cgk0 : Value)) he11) ?_
 refine FJ.chEq .z (congrArg (fun z_ => (ownA kSl_2 (z_) [.slice Agk0 (z_).length cgk0] : Asn)) he11) ?_
 refine FJ.loopi (γ := Nat × (Option Addr) × Nat) (fun ⟨q, Agq0, cgq0⟩ => [(3, .slice Agq0 (wantI x7 (wantTo f.inodes k) q).length cgq0), (6, .int .i64 (q : Int)), (5, .pointer (some (Addr.add ad6 (k * 5)))), (4, .int .i64 (k : Int)), (2, .bool false), (0, .pointer (some ad0))]) (fun ⟨q, Agq0, cgq0⟩ => [ownA kSl_2 (wantI x7 (wantTo f.inodes k) q) [.slice Agq0 (wantI x7 (wantTo f.inodes k) q).length cgq0]]) (fun ⟨q, Agq0, cgq0⟩ => q ≤ x7.blocks.length) (fun ⟨q, Agq0, cgq0⟩ => x7.blocks.length - q) (0, Agk0, cgk0) (Nat.zero_le _) (.c .z (.c (.s .z) (.c (.s (.s .z)) (.c (.s16 .z) (.c (.s16 (.s .z)) (.c (.s16 (.s (.s .z))) .n)))))) (fun _ h => h.sel (.c .z .n)) ?_
 rintro ⟨q, Agq0, cgq0⟩ hq
 have hwi : (wantI x7 (wantTo f.inodes k) q).length = 20 := (wantI_len q).trans (wantTo_len k)
 refine FJ.seq (FJ.seq (FJ.region (FJ.ql rfl (q_move rfl (.t (.s .z))) (FJ.ql rfl (q_move rfl (.t (.s (.s (.s .z))))) ?_))))
 refine FJ.ql rfl (q_nilCheck rfl (.t .z)) (FJ.ql rfl (q_fieldAddr rfl (.t .z) (fun _ => fa_73_3 _ _)) (FJ.ql rfl (q_load rfl ag_27 (.t .z) (WS.el hFe8 hce8 rfl)) (FJ.ql rfl (q_len rfl u_27 (.t .z)) (FJ.ql rfl (q_lss rfl (.t (.s4 (.s .z))) (.t .z)) ?_))))
 refine FJ.nil (FJ.then_ ?_)
 refine FJ.condP (.t .z) (fun b12 => ?_) (fun b12 => ?_)
 refine FJ.skip (FJ.then_ (FJ.seq (FJ.block ?_)))
 refine FJ.draw [] 17 (by kernel_rfl) ?_
 refine FJ.sch [(0, true), (1, true), (2, true), (3, true), (4, true), (5, true), (6, true), (7, true), (8, true), (9, true), (10, true), (11, true), (12, true), (13, true), (14, true), (15, false), (16, true), (17, false)] 0 #[true, true, true, true, true, true, true, true, true, true, true, true, true, true, true, true, true, true] (by rfl) (by kernel_rfl) ?_
 refine FJ.dq rfl rfl rfl (by decide) rfl (.s .z) (q_move rfl (.t (.s4 (.s (.s (.s .z)))))) (FJ.dq rfl rfl rfl (by decide) rfl (.s .z) (q_move rfl (.t (.s4 (.s4 (.s (.s .z)))))) (FJ.dq rfl rfl rfl (by decide) rfl (.s .z) (q_nilCheck rfl (.t .z)) (FJ.dq rfl rfl rfl (by decide) rfl (.s .z) (q_fieldAddr rfl (.t .z) (fun _ => fa_73_3 _ _)) (FJ.dq rfl rfl rfl (by decide) rfl (.s .z) (q_load rfl ag_27 (.t .z) (WS.el hFe8 hce8 rfl)) ?_))))
 refine FJ.dq rfl rfl rfl (by decide) rfl (.s .z) (q_move rfl (.t (.s4 (.s4 (.s4 (.s .z)))))) ?_
 obtain ⟨ad13, hAad13, hrad13⟩ := hee8_3 (by omega)
 subst hAad13
 obtain ⟨x14, hx14⟩ := get_ex (xs := x7.blocks) (j := q) (by first | omega | (simp only [List.length_replicate]; omega))
 obtain ⟨ece15, hre15, hFe15, hce15⟩ := hrad13.elem hx14
 obtain ⟨rfl, se15⟩ := hre15
 have pbx14 := (blocks_4 iox7).2 _ (List.mem_of_getElem? hx14)
 have p4x14 := (blocks_4 iox7).1
 have psx14 := size_32 iox7
 refine FJ.dq rfl rfl rfl (by decide) rfl (.s .z) (q_indexAddr (j := q) rfl u_27 sz_2 (.t (.s .z)) (.t .z) rfl (by first | omega | (simp only [List.length_replicate]; omega))) ?_
 refine FJ.dq rfl rfl rfl (by decide) rfl (.s .z) (q_load rfl ag_2 (.t .z) (WS.el0 hFe15 hce15 rfl)) (FJ.dq rfl rfl rfl (by decide) rfl (.s .z) (q_move rfl (.t (.s16 (.s .z)))) (FJ.dq rfl rfl rfl (by decide) rfl (.s .z) (q_nilCheck rfl (.t .z)) (FJ.dq rfl rfl rfl (by decide) rfl (.s .z) (q_fieldAddr rfl (.t .z) (fun _ => fa_73_2 _ _)) (FJ.dq rfl rfl rfl (by decide) rfl (.s .z) (q_load rfl ag_2 (.t .z) (WS.el hFe8 hce8 rfl)) ?_))))
 refine FJ.dq rfl rfl rfl (by decide) rfl (.s .z) (q_move rfl (.t (.s16 (.s4 .z)))) ?_
 refine FJ.dq rfl rfl rfl (by decide) rfl (.s .z) (q_mul (c := ((q * 8 : Nat) : Int)) rfl (.t .z) .c (wr (by omega) (by omega) (by omega))) ?_
 refine FJ.dq rfl rfl rfl (by decide) rfl (.s .z) (q_sub (c := x7.size - ((q * 8 : Nat) : Int)) rfl (.t (.s (.s .z))) (.t .z) (wr (by omega) (by omega) (by omega))) ?_
 refine FJ.call (goes_sch rfl rfl) rfl (by decide) rfl (c_call rfl Tryz.func90 rfl rfl (args2 .c (.t .z))) .n (fun w1 S1 hs tr => c_90 _ _) ?_
 rintro _ _ ⟨rfl, rfl⟩
 refine FJ.cat .n ?_
 have hm16 := minI_spec 8 (x7.size - ((q * 8 : Nat) : Int))
 refine FJ.sk (.s .z) ?_
 refine FJ.know (WS.oad .z (by first | omega | (simp only [List.length_replicate]; omega))) ?_
 rintro ⟨ad17, rfl⟩
 refine FJ.dq rfl rfl rfl (by decide) rfl (.s .z) (q_indexAddr (j := Int.toNat x14) rfl u_27 sz_2 (.t (.s4 (.s4 (.s4 (.s (.s (.s .z))))))) (.t (.s4 (.s4 .z))) (by omega) (by first | omega | (simp only [List.length_replicate]; omega))) ?_
 refine FJ.add (c := ownA (kint .i64) (minI 8 (x7.size - ((q * 8 : Nat) : Int))) [.int .i64 (minI 8 (x7.size - ((q * 8 : Nat) : Int)))]) (fun _ _ => ⟨rfl, trivial⟩) ?_
 refine FJ.es (goes_sch rfl rfl) rfl (es_set (j := Int.toNat x14) rfl sz_2 (.t .z) (.t (.s .z)) rfl (.c (.s .z) (.c .z .n)) (by first | omega | (simp only [List.length_replicate]; omega))) ?_
 have he19 : (wantI x7 (wantTo f.inodes k) q).length = (List.set (wantI x7 (wantTo f.inodes k) q) (Int.toNat x14) (minI 8 (x7.size - ((q * 8 : Nat) : Int)))).length := (List.length_set ..).symm
 refine FJ.eq (.s16 .z) (congrArg (fun z_ => (.slice (some ad17) z_ cgq0 : Value)) he19) ?_
 refine FJ.eq (.s16 (.s4 (.s4 .z))) (congrArg (fun z_ => (.slice (some ad17) z_ cgq0 : Value)) he19) ?_
 refine FJ.chEq .z (congrArg (fun z_ => (ownA kSl_2 (List.set (wantI x7 (wantTo f.inodes k) q) (Int.toNat x14) (minI 8 (x7.size - ((q * 8 : Nat) : Int)))) [.slice (some ad17) z_ cgq0] : Asn)) he19) ?_
 have he20 : List.set (wantI x7 (wantTo f.inodes k) q) (Int.toNat x14) (minI 8 (x7.size - ((q * 8 : Nat) : Int))) = wantI x7 (wantTo f.inodes k) (q + 1) := (wantI_s hx14)
 refine FJ.eq .z (congrArg (fun z_ => (.slice (some ad17) (z_).length cgq0 : Value)) he20) ?_
 refine FJ.eq (.s .z) (congrArg (fun z_ => (.slice (some ad17) (z_).length cgq0 : Value)) he20) ?_
 refine FJ.chEq .z (congrArg (fun z_ => (ownA kSl_2 (z_) [.slice (some ad17) (z_).length cgq0] : Asn)) he20) ?_
 refine FJ.sl rfl ?_
 refine FJ.schN ?_
 refine FJ.drawN (by kernel_rfl) ?_
 refine FJ.inBN (FJ.then_ (FJ.region (FJ.ql rfl (q_move rfl (.t (.s16 (.s4 (.s4 (.s .z)))))) ?_)))
 refine FJ.ql rfl (q_add (c := ((q + 1 : Nat) : Int)) rfl (.t .z) .c (wr (by omega) (by omega) (by omega))) ?_
 refine FJ.er (.s16 (.s4 (.s4 (.s (.s (.s .z)))))) (FJ.ql rfl (q_assign rfl (.t .z)) (FJ.nil ?_))
 refine FJ.again ((q + 1), (some ad17), cgq0) (by omega) (by first | omega | (dsimp only; omega)) (.c (.s4 .z) (.c .z (.c (.s16 (.s4 (.s4 (.s4 .z)))) (.c (.s16 (.s4 (.s4 (.s4 (.s .z))))) (.c (.s16 (.s4 (.s4 (.s4 (.s (.s .z)))))) (.c (.s16 (.s4 (.s4 (.s4 (.s (.s (.s .z))))))) .n)))))) (fun _ h => h.sel (.c .z .n))
 refine FJ.exit (FJ.thenE (FJ.thenE (FJ.inB (FJ.inBN ?_))))
 refine FJ.then_ (FJ.region (FJ.ql rfl (q_move rfl (.t (.s4 (.s4 (.s (.s .z)))))) ?_))
 refine FJ.ql rfl (q_add (c := ((k + 1 : Nat) : Int)) rfl (.t .z) .c (wr (by omega) (by omega) (by omega))) ?_
 refine FJ.er (.s4 (.s4 (.s4 .z))) (FJ.ql rfl (q_assign rfl (.t .z)) (FJ.nil ?_))
 have he21 : wantI x7 (wantTo f.inodes k) q = wantTo f.inodes (k + 1) := (wantTo_s hx7 (by omega) (by omega))
 refine FJ.eq (.s4 (.s4 (.s (.s .z)))) (congrArg (fun z_ => (.slice Agq0 (z_).length cgq0 : Value)) he21) ?_
 refine FJ.chEq .z (congrArg (fun z_ => (ownA kSl_2 (z_) [.slice Agq0 (z_).length cgq0] : Asn)) he21) ?_
 refine FJ.again ((k + 1), Agq0, cgq0) (by omega) (by first | omega | (dsimp only; omega)) (.c (.s .z) (.c .z (.c (.s4 (.s4 (.s4 (.s .z)))) (.c (.s4 (.s4 (.s4 (.s (.s .z))))) .n)))) (fun _ h => h.sel (.c .z .n))
 refine FJ.exit (FJ.thenE (FJ.thenE (FJ.inB (FJ.then_ ?_))))
 refine FJ.seq (FJ.seq (FJ.region (FJ.ql rfl (q_assign rfl .c) (FJ.nil ?_))))
 refine FJ.then_ (FJ.block ?_)
 have he22 : wantTo f.inodes k = lens f := (by rw [show k = f.inodes.length by omega])
 refine FJ.eq (.s4 (.s4 (.s .z))) (congrArg (fun z_ => (.slice Agk0 (z_).length cgk0 : Value)) he22) ?_
 refine FJ.chEq .z (congrArg (fun z_ => (ownA kSl_2 (z_) [.slice Agk0 (z_).length cgk0] : Asn)) he22) ?_
 refine FJ.loopi (γ := Nat × (Option Addr) × Nat) (fun ⟨z, Agz0, cgz0⟩ => [(3, .slice Agz0 (lens f).length cgz0), (7, .int .i64 (z : Int)), (0, .pointer (some ad0))]) (fun ⟨z, Agz0, cgz0⟩ => [ownA kSl_2 (lens f) [.slice Agz0 (lens f).length cgz0]]) (fun ⟨z, Agz0, cgz0⟩ => z ≤ f.data.length ∧ ∀ (j : Nat) (b : List UInt8), j < z → f.data[j]? = some b → (lens f)[j]? = some (b.length : Int)) (fun ⟨z, Agz0, cgz0⟩ => f.data.length - z) (0, Agk0, cgk0) ⟨Nat.zero_le _, all_zero (q := fun j (b : List UInt8) => (lens f)[j]? = some (b.length : Int))⟩ (.c .z (.c (.s .z) (.c (.s4 (.s4 (.s (.s (.s .z))))) .n))) (fun _ h => h.sel (.c .z .n)) ?_
 rintro ⟨z, Agz0, cgz0⟩ ⟨hz, hallz⟩
 have hwl : (lens f).length = 20 := wantTo_len _
 refine FJ.seq (FJ.seq (FJ.region (FJ.ql rfl (q_move rfl (.t (.s .z))) (FJ.ql rfl (q_move rfl (.t (.s (.s (.s .z))))) ?_))))
 refine FJ.ql rfl (q_nilCheck rfl (.t .z)) (FJ.ql rfl (q_fieldAddr rfl (.t .z) (fun _ => fa_31_1 _ _)) (FJ.ql rfl (q_load rfl ag_23 (.t .z) (WS.el hF0 hc0 rfl)) (FJ.ql rfl (q_len rfl u_23 (.t .z)) (FJ.ql rfl (q_lss rfl (.t (.s4 (.s .z))) (.t .z)) ?_))))
 refine FJ.nil (FJ.then_ ?_)
 refine FJ.condP (.t .z) (fun b23 => ?_) (fun b23 => ?_)
 refine FJ.skip (FJ.then_ (FJ.seq (FJ.block (FJ.seq ?_))))
 refine FJ.draw [ownA kSl_2 (lens f) [.slice Agz0 (lens f).length cgz0]] 13 (by kernel_rfl) ?_
 refine FJ.sch [(0, true), (1, true), (2, true), (3, true), (4, true), (5, true), (6, true), (7, true), (8, true), (9, true), (10, true), (11, true), (12, true)] 0 #[true, true, true, true, true, true, true, true, true, true, true, true, true] (by rfl) (by kernel_rfl) ?_
 refine FJ.dq rfl rfl rfl (by decide) rfl .z (q_move rfl (.t (.s4 (.s4 (.s .z))))) (FJ.dq rfl rfl rfl (by decide) rfl .z (q_nilCheck rfl (.t .z)) (FJ.dq rfl rfl rfl (by decide) rfl .z (q_fieldAddr rfl (.t .z) (fun _ => fa_31_1 _ _)) (FJ.dq rfl rfl rfl (by decide) rfl .z (q_load rfl ag_23 (.t .z) (WS.el hF0 hc0 rfl)) (FJ.dq rfl rfl rfl (by decide) rfl .z (q_move rfl (.t (.s4 (.s4 (.s4 .z))))) ?_))))
 obtain ⟨ad24, hAad24, hrad24⟩ := he0_1 (by omega)
 subst hAad24
 obtain ⟨x25, hx25⟩ := get_ex (xs := f.data) (j := z) (by first | omega | (simp only [List.length_replicate]; omega))
 obtain ⟨ece26, hre26, hFe26, hce26⟩ := hrad24.elem hx25
 obtain ⟨ue26, rfl⟩ := sl_one hre26
 obtain ⟨Ae26, ce26, rfl, hle26, hme26, hbe26, hee26⟩ := ro_form hre26
 refine FJ.dq rfl rfl rfl (by decide) rfl .z (q_indexAddr (j := z) rfl u_23 sz_26 (.t (.s .z)) (.t .z) rfl (by first | omega | (simp only [List.length_replicate]; omega))) ?_
 refine FJ.dq rfl rfl rfl (by decide) rfl .z (q_load rfl ag_26 (.t .z) (WS.el0 hFe26 hce26 rfl)) (FJ.dq rfl rfl rfl (by decide) rfl .z (q_len rfl u_26 (.t .z)) (FJ.dq rfl rfl rfl (by decide) rfl .z (q_move rfl (.t (.s4 (.s4 (.s4 (.s (.s (.s .z)))))))) (FJ.dq rfl rfl rfl (by decide) rfl .z (q_move rfl (.t (.s16 (.s .z)))) ?_)))
 refine FJ.know (WS.oad .z (by first | omega | (simp only [List.length_replicate]; omega))) ?_
 rintro ⟨ad28, rfl⟩
 refine FJ.dq rfl rfl rfl (by decide) rfl .z (q_indexAddr (j := z) rfl u_27 sz_2 (.t (.s .z)) (.t .z) rfl (by first | omega | (simp only [List.length_replicate]; omega))) ?_
 obtain ⟨x29, hx29⟩ := get_ex (xs := lens f) (j := z) (by first | omega | (simp only [List.length_replicate]; omega))
 refine FJ.dq rfl rfl rfl (by decide) rfl .z (q_load rfl ag_2 (.t .z) (WS.oel .z hx29)) (FJ.dq rfl rfl rfl (by decide) rfl .z (q_neq rfl (.t (.s4 .z)) (.t .z)) (FJ.schN ?_))
 refine FJ.drawN (by kernel_rfl) ?_
 refine FJ.then_ ?_
 refine FJ.condN (.t .z) (fun b30 => ?_) (fun b30 => ?_)
 refine FJ.seq (FJ.region (FJ.ql rfl (q_assign rfl .c) (FJ.nil (FJ.then_ ?_))))
 refine FJ.ret (FJ.inBR (FJ.thenR (FJ.thenR (FJ.inBR ?_))))
 refine FJ.thenR ?_
 refine FJ.doneS (res1 rfl .z) .n ?_
 exact ⟨by first | (rw [decide_eq_true (data_yes (k := z) (by omega) hallz)]; done) | (rw [decide_eq_false (data_no hx25 hx29 (by omega))]; done), rfl⟩
 refine FJ.skip (FJ.inBN (FJ.then_ (FJ.region (FJ.ql rfl (q_move rfl (.t (.s16 (.s4 (.s .z))))) ?_))))
 refine FJ.ql rfl (q_add (c := ((z + 1 : Nat) : Int)) rfl (.t .z) .c (wr (by omega) (by omega) (by omega))) ?_
 refine FJ.er (.s16 (.s4 (.s (.s (.s .z))))) (FJ.ql rfl (q_assign rfl (.t .z)) (FJ.nil ?_))
 refine FJ.again ((z + 1), (some ad28), cgz0) ⟨by omega, data_s hallz hx25 hx29 (by omega)⟩ (by first | omega | (dsimp only; omega)) (.c (.s16 (.s4 (.s (.s (.s .z))))) (.c .z (.c (.s16 (.s4 (.s4 .z))) .n))) (fun _ h => h.sel (.c .z .n))
 refine FJ.exit (FJ.thenE (FJ.thenE (FJ.inB (FJ.then_ ?_))))
 refine FJ.seq (FJ.region (FJ.ql rfl (q_assign rfl .c) (FJ.nil (FJ.then_ ?_))))
 refine FJ.ret ?_
 refine FJ.doneS (res1 rfl .z) .n ?_
 exact ⟨by first | (rw [decide_eq_true (data_yes (k := z) (by omega) hallz)]; done), rfl⟩

set_option maxHeartbeats 1000000 in
set_option maxRecDepth 20000 in
theorem c_79 {w0 : World} {S0 : Bs} {f : DFs} {cs0 : List Value} (h0 : kT_31.ro w0 (FF w0 S0) f cs0)  :
    Calls Tryz.prog 79 #[.agg cs0.toArray] w0 (TriPost w0 S0 (fun r l => r = .int .i64 (fsFault f) ∧ l = [])) := by
 obtain ⟨u0_0, u0_1, rfl, h0_0, h0_1⟩ := kT_31_ro h0
 obtain ⟨A0_0, c0_0, rfl, hl0_0, hm0_0, hb0_0, he0_0⟩ := ro_form h0_0
 obtain ⟨A0_1, c0_1, rfl, hl0_1, hm0_1, hb0_1, he0_1⟩ := ro_form h0_1
 refine FJ.enter (N := 17) Tryz.func79 rfl rfl (by simp) [(0, .agg #[.slice A0_0 f.inodes.length c0_0, .slice A0_1 f.data.length c0_1])] (by simp) (l0 := []) trivial ?_
 refine FJ.seq (FJ.region ?_)
 refine FJ.e (goes_list rfl) rfl (by decide) rfl (e_box (cs := [.slice A0_0 f.inodes.length c0_0, .slice A0_1 f.data.length c0_1]) (n := 2) rfl (.t .z) rfl rfl) ?_
 rintro _ _ ⟨g3, rfl, rfl⟩
 refine FJ.ql rfl (q_assign rfl .c) (FJ.nil (FJ.then_ (FJ.seq (FJ.seq ?_))))
 refine FJ.region ?_
 refine FJ.ql rfl (q_loadA (cs := [.slice A0_0 f.inodes.length c0_0, .slice A0_1 f.data.length c0_1]) rfl ag_31 sz_31 (.t (.s .z)) (WS.rows0 .z (fun i u h => by exact h))) ?_
 refine FJ.call (goes_list rfl) rfl (by decide) rfl (c_call rfl Tryz.func138 rfl rfl (args1 (.t .z))) .n (fun w1 S1 hs tr => c_138 (kT_31_mk f (tr.ctx h0_0) (tr.ctx h0_1))) ?_
 rintro _ _ ⟨rfl, rfl⟩
 refine FJ.cat .n ?_
 refine FJ.ql rfl (q_assign rfl (.t .z)) (FJ.nil (FJ.then_ (FJ.seq (FJ.region ?_))))
 refine FJ.ql rfl (q_move rfl (.t .z)) (FJ.ql rfl (q_neq rfl (.t .z) .c) (FJ.nil (FJ.then_ ?_)))
 refine FJ.condN (.t .z) (fun b4 => ?_) (fun b4 => ?_)
 refine FJ.seq (FJ.region (FJ.ql rfl (q_move rfl (.t (.s (.s .z)))) (FJ.er (.s4 (.s (.s .z))) (FJ.ql rfl (q_assign rfl (.t .z)) ?_))))
 refine FJ.nil (FJ.then_ (FJ.ret (FJ.thenR ?_)))
 refine FJ.doneS (res1 rfl .z) .n ?_
 exact ⟨by first | (rw [fsFault_t (by assumption)]; done) | (rw [fsFault_l (by assumption) (by assumption)]; done) | (rw [fsFault_d (by assumption) (by assumption)]; done) | (rw [fsFault_1 (by assumption) (.inl (by assumption))]; done) | (rw [fsFault_1 (by assumption) (.inr (by assumption))]; done) | (rw [fsFault_0 (by assumption) (by assumption) (by assumption)]; done), rfl⟩
 refine FJ.skip (FJ.then_ (FJ.seq (FJ.seq (FJ.region ?_))))
 refine FJ.ql rfl (q_loadA (cs := [.slice A0_0 f.inodes.length c0_0, .slice A0_1 f.data.length c0_1]) rfl ag_31 sz_31 (.t (.s4 (.s (.s .z)))) (WS.rows0 .z (fun i u h => by exact h))) ?_
 refine FJ.call (goes_list rfl) rfl (by decide) rfl (c_call rfl Tryz.func139 rfl rfl (args1 (.t .z))) .n (fun w1 S1 hs tr => c_139 (kT_31_mk f (tr.ctx h0_0) (tr.ctx h0_1)) (by assumption)) ?_
 rintro _ _ ⟨rfl, rfl⟩
 refine FJ.cat .n ?_
 refine FJ.ql rfl (q_assign rfl (.t .z)) (FJ.nil (FJ.then_ (FJ.seq (FJ.region ?_))))
 refine FJ.ql rfl (q_move rfl (.t .z)) (FJ.ql rfl (q_neq rfl (.t .z) .c) (FJ.nil (FJ.then_ ?_)))
 refine FJ.condN (.t .z) (fun b5 => ?_) (fun b5 => ?_)
 refine FJ.seq (FJ.region (FJ.ql rfl (q_move rfl (.t (.s (.s .z)))) (FJ.er (.s4 (.s4 (.s (.s (.s .z))))) (FJ.ql rfl (q_assign rfl (.t .z)) ?_))))
 refine FJ.nil (FJ.then_ (FJ.ret (FJ.thenR ?_)))
 refine FJ.doneS (res1 rfl .z) .n ?_
 exact ⟨by first | (rw [fsFault_t (by assumption)]; done) | (rw [fsFault_l (by assumption) (by assumption)]; done) | (rw [fsFault_d (by assumption) (by assumption)]; done) | (rw [fsFault_1 (by assumption) (.inl (by assumption))]; done) | (rw [fsFault_1 (by assumption) (.inr (by assumption))]; done) | (rw [fsFault_0 (by assumption) (by assumption) (by assumption)]; done), rfl⟩
 refine FJ.skip (FJ.then_ (FJ.seq (FJ.region ?_)))
 refine FJ.ql rfl (q_loadA (cs := [.slice A0_0 f.inodes.length c0_0, .slice A0_1 f.data.length c0_1]) rfl ag_31 sz_31 (.t (.s4 (.s4 (.s (.s (.s .z)))))) (WS.rows0 .z (fun i u h => by exact h))) ?_
 refine FJ.call (goes_list rfl) rfl (by decide) rfl (c_call rfl Tryz.func140 rfl rfl (args1 (.t .z))) .n (fun w1 S1 hs tr => c_140 (kT_31_mk f (tr.ctx h0_0) (tr.ctx h0_1)) (by assumption)) ?_
 rintro _ _ ⟨rfl, rfl⟩
 refine FJ.cat .n ?_
 refine FJ.er (.s4 (.s4 (.s4 .z))) (FJ.ql rfl (q_assign rfl (.t .z)) (FJ.nil (FJ.then_ (FJ.ret ?_))))
 refine FJ.doneS (res1 rfl .z) .n ?_
 exact ⟨by first | (rw [fsFault_t (by assumption)]; done) | (rw [fsFault_l (by assumption) (by assumption)]; done) | (rw [fsFault_d (by assumption) (by assumption)]; done) | (rw [fsFault_1 (by assumption) (.inl (by assumption))]; done) | (rw [fsFault_1 (by assumption) (.inr (by assumption))]; done) | (rw [fsFault_0 (by assumption) (by assumption) (by assumption)]; done), rfl⟩

set_option maxHeartbeats 1000000 in
set_option maxRecDepth 20000 in
theorem c_77 {w0 : World} {S0 : Bs} {f : DFs} {ad0 : Addr} (h0 : PtrRo kT_31 w0 (FF w0 S0) ad0 f)  :
    Calls Tryz.prog 77 #[.pointer (some ad0)] w0 (TriPost w0 S0 (fun r l => r = .int .i64 (fsFault f) ∧ l = [])) := by
 obtain ⟨ec0, hF0, hr0, hc0⟩ := id h0
 obtain ⟨u0_0, u0_1, rfl, h0_0, h0_1⟩ := kT_31_ro hr0
 obtain ⟨A0_0, c0_0, rfl, hl0_0, hm0_0, hb0_0, he0_0⟩ := ro_form h0_0
 obtain ⟨A0_1, c0_1, rfl, hl0_1, hm0_1, hb0_1, he0_1⟩ := ro_form h0_1
 refine FJ.enter (N := 17) Tryz.func77 rfl rfl (by simp) [(0, .pointer (some ad0))] (by simp) (l0 := []) trivial ?_
 refine FJ.seq (FJ.region (FJ.ql rfl (q_assign rfl .c) (FJ.nil (FJ.then_ ?_))))
 refine FJ.seq (FJ.seq (FJ.region (FJ.ql rfl (q_move rfl (.t (.s .z))) ?_)))
 refine FJ.call (goes_list rfl) rfl (by decide) rfl (c_call rfl Tryz.func134 rfl rfl (args1 (.t .z))) .n (fun w1 S1 hs tr => c_134 (tr.ctxP h0)) ?_
 rintro _ _ ⟨rfl, rfl⟩
 refine FJ.cat .n ?_
 refine FJ.ql rfl (q_assign rfl (.t .z)) (FJ.nil (FJ.then_ (FJ.seq (FJ.region ?_))))
 refine FJ.ql rfl (q_move rfl (.t .z)) (FJ.ql rfl (q_neq rfl (.t .z) .c) (FJ.nil (FJ.then_ ?_)))
 refine FJ.condN (.t .z) (fun b3 => ?_) (fun b3 => ?_)
 refine FJ.seq (FJ.region (FJ.ql rfl (q_move rfl (.t (.s (.s .z)))) (FJ.er (.s4 (.s (.s .z))) (FJ.ql rfl (q_assign rfl (.t .z)) ?_))))
 refine FJ.nil (FJ.then_ (FJ.ret (FJ.thenR ?_)))
 refine FJ.doneS (res1 rfl .z) .n ?_
 exact ⟨by first | (rw [fsFault_t (by assumption)]; done) | (rw [fsFault_l (by assumption) (by assumption)]; done) | (rw [fsFault_d (by assumption) (by assumption)]; done) | (rw [fsFault_1 (by assumption) (.inl (by assumption))]; done) | (rw [fsFault_1 (by assumption) (.inr (by assumption))]; done) | (rw [fsFault_0 (by assumption) (by assumption) (by assumption)]; done), rfl⟩
 refine FJ.skip (FJ.then_ (FJ.seq (FJ.seq (FJ.region ?_))))
 refine FJ.ql rfl (q_move rfl (.t (.s4 (.s (.s .z))))) ?_
 refine FJ.call (goes_list rfl) rfl (by decide) rfl (c_call rfl Tryz.func135 rfl rfl (args1 (.t .z))) .n (fun w1 S1 hs tr => c_135 (tr.ctxP h0) (by assumption)) ?_
 rintro _ _ ⟨rfl, rfl⟩
 refine FJ.cat .n ?_
 refine FJ.ql rfl (q_not rfl (.t .z)) (FJ.ql rfl (q_move rfl (.t .z)) ?_)
 refine FJ.caseN .z (fun g4 => ?_) (fun g4 => ?_)
 refine FJ.skipl rfl rfl .z rfl rfl (by decide) rfl ?_
 refine FJ.skipl rfl rfl (.s .z) rfl rfl (by decide) rfl ?_
 refine FJ.skipl rfl rfl (.s (.s .z)) rfl rfl (by decide) rfl ?_
 refine FJ.ql rfl (q_pickT rfl (.t (.s (.s (.s .z)))) .c) (FJ.nil (FJ.then_ ?_))
 refine FJ.condT (.t .z) ?_
 refine FJ.seq (FJ.region (FJ.er (.s4 (.s4 (.s4 (.s .z)))) (FJ.ql rfl (q_assign rfl .c) (FJ.nil ?_))))
 refine FJ.then_ (FJ.ret (FJ.thenR ?_))
 refine FJ.doneS (res1 rfl .z) .n ?_
 exact ⟨by first | (rw [fsFault_t (by assumption)]; done) | (rw [fsFault_l (by assumption) (by assumption)]; done) | (rw [fsFault_d (by assumption) (by assumption)]; done) | (rw [fsFault_1 (by assumption) (.inl (by assumption))]; done) | (rw [fsFault_1 (by assumption) (.inr (by assumption))]; done) | (rw [fsFault_0 (by assumption) (by assumption) (by assumption)]; done), rfl⟩
 refine FJ.q (goes_listg rfl rfl .z) rfl (by decide) rfl (q_move rfl (.t (.s4 (.s4 (.s (.s .z)))))) ?_
 refine FJ.call (goes_listg rfl rfl (.s .z)) rfl (by decide) rfl (c_call rfl Tryz.func136 rfl rfl (args1 (.t .z))) .n (fun w1 S1 hs tr => c_136 (tr.ctxP h0) (by assumption)) ?_
 rintro _ _ ⟨rfl, rfl⟩
 refine FJ.cat .n ?_
 refine FJ.q (goes_listg rfl rfl (.s (.s .z))) rfl (by decide) rfl (q_not rfl (.t .z)) ?_
 refine FJ.ql rfl (q_pickF rfl (.t (.s (.s (.s .z)))) (.t .z)) (FJ.nil (FJ.then_ ?_))
 refine FJ.condN (.t .z) (fun b5 => ?_) (fun b5 => ?_)
 refine FJ.seq (FJ.region (FJ.er (.s4 (.s4 (.s4 (.s .z)))) (FJ.ql rfl (q_assign rfl .c) (FJ.nil ?_))))
 refine FJ.then_ (FJ.ret (FJ.thenR ?_))
 refine FJ.doneS (res1 rfl .z) .n ?_
 exact ⟨by first | (rw [fsFault_t (by assumption)]; done) | (rw [fsFault_l (by assumption) (by assumption)]; done) | (rw [fsFault_d (by assumption) (by assumption)]; done) | (rw [fsFault_1 (by assumption) (.inl (by assumption))]; done) | (rw [fsFault_1 (by assumption) (.inr (by assumption))]; done) | (rw [fsFault_0 (by assumption) (by assumption) (by assumption)]; done), rfl⟩
 refine FJ.skip (FJ.then_ (FJ.seq (FJ.region (FJ.er (.s4 (.s4 (.s4 (.s .z)))) ?_))))
 refine FJ.ql rfl (q_assign rfl .c) (FJ.nil (FJ.then_ (FJ.ret ?_)))
 refine FJ.doneS (res1 rfl .z) .n ?_
 exact ⟨by first | (rw [fsFault_t (by assumption)]; done) | (rw [fsFault_l (by assumption) (by assumption)]; done) | (rw [fsFault_d (by assumption) (by assumption)]; done) | (rw [fsFault_1 (by assumption) (.inl (by assumption))]; done) | (rw [fsFault_1 (by assumption) (.inr (by assumption))]; done) | (rw [fsFault_0 (by assumption) (by assumption) (by assumption)]; done), rfl⟩
end Go.Proofs.YticaddophhggoaaGreat

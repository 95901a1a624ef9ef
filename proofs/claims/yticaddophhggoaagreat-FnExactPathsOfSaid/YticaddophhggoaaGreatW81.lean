/- What is proved: contracts of functions, one a function. No condition. -/
import Derived.Test.YticaddophhggoaaGreatW24
import Derived.Test.YticaddophhggoaaGreatW80
import Derived.Test.YticaddophhggoaaGreatBase2
import Derived.Test.YticaddophhggoaaGreatBase3
namespace Go.Proofs.YticaddophhggoaaGreat
open Go Go.RowKit
set_option linter.unusedVariables false
set_option linter.unusedSimpArgs false
set_option maxHeartbeats 1000000 in
set_option maxRecDepth 20000 in
theorem c_204 {w0 : World} {S0 : Bs} (n : Nat) (hn : n ≤ 7) :
    Calls Tryz.prog 204 #[.slice none 0 0, .int .i64 (n : Int)] w0 (TriPost w0 S0 (fun r l => l = [ownA kSl_9 [] [r]])) := by
 refine FJ.enter (N := 27) Tryz.func204 rfl rfl (by simp) [(0, .slice none 0 0), (1, .int .i64 (n : Int))] (by simp) (l0 := []) trivial ?_
 refine FJ.seq (FJ.region (FJ.ql rfl (q_assign rfl .c) (FJ.nil (FJ.then_ ?_))))
 refine FJ.seq (FJ.seq (FJ.region (FJ.ql rfl (q_move rfl (.t (.s (.s .z)))) (FJ.ql rfl (q_lss rfl (.t .z) .c) ?_))))
 refine FJ.nil (FJ.then_ ?_)
 refine FJ.condP (.t .z) (fun b1 => ?_) (fun b1 => ?_)
 exfalso; omega
 refine FJ.skip (FJ.then_ (FJ.seq (FJ.seq (FJ.region ?_))))
 refine FJ.ql rfl (q_move rfl (.t (.s4 .z))) (FJ.ql rfl (q_move rfl (.t (.s4 .z))) (FJ.ql rfl (q_cap rfl u_51 (.t .z)) (FJ.ql rfl (q_move rfl (.t (.s4 (.s (.s .z))))) (FJ.ql rfl (q_len rfl u_51 (.t .z)) ?_))))
 refine FJ.ql rfl (q_sub (c := ((0 : Nat) : Int) - 0) rfl (.t (.s (.s .z))) (.t .z) (wr (by omega) (by omega) (by omega))) ?_
 refine FJ.ql rfl (q_sub (c := (n : Int) - (((0 : Nat) : Int) - 0)) rfl (.t (.s4 (.s .z))) (.t .z) (wr (by omega) (by omega) (by omega))) ?_
 refine FJ.er (.s4 (.s4 (.s (.s (.s .z))))) (FJ.ql rfl (q_assign rfl (.t .z)) (FJ.nil (FJ.then_ (FJ.seq ?_))))
 refine FJ.region (FJ.ql rfl (q_move rfl (.t .z)) (FJ.ql rfl (q_gtr rfl (.t .z) .c) (FJ.nil (FJ.then_ ?_))))
 refine FJ.condP (.t .z) (fun b2 => ?_) (fun b2 => ?_)
 refine FJ.region (FJ.ql rfl (q_move rfl (.t (.s4 (.s4 (.s4 (.s .z)))))) (FJ.ql rfl (q_move rfl (.t (.s4 (.s4 (.s4 (.s (.s .z))))))) (FJ.ql rfl (q_cap rfl u_51 (.t .z)) ?_)))
 refine FJ.ql rfl (q_sliceTake (A := none) (n := 0) (c := 0) (b := 0) rfl u_51 sz_9 (.t (.s (.s .z))) (.t .z) (by omega)) ?_
 refine FJ.ql rfl (q_move rfl (.t (.s4 (.s (.s .z))))) ?_
 refine FJ.eq .z (congrArg (Value.int .i64) (show (n : Int) - (((0 : Nat) : Int) - 0) = ((n : Nat) : Int) by omega)) ?_
 refine FJ.e (goes_list rfl) rfl (by decide) rfl (e_appendMake0 (K := kstr) (x0 := (⟨#[]⟩ : ByteArray)) rfl u_51 u_3 inf_9 rfl (fun _ _ => ⟨rfl, by decide⟩) (.t (.s .z)) (.t .z) (by omega) (by omega) (by omega)) ?_
 rintro _ _ rfl
 refine FJ.know (WS.oform .z) ?_
 rintro ⟨Ao4, co4, rfl, hlo4, hmo4, hbo4⟩
 refine FJ.ql rfl (q_move rfl (.t (.s16 (.s (.s (.s .z)))))) (FJ.ql rfl (q_len rfl u_51 (.t .z)) ?_)
 refine FJ.know (WS.ocap .z) ?_
 rintro ⟨-, hk5, -, -⟩
 have hm6 : (List.take 0 (List.replicate n (⟨#[]⟩ : ByteArray))).length = 0 := by rw [List.length_take]; rw [List.length_replicate]; omega
 refine FJ.eq .z (congrArg (Value.int .i64) (show 0 = (((List.take 0 (List.replicate n (⟨#[]⟩ : ByteArray))).length : Nat) : Int) by rw [hm6]; try omega)) ?_
 refine FJ.turns (c := ownA kSl_9 (List.take 0 (List.replicate n (⟨#[]⟩ : ByteArray))) [.slice Ao4 ((List.take 0 (List.replicate n (⟨#[]⟩ : ByteArray))).length) co4]) (.c .z .n) (own_take' (by rw [List.length_replicate]; omega)) ?_
 refine FJ.ql rfl (q_sliceTake (b := (List.take 0 (List.replicate n (⟨#[]⟩ : ByteArray))).length) rfl u_51 sz_9 (.t (.s (.s .z))) (.t .z) (by omega)) ?_
 refine FJ.er (.s16 (.s4 (.s (.s .z)))) (FJ.ql rfl (q_assign rfl (.t .z)) (FJ.nil (FJ.then_ (FJ.seq ?_))))
 refine FJ.region (FJ.ql rfl (q_move rfl (.t .z)) (FJ.er (.s16 (.s4 (.s (.s (.s .z))))) (FJ.ql rfl (q_assign rfl (.t .z)) (FJ.nil ?_))))
 refine FJ.then_ (FJ.ret ?_)
 refine FJ.ceq (x' := []) .z rfl ?_
 refine FJ.doneS (res1 rfl .z) (.c .z .n) ?_
 rfl
 refine FJ.skip (FJ.then_ (FJ.seq (FJ.region (FJ.ql rfl (q_move rfl (.t (.s4 (.s4 (.s4 (.s .z)))))) ?_))))
 refine FJ.er (.s4 (.s4 (.s4 (.s .z)))) (FJ.ql rfl (q_assign rfl (.t .z)) (FJ.nil (FJ.then_ (FJ.ret ?_))))
 refine FJ.add (c := ownA kSl_9 [] [.slice none 0 0]) (fun w S => own_nil w S none) ?_
 refine FJ.doneS (res1 rfl .z) (.c .z .n) ?_
 rfl

set_option maxHeartbeats 1000000 in
set_option maxRecDepth 20000 in
theorem c_185 {w0 : World} {S0 : Bs} {xss : (List (List ByteArray))} {v0 : Value} (h0 : kSl_51.ro w0 (FF w0 S0) xss [v0]) (hx : xss.flatten.length ≤ 7) :
    Calls Tryz.prog 185 #[v0] w0 (TriPost w0 S0 (fun r l => l = [ownA kSl_9 xss.flatten [r]])) := by
 obtain ⟨A0, c0, rfl, hl0, hm0, hb0, he0⟩ := ro_form h0
 refine FJ.enter (N := 36) Tryz.func185 rfl rfl (by simp) [(0, .slice A0 xss.length c0)] (by simp) (l0 := []) trivial ?_
 refine FJ.seq (FJ.region (FJ.ql rfl (q_assign rfl .c) (FJ.nil (FJ.then_ ?_))))
 refine FJ.seq (FJ.region (FJ.ql rfl (q_assign rfl .c) (FJ.nil (FJ.then_ ?_))))
 refine FJ.seq (FJ.seq (FJ.region (FJ.ql rfl (q_move rfl (.t (.s (.s .z)))) (FJ.ql rfl (q_len rfl u_206 (.t .z)) ?_))))
 refine FJ.ql rfl (q_move rfl .c) (FJ.nil (FJ.then_ (FJ.block ?_)))
 refine FJ.loopi (γ := Nat) (fun k => [(11, .int .i64 (k : Int)), (10, .int .i64 (xss.length : Int)), (9, .slice A0 xss.length c0), (3, .int .i64 ((List.take k xss).flatten.length : Int)), (2, .slice none 0 0), (0, .slice A0 xss.length c0)]) (fun k => []) (fun k => k ≤ xss.length) (fun k => xss.length - k) 0 (Nat.zero_le _) (.c .z (.c (.s .z) (.c (.s (.s .z)) (.e (.s (.s (.s .z))) (congrArg (Value.int .i64) (show (0 : Int) = ((List.take 0 xss).flatten.length : Int) from rfl)) (.c (.s4 .z) (.c (.s4 (.s .z)) .n)))))) (fun _ h => h) ?_
 rintro k hk
 have hfl := flat_le (xs := xss) (k := k)
 refine FJ.seq (FJ.region (FJ.ql rfl (q_lss rfl (.t .z) (.t (.s .z))) (FJ.nil (FJ.then_ ?_))))
 refine FJ.seq ?_
 refine FJ.condP (.t .z) (fun b2 => ?_) (fun b2 => ?_)
 refine FJ.skip (FJ.then_ (FJ.seq (FJ.block (FJ.seq ?_))))
 refine FJ.region ?_
 obtain ⟨ad3, hAad3, hrad3⟩ := he0 (by omega)
 subst hAad3
 obtain ⟨x4, hx4⟩ := get_ex (xs := xss) (j := k) (by omega)
 obtain ⟨ece5, hre5, hFe5, hce5⟩ := hrad3.elem hx4
 obtain ⟨ue5, rfl⟩ := sl_one hre5
 obtain ⟨Ae5, ce5, rfl, hle5, hme5, hbe5, hee5⟩ := ro_form hre5
 have hfyx4 := flat_le2 hx4
 refine FJ.ql rfl (q_indexAddr (j := k) rfl u_206 sz_51 (.t (.s (.s (.s .z)))) (.t (.s .z)) rfl (by omega)) ?_
 refine FJ.ql rfl (q_load rfl ag_51 (.t .z) (WS.el0 hFe5 hce5 rfl)) (FJ.ql rfl (q_assign rfl (.t .z)) (FJ.nil (FJ.then_ (FJ.seq ?_))))
 refine FJ.region (FJ.ql rfl (q_move rfl (.t (.s4 (.s (.s (.s .z)))))) (FJ.ql rfl (q_move rfl (.t (.s .z))) (FJ.ql rfl (q_len rfl u_51 (.t .z)) ?_)))
 refine FJ.ql rfl (q_add (c := ((((List.take k xss).flatten.length) + x4.length : Nat) : Int)) rfl (.t (.s (.s .z))) (.t .z) (wr (by omega) (by omega) (by omega))) ?_
 refine FJ.er (.s4 (.s4 (.s (.s (.s .z))))) (FJ.ql rfl (q_assign rfl (.t .z)) (FJ.nil (FJ.then_ (FJ.seq ?_))))
 refine FJ.region (FJ.ql rfl (q_move rfl (.t .z)) (FJ.ql rfl (q_lss rfl (.t .z) .c) (FJ.nil (FJ.then_ ?_))))
 refine FJ.condP (.t .z) (fun b7 => ?_) (fun b7 => ?_)
 exfalso; omega
 refine FJ.skip (FJ.inBN (FJ.then_ (FJ.region ?_)))
 refine FJ.ql rfl (q_add (c := ((k + 1 : Nat) : Int)) rfl (.t (.s4 (.s4 (.s (.s (.s .z)))))) .c (wr (by omega) (by omega) (by omega))) ?_
 refine FJ.er (.s4 (.s4 (.s4 .z))) (FJ.ql rfl (q_move rfl (.t .z)) (FJ.nil ?_))
 refine FJ.again (k + 1) (by omega) (by first | omega | (dsimp only; omega)) (.c .z (.c (.s4 (.s4 (.s4 (.s .z)))) (.c (.s4 (.s4 (.s4 (.s (.s .z))))) (.e (.s4 .z) (congrArg (Value.int .i64) (by rw [flat_s hx4])) (.c (.s4 (.s4 (.s4 (.s (.s (.s .z)))))) (.c (.s16 .z) .n)))))) (fun _ h => h)
 refine FJ.exit (FJ.thenE (FJ.thenE (FJ.inB (FJ.then_ ?_))))
 refine FJ.seq (FJ.region (FJ.ql rfl (q_move rfl (.t (.s4 .z))) ?_))
 refine FJ.call (goes_list rfl) rfl (by decide) rfl (c_call rfl Tryz.func204 rfl rfl (args2 .c (.t .z))) .n (fun w1 S1 hs tr => c_204 _ (by omega)) ?_
 rintro _ _ rfl
 refine FJ.cat (.c .n) ?_
 refine FJ.know (WS.oform .z) ?_
 rintro ⟨Ao9, co9, rfl, hlo9, hmo9, hbo9⟩
 refine FJ.ql rfl (q_assign rfl (.t .z)) (FJ.nil (FJ.then_ (FJ.seq (FJ.seq ?_))))
 refine FJ.region (FJ.ql rfl (q_move rfl (.t (.s4 (.s4 (.s .z))))) (FJ.ql rfl (q_len rfl u_206 (.t .z)) (FJ.ql rfl (q_move rfl .c) (FJ.nil ?_))))
 refine FJ.then_ (FJ.block ?_)
 refine FJ.loopi (γ := Nat × (Option Addr) × Nat) (fun ⟨q, Agq0, cgq0⟩ => [(27, .int .i64 (q : Int)), (26, .int .i64 (xss.length : Int)), (25, .slice A0 xss.length c0), (6, .slice Agq0 ((List.take q xss).flatten).length cgq0), (2, .slice none 0 0)]) (fun ⟨q, Agq0, cgq0⟩ => [ownA kSl_9 ((List.take q xss).flatten) [.slice Agq0 ((List.take q xss).flatten).length cgq0]]) (fun ⟨q, Agq0, cgq0⟩ => q ≤ xss.length) (fun ⟨q, Agq0, cgq0⟩ => xss.length - q) (0, Ao9, co9) (Nat.zero_le _) (.c .z (.c (.s .z) (.c (.s (.s .z)) (.c (.s (.s (.s .z))) (.c (.s4 (.s4 (.s (.s (.s .z))))) .n))))) (fun _ h => h.sel (.c .z .n)) ?_
 rintro ⟨q, Agq0, cgq0⟩ hq
 have hfq := flat_le (xs := xss) (k := q)
 refine FJ.seq (FJ.region (FJ.ql rfl (q_lss rfl (.t .z) (.t (.s .z))) (FJ.nil (FJ.then_ ?_))))
 refine FJ.seq ?_
 refine FJ.condP (.t .z) (fun b10 => ?_) (fun b10 => ?_)
 refine FJ.skip (FJ.then_ (FJ.seq (FJ.block (FJ.seq ?_))))
 refine FJ.region ?_
 obtain ⟨ad11, hAad11, hrad11⟩ := he0 (by omega)
 subst hAad11
 obtain ⟨x12, hx12⟩ := get_ex (xs := xss) (j := q) (by omega)
 obtain ⟨ece13, hre13, hFe13, hce13⟩ := hrad11.elem hx12
 obtain ⟨ue13, rfl⟩ := sl_one hre13
 obtain ⟨Ae13, ce13, rfl, hle13, hme13, hbe13, hee13⟩ := ro_form hre13
 have hfyx12 := flat_le2 hx12
 refine FJ.ql rfl (q_indexAddr (j := q) rfl u_206 sz_51 (.t (.s (.s (.s .z)))) (.t (.s .z)) rfl (by omega)) ?_
 refine FJ.ql rfl (q_load rfl ag_51 (.t .z) (WS.el0 hFe13 hce13 rfl)) (FJ.ql rfl (q_assign rfl (.t .z)) (FJ.nil (FJ.then_ (FJ.region ?_))))
 refine FJ.ql rfl (q_move rfl (.t (.s4 (.s (.s (.s .z)))))) (FJ.ql rfl (q_move rfl (.t (.s .z))) ?_)
 refine FJ.e (goes_list rfl) rfl (by decide) rfl (e_appendF (flat_scalar _ _ _) rfl u_51 inf_9 rfl (.t (.s .z)) (.t .z) (.c .z .n) (fun w1 S1 tr => tr.ctx hre13) (by first | omega | (simp only [List.length_append, List.length_cons, List.length_nil]; omega)) (by first | omega | (simp only [List.length_append, List.length_cons, List.length_nil]; omega))) ?_
 rintro _ _ rfl
 refine FJ.ceq .z (flat_app hx12) ?_
 refine FJ.know (WS.oform .z) ?_
 rintro ⟨Ao15, co15, rfl, hlo15, hmo15, hbo15⟩
 refine FJ.er (.s4 (.s4 (.s (.s .z)))) (FJ.ql rfl (q_assign rfl (.t .z)) (FJ.nil (FJ.inBN (FJ.then_ ?_))))
 refine FJ.region ?_
 refine FJ.ql rfl (q_add (c := ((q + 1 : Nat) : Int)) rfl (.t (.s4 (.s4 .z))) .c (wr (by omega) (by omega) (by omega))) ?_
 refine FJ.er (.s4 (.s4 (.s .z))) (FJ.ql rfl (q_move rfl (.t .z)) (FJ.nil ?_))
 refine FJ.again ((q + 1), Ao15, co15) (by omega) (by first | omega | (dsimp only; omega)) (.c .z (.c (.s4 (.s4 (.s (.s .z)))) (.c (.s4 (.s4 (.s (.s (.s .z))))) (.c (.s (.s .z)) (.c (.s4 (.s4 (.s4 .z))) .n))))) (fun _ h => h.sel (.c .z .n))
 refine FJ.exit (FJ.thenE (FJ.thenE (FJ.inB (FJ.then_ ?_))))
 refine FJ.seq (FJ.region (FJ.ql rfl (q_move rfl (.t (.s4 .z))) (FJ.er (.s4 (.s (.s .z))) (FJ.ql rfl (q_assign rfl (.t .z)) ?_))))
 refine FJ.nil (FJ.then_ (FJ.ret ?_))
 refine FJ.ceq (x' := xss.flatten) .z (by rw [List.take_of_length_le (by omega)]) ?_
 refine FJ.doneS (res1 rfl .z) (.c .z .n) ?_
 rfl

set_option maxHeartbeats 1000000 in
set_option maxRecDepth 20000 in
theorem c_141s {w0 : World} {S0 : Bs} {f : DFs} {ad0 : Addr} (h0 : PtrRo kT_31 w0 (FF w0 S0) ad0 f) (a : Int) {x : (List ByteArray)} {v2 : Value} (h2 : kSl_9.ro w0 (FF w0 S0) x [v2]) {L : (List ByteArray)} {v3 : Value} (hs : Star [ownA kSl_9 L [v3]] w0 S0) (ht : treeFault f = 0) (hp : placeIn f.inodes.length a) (hok : ∀ s, s ∈ x → nameFault s = 0) (d : Nat) (hd : x.length + d = 6) (hL : L.length + cB d ≤ 55986) (ih : ∀ (n' : Nat), n' < d → ∀ {w0 : World} {S0 : Bs} {f : DFs} {ad0 : Addr} (h0 : PtrRo kT_31 w0 (FF w0 S0) ad0 f) (a : Int) {x : List ByteArray} {v2 : Value} (h2 : kSl_9.ro w0 (FF w0 S0) x [v2]) {L : List ByteArray} {v3 : Value} (hs : Star [ownA kSl_9 L [v3]] w0 S0) (ht : treeFault f = 0) (hp : placeIn f.inodes.length a) (hok : ∀ s, s ∈ x → nameFault s = 0) (hd : x.length + n' = 6) (hL : L.length + cB n' ≤ 55986), Calls Tryz.prog 141 #[.pointer (some ad0), .int .i64 a, v2, v3] w0 (TriPost w0 S0 (fun r l => l = [ownA kSl_9 (L ++ belowP f.inodes n' a x) [r]]))) :
    Calls Tryz.prog 141 #[.pointer (some ad0), .int .i64 a, v2, v3] w0 (TriPost w0 S0 (fun r l => l = [ownA kSl_9 (L ++ belowP f.inodes d a x) [r]])) := by
 obtain ⟨ec0, hF0, hr0, hc0⟩ := id h0
 obtain ⟨u0_0, u0_1, rfl, h0_0, h0_1⟩ := kT_31_ro hr0
 obtain ⟨A0_0, c0_0, rfl, hl0_0, hm0_0, hb0_0, he0_0⟩ := ro_form h0_0
 obtain ⟨A0_1, c0_1, rfl, hl0_1, hm0_1, hb0_1, he0_1⟩ := ro_form h0_1
 obtain ⟨A2, c2, rfl, hl2, hm2, hb2, he2⟩ := ro_form h2
 have hI := treeI ht
 obtain ⟨hp1, hp2⟩ := hp
 refine FJ.enter (N := 48) Tryz.func141 rfl rfl (by simp) [(0, .pointer (some ad0)), (1, .int .i64 a), (2, .slice A2 x.length c2), (3, v3)] (by simp) hs ?_
 refine FJ.know (WS.oform .z) ?_
 rintro ⟨Ao4, co4, rfl, hlo4, hmo4, hbo4⟩
 refine FJ.seq (FJ.region (FJ.ql rfl (q_assign rfl .c) (FJ.nil (FJ.then_ ?_))))
 refine FJ.seq (FJ.seq (FJ.region (FJ.ql rfl (q_move rfl (.t (.s (.s (.s .z))))) (FJ.ql rfl (q_len rfl u_51 (.t .z)) ?_))))
 refine FJ.ql rfl (q_eql rfl (.t .z) .c) (FJ.nil (FJ.then_ ?_))
 refine FJ.condP (.t .z) (fun b5 => ?_) (fun b5 => ?_)
 refine FJ.seq (FJ.region (FJ.ql rfl (q_move rfl (.t (.s4 (.s (.s (.s .z)))))) (FJ.er (.s4 .z) (FJ.ql rfl (q_assign rfl (.t .z)) ?_))))
 refine FJ.nil (FJ.then_ (FJ.ret (FJ.thenR ?_)))
 refine FJ.doneS (res1 rfl .z) (.c .z .n) ?_
 have hd0 : d = 0 := (by omega); subst hd0; rw [show belowP f.inodes 0 a x = [] from rfl, List.append_nil]
 have hd0 : 0 < d := by omega
 refine FJ.skip (FJ.then_ (FJ.seq (FJ.seq (FJ.region ?_))))
 refine FJ.ql rfl (q_move rfl (.t (.s4 .z))) (FJ.ql rfl (q_nilCheck rfl (.t .z)) (FJ.ql rfl (q_fieldAddr rfl (.t .z) (fun _ => fa_31_0 _ _)) (FJ.ql rfl (q_load rfl ag_29 (.t .z) (WS.el hF0 hc0 rfl)) (FJ.ql rfl (q_move rfl (.t (.s4 (.s4 (.s .z))))) ?_))))
 obtain ⟨ad6, hAad6, hrad6⟩ := he0_0 (by omega)
 subst hAad6
 obtain ⟨x7, hx7⟩ := get_ex (xs := f.inodes) (j := Int.toNat a) (by omega)
 obtain ⟨ece8, hre8, hFe8, hce8⟩ := hrad6.elem hx7
 obtain ⟨ue8_3, ue8_4, rfl, he8_3, he8_4⟩ := kT_73_ro hre8
 obtain ⟨Ae8_3, ce8_3, rfl, hle8_3, hme8_3, hbe8_3, hee8_3⟩ := ro_form he8_3
 obtain ⟨Ae8_4, ce8_4, rfl, hle8_4, hme8_4, hbe8_4, hee8_4⟩ := ro_form he8_4
 have kx7 := kind_at (i := a) hx7 (by omega)
 have nx7 := ents_at (a := a) hx7 (by omega)
 have lx7 := links_at (a := a) hx7 (by omega)
 have zx7 := size_at (a := a) hx7 (by omega)
 refine FJ.ql rfl (q_indexAddr (j := Int.toNat a) rfl u_29 sz_73 (.t (.s .z)) (.t .z) (by omega) (by omega)) ?_
 refine FJ.ql rfl (q_fieldAddr rfl (.t .z) (fun _ => fa_73_4 _ _)) (FJ.ql rfl (q_load rfl ag_71 (.t .z) (WS.el hFe8 hce8 rfl)) (FJ.ql rfl (q_len rfl u_71 (.t .z)) (FJ.ql rfl (q_move rfl .c) (FJ.nil ?_))))
 refine FJ.then_ (FJ.block ?_)
 have he11 : L = L ++ belowQ f.inodes d a x 0 := (by rw [bq_0, List.append_nil])
 refine FJ.ceq .z he11 ?_
 refine FJ.chEq .z (congrArg (fun z_ : Nat => (ownA kSl_9 (L ++ belowQ f.inodes d a x 0) [.slice Ao4 z_ co4] : Asn)) (congrArg List.length he11)) ?_
 refine FJ.eq (.s16 (.s .z)) (congrArg (fun z_ : Nat => (.slice Ao4 z_ co4 : Value)) (congrArg List.length he11)) ?_
 refine FJ.loopi (γ := Nat × (Option Addr) × Nat) (fun ⟨k, Agk0, cgk0⟩ => [(3, .slice Agk0 (L ++ belowQ f.inodes d a x k).length cgk0), (25, .int .i64 (k : Int)), (24, .int .i64 (x7.ents.length : Int)), (23, .slice Ae8_4 x7.ents.length ce8_4), (8, .slice none 0 0), (0, .pointer (some ad0)), (2, .slice A2 x.length c2)]) (fun ⟨k, Agk0, cgk0⟩ => [ownA kSl_9 (L ++ belowQ f.inodes d a x k) [.slice Agk0 (L ++ belowQ f.inodes d a x k).length cgk0]]) (fun ⟨k, Agk0, cgk0⟩ => k ≤ x7.ents.length) (fun ⟨k, Agk0, cgk0⟩ => x7.ents.length - k) (0, Ao4, co4) (Nat.zero_le _) (.c .z (.c (.s .z) (.c (.s (.s .z)) (.c (.s (.s (.s .z))) (.c (.s4 (.s4 (.s4 (.s (.s .z))))) (.c (.s4 (.s4 (.s4 (.s (.s (.s .z)))))) (.c (.s16 (.s .z)) .n))))))) (fun _ h => h.sel (.c .z .n)) ?_
 rintro ⟨k, Agk0, cgk0⟩ hk
 refine FJ.seq (FJ.region (FJ.ql rfl (q_lss rfl (.t (.s .z)) (.t (.s (.s .z)))) (FJ.nil (FJ.then_ ?_))))
 refine FJ.seq ?_
 refine FJ.condP (.t .z) (fun b12 => ?_) (fun b12 => ?_)
 refine FJ.skip (FJ.then_ (FJ.seq (FJ.block (FJ.seq ?_))))
 refine FJ.region ?_
 obtain ⟨ad13, hAad13, hrad13⟩ := hee8_4 (by omega)
 subst hAad13
 obtain ⟨x14, hx14⟩ := get_ex (xs := x7.ents) (j := k) (by omega)
 obtain ⟨ece15, hre15, hFe15, hce15⟩ := hrad13.elem hx14
 obtain ⟨rfl, se15_0⟩ := kT_151_ro hre15
 have hnex14 : (entsAt f.inodes a)[k]? = some x14 := by rw [nx7]; exact hx14
 have hnmx14 := ent_name ht hnex14
 have hepx14 := ent_place ht hnex14
 have hn4x14 := (name_4 hnmx14).1
 have hrmx14 := bq_room (d := d) (a := a) (ns := x) hI hd0 (List.getElem?_eq_some_iff.1 hnex14).1
 refine FJ.ql rfl (q_indexAddr (j := k) rfl u_71 sz_151 (.t (.s4 .z)) (.t (.s (.s .z))) rfl (by omega)) ?_
 refine FJ.ql rfl (q_loadA (cs := [.string x14.name, .int .i64 x14.ino]) rfl ag_151 sz_151 (.t .z) (WS.els hFe15 hce15)) ?_
 refine FJ.e (goes_list rfl) rfl (by decide) rfl (e_alloc rfl z_151 rfl rfl) ?_
 rintro _ _ ⟨g16, rfl, rfl⟩
 refine FJ.es (goes_list rfl) rfl (es_store (off := 0) (cs := [.string x14.name, .int .i64 x14.ino]) rfl sz_151 (.t .z) (.t (.s .z)) rfl (ones rfl) .z (Nat.le_of_ble_eq_true rfl) (.c .z (.c (.s .z) .n))) ?_
 refine FJ.nil (FJ.then_ (FJ.seq (FJ.region (FJ.ql rfl (q_move rfl (.t (.s4 (.s4 (.s (.s .z)))))) ?_))))
 refine FJ.ql rfl (q_fieldAddr rfl (.t (.s .z)) (fun _ => fa_151_0 _ _)) (FJ.ql rfl (q_load rfl ag_9 (.t .z) (WS.row .z rfl)) ?_)
 refine FJ.e (goes_list rfl) rfl (by decide) rfl (e_buildSliceL (ps := [(0, .string x14.name)]) (cs := [.string x14.name]) rfl u_51 (inz inf_9) (by decide) (by intro act hact; simp only [List.map_toArray, List.map_cons, List.map_nil, (show Val _ _ _ from (.t .z)) act hact]) rfl rfl (by decide) rfl rfl) ?_
 rintro _ _ ⟨g17, rfl, rfl⟩
 refine FJ.e (goes_list rfl) rfl (by decide) rfl (e_buildSliceL (ps := [(0, .slice A2 x.length c2), (1, .slice (some ⟨g17, 0, none⟩) 1 1)]) (cs := [.slice A2 x.length c2, .slice (some ⟨g17, 0, none⟩) 1 1]) rfl u_206 (inz inf_51) (by decide) (by intro act hact; simp only [List.map_toArray, List.map_cons, List.map_nil, (show Val _ _ _ from (.t (.s (.s (.s .z))))) act hact, (show Val _ _ _ from (.t .z)) act hact]) rfl rfl (by decide) rfl rfl) ?_
 rintro _ _ ⟨g18, rfl, rfl⟩
 refine FJ.turns (c := ownA kSl_9 ([x14.name] : (List ByteArray)) [.slice (some ⟨g17, 0, none⟩) 1 1]) (.c (.s .z) .n) (fun w S h => lit_own (xs := ([x14.name] : (List ByteArray))) h rfl (by intro z_ hz_; obtain rfl := List.mem_singleton.1 hz_; first | assumption | omega | (have := joinB_size (snoc_ok hok (by assumption)); simp only [List.length_append, List.length_cons, List.length_nil] at this; omega)) (by omega) (by omega)) ?_
 refine FJ.call (goes_list rfl) rfl (by decide) rfl (c_call rfl Tryz.func185 rfl rfl (args1 (.t .z))) .n (fun w1 S1 hs tr => c_185 (tr.lit2 (.s .z) rfl (tr.ctx h2) (tr.own .z) (by decide)) (by simp; omega)) ?_
 rintro _ _ rfl
 refine FJ.cat (.c .n) ?_
 refine FJ.ceq (x' := x ++ [x14.name]) .z (by simp) ?_
 refine FJ.know (WS.oform .z) ?_
 rintro ⟨Ao21, co21, rfl, hlo21, hmo21, hbo21⟩
 refine FJ.ql rfl (q_assign rfl (.t .z)) (FJ.nil (FJ.then_ (FJ.seq (FJ.region ?_))))
 refine FJ.ql rfl (q_move rfl (.t (.s4 (.s4 (.s (.s (.s .z))))))) (FJ.ql rfl (q_move rfl (.t (.s .z))) ?_)
 refine FJ.call (goes_list rfl) rfl (by decide) rfl (c_call rfl Tryz.func186 rfl rfl (args1 (.t .z))) .n (fun w1 S1 hs tr => c_186 (tr.own .z) (by exact snoc_ok hok (by assumption)) (by simp only [List.length_append, List.length_cons, List.length_nil]; omega)) ?_
 rintro _ _ ⟨rfl, rfl⟩
 refine FJ.cat .n ?_
 refine FJ.e (goes_list rfl) rfl (by decide) rfl (e_buildSliceL (ps := [(0, .string (joinB (x ++ [x14.name])))]) (cs := [.string (joinB (x ++ [x14.name]))]) rfl u_51 (inz inf_9) (by decide) (by intro act hact; simp only [List.map_toArray, List.map_cons, List.map_nil, (show Val _ _ _ from (.t .z)) act hact]) rfl rfl (by decide) rfl rfl) ?_
 rintro _ _ ⟨g22, rfl, rfl⟩
 refine FJ.add (c := ownA kstr (joinB (x ++ [x14.name])) [.string (joinB (x ++ [x14.name]))]) (fun _ _ => ⟨rfl, by first | assumption | omega | (have := joinB_size (snoc_ok hok (by assumption)); simp only [List.length_append, List.length_cons, List.length_nil] at this; omega)⟩) ?_
 refine FJ.e (goes_list rfl) rfl (by decide) rfl (e_append1 rfl u_51 inf_9 rfl (.t (.s (.s (.s .z)))) (.t .z) (.c (.s4 (.s (.s .z))) (.c (.s .z) (.c .z .n))) (by first | omega | (simp only [List.length_append, List.length_cons, List.length_nil]; omega)) (by first | omega | (simp only [List.length_append, List.length_cons, List.length_nil]; omega))) ?_
 rintro _ _ rfl
 refine FJ.know (WS.oform .z) ?_
 rintro ⟨Ao24, co24, rfl, hlo24, hmo24, hbo24⟩
 refine FJ.er (.s16 .z) (FJ.ql rfl (q_assign rfl (.t .z)) (FJ.nil (FJ.then_ (FJ.region ?_))))
 refine FJ.ql rfl (q_move rfl (.t (.s16 (.s4 (.s .z))))) (FJ.ql rfl (q_fieldAddr rfl (.t (.s4 (.s4 (.s4 (.s (.s .z)))))) (fun _ => fa_151_1 _ _)) (FJ.ql rfl (q_load rfl ag_2 (.t .z) (WS.row (.s4 .z) rfl)) (FJ.ql rfl (q_move rfl (.t (.s4 (.s4 (.s .z))))) (FJ.ql rfl (q_move rfl (.t (.s4 .z))) ?_))))
 refine FJ.call (goes_list rfl) rfl (by decide) rfl (c_call rfl Tryz.func141 rfl rfl (args4 (.t (.s4 .z)) (.t (.s (.s .z))) (.t (.s .z)) (.t .z))) (.c .z .n) (fun w1 S1 hs tr => ih (d - 1) (by omega) (tr.ctxP h0) _ (tr.own .z) hs (by assumption) (by first | assumption | exact place_0 ht) (by first | exact snoc_ok hok (by assumption) | simp) (by first | rfl | omega | (simp only [List.length_append, List.length_cons, List.length_nil]; omega)) (by first | omega | (simp only [List.length_append, List.length_cons, List.length_nil]; omega) | (have := cB_le (Nat.le_refl 6); simp only [List.length_nil]; omega))) ?_
 rintro _ _ rfl
 refine FJ.cat (.c .n) ?_
 refine FJ.know (WS.oform .z) ?_
 rintro ⟨Ao26, co26, rfl, hlo26, hmo26, hbo26⟩
 refine FJ.er (.s4 (.s (.s .z))) (FJ.ql rfl (q_assign rfl (.t .z)) (FJ.nil (FJ.inBN (FJ.then_ ?_))))
 refine FJ.region ?_
 refine FJ.ql rfl (q_add (c := ((k + 1 : Nat) : Int)) rfl (.t (.s16 (.s4 (.s (.s (.s .z)))))) .c (wr (by omega) (by omega) (by omega))) ?_
 refine FJ.er (.s16 (.s4 (.s4 .z))) (FJ.ql rfl (q_move rfl (.t .z)) (FJ.nil ?_))
 have he27 : ((L ++ belowQ f.inodes d a x k) ++ [joinB (x ++ [x14.name])]) ++ belowP (f).inodes (d - 1) x14.ino (x ++ [x14.name]) = L ++ belowQ f.inodes d a x (k + 1) := (by rw [bq_s hd0 hnex14]; simp)
 refine FJ.ceq .z he27 ?_
 refine FJ.chEq .z (congrArg (fun z_ : Nat => (ownA kSl_9 (L ++ belowQ f.inodes d a x (k + 1)) [.slice Ao26 z_ co26] : Asn)) (congrArg List.length he27)) ?_
 refine FJ.eq (.s (.s .z)) (congrArg (fun z_ : Nat => (.slice Ao26 z_ co26 : Value)) (congrArg List.length he27)) ?_
 refine FJ.eq (.s (.s (.s .z))) (congrArg (fun z_ : Nat => (.slice Ao26 z_ co26 : Value)) (congrArg List.length he27)) ?_
 refine FJ.again ((k + 1), Ao26, co26) (by omega) (by first | omega | (dsimp only; omega)) (.c (.s .z) (.c (.s (.s .z)) (.c (.s16 (.s4 (.s4 (.s .z)))) (.c (.s16 (.s4 (.s4 (.s (.s .z))))) (.c (.s16 (.s4 (.s4 (.s (.s (.s .z)))))) (.c (.s16 (.s4 (.s4 (.s4 .z)))) (.c (.s16 (.s4 (.s4 (.s4 (.s .z))))) .n))))))) (fun _ h => h.sel (.c .z .n))
 refine FJ.exit (FJ.thenE (FJ.thenE (FJ.inB (FJ.then_ ?_))))
 refine FJ.seq (FJ.region (FJ.ql rfl (q_move rfl (.t (.s .z))) (FJ.er (.s4 (.s (.s .z))) (FJ.ql rfl (q_assign rfl (.t .z)) ?_))))
 refine FJ.nil (FJ.then_ (FJ.ret ?_))
 refine FJ.doneS (res1 rfl .z) (.c .z .n) ?_
 rw [← bq_end (k := k) (.inr ⟨hd0, by rw [nx7]; omega⟩)]
theorem c_141 {w0 : World} {S0 : Bs} {f : DFs} {ad0 : Addr} (h0 : PtrRo kT_31 w0 (FF w0 S0) ad0 f) (a : Int) {x : List ByteArray} {v2 : Value} (h2 : kSl_9.ro w0 (FF w0 S0) x [v2]) {L : List ByteArray} {v3 : Value} (hs : Star [ownA kSl_9 L [v3]] w0 S0) (ht : treeFault f = 0) (hp : placeIn f.inodes.length a) (hok : ∀ s, s ∈ x → nameFault s = 0) (d : Nat) (hd : x.length + d = 6) (hL : L.length + cB d ≤ 55986) : Calls Tryz.prog 141 #[.pointer (some ad0), .int .i64 a, v2, v3] w0 (TriPost w0 S0 (fun r l => l = [ownA kSl_9 (L ++ belowP f.inodes d a x) [r]])) := by
 have key : ∀ n : Nat, ∀ {w0 : World} {S0 : Bs} {f : DFs} {ad0 : Addr} (h0 : PtrRo kT_31 w0 (FF w0 S0) ad0 f) (a : Int) {x : List ByteArray} {v2 : Value} (h2 : kSl_9.ro w0 (FF w0 S0) x [v2]) {L : List ByteArray} {v3 : Value} (hs : Star [ownA kSl_9 L [v3]] w0 S0) (ht : treeFault f = 0) (hp : placeIn f.inodes.length a) (hok : ∀ s, s ∈ x → nameFault s = 0) (hd : x.length + n = 6) (hL : L.length + cB n ≤ 55986), Calls Tryz.prog 141 #[.pointer (some ad0), .int .i64 a, v2, v3] w0 (TriPost w0 S0 (fun r l => l = [ownA kSl_9 (L ++ belowP f.inodes n a x) [r]])) := fun n => by
  induction n using Nat.strongRecOn with
  | _ n ih => exact fun h0 a _ _ h2 _ _ hs ht hp hok hd hL => c_141s h0 a h2 hs ht hp hok n hd hL ih
 exact key d h0 a h2 hs ht hp hok hd hL

set_option maxHeartbeats 1000000 in
set_option maxRecDepth 20000 in
theorem c_80 {w0 : World} {S0 : Bs} {f : DFs} {ad0 : Addr} (h0 : PtrRo kT_31 w0 (FF w0 S0) ad0 f) (ht : treeFault f = 0) :
    Calls Tryz.prog 80 #[.pointer (some ad0)] w0 (TriPost w0 S0 (fun r l => l = [ownA kSl_9 (List.take 60 (belowP f.inodes 6 0 [])) [r]])) := by
 obtain ⟨ec0, hF0, hr0, hc0⟩ := id h0
 obtain ⟨u0_0, u0_1, rfl, h0_0, h0_1⟩ := kT_31_ro hr0
 obtain ⟨A0_0, c0_0, rfl, hl0_0, hm0_0, hb0_0, he0_0⟩ := ro_form h0_0
 obtain ⟨A0_1, c0_1, rfl, hl0_1, hm0_1, hb0_1, he0_1⟩ := ro_form h0_1
 have hcb := bp_len (treeI ht) 6 0 []
 have hc6 := cB_le (Nat.le_refl 6)
 refine FJ.enter (N := 11) Tryz.func80 rfl rfl (by simp) [(0, .pointer (some ad0))] (by simp) (l0 := []) trivial ?_
 refine FJ.seq (FJ.region (FJ.ql rfl (q_assign rfl .c) (FJ.nil (FJ.then_ ?_))))
 refine FJ.seq (FJ.region (FJ.ql rfl (q_move rfl (.t (.s .z))) ?_))
 refine FJ.add (c := ownA kSl_9 [] [.slice none 0 0]) (fun w S => own_nil w S none) ?_
 refine FJ.call (goes_list rfl) rfl (by decide) rfl (c_call rfl Tryz.func141 rfl rfl (args4 (.t .z) .c .c .c)) (.c .z .n) (fun w1 S1 hs tr => c_141 (tr.ctxP h0) _ ro_nil hs (by assumption) (by first | assumption | exact place_0 ht) (by first | exact snoc_ok hok (by assumption) | simp) 6 (by first | rfl | omega | (simp only [List.length_append, List.length_cons, List.length_nil]; omega)) (by first | omega | (simp only [List.length_append, List.length_cons, List.length_nil]; omega) | (have := cB_le (Nat.le_refl 6); simp only [List.length_nil]; omega))) ?_
 rintro _ _ rfl
 refine FJ.cat (.c .n) ?_
 refine FJ.ceq (x' := belowP (f).inodes 6 0 ([])) .z (List.nil_append _) ?_
 refine FJ.know (WS.oform .z) ?_
 rintro ⟨Ao5, co5, rfl, hlo5, hmo5, hbo5⟩
 refine FJ.ql rfl (q_assign rfl (.t .z)) (FJ.nil (FJ.then_ (FJ.seq (FJ.region ?_))))
 refine FJ.ql rfl (q_move rfl (.t .z)) (FJ.ql rfl (q_move rfl (.t (.s .z))) (FJ.ql rfl (q_len rfl u_51 (.t .z)) ?_))
 have hm6 := minI_spec ((belowP (f).inodes 6 0 ([])).length : Int) 60
 refine FJ.ql rfl (q_min rfl (.t .z) .c) ?_
 refine FJ.know (WS.ocap .z) ?_
 rintro ⟨-, hk7, -, -⟩
 have hm8 : (List.take (Int.toNat (minI ((belowP (f).inodes 6 0 ([])).length : Int) 60)) (belowP (f).inodes 6 0 ([]))).length = Int.toNat (minI ((belowP (f).inodes 6 0 ([])).length : Int) 60) := by rw [List.length_take]; omega
 refine FJ.eq .z (congrArg (Value.int .i64) (show minI ((belowP (f).inodes 6 0 ([])).length : Int) 60 = (((List.take (Int.toNat (minI ((belowP (f).inodes 6 0 ([])).length : Int) 60)) (belowP (f).inodes 6 0 ([]))).length : Nat) : Int) by rw [hm8]; try omega)) ?_
 refine FJ.turns (c := ownA kSl_9 (List.take (Int.toNat (minI ((belowP (f).inodes 6 0 ([])).length : Int) 60)) (belowP (f).inodes 6 0 ([]))) [.slice Ao5 ((List.take (Int.toNat (minI ((belowP (f).inodes 6 0 ([])).length : Int) 60)) (belowP (f).inodes 6 0 ([]))).length) co5]) (.c .z .n) (own_take' (by omega)) ?_
 refine FJ.ql rfl (q_sliceTake (b := (List.take (Int.toNat (minI ((belowP (f).inodes 6 0 ([])).length : Int) 60)) (belowP (f).inodes 6 0 ([]))).length) rfl u_51 sz_9 (.t (.s (.s (.s .z)))) (.t .z) (by omega)) ?_
 refine FJ.er (.s4 (.s4 .z)) (FJ.ql rfl (q_assign rfl (.t .z)) (FJ.nil (FJ.then_ (FJ.ret ?_))))
 refine FJ.ceq (x' := List.take 60 (belowP f.inodes 6 0 [])) .z (by first | (exact take_min _) | rfl | (rw [List.take_of_length_le (by omega)])) ?_
 refine FJ.doneS (res1 rfl .z) (.c .z .n) ?_
 rfl

set_option maxHeartbeats 1000000 in
set_option maxRecDepth 20000 in
theorem c_137s {w0 : World} {S0 : Bs} {f : DFs} {ad0 : Addr} (h0 : PtrRo kT_31 w0 (FF w0 S0) ad0 f) (a : Int) (p : ByteArray) (hz2 : p.size ≤ 140737488351232) (m : Int) (ht : treeFault f = 0) (hp : placeIn f.inodes.length a) (ns : List ByteArray) (hpn : p = jnB ns) (hok : ∀ s, s ∈ ns → nameFault s = 0) (d : Nat) (hm : m = (d : Int)) (hd : ns.length + d = 6) (ih : ∀ (n' : Nat), n' < d → ∀ {w0 : World} {S0 : Bs} {f : DFs} {ad0 : Addr} (h0 : PtrRo kT_31 w0 (FF w0 S0) ad0 f) (a : Int) (p : ByteArray) (hz2 : p.size ≤ 140737488351232) (m : Int) (ht : treeFault f = 0) (hp : placeIn f.inodes.length a) (ns : List ByteArray) (hpn : p = jnB ns) (hok : ∀ s, s ∈ ns → nameFault s = 0) (hm : m = (n' : Int)) (hd : ns.length + n' = 6), Calls Tryz.prog 137 #[.pointer (some ad0), .int .i64 a, .string p, .int .i64 m] w0 (TriPost w0 S0 (fun r l => l = [ownA kSl_9 (belowP f.inodes n' a ns) [r]]))) :
    Calls Tryz.prog 137 #[.pointer (some ad0), .int .i64 a, .string p, .int .i64 m] w0 (TriPost w0 S0 (fun r l => l = [ownA kSl_9 (belowP f.inodes d a ns) [r]])) := by
 obtain ⟨ec0, hF0, hr0, hc0⟩ := id h0
 obtain ⟨u0_0, u0_1, rfl, h0_0, h0_1⟩ := kT_31_ro hr0
 obtain ⟨A0_0, c0_0, rfl, hl0_0, hm0_0, hb0_0, he0_0⟩ := ro_form h0_0
 obtain ⟨A0_1, c0_1, rfl, hl0_1, hm0_1, hb0_1, he0_1⟩ := ro_form h0_1
 have hI := treeI ht
 obtain ⟨hp1, hp2⟩ := hp
 have hps : p.size ≤ 30 := (by rw [hpn]; have := jnB_size hok; omega)
 have h47 : (⟨#[47]⟩ : ByteArray).size = 1 := rfl
 have hc6 := cB_le (d := d) (by omega)
 have hc5 := cB_le (d := d - 1) (by omega)
 refine FJ.enter (N := 71) Tryz.func137 rfl rfl (by simp) [(0, .pointer (some ad0)), (1, .int .i64 a), (2, .string p), (3, .int .i64 m)] (by simp) (l0 := []) trivial ?_
 refine FJ.seq (FJ.region (FJ.ql rfl (q_assign rfl .c) (FJ.nil (FJ.then_ ?_))))
 refine FJ.seq (FJ.region ?_)
 refine FJ.e (goes_list rfl) rfl (by decide) rfl (e_buildNil rfl u_51 (inz inf_9)) ?_
 rintro _ _ ⟨g3, rfl, rfl⟩
 refine FJ.ql rfl (q_assign rfl (.t .z)) (FJ.nil (FJ.then_ (FJ.seq (FJ.seq ?_))))
 refine FJ.region (FJ.ql rfl (q_assign rfl .c) (FJ.nil (FJ.then_ (FJ.block ?_))))
 refine FJ.add (c := ownA kSl_9 ([] : (List ByteArray)) [.slice (some ⟨g3, 0, none⟩) 0 0]) (fun w S => own_nil w S _) ?_
 obtain ⟨ad5, hAad5, hrad5⟩ := he0_0 (by omega)
 subst hAad5
 obtain ⟨x6, hx6⟩ := get_ex (xs := f.inodes) (j := Int.toNat a) (by omega)
 obtain ⟨ece7, hre7, hFe7, hce7⟩ := hrad5.elem hx6
 obtain ⟨ue7_3, ue7_4, rfl, he7_3, he7_4⟩ := kT_73_ro hre7
 obtain ⟨Ae7_3, ce7_3, rfl, hle7_3, hme7_3, hbe7_3, hee7_3⟩ := ro_form he7_3
 obtain ⟨Ae7_4, ce7_4, rfl, hle7_4, hme7_4, hbe7_4, hee7_4⟩ := ro_form he7_4
 have kx6 := kind_at (i := a) hx6 (by omega)
 have nx6 := ents_at (a := a) hx6 (by omega)
 have lx6 := links_at (a := a) hx6 (by omega)
 have zx6 := size_at (a := a) hx6 (by omega)
 refine FJ.loopi (γ := Nat × (Option Addr) × Nat) (fun ⟨k, Agk0, cgk0⟩ => [(10, .int .i64 (k : Int)), (9, .slice Agk0 (belowQ f.inodes d a ns k).length cgk0), (8, .slice none 0 0), (0, .pointer (some ad0)), (1, .int .i64 a), (2, .string p), (3, .int .i64 m)]) (fun ⟨k, Agk0, cgk0⟩ => [ownA kSl_9 (belowQ f.inodes d a ns k) [.slice Agk0 (belowQ f.inodes d a ns k).length cgk0], rowA g3 9 1 0 []]) (fun ⟨k, Agk0, cgk0⟩ => k ≤ x6.ents.length ∧ (d = 0 → k = 0)) (fun ⟨k, Agk0, cgk0⟩ => x6.ents.length - k) (0, (some ⟨g3, 0, none⟩), 0) ⟨Nat.zero_le _, fun _ => rfl⟩ (.c .z (.c (.s .z) (.c (.s (.s (.s .z))) (.c (.s4 .z) (.c (.s4 (.s .z)) (.c (.s4 (.s (.s .z))) (.c (.s4 (.s (.s (.s .z)))) .n))))))) (fun _ h => h.sel (.c .z (.c .z .n))) ?_
 rintro ⟨k, Agk0, cgk0⟩ ⟨hk, h0k⟩
 refine FJ.seq (FJ.seq (FJ.region (FJ.ql rfl (q_move rfl (.t (.s4 (.s (.s .z))))) (FJ.ql rfl (q_gtr rfl (.t .z) .c) ?_))))
 refine FJ.ql rfl (q_move rfl (.t .z)) ?_
 refine FJ.caseP .z (fun g10 => ?_) (fun g10 => ?_)
 have hd0 : 0 < d := by omega
 refine FJ.q (goes_listg rfl rfl .z) rfl (by decide) rfl (q_move rfl (.t (.s (.s (.s .z))))) ?_
 refine FJ.q (goes_listg rfl rfl (.s .z)) rfl (by decide) rfl (q_move rfl (.t (.s4 (.s (.s (.s .z)))))) ?_
 refine FJ.q (goes_listg rfl rfl (.s (.s .z))) rfl (by decide) rfl (q_nilCheck rfl (.t .z)) ?_
 refine FJ.q (goes_listg rfl rfl (.s (.s (.s .z)))) rfl (by decide) rfl (q_fieldAddr rfl (.t .z) (fun _ => fa_31_0 _ _)) ?_
 refine FJ.q (goes_listg rfl rfl (.s4 .z)) rfl (by decide) rfl (q_load rfl ag_29 (.t .z) (WS.el hF0 hc0 rfl)) ?_
 refine FJ.q (goes_listg rfl rfl (.s4 (.s .z))) rfl (by decide) rfl (q_move rfl (.t (.s4 (.s4 (.s4 .z))))) ?_
 refine FJ.q (goes_listg rfl rfl (.s4 (.s (.s .z)))) rfl (by decide) rfl (q_indexAddr (j := Int.toNat a) rfl u_29 sz_73 (.t (.s .z)) (.t .z) (by omega) (by omega)) ?_
 refine FJ.q (goes_listg rfl rfl (.s4 (.s (.s (.s .z))))) rfl (by decide) rfl (q_fieldAddr rfl (.t .z) (fun _ => fa_73_4 _ _)) ?_
 refine FJ.q (goes_listg rfl rfl (.s4 (.s4 .z))) rfl (by decide) rfl (q_load rfl ag_71 (.t .z) (WS.el hFe7 hce7 rfl)) ?_
 refine FJ.q (goes_listg rfl rfl (.s4 (.s4 (.s .z)))) rfl (by decide) rfl (q_len rfl u_71 (.t .z)) ?_
 refine FJ.q (goes_listg rfl rfl (.s4 (.s4 (.s (.s .z))))) rfl (by decide) rfl (q_lss rfl (.t (.s4 (.s4 (.s .z)))) (.t .z)) ?_
 refine FJ.ql rfl (q_pickT rfl (.t (.s4 (.s4 (.s (.s (.s .z)))))) (.t .z)) (FJ.nil (FJ.then_ ?_))
 refine FJ.condP (.t .z) (fun b11 => ?_) (fun b11 => ?_)
 refine FJ.skip (FJ.then_ (FJ.seq (FJ.block (FJ.seq ?_))))
 refine FJ.region (FJ.ql rfl (q_move rfl (.t (.s16 (.s (.s .z))))) (FJ.ql rfl (q_nilCheck rfl (.t .z)) (FJ.ql rfl (q_fieldAddr rfl (.t .z) (fun _ => fa_31_0 _ _)) (FJ.ql rfl (q_load rfl ag_29 (.t .z) (WS.el hF0 hc0 rfl)) ?_))))
 refine FJ.ql rfl (q_move rfl (.t (.s16 (.s4 (.s (.s (.s .z))))))) ?_
 refine FJ.ql rfl (q_indexAddr (j := Int.toNat a) rfl u_29 sz_73 (.t (.s .z)) (.t .z) (by omega) (by omega)) ?_
 refine FJ.ql rfl (q_fieldAddr rfl (.t .z) (fun _ => fa_73_4 _ _)) (FJ.ql rfl (q_load rfl ag_71 (.t .z) (WS.el hFe7 hce7 rfl)) (FJ.ql rfl (q_move rfl (.t (.s16 (.s4 (.s (.s (.s .z))))))) ?_))
 obtain ⟨ad12, hAad12, hrad12⟩ := hee7_4 (by omega)
 subst hAad12
 obtain ⟨x13, hx13⟩ := get_ex (xs := x6.ents) (j := k) (by omega)
 obtain ⟨ece14, hre14, hFe14, hce14⟩ := hrad12.elem hx13
 obtain ⟨rfl, se14_0⟩ := kT_151_ro hre14
 have hnex13 : (entsAt f.inodes a)[k]? = some x13 := by rw [nx6]; exact hx13
 have hnmx13 := ent_name ht hnex13
 have hepx13 := ent_place ht hnex13
 have hn4x13 := (name_4 hnmx13).1
 have hrmx13 := bq_room (d := d) (a := a) (ns := ns) hI hd0 (List.getElem?_eq_some_iff.1 hnex13).1
 refine FJ.ql rfl (q_indexAddr (j := k) rfl u_71 sz_151 (.t (.s .z)) (.t .z) rfl (by omega)) ?_
 refine FJ.ql rfl (q_loadA (cs := [.string x13.name, .int .i64 x13.ino]) rfl ag_151 sz_151 (.t .z) (WS.els hFe14 hce14)) ?_
 refine FJ.e (goes_list rfl) rfl (by decide) rfl (e_alloc rfl z_151 rfl rfl) ?_
 rintro _ _ ⟨g15, rfl, rfl⟩
 refine FJ.es (goes_list rfl) rfl (es_store (off := 0) (cs := [.string x13.name, .int .i64 x13.ino]) rfl sz_151 (.t .z) (.t (.s .z)) rfl (ones rfl) .z (Nat.le_of_ble_eq_true rfl) (.c .z (.c (.s .z) .n))) ?_
 refine FJ.nil (FJ.then_ (FJ.seq (FJ.region (FJ.ql rfl (q_move rfl (.t (.s16 (.s16 .z)))) ?_))))
 refine FJ.ql rfl (q_sadd rfl (.t .z) .c (by first | omega | (rw [ByteArray.size_append]; omega))) ?_
 refine FJ.ql rfl (q_fieldAddr rfl (.t (.s (.s .z))) (fun _ => fa_151_0 _ _)) (FJ.ql rfl (q_load rfl ag_9 (.t .z) (WS.row .z rfl)) ?_)
 refine FJ.ql rfl (q_sadd rfl (.t (.s (.s .z))) (.t .z) (by first | omega | (rw [ByteArray.size_append]; omega))) ?_
 refine FJ.ql rfl (q_assign rfl (.t .z)) (FJ.nil (FJ.then_ (FJ.seq (FJ.region ?_))))
 refine FJ.ql rfl (q_move rfl (.t (.s16 (.s16 (.s (.s .z)))))) (FJ.ql rfl (q_move rfl (.t (.s .z))) ?_)
 refine FJ.e (goes_list rfl) rfl (by decide) rfl (e_buildSliceL (ps := [(0, .string ((p ++ (⟨#[47]⟩)) ++ x13.name))]) (cs := [.string ((p ++ (⟨#[47]⟩)) ++ x13.name)]) rfl u_51 (inz inf_9) (by decide) (by intro act hact; simp only [List.map_toArray, List.map_cons, List.map_nil, (show Val _ _ _ from (.t .z)) act hact]) rfl rfl (by decide) rfl rfl) ?_
 rintro _ _ ⟨g16, rfl, rfl⟩
 refine FJ.add (c := ownA kstr ((p ++ (⟨#[47]⟩)) ++ x13.name) [.string ((p ++ (⟨#[47]⟩)) ++ x13.name)]) (fun _ _ => ⟨rfl, by first | assumption | omega | exact cat3_size (by omega)⟩) ?_
 refine FJ.e (goes_list rfl) rfl (by decide) rfl (e_append1 rfl u_51 inf_9 rfl (.t (.s (.s .z))) (.t .z) (.c (.s (.s (.s .z))) (.c (.s .z) (.c .z .n))) (by first | omega | (simp only [List.length_append, List.length_cons, List.length_nil]; omega)) (by first | omega | (simp only [List.length_append, List.length_cons, List.length_nil]; omega))) ?_
 rintro _ _ rfl
 refine FJ.know (WS.oform .z) ?_
 rintro ⟨Ao18, co18, rfl, hlo18, hmo18, hbo18⟩
 refine FJ.er (.s16 (.s16 (.s4 (.s (.s .z))))) (FJ.ql rfl (q_assign rfl (.t .z)) (FJ.nil (FJ.then_ (FJ.seq ?_))))
 refine FJ.draw [ownA kSl_9 ((belowQ f.inodes d a ns k) ++ [(p ++ (⟨#[47]⟩)) ++ x13.name]) [.slice Ao18 ((belowQ f.inodes d a ns k) ++ [(p ++ (⟨#[47]⟩)) ++ x13.name]).length co18], rowA g15 151 2 1 [.string x13.name, .int .i64 x13.ino], rowA g3 9 1 0 []] 10 (by kernel_rfl) ?_
 refine FJ.sch [(0, true), (1, true), (2, true), (3, true), (4, true), (5, true), (6, true), (7, true), (8, true), (9, true)] 0 #[true, true, true, true, true, true, true, true, true, true] (by rfl) (by kernel_rfl) ?_
 refine FJ.dq rfl rfl rfl (by decide) rfl .z (q_move rfl (.t (.s16 (.s16 (.s4 (.s4 .z)))))) (FJ.dq rfl rfl rfl (by decide) rfl .z (q_nilCheck rfl (.t .z)) (FJ.dq rfl rfl rfl (by decide) rfl .z (q_fieldAddr rfl (.t .z) (fun _ => fa_31_0 _ _)) (FJ.dq rfl rfl rfl (by decide) rfl .z (q_load rfl ag_29 (.t .z) (WS.el hF0 hc0 rfl)) (FJ.dq rfl rfl rfl (by decide) rfl .z (q_fieldAddr rfl (.t (.s4 (.s4 (.s4 (.s (.s (.s .z))))))) (fun _ => fa_151_1 _ _)) ?_))))
 refine FJ.dq rfl rfl rfl (by decide) rfl .z (q_load rfl ag_2 (.t .z) (WS.row (.s .z) rfl)) ?_
 obtain ⟨x19, hx19⟩ := get_ex (xs := f.inodes) (j := Int.toNat x13.ino) (by omega)
 obtain ⟨ece20, hre20, hFe20, hce20⟩ := hrad5.elem hx19
 obtain ⟨ue20_3, ue20_4, rfl, he20_3, he20_4⟩ := kT_73_ro hre20
 obtain ⟨Ae20_3, ce20_3, rfl, hle20_3, hme20_3, hbe20_3, hee20_3⟩ := ro_form he20_3
 obtain ⟨Ae20_4, ce20_4, rfl, hle20_4, hme20_4, hbe20_4, hee20_4⟩ := ro_form he20_4
 have kx19 := kind_at (i := x13.ino) hx19 (by omega)
 have nx19 := ents_at (a := x13.ino) hx19 (by omega)
 have lx19 := links_at (a := x13.ino) hx19 (by omega)
 have zx19 := size_at (a := x13.ino) hx19 (by omega)
 refine FJ.dq rfl rfl rfl (by decide) rfl .z (q_indexAddr (j := Int.toNat x13.ino) rfl u_29 sz_73 (.t (.s (.s .z))) (.t .z) (by omega) (by omega)) ?_
 refine FJ.dq rfl rfl rfl (by decide) rfl .z (q_fieldAddr rfl (.t .z) (fun _ => fa_73_0 _ _)) (FJ.dq rfl rfl rfl (by decide) rfl .z (q_load rfl ag_2 (.t .z) (WS.el hFe20 hce20 rfl)) (FJ.dq rfl rfl rfl (by decide) rfl .z (q_eql rfl (.t .z) .c) (FJ.schN ?_)))
 refine FJ.drawN (by kernel_rfl) ?_
 refine FJ.then_ ?_
 refine FJ.condP (.t .z) (fun b23 => ?_) (fun b23 => ?_)
 refine FJ.region (FJ.ql rfl (q_move rfl (.t (.s4 (.s4 (.s (.s .z)))))) (FJ.ql rfl (q_move rfl (.t (.s16 (.s16 (.s16 (.s (.s (.s .z)))))))) (FJ.ql rfl (q_fieldAddr rfl (.t (.s16 (.s4 (.s (.s (.s .z)))))) (fun _ => fa_151_1 _ _)) (FJ.ql rfl (q_load rfl ag_2 (.t .z) (WS.row (.s .z) rfl)) ?_))))
 refine FJ.ql rfl (q_move rfl (.t (.s16 (.s (.s (.s .z)))))) (FJ.ql rfl (q_move rfl (.t (.s16 (.s16 (.s16 (.s4 (.s4 (.s (.s .z))))))))) ?_)
 refine FJ.ql rfl (q_sub (c := m - 1) rfl (.t .z) .c (wr (by omega) (by omega) (by omega))) ?_
 refine FJ.call (goes_list rfl) rfl (by decide) rfl (c_call rfl Tryz.func137 rfl rfl (args4 (.t (.s4 (.s .z))) (.t (.s (.s (.s .z)))) (.t (.s (.s .z))) (.t .z))) .n (fun w1 S1 hs tr => ih (d - 1) (by omega) (tr.ctxP h0) _ _ (by rw [ByteArray.size_append, ByteArray.size_append]; omega) _ (by assumption) (by first | assumption | exact place_0 ht) (ns ++ [x13.name]) (by rw [hpn, jn_snoc, jn_join]) (snoc_ok hok (by assumption)) (by omega) (by first | rfl | (simp only [List.length_append, List.length_cons, List.length_nil]; omega))) ?_
 rintro _ _ rfl
 refine FJ.cat (.c .n) ?_
 refine FJ.know (WS.oform .z) ?_
 rintro ⟨Ao25, co25, rfl, hlo25, hmo25, hbo25⟩
 have hbll24 := bp_len (treeI ht) (d - 1) x13.ino (ns ++ [x13.name])
 refine FJ.e (goes_list rfl) rfl (by decide) rfl (e_appendF (flat_scalar _ _ _) rfl u_51 inf_9 rfl (.t (.s4 (.s (.s (.s .z))))) (.t .z) (.c (.s .z) .n) (fun w1 S1 tr => tr.own .z) (by first | omega | (simp only [List.length_append, List.length_cons, List.length_nil]; omega)) (by first | omega | (simp only [List.length_append, List.length_cons, List.length_nil]; omega))) ?_
 rintro _ _ rfl
 refine FJ.know (WS.oform .z) ?_
 rintro ⟨Ao26, co26, rfl, hlo26, hmo26, hbo26⟩
 refine FJ.er (.s16 (.s (.s (.s .z)))) (FJ.ql rfl (q_assign rfl (.t .z)) (FJ.nil (FJ.inBN (FJ.then_ ?_))))
 refine FJ.region (FJ.ql rfl (q_move rfl (.t (.s16 (.s16 (.s16 (.s4 (.s4 (.s .z)))))))) ?_)
 refine FJ.ql rfl (q_add (c := ((k + 1 : Nat) : Int)) rfl (.t .z) .c (wr (by omega) (by omega) (by omega))) ?_
 refine FJ.er (.s16 (.s16 (.s16 (.s4 (.s4 (.s (.s (.s .z)))))))) (FJ.ql rfl (q_assign rfl (.t .z)) (FJ.nil ?_))
 have he27 : ((belowQ f.inodes d a ns k) ++ [(p ++ (⟨#[47]⟩)) ++ x13.name]) ++ (belowP (f).inodes (d - 1) x13.ino (ns ++ [x13.name])) = belowQ f.inodes d a ns (k + 1) := (by rw [bq_s hd0 hnex13, ← jn_snoc, ← hpn]; simp)
 refine FJ.ceq .z he27 ?_
 refine FJ.chEq .z (congrArg (fun z_ : Nat => (ownA kSl_9 (belowQ f.inodes d a ns (k + 1)) [.slice Ao26 z_ co26] : Asn)) (congrArg List.length he27)) ?_
 refine FJ.eq (.s (.s (.s .z))) (congrArg (fun z_ : Nat => (.slice Ao26 z_ co26 : Value)) (congrArg List.length he27)) ?_
 refine FJ.eq (.s4 .z) (congrArg (fun z_ : Nat => (.slice Ao26 z_ co26 : Value)) (congrArg List.length he27)) ?_
 refine FJ.again ((k + 1), Ao26, co26) ⟨by omega, fun h => absurd h (by omega)⟩ (by first | omega | (dsimp only; omega)) (.c (.s (.s .z)) (.c (.s .z) (.c (.s16 (.s16 (.s16 (.s4 (.s4 (.s4 .z)))))) (.c (.s16 (.s16 (.s16 (.s4 (.s4 (.s4 (.s .z))))))) (.c (.s16 (.s16 (.s16 (.s4 (.s4 (.s4 (.s (.s .z)))))))) (.c (.s16 (.s16 (.s16 (.s4 (.s4 (.s4 (.s (.s (.s .z))))))))) (.c (.s16 (.s16 (.s16 (.s16 .z)))) .n))))))) (fun _ h => h.sel (.c .z (.c (.s (.s .z)) .n)))
 refine FJ.skip (FJ.inBN (FJ.then_ (FJ.region (FJ.ql rfl (q_move rfl (.t (.s16 (.s16 (.s16 .z))))) ?_))))
 refine FJ.ql rfl (q_add (c := ((k + 1 : Nat) : Int)) rfl (.t .z) .c (wr (by omega) (by omega) (by omega))) ?_
 refine FJ.er (.s16 (.s16 (.s16 (.s (.s .z))))) (FJ.ql rfl (q_assign rfl (.t .z)) (FJ.nil ?_))
 have he28 : (belowQ f.inodes d a ns k) ++ [(p ++ (⟨#[47]⟩)) ++ x13.name] = belowQ f.inodes d a ns (k + 1) := (by rw [bq_s hd0 hnex13, bp_nodir (treeI ht) (by rw [kx19]; assumption), ← jn_snoc, ← hpn])
 refine FJ.ceq .z he28 ?_
 refine FJ.chEq .z (congrArg (fun z_ : Nat => (ownA kSl_9 (belowQ f.inodes d a ns (k + 1)) [.slice Ao18 z_ co18] : Asn)) (congrArg List.length he28)) ?_
 refine FJ.eq (.s4 (.s4 (.s4 (.s .z)))) (congrArg (fun z_ : Nat => (.slice Ao18 z_ co18 : Value)) (congrArg List.length he28)) ?_
 refine FJ.eq (.s4 (.s4 (.s4 (.s (.s .z))))) (congrArg (fun z_ : Nat => (.slice Ao18 z_ co18 : Value)) (congrArg List.length he28)) ?_
 refine FJ.again ((k + 1), Ao18, co18) ⟨by omega, fun h => absurd h (by omega)⟩ (by first | omega | (dsimp only; omega)) (.c (.s (.s .z)) (.c (.s .z) (.c (.s16 (.s16 (.s16 (.s (.s (.s .z)))))) (.c (.s16 (.s16 (.s16 (.s4 .z)))) (.c (.s16 (.s16 (.s16 (.s4 (.s .z))))) (.c (.s16 (.s16 (.s16 (.s4 (.s (.s .z)))))) (.c (.s16 (.s16 (.s16 (.s4 (.s (.s (.s .z))))))) .n))))))) (fun _ h => h.sel (.c .z (.c (.s .z) .n)))
 refine FJ.exit (FJ.thenE (FJ.thenE (FJ.inB (FJ.then_ ?_))))
 refine FJ.seq (FJ.region (FJ.ql rfl (q_move rfl (.t (.s16 .z))) (FJ.er (.s16 (.s (.s .z))) (FJ.ql rfl (q_assign rfl (.t .z)) ?_))))
 refine FJ.nil (FJ.then_ (FJ.ret ?_))
 refine FJ.doneS (res1 rfl .z) (.c .z .n) ?_
 rw [← bq_end (k := k) (by first | exact .inl ⟨by omega, h0k (by omega)⟩ | exact .inr ⟨by omega, by rw [nx6]; omega⟩)]
 refine FJ.skipl rfl rfl .z rfl rfl (by decide) rfl ?_
 refine FJ.skipl rfl rfl (.s .z) rfl rfl (by decide) rfl ?_
 refine FJ.skipl rfl rfl (.s (.s .z)) rfl rfl (by decide) rfl ?_
 refine FJ.skipl rfl rfl (.s (.s (.s .z))) rfl rfl (by decide) rfl ?_
 refine FJ.skipl rfl rfl (.s4 .z) rfl rfl (by decide) rfl ?_
 refine FJ.skipl rfl rfl (.s4 (.s .z)) rfl rfl (by decide) rfl ?_
 refine FJ.skipl rfl rfl (.s4 (.s (.s .z))) rfl rfl (by decide) rfl ?_
 refine FJ.skipl rfl rfl (.s4 (.s (.s (.s .z)))) rfl rfl (by decide) rfl ?_
 refine FJ.skipl rfl rfl (.s4 (.s4 .z)) rfl rfl (by decide) rfl ?_
 refine FJ.skipl rfl rfl (.s4 (.s4 (.s .z))) rfl rfl (by decide) rfl ?_
 refine FJ.skipl rfl rfl (.s4 (.s4 (.s (.s .z)))) rfl rfl (by decide) rfl ?_
 refine FJ.ql rfl (q_pickF rfl (.t (.s4 (.s4 (.s (.s (.s .z)))))) .c) (FJ.nil (FJ.then_ ?_))
 refine FJ.condF (.t .z) ?_
 refine FJ.exit (FJ.thenE (FJ.thenE (FJ.inB (FJ.then_ ?_))))
 refine FJ.seq (FJ.region (FJ.ql rfl (q_move rfl (.t (.s16 .z))) (FJ.er (.s16 (.s (.s .z))) (FJ.ql rfl (q_assign rfl (.t .z)) ?_))))
 refine FJ.nil (FJ.then_ (FJ.ret ?_))
 refine FJ.doneS (res1 rfl .z) (.c .z .n) ?_
 rw [← bq_end (k := k) (by first | exact .inl ⟨by omega, h0k (by omega)⟩ | exact .inr ⟨by omega, by rw [nx6]; omega⟩)]
theorem c_137 {w0 : World} {S0 : Bs} {f : DFs} {ad0 : Addr} (h0 : PtrRo kT_31 w0 (FF w0 S0) ad0 f) (a : Int) (p : ByteArray) (hz2 : p.size ≤ 140737488351232) (m : Int) (ht : treeFault f = 0) (hp : placeIn f.inodes.length a) (ns : List ByteArray) (hpn : p = jnB ns) (hok : ∀ s, s ∈ ns → nameFault s = 0) (d : Nat) (hm : m = (d : Int)) (hd : ns.length + d = 6) : Calls Tryz.prog 137 #[.pointer (some ad0), .int .i64 a, .string p, .int .i64 m] w0 (TriPost w0 S0 (fun r l => l = [ownA kSl_9 (belowP f.inodes d a ns) [r]])) := by
 have key : ∀ n : Nat, ∀ {w0 : World} {S0 : Bs} {f : DFs} {ad0 : Addr} (h0 : PtrRo kT_31 w0 (FF w0 S0) ad0 f) (a : Int) (p : ByteArray) (hz2 : p.size ≤ 140737488351232) (m : Int) (ht : treeFault f = 0) (hp : placeIn f.inodes.length a) (ns : List ByteArray) (hpn : p = jnB ns) (hok : ∀ s, s ∈ ns → nameFault s = 0) (hm : m = (n : Int)) (hd : ns.length + n = 6), Calls Tryz.prog 137 #[.pointer (some ad0), .int .i64 a, .string p, .int .i64 m] w0 (TriPost w0 S0 (fun r l => l = [ownA kSl_9 (belowP f.inodes n a ns) [r]])) := fun n => by
  induction n using Nat.strongRecOn with
  | _ n ih => exact fun h0 a p hz2 m ht hp ns hpn hok hm hd => c_137s h0 a p hz2 m ht hp ns hpn hok n hm hd ih
 exact key d h0 a p hz2 m ht hp ns hpn hok hm hd

set_option maxHeartbeats 1000000 in
set_option maxRecDepth 20000 in
theorem c_78 {w0 : World} {S0 : Bs} {f : DFs} {ad0 : Addr} (h0 : PtrRo kT_31 w0 (FF w0 S0) ad0 f) (ht : treeFault f = 0) :
    Calls Tryz.prog 78 #[.pointer (some ad0)] w0 (TriPost w0 S0 (fun r l => l = [ownA kSl_9 (List.take 60 (belowP f.inodes 6 0 [])) [r]])) := by
 obtain ⟨ec0, hF0, hr0, hc0⟩ := id h0
 obtain ⟨u0_0, u0_1, rfl, h0_0, h0_1⟩ := kT_31_ro hr0
 obtain ⟨A0_0, c0_0, rfl, hl0_0, hm0_0, hb0_0, he0_0⟩ := ro_form h0_0
 obtain ⟨A0_1, c0_1, rfl, hl0_1, hm0_1, hb0_1, he0_1⟩ := ro_form h0_1
 refine FJ.enter (N := 12) Tryz.func78 rfl rfl (by simp) [(0, .pointer (some ad0))] (by simp) (l0 := []) trivial ?_
 refine FJ.seq (FJ.region (FJ.ql rfl (q_assign rfl .c) (FJ.nil (FJ.then_ ?_))))
 refine FJ.seq (FJ.region (FJ.ql rfl (q_move rfl (.t (.s .z))) ?_))
 refine FJ.call (goes_list rfl) rfl (by decide) rfl (c_call rfl Tryz.func137 rfl rfl (args4 (.t .z) .c .c .c)) .n (fun w1 S1 hs tr => c_137 (tr.ctxP h0) _ _ (by decide) _ (by assumption) (by first | assumption | exact place_0 ht) [] rfl (by simp) 6 (by omega) (by first | rfl | (simp only [List.length_append, List.length_cons, List.length_nil]; omega))) ?_
 rintro _ _ rfl
 refine FJ.cat (.c .n) ?_
 refine FJ.know (WS.oform .z) ?_
 rintro ⟨Ao4, co4, rfl, hlo4, hmo4, hbo4⟩
 have hbll3 := bp_len (treeI ht) 6 0 []
 refine FJ.ql rfl (q_assign rfl (.t .z)) (FJ.nil (FJ.then_ (FJ.seq (FJ.seq ?_))))
 refine FJ.region (FJ.ql rfl (q_move rfl (.t .z)) (FJ.ql rfl (q_len rfl u_51 (.t .z)) (FJ.ql rfl (q_gtr rfl (.t .z) .c) (FJ.nil ?_))))
 refine FJ.then_ ?_
 refine FJ.condP (.t .z) (fun b5 => ?_) (fun b5 => ?_)
 refine FJ.region (FJ.ql rfl (q_move rfl (.t (.s (.s (.s .z))))) ?_)
 refine FJ.know (WS.ocap .z) ?_
 rintro ⟨-, hk6, -, -⟩
 refine FJ.turns (c := ownA kSl_9 (List.take 60 (belowP (f).inodes 6 0 [])) [.slice Ao4 60 co4]) (.c .z .n) (own_take (by omega)) ?_
 refine FJ.ql rfl (q_sliceTake (b := 60) rfl u_51 sz_9 (.t .z) .c (by omega)) ?_
 refine FJ.er (.s4 (.s .z)) (FJ.ql rfl (q_assign rfl (.t .z)) (FJ.nil (FJ.then_ (FJ.seq ?_))))
 refine FJ.region (FJ.ql rfl (q_move rfl (.t .z)) (FJ.er (.s4 (.s4 (.s .z))) (FJ.ql rfl (q_assign rfl (.t .z)) (FJ.nil ?_))))
 refine FJ.then_ (FJ.ret ?_)
 refine FJ.ceq (x' := List.take 60 (belowP f.inodes 6 0 [])) .z (by first | (exact take_min _) | rfl | (rw [List.take_of_length_le (by omega)])) ?_
 refine FJ.doneS (res1 rfl .z) (.c .z .n) ?_
 rfl
 refine FJ.skip (FJ.then_ (FJ.seq (FJ.region (FJ.ql rfl (q_move rfl (.t (.s (.s (.s .z))))) ?_))))
 refine FJ.er (.s4 (.s (.s (.s .z)))) (FJ.ql rfl (q_assign rfl (.t .z)) (FJ.nil (FJ.then_ (FJ.ret ?_))))
 refine FJ.ceq (x' := List.take 60 (belowP f.inodes 6 0 [])) .z (by first | (exact take_min _) | rfl | (rw [List.take_of_length_le (by omega)])) ?_
 refine FJ.doneS (res1 rfl .z) (.c .z .n) ?_
 rfl

set_option maxHeartbeats 1000000 in
set_option maxRecDepth 20000 in
theorem c_31 {w0 : World} {S0 : Bs} {f : DFs} {cs0 : List Value} (h0 : kT_31.ro w0 (FF w0 S0) f cs0)  :
    Calls Tryz.prog 31 #[.agg cs0.toArray] w0 (TriPost w0 S0 (RA_53 (pathsR f))) := by
 obtain ⟨u0_0, u0_1, rfl, h0_0, h0_1⟩ := kT_31_ro h0
 obtain ⟨A0_0, c0_0, rfl, hl0_0, hm0_0, hb0_0, he0_0⟩ := ro_form h0_0
 obtain ⟨A0_1, c0_1, rfl, hl0_1, hm0_1, hb0_1, he0_1⟩ := ro_form h0_1
 refine FJ.enter (N := 12) Tryz.func31 rfl rfl (by simp) [(0, .agg #[.slice A0_0 f.inodes.length c0_0, .slice A0_1 f.data.length c0_1])] (by simp) (l0 := []) trivial ?_
 refine FJ.seq (FJ.region ?_)
 refine FJ.e (goes_list rfl) rfl (by decide) rfl (e_box (cs := [.slice A0_0 f.inodes.length c0_0, .slice A0_1 f.data.length c0_1]) (n := 2) rfl (.t .z) rfl rfl) ?_
 rintro _ _ ⟨g3, rfl, rfl⟩
 refine FJ.e (goes_list rfl) rfl (by decide) rfl (e_alloc rfl z_53 rfl rfl) ?_
 rintro _ _ ⟨g4, rfl, rfl⟩
 refine FJ.nil (FJ.then_ (FJ.seq (FJ.seq (FJ.region ?_))))
 refine FJ.ql rfl (q_loadA (cs := [.slice A0_0 f.inodes.length c0_0, .slice A0_1 f.data.length c0_1]) rfl ag_31 sz_31 (.t (.s .z)) (WS.rows0 (.s .z) (fun i u h => by exact h))) ?_
 refine FJ.call (goes_list rfl) rfl (by decide) rfl (c_call rfl Tryz.func79 rfl rfl (args1 (.t .z))) .n (fun w1 S1 hs tr => c_79 (kT_31_mk f (tr.ctx h0_0) (tr.ctx h0_1))) ?_
 rintro _ _ ⟨rfl, rfl⟩
 refine FJ.cat .n ?_
 refine FJ.ql rfl (q_assign rfl (.t .z)) (FJ.nil (FJ.then_ (FJ.seq (FJ.region ?_))))
 refine FJ.ql rfl (q_move rfl (.t .z)) (FJ.ql rfl (q_neq rfl (.t .z) .c) (FJ.nil (FJ.then_ ?_)))
 refine FJ.condN (.t .z) (fun b5 => ?_) (fun b5 => ?_)
 refine FJ.seq (FJ.region (FJ.ql rfl (q_move rfl (.t (.s (.s .z)))) ?_))
 refine FJ.ql rfl (q_build (ps := [(0, .int .i64 (fsFault f))]) (cs := [.int .i64 (fsFault f), .slice none 0 0]) rfl bl_53 (by intro act hact; simp only [List.map_toArray, List.map_cons, List.map_nil, (show Val _ _ _ from (.t .z)) act hact]) rfl) ?_
 refine FJ.es (goes_list rfl) rfl (es_store (off := 0) (cs := [.int .i64 (fsFault f), .slice none 0 0]) rfl sz_53 (.t (.s4 (.s (.s (.s .z))))) (.t .z) rfl (ones rfl) .z (Nat.le_of_ble_eq_true rfl) (.c .z (.c (.s .z) .n))) ?_
 refine FJ.nil (FJ.then_ (FJ.ret (FJ.thenR ?_)))
 refine FJ.add (c := ownA kSl_9 [] [.slice none 0 0]) (fun w S => own_nil w S none) ?_
 refine FJ.doneS (resC (cs := [.int .i64 (fsFault f), .slice none 0 0]) rfl (.s4 (.s (.s (.s .z)))) ag_53 sz_53 (WS.rows0 (cs := [.int .i64 (fsFault f), .slice none 0 0]) (.s .z) (fun _ _ h => h))) (.c .z .n) ?_
 first | (rw [pathsR_f (by assumption)]; exact ⟨_, rfl, rfl⟩) | (rw [pathsR_0 hF]; exact ⟨_, rfl, rfl⟩)
 have hF : fsFault f = 0 := b5
 have ht := fsTree hF
 refine FJ.skip (FJ.then_ (FJ.seq (FJ.region ?_)))
 refine FJ.call (goes_list rfl) rfl (by decide) rfl (c_call rfl Tryz.func80 rfl rfl (args1 (.t (.s4 (.s (.s .z)))))) .n (fun w1 S1 hs tr => c_80 (tr.ptr (.s .z) (kT_31_mk f (tr.ctx h0_0) (tr.ctx h0_1))) (by assumption)) ?_
 rintro _ _ rfl
 refine FJ.cat (.c .n) ?_
 refine FJ.know (WS.oform .z) ?_
 rintro ⟨Ao8, co8, rfl, hlo8, hmo8, hbo8⟩
 refine FJ.ql rfl (q_build (ps := [(1, .slice Ao8 (List.take 60 (belowP (f).inodes 6 0 [])).length co8)]) (cs := [.int .i64 0, .slice Ao8 (List.take 60 (belowP (f).inodes 6 0 [])).length co8]) rfl bl_53 (by intro act hact; simp only [List.map_toArray, List.map_cons, List.map_nil, (show Val _ _ _ from (.t .z)) act hact]) rfl) ?_
 refine FJ.es (goes_list rfl) rfl (es_store (off := 0) (cs := [.int .i64 0, .slice Ao8 (List.take 60 (belowP (f).inodes 6 0 [])).length co8]) rfl sz_53 (.t (.s4 (.s (.s (.s .z))))) (.t .z) rfl (ones rfl) (.s .z) (Nat.le_of_ble_eq_true rfl) (.c .z (.c (.s .z) .n))) ?_
 refine FJ.nil (FJ.then_ (FJ.ret ?_))
 refine FJ.doneS (resC (cs := [.int .i64 0, .slice Ao8 (List.take 60 (belowP (f).inodes 6 0 [])).length co8]) rfl (.s4 (.s (.s (.s .z)))) ag_53 sz_53 (WS.rows0 (cs := [.int .i64 0, .slice Ao8 (List.take 60 (belowP (f).inodes 6 0 [])).length co8]) .z (fun _ _ h => h))) (.c (.s .z) .n) ?_
 first | (rw [pathsR_f (by assumption)]; exact ⟨_, rfl, rfl⟩) | (rw [pathsR_0 hF]; exact ⟨_, rfl, rfl⟩)

set_option maxHeartbeats 1000000 in
set_option maxRecDepth 20000 in
theorem c_30 {w0 : World} {S0 : Bs} {f : DFs} {cs0 : List Value} (h0 : kT_31.ro w0 (FF w0 S0) f cs0)  :
    Calls Tryz.prog 30 #[.agg cs0.toArray] w0 (TriPost w0 S0 (RA_53 (pathsR f))) := by
 obtain ⟨u0_0, u0_1, rfl, h0_0, h0_1⟩ := kT_31_ro h0
 obtain ⟨A0_0, c0_0, rfl, hl0_0, hm0_0, hb0_0, he0_0⟩ := ro_form h0_0
 obtain ⟨A0_1, c0_1, rfl, hl0_1, hm0_1, hb0_1, he0_1⟩ := ro_form h0_1
 refine FJ.enter (N := 11) Tryz.func30 rfl rfl (by simp) [(0, .agg #[.slice A0_0 f.inodes.length c0_0, .slice A0_1 f.data.length c0_1])] (by simp) (l0 := []) trivial ?_
 refine FJ.seq (FJ.region ?_)
 refine FJ.e (goes_list rfl) rfl (by decide) rfl (e_box (cs := [.slice A0_0 f.inodes.length c0_0, .slice A0_1 f.data.length c0_1]) (n := 2) rfl (.t .z) rfl rfl) ?_
 rintro _ _ ⟨g3, rfl, rfl⟩
 refine FJ.e (goes_list rfl) rfl (by decide) rfl (e_alloc rfl z_53 rfl rfl) ?_
 rintro _ _ ⟨g4, rfl, rfl⟩
 refine FJ.nil (FJ.then_ (FJ.seq (FJ.seq (FJ.region ?_))))
 refine FJ.call (goes_list rfl) rfl (by decide) rfl (c_call rfl Tryz.func77 rfl rfl (args1 (.t (.s .z)))) .n (fun w1 S1 hs tr => c_77 (tr.ptr (.s .z) (kT_31_mk f (tr.ctx h0_0) (tr.ctx h0_1)))) ?_
 rintro _ _ ⟨rfl, rfl⟩
 refine FJ.cat .n ?_
 refine FJ.ql rfl (q_assign rfl (.t .z)) (FJ.nil (FJ.then_ (FJ.seq (FJ.region ?_))))
 refine FJ.ql rfl (q_move rfl (.t .z)) (FJ.ql rfl (q_neq rfl (.t .z) .c) (FJ.nil (FJ.then_ ?_)))
 refine FJ.condN (.t .z) (fun b5 => ?_) (fun b5 => ?_)
 refine FJ.seq (FJ.region (FJ.ql rfl (q_move rfl (.t (.s (.s .z)))) ?_))
 refine FJ.ql rfl (q_build (ps := [(0, .int .i64 (fsFault f))]) (cs := [.int .i64 (fsFault f), .slice none 0 0]) rfl bl_53 (by intro act hact; simp only [List.map_toArray, List.map_cons, List.map_nil, (show Val _ _ _ from (.t .z)) act hact]) rfl) ?_
 refine FJ.es (goes_list rfl) rfl (es_store (off := 0) (cs := [.int .i64 (fsFault f), .slice none 0 0]) rfl sz_53 (.t (.s4 (.s (.s .z)))) (.t .z) rfl (ones rfl) .z (Nat.le_of_ble_eq_true rfl) (.c .z (.c (.s .z) .n))) ?_
 refine FJ.nil (FJ.then_ (FJ.ret (FJ.thenR ?_)))
 refine FJ.add (c := ownA kSl_9 [] [.slice none 0 0]) (fun w S => own_nil w S none) ?_
 refine FJ.doneS (resC (cs := [.int .i64 (fsFault f), .slice none 0 0]) rfl (.s4 (.s (.s .z))) ag_53 sz_53 (WS.rows0 (cs := [.int .i64 (fsFault f), .slice none 0 0]) (.s .z) (fun _ _ h => h))) (.c .z .n) ?_
 first | (rw [pathsR_f (by assumption)]; exact ⟨_, rfl, rfl⟩) | (rw [pathsR_0 hF]; exact ⟨_, rfl, rfl⟩)
 have hF : fsFault f = 0 := b5
 have ht := fsTree hF
 refine FJ.skip (FJ.then_ (FJ.seq (FJ.region ?_)))
 refine FJ.call (goes_list rfl) rfl (by decide) rfl (c_call rfl Tryz.func78 rfl rfl (args1 (.t (.s4 (.s .z))))) .n (fun w1 S1 hs tr => c_78 (tr.ptr (.s .z) (kT_31_mk f (tr.ctx h0_0) (tr.ctx h0_1))) (by assumption)) ?_
 rintro _ _ rfl
 refine FJ.cat (.c .n) ?_
 refine FJ.know (WS.oform .z) ?_
 rintro ⟨Ao8, co8, rfl, hlo8, hmo8, hbo8⟩
 refine FJ.ql rfl (q_build (ps := [(1, .slice Ao8 (List.take 60 (belowP (f).inodes 6 0 [])).length co8)]) (cs := [.int .i64 0, .slice Ao8 (List.take 60 (belowP (f).inodes 6 0 [])).length co8]) rfl bl_53 (by intro act hact; simp only [List.map_toArray, List.map_cons, List.map_nil, (show Val _ _ _ from (.t .z)) act hact]) rfl) ?_
 refine FJ.es (goes_list rfl) rfl (es_store (off := 0) (cs := [.int .i64 0, .slice Ao8 (List.take 60 (belowP (f).inodes 6 0 [])).length co8]) rfl sz_53 (.t (.s4 (.s (.s .z)))) (.t .z) rfl (ones rfl) (.s .z) (Nat.le_of_ble_eq_true rfl) (.c .z (.c (.s .z) .n))) ?_
 refine FJ.nil (FJ.then_ (FJ.ret ?_))
 refine FJ.doneS (resC (cs := [.int .i64 0, .slice Ao8 (List.take 60 (belowP (f).inodes 6 0 [])).length co8]) rfl (.s4 (.s (.s .z))) ag_53 sz_53 (WS.rows0 (cs := [.int .i64 0, .slice Ao8 (List.take 60 (belowP (f).inodes 6 0 [])).length co8]) .z (fun _ _ h => h))) (.c (.s .z) .n) ?_
 first | (rw [pathsR_f (by assumption)]; exact ⟨_, rfl, rfl⟩) | (rw [pathsR_0 hF]; exact ⟨_, rfl, rfl⟩)

end Go.Proofs.YticaddophhggoaaGreat

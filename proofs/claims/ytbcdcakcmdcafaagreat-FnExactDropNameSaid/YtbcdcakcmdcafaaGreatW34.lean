/- What is proved: contracts of functions, one a function. No condition. -/
import Derived.Test.YtbcdcakcmdcafaaGreatW33
import Derived.Test.YtbcdcakcmdcafaaGreatBase2
import Derived.Test.YtbcdcakcmdcafaaGreatBase1
namespace Go.Proofs.YtbcdcakcmdcafaaGreat
open Go Go.RowKit
set_option linter.unusedVariables false
set_option linter.unusedSimpArgs false
set_option maxHeartbeats 1000000 in
set_option maxRecDepth 20000 in
theorem c_144 {w0 : World} {S0 : Bs} {e : DEnt} {cs0 : List Value} (h0 : kT_68.ro w0 (FF w0 S0) e cs0) {s : ByteArray} {ad1 : Addr} (h1 : PtrRo kstr w0 (FF w0 S0) ad1 s)  :
    Calls Tryz.prog 144 #[.agg cs0.toArray, .pointer (some ad1)] w0 (TriPost w0 S0 (fun r l => r = .bool (nameP s e) ∧ l = [])) := by
 obtain ⟨rfl, s0_0⟩ := kT_68_ro h0
 obtain ⟨ec1, hF1, ⟨rfl, hs1⟩, hc1⟩ := h1
 refine FJ.enter (N := 8) Tryz.func144 rfl rfl (by simp) [(0, .agg #[.string e.name, .int .i64 e.ino]), (1, .pointer (some ad1))] (by simp) (l0 := []) trivial ?_
 refine FJ.seq (FJ.region ?_)
 refine FJ.e (goes_list rfl) rfl (by decide) rfl (e_box (cs := [.string e.name, .int .i64 e.ino]) (n := 2) rfl (.t .z) rfl rfl) ?_
 rintro _ _ ⟨g1, rfl, rfl⟩
 refine FJ.ql rfl (q_assign rfl .c) (FJ.nil (FJ.then_ (FJ.seq (FJ.region ?_))))
 refine FJ.ql rfl (q_fieldAddr rfl (.t (.s .z)) (fun _ => fa_68_0 _ _)) (FJ.ql rfl (q_load rfl ag_9 (.t .z) (WS.row .z rfl)) (FJ.ql rfl (q_load rfl ag_9 (.t (.s4 (.s .z))) (WS.el0 hF1 hc1 rfl)) (FJ.ql rfl (q_seql rfl (.t (.s .z)) (.t .z)) (FJ.er (.s4 .z) ?_))))
 refine FJ.ql rfl (q_assign rfl (.t .z)) (FJ.nil (FJ.then_ (FJ.ret ?_)))
 refine FJ.doneS (res1 rfl .z) .n ?_
 exact ⟨rfl, rfl⟩

set_option maxHeartbeats 1000000 in
set_option maxRecDepth 20000 in
theorem c_163 {w0 : World} {S0 : Bs} {xs : (List DEnt)} {v0 : Value} (h0 : kSl_68.ro w0 (FF w0 S0) xs [v0]) {f : FuncId} {us : Array Value} {fn : Func} (hfn : Tryz.prog.funcs[f]? = some fn) (hbody : fn.body.isSome = true) (hname : (fn.name == "runtime.NumGoroutine") = false) {p : DEnt → Bool} (hf : ∀ w1 S1, (∀ b, FF w0 S0 b → FF w1 S1 b ∧ w1.heap[b]? = w0.heap[b]?) → ∀ {x : DEnt} {cs : List Value}, kT_68.ro w1 (FF w1 S1) x cs → Calls Tryz.prog f (#[.agg cs.toArray] ++ us) w1 (TriPost w1 S1 (fun r l => r = .bool (p x) ∧ l = [])))  :
    Calls Tryz.prog 163 #[v0, .func (.func f) #[] us] w0 (TriPost w0 S0 (fun r l => r = .int .i64 (idxF p xs) ∧ l = [])) := by
 obtain ⟨A0, c0, rfl, hl0, hm0, hb0, he0⟩ := ro_form h0
 refine FJ.enter (N := 19) Tryz.func163 rfl rfl (by simp) [(0, .slice A0 xs.length c0), (1, .func (.func f) #[] us)] (by simp) (l0 := []) trivial ?_
 refine FJ.seq (FJ.region (FJ.ql rfl (q_assign rfl .c) (FJ.nil (FJ.then_ ?_))))
 refine FJ.seq (FJ.seq (FJ.region (FJ.ql rfl (q_move rfl (.t (.s .z))) (FJ.ql rfl (q_len rfl u_64 (.t .z)) ?_))))
 refine FJ.ql rfl (q_move rfl .c) (FJ.nil (FJ.then_ (FJ.block ?_)))
 refine FJ.loopi (γ := Nat) (fun k => [(8, .int .i64 (k : Int)), (7, .int .i64 (xs.length : Int)), (0, .slice A0 xs.length c0), (1, .func (.func f) #[] us)]) (fun k => []) (fun k => k ≤ xs.length ∧ ∀ j x, j < k → xs[j]? = some x → p x = false) (fun k => xs.length - k) 0 ⟨Nat.zero_le _, all_zero (q := fun _ x => p x = false)⟩ (.c .z (.c (.s .z) (.c (.s4 .z) (.c (.s4 (.s .z)) .n)))) (fun _ h => h) ?_
 rintro k ⟨hk, hallk⟩
 refine FJ.seq (FJ.region (FJ.ql rfl (q_lss rfl (.t .z) (.t (.s .z))) (FJ.nil (FJ.then_ ?_))))
 refine FJ.seq ?_
 refine FJ.condP (.t .z) (fun b2 => ?_) (fun b2 => ?_)
 refine FJ.skip (FJ.then_ (FJ.seq (FJ.block (FJ.seq ?_))))
 refine FJ.region (FJ.ql rfl (q_move rfl (.t (.s .z))) (FJ.ql rfl (q_assign rfl (.t .z)) (FJ.nil (FJ.then_ ?_))))
 refine FJ.seq (FJ.region (FJ.ql rfl (q_move rfl (.t (.s4 (.s (.s .z))))) (FJ.ql rfl (q_move rfl (.t (.s4 (.s (.s .z))))) (FJ.ql rfl (q_move rfl (.t (.s (.s .z)))) ?_))))
 obtain ⟨ad3, hAad3, hrad3⟩ := he0 (by omega)
 subst hAad3
 obtain ⟨x4, hx4⟩ := get_ex (xs := xs) (j := k) (by omega)
 obtain ⟨ece5, hre5, hFe5, hce5⟩ := hrad3.elem hx4
 obtain ⟨rfl, se5_0⟩ := kT_68_ro hre5
 refine FJ.ql rfl (q_indexAddr (j := k) rfl u_64 sz_68 (.t (.s .z)) (.t .z) rfl (by omega)) ?_
 refine FJ.ql rfl (q_loadA (cs := [.string x4.name, .int .i64 x4.ino]) rfl ag_68 sz_68 (.t .z) (WS.els hFe5 hce5)) ?_
 refine FJ.call (goes_list rfl) rfl (by decide) rfl (c_callv rfl (.t (.s4 .z)) hfn hbody hname (args1 (.t .z))) .n (fun w1 S1 hs tr => hf w1 S1 (fun b hb => tr.wide b hb) (tr.ctx hre5)) ?_
 rintro _ _ ⟨rfl, rfl⟩
 refine FJ.cat .n ?_
 refine FJ.nil (FJ.then_ ?_)
 refine FJ.cond (.t .z) (fun b6 => ?_) (fun b6 => ?_)
 refine FJ.seq (FJ.region (FJ.ql rfl (q_move rfl (.t (.s4 (.s (.s .z))))) (FJ.ql rfl (q_assign rfl (.t .z)) (FJ.nil ?_))))
 refine FJ.then_ (FJ.ret (FJ.inBR (FJ.thenR (FJ.thenR ?_))))
 refine FJ.inBR (FJ.thenR ?_)
 refine FJ.doneS (res1 rfl .z) .n ?_
 exact ⟨by rw [idxF_some (by assumption) (by assumption) hallk], rfl⟩
 refine FJ.skip (FJ.inBN (FJ.then_ (FJ.region ?_)))
 refine FJ.ql rfl (q_add (c := ((k + 1 : Nat) : Int)) rfl (.t (.s4 (.s4 (.s .z)))) .c (wr (by omega) (by omega) (by omega))) ?_
 refine FJ.er (.s4 (.s4 (.s (.s .z)))) (FJ.ql rfl (q_move rfl (.t .z)) (FJ.nil ?_))
 refine FJ.again (k + 1) ⟨by omega, all_succ (q := fun _ x => p x = false) hallk hx4 b6⟩ (by first | omega | (dsimp only; omega)) (.c .z (.c (.s4 (.s4 (.s (.s (.s .z))))) (.c (.s4 (.s4 (.s4 .z))) (.c (.s4 (.s4 (.s4 (.s .z)))) .n)))) (fun _ h => h)
 refine FJ.exit (FJ.thenE (FJ.thenE (FJ.inB (FJ.then_ ?_))))
 refine FJ.seq (FJ.region (FJ.ql rfl (q_assign rfl .c) (FJ.nil (FJ.then_ ?_))))
 refine FJ.ret ?_
 refine FJ.doneS (res1 rfl .z) .n ?_
 exact ⟨by rw [idxF_none (fun j x hx => hallk j x (by have := (List.getElem?_eq_some_iff.1 hx).1; omega) hx)], rfl⟩

set_option maxHeartbeats 1000000 in
set_option maxRecDepth 20000 in
theorem c_143 {w0 : World} {S0 : Bs} {x : (List DEnt)} {v0 : Value} {f : FuncId} {us : Array Value} {fn : Func} (hfn : Tryz.prog.funcs[f]? = some fn) (hbody : fn.body.isSome = true) (hname : (fn.name == "runtime.NumGoroutine") = false) {p : DEnt → Bool} (hf : ∀ w1 S1, (∀ b, FF w0 S0 b → FF w1 S1 b ∧ w1.heap[b]? = w0.heap[b]?) → ∀ {x : DEnt} {cs : List Value}, kT_68.ro w1 (FF w1 S1) x cs → Calls Tryz.prog f (#[.agg cs.toArray] ++ us) w1 (TriPost w1 S1 (fun r l => r = .bool (p x) ∧ l = []))) (hs : Star [ownA kSl_68 x [v0]] w0 S0)  :
    Calls Tryz.prog 143 #[v0, .func (.func f) #[] us] w0 (TriPost w0 S0 (fun r l => l = [ownA kSl_68 (List.filter (notP p) x) [r]])) := by
 refine FJ.enter (N := 42) Tryz.func143 rfl rfl (by simp) [(0, v0), (1, .func (.func f) #[] us)] (by simp) hs ?_
 refine FJ.know (WS.oform .z) ?_
 rintro ⟨Ao1, co1, rfl, hlo1, hmo1, hbo1⟩
 refine FJ.seq (FJ.region (FJ.ql rfl (q_assign rfl .c) (FJ.nil (FJ.then_ ?_))))
 refine FJ.seq (FJ.region (FJ.ql rfl (q_move rfl (.t (.s .z))) (FJ.ql rfl (q_move rfl (.t (.s (.s (.s .z))))) ?_)))
 refine FJ.call (goes_list rfl) rfl (by decide) rfl (c_call rfl Tryz.func163 rfl rfl (args2 (.t (.s .z)) (.t .z))) .n (fun w1 S1 hs tr => c_163 (p := p) (tr.own .z) hfn hbody hname (fun w2 S2 h2 {x cs} hr => hf w2 S2 (fun b hb => ⟨(h2 b (tr.wide b hb).1).1, (h2 b (tr.wide b hb).1).2.trans (tr.wide b hb).2⟩) hr)) ?_
 rintro _ _ ⟨rfl, rfl⟩
 refine FJ.cat .n ?_
 have hr2 := idxF_rng p x
 refine FJ.ql rfl (q_assign rfl (.t .z)) (FJ.nil (FJ.then_ (FJ.seq (FJ.seq ?_))))
 refine FJ.region (FJ.ql rfl (q_move rfl (.t .z)) (FJ.ql rfl (q_eql rfl (.t .z) .c) (FJ.nil (FJ.then_ ?_))))
 refine FJ.condP (.t .z) (fun b3 => ?_) (fun b3 => ?_)
 refine FJ.seq (FJ.region (FJ.ql rfl (q_move rfl (.t (.s4 (.s (.s (.s .z)))))) (FJ.er (.s4 (.s (.s (.s .z)))) (FJ.ql rfl (q_assign rfl (.t .z)) ?_))))
 refine FJ.nil (FJ.then_ (FJ.ret (FJ.thenR ?_)))
 refine FJ.ceq (x' := List.filter (notP p) x) .z (filter_id (by assumption)) ?_
 refine FJ.doneS (res1 rfl .z) (.c .z .n) ?_
 rfl
 refine FJ.skip (FJ.then_ (FJ.seq (FJ.seq (FJ.region ?_))))
 refine FJ.ql rfl (q_move rfl (.t (.s (.s .z)))) ?_
 refine FJ.ql rfl (q_add (c := (idxF p x) + 1) rfl (.t .z) .c (wr (by omega) (by omega) (by omega))) ?_
 refine FJ.ql rfl (q_assign rfl (.t .z)) (FJ.nil (FJ.then_ (FJ.block ?_)))
 have hil0 := idxF_in b3
 refine FJ.know (WS.oad .z (by omega)) ?_
 rintro ⟨ad, rfl⟩
 obtain ⟨ix, hix, hil, hfi⟩ := idxF_at b3
 refine FJ.eq (.s4 (.s .z)) (congrArg (Value.int .i64) hix) ?_
 refine FJ.eq (.s .z) (congrArg (Value.int .i64) (show (idxF p x) + 1 = ((ix + 1 : Nat) : Int) by omega)) ?_
 refine FJ.loopi (γ := Nat × Nat × (List DEnt)) (fun ⟨k, i, L⟩ => [(6, .int .i64 (k : Int)), (5, .int .i64 (i : Int)), (4, .slice none 0 0), (0, .slice (some ad) x.length co1), (1, .func (.func f) #[] us)]) (fun ⟨k, i, L⟩ => [ownA kSl_68 L [.slice (some ad) x.length co1]]) (fun ⟨k, i, L⟩ => k ≤ x.length ∧ i < k ∧ Left p x k i L) (fun ⟨k, i, L⟩ => x.length - k) (ix + 1, ix, x) ⟨by omega, by omega, left_init hfi⟩ (.c .z (.c (.s .z) (.c (.s4 (.s4 (.s .z))) (.c (.s4 (.s4 (.s (.s .z)))) (.c (.s4 (.s4 (.s (.s (.s .z))))) .n))))) (fun _ h => h.sel (.c .z .n)) ?_
 rintro ⟨k, i, L⟩ ⟨hk, hi, hL⟩
 have hLl := hL.len
 refine FJ.seq (FJ.seq (FJ.region (FJ.ql rfl (q_move rfl (.t .z)) (FJ.ql rfl (q_move rfl (.t (.s4 .z))) ?_))))
 refine FJ.ql rfl (q_len rfl u_64 (.t .z)) (FJ.ql rfl (q_lss rfl (.t (.s (.s .z))) (.t .z)) (FJ.nil (FJ.then_ ?_)))
 refine FJ.condP (.t .z) (fun b4 => ?_) (fun b4 => ?_)
 refine FJ.skip (FJ.then_ (FJ.seq (FJ.block (FJ.seq ?_))))
 refine FJ.region (FJ.ql rfl (q_move rfl (.t (.s4 (.s (.s (.s .z)))))) (FJ.ql rfl (q_move rfl (.t (.s4 (.s .z)))) ?_))
 refine FJ.open (.c .z .n) own_raw ?_
 rintro fc5 hlfc5
 obtain ⟨y6, hy6⟩ := get_ex (xs := L) (j := k) (by omega)
 obtain ⟨c7, hc7⟩ := get_ex (xs := fc5) (j := k) (by rw [hlfc5]; exact (List.getElem?_eq_some_iff.1 hy6).1)
 refine FJ.turn (.s .z) (seq_split hy6 hc7) ?_
 refine FJ.open (.c .z .n) kT_68_op ?_
 rintro ⟨⟩ ⟨rfl, sy6_0⟩
 refine FJ.ql rfl (q_indexAddr (j := k) rfl u_64 sz_68 (.t (.s .z)) (.t .z) rfl (by omega)) ?_
 refine FJ.ql rfl (q_loadA (cs := [.string y6.name, .int .i64 y6.ino]) rfl ag_68 sz_68 (.t .z) (WS.raws (.s (.s .z)) hc7)) ?_
 refine FJ.e (goes_list rfl) rfl (by decide) rfl (e_alloc rfl z_68 rfl rfl) ?_
 rintro _ _ ⟨g9, rfl, rfl⟩
 refine FJ.es (goes_list rfl) rfl (es_store (off := 0) (cs := [.string y6.name, .int .i64 y6.ino]) rfl sz_68 (.t .z) (.t (.s .z)) rfl (ones rfl) .z (Nat.le_of_ble_eq_true rfl) (.c .z (.c (.s .z) .n))) ?_
 refine FJ.nil (FJ.then_ (FJ.seq (FJ.region (FJ.ql rfl (q_move rfl (.t (.s4 (.s4 (.s4 (.s .z)))))) ?_))))
 refine FJ.ql rfl (q_loadA (cs := [.string y6.name, .int .i64 y6.ino]) rfl ag_68 sz_68 (.t (.s .z)) (WS.rows0 .z (fun i u h => by exact h))) ?_
 refine FJ.call (goes_list rfl) rfl (by decide) rfl (c_callv rfl (.t (.s .z)) hfn hbody hname (args1 (.t .z))) .n (fun w1 S1 hs tr => hf w1 S1 (fun b hb => tr.wide b hb) (kT_68_mk y6 (by assumption))) ?_
 rintro _ _ ⟨rfl, rfl⟩
 refine FJ.cat .n ?_
 refine FJ.ql rfl (q_not rfl (.t .z)) (FJ.nil (FJ.then_ ?_))
 refine FJ.cond (.t .z) (fun b10 => ?_) (fun b10 => ?_)
 refine FJ.seq (FJ.region (FJ.ql rfl (q_move rfl (.t (.s16 .z))) (FJ.ql rfl (q_move rfl (.t (.s4 (.s4 (.s4 (.s (.s (.s .z)))))))) ?_)))
 refine FJ.ql rfl (q_loadA (cs := [.string y6.name, .int .i64 y6.ino]) rfl ag_68 sz_68 (.t (.s4 (.s (.s .z)))) (WS.rows0 .z (fun i u h => by exact h))) ?_
 refine FJ.turns (c := ownA kT_68 y6 [.string y6.name, .int .i64 y6.ino]) .n (fun w S h => kT_68_omk y6 h (by assumption)) ?_
 refine FJ.turns (c := ownA kSl_68 L [.slice (some ad) x.length co1]) (.c (.s4 .z) (.c .z (.c (.s .z) (.c (.s .z) .n)))) (own_unfocus0 (K := kT_68) hlfc5 hy6 hc7) ?_
 refine FJ.open (.c .z .n) own_raw ?_
 rintro fc12 hlfc12
 obtain ⟨y13, hy13⟩ := get_ex (xs := L) (j := i) (by omega)
 obtain ⟨c14, hc14⟩ := get_ex (xs := fc12) (j := i) (by rw [hlfc12]; exact (List.getElem?_eq_some_iff.1 hy13).1)
 refine FJ.turn (.s .z) (seq_split hy13 hc14) ?_
 refine FJ.open (.c .z .n) kT_68_op ?_
 rintro ⟨⟩ ⟨rfl, sy13_0⟩
 refine FJ.ql rfl (q_indexAddr (j := i) rfl u_64 sz_68 (.t (.s (.s .z))) (.t (.s .z)) rfl (by omega)) ?_
 refine FJ.es (goes_list rfl) rfl (es_raw (j := i) (off := 0) (cs := [.string y6.name, .int .i64 y6.ino]) rfl sz_68 (.t .z) rfl (.t (.s .z)) rfl (ones rfl) (.s (.s .z)) hc14 (Nat.le_of_ble_eq_true rfl)) ?_
 refine FJ.ceq (x' := List.set fc12 i [.string y6.name, .int .i64 y6.ino]) .z rfl ?_
 refine FJ.nil (FJ.then_ (FJ.region (FJ.ql rfl (q_move rfl (.t (.s16 (.s (.s .z))))) ?_)))
 refine FJ.ql rfl (q_add (c := ((i + 1 : Nat) : Int)) rfl (.t .z) .c (wr (by omega) (by omega) (by omega))) ?_
 refine FJ.er (.s16 (.s4 .z)) (FJ.ql rfl (q_assign rfl (.t .z)) (FJ.nil (FJ.inBN (FJ.then_ ?_))))
 refine FJ.region (FJ.ql rfl (q_move rfl (.t (.s16 (.s4 .z)))) ?_)
 refine FJ.ql rfl (q_add (c := ((k + 1 : Nat) : Int)) rfl (.t .z) .c (wr (by omega) (by omega) (by omega))) ?_
 refine FJ.er (.s16 (.s4 (.s (.s .z)))) (FJ.ql rfl (q_assign rfl (.t .z)) (FJ.nil ?_))
 refine FJ.turns (c := ownA kT_68 (⟨y6.name, y6.ino⟩ : DEnt) [.string y6.name, .int .i64 y6.ino]) .n (fun w S h => kT_68_omk (⟨y6.name, y6.ino⟩ : DEnt) h (by assumption)) ?_
 refine FJ.turns (c := ownA kSl_68 (List.set L i (⟨y6.name, y6.ino⟩ : DEnt)) [.slice (some ad) x.length co1]) (.c (.s .z) (.c .z (.c .z (.c .z .n)))) (own_unfocus (K := kT_68) hlfc12 (List.getElem?_eq_some_iff.1 hy13).1 rfl) ?_
 refine FJ.again ((k + 1), i + 1, List.set L i (⟨y6.name, y6.ino⟩ : DEnt)) ⟨by omega, by omega, left_keep hL hy6 (by simpa using b10) hi⟩ (by first | omega | (dsimp only; omega)) (.c .z (.c (.s (.s (.s .z))) (.c (.s16 (.s4 (.s (.s (.s .z))))) (.c (.s16 (.s4 (.s4 .z))) (.c (.s16 (.s4 (.s4 (.s .z)))) .n))))) (fun _ h => h.sel (.c .z .n))
 refine FJ.skip (FJ.inBN (FJ.then_ (FJ.region (FJ.ql rfl (q_move rfl (.t (.s4 (.s4 (.s4 (.s .z)))))) ?_))))
 refine FJ.ql rfl (q_add (c := ((k + 1 : Nat) : Int)) rfl (.t .z) .c (wr (by omega) (by omega) (by omega))) ?_
 refine FJ.er (.s4 (.s4 (.s4 (.s (.s (.s .z)))))) (FJ.ql rfl (q_assign rfl (.t .z)) (FJ.nil ?_))
 refine FJ.turns (c := ownA kT_68 y6 [.string y6.name, .int .i64 y6.ino]) .n (fun w S h => kT_68_omk y6 h (by assumption)) ?_
 refine FJ.turns (c := ownA kSl_68 L [.slice (some ad) x.length co1]) (.c (.s4 .z) (.c .z (.c (.s .z) (.c (.s .z) .n)))) (own_unfocus0 (K := kT_68) hlfc5 hy6 hc7) ?_
 refine FJ.again ((k + 1), i, L) ⟨by omega, by omega, left_out hL hy6 (by simpa using b10)⟩ (by first | omega | (dsimp only; omega)) (.c .z (.c (.s16 .z) (.c (.s16 (.s .z)) (.c (.s16 (.s (.s .z))) (.c (.s16 (.s (.s (.s .z)))) .n))))) (fun _ h => h.sel (.c .z .n))
 refine FJ.exit (FJ.thenE (FJ.thenE (FJ.inB (FJ.then_ ?_))))
 refine FJ.seq (FJ.region (FJ.ql rfl (q_move rfl (.t (.s4 (.s (.s (.s .z)))))) (FJ.ql rfl (q_move rfl (.t (.s4 (.s (.s .z))))) ?_)))
 refine FJ.ql rfl (q_slice (a := i) (b := x.length) rfl u_64 sz_68 (.t (.s .z)) (.inr ⟨_, _, rfl, (.t .z)⟩) (.inl ⟨rfl, rfl⟩) (by omega) (by omega)) ?_
 have hti : (List.take i L).length = i := by rw [List.length_take]; omega
 refine FJ.turns (c := ownA kSl_68 (List.take i L) [.slice (some ad) (List.take i L).length co1]) (.c .z .n) (fun w S h => own_take' (n := i) (by omega) w S (by rw [hLl]; exact h)) ?_
 refine FJ.know (WS.ocap .z) ?_
 rintro ⟨-, hcap, -, -⟩
 refine FJ.ev (goes_list rfl) rfl (e_clearTail (k := x.length - i) rfl u_64 inf_68 rfl (ones rfl) (by rw [hti]; exact (.t .z)) (by rw [hti]; split <;> rfl) (.c .z .n) (by rw [hti]; omega)) ?_
 rintro _ _ rfl
 refine FJ.nil (FJ.then_ (FJ.seq (FJ.region (FJ.ql rfl (q_move rfl (.t (.s4 (.s4 (.s (.s .z)))))) ?_))))
 refine FJ.ql rfl (q_move rfl (.t (.s4 (.s4 (.s .z))))) ?_
 refine FJ.ql rfl (q_sliceHi (b := i) rfl u_64 sz_68 (.t (.s .z)) (.t .z) (by omega)) ?_
 refine FJ.er (.s4 (.s4 (.s4 .z))) (FJ.ql rfl (q_assign rfl (.t .z)) (FJ.nil (FJ.then_ (FJ.ret ?_))))
 refine FJ.ceq (x' := List.filter (notP p) x) .z (left_end hL (by omega)) ?_
 refine FJ.eq .z (show (.slice (some ad) i co1 : Value) = .slice (some ad) (List.take i L).length co1 by rw [hti]) ?_
 refine FJ.doneS (res1 rfl .z) (.c .z .n) ?_
 rfl

set_option maxHeartbeats 1000000 in
set_option maxRecDepth 20000 in
theorem c_113 {w0 : World} {S0 : Bs} {f : DFs} {g0 e0 s0 : Nat} {post0 : List Value} {v0_0 : Value} {v0_1 : Value} (a : Int) (s : ByteArray) (hz2 : s.size ≤ 140737488351232) (hs : Star [rowA g0 e0 s0 1 (v0_0 :: v0_1 :: post0), ownA kSl_66 f.inodes [v0_0], ownA kSl_39 f.data [v0_1]] w0 S0) (hp : placeIn f.inodes.length a) :
    Calls Tryz.prog 113 #[.pointer (some ⟨g0, 0, none⟩), .int .i64 a, .string s] w0 (TriPost w0 S0 (PA_26 g0 e0 s0 post0 (takeF f a (List.filter (notP (nameP s)) (entsAt f.inodes a))))) := by
 obtain ⟨hp1, hp2⟩ := hp
 refine FJ.enter (N := 22) Tryz.func113 rfl rfl (by simp) [(0, .pointer (some ⟨g0, 0, none⟩)), (1, .int .i64 a), (2, .string s)] (by simp) hs ?_
 refine FJ.know (WS.oform (.s .z)) ?_
 rintro ⟨Ao1, co1, rfl, hlo1, hmo1, hbo1⟩
 refine FJ.know (WS.oform (.s (.s .z))) ?_
 rintro ⟨Ao2, co2, rfl, hlo2, hmo2, hbo2⟩
 refine FJ.seq (FJ.region ?_)
 refine FJ.e (goes_list rfl) rfl (by decide) rfl (e_box (cs := [.string s]) (n := 1) rfl (.t (.s (.s .z))) rfl rfl) ?_
 rintro _ _ ⟨g3, rfl, rfl⟩
 refine FJ.nil (FJ.then_ (FJ.seq (FJ.region (FJ.ql rfl (q_move rfl (.t (.s .z))) ?_))))
 refine FJ.ql rfl (q_nilCheck rfl (.t .z)) (FJ.ql rfl (q_fieldAddr rfl (.t .z) (fun _ => fa_26_0 _ _)) (FJ.ql rfl (q_load rfl ag_24 (.t .z) (WS.row (.s .z) rfl)) (FJ.ql rfl (q_move rfl (.t (.s4 (.s (.s .z))))) ?_)))
 refine FJ.open (.c (.s (.s .z)) .n) own_raw ?_
 rintro fc4 hlfc4
 obtain ⟨y5, hy5⟩ := get_ex (xs := f.inodes) (j := Int.toNat a) (by omega)
 obtain ⟨c6, hc6⟩ := get_ex (xs := fc4) (j := Int.toNat a) (by rw [hlfc4]; exact (List.getElem?_eq_some_iff.1 hy5).1)
 refine FJ.turn (.s .z) (seq_split hy5 hc6) ?_
 refine FJ.open (.c .z .n) kT_66_op ?_
 rintro ⟨v7, v8⟩ rfl
 refine FJ.know (WS.oform .z) ?_
 rintro ⟨Ao11, co11, rfl, hlo11, hmo11, hbo11⟩
 refine FJ.know (WS.oform (.s .z)) ?_
 rintro ⟨Ao12, co12, rfl, hlo12, hmo12, hbo12⟩
 have ky5 := kind_at (i := a) hy5 (by omega)
 have ny5 := ents_at (a := a) hy5 (by omega)
 have ly5 := links_at (a := a) hy5 (by omega)
 refine FJ.know (WS.oad (.s4 .z) (by omega)) ?_
 rintro ⟨ad13, rfl⟩
 refine FJ.ql rfl (q_indexAddr (j := Int.toNat a) rfl u_24 sz_66 (.t (.s .z)) (.t .z) (by omega) (by omega)) ?_
 refine FJ.ql rfl (q_assign rfl (.t .z)) (FJ.nil (FJ.then_ (FJ.region (FJ.ql rfl (q_move rfl (.t .z)) ?_))))
 refine FJ.ql rfl (q_move rfl (.t (.s .z))) (FJ.ql rfl (q_nilCheck rfl (.t .z)) (FJ.ql rfl (q_fieldAddr rfl (.t .z) (fun _ => fa_66_4 _ _)) (FJ.ql rfl (q_load rfl ag_64 (.t .z) (WS.raw (.s4 .z) hc6 rfl)) (FJ.ql rfl (q_makeFunc rfl args0 (args1 (.t (.s4 (.s4 (.s4 .z)))))) ?_))))
 refine FJ.call (goes_list rfl) rfl (by decide) rfl (c_call rfl Tryz.func143 rfl rfl (args2 (.t (.s .z)) (.t .z))) (.c (.s .z) .n) (fun w1 S1 hs tr => c_143 (p := (nameP s)) Tryz.func144 rfl rfl (fun w2 S2 h2 {x cs} hr => c_144 hr (PtrRo.wide (tr.ptr (.s4 .z) ⟨rfl, by assumption⟩) h2)) hs) ?_
 rintro _ _ rfl
 refine FJ.cat (.c .n) ?_
 refine FJ.know (WS.oform .z) ?_
 rintro ⟨Ao16, co16, rfl, hlo16, hmo16, hbo16⟩
 refine FJ.ql rfl (q_nilCheck rfl (.t (.s4 (.s (.s .z))))) (FJ.ql rfl (q_fieldAddr rfl (.t .z) (fun _ => fa_66_4 _ _)) ?_)
 refine FJ.es (goes_list rfl) rfl (es_raw (j := Int.toNat a) (off := 4) (cs := [.slice Ao16 (List.filter (notP (nameP s)) y5.ents).length co16]) rfl sz_64 (.t .z) (add_add _ _ _) (.t (.s (.s .z))) rfl (ones rfl) (.s4 .z) hc6 (Nat.le_of_ble_eq_true rfl)) ?_
 refine FJ.ceq (x' := List.set fc4 (Int.toNat a) [.int .i64 y5.kind, .int .i64 y5.links, .int .i64 y5.size, .slice Ao11 y5.blocks.length co11, .slice Ao16 (List.filter (notP (nameP s)) y5.ents).length co16]) .z rfl ?_
 refine FJ.nil ?_
 refine FJ.turns (c := ownA kT_66 (⟨y5.kind, y5.links, y5.size, y5.blocks, List.filter (notP (nameP s)) y5.ents⟩ : DInode) [.int .i64 y5.kind, .int .i64 y5.links, .int .i64 y5.size, .slice Ao11 y5.blocks.length co11, .slice Ao16 (List.filter (notP (nameP s)) y5.ents).length co16]) (.c (.s (.s .z)) (.c (.s .z) .n)) (fun w S h => kT_66_omk (⟨y5.kind, y5.links, y5.size, y5.blocks, List.filter (notP (nameP s)) y5.ents⟩ : DInode) h) ?_
 refine FJ.turns (c := ownA kSl_66 (List.set f.inodes (Int.toNat a) (⟨y5.kind, y5.links, y5.size, y5.blocks, List.filter (notP (nameP s)) y5.ents⟩ : DInode)) [.slice (some ad13) f.inodes.length co1]) (.c (.s .z) (.c .z (.c .z (.c .z .n)))) (own_unfocus (K := kT_66) hlfc4 (List.getElem?_eq_some_iff.1 hy5).1 rfl) ?_
 have he18 : List.set f.inodes (Int.toNat a) (⟨y5.kind, y5.links, y5.size, y5.blocks, List.filter (notP (nameP s)) y5.ents⟩ : DInode) = withE f.inodes a (List.filter (notP (nameP s)) y5.ents) := (withE_at hy5 (by omega))
 refine FJ.chEq .z (congrArg (fun z_ => (ownA kSl_66 (z_) [.slice (some ad13) f.inodes.length co1] : Asn)) he18) ?_
 have he19 : withE f.inodes a (List.filter (notP (nameP s)) y5.ents) = withE f.inodes a (List.filter (notP (nameP s)) (entsAt f.inodes a)) := (by rw [ny5])
 refine FJ.chEq .z (congrArg (fun z_ => (ownA kSl_66 (z_) [.slice (some ad13) f.inodes.length co1] : Asn)) he19) ?_
 refine FJ.doneSN (res0 rfl) (.c (.s (.s .z)) (.c .z (.c (.s .z) .n))) ?_
 exact ⟨_, _, rfl, rfl⟩

set_option maxHeartbeats 1000000 in
set_option maxRecDepth 20000 in
theorem c_68 {w0 : World} {S0 : Bs} {f : DFs} {g0 e0 s0 : Nat} {post0 : List Value} {v0_0 : Value} {v0_1 : Value} (a : Int) (i : Nat) (hs : Star [rowA g0 e0 s0 1 (v0_0 :: v0_1 :: post0), ownA kSl_66 f.inodes [v0_0], ownA kSl_39 f.data [v0_1]] w0 S0) (hp : placeIn f.inodes.length a) (hi : i < (entsAt f.inodes a).length) :
    Calls Tryz.prog 68 #[.pointer (some ⟨g0, 0, none⟩), .int .i64 a, .int .i64 (i : Int)] w0 (TriPost w0 S0 (fun r l => ∃ v0 v1, r = .int .i64 (inoAt (entsAt f.inodes a) i) ∧ l = [rowA g0 e0 s0 1 (v0 :: v1 :: post0), ownA kSl_66 ((takeF f a (List.eraseIdx (entsAt f.inodes a) i))).inodes [v0], ownA kSl_39 ((takeF f a (List.eraseIdx (entsAt f.inodes a) i))).data [v1]])) := by
 obtain ⟨hp1, hp2⟩ := hp
 refine FJ.enter (N := 40) Tryz.func68 rfl rfl (by simp) [(0, .pointer (some ⟨g0, 0, none⟩)), (1, .int .i64 a), (2, .int .i64 (i : Int))] (by simp) hs ?_
 refine FJ.know (WS.oform (.s .z)) ?_
 rintro ⟨Ao1, co1, rfl, hlo1, hmo1, hbo1⟩
 refine FJ.know (WS.oform (.s (.s .z))) ?_
 rintro ⟨Ao2, co2, rfl, hlo2, hmo2, hbo2⟩
 refine FJ.seq (FJ.region (FJ.ql rfl (q_assign rfl .c) (FJ.nil (FJ.then_ ?_))))
 refine FJ.seq (FJ.region (FJ.ql rfl (q_move rfl (.t (.s .z))) (FJ.ql rfl (q_nilCheck rfl (.t .z)) (FJ.ql rfl (q_fieldAddr rfl (.t .z) (fun _ => fa_26_0 _ _)) ?_))))
 refine FJ.ql rfl (q_load rfl ag_24 (.t .z) (WS.row .z rfl)) (FJ.ql rfl (q_move rfl (.t (.s4 (.s (.s .z))))) ?_)
 refine FJ.open (.c (.s .z) .n) own_raw ?_
 rintro fc3 hlfc3
 obtain ⟨y4, hy4⟩ := get_ex (xs := f.inodes) (j := Int.toNat a) (by omega)
 obtain ⟨c5, hc5⟩ := get_ex (xs := fc3) (j := Int.toNat a) (by rw [hlfc3]; exact (List.getElem?_eq_some_iff.1 hy4).1)
 refine FJ.turn (.s .z) (seq_split hy4 hc5) ?_
 refine FJ.open (.c .z .n) kT_66_op ?_
 rintro ⟨v6, v7⟩ rfl
 refine FJ.know (WS.oform .z) ?_
 rintro ⟨Ao10, co10, rfl, hlo10, hmo10, hbo10⟩
 refine FJ.know (WS.oform (.s .z)) ?_
 rintro ⟨Ao11, co11, rfl, hlo11, hmo11, hbo11⟩
 have ky4 := kind_at (i := a) hy4 (by omega)
 have ny4 := ents_at (a := a) hy4 (by omega)
 have ly4 := links_at (a := a) hy4 (by omega)
 have hley4 : (entsAt f.inodes a).length = y4.ents.length := by rw [ny4]
 refine FJ.know (WS.oad (.s4 .z) (by omega)) ?_
 rintro ⟨ad12, rfl⟩
 refine FJ.ql rfl (q_indexAddr (j := Int.toNat a) rfl u_24 sz_66 (.t (.s .z)) (.t .z) (by omega) (by omega)) ?_
 refine FJ.ql rfl (q_fieldAddr rfl (.t .z) (fun _ => fa_66_4 _ _)) (FJ.ql rfl (q_load rfl ag_64 (.t .z) (WS.raw (.s4 .z) hc5 rfl)) (FJ.ql rfl (q_assign rfl (.t .z)) (FJ.nil (FJ.then_ ?_))))
 refine FJ.seq (FJ.region (FJ.ql rfl (q_move rfl (.t .z)) (FJ.ql rfl (q_move rfl (.t (.s4 (.s4 (.s4 (.s .z)))))) ?_)))
 refine FJ.open (.c (.s .z) .n) own_raw ?_
 rintro fc14 hlfc14
 obtain ⟨y15, hy15⟩ := get_ex (xs := y4.ents) (j := i) (by omega)
 obtain ⟨c16, hc16⟩ := get_ex (xs := fc14) (j := i) (by rw [hlfc14]; exact (List.getElem?_eq_some_iff.1 hy15).1)
 refine FJ.turn (.s .z) (seq_split hy15 hc16) ?_
 refine FJ.open (.c .z .n) kT_68_op ?_
 rintro ⟨⟩ ⟨rfl, sy15_0⟩
 refine FJ.know (WS.oad (.s (.s .z)) (by omega)) ?_
 rintro ⟨ad17, rfl⟩
 refine FJ.ql rfl (q_indexAddr (j := i) rfl u_64 sz_68 (.t (.s .z)) (.t .z) rfl (by omega)) ?_
 refine FJ.ql rfl (q_fieldAddr rfl (.t .z) (fun _ => fa_68_1 _ _)) (FJ.ql rfl (q_load rfl ag_2 (.t .z) (WS.raw (.s (.s .z)) hc16 rfl)) (FJ.ql rfl (q_assign rfl (.t .z)) (FJ.nil (FJ.then_ ?_))))
 refine FJ.seq ?_
 refine FJ.turns (c := ownA kT_68 y15 [.string y15.name, .int .i64 y15.ino]) .n (fun w S h => kT_68_omk y15 h (by assumption)) ?_
 refine FJ.turns (c := ownA kSl_68 y4.ents [.slice (some ad17) y4.ents.length co11]) (.c (.s (.s (.s .z))) (.c .z (.c .z (.c .z .n)))) (own_unfocus0 (K := kT_68) hlfc14 hy15 hc16) ?_
 refine FJ.sel (.c .z (.c .z (.c (.s4 .z) (.c .z (.c .z (.c .z (.c .z .n))))))) ?_
 refine FJ.draw [seqC kT_66 (List.take (Int.toNat a) f.inodes) (List.take (Int.toNat a) fc3), seqC kT_66 (List.drop (Int.toNat a + 1) f.inodes) (List.drop (Int.toNat a + 1) fc3), ownA (kslice 66 72 (kraw kT_66.sz kT_66.pos)) fc3 [.slice (some ad12) f.inodes.length co1], rowA g0 e0 s0 1 ((.slice (some ad12) f.inodes.length co1) :: (.slice Ao2 f.data.length co2) :: post0)] 17 (by kernel_rfl) ?_
 refine FJ.sch [(0, true), (1, true), (2, true), (3, true), (4, true), (6, true), (7, true), (8, true), (10, true), (11, true), (12, true), (13, true), (5, false), (9, false), (14, false), (15, false), (16, true), (17, false)] 0 #[true, true, true, true, true, true, true, true, true, true, true, true, true, true, true, true, true, true] (by rfl) (by kernel_rfl) ?_
 refine FJ.dq rfl rfl rfl (by decide) rfl (.s (.s (.s .z))) (q_move rfl (.t (.s16 .z))) (FJ.dq rfl rfl rfl (by decide) rfl (.s (.s (.s .z))) (q_nilCheck rfl (.t .z)) (FJ.dq rfl rfl rfl (by decide) rfl (.s (.s (.s .z))) (q_fieldAddr rfl (.t .z) (fun _ => fa_26_0 _ _)) (FJ.dq rfl rfl rfl (by decide) rfl (.s (.s (.s .z))) (q_load rfl ag_24 (.t .z) (WS.row (.s (.s (.s .z))) rfl)) (FJ.dq rfl rfl rfl (by decide) rfl (.s (.s (.s .z))) (q_move rfl (.t (.s16 (.s4 (.s .z))))) ?_))))
 refine FJ.dq rfl rfl rfl (by decide) rfl (.s (.s (.s .z))) (q_move rfl (.t (.s4 (.s4 (.s (.s (.s .z))))))) (FJ.dq rfl rfl rfl (by decide) rfl (.s (.s (.s .z))) (q_move rfl (.t (.s16 (.s4 (.s4 .z))))) ?_)
 obtain ⟨As20, hAs20⟩ : ∃ A' : Option Addr, A' = (if co11 = 0 then (some ad17) else Option.map (fun z => Addr.add z (0 * 2)) (some ad17)) := ⟨_, rfl⟩
 have ls20 := subL_len (xs := y4.ents) (a := 0) (b := i) (by omega)
 have hk21 : True := trivial
 refine FJ.dq rfl rfl rfl (by decide) rfl (.s (.s (.s .z))) (q_sliceL (a := 0) (b := i) rfl u_64 sz_68 (.t (.s .z)) hAs20 (.inl ⟨rfl, rfl⟩) (.inr ⟨_, _, rfl, (.t .z)⟩) (by omega) (by omega) (by omega)) ?_
 refine FJ.dq rfl rfl rfl (by decide) rfl (.s (.s (.s .z))) (q_move rfl (.t (.s4 (.s4 (.s4 (.s (.s .z))))))) (FJ.dq rfl rfl rfl (by decide) rfl (.s (.s (.s .z))) (q_move rfl (.t (.s16 (.s4 (.s4 (.s (.s (.s .z)))))))) ?_)
 refine FJ.dq rfl rfl rfl (by decide) rfl (.s (.s (.s .z))) (q_add (c := ((i + 1 : Nat) : Int)) rfl (.t .z) .c (wr (by omega) (by omega) (by omega))) ?_
 obtain ⟨As22, hAs22⟩ : ∃ A' : Option Addr, A' = (if co11 = i + 1 then (some ad17) else Option.map (fun z => Addr.add z ((i + 1) * 2)) (some ad17)) := ⟨_, rfl⟩
 have ls22 := subL_len (xs := y4.ents) (a := i + 1) (b := y4.ents.length) (by omega)
 have hk23 : True := trivial
 refine FJ.dq rfl rfl rfl (by decide) rfl (.s (.s (.s .z))) (q_sliceL (a := i + 1) (b := y4.ents.length) rfl u_64 sz_68 (.t (.s (.s .z))) hAs22 (.inr ⟨_, _, rfl, (.t .z)⟩) (.inl ⟨rfl, rfl⟩) (by omega) (by omega) (by omega)) ?_
 refine FJ.e (goes_sch rfl rfl) rfl (by decide) rfl (e_buildNil rfl u_64 (inz inf_68)) ?_
 rintro _ _ ⟨g24, rfl, rfl⟩
 refine FJ.sk (.s4 .z) ?_
 refine FJ.add (c := ownA kSl_68 ([] : (List DEnt)) [.slice (some ⟨g24, 0, none⟩) 0 0]) (fun w S => own_nil w S _) ?_
 refine FJ.e (goes_sch rfl rfl) rfl (by decide) rfl (e_appendF (flat_iso _ (flat_pair (flat_scalar _ _ _) (flat_scalar _ _ _))) rfl u_64 inf_68 rfl (.t .z) (.t (.s4 (.s .z))) (.c .z .n) (fun w1 S1 tr => (ro_sub (a := 0) (b := i) hAs20 (tr.own (.s .z)) (by omega) (by omega))) (by first | omega | (simp only [List.length_append, List.length_take, List.length_nil, List.length_cons]; omega)) (by first | omega | (simp only [List.length_append, List.length_take, List.length_nil, List.length_cons]; omega))) ?_
 rintro _ _ rfl
 refine FJ.ceq .z (List.nil_append _) ?_
 refine FJ.know (WS.oform .z) ?_
 rintro ⟨Ao26, co26, rfl, hlo26, hmo26, hbo26⟩
 refine FJ.sk (.s4 (.s .z)) ?_
 refine FJ.e (goes_sch rfl rfl) rfl (by decide) rfl (e_appendF (flat_iso _ (flat_pair (flat_scalar _ _ _) (flat_scalar _ _ _))) rfl u_64 inf_68 rfl (.t .z) (.t (.s (.s .z))) (.c .z .n) (fun w1 S1 tr => (ro_sub (a := i + 1) (b := y4.ents.length) hAs22 (tr.own (.s .z)) (by omega) (by omega))) (by first | omega | (simp only [List.length_append, List.length_take, List.length_nil, List.length_cons]; omega)) (by first | omega | (simp only [List.length_append, List.length_take, List.length_nil, List.length_cons]; omega))) ?_
 rintro _ _ rfl
 refine FJ.ceq .z (subL_erase _ _) ?_
 refine FJ.know (WS.oform .z) ?_
 rintro ⟨Ao27, co27, rfl, hlo27, hmo27, hbo27⟩
 refine FJ.sk (.s4 (.s .z)) ?_
 refine FJ.q (goes_sch rfl rfl) rfl (by decide) rfl (q_indexAddr (j := Int.toNat a) rfl u_24 sz_66 (.t (.s4 (.s4 (.s (.s (.s .z)))))) (.t (.s4 (.s4 (.s (.s .z))))) (by omega) (by omega)) ?_
 refine FJ.sk (.s4 (.s .z)) ?_
 refine FJ.dq rfl rfl rfl (by decide) rfl (.s4 (.s .z)) (q_fieldAddr rfl (.t .z) (fun _ => fa_66_4 _ _)) ?_
 refine FJ.es (goes_sch rfl rfl) rfl (es_raw (j := Int.toNat a) (off := 4) (cs := [.slice Ao27 (List.eraseIdx y4.ents i).length co27]) rfl sz_64 (.t .z) (add_add _ _ _) (.t (.s (.s .z))) rfl (ones rfl) (.s4 (.s (.s (.s .z)))) hc5 (Nat.le_of_ble_eq_true rfl)) ?_
 refine FJ.ceq (x' := List.set fc3 (Int.toNat a) [.int .i64 y4.kind, .int .i64 y4.links, .int .i64 y4.size, .slice Ao10 y4.blocks.length co10, .slice Ao27 (List.eraseIdx y4.ents i).length co27]) .z rfl ?_
 refine FJ.sl rfl ?_
 refine FJ.schN ?_
 refine FJ.drawN (by kernel_rfl) ?_
 refine FJ.then_ (FJ.seq (FJ.region (FJ.ql rfl (q_move rfl (.t (.s16 (.s .z)))) (FJ.er (.s16 (.s16 (.s .z))) ?_))))
 refine FJ.ql rfl (q_assign rfl (.t .z)) (FJ.nil (FJ.then_ (FJ.ret ?_)))
 refine FJ.turns (c := ownA kT_66 (⟨y4.kind, y4.links, y4.size, y4.blocks, List.eraseIdx y4.ents i⟩ : DInode) [.int .i64 y4.kind, .int .i64 y4.links, .int .i64 y4.size, .slice Ao10 y4.blocks.length co10, .slice Ao27 (List.eraseIdx y4.ents i).length co27]) (.c (.s4 .z) (.c (.s .z) .n)) (fun w S h => kT_66_omk (⟨y4.kind, y4.links, y4.size, y4.blocks, List.eraseIdx y4.ents i⟩ : DInode) h) ?_
 refine FJ.turns (c := ownA kSl_66 (List.set f.inodes (Int.toNat a) (⟨y4.kind, y4.links, y4.size, y4.blocks, List.eraseIdx y4.ents i⟩ : DInode)) [.slice (some ad12) f.inodes.length co1]) (.c (.s .z) (.c .z (.c (.s (.s (.s .z))) (.c (.s (.s (.s .z))) .n)))) (own_unfocus (K := kT_66) hlfc3 (List.getElem?_eq_some_iff.1 hy4).1 rfl) ?_
 have he30 : List.set f.inodes (Int.toNat a) (⟨y4.kind, y4.links, y4.size, y4.blocks, List.eraseIdx y4.ents i⟩ : DInode) = withE f.inodes a (List.eraseIdx y4.ents i) := (withE_at hy4 (by omega))
 refine FJ.chEq .z (congrArg (fun z_ => (ownA kSl_66 (z_) [.slice (some ad12) f.inodes.length co1] : Asn)) he30) ?_
 have he31 : withE f.inodes a (List.eraseIdx y4.ents i) = withE f.inodes a (List.eraseIdx (entsAt f.inodes a) i) := (by rw [ny4])
 refine FJ.chEq .z (congrArg (fun z_ => (ownA kSl_66 (z_) [.slice (some ad12) f.inodes.length co1] : Asn)) he31) ?_
 refine FJ.doneS (res1 rfl .z) (.c (.s4 .z) (.c .z (.c (.s (.s .z)) .n))) ?_
 exact ⟨_, _, by rw [ny4, inoAt_of hy15], rfl⟩

end Go.Proofs.YtbcdcakcmdcafaaGreat

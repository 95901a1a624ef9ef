/- What is proved: contracts of functions, one a function. No condition. -/
import Derived.Test.YtmejbfmhaoilmaaGreatBase1
import Derived.Test.YtmejbfmhaoilmaaGreatW11
namespace Go.Proofs.YtmejbfmhaoilmaaGreat
open Go Go.RowKit
set_option linter.unusedVariables false
set_option linter.unusedSimpArgs false
set_option maxHeartbeats 1000000
set_option maxRecDepth 20000
theorem c_137 {w0 : World} {S0 : Bs} {xs : (List (List UInt8))} {v0 : Value} (h0 : kSl_22.ro w0 (FF w0 S0) xs [v0]) {f : FuncId} {fn : Func} (hfn : Tryz.prog.funcs[f]? = some fn) (hbody : fn.body.isSome = true) (hname : (fn.name == "runtime.NumGoroutine") = false) {p : (List UInt8) → Bool} (hf : ∀ (w1 : World) (S1 : Bs) {x : (List UInt8)} {v1 : Value}, kSl_5.ro w1 (FF w1 S1) x [v1] → Calls Tryz.prog f #[v1] w1 (TriPost w1 S1 (fun r l => r = .bool (p x) ∧ l = [])))  :
    Calls Tryz.prog 137 #[v0, .func (.func f) #[] #[]] w0 (TriPost w0 S0 (fun r l => r = .int .i64 (idxF p xs) ∧ l = [])) := by
 obtain ⟨A0, c0, rfl, am, an, ao, ag⟩ := ro_form h0
 refine Y.enter (N := 19) Tryz.func137 rfl rfl (by simp) [(0, .slice A0 xs.length c0), (1, .func (.func f) #[] #[])] (by simp) (l0 := []) trivial ?_
 refine Y.seq (Y.region (Y.ql rfl (q_assign rfl .c) (Y.nt (Y.seq (Y.seq (Y.region (Y.mv rfl .g1 ?_)))))))
 refine Y.ql rfl (q_len rfl u_25 (.t .z)) (Y.ql rfl (q_move rfl .c) (Y.nt (Y.block ?_)))
 refine Y.loopi (γ := Nat) (fun k => [(8, .int .i64 (k : Int)), (7, .int .i64 (xs.length : Int)), (0, .slice A0 xs.length c0), (1, .func (.func f) #[] #[])]) (fun k => []) (fun k => k ≤ xs.length ∧ ∀ j x, j < k → xs[j]? = some x → p x = false) (fun k => xs.length - k) 0 ⟨Nat.zero_le _, all_zero (q := fun _ x => p x = false)⟩ (.c .z (.c .g1 (.c .g4 (.c .g5 .n)))) (fun _ h => h) ?_
 rintro k ⟨hk, hallk⟩
 refine Y.seq (Y.region (Y.ql rfl (q_lss rfl (.t .z) (.t .g1)) (Y.nt (Y.seq ?_))))
 refine Y.condP (.t .z) (fun b2 => ?_) (fun b2 => ?_)
 refine Y.skip (Y.then_ (Y.seq (Y.block (Y.seq (Y.region (Y.mv rfl .g1 (Y.as rfl .z (Y.nil ?_))))))))
 refine Y.then_ (Y.seq (Y.region (Y.mv rfl .g6 (Y.mv rfl .g6 (Y.mv rfl .g2 ?_)))))
 obtain ⟨ap, ab, ac⟩ := ag (by omega)
 subst ab
 obtain ⟨x4, af⟩ := get_ex (xs := xs) (j := k) (by omega)
 obtain ⟨ah, aa, ad, ae⟩ := ac.elem af
 obtain ⟨aq, rfl⟩ := sl_one aa
 obtain ⟨ar, au, rfl, ai, aj, ak, al⟩ := ro_form aa
 refine Y.ql rfl (q_indexAddr (j := k) rfl u_25 sz_22 (.t .g1) (.t .z) rfl (by omega)) ?_
 refine Y.ql rfl (q_load rfl ag_22 (.t .z) (WS.el0 ad ae rfl)) ?_
 refine Y.call (goes_list rfl) rfl (by decide) rfl (c_callv rfl (.t .g4) hfn hbody hname (args1 (.t .z))) .n (fun w1 S1 hs tr => hf w1 S1 (tr.ctx aa)) ?_
 rintro _ _ ⟨rfl, rfl⟩
 refine Y.cat .n ?_
 refine Y.nt ?_
 refine Y.cond (.t .z) (fun b7 => ?_) (fun b7 => ?_)
 refine Y.seq (Y.region (Y.mv rfl .g6 (Y.as rfl .z (Y.nt (Y.ret (Y.inBR (Y.thenR ?_)))))))
 refine Y.thenR (Y.inBR (Y.thenR ?_))
 refine Y.doneS (res1 rfl .z) .n ?_
 exact ⟨by rw [idxF_some (by assumption) (by assumption) hallk], rfl⟩
 refine Y.skip (Y.inBN (Y.then_ (Y.region ?_)))
 refine Y.ql rfl (q_add (c := ((k + 1 : Nat) : Int)) rfl (.t .g9) .c (wr (by omega) (by omega) (by omega))) ?_
 refine Y.er .g10 (Y.mv rfl .z (Y.nil ?_))
 refine Y.again (k + 1) ⟨by omega, all_succ (q := fun _ x => p x = false) hallk af b7⟩ (by first | omega | (dsimp only; omega)) (.c .z (.c .g11 (.c .g12 (.c .g13 .n)))) (fun _ h => h)
 refine Y.exit (Y.thenE (Y.thenE (Y.inB (Y.then_ (Y.seq (Y.region (Y.ql rfl (q_assign rfl .c) (Y.nil ?_))))))))
 refine Y.then_ (Y.ret ?_)
 refine Y.doneS (res1 rfl .z) .n ?_
 exact ⟨by rw [idxF_none (fun j x hx => hallk j x (by have := (List.getElem?_eq_some_iff.1 hx).1; omega) hx)], rfl⟩

theorem c_96 {w0 : World} {S0 : Bs} {b : (List UInt8)} {v0 : Value} (h0 : kSl_5.ro w0 (FF w0 S0) b [v0])  :
    Calls Tryz.prog 96 #[v0] w0 (TriPost w0 S0 (fun r l => r = .bool (decide ((8 : Int) < (b.length : Int))) ∧ l = [])) := by
 obtain ⟨A0, c0, rfl, hl0, hm0, hb0, he0⟩ := ro_form h0
 refine Y.enter (N := 6) Tryz.func96 rfl rfl (by simp) [(0, .slice A0 b.length c0)] (by simp) (l0 := []) trivial ?_
 refine Y.seq (Y.region (Y.ql rfl (q_assign rfl .c) (Y.nt (Y.seq (Y.region (Y.mv rfl .g1 (Y.ql rfl (q_len rfl u_22 (.t .z)) ?_)))))))
 refine Y.ql rfl (q_gtr rfl (.t .z) .c) (Y.er .g3 (Y.as rfl .z (Y.nt (Y.ret ?_))))
 refine Y.doneS (res1 rfl .z) .n ?_
 exact ⟨rfl, rfl⟩

theorem c_95 {w0 : World} {S0 : Bs} {xs : (List (List UInt8))} {v0 : Value} (h0 : kSl_22.ro w0 (FF w0 S0) xs [v0]) {f : FuncId} {fn : Func} (hfn : Tryz.prog.funcs[f]? = some fn) (hbody : fn.body.isSome = true) (hname : (fn.name == "runtime.NumGoroutine") = false) {p : (List UInt8) → Bool} (hf : ∀ (w1 : World) (S1 : Bs) {x : (List UInt8)} {v1 : Value}, kSl_5.ro w1 (FF w1 S1) x [v1] → Calls Tryz.prog f #[v1] w1 (TriPost w1 S1 (fun r l => r = .bool (p x) ∧ l = [])))  :
    Calls Tryz.prog 95 #[v0, .func (.func f) #[] #[]] w0 (TriPost w0 S0 (fun r l => r = .bool (xs.any p) ∧ l = [])) := by
 obtain ⟨A0, c0, rfl, hl0, hm0, hb0, he0⟩ := ro_form h0
 refine Y.enter (N := 9) Tryz.func95 rfl rfl (by simp) [(0, .slice A0 xs.length c0), (1, .func (.func f) #[] #[])] (by simp) (l0 := []) trivial ?_
 refine Y.seq (Y.region (Y.ql rfl (q_assign rfl .c) (Y.nt (Y.seq (Y.region (Y.mv rfl .g1 (Y.mv rfl .g3 ?_)))))))
 refine Y.cl rfl rfl Tryz.func137 rfl rfl (args2 (.t .g1) (.t .z)) .n (fun _ _ hs tr => c_137 (tr.ctx h0) hfn hbody hname (fun w2 S2 x _ h1 => hf w2 S2 h1)) ?_
 rintro _ _ ⟨rfl, rfl⟩
 refine Y.cat .n ?_
 refine Y.ql rfl (q_geq rfl (.t .z) .c) (Y.er .g4 (Y.as rfl .z (Y.nt (Y.ret ?_))))
 refine Y.doneS (res1 rfl .z) .n ?_
 exact ⟨by rw [idxF_any], rfl⟩

theorem c_94 {w0 : World} {S0 : Bs} {f : DFs} {az : List Value} (h0 : kT_27.ro w0 (FF w0 S0) f az)  :
    Calls Tryz.prog 94 #[.agg az.toArray] w0 (TriPost w0 S0 (fun r l => r = .int .i64 (rootFault f) ∧ l = [])) := by
 obtain ⟨bd, be, rfl, aa, ak⟩ := kT_27_ro h0
 obtain ⟨ab, ac, rfl, a0, a1, a2, ad⟩ := ro_form aa
 obtain ⟨ae, af, rfl, a3, a4, a5, a6⟩ := ro_form ak
 refine Y.enter (N := 28) Tryz.func94 rfl rfl (by simp) [(0, .agg #[.slice ab f.inodes.length ac, .slice ae f.data.length af])] (by simp) (l0 := []) trivial ?_
 refine Y.seq (Y.region ?_)
 refine Y.el rfl (e_box (cs := [.slice ab f.inodes.length ac, .slice ae f.data.length af]) (n := 2) rfl (.t .z) rfl rfl) ?_
 rintro _ _ ⟨g3, rfl, rfl⟩
 refine Y.ql rfl (q_assign rfl .c) (Y.nt (Y.seq (Y.seq (Y.region (Y.fa rfl .g1 fa_27_0 (Y.ld rfl ag_24 .z .z ?_))))))
 refine Y.cl rfl rfl Tryz.func83 rfl rfl (args1 (.t .z)) .n (fun _ _ hs tr => c_83 (tr.ctx aa)) ?_
 rintro _ _ ⟨rfl, rfl⟩
 refine Y.cat .n ?_
 refine Y.as rfl .z (Y.nt (Y.seq (Y.region (Y.mv rfl .z (Y.ql rfl (q_neq rfl (.t .z) .c) (Y.nt ?_))))))
 refine Y.condN (.t .z) (fun b4 => ?_) (fun b4 => ?_)
 refine Y.seq (Y.region (Y.mv rfl .g2 (Y.er .g7 (Y.as rfl .z (Y.nt (Y.ret (Y.thenR ?_)))))))
 refine Y.doneS (res1 rfl .z) .n ?_
 exact ⟨by first | (rw [rootFault_f (by assumption)]; done) | (rw [rootFault_1 (by assumption) (by omega)]; done) | (rw [rootFault_0 (by assumption) (by omega) (by omega) (by omega)]; done), rfl⟩
 refine Y.skip (Y.then_ (Y.seq (Y.seq (Y.region (Y.fa rfl .g7 fa_27_0 (Y.ld rfl ag_24 .z .z (Y.ql rfl (q_len rfl u_24 (.t .z)) (Y.ql rfl (q_eql rfl (.t .z) .c) ?_))))))))
 refine Y.mv rfl .z ?_
 refine Y.caseP .z (fun g5 => ?_) (fun g5 => ?_)
 refine Y.skipl rfl rfl .z rfl rfl (by decide) rfl ?_
 refine Y.skipl rfl rfl .g1 rfl rfl (by decide) rfl ?_
 refine Y.skipl rfl rfl .g2 rfl rfl (by decide) rfl ?_
 refine Y.skipl rfl rfl .g3 rfl rfl (by decide) rfl ?_
 refine Y.skipl rfl rfl .g4 rfl rfl (by decide) rfl ?_
 refine Y.skipl rfl rfl .g5 rfl rfl (by decide) rfl ?_
 refine Y.ql rfl (q_pickT rfl (.t .g6) .c) (Y.mv rfl .z ?_)
 refine Y.skipl rfl rfl .z rfl rfl (by decide) rfl ?_
 refine Y.skipl rfl rfl .g1 rfl rfl (by decide) rfl ?_
 refine Y.skipl rfl rfl .g2 rfl rfl (by decide) rfl ?_
 refine Y.skipl rfl rfl .g3 rfl rfl (by decide) rfl ?_
 refine Y.ql rfl (q_pickT rfl (.t .g4) .c) (Y.nt ?_)
 refine Y.condT (.t .z) ?_
 refine Y.seq (Y.region (Y.er (.s16 .g8) (Y.ql rfl (q_assign rfl .c) (Y.nt (Y.ret (Y.thenR ?_))))))
 refine Y.doneS (res1 rfl .z) .n ?_
 exact ⟨by first | (rw [rootFault_f (by assumption)]; done) | (rw [rootFault_1 (by assumption) (by omega)]; done) | (rw [rootFault_0 (by assumption) (by omega) (by omega) (by omega)]; done), rfl⟩
 refine Y.qg rfl rfl .z rfl rfl rfl (q_fieldAddr rfl (.t .g12) (fun _ => fa_27_0 _ _)) ?_
 refine Y.qg rfl rfl .g1 rfl rfl rfl (q_load rfl ag_24 (.t .z) (WS.row .z rfl)) ?_
 obtain ⟨bh, ag, ah⟩ := ad (by omega)
 subst ag
 obtain ⟨x7, al⟩ := get_ex (xs := f.inodes) (j := 0) (by omega)
 obtain ⟨bf, am, an, ao⟩ := ah.elem al
 obtain ⟨a7, a8, rfl, ai, aj⟩ := kT_44_ro am
 obtain ⟨a9, ba, rfl, ap, aq, ar, au⟩ := ro_form ai
 obtain ⟨bb, bc, rfl, av, aw, ax, ay⟩ := ro_form aj
 have bi := kind_at (i := 0) al (by omega)
 have bj := ents_at (a := 0) al (by omega)
 refine Y.qg rfl rfl .g2 rfl rfl rfl (q_indexAddr (j := 0) rfl u_24 sz_44 (.t .z) .c rfl (by omega)) ?_
 refine Y.qg rfl rfl .g3 rfl rfl rfl (q_fieldAddr rfl (.t .z) (fun _ => fa_44_0 _ _)) ?_
 refine Y.qg rfl rfl .g4 rfl rfl rfl (q_load rfl ag_2 (.t .z) (WS.el an ao rfl)) ?_
 refine Y.qg rfl rfl .g5 rfl rfl rfl (q_neq rfl (.t .z) .c) ?_
 refine Y.ql rfl (q_pickF rfl (.t .g6) (.t .z)) (Y.mv rfl .z ?_)
 refine Y.caseN .z (fun g11 => ?_) (fun g11 => ?_)
 refine Y.skipl rfl rfl .z rfl rfl (by decide) rfl ?_
 refine Y.skipl rfl rfl .g1 rfl rfl (by decide) rfl ?_
 refine Y.skipl rfl rfl .g2 rfl rfl (by decide) rfl ?_
 refine Y.skipl rfl rfl .g3 rfl rfl (by decide) rfl ?_
 refine Y.ql rfl (q_pickT rfl (.t .g4) .c) (Y.nt ?_)
 refine Y.condT (.t .z) ?_
 refine Y.seq (Y.region (Y.er (.s16 .g8) (Y.ql rfl (q_assign rfl .c) (Y.nt (Y.ret (Y.thenR ?_))))))
 refine Y.doneS (res1 rfl .z) .n ?_
 exact ⟨by first | (rw [rootFault_f (by assumption)]; done) | (rw [rootFault_1 (by assumption) (by omega)]; done) | (rw [rootFault_0 (by assumption) (by omega) (by omega) (by omega)]; done), rfl⟩
 refine Y.qg rfl rfl .z rfl rfl rfl (q_fieldAddr rfl (.t (.s16 .g4)) (fun _ => fa_27_1 _ _)) ?_
 refine Y.qg rfl rfl .g1 rfl rfl rfl (q_load rfl ag_25 (.t .z) (WS.row .z rfl)) ?_
 refine Y.qg rfl rfl .g2 rfl rfl rfl (q_len rfl u_25 (.t .z)) ?_
 refine Y.qg rfl rfl .g3 rfl rfl rfl (q_neq rfl (.t .z) .c) ?_
 refine Y.ql rfl (q_pickF rfl (.t .g4) (.t .z)) (Y.nt ?_)
 refine Y.condN (.t .z) (fun bg => ?_) (fun bg => ?_)
 refine Y.seq (Y.region (Y.er (.s16 .g8) (Y.ql rfl (q_assign rfl .c) (Y.nt (Y.ret (Y.thenR ?_))))))
 refine Y.doneS (res1 rfl .z) .n ?_
 exact ⟨by first | (rw [rootFault_f (by assumption)]; done) | (rw [rootFault_1 (by assumption) (by omega)]; done) | (rw [rootFault_0 (by assumption) (by omega) (by omega) (by omega)]; done), rfl⟩
 refine Y.skip (Y.then_ (Y.seq (Y.region (Y.er (.s16 .g8) (Y.ql rfl (q_assign rfl .c) (Y.nt (Y.ret ?_)))))))
 refine Y.doneS (res1 rfl .z) .n ?_
 exact ⟨by first | (rw [rootFault_f (by assumption)]; done) | (rw [rootFault_1 (by assumption) (by omega)]; done) | (rw [rootFault_0 (by assumption) (by omega) (by omega) (by omega)]; done), rfl⟩

theorem c_50 {w0 : World} {S0 : Bs} {f : DFs} {b7 : List Value} (h0 : kT_27.ro w0 (FF w0 S0) f b7)  :
    Calls Tryz.prog 50 #[.agg b7.toArray] w0 (TriPost w0 S0 (fun r l => r = .int .i64 (treeFault f) ∧ l = [])) := by
 obtain ⟨ck, cm, rfl, ah, an⟩ := kT_27_ro h0
 obtain ⟨ai, ab, rfl, b8, b9, ca, a0⟩ := ro_form ah
 obtain ⟨aj, ak, rfl, cb, cc, cd, ce⟩ := ro_form an
 refine Y.enter (N := 58) Tryz.func50 rfl rfl (by simp) [(0, .agg #[.slice ai f.inodes.length ab, .slice aj f.data.length ak])] (by simp) (l0 := []) trivial ?_
 refine Y.seq (Y.region ?_)
 refine Y.el rfl (e_box (cs := [.slice ai f.inodes.length ab, .slice aj f.data.length ak]) (n := 2) rfl (.t .z) rfl rfl) ?_
 rintro _ _ ⟨g3, rfl, rfl⟩
 refine Y.ql rfl (q_assign rfl .c) (Y.nt (Y.seq (Y.seq (Y.region (Y.ql rfl (qW rfl ag_27 (.t .g1) .z sz_27) ?_)))))
 refine Y.cl rfl rfl Tryz.func94 rfl rfl (args1 (.t .z)) .n (fun _ _ hs tr => c_94 (kT_27_mk f (tr.ctx ah) (tr.ctx an))) ?_
 rintro _ _ ⟨rfl, rfl⟩
 refine Y.cat .n ?_
 refine Y.as rfl .z (Y.nt (Y.seq (Y.region (Y.mv rfl .z (Y.ql rfl (q_neq rfl (.t .z) .c) (Y.nt ?_))))))
 refine Y.condN (.t .z) (fun b4 => ?_) (fun b4 => ?_)
 refine Y.seq (Y.region (Y.mv rfl .g2 (Y.er .g6 (Y.as rfl .z (Y.nt (Y.ret (Y.thenR ?_)))))))
 refine Y.doneS (res1 rfl .z) .n ?_
 exact ⟨by first | (rw [treeFault_r (by assumption)]; done) | (rw [treeFault_2 (by assumption) (by assumption)]; done) | (rw [treeFault_7 (by assumption) (by assumption) (by assumption)]; done) | (rw [treeFault_0 (by assumption) (by assumption) (by assumption) (badE_no (fun j x hj hx => hallk j x (by omega) hx))]; done), rfl⟩
 have a1 := (rootOk b4).1
 refine Y.skip (Y.then_ (Y.seq (Y.seq (Y.region (Y.fa rfl .g6 fa_27_1 (Y.ld rfl ag_25 .z .z ?_))))))
 refine Y.cl rfl rfl Tryz.func95 rfl rfl (args2 (.t .z) .f) .n (fun _ _ hs tr => c_95 (tr.ctx an) Tryz.func96 rfl rfl (fun w2 S2 x _ h1 => c_96 h1)) ?_
 rintro _ _ ⟨rfl, rfl⟩
 refine Y.cat .n ?_
 refine Y.nt ?_
 refine Y.cond (.t .z) (fun b6 => ?_) (fun b6 => ?_)
 refine Y.seq (Y.region (Y.er .g8 (Y.ql rfl (q_assign rfl .c) (Y.nt (Y.ret (Y.thenR ?_))))))
 refine Y.doneS (res1 rfl .z) .n ?_
 exact ⟨by first | (rw [treeFault_r (by assumption)]; done) | (rw [treeFault_2 (by assumption) (by assumption)]; done) | (rw [treeFault_7 (by assumption) (by assumption) (by assumption)]; done) | (rw [treeFault_0 (by assumption) (by assumption) (by assumption) (badE_no (fun j x hj hx => hallk j x (by omega) hx))]; done), rfl⟩
 refine Y.skip (Y.then_ (Y.seq (Y.seq (Y.region (Y.fa rfl .g9 fa_27_0 (Y.ld rfl ag_24 .z .z ?_))))))
 refine Y.cl rfl rfl Tryz.func97 rfl rfl (args1 (.t .z)) .n (fun _ _ hs tr => c_97 (tr.ctx ah) (by first | assumption | (exact ask_ok (by assumption)))) ?_
 rintro _ _ ⟨v7, rfl, rfl⟩
 refine Y.cat (.c .n) ?_
 refine Y.know (WS.oform .z) ?_
 rintro ⟨bt, bu, rfl, cn, co, cp⟩
 refine Y.mv rfl .z (Y.ql rfl (q_extract (v := .slice bt (sortI (usedL f.inodes)).length bu) rfl (.t .z) rfl) (Y.ql rfl (q_extract (v := .bool (decide (usedL f.inodes).Nodup)) rfl (.t .g1) rfl) (Y.as rfl .g1 (Y.as rfl .g1 (Y.nt (Y.seq (Y.region ?_)))))))
 refine Y.mv rfl .z (Y.ql rfl (q_not rfl (.t .z)) (Y.nt ?_))
 refine Y.condN (.t .z) (fun cq => ?_) (fun cq => ?_)
 refine Y.seq (Y.region (Y.er (.s16 .g2) (Y.ql rfl (q_assign rfl .c) (Y.nt (Y.ret (Y.thenR ?_))))))
 refine Y.doneS (res1 rfl .z) .n ?_
 exact ⟨by first | (rw [treeFault_r (by assumption)]; done) | (rw [treeFault_2 (by assumption) (by assumption)]; done) | (rw [treeFault_7 (by assumption) (by assumption) (by assumption)]; done) | (rw [treeFault_0 (by assumption) (by assumption) (by assumption) (badE_no (fun j x hj hx => hallk j x (by omega) hx))]; done), rfl⟩
 refine Y.skip (Y.then_ (Y.seq (Y.seq (Y.region (Y.fa rfl (.s16 .g3) fa_27_0 (Y.ld rfl ag_24 .z .g1 (Y.ql rfl (q_len rfl u_24 (.t .z)) (Y.ql rfl (q_move rfl .c) ?_))))))))
 refine Y.nt (Y.block ?_)
 refine Y.loopi (γ := Nat) (fun k => [(29, .int .i64 (k : Int)), (28, .int .i64 (f.inodes.length : Int)), (27, .slice ai f.inodes.length ab), (1, .pointer (some ⟨g3, 0, none⟩))]) (fun k => [ownA kSl_2 (sortI (usedL f.inodes)) [.slice bt (sortI (usedL f.inodes)).length bu], rowA g3 27 2 1 [.slice ai f.inodes.length ab, .slice aj f.data.length ak]]) (fun k => k ≤ f.inodes.length ∧ ∀ j x, j < k → f.inodes[j]? = some x → goodX f.inodes x) (fun k => f.inodes.length - k) 0 ⟨Nat.zero_le _, all_zero (q := fun _ x => goodX f.inodes x)⟩ (.c .z (.c .g1 (.c .g2 (.c (.s16 .g7) .n)))) (fun _ h => h.sel (.c .z (.c .z .n))) ?_
 rintro k ⟨hk, hallk⟩
 refine Y.seq (Y.region (Y.ql rfl (q_lss rfl (.t .z) (.t .g1)) (Y.nt (Y.seq ?_))))
 refine Y.condP (.t .z) (fun cr => ?_) (fun cr => ?_)
 refine Y.skip (Y.then_ (Y.seq (Y.block (Y.seq (Y.region ?_)))))
 obtain ⟨a2, ao, ac⟩ := a0 (by omega)
 subst ao
 obtain ⟨ad, aa⟩ := get_ex (xs := f.inodes) (j := k) (by omega)
 obtain ⟨cf, a3, a4, a5⟩ := ac.elem aa
 obtain ⟨bv, bw, rfl, ap, aq⟩ := kT_44_ro a3
 obtain ⟨ar, au, rfl, bd, be, bf, bg⟩ := ro_form ap
 obtain ⟨ae, af, rfl, bh, bi, bj, al⟩ := ro_form aq
 have ct := kind_at (i := ((k : Nat) : Int)) aa (by omega)
 have cu := ents_at (a := ((k : Nat) : Int)) aa (by omega)
 have a6 := inodes_all a1 _ (List.mem_of_getElem? aa)
 refine Y.ql rfl (q_indexAddr (j := k) rfl u_24 sz_44 (.t .g3) (.t .g1) rfl (by omega)) ?_
 refine Y.ql rfl (qE rfl ag_44 (.t .z) a4 a5 sz_44) ?_
 refine Y.el rfl (e_alloc rfl z_44 rfl rfl) ?_
 rintro _ _ ⟨g17, rfl, rfl⟩
 refine Y.es (goes_list rfl) rfl (esW rfl (.t .z) (.t .g1) .z sz_44 rfl rfl) ?_
 refine Y.nt (Y.seq (Y.region (Y.fa rfl .z fa_44_4 (Y.ld rfl ag_42 .z .z (Y.ql rfl (q_len rfl u_42 (.t .z)) (Y.ql rfl (q_move rfl .c) (Y.nil ?_)))))))
 refine Y.then_ (Y.block ?_)
 refine Y.loopi (γ := Nat) (fun q => [(36, .int .i64 (q : Int)), (35, .int .i64 (ad.ents.length : Int)), (34, .slice ae ad.ents.length af), (29, .int .i64 (k : Int)), (28, .int .i64 (f.inodes.length : Int)), (27, .slice (some a2) f.inodes.length ab), (1, .pointer (some ⟨g3, 0, none⟩))]) (fun q => [rowA g17 44 5 1 [.int .i64 ad.kind, .int .i64 ad.links, .int .i64 ad.size, .slice ar ad.blocks.length au, .slice ae ad.ents.length af], ownA kSl_2 (sortI (usedL f.inodes)) [.slice bt (sortI (usedL f.inodes)).length bu], rowA g3 27 2 1 [.slice (some a2) f.inodes.length ab, .slice aj f.data.length ak]]) (fun q => q ≤ ad.ents.length ∧ ∀ j e, j < q → ad.ents[j]? = some e → ¬ entBad f.inodes e) (fun q => ad.ents.length - q) 0 ⟨Nat.zero_le _, all_zero (q := fun _ e => ¬ entBad f.inodes e)⟩ (.c .z (.c .g1 (.c .g2 (.c .g8 (.c .g9 (.c .g10 (.c .g11 .n))))))) (fun _ h => h.sel (.c .z (.c .z (.c .z .n)))) ?_
 rintro q ⟨hq, hallq⟩
 refine Y.seq (Y.region (Y.ql rfl (q_lss rfl (.t .z) (.t .g1)) (Y.nt (Y.seq ?_))))
 refine Y.condP (.t .z) (fun cv => ?_) (fun cv => ?_)
 refine Y.skip (Y.then_ (Y.seq (Y.block (Y.seq (Y.region ?_)))))
 obtain ⟨cw, av, aw⟩ := al (by omega)
 subst av
 obtain ⟨ax, ag⟩ := get_ex (xs := ad.ents) (j := q) (by omega)
 obtain ⟨cg, a7, a8, a9⟩ := aw.elem ag
 obtain ⟨rfl, bx⟩ := kT_46_ro a7
 have ch := ents_ok a6 _ _ ag
 refine Y.ql rfl (q_indexAddr (j := q) rfl u_42 sz_46 (.t .g3) (.t .g1) rfl (by omega)) ?_
 refine Y.ql rfl (qE rfl ag_46 (.t .z) a8 a9 sz_46) ?_
 refine Y.el rfl (e_alloc rfl z_46 rfl rfl) ?_
 rintro _ _ ⟨g22, rfl, rfl⟩
 refine Y.es (goes_list rfl) rfl (esW rfl (.t .z) (.t .g1) .z sz_46 rfl rfl) ?_
 refine Y.nt (Y.seq ?_)
 refine Y.sel (.c .g2 (.c .z (.c .z (.c .z .n)))) ?_
 refine Y.dr .g1 16 mixo ?_
 refine Y.sc (qs 0 4 ++ [(4, false), (5, true), (6, true)]) (by kernel_rfl) ?_
 refine Y.df rfl rfl .g1 .z fa_46_1 (Y.dl rfl rfl .g1 ag_2 .z .z (Y.df rfl rfl .g1 .g12 fa_27_0 (Y.dl rfl rfl .g1 ag_24 .z .g2 ?_)))
 refine Y.call (goes_sch rfl rfl) rfl (by decide) rfl (c_call rfl Tryz.func85 rfl rfl (args1 (.t .z))) .n (fun _ _ hs tr => c_85 (tr.ctx ah)) ?_
 rintro _ _ ⟨rfl, rfl⟩
 refine Y.cat .n ?_
 refine Y.sk .g1 ?_
 refine Y.dk rfl rfl .g1 (q_geq rfl (.t .g3) (.t .z)) (Y.dm rfl rfl .g1 .z (Y.schN ?_))
 refine Y.caseP .z (fun g23 => ?_) (fun g23 => ?_)
 refine Y.sc (qs 7 9) (by kernel_rfl) ?_
 refine Y.dskip rfl rfl rfl .z rfl rfl (by decide) rfl .g1 ?_
 refine Y.dskip rfl rfl rfl .g1 rfl rfl (by decide) rfl .g1 ?_
 refine Y.dskip rfl rfl rfl .g2 rfl rfl (by decide) rfl .g1 ?_
 refine Y.dskip rfl rfl rfl .g3 rfl rfl (by decide) rfl .g1 ?_
 refine Y.dskip rfl rfl rfl .g4 rfl rfl (by decide) rfl .g1 ?_
 refine Y.dskip rfl rfl rfl .g5 rfl rfl (by decide) rfl .g1 ?_
 refine Y.dskip rfl rfl rfl .g6 rfl rfl (by decide) rfl .g1 ?_
 refine Y.dskip rfl rfl rfl .g7 rfl rfl (by decide) rfl .g1 ?_
 refine Y.dk rfl rfl .g1 (q_pickT rfl (.t .g8) .c) (Y.schN ?_)
 refine Y.drawN (by kernel_rfl) ?_
 refine Y.then_ ?_
 refine Y.condT (.t .z) ?_
 refine Y.seq (Y.region (Y.ql rfl (q_assign rfl .c) (Y.nt (Y.ret (Y.inBR (Y.thenR (Y.thenR ?_)))))))
 refine Y.inBR (Y.inBR (Y.thenR (Y.thenR (Y.inBR (Y.thenR ?_)))))
 refine Y.doneS (res1 rfl .z) .n ?_
 exact ⟨by first | (rw [treeFault_r (by assumption)]; done) | (rw [treeFault_2 (by assumption) (by assumption)]; done) | (rw [treeFault_7 (by assumption) (by assumption) (by assumption)]; done) | (rw [treeFault_4 (by assumption) (by assumption) (by assumption) (badE_yes aa ag (by first | exact kind_out (by assumption) | (show kindAt f.inodes ax.ino = 0; omega)))]; done) | (rw [treeFault_0 (by assumption) (by assumption) (by assumption) (badE_no (fun j x hj hx => hallk j x (by omega) hx))]; done), rfl⟩
 refine Y.sc (qs 7 9) (by kernel_rfl) ?_
 refine Y.dqg rfl rfl rfl .z rfl (by decide) rfl .g1 (q_fieldAddr rfl (.t (.s16 .g1)) (fun _ => fa_27_0 _ _)) ?_
 refine Y.dqg rfl rfl rfl .g1 rfl (by decide) rfl .g1 (q_load rfl ag_24 (.t .z) (WS.row .g2 rfl)) ?_
 refine Y.dqg rfl rfl rfl .g2 rfl (by decide) rfl .g1 (q_fieldAddr rfl (.t .g9) (fun _ => fa_46_1 _ _)) ?_
 refine Y.dqg rfl rfl rfl .g3 rfl (by decide) rfl .g1 (q_load rfl ag_2 (.t .z) (WS.row .z rfl)) ?_
 obtain ⟨c0, am⟩ := get_ex (xs := f.inodes) (j := Int.toNat ax.ino) (by omega)
 obtain ⟨ci, ba, bb, bc⟩ := ac.elem am
 obtain ⟨bz, b0, rfl, ay, az⟩ := kT_44_ro ba
 obtain ⟨b1, b2, rfl, bk, bm, bn, bo⟩ := ro_form ay
 obtain ⟨b3, b5, rfl, bp, bq, br, bs⟩ := ro_form az
 have cx := kind_at (i := ax.ino) am (by omega)
 have cy := ents_at (a := ax.ino) am (by omega)
 have cj := inodes_all a1 _ (List.mem_of_getElem? am)
 refine Y.dqg rfl rfl rfl .g4 rfl (by decide) rfl .g1 (q_indexAddr (j := Int.toNat ax.ino) rfl u_24 sz_44 (.t .g2) (.t .z) (by omega) (by omega)) ?_
 refine Y.dqg rfl rfl rfl .g5 rfl (by decide) rfl .g1 (q_fieldAddr rfl (.t .z) (fun _ => fa_44_0 _ _)) ?_
 refine Y.dqg rfl rfl rfl .g6 rfl (by decide) rfl .g1 (q_load rfl ag_2 (.t .z) (WS.el bb bc rfl)) ?_
 refine Y.dqg rfl rfl rfl .g7 rfl (by decide) rfl .g1 (q_eql rfl (.t .z) .c) ?_
 refine Y.dk rfl rfl .g1 (q_pickF rfl (.t .g8) (.t .z)) (Y.schN ?_)
 refine Y.drawN (by kernel_rfl) ?_
 refine Y.then_ ?_
 refine Y.condP (.t .z) (fun cz => ?_) (fun cz => ?_)
 refine Y.seq (Y.region (Y.ql rfl (q_assign rfl .c) (Y.nt (Y.ret (Y.inBR (Y.thenR (Y.thenR ?_)))))))
 refine Y.inBR (Y.inBR (Y.thenR (Y.thenR (Y.inBR (Y.thenR ?_)))))
 refine Y.doneS (res1 rfl .z) .n ?_
 exact ⟨by first | (rw [treeFault_r (by assumption)]; done) | (rw [treeFault_2 (by assumption) (by assumption)]; done) | (rw [treeFault_7 (by assumption) (by assumption) (by assumption)]; done) | (rw [treeFault_4 (by assumption) (by assumption) (by assumption) (badE_yes aa ag (by first | exact kind_out (by assumption) | (show kindAt f.inodes ax.ino = 0; omega)))]; done) | (rw [treeFault_0 (by assumption) (by assumption) (by assumption) (badE_no (fun j x hj hx => hallk j x (by omega) hx))]; done), rfl⟩
 refine Y.skip (Y.inBN (Y.then_ (Y.region ?_)))
 refine Y.ql rfl (q_add (c := ((q + 1 : Nat) : Int)) rfl (.t (.s16 .g4)) .c (wr (by omega) (by omega) (by omega))) ?_
 refine Y.er (.s16 .g5) (Y.mv rfl .z (Y.nil ?_))
 refine Y.again (q + 1) ⟨by omega, all_succ (q := fun _ e => ¬ entBad f.inodes e) hallq ag (fun hb => by have hbb : kindAt f.inodes ax.ino = 0 := hb; omega)⟩ (by first | omega | (dsimp only; omega)) (.c .z (.c (.s16 .g6) (.c (.s16 .g7) (.c (.s16 .g8) (.c (.s16 .g9) (.c (.s16 .g10) (.c (.s16 .g11) .n))))))) (fun _ h => h.sel (.c .g2 (.c .z (.c .g1 .n))))
 refine Y.exit (Y.thenE (Y.thenE (Y.inB (Y.inBN (Y.then_ (Y.region ?_))))))
 refine Y.ql rfl (q_add (c := ((k + 1 : Nat) : Int)) rfl (.t .g4) .c (wr (by omega) (by omega) (by omega))) ?_
 refine Y.er .g5 (Y.mv rfl .z (Y.nil ?_))
 refine Y.again (k + 1) ⟨by omega, all_succ (q := fun _ x => goodX f.inodes x) hallk aa (fun j e he => hallq j e (by have := (List.getElem?_eq_some_iff.1 he).1; omega) he)⟩ (by first | omega | (dsimp only; omega)) (.c .z (.c .g6 (.c .g7 (.c .g8 .n)))) (fun _ h => h.sel (.c .g1 (.c .g1 .n)))
 refine Y.exit (Y.thenE (Y.thenE (Y.inB (Y.then_ (Y.seq (Y.region (Y.ql rfl (q_assign rfl .c) (Y.nil ?_))))))))
 refine Y.then_ (Y.ret ?_)
 refine Y.doneS (res1 rfl .z) .n ?_
 exact ⟨by first | (rw [treeFault_r (by assumption)]; done) | (rw [treeFault_2 (by assumption) (by assumption)]; done) | (rw [treeFault_7 (by assumption) (by assumption) (by assumption)]; done) | (rw [treeFault_0 (by assumption) (by assumption) (by assumption) (badE_no (fun j x hj hx => hallk j x (by omega) hx))]; done), rfl⟩

theorem c_52 {w0 : World} {S0 : Bs} {f : DFs} {az : Addr} (h0 : PtrRo kT_27 w0 (FF w0 S0) az f)  :
    Calls Tryz.prog 52 #[.pointer (some az)] w0 (TriPost w0 S0 (fun r l => r = .int .i64 (treeFault f) ∧ l = [])) := by
 obtain ⟨ec, ab, dg, ac⟩ := id h0
 obtain ⟨dh, di, rfl, ak, bx⟩ := kT_27_ro dg
 obtain ⟨dj, dp, rfl, cp, cq, cr, a0⟩ := ro_form ak
 obtain ⟨ds, dt, rfl, cs, ct, cu, a1⟩ := ro_form bx
 refine Y.enter (N := 122) Tryz.func52 rfl rfl (by simp) [(0, .pointer (some az))] (by simp) (l0 := []) trivial ?_
 refine Y.seq (Y.region (Y.ql rfl (q_assign rfl .c) (Y.nt (Y.seq (Y.seq (Y.region (Y.mv rfl .g1 ?_)))))))
 refine Y.nc rfl .z (Y.fa rfl .z fa_27_0 (Y.le rfl ag_24 .z ab ac ?_))
 refine Y.cl rfl rfl Tryz.func98 rfl rfl (args1 (.t .z)) .n (fun _ _ hs tr => c_98 (tr.ctx ak)) ?_
 rintro _ _ ⟨rfl, rfl⟩
 refine Y.cat .n ?_
 refine Y.as rfl .z (Y.nt (Y.seq (Y.region (Y.mv rfl .z (Y.ql rfl (q_neq rfl (.t .z) .c) (Y.nt ?_))))))
 refine Y.condN (.t .z) (fun b3 => ?_) (fun b3 => ?_)
 refine Y.seq (Y.region (Y.mv rfl .g2 (Y.er .g9 (Y.as rfl .z (Y.nt (Y.ret (Y.thenR ?_)))))))
 refine Y.doneS (res1 rfl .z) .n ?_
 exact ⟨by first | (rw [treeFault_r (by rw [rootFault_f (by assumption)]; assumption), rootFault_f (by assumption)]; done) | (rw [treeFault_r (by rw [rootFault_1 (by assumption) (by omega)]; decide), rootFault_1 (by assumption) (by omega)]; done) | (rw [treeFault_2 (rootFault_0 (by assumption) (by omega) (by omega) (by omega)) (by assumption)]; done) | (rw [treeFault_7 (rootFault_0 (by assumption) (by omega) (by omega) (by omega)) (bigD_no (fun j b hj hb => hallz j b (by omega) hb)) (by assumption)]; done) | (rw [treeFault_0 (rootFault_0 (by assumption) (by omega) (by omega) (by omega)) (bigD_no (fun j b hj hb => hallz j b (by omega) hb)) (by assumption) (badE_no (fun j x hj hx => hallk j x (by omega) hx))]; done), rfl⟩
 refine Y.skip (Y.then_ (Y.seq (Y.seq (Y.region (Y.mv rfl .g9 (Y.nc rfl .z (Y.fa rfl .z fa_27_0 (Y.le rfl ag_24 .z ab ac ?_))))))))
 refine Y.ql rfl (q_len rfl u_24 (.t .z)) (Y.ql rfl (q_eql rfl (.t .z) .c) (Y.mv rfl .z ?_))
 refine Y.caseP .z (fun g4 => ?_) (fun g4 => ?_)
 refine Y.skipl rfl rfl .z rfl rfl (by decide) rfl ?_
 refine Y.skipl rfl rfl .g1 rfl rfl (by decide) rfl ?_
 refine Y.skipl rfl rfl .g2 rfl rfl (by decide) rfl ?_
 refine Y.skipl rfl rfl .g3 rfl rfl (by decide) rfl ?_
 refine Y.skipl rfl rfl .g4 rfl rfl (by decide) rfl ?_
 refine Y.skipl rfl rfl .g5 rfl rfl (by decide) rfl ?_
 refine Y.skipl rfl rfl .g6 rfl rfl (by decide) rfl ?_
 refine Y.skipl rfl rfl .g7 rfl rfl (by decide) rfl ?_
 refine Y.ql rfl (q_pickT rfl (.t .g8) .c) (Y.mv rfl .z ?_)
 refine Y.skipl rfl rfl .z rfl rfl (by decide) rfl ?_
 refine Y.skipl rfl rfl .g1 rfl rfl (by decide) rfl ?_
 refine Y.skipl rfl rfl .g2 rfl rfl (by decide) rfl ?_
 refine Y.skipl rfl rfl .g3 rfl rfl (by decide) rfl ?_
 refine Y.skipl rfl rfl .g4 rfl rfl (by decide) rfl ?_
 refine Y.skipl rfl rfl .g5 rfl rfl (by decide) rfl ?_
 refine Y.ql rfl (q_pickT rfl (.t .g6) .c) (Y.nt ?_)
 refine Y.condT (.t .z) ?_
 refine Y.seq (Y.region (Y.er (.s16 .g16) (Y.ql rfl (q_assign rfl .c) (Y.nt (Y.ret (Y.thenR ?_))))))
 refine Y.doneS (res1 rfl .z) .n ?_
 exact ⟨by first | (rw [treeFault_r (by rw [rootFault_f (by assumption)]; assumption), rootFault_f (by assumption)]; done) | (rw [treeFault_r (by rw [rootFault_1 (by assumption) (by omega)]; decide), rootFault_1 (by assumption) (by omega)]; done) | (rw [treeFault_2 (rootFault_0 (by assumption) (by omega) (by omega) (by omega)) (by assumption)]; done) | (rw [treeFault_7 (rootFault_0 (by assumption) (by omega) (by omega) (by omega)) (bigD_no (fun j b hj hb => hallz j b (by omega) hb)) (by assumption)]; done) | (rw [treeFault_0 (rootFault_0 (by assumption) (by omega) (by omega) (by omega)) (bigD_no (fun j b hj hb => hallz j b (by omega) hb)) (by assumption) (badE_no (fun j x hj hx => hallk j x (by omega) hx))]; done), rfl⟩
 refine Y.qg rfl rfl .z rfl rfl rfl (q_move rfl (.t .g16)) ?_
 refine Y.qg rfl rfl .g1 rfl rfl rfl (q_nilCheck rfl (.t .z)) ?_
 refine Y.qg rfl rfl .g2 rfl rfl rfl (q_fieldAddr rfl (.t .z) (fun _ => fa_27_0 _ _)) ?_
 refine Y.qg rfl rfl .g3 rfl rfl rfl (q_load rfl ag_24 (.t .z) (WS.el ab ac rfl)) ?_
 obtain ⟨ed, a2, ad⟩ := a0 (by omega)
 subst a2
 obtain ⟨x6, bf⟩ := get_ex (xs := f.inodes) (j := 0) (by omega)
 obtain ⟨du, bz, b0, b1⟩ := ad.elem bf
 obtain ⟨cv, cw, rfl, a3, a4⟩ := kT_44_ro bz
 obtain ⟨cx, cy, rfl, b2, b4, b5, b6⟩ := ro_form a3
 obtain ⟨cz, c0, rfl, b7, b8, b9, ca⟩ := ro_form a4
 have ee := kind_at (i := 0) bf (by omega)
 have ef := ents_at (a := 0) bf (by omega)
 have dv := inodes_all b3 _ (List.mem_of_getElem? bf)
 refine Y.qg rfl rfl .g4 rfl rfl rfl (q_indexAddr (j := 0) rfl u_24 sz_44 (.t .z) .c rfl (by omega)) ?_
 refine Y.qg rfl rfl .g5 rfl rfl rfl (q_fieldAddr rfl (.t .z) (fun _ => fa_44_0 _ _)) ?_
 refine Y.qg rfl rfl .g6 rfl rfl rfl (q_load rfl ag_2 (.t .z) (WS.el b0 b1 rfl)) ?_
 refine Y.qg rfl rfl .g7 rfl rfl rfl (q_neq rfl (.t .z) .c) ?_
 refine Y.ql rfl (q_pickF rfl (.t .g8) (.t .z)) (Y.mv rfl .z ?_)
 refine Y.caseN .z (fun g10 => ?_) (fun g10 => ?_)
 refine Y.skipl rfl rfl .z rfl rfl (by decide) rfl ?_
 refine Y.skipl rfl rfl .g1 rfl rfl (by decide) rfl ?_
 refine Y.skipl rfl rfl .g2 rfl rfl (by decide) rfl ?_
 refine Y.skipl rfl rfl .g3 rfl rfl (by decide) rfl ?_
 refine Y.skipl rfl rfl .g4 rfl rfl (by decide) rfl ?_
 refine Y.skipl rfl rfl .g5 rfl rfl (by decide) rfl ?_
 refine Y.ql rfl (q_pickT rfl (.t .g6) .c) (Y.nt ?_)
 refine Y.condT (.t .z) ?_
 refine Y.seq (Y.region (Y.er (.s16 .g16) (Y.ql rfl (q_assign rfl .c) (Y.nt (Y.ret (Y.thenR ?_))))))
 refine Y.doneS (res1 rfl .z) .n ?_
 exact ⟨by first | (rw [treeFault_r (by rw [rootFault_f (by assumption)]; assumption), rootFault_f (by assumption)]; done) | (rw [treeFault_r (by rw [rootFault_1 (by assumption) (by omega)]; decide), rootFault_1 (by assumption) (by omega)]; done) | (rw [treeFault_2 (rootFault_0 (by assumption) (by omega) (by omega) (by omega)) (by assumption)]; done) | (rw [treeFault_7 (rootFault_0 (by assumption) (by omega) (by omega) (by omega)) (bigD_no (fun j b hj hb => hallz j b (by omega) hb)) (by assumption)]; done) | (rw [treeFault_0 (rootFault_0 (by assumption) (by omega) (by omega) (by omega)) (bigD_no (fun j b hj hb => hallz j b (by omega) hb)) (by assumption) (badE_no (fun j x hj hx => hallk j x (by omega) hx))]; done), rfl⟩
 refine Y.qg rfl rfl .z rfl rfl rfl (q_move rfl (.t (.s16 .g10))) ?_
 refine Y.qg rfl rfl .g1 rfl rfl rfl (q_nilCheck rfl (.t .z)) ?_
 refine Y.qg rfl rfl .g2 rfl rfl rfl (q_fieldAddr rfl (.t .z) (fun _ => fa_27_1 _ _)) ?_
 refine Y.qg rfl rfl .g3 rfl rfl rfl (q_load rfl ag_25 (.t .z) (WS.el ab ac rfl)) ?_
 refine Y.qg rfl rfl .g4 rfl rfl rfl (q_len rfl u_25 (.t .z)) ?_
 refine Y.qg rfl rfl .g5 rfl rfl rfl (q_neq rfl (.t .z) .c) ?_
 refine Y.ql rfl (q_pickF rfl (.t .g6) (.t .z)) (Y.nt ?_)
 refine Y.condN (.t .z) (fun dw => ?_) (fun dw => ?_)
 refine Y.seq (Y.region (Y.er (.s16 .g16) (Y.ql rfl (q_assign rfl .c) (Y.nt (Y.ret (Y.thenR ?_))))))
 refine Y.doneS (res1 rfl .z) .n ?_
 exact ⟨by first | (rw [treeFault_r (by rw [rootFault_f (by assumption)]; assumption), rootFault_f (by assumption)]; done) | (rw [treeFault_r (by rw [rootFault_1 (by assumption) (by omega)]; decide), rootFault_1 (by assumption) (by omega)]; done) | (rw [treeFault_2 (rootFault_0 (by assumption) (by omega) (by omega) (by omega)) (by assumption)]; done) | (rw [treeFault_7 (rootFault_0 (by assumption) (by omega) (by omega) (by omega)) (bigD_no (fun j b hj hb => hallz j b (by omega) hb)) (by assumption)]; done) | (rw [treeFault_0 (rootFault_0 (by assumption) (by omega) (by omega) (by omega)) (bigD_no (fun j b hj hb => hallz j b (by omega) hb)) (by assumption) (badE_no (fun j x hj hx => hallk j x (by omega) hx))]; done), rfl⟩
 refine Y.skip (Y.then_ (Y.seq (Y.seq (Y.region (Y.ql rfl (q_assign rfl .c) (Y.nt (Y.block ?_)))))))
 refine Y.loopi (γ := Nat) (fun z => [(4, .int .i64 (z : Int)), (0, .pointer (some az))]) (fun z => []) (fun z => z ≤ f.data.length ∧ ∀ j b, j < z → f.data[j]? = some b → ¬ (8 : Int) < (b.length : Int)) (fun z => f.data.length - z) 0 ⟨Nat.zero_le _, all_zero (q := fun _ (b : List UInt8) => ¬ (8 : Int) < (b.length : Int))⟩ (.c .z (.c (.s16 (.s16 .g2)) .n)) (fun _ h => h) ?_
 rintro z ⟨hz, hallz⟩
 refine Y.seq (Y.seq (Y.region (Y.mv rfl .z (Y.mv rfl .g2 (Y.nc rfl .z (Y.fa rfl .z fa_27_1 (Y.le rfl ag_25 .z ab ac (Y.ql rfl (q_len rfl u_25 (.t .z)) ?_))))))))
 refine Y.ql rfl (q_lss rfl (.t .g5) (.t .z)) (Y.nt ?_)
 refine Y.condP (.t .z) (fun dx => ?_) (fun dx => ?_)
 refine Y.skip (Y.then_ (Y.seq (Y.block (Y.seq (Y.region (Y.mv rfl .g8 (Y.nc rfl .z (Y.fa rfl .z fa_27_1 ?_))))))))
 refine Y.le rfl ag_25 .z ab ac (Y.mv rfl .g11 ?_)
 obtain ⟨dy, al, am⟩ := a1 (by omega)
 subst al
 obtain ⟨eg, an⟩ := get_ex (xs := f.data) (j := z) (by omega)
 obtain ⟨c1, ah, a5, a6⟩ := am.elem an
 obtain ⟨dz, rfl⟩ := sl_one ah
 obtain ⟨d0, d1, rfl, c2, c3, c4, c5⟩ := ro_form ah
 refine Y.ql rfl (q_indexAddr (j := z) rfl u_25 sz_22 (.t .g1) (.t .z) rfl (by omega)) ?_
 refine Y.ql rfl (q_load rfl ag_22 (.t .z) (WS.el0 a5 a6 rfl)) (Y.ql rfl (q_len rfl u_22 (.t .z)) (Y.ql rfl (q_gtr rfl (.t .z) .c) (Y.nt ?_)))
 refine Y.condP (.t .z) (fun d2 => ?_) (fun d2 => ?_)
 refine Y.seq (Y.region (Y.ql rfl (q_assign rfl .c) (Y.nt (Y.ret (Y.inBR (Y.thenR (Y.thenR ?_)))))))
 refine Y.inBR (Y.thenR ?_)
 refine Y.doneS (res1 rfl .z) .n ?_
 exact ⟨by first | (rw [treeFault_r (by rw [rootFault_f (by assumption)]; assumption), rootFault_f (by assumption)]; done) | (rw [treeFault_r (by rw [rootFault_1 (by assumption) (by omega)]; decide), rootFault_1 (by assumption) (by omega)]; done) | (rw [treeFault_2 (rootFault_0 (by assumption) (by omega) (by omega) (by omega)) (bigD_yes an (by assumption))]; done) | (rw [treeFault_7 (rootFault_0 (by assumption) (by omega) (by omega) (by omega)) (bigD_no (fun j b hj hb => hallz j b (by omega) hb)) (by assumption)]; done) | (rw [treeFault_0 (rootFault_0 (by assumption) (by omega) (by omega) (by omega)) (bigD_no (fun j b hj hb => hallz j b (by omega) hb)) (by assumption) (badE_no (fun j x hj hx => hallk j x (by omega) hx))]; done), rfl⟩
 refine Y.skip (Y.inBN (Y.then_ (Y.region (Y.mv rfl .g16 ?_))))
 refine Y.ql rfl (q_add (c := ((z + 1 : Nat) : Int)) rfl (.t .z) .c (wr (by omega) (by omega) (by omega))) ?_
 refine Y.er (.s16 .g2) (Y.as rfl .z (Y.nil ?_))
 refine Y.again (z + 1) ⟨by omega, all_succ (q := fun _ (b : List UInt8) => ¬ (8 : Int) < (b.length : Int)) hallz an (by assumption)⟩ (by first | omega | (dsimp only; omega)) (.c .z (.c (.s16 .g3) .n)) (fun _ h => h)
 refine Y.exit (Y.thenE (Y.thenE (Y.inB (Y.then_ (Y.seq (Y.seq (Y.region (Y.mv rfl .g8 ?_))))))))
 refine Y.nc rfl .z (Y.fa rfl .z fa_27_0 (Y.le rfl ag_24 .z ab ac ?_))
 refine Y.cl rfl rfl Tryz.func99 rfl rfl (args1 (.t .z)) .n (fun _ _ hs tr => c_99 (tr.ctx ak) (by assumption)) ?_
 rintro _ _ ⟨eh, rfl, rfl⟩
 refine Y.cat (.c .n) ?_
 refine Y.know (WS.oform .z) ?_
 rintro ⟨ao, ap, rfl, c6, c7, c8⟩
 refine Y.mv rfl .z (Y.ql rfl (q_extract (v := .slice ao (placesTo (usedP f.inodes) 20).length ap) rfl (.t .z) rfl) (Y.ql rfl (q_extract (v := .bool (decide (usedL f.inodes).Nodup)) rfl (.t .g1) rfl) (Y.as rfl .g1 (Y.as rfl .g1 (Y.nt (Y.seq (Y.region ?_)))))))
 refine Y.mv rfl .z (Y.ql rfl (q_not rfl (.t .z)) (Y.nt ?_))
 refine Y.condN (.t .z) (fun d3 => ?_) (fun d3 => ?_)
 refine Y.seq (Y.region (Y.ql rfl (q_assign rfl .c) (Y.nt (Y.ret (Y.thenR ?_)))))
 refine Y.doneS (res1 rfl .z) .n ?_
 exact ⟨by first | (rw [treeFault_r (by rw [rootFault_f (by assumption)]; assumption), rootFault_f (by assumption)]; done) | (rw [treeFault_r (by rw [rootFault_1 (by assumption) (by omega)]; decide), rootFault_1 (by assumption) (by omega)]; done) | (rw [treeFault_2 (rootFault_0 (by assumption) (by omega) (by omega) (by omega)) (by assumption)]; done) | (rw [treeFault_7 (rootFault_0 (by assumption) (by omega) (by omega) (by omega)) (bigD_no (fun j b hj hb => hallz j b (by omega) hb)) (by assumption)]; done) | (rw [treeFault_0 (rootFault_0 (by assumption) (by omega) (by omega) (by omega)) (bigD_no (fun j b hj hb => hallz j b (by omega) hb)) (by assumption) (badE_no (fun j x hj hx => hallk j x (by omega) hx))]; done), rfl⟩
 refine Y.skip (Y.then_ (Y.seq (Y.seq (Y.region (Y.ql rfl (q_assign rfl .c) (Y.nt (Y.block ?_)))))))
 refine Y.loopi (γ := Nat) (fun k => [(7, .int .i64 (k : Int)), (0, .pointer (some az))]) (fun k => [ownA kSl_2 (placesTo (usedP f.inodes) 20) [.slice ao (placesTo (usedP f.inodes) 20).length ap]]) (fun k => k ≤ f.inodes.length ∧ ∀ j x, j < k → f.inodes[j]? = some x → goodX f.inodes x) (fun k => f.inodes.length - k) 0 ⟨Nat.zero_le _, all_zero (q := fun _ x => goodX f.inodes x)⟩ (.c .z (.c (.s16 .g5) .n)) (fun _ h => h.sel (.c .z .n)) ?_
 rintro k ⟨hk, hallk⟩
 refine Y.seq (Y.seq (Y.region (Y.mv rfl .z (Y.mv rfl .g2 (Y.nc rfl .z (Y.fa rfl .z fa_27_0 (Y.le rfl ag_24 .z ab ac (Y.ql rfl (q_len rfl u_24 (.t .z)) ?_))))))))
 refine Y.ql rfl (q_lss rfl (.t .g5) (.t .z)) (Y.nt ?_)
 refine Y.condP (.t .z) (fun d4 => ?_) (fun d4 => ?_)
 refine Y.skip (Y.then_ (Y.seq (Y.block (Y.seq (Y.region (Y.ql rfl (q_assign rfl .c) (Y.nt ?_)))))))
 refine Y.block ?_
 obtain ⟨bg, aa⟩ := get_ex (xs := f.inodes) (j := k) (by omega)
 obtain ⟨c9, a7, ai, aj⟩ := ad.elem aa
 obtain ⟨cb, cc, rfl, aq, ar⟩ := kT_44_ro a7
 obtain ⟨cd, ce, rfl, bh, bi, bj, bk⟩ := ro_form aq
 obtain ⟨cf, cg, rfl, bm, bn, bo, af⟩ := ro_form ar
 have d5 := kind_at (i := ((k : Nat) : Int)) aa (by omega)
 have d6 := ents_at (a := ((k : Nat) : Int)) aa (by omega)
 have a8 := inodes_all b3 _ (List.mem_of_getElem? aa)
 refine Y.loopi (γ := Nat) (fun q => [(8, .int .i64 (q : Int)), (7, .int .i64 (k : Int)), (0, .pointer (some az))]) (fun q => [ownA kSl_2 (placesTo (usedP f.inodes) 20) [.slice ao (placesTo (usedP f.inodes) 20).length ap]]) (fun q => q ≤ bg.ents.length ∧ ∀ j e, j < q → bg.ents[j]? = some e → ¬ entBad f.inodes e) (fun q => bg.ents.length - q) 0 ⟨Nat.zero_le _, all_zero (q := fun _ e => ¬ entBad f.inodes e)⟩ (.c .z (.c .g8 (.c .g9 .n))) (fun _ h => h.sel (.c .z .n)) ?_
 rintro q ⟨hq, hallq⟩
 refine Y.seq (Y.seq (Y.region (Y.mv rfl .z (Y.mv rfl .g3 (Y.nc rfl .z (Y.fa rfl .z fa_27_0 (Y.le rfl ag_24 .z ab ac (Y.mv rfl .g6 ?_))))))))
 refine Y.ql rfl (q_indexAddr (j := k) rfl u_24 sz_44 (.t .g1) (.t .z) rfl (by omega)) ?_
 refine Y.fa rfl .z fa_44_4 (Y.le rfl ag_42 .z ai aj (Y.ql rfl (q_len rfl u_42 (.t .z)) (Y.ql rfl (q_lss rfl (.t .g9) (.t .z)) (Y.nt ?_))))
 refine Y.condP (.t .z) (fun d7 => ?_) (fun d7 => ?_)
 refine Y.skip (Y.then_ (Y.seq (Y.block (Y.seq (Y.region (Y.mv rfl .g13 (Y.nc rfl .z (Y.fa rfl .z fa_27_0 ?_))))))))
 refine Y.le rfl ag_24 .z ab ac (Y.mv rfl .g16 ?_)
 refine Y.ql rfl (q_indexAddr (j := k) rfl u_24 sz_44 (.t .g1) (.t .z) rfl (by omega)) ?_
 refine Y.fa rfl .z fa_44_4 (Y.le rfl ag_42 .z ai aj (Y.mv rfl (.s16 .g3) ?_))
 obtain ⟨d8, au, av⟩ := af (by omega)
 subst au
 obtain ⟨aw, ae⟩ := get_ex (xs := bg.ents) (j := q) (by omega)
 obtain ⟨da, a9, ba, bb⟩ := av.elem ae
 obtain ⟨rfl, ch⟩ := kT_46_ro a9
 have db := ents_ok a8 _ _ ae
 refine Y.ql rfl (q_indexAddr (j := q) rfl u_42 sz_46 (.t .g1) (.t .z) rfl (by omega)) ?_
 refine Y.fa rfl .z fa_46_1 (Y.le rfl ag_2 .z ba bb (Y.as rfl .z (Y.nt (Y.seq (Y.region (Y.mv rfl .z (Y.mv rfl (.s16 .g11) ?_)))))))
 refine Y.nc rfl .z (Y.fa rfl .z fa_27_0 (Y.le rfl ag_24 .z ab ac (Y.ql rfl (q_len rfl u_24 (.t .z)) (Y.ql rfl (q_geq rfl (.t .g5) (.t .z)) (Y.mv rfl .z ?_)))))
 refine Y.caseP .z (fun g31 => ?_) (fun g31 => ?_)
 refine Y.skipl rfl rfl .z rfl rfl (by decide) rfl ?_
 refine Y.skipl rfl rfl .g1 rfl rfl (by decide) rfl ?_
 refine Y.skipl rfl rfl .g2 rfl rfl (by decide) rfl ?_
 refine Y.skipl rfl rfl .g3 rfl rfl (by decide) rfl ?_
 refine Y.skipl rfl rfl .g4 rfl rfl (by decide) rfl ?_
 refine Y.skipl rfl rfl .g5 rfl rfl (by decide) rfl ?_
 refine Y.skipl rfl rfl .g6 rfl rfl (by decide) rfl ?_
 refine Y.skipl rfl rfl .g7 rfl rfl (by decide) rfl ?_
 refine Y.skipl rfl rfl .g8 rfl rfl (by decide) rfl ?_
 refine Y.ql rfl (q_pickT rfl (.t .g9) .c) (Y.nt ?_)
 refine Y.condT (.t .z) ?_
 refine Y.seq (Y.region (Y.ql rfl (q_assign rfl .c) (Y.nt (Y.ret (Y.inBR (Y.thenR (Y.thenR ?_)))))))
 refine Y.inBR (Y.inBR (Y.thenR (Y.thenR (Y.inBR (Y.thenR ?_)))))
 refine Y.doneS (res1 rfl .z) .n ?_
 exact ⟨by first | (rw [treeFault_r (by rw [rootFault_f (by assumption)]; assumption), rootFault_f (by assumption)]; done) | (rw [treeFault_r (by rw [rootFault_1 (by assumption) (by omega)]; decide), rootFault_1 (by assumption) (by omega)]; done) | (rw [treeFault_2 (rootFault_0 (by assumption) (by omega) (by omega) (by omega)) (by assumption)]; done) | (rw [treeFault_7 (rootFault_0 (by assumption) (by omega) (by omega) (by omega)) (bigD_no (fun j b hj hb => hallz j b (by omega) hb)) (by assumption)]; done) | (rw [treeFault_4 (rootFault_0 (by assumption) (by omega) (by omega) (by omega)) (bigD_no (fun j b hj hb => hallz j b (by omega) hb)) (by assumption) (badE_yes aa ae (by first | exact kind_out (by assumption) | (show kindAt f.inodes aw.ino = 0; omega)))]; done) | (rw [treeFault_0 (rootFault_0 (by assumption) (by omega) (by omega) (by omega)) (bigD_no (fun j b hj hb => hallz j b (by omega) hb)) (by assumption) (badE_no (fun j x hj hx => hallk j x (by omega) hx))]; done), rfl⟩
 refine Y.qg rfl rfl .z rfl rfl rfl (q_move rfl (.t (.s16 (.s16 .g2)))) ?_
 refine Y.qg rfl rfl .g1 rfl rfl rfl (q_nilCheck rfl (.t .z)) ?_
 refine Y.qg rfl rfl .g2 rfl rfl rfl (q_fieldAddr rfl (.t .z) (fun _ => fa_27_0 _ _)) ?_
 refine Y.qg rfl rfl .g3 rfl rfl rfl (q_load rfl ag_24 (.t .z) (WS.el ab ac rfl)) ?_
 refine Y.qg rfl rfl .g4 rfl rfl rfl (q_move rfl (.t .g12)) ?_
 obtain ⟨ei, ag⟩ := get_ex (xs := f.inodes) (j := Int.toNat aw.ino) (by omega)
 obtain ⟨dc, bc, bd, be⟩ := ad.elem ag
 obtain ⟨ci, cj, rfl, ax, ay⟩ := kT_44_ro bc
 obtain ⟨ck, cm, rfl, bp, bq, br, bs⟩ := ro_form ax
 obtain ⟨cn, co, rfl, bt, bu, bv, bw⟩ := ro_form ay
 have d9 := kind_at (i := aw.ino) ag (by omega)
 have ea := ents_at (a := aw.ino) ag (by omega)
 have dd := inodes_all b3 _ (List.mem_of_getElem? ag)
 refine Y.qg rfl rfl .g5 rfl rfl rfl (q_indexAddr (j := Int.toNat aw.ino) rfl u_24 sz_44 (.t .g1) (.t .z) (by omega) (by omega)) ?_
 refine Y.qg rfl rfl .g6 rfl rfl rfl (q_fieldAddr rfl (.t .z) (fun _ => fa_44_0 _ _)) ?_
 refine Y.qg rfl rfl .g7 rfl rfl rfl (q_load rfl ag_2 (.t .z) (WS.el bd be rfl)) ?_
 refine Y.qg rfl rfl .g8 rfl rfl rfl (q_eql rfl (.t .z) .c) ?_
 refine Y.ql rfl (q_pickF rfl (.t .g9) (.t .z)) (Y.nt ?_)
 refine Y.condP (.t .z) (fun eb => ?_) (fun eb => ?_)
 refine Y.seq (Y.region (Y.ql rfl (q_assign rfl .c) (Y.nt (Y.ret (Y.inBR (Y.thenR (Y.thenR ?_)))))))
 refine Y.inBR (Y.inBR (Y.thenR (Y.thenR (Y.inBR (Y.thenR ?_)))))
 refine Y.doneS (res1 rfl .z) .n ?_
 exact ⟨by first | (rw [treeFault_r (by rw [rootFault_f (by assumption)]; assumption), rootFault_f (by assumption)]; done) | (rw [treeFault_r (by rw [rootFault_1 (by assumption) (by omega)]; decide), rootFault_1 (by assumption) (by omega)]; done) | (rw [treeFault_2 (rootFault_0 (by assumption) (by omega) (by omega) (by omega)) (by assumption)]; done) | (rw [treeFault_7 (rootFault_0 (by assumption) (by omega) (by omega) (by omega)) (bigD_no (fun j b hj hb => hallz j b (by omega) hb)) (by assumption)]; done) | (rw [treeFault_4 (rootFault_0 (by assumption) (by omega) (by omega) (by omega)) (bigD_no (fun j b hj hb => hallz j b (by omega) hb)) (by assumption) (badE_yes aa ae (by first | exact kind_out (by assumption) | (show kindAt f.inodes aw.ino = 0; omega)))]; done) | (rw [treeFault_0 (rootFault_0 (by assumption) (by omega) (by omega) (by omega)) (bigD_no (fun j b hj hb => hallz j b (by omega) hb)) (by assumption) (badE_no (fun j x hj hx => hallk j x (by omega) hx))]; done), rfl⟩
 refine Y.skip (Y.inBN (Y.then_ (Y.region (Y.mv rfl (.s16 (.s16 .g10)) ?_))))
 refine Y.ql rfl (q_add (c := ((q + 1 : Nat) : Int)) rfl (.t .z) .c (wr (by omega) (by omega) (by omega))) ?_
 refine Y.er (.s16 (.s16 .g12)) (Y.as rfl .z (Y.nil ?_))
 refine Y.again (q + 1) ⟨by omega, all_succ (q := fun _ e => ¬ entBad f.inodes e) hallq ae (fun hb => by have hbb : kindAt f.inodes aw.ino = 0 := hb; omega)⟩ (by first | omega | (dsimp only; omega)) (.c .z (.c (.s16 (.s16 .g13)) (.c (.s16 (.s16 .g14)) .n))) (fun _ h => h.sel (.c .z .n))
 refine Y.exit (Y.thenE (Y.thenE (Y.inB (Y.inBN (Y.then_ (Y.region (Y.mv rfl .g12 ?_)))))))
 refine Y.ql rfl (q_add (c := ((k + 1 : Nat) : Int)) rfl (.t .z) .c (wr (by omega) (by omega) (by omega))) ?_
 refine Y.er .g14 (Y.as rfl .z (Y.nil ?_))
 refine Y.again (k + 1) ⟨by omega, all_succ (q := fun _ x => goodX f.inodes x) hallk aa (fun j e he => hallq j e (by have := (List.getElem?_eq_some_iff.1 he).1; omega) he)⟩ (by first | omega | (dsimp only; omega)) (.c .z (.c .g15 .n)) (fun _ h => h.sel (.c .z .n))
 refine Y.exit (Y.thenE (Y.thenE (Y.inB (Y.then_ (Y.seq (Y.region (Y.ql rfl (q_assign rfl .c) (Y.nil ?_))))))))
 refine Y.then_ (Y.ret ?_)
 refine Y.doneS (res1 rfl .z) .n ?_
 exact ⟨by first | (rw [treeFault_r (by rw [rootFault_f (by assumption)]; assumption), rootFault_f (by assumption)]; done) | (rw [treeFault_r (by rw [rootFault_1 (by assumption) (by omega)]; decide), rootFault_1 (by assumption) (by omega)]; done) | (rw [treeFault_2 (rootFault_0 (by assumption) (by omega) (by omega) (by omega)) (by assumption)]; done) | (rw [treeFault_7 (rootFault_0 (by assumption) (by omega) (by omega) (by omega)) (bigD_no (fun j b hj hb => hallz j b (by omega) hb)) (by assumption)]; done) | (rw [treeFault_0 (rootFault_0 (by assumption) (by omega) (by omega) (by omega)) (bigD_no (fun j b hj hb => hallz j b (by omega) hb)) (by assumption) (badE_no (fun j x hj hx => hallk j x (by omega) hx))]; done), rfl⟩

end Go.Proofs.YtmejbfmhaoilmaaGreat

/- What is proved: contracts of functions, one a function. No condition. -/
import Derived.Test.YtmejbfmhaoilmaaGreatBase1
import Derived.Test.YtmejbfmhaoilmaaGreatW3
namespace Go.Proofs.YtmejbfmhaoilmaaGreat
open Go Go.RowKit
set_option linter.unusedVariables false
set_option linter.unusedSimpArgs false
set_option maxHeartbeats 1000000
set_option maxRecDepth 20000
theorem c_104 {w0 : World} {S0 : Bs} {x : (List Int)} {v0 : Value} (h0 : kSl_2.ro w0 (FF w0 S0) x [v0]) {y : (List Int)} {v1 : Value} (h1 : kSl_2.ro w0 (FF w0 S0) y [v1])  :
    Calls Tryz.prog 104 #[v0, v1] w0 (TriPost w0 S0 (fun r l => r = .bool (decide (x = y)) ∧ l = [])) := by
 obtain ⟨A0, c0, rfl, au, av, aw, an⟩ := ro_form h0
 obtain ⟨A1, c1, rfl, ax, ay, az, ao⟩ := ro_form h1
 refine Y.enter (N := 26) Tryz.func104 rfl rfl (by simp) [(0, .slice A0 x.length c0), (1, .slice A1 y.length c1)] (by simp) (l0 := []) trivial ?_
 refine Y.seq (Y.region (Y.ql rfl (q_assign rfl .c) (Y.nt (Y.seq (Y.seq (Y.region (Y.mv rfl .g1 ?_)))))))
 refine Y.ql rfl (q_len rfl u_36 (.t .z)) (Y.mv rfl .g4 (Y.ql rfl (q_len rfl u_36 (.t .z)) (Y.ql rfl (q_neq rfl (.t .g2) (.t .z)) (Y.nt ?_))))
 refine Y.condN (.t .z) (fun b3 => ?_) (fun b3 => ?_)
 refine Y.seq (Y.region (Y.er .g5 (Y.ql rfl (q_assign rfl .c) (Y.nt (Y.ret (Y.thenR ?_))))))
 refine Y.doneS (res1 rfl .z) .n ?_
 exact ⟨by rw [decide_eq_false (fun h => by subst h; omega)], rfl⟩
 refine Y.skip (Y.then_ (Y.seq (Y.seq (Y.region (Y.mv rfl .g6 (Y.ql rfl (q_len rfl u_36 (.t .z)) (Y.ql rfl (q_move rfl .c) (Y.nil ?_))))))))
 refine Y.then_ (Y.block ?_)
 refine Y.loopi (γ := Nat) (fun k => [(13, .int .i64 (k : Int)), (12, .int .i64 (x.length : Int)), (0, .slice A0 x.length c0), (1, .slice A1 y.length c1)]) (fun k => []) (fun k => k ≤ x.length ∧ ∀ j, j < k → x[j]? = y[j]?) (fun k => x.length - k) 0 ⟨Nat.zero_le _, all_eq_zero⟩ (.c .z (.c .g1 (.c .g9 (.c .g10 .n)))) (fun _ h => h) ?_
 rintro k ⟨hk, hallk⟩
 refine Y.seq (Y.region (Y.ql rfl (q_lss rfl (.t .z) (.t .g1)) (Y.nt (Y.seq ?_))))
 refine Y.condP (.t .z) (fun b4 => ?_) (fun b4 => ?_)
 refine Y.skip (Y.then_ (Y.seq (Y.block (Y.seq (Y.region (Y.mv rfl .g1 (Y.as rfl .z (Y.nil ?_))))))))
 refine Y.then_ (Y.seq ?_)
 refine Y.dr .z 9 mixo ?_
 refine Y.sc (qs 0 9) (by kernel_rfl) ?_
 refine Y.dm rfl rfl .z .g5 (Y.dm rfl rfl .z .g1 ?_)
 obtain ⟨a0, aa, ab⟩ := an (by omega)
 subst aa
 obtain ⟨x6, ah⟩ := get_ex (xs := x) (j := k) (by omega)
 obtain ⟨ap, ai, aj, ak⟩ := ab.elem ah
 obtain ⟨rfl, a1⟩ := ai
 refine Y.dk rfl rfl .z (q_indexAddr (j := k) rfl u_36 sz_2 (.t .g1) (.t .z) rfl (by omega)) ?_
 refine Y.dk rfl rfl .z (q_load rfl ag_2 (.t .z) (WS.el0 aj ak rfl)) (Y.dm rfl rfl .z .g10 (Y.dm rfl rfl .z .g5 ?_))
 obtain ⟨a2, ac, ad⟩ := ao (by omega)
 subst ac
 obtain ⟨x9, al⟩ := get_ex (xs := y) (j := k) (by omega)
 obtain ⟨am, ae, af, ag⟩ := ad.elem al
 obtain ⟨rfl, aq⟩ := ae
 refine Y.dk rfl rfl .z (q_indexAddr (j := k) rfl u_36 sz_2 (.t .g1) (.t .z) rfl (by omega)) ?_
 refine Y.dk rfl rfl .z (q_load rfl ag_2 (.t .z) (WS.el0 af ag rfl)) (Y.dk rfl rfl .z (q_neq rfl (.t .g4) (.t .z)) (Y.schN ?_))
 refine Y.drawN (by kernel_rfl) ?_
 refine Y.then_ ?_
 refine Y.condN (.t .z) (fun ar => ?_) (fun ar => ?_)
 refine Y.seq (Y.region (Y.ql rfl (q_assign rfl .c) (Y.nt (Y.ret (Y.inBR (Y.thenR (Y.thenR ?_)))))))
 refine Y.inBR (Y.thenR ?_)
 refine Y.doneS (res1 rfl .z) .n ?_
 exact ⟨by rw [decide_eq_false (ne_of_get ah al (by first | assumption | (intro e; subst e; contradiction) | (simp_all; done)))], rfl⟩
 refine Y.skip (Y.inBN (Y.then_ (Y.region ?_)))
 refine Y.ql rfl (q_add (c := ((k + 1 : Nat) : Int)) rfl (.t .g12) .c (wr (by omega) (by omega) (by omega))) ?_
 refine Y.er .g13 (Y.mv rfl .z (Y.nil ?_))
 refine Y.again (k + 1) ⟨by omega, all_eq_succ hallk ah al (by first | assumption | exact byte_eq (by assumption) | (simp_all; done))⟩ (by first | omega | (dsimp only; omega)) (.c .z (.c .g14 (.c .g15 (.c .g16 .n)))) (fun _ h => h)
 refine Y.exit (Y.thenE (Y.thenE (Y.inB (Y.then_ (Y.seq (Y.region (Y.ql rfl (q_assign rfl .c) (Y.nil ?_))))))))
 refine Y.then_ (Y.ret ?_)
 refine Y.doneS (res1 rfl .z) .n ?_
 exact ⟨by rw [decide_eq_true (eq_of_all (by omega) (by omega) hallk)], rfl⟩

theorem c_105 {w0 : World} {S0 : Bs} {x : (List DEnt)} {v0 : Value} (h0 : kSl_46.ro w0 (FF w0 S0) x [v0]) {y : (List DEnt)} {v1 : Value} (h1 : kSl_46.ro w0 (FF w0 S0) y [v1])  :
    Calls Tryz.prog 105 #[v0, v1] w0 (TriPost w0 S0 (fun r l => r = .bool (decide (x = y)) ∧ l = [])) := by
 obtain ⟨A0, c0, rfl, av, aw, ax, ap⟩ := ro_form h0
 obtain ⟨A1, c1, rfl, ay, az, a0, aq⟩ := ro_form h1
 refine Y.enter (N := 26) Tryz.func105 rfl rfl (by simp) [(0, .slice A0 x.length c0), (1, .slice A1 y.length c1)] (by simp) (l0 := []) trivial ?_
 refine Y.seq (Y.region (Y.ql rfl (q_assign rfl .c) (Y.nt (Y.seq (Y.seq (Y.region (Y.mv rfl .g1 ?_)))))))
 refine Y.ql rfl (q_len rfl u_42 (.t .z)) (Y.mv rfl .g4 (Y.ql rfl (q_len rfl u_42 (.t .z)) (Y.ql rfl (q_neq rfl (.t .g2) (.t .z)) (Y.nt ?_))))
 refine Y.condN (.t .z) (fun b3 => ?_) (fun b3 => ?_)
 refine Y.seq (Y.region (Y.er .g5 (Y.ql rfl (q_assign rfl .c) (Y.nt (Y.ret (Y.thenR ?_))))))
 refine Y.doneS (res1 rfl .z) .n ?_
 exact ⟨by rw [decide_eq_false (fun h => by subst h; omega)], rfl⟩
 refine Y.skip (Y.then_ (Y.seq (Y.seq (Y.region (Y.mv rfl .g6 (Y.ql rfl (q_len rfl u_42 (.t .z)) (Y.ql rfl (q_move rfl .c) (Y.nil ?_))))))))
 refine Y.then_ (Y.block ?_)
 refine Y.loopi (γ := Nat) (fun k => [(13, .int .i64 (k : Int)), (12, .int .i64 (x.length : Int)), (0, .slice A0 x.length c0), (1, .slice A1 y.length c1)]) (fun k => []) (fun k => k ≤ x.length ∧ ∀ j, j < k → x[j]? = y[j]?) (fun k => x.length - k) 0 ⟨Nat.zero_le _, all_eq_zero⟩ (.c .z (.c .g1 (.c .g9 (.c .g10 .n)))) (fun _ h => h) ?_
 rintro k ⟨hk, hallk⟩
 refine Y.seq (Y.region (Y.ql rfl (q_lss rfl (.t .z) (.t .g1)) (Y.nt (Y.seq ?_))))
 refine Y.condP (.t .z) (fun b4 => ?_) (fun b4 => ?_)
 refine Y.skip (Y.then_ (Y.seq (Y.block (Y.seq (Y.region (Y.mv rfl .g1 (Y.as rfl .z (Y.nil ?_))))))))
 refine Y.then_ (Y.seq ?_)
 refine Y.dr .z 9 mixo ?_
 refine Y.sc (qs 0 9) (by kernel_rfl) ?_
 refine Y.dm rfl rfl .z .g5 (Y.dm rfl rfl .z .g1 ?_)
 obtain ⟨a1, aa, ab⟩ := ap (by omega)
 subst aa
 obtain ⟨x6, ah⟩ := get_ex (xs := x) (j := k) (by omega)
 obtain ⟨ar, ai, aj, ak⟩ := ab.elem ah
 obtain ⟨rfl, an⟩ := kT_46_ro ai
 refine Y.dk rfl rfl .z (q_indexAddr (j := k) rfl u_42 sz_46 (.t .g1) (.t .z) rfl (by omega)) ?_
 refine Y.dk rfl rfl .z (qE rfl ag_46 (.t .z) aj ak sz_46) (Y.dm rfl rfl .z .g10 (Y.dm rfl rfl .z .g5 ?_))
 obtain ⟨a2, ac, ad⟩ := aq (by omega)
 subst ac
 obtain ⟨x9, al⟩ := get_ex (xs := y) (j := k) (by omega)
 obtain ⟨ao, ae, af, ag⟩ := ad.elem al
 obtain ⟨rfl, am⟩ := kT_46_ro ae
 refine Y.dk rfl rfl .z (q_indexAddr (j := k) rfl u_42 sz_46 (.t .g1) (.t .z) rfl (by omega)) ?_
 refine Y.dk rfl rfl .z (qE rfl ag_46 (.t .z) af ag sz_46) (Y.dk rfl rfl .z (q_entneq rfl (ent_eq_46 x6 x9) ent_gd_46 (.t .g4) (.t .z)) (Y.schN ?_))
 refine Y.drawN (by kernel_rfl) ?_
 refine Y.then_ ?_
 refine Y.condN (.t .z) (fun au => ?_) (fun au => ?_)
 refine Y.seq (Y.region (Y.ql rfl (q_assign rfl .c) (Y.nt (Y.ret (Y.inBR (Y.thenR (Y.thenR ?_)))))))
 refine Y.inBR (Y.thenR ?_)
 refine Y.doneS (res1 rfl .z) .n ?_
 exact ⟨by rw [decide_eq_false (ne_of_get ah al (by first | assumption | (intro e; subst e; contradiction) | (simp_all; done)))], rfl⟩
 refine Y.skip (Y.inBN (Y.then_ (Y.region ?_)))
 refine Y.ql rfl (q_add (c := ((k + 1 : Nat) : Int)) rfl (.t .g12) .c (wr (by omega) (by omega) (by omega))) ?_
 refine Y.er .g13 (Y.mv rfl .z (Y.nil ?_))
 refine Y.again (k + 1) ⟨by omega, all_eq_succ hallk ah al (by first | assumption | exact byte_eq (by assumption) | (simp_all; done))⟩ (by first | omega | (dsimp only; omega)) (.c .z (.c .g14 (.c .g15 (.c .g16 .n)))) (fun _ h => h)
 refine Y.exit (Y.thenE (Y.thenE (Y.inB (Y.then_ (Y.seq (Y.region (Y.ql rfl (q_assign rfl .c) (Y.nil ?_))))))))
 refine Y.then_ (Y.ret ?_)
 refine Y.doneS (res1 rfl .z) .n ?_
 exact ⟨by rw [decide_eq_true (eq_of_all (by omega) (by omega) hallk)], rfl⟩

theorem c_58 {w0 : World} {S0 : Bs} {x : DInode} {am : List Value} (h0 : kT_44.ro w0 (FF w0 S0) x am) {y : DInode} {an : List Value} (h1 : kT_44.ro w0 (FF w0 S0) y an)  :
    Calls Tryz.prog 58 #[.agg am.toArray, .agg an.toArray] w0 (TriPost w0 S0 (fun r l => r = .bool (decide (x = y)) ∧ l = [])) := by
 obtain ⟨a6, a7, rfl, aa, ab⟩ := kT_44_ro h0
 obtain ⟨ac, ad, rfl, ao, ap, aq, ar⟩ := ro_form aa
 obtain ⟨ae, af, rfl, au, av, aw, ax⟩ := ro_form ab
 obtain ⟨a8, a9, rfl, ag, ah⟩ := kT_44_ro h1
 obtain ⟨ai, aj, rfl, ay, az, a0, a1⟩ := ro_form ag
 obtain ⟨ak, al, rfl, a2, a3, a4, a5⟩ := ro_form ah
 refine Y.enter (N := 38) Tryz.func58 rfl rfl (by simp) [(0, .agg #[.int .i64 x.kind, .int .i64 x.links, .int .i64 x.size, .slice ac x.blocks.length ad, .slice ae x.ents.length af]), (1, .agg #[.int .i64 y.kind, .int .i64 y.links, .int .i64 y.size, .slice ai y.blocks.length aj, .slice ak y.ents.length al])] (by simp) (l0 := []) trivial ?_
 refine Y.seq (Y.region ?_)
 refine Y.el rfl (e_box (cs := [.int .i64 x.kind, .int .i64 x.links, .int .i64 x.size, .slice ac x.blocks.length ad, .slice ae x.ents.length af]) (n := 5) rfl (.t .z) rfl rfl) ?_
 rintro _ _ ⟨g5, rfl, rfl⟩
 refine Y.el rfl (e_box (cs := [.int .i64 y.kind, .int .i64 y.links, .int .i64 y.size, .slice ai y.blocks.length aj, .slice ak y.ents.length al]) (n := 5) rfl (.t .g2) rfl rfl) ?_
 rintro _ _ ⟨g6, rfl, rfl⟩
 refine Y.ql rfl (q_assign rfl .c) (Y.nt (Y.seq (Y.region (Y.fa rfl .g2 fa_44_0 (Y.ld rfl ag_2 .z .g1 (Y.fa rfl .g3 fa_44_0 (Y.ld rfl ag_2 .z .z ?_)))))))
 refine Y.ql rfl (q_eql rfl (.t .g2) (.t .z)) (Y.mv rfl .z ?_)
 refine Y.caseP .z (fun g7 => ?_) (fun g7 => ?_)
 refine Y.qg rfl rfl .z rfl rfl rfl (q_fieldAddr rfl (.t .g8) (fun _ => fa_44_1 _ _)) ?_
 refine Y.qg rfl rfl .g1 rfl rfl rfl (q_load rfl ag_2 (.t .z) (WS.row .g1 rfl)) ?_
 refine Y.qg rfl rfl .g2 rfl rfl rfl (q_fieldAddr rfl (.t .g9) (fun _ => fa_44_1 _ _)) ?_
 refine Y.qg rfl rfl .g3 rfl rfl rfl (q_load rfl ag_2 (.t .z) (WS.row .z rfl)) ?_
 refine Y.qg rfl rfl .g4 rfl rfl rfl (q_eql rfl (.t .g2) (.t .z)) ?_
 refine Y.ql rfl (q_pickT rfl (.t .g5) (.t .z)) (Y.mv rfl .z ?_)
 refine Y.caseP .z (fun g8 => ?_) (fun g8 => ?_)
 refine Y.qg rfl rfl .z rfl rfl rfl (q_fieldAddr rfl (.t .g15) (fun _ => fa_44_2 _ _)) ?_
 refine Y.qg rfl rfl .g1 rfl rfl rfl (q_load rfl ag_2 (.t .z) (WS.row .g1 rfl)) ?_
 refine Y.qg rfl rfl .g2 rfl rfl rfl (q_fieldAddr rfl (.t .g16) (fun _ => fa_44_2 _ _)) ?_
 refine Y.qg rfl rfl .g3 rfl rfl rfl (q_load rfl ag_2 (.t .z) (WS.row .z rfl)) ?_
 refine Y.qg rfl rfl .g4 rfl rfl rfl (q_eql rfl (.t .g2) (.t .z)) ?_
 refine Y.ql rfl (q_pickT rfl (.t .g5) (.t .z)) (Y.mv rfl .z ?_)
 refine Y.caseP .z (fun g9 => ?_) (fun g9 => ?_)
 refine Y.qg rfl rfl .z rfl rfl rfl (q_fieldAddr rfl (.t (.s16 .g6)) (fun _ => fa_44_3 _ _)) ?_
 refine Y.qg rfl rfl .g1 rfl rfl rfl (q_load rfl ag_36 (.t .z) (WS.row .g1 rfl)) ?_
 refine Y.qg rfl rfl .g2 rfl rfl rfl (q_fieldAddr rfl (.t (.s16 .g7)) (fun _ => fa_44_3 _ _)) ?_
 refine Y.qg rfl rfl .g3 rfl rfl rfl (q_load rfl ag_36 (.t .z) (WS.row .z rfl)) ?_
 refine Y.call (goes_listg rfl rfl .g4) rfl (by decide) rfl (c_call rfl Tryz.func104 rfl rfl (args2 (.t .g2) (.t .z))) .n (fun _ _ hs tr => c_104 (tr.ctx aa) (tr.ctx ag)) ?_
 rintro _ _ ⟨rfl, rfl⟩
 refine Y.cat .n ?_
 refine Y.ql rfl (q_pickT rfl (.t .g5) (.t .z)) (Y.mv rfl .z ?_)
 refine Y.caseP .z (fun g10 => ?_) (fun g10 => ?_)
 refine Y.qg rfl rfl .z rfl rfl rfl (q_fieldAddr rfl (.t (.s16 .g13)) (fun _ => fa_44_4 _ _)) ?_
 refine Y.qg rfl rfl .g1 rfl rfl rfl (q_load rfl ag_42 (.t .z) (WS.row .g1 rfl)) ?_
 refine Y.qg rfl rfl .g2 rfl rfl rfl (q_fieldAddr rfl (.t (.s16 .g14)) (fun _ => fa_44_4 _ _)) ?_
 refine Y.qg rfl rfl .g3 rfl rfl rfl (q_load rfl ag_42 (.t .z) (WS.row .z rfl)) ?_
 refine Y.call (goes_listg rfl rfl .g4) rfl (by decide) rfl (c_call rfl Tryz.func105 rfl rfl (args2 (.t .g2) (.t .z))) .n (fun _ _ hs tr => c_105 (tr.ctx ab) (tr.ctx ah)) ?_
 rintro _ _ ⟨rfl, rfl⟩
 refine Y.cat .n ?_
 refine Y.ql rfl (q_pickT rfl (.t .g5) (.t .z)) (Y.er (.s16 (.s16 .g1)) (Y.as rfl .z (Y.nt (Y.ret ?_))))
 refine Y.doneS (res1 rfl .z) .n ?_
 exact ⟨congrArg Value.bool (by cases x; cases y; simp_all), rfl⟩
 refine Y.skipl rfl rfl .z rfl rfl (by decide) rfl ?_
 refine Y.skipl rfl rfl .g1 rfl rfl (by decide) rfl ?_
 refine Y.skipl rfl rfl .g2 rfl rfl (by decide) rfl ?_
 refine Y.skipl rfl rfl .g3 rfl rfl (by decide) rfl ?_
 refine Y.skipl rfl rfl .g4 rfl rfl (by decide) rfl ?_
 refine Y.ql rfl (q_pickF rfl (.t .g5) .c) (Y.er (.s16 (.s16 .g1)) (Y.as rfl .z (Y.nt (Y.ret ?_))))
 refine Y.doneS (res1 rfl .z) .n ?_
 exact ⟨congrArg Value.bool (by cases x; cases y; simp_all), rfl⟩
 refine Y.skipl rfl rfl .z rfl rfl (by decide) rfl ?_
 refine Y.skipl rfl rfl .g1 rfl rfl (by decide) rfl ?_
 refine Y.skipl rfl rfl .g2 rfl rfl (by decide) rfl ?_
 refine Y.skipl rfl rfl .g3 rfl rfl (by decide) rfl ?_
 refine Y.skipl rfl rfl .g4 rfl rfl (by decide) rfl ?_
 refine Y.ql rfl (q_pickF rfl (.t .g5) .c) (Y.mv rfl .z ?_)
 refine Y.skipl rfl rfl .z rfl rfl (by decide) rfl ?_
 refine Y.skipl rfl rfl .g1 rfl rfl (by decide) rfl ?_
 refine Y.skipl rfl rfl .g2 rfl rfl (by decide) rfl ?_
 refine Y.skipl rfl rfl .g3 rfl rfl (by decide) rfl ?_
 refine Y.skipl rfl rfl .g4 rfl rfl (by decide) rfl ?_
 refine Y.ql rfl (q_pickF rfl (.t .g5) .c) (Y.er (.s16 (.s16 .g1)) (Y.as rfl .z (Y.nt (Y.ret ?_))))
 refine Y.doneS (res1 rfl .z) .n ?_
 exact ⟨congrArg Value.bool (by cases x; cases y; simp_all), rfl⟩
 refine Y.skipl rfl rfl .z rfl rfl (by decide) rfl ?_
 refine Y.skipl rfl rfl .g1 rfl rfl (by decide) rfl ?_
 refine Y.skipl rfl rfl .g2 rfl rfl (by decide) rfl ?_
 refine Y.skipl rfl rfl .g3 rfl rfl (by decide) rfl ?_
 refine Y.skipl rfl rfl .g4 rfl rfl (by decide) rfl ?_
 refine Y.ql rfl (q_pickF rfl (.t .g5) .c) (Y.mv rfl .z ?_)
 refine Y.skipl rfl rfl .z rfl rfl (by decide) rfl ?_
 refine Y.skipl rfl rfl .g1 rfl rfl (by decide) rfl ?_
 refine Y.skipl rfl rfl .g2 rfl rfl (by decide) rfl ?_
 refine Y.skipl rfl rfl .g3 rfl rfl (by decide) rfl ?_
 refine Y.skipl rfl rfl .g4 rfl rfl (by decide) rfl ?_
 refine Y.ql rfl (q_pickF rfl (.t .g5) .c) (Y.mv rfl .z ?_)
 refine Y.skipl rfl rfl .z rfl rfl (by decide) rfl ?_
 refine Y.skipl rfl rfl .g1 rfl rfl (by decide) rfl ?_
 refine Y.skipl rfl rfl .g2 rfl rfl (by decide) rfl ?_
 refine Y.skipl rfl rfl .g3 rfl rfl (by decide) rfl ?_
 refine Y.skipl rfl rfl .g4 rfl rfl (by decide) rfl ?_
 refine Y.ql rfl (q_pickF rfl (.t .g5) .c) (Y.er (.s16 (.s16 .g1)) (Y.as rfl .z (Y.nt (Y.ret ?_))))
 refine Y.doneS (res1 rfl .z) .n ?_
 exact ⟨congrArg Value.bool (by cases x; cases y; simp_all), rfl⟩
 refine Y.skipl rfl rfl .z rfl rfl (by decide) rfl ?_
 refine Y.skipl rfl rfl .g1 rfl rfl (by decide) rfl ?_
 refine Y.skipl rfl rfl .g2 rfl rfl (by decide) rfl ?_
 refine Y.skipl rfl rfl .g3 rfl rfl (by decide) rfl ?_
 refine Y.skipl rfl rfl .g4 rfl rfl (by decide) rfl ?_
 refine Y.ql rfl (q_pickF rfl (.t .g5) .c) (Y.mv rfl .z ?_)
 refine Y.skipl rfl rfl .z rfl rfl (by decide) rfl ?_
 refine Y.skipl rfl rfl .g1 rfl rfl (by decide) rfl ?_
 refine Y.skipl rfl rfl .g2 rfl rfl (by decide) rfl ?_
 refine Y.skipl rfl rfl .g3 rfl rfl (by decide) rfl ?_
 refine Y.skipl rfl rfl .g4 rfl rfl (by decide) rfl ?_
 refine Y.ql rfl (q_pickF rfl (.t .g5) .c) (Y.mv rfl .z ?_)
 refine Y.skipl rfl rfl .z rfl rfl (by decide) rfl ?_
 refine Y.skipl rfl rfl .g1 rfl rfl (by decide) rfl ?_
 refine Y.skipl rfl rfl .g2 rfl rfl (by decide) rfl ?_
 refine Y.skipl rfl rfl .g3 rfl rfl (by decide) rfl ?_
 refine Y.skipl rfl rfl .g4 rfl rfl (by decide) rfl ?_
 refine Y.ql rfl (q_pickF rfl (.t .g5) .c) (Y.mv rfl .z ?_)
 refine Y.skipl rfl rfl .z rfl rfl (by decide) rfl ?_
 refine Y.skipl rfl rfl .g1 rfl rfl (by decide) rfl ?_
 refine Y.skipl rfl rfl .g2 rfl rfl (by decide) rfl ?_
 refine Y.skipl rfl rfl .g3 rfl rfl (by decide) rfl ?_
 refine Y.skipl rfl rfl .g4 rfl rfl (by decide) rfl ?_
 refine Y.ql rfl (q_pickF rfl (.t .g5) .c) (Y.er (.s16 (.s16 .g1)) (Y.as rfl .z (Y.nt (Y.ret ?_))))
 refine Y.doneS (res1 rfl .z) .n ?_
 exact ⟨congrArg Value.bool (by cases x; cases y; simp_all), rfl⟩

theorem c_57 {w0 : World} {S0 : Bs} {xs : (List DInode)} {v0 : Value} (h0 : kSl_44.ro w0 (FF w0 S0) xs [v0]) {ys : (List DInode)} {v1 : Value} (h1 : kSl_44.ro w0 (FF w0 S0) ys [v1]) {f : FuncId} {fn : Func} (hfn : Tryz.prog.funcs[f]? = some fn) (hbody : fn.body.isSome = true) (hname : (fn.name == "runtime.NumGoroutine") = false) (hf : ∀ (w1 : World) (S1 : Bs) {x y : DInode} {be bf : List Value}, kT_44.ro w1 (FF w1 S1) x be → kT_44.ro w1 (FF w1 S1) y bf → Calls Tryz.prog f #[.agg be.toArray, .agg bf.toArray] w1 (TriPost w1 S1 (fun r l => r = .bool (decide (x = y)) ∧ l = [])))  :
    Calls Tryz.prog 57 #[v0, v1, .func (.func f) #[] #[]] w0 (TriPost w0 S0 (fun r l => r = .bool (decide (xs = ys)) ∧ l = [])) := by
 obtain ⟨A0, c0, rfl, bu, bv, bw, bo⟩ := ro_form h0
 obtain ⟨A1, c1, rfl, bx, bz, b0, bp⟩ := ro_form h1
 refine Y.enter (N := 32) Tryz.func57 rfl rfl (by simp) [(0, .slice A0 xs.length c0), (1, .slice A1 ys.length c1), (2, .func (.func f) #[] #[])] (by simp) (l0 := []) trivial ?_
 refine Y.seq (Y.region (Y.ql rfl (q_assign rfl .c) (Y.nt (Y.seq (Y.seq (Y.region (Y.mv rfl .g1 ?_)))))))
 refine Y.ql rfl (q_len rfl u_24 (.t .z)) (Y.mv rfl .g4 (Y.ql rfl (q_len rfl u_24 (.t .z)) (Y.ql rfl (q_neq rfl (.t .g2) (.t .z)) (Y.nt ?_))))
 refine Y.condN (.t .z) (fun b3 => ?_) (fun b3 => ?_)
 refine Y.seq (Y.region (Y.er .g5 (Y.ql rfl (q_assign rfl .c) (Y.nt (Y.ret (Y.thenR ?_))))))
 refine Y.doneS (res1 rfl .z) .n ?_
 exact ⟨by rw [decide_eq_false (fun h => by subst h; omega)], rfl⟩
 refine Y.skip (Y.then_ (Y.seq (Y.seq (Y.region (Y.mv rfl .g6 (Y.ql rfl (q_len rfl u_24 (.t .z)) (Y.ql rfl (q_move rfl .c) (Y.nil ?_))))))))
 refine Y.then_ (Y.block ?_)
 refine Y.loopi (γ := Nat) (fun k => [(17, .int .i64 (k : Int)), (16, .int .i64 (xs.length : Int)), (15, .slice A0 xs.length c0), (1, .slice A1 ys.length c1), (2, .func (.func f) #[] #[])]) (fun k => []) (fun k => k ≤ xs.length ∧ ∀ j, j < k → xs[j]? = ys[j]?) (fun k => xs.length - k) 0 ⟨Nat.zero_le _, all_eq_zero⟩ (.c .z (.c .g1 (.c .g2 (.c .g10 (.c .g11 .n))))) (fun _ h => h) ?_
 rintro k ⟨hk, hallk⟩
 refine Y.seq (Y.region (Y.ql rfl (q_lss rfl (.t .z) (.t .g1)) (Y.nt (Y.seq ?_))))
 refine Y.condP (.t .z) (fun b4 => ?_) (fun b4 => ?_)
 refine Y.skip (Y.then_ (Y.seq (Y.block (Y.seq (Y.region (Y.mv rfl .g1 ?_))))))
 obtain ⟨b1, ah, ai⟩ := bo (by omega)
 subst ah
 obtain ⟨x6, aw⟩ := get_ex (xs := xs) (j := k) (by omega)
 obtain ⟨bq, ax, ay, az⟩ := ai.elem aw
 obtain ⟨bg, bh, rfl, ac, ad⟩ := kT_44_ro ax
 obtain ⟨bi, bj, rfl, a0, a1, a2, a3⟩ := ro_form ac
 obtain ⟨bk, bm, rfl, a4, a5, a6, a7⟩ := ro_form ad
 refine Y.ql rfl (q_indexAddr (j := k) rfl u_24 sz_44 (.t .g4) (.t .g2) rfl (by omega)) ?_
 refine Y.ql rfl (qE rfl ag_44 (.t .z) ay az sz_44) ?_
 refine Y.el rfl (e_alloc rfl z_44 rfl rfl) ?_
 rintro _ _ ⟨g10, rfl, rfl⟩
 refine Y.as rfl .g3 ?_
 refine Y.es (goes_list rfl) rfl (esW rfl (.t .g1) (.t .g2) .z sz_44 rfl rfl) ?_
 refine Y.nt (Y.seq (Y.region (Y.mv rfl .g9 (Y.mv rfl .g1 ?_))))
 obtain ⟨br, ae, af⟩ := bp (by omega)
 subst ae
 obtain ⟨bs, ag⟩ := get_ex (xs := ys) (j := k) (by omega)
 obtain ⟨bn, aj, ak, al⟩ := af.elem ag
 obtain ⟨a8, a9, rfl, aa, ab⟩ := kT_44_ro aj
 obtain ⟨ba, bb, rfl, am, an, ao, ap⟩ := ro_form aa
 obtain ⟨bc, bd, rfl, aq, ar, au, av⟩ := ro_form ab
 refine Y.ql rfl (q_indexAddr (j := k) rfl u_24 sz_44 (.t .g1) (.t .z) rfl (by omega)) ?_
 refine Y.ql rfl (qE rfl ag_44 (.t .z) ak al sz_44) ?_
 refine Y.el rfl (e_alloc rfl z_44 rfl rfl) ?_
 rintro _ _ ⟨g16, rfl, rfl⟩
 refine Y.es (goes_list rfl) rfl (esW rfl (.t .z) (.t .g1) .z sz_44 rfl rfl) ?_
 refine Y.nt (Y.seq (Y.region (Y.mv rfl .g15 (Y.ql rfl (qW rfl ag_44 (.t .g7) .g1 sz_44) (Y.ql rfl (qW rfl ag_44 (.t .g2) .z sz_44) ?_)))))
 refine Y.call (goes_list rfl) rfl (by decide) rfl (c_callv rfl (.t .g2) hfn hbody hname (args2 (.t .g1) (.t .z))) .n (fun w1 S1 hs tr => hf w1 S1 (kT_44_mk x6 (tr.ctx ac) (tr.ctx ad)) (kT_44_mk bs (tr.ctx aa) (tr.ctx ab))) ?_
 rintro _ _ ⟨rfl, rfl⟩
 refine Y.cat .n ?_
 refine Y.ql rfl (q_not rfl (.t .z)) (Y.nt ?_)
 refine Y.condN (.t .z) (fun bt => ?_) (fun bt => ?_)
 refine Y.seq (Y.region (Y.ql rfl (q_assign rfl .c) (Y.nt (Y.ret (Y.inBR (Y.thenR (Y.thenR ?_)))))))
 refine Y.inBR (Y.thenR ?_)
 refine Y.doneS (res1 rfl .z) .n ?_
 exact ⟨by rw [decide_eq_false (ne_of_get aw ag (by assumption))], rfl⟩
 refine Y.skip (Y.inBN (Y.then_ (Y.region ?_)))
 refine Y.ql rfl (q_add (c := ((k + 1 : Nat) : Int)) rfl (.t .g16) .c (wr (by omega) (by omega) (by omega))) ?_
 refine Y.er (.s16 .g1) (Y.mv rfl .z (Y.nil ?_))
 refine Y.again (k + 1) ⟨by omega, all_eq_succ hallk aw ag (by assumption)⟩ (by first | omega | (dsimp only; omega)) (.c .z (.c (.s16 .g2) (.c (.s16 .g3) (.c (.s16 .g4) (.c (.s16 .g5) .n))))) (fun _ h => h.sel .n)
 refine Y.exit (Y.thenE (Y.thenE (Y.inB (Y.then_ (Y.seq (Y.region (Y.ql rfl (q_assign rfl .c) (Y.nil ?_))))))))
 refine Y.then_ (Y.ret ?_)
 refine Y.doneS (res1 rfl .z) .n ?_
 exact ⟨by rw [decide_eq_true (eq_of_all (by omega) (by omega) hallk)], rfl⟩

theorem c_60 {w0 : World} {S0 : Bs} {x : (List UInt8)} {v0 : Value} (h0 : kSl_5.ro w0 (FF w0 S0) x [v0]) {y : (List UInt8)} {v1 : Value} (h1 : kSl_5.ro w0 (FF w0 S0) y [v1])  :
    Calls Tryz.prog 60 #[v0, v1] w0 (TriPost w0 S0 (fun r l => r = .bool (decide (x = y)) ∧ l = [])) := by
 obtain ⟨A0, c0, rfl, hl0, hm0, hb0, he0⟩ := ro_form h0
 obtain ⟨A1, c1, rfl, hl1, hm1, hb1, he1⟩ := ro_form h1
 refine Y.enter (N := 10) Tryz.func60 rfl rfl (by simp) [(0, .slice A0 x.length c0), (1, .slice A1 y.length c1)] (by simp) (l0 := []) trivial ?_
 refine Y.seq (Y.region (Y.ql rfl (q_assign rfl .c) (Y.nt (Y.seq (Y.region (Y.mv rfl .g1 (Y.ql rfl (q_convBS (xs := x) rfl u_22 u_5 u_9 (.t .z) (WS.roctx h0)) ?_)))))))
 refine Y.mv rfl .g4 (Y.ql rfl (q_convBS (xs := y) rfl u_22 u_5 u_9 (.t .z) (WS.roctx h1)) (Y.ql rfl (q_seql rfl (.t .g2) (.t .z)) (Y.er .g5 (Y.as rfl .z (Y.nt (Y.ret ?_))))))
 refine Y.doneS (res1 rfl .z) .n ?_
 exact ⟨congrArg Value.bool (decide_eq_decide.2 bstr_inj), rfl⟩

theorem c_59 {w0 : World} {S0 : Bs} {xs : (List (List UInt8))} {v0 : Value} (h0 : kSl_22.ro w0 (FF w0 S0) xs [v0]) {ys : (List (List UInt8))} {v1 : Value} (h1 : kSl_22.ro w0 (FF w0 S0) ys [v1]) {f : FuncId} {fn : Func} (hfn : Tryz.prog.funcs[f]? = some fn) (hbody : fn.body.isSome = true) (hname : (fn.name == "runtime.NumGoroutine") = false) (hf : ∀ (w1 : World) (S1 : Bs) {x y : (List UInt8)} {v1 v2 : Value}, kSl_5.ro w1 (FF w1 S1) x [v1] → kSl_5.ro w1 (FF w1 S1) y [v2] → Calls Tryz.prog f #[v1, v2] w1 (TriPost w1 S1 (fun r l => r = .bool (decide (x = y)) ∧ l = [])))  :
    Calls Tryz.prog 59 #[v0, v1, .func (.func f) #[] #[]] w0 (TriPost w0 S0 (fun r l => r = .bool (decide (xs = ys)) ∧ l = [])) := by
 obtain ⟨A0, c0, rfl, a4, a5, a6, ar⟩ := ro_form h0
 obtain ⟨A1, c1, rfl, a7, a8, a9, au⟩ := ro_form h1
 refine Y.enter (N := 32) Tryz.func59 rfl rfl (by simp) [(0, .slice A0 xs.length c0), (1, .slice A1 ys.length c1), (2, .func (.func f) #[] #[])] (by simp) (l0 := []) trivial ?_
 refine Y.seq (Y.region (Y.ql rfl (q_assign rfl .c) (Y.nt (Y.seq (Y.seq (Y.region (Y.mv rfl .g1 ?_)))))))
 refine Y.ql rfl (q_len rfl u_25 (.t .z)) (Y.mv rfl .g4 (Y.ql rfl (q_len rfl u_25 (.t .z)) (Y.ql rfl (q_neq rfl (.t .g2) (.t .z)) (Y.nt ?_))))
 refine Y.condN (.t .z) (fun b3 => ?_) (fun b3 => ?_)
 refine Y.seq (Y.region (Y.er .g5 (Y.ql rfl (q_assign rfl .c) (Y.nt (Y.ret (Y.thenR ?_))))))
 refine Y.doneS (res1 rfl .z) .n ?_
 exact ⟨by rw [decide_eq_false (fun h => by subst h; omega)], rfl⟩
 refine Y.skip (Y.then_ (Y.seq (Y.seq (Y.region (Y.mv rfl .g6 (Y.ql rfl (q_len rfl u_25 (.t .z)) (Y.ql rfl (q_move rfl .c) (Y.nil ?_))))))))
 refine Y.then_ (Y.block ?_)
 refine Y.loopi (γ := Nat) (fun k => [(17, .int .i64 (k : Int)), (16, .int .i64 (xs.length : Int)), (15, .slice A0 xs.length c0), (1, .slice A1 ys.length c1), (2, .func (.func f) #[] #[])]) (fun k => []) (fun k => k ≤ xs.length ∧ ∀ j, j < k → xs[j]? = ys[j]?) (fun k => xs.length - k) 0 ⟨Nat.zero_le _, all_eq_zero⟩ (.c .z (.c .g1 (.c .g2 (.c .g10 (.c .g11 .n))))) (fun _ h => h) ?_
 rintro k ⟨hk, hallk⟩
 refine Y.seq (Y.region (Y.ql rfl (q_lss rfl (.t .z) (.t .g1)) (Y.nt (Y.seq ?_))))
 refine Y.condP (.t .z) (fun b4 => ?_) (fun b4 => ?_)
 refine Y.skip (Y.then_ (Y.seq (Y.block (Y.seq (Y.region (Y.mv rfl .g1 ?_))))))
 obtain ⟨ba, ad, ae⟩ := ar (by omega)
 subst ad
 obtain ⟨x6, aj⟩ := get_ex (xs := xs) (j := k) (by omega)
 obtain ⟨av, ab, ak, al⟩ := ae.elem aj
 obtain ⟨bb, rfl⟩ := sl_one ab
 obtain ⟨bc, bd, rfl, aw, ax, ay, az⟩ := ro_form ab
 refine Y.ql rfl (q_indexAddr (j := k) rfl u_25 sz_22 (.t .g4) (.t .g2) rfl (by omega)) ?_
 refine Y.ql rfl (q_load rfl ag_22 (.t .z) (WS.el0 ak al rfl)) (Y.as rfl .g2 (Y.as rfl .g1 (Y.nt (Y.seq (Y.region (Y.mv rfl .g9 (Y.mv rfl .g2 ?_)))))))
 obtain ⟨be, af, ag⟩ := au (by omega)
 subst af
 obtain ⟨bf, ac⟩ := get_ex (xs := ys) (j := k) (by omega)
 obtain ⟨am, aa, ah, ai⟩ := ag.elem ac
 obtain ⟨a0, rfl⟩ := sl_one aa
 obtain ⟨a1, a2, rfl, an, ao, ap, aq⟩ := ro_form aa
 refine Y.ql rfl (q_indexAddr (j := k) rfl u_25 sz_22 (.t .g1) (.t .z) rfl (by omega)) ?_
 refine Y.ql rfl (q_load rfl ag_22 (.t .z) (WS.el0 ah ai rfl)) (Y.as rfl .z (Y.nt (Y.seq (Y.region (Y.mv rfl .g15 (Y.mv rfl .g6 (Y.mv rfl .g2 ?_)))))))
 refine Y.call (goes_list rfl) rfl (by decide) rfl (c_callv rfl (.t .g2) hfn hbody hname (args2 (.t .g1) (.t .z))) .n (fun w1 S1 hs tr => hf w1 S1 (tr.ctx ab) (tr.ctx aa)) ?_
 rintro _ _ ⟨rfl, rfl⟩
 refine Y.cat .n ?_
 refine Y.ql rfl (q_not rfl (.t .z)) (Y.nt ?_)
 refine Y.condN (.t .z) (fun a3 => ?_) (fun a3 => ?_)
 refine Y.seq (Y.region (Y.ql rfl (q_assign rfl .c) (Y.nt (Y.ret (Y.inBR (Y.thenR (Y.thenR ?_)))))))
 refine Y.inBR (Y.thenR ?_)
 refine Y.doneS (res1 rfl .z) .n ?_
 exact ⟨by rw [decide_eq_false (ne_of_get aj ac (by assumption))], rfl⟩
 refine Y.skip (Y.inBN (Y.then_ (Y.region ?_)))
 refine Y.ql rfl (q_add (c := ((k + 1 : Nat) : Int)) rfl (.t .g16) .c (wr (by omega) (by omega) (by omega))) ?_
 refine Y.er (.s16 .g1) (Y.mv rfl .z (Y.nil ?_))
 refine Y.again (k + 1) ⟨by omega, all_eq_succ hallk aj ac (by assumption)⟩ (by first | omega | (dsimp only; omega)) (.c .z (.c (.s16 .g2) (.c (.s16 .g3) (.c (.s16 .g4) (.c (.s16 .g5) .n))))) (fun _ h => h)
 refine Y.exit (Y.thenE (Y.thenE (Y.inB (Y.then_ (Y.seq (Y.region (Y.ql rfl (q_assign rfl .c) (Y.nil ?_))))))))
 refine Y.then_ (Y.ret ?_)
 refine Y.doneS (res1 rfl .z) .n ?_
 exact ⟨by rw [decide_eq_true (eq_of_all (by omega) (by omega) hallk)], rfl⟩

theorem c_21 {w0 : World} {S0 : Bs} {x : DFs} {am : List Value} (h0 : kT_27.ro w0 (FF w0 S0) x am) {y : DFs} {an : List Value} (h1 : kT_27.ro w0 (FF w0 S0) y an)  :
    Calls Tryz.prog 21 #[.agg am.toArray, .agg an.toArray] w0 (TriPost w0 S0 (fun r l => r = .bool (decide (x = y)) ∧ l = [])) := by
 obtain ⟨a6, a7, rfl, aa, ab⟩ := kT_27_ro h0
 obtain ⟨ac, ad, rfl, ao, ap, aq, ar⟩ := ro_form aa
 obtain ⟨ae, af, rfl, au, av, aw, ax⟩ := ro_form ab
 obtain ⟨a8, a9, rfl, ag, ah⟩ := kT_27_ro h1
 obtain ⟨ai, aj, rfl, ay, az, a0, a1⟩ := ro_form ag
 obtain ⟨ak, al, rfl, a2, a3, a4, a5⟩ := ro_form ah
 refine Y.enter (N := 17) Tryz.func21 rfl rfl (by simp) [(0, .agg #[.slice ac x.inodes.length ad, .slice ae x.data.length af]), (1, .agg #[.slice ai y.inodes.length aj, .slice ak y.data.length al])] (by simp) (l0 := []) trivial ?_
 refine Y.seq (Y.region ?_)
 refine Y.el rfl (e_box (cs := [.slice ac x.inodes.length ad, .slice ae x.data.length af]) (n := 2) rfl (.t .z) rfl rfl) ?_
 rintro _ _ ⟨g5, rfl, rfl⟩
 refine Y.el rfl (e_box (cs := [.slice ai y.inodes.length aj, .slice ak y.data.length al]) (n := 2) rfl (.t .g2) rfl rfl) ?_
 rintro _ _ ⟨g6, rfl, rfl⟩
 refine Y.ql rfl (q_assign rfl .c) (Y.nt (Y.seq (Y.region (Y.fa rfl .g2 fa_27_0 (Y.ld rfl ag_24 .z .g1 (Y.fa rfl .g3 fa_27_0 (Y.ld rfl ag_24 .z .z ?_)))))))
 refine Y.cl rfl rfl Tryz.func57 rfl rfl (args3 (.t .g2) (.t .z) .f) .n (fun _ _ hs tr => c_57 (tr.ctx aa) (tr.ctx ag) Tryz.func58 rfl rfl (fun w2 S2 x y _ _ h1 h2 => c_58 h1 h2)) ?_
 rintro _ _ ⟨rfl, rfl⟩
 refine Y.cat .n ?_
 refine Y.mv rfl .z ?_
 refine Y.caseP .z (fun g7 => ?_) (fun g7 => ?_)
 refine Y.qg rfl rfl .z rfl rfl rfl (q_fieldAddr rfl (.t .g8) (fun _ => fa_27_1 _ _)) ?_
 refine Y.qg rfl rfl .g1 rfl rfl rfl (q_load rfl ag_25 (.t .z) (WS.row .g1 rfl)) ?_
 refine Y.qg rfl rfl .g2 rfl rfl rfl (q_fieldAddr rfl (.t .g9) (fun _ => fa_27_1 _ _)) ?_
 refine Y.qg rfl rfl .g3 rfl rfl rfl (q_load rfl ag_25 (.t .z) (WS.row .z rfl)) ?_
 refine Y.call (goes_listg rfl rfl .g4) rfl (by decide) rfl (c_call rfl Tryz.func59 rfl rfl (args3 (.t .g2) (.t .z) .f)) .n (fun _ _ hs tr => c_59 (tr.ctx ab) (tr.ctx ah) Tryz.func60 rfl rfl (fun w2 S2 x y _ _ h1 h2 => c_60 h1 h2)) ?_
 rintro _ _ ⟨rfl, rfl⟩
 refine Y.cat .n ?_
 refine Y.ql rfl (q_pickT rfl (.t .g5) (.t .z)) (Y.er .g12 (Y.as rfl .z (Y.nt (Y.ret ?_))))
 refine Y.doneS (res1 rfl .z) .n ?_
 exact ⟨congrArg Value.bool (by cases x; cases y; simp_all), rfl⟩
 refine Y.skipl rfl rfl .z rfl rfl (by decide) rfl ?_
 refine Y.skipl rfl rfl .g1 rfl rfl (by decide) rfl ?_
 refine Y.skipl rfl rfl .g2 rfl rfl (by decide) rfl ?_
 refine Y.skipl rfl rfl .g3 rfl rfl (by decide) rfl ?_
 refine Y.skipl rfl rfl .g4 rfl rfl (by decide) rfl ?_
 refine Y.ql rfl (q_pickF rfl (.t .g5) .c) (Y.er .g12 (Y.as rfl .z (Y.nt (Y.ret ?_))))
 refine Y.doneS (res1 rfl .z) .n ?_
 exact ⟨congrArg Value.bool (by cases x; cases y; simp_all), rfl⟩

end Go.Proofs.YtmejbfmhaoilmaaGreat

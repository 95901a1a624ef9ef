/- What is proved: contracts of functions, one a function. No condition. -/
import Derived.Test.YtmejbfmhaoilmaaGreatBase1
import Derived.Test.YtmejbfmhaoilmaaGreatW36
import Derived.Test.YtmejbfmhaoilmaaGreatBase2
namespace Go.Proofs.YtmejbfmhaoilmaaGreat
open Go Go.RowKit
set_option linter.unusedVariables false
set_option linter.unusedSimpArgs false
set_option maxHeartbeats 1000000
set_option maxRecDepth 20000
theorem c_128 {w0 : World} {S0 : Bs} {x : (List DEnt)} {v0 : Value} (h0 : kSl_46.ro w0 (FF w0 S0) x [v0]) {e : DEnt} {aq : List Value} (h1 : kT_46.ro w0 (FF w0 S0) e aq) (d0 : x.length ≤ 6) :
    Calls Tryz.prog 128 #[v0, .agg aq.toArray] w0 (TriPost w0 S0 (fun r l => l = [ownA kSl_46 (putE x e) [r]])) := by
 obtain ⟨A0, c0, rfl, d1, d2, d3, cf⟩ := ro_form h0
 obtain ⟨rfl, cg⟩ := kT_46_ro h1
 refine Y.enter (N := 34) Tryz.func128 rfl rfl (by simp) [(0, .slice A0 x.length c0), (1, .agg #[.string e.name, .int .i64 e.ino])] (by simp) (l0 := []) trivial ?_
 refine Y.seq (Y.region ?_)
 refine Y.el rfl (e_box (cs := [.string e.name, .int .i64 e.ino]) (n := 2) rfl (.t .g1) rfl rfl) ?_
 rintro _ _ ⟨g2, rfl, rfl⟩
 refine Y.ql rfl (q_assign rfl .c) (Y.nt (Y.seq (Y.region (Y.ql rfl (q_assign rfl .c) (Y.nt (Y.seq ?_))))))
 refine Y.block ?_
 refine Y.loopi (γ := Nat) (fun q => [(5, .int .i64 (q : Int)), (4, .slice none 0 0), (3, .pointer (some ⟨g2, 0, none⟩)), (0, .slice A0 x.length c0)]) (fun q => [rowA g2 46 2 1 [.string e.name, .int .i64 e.ino]]) (fun q => q ≤ x.length ∧ ∀ (j : Nat) (y : DEnt), j < q → x[j]? = some y → sLt y.name e.name = true) (fun q => x.length - q) 0 ⟨Nat.zero_le _, all_zero (q := fun _ (y : DEnt) => sLt y.name e.name = true)⟩ (.c .z (.c .g1 (.c .g2 (.c .g3 .n)))) (fun _ h => h.sel (.c .z .n)) ?_
 rintro q ⟨hq, hallq⟩
 refine Y.seq (Y.seq ?_)
 have ag : (subL x 0 q).length = q - 0 := subL_len (by omega)
 refine Y.dr .z 14 mixo ?_
 refine Y.sc (qs 0 5) (by kernel_rfl) ?_
 refine Y.dm rfl rfl .z .z (Y.dm rfl rfl .z .g4 (Y.dk rfl rfl .z (q_len rfl u_42 (.t .z)) (Y.dk rfl rfl .z (q_lss rfl (.t .g2) (.t .z)) (Y.dm rfl rfl .z .z (Y.schN ?_)))))
 refine Y.caseP .z (fun g3 => ?_) (fun g3 => ?_)
 refine Y.sc (qs 5 9) (by kernel_rfl) ?_
 refine Y.dqg rfl rfl rfl .z rfl (by decide) rfl .z (q_move rfl (.t .g8)) ?_
 refine Y.dqg rfl rfl rfl .g1 rfl (by decide) rfl .z (q_move rfl (.t .g6)) ?_
 obtain ⟨al, ah, ai⟩ := cf (by omega)
 subst ah
 obtain ⟨x5, aj⟩ := get_ex (xs := x) (j := q) (by omega)
 obtain ⟨ch, am, an, ao⟩ := ai.elem aj
 obtain ⟨rfl, ar⟩ := kT_46_ro am
 refine Y.dqg rfl rfl rfl .g2 rfl (by decide) rfl .z (q_indexAddr (j := q) rfl u_42 sz_46 (.t .g1) (.t .z) rfl (by omega)) ?_
 refine Y.dqg rfl rfl rfl .g3 rfl (by decide) rfl .z (q_fieldAddr rfl (.t .z) (fun _ => fa_46_0 _ _)) ?_
 refine Y.dqg rfl rfl rfl .g4 rfl (by decide) rfl .z (q_load rfl ag_9 (.t .z) (WS.el an ao rfl)) ?_
 refine Y.dqg rfl rfl rfl .g5 rfl (by decide) rfl .z (q_fieldAddr rfl (.t .g12) (fun _ => fa_46_0 _ _)) ?_
 refine Y.dqg rfl rfl rfl .g6 rfl (by decide) rfl .z (q_load rfl ag_9 (.t .z) (WS.row .z rfl)) ?_
 refine Y.dqg rfl rfl rfl .g7 rfl (by decide) rfl .z (q_slss rfl (.t .g2) (.t .z)) ?_
 refine Y.dk rfl rfl .z (q_pickT rfl (.t .g8) (.t .z)) (Y.schN ?_)
 refine Y.drawN (by kernel_rfl) ?_
 refine Y.then_ ?_
 refine Y.cond (.t .z) (fun b7 => ?_) (fun b7 => ?_)
 refine Y.skip (Y.then_ (Y.block (Y.region (Y.mv rfl .g14 ?_))))
 refine Y.ql rfl (q_add (c := ((q + 1 : Nat) : Int)) rfl (.t .z) .c (wr (by omega) (by omega) (by omega))) ?_
 refine Y.er .g16 (Y.as rfl .z (Y.nil (Y.inBN ?_)))
 refine Y.again (q + 1) ⟨by omega, all_succ (q := fun _ (y : DEnt) => sLt y.name e.name = true) hallq aj (by assumption)⟩ (by first | omega | (dsimp only; omega)) (.c .z (.c (.s16 .g1) (.c (.s16 .g2) (.c (.s16 .g3) .n)))) (fun _ h => h.sel (.c .z .n))
 refine Y.exit (Y.thenE (Y.thenE (Y.inB (Y.then_ (Y.seq ?_)))))
 have ag : (subL x 0 q).length = q - 0 := subL_len (by omega)
 refine Y.dr .z 12 mixo ?_
 refine Y.sc (qs 1 3 ++ [(5, true)] ++ qs 8 3) (by kernel_rfl) ?_
 refine Y.dm rfl rfl .z (.s16 .g1) (Y.dm rfl rfl .z .g15 ?_)
 obtain ⟨d4, ak⟩ : ∃ A' : Option Addr, A' = (if c0 = 0 then (some al) else Option.map (fun z => Addr.add z (0 * 2)) (some al)) := ⟨_, rfl⟩
 have ap := ro_sub (a := 0) (b := q) ak h0 (by omega) (by omega)
 have d5 := subL_len (xs := x) (a := 0) (b := q) (by omega)
 refine Y.dk rfl rfl .z (q_sliceL (a := 0) (b := q) rfl u_42 sz_46 (.t .g1) ak (.inl ⟨rfl, rfl⟩) (.inr ⟨_, _, rfl, (.t .z)⟩) (by omega) (by omega) (by omega)) ?_
 refine Y.dk rfl rfl .z (qW rfl ag_46 (.t (.s16 .g3)) .z sz_46) (Y.dm rfl rfl .z (.s16 .g5) (Y.dm rfl rfl .z (.s16 .g3) ?_))
 obtain ⟨ci, aa⟩ : ∃ A' : Option Addr, A' = (if c0 = q then (some al) else Option.map (fun z => Addr.add z (q * 2)) (some al)) := ⟨_, rfl⟩
 have ad := ro_sub (a := q) (b := x.length) aa h0 (by omega) (by omega)
 have cj := subL_len (xs := x) (a := q) (b := x.length) (by omega)
 refine Y.dk rfl rfl .z (q_sliceL (a := q) (b := x.length) rfl u_42 sz_46 (.t .g1) aa (.inr ⟨_, _, rfl, (.t .z)⟩) (.inl ⟨rfl, rfl⟩) (by omega) (by omega) (by omega)) ?_
 refine Y.schN ?_
 refine Y.fork2 (i := 0) (j := 6) (by kernel_rfl) ?_ ?_
 refine Y.e (goes_sch rfl rfl) rfl (by decide) rfl (e_buildNil rfl u_42 (inz inf_46)) ?_
 rintro _ _ ⟨g12, rfl, rfl⟩
 refine Y.sk .g1 ?_
 refine Y.schN ?_
 refine Y.sc [] (by kernel_rfl) ?_
 refine Y.schN ?_
 refine Y.fork2 (i := 4) (j := 6) (by kernel_rfl) ?_ ?_
 refine Y.add (c := ownA kSl_46 ([] : (List DEnt)) [.slice (some ⟨g12, 0, none⟩) 0 0]) (fun w S => own_nil w S _) ?_
 refine Y.e (goes_sch rfl rfl) rfl (by decide) rfl (e_appendF (flat_iso _ (flat_pair (flat_scalar _ _ _) (flat_scalar _ _ _))) rfl u_42 inf_46 rfl (.t .z) (.t .g5) (.c .z .n) (fun w1 S1 tr => tr.ctx ap) (by first | omega | (simp only [List.length_append, List.length_take, List.length_nil, List.length_cons]; omega)) (by first | omega | (simp only [List.length_append, List.length_take, List.length_nil, List.length_cons]; omega))) ?_
 rintro _ _ rfl
 refine Y.ceq .z (List.nil_append _) ?_
 refine Y.know (WS.oform .z) ?_
 rintro ⟨ck, cm, rfl, au, av, aw⟩
 refine Y.sk .g2 ?_
 refine Y.schN ?_
 refine Y.sc [(6, false), (7, false), (11, false), (12, false)] (by kernel_rfl) ?_
 refine Y.e (goes_sch rfl rfl) rfl (by decide) rfl (e_buildSliceL (cs := [.string e.name, .int .i64 e.ino]) rfl u_42 (inz inf_46) (by decide) (pv1 (.t .g5)) rfl rfl (by decide) rfl rfl) ?_
 rintro _ _ ⟨g15, rfl, rfl⟩
 refine Y.sk .g3 ?_
 refine Y.turns (c := ownA kT_46 (⟨e.name, e.ino⟩ : DEnt) [.string e.name, .int .i64 e.ino]) .n (fun w S h => kT_46_omk (⟨e.name, e.ino⟩ : DEnt) h (by assumption)) ?_
 refine Y.e (goes_sch rfl rfl) rfl (by decide) rfl (e_append1 rfl u_42 inf_46 rfl (.t .g1) (.t .z) (.c .g2 (.c .g1 (.c .z .n))) (by first | omega | (simp only [List.length_append, List.length_take, List.length_nil, List.length_cons]; omega)) (by first | omega | (simp only [List.length_append, List.length_take, List.length_nil, List.length_cons]; omega))) ?_
 rintro _ _ rfl
 refine Y.know (WS.oform .z) ?_
 rintro ⟨cn, co, rfl, ax, ay, az⟩
 refine Y.sk .g2 ?_
 refine Y.e (goes_sch rfl rfl) rfl (by decide) rfl (e_appendF (flat_iso _ (flat_pair (flat_scalar _ _ _) (flat_scalar _ _ _))) rfl u_42 inf_46 rfl (.t .z) (.t .g4) (.c .z .n) (fun w1 S1 tr => tr.ctx ad) (by first | omega | (simp only [List.length_append, List.length_take, List.length_nil, List.length_cons]; omega)) (by first | omega | (simp only [List.length_append, List.length_take, List.length_nil, List.length_cons]; omega))) ?_
 rintro _ _ rfl
 refine Y.know (WS.oform .z) ?_
 rintro ⟨cp, cq, rfl, a0, a1, a2⟩
 refine Y.sk .g2 ?_
 refine Y.er (.s16 .g11) ?_
 refine Y.q (goes_sch rfl rfl) rfl (by decide) rfl (q_assign rfl (.t .z)) ?_
 refine Y.sl rfl ?_
 refine Y.schN ?_
 refine Y.drawN (by kernel_rfl) ?_
 refine Y.then_ (Y.ret ?_)
 refine Y.ceq (x' := putE x e) .z (by rw [← putE_eq (insI_eq hallq hq (.inr ⟨_, aj, by first | assumption | simp_all⟩))]; simp [subL]) ?_
 refine Y.doneS (res1 rfl .z) (.c .z .n) ?_
 rfl
 refine Y.e (goes_sch rfl rfl) rfl (by decide) rfl (e_buildSliceL (cs := [.string e.name, .int .i64 e.ino]) rfl u_42 (inz inf_46) (by decide) (pv1 (.t .g4)) rfl rfl (by decide) rfl rfl) ?_
 rintro _ _ ⟨g19, rfl, rfl⟩
 refine Y.sk .g2 ?_
 refine Y.schN ?_
 refine Y.sc [(4, false), (7, false), (11, false), (12, false)] (by kernel_rfl) ?_
 refine Y.add (c := ownA kSl_46 ([] : (List DEnt)) [.slice (some ⟨g12, 0, none⟩) 0 0]) (fun w S => own_nil w S _) ?_
 refine Y.e (goes_sch rfl rfl) rfl (by decide) rfl (e_appendF (flat_iso _ (flat_pair (flat_scalar _ _ _) (flat_scalar _ _ _))) rfl u_42 inf_46 rfl (.t .g1) (.t .g6) (.c .z .n) (fun w1 S1 tr => tr.ctx ap) (by first | omega | (simp only [List.length_append, List.length_take, List.length_nil, List.length_cons]; omega)) (by first | omega | (simp only [List.length_append, List.length_take, List.length_nil, List.length_cons]; omega))) ?_
 rintro _ _ rfl
 refine Y.ceq .z (List.nil_append _) ?_
 refine Y.know (WS.oform .z) ?_
 rintro ⟨cr, ct, rfl, a3, a4, a5⟩
 refine Y.sk .g3 ?_
 refine Y.turns (c := ownA kT_46 (⟨e.name, e.ino⟩ : DEnt) [.string e.name, .int .i64 e.ino]) .n (fun w S h => kT_46_omk (⟨e.name, e.ino⟩ : DEnt) h (by assumption)) ?_
 refine Y.e (goes_sch rfl rfl) rfl (by decide) rfl (e_append1 rfl u_42 inf_46 rfl (.t .z) (.t .g1) (.c .g1 (.c .g1 (.c .z .n))) (by first | omega | (simp only [List.length_append, List.length_take, List.length_nil, List.length_cons]; omega)) (by first | omega | (simp only [List.length_append, List.length_take, List.length_nil, List.length_cons]; omega))) ?_
 rintro _ _ rfl
 refine Y.know (WS.oform .z) ?_
 rintro ⟨cu, cv, rfl, a6, a7, a8⟩
 refine Y.sk .g2 ?_
 refine Y.e (goes_sch rfl rfl) rfl (by decide) rfl (e_appendF (flat_iso _ (flat_pair (flat_scalar _ _ _) (flat_scalar _ _ _))) rfl u_42 inf_46 rfl (.t .z) (.t .g4) (.c .z .n) (fun w1 S1 tr => tr.ctx ad) (by first | omega | (simp only [List.length_append, List.length_take, List.length_nil, List.length_cons]; omega)) (by first | omega | (simp only [List.length_append, List.length_take, List.length_nil, List.length_cons]; omega))) ?_
 rintro _ _ rfl
 refine Y.know (WS.oform .z) ?_
 rintro ⟨cw, cx, rfl, a9, ba, bb⟩
 refine Y.sk .g2 ?_
 refine Y.er (.s16 .g11) ?_
 refine Y.q (goes_sch rfl rfl) rfl (by decide) rfl (q_assign rfl (.t .z)) ?_
 refine Y.sl rfl ?_
 refine Y.schN ?_
 refine Y.drawN (by kernel_rfl) ?_
 refine Y.then_ (Y.ret ?_)
 refine Y.ceq (x' := putE x e) .z (by rw [← putE_eq (insI_eq hallq hq (.inr ⟨_, aj, by first | assumption | simp_all⟩))]; simp [subL]) ?_
 refine Y.doneS (res1 rfl .z) (.c .z .n) ?_
 rfl
 refine Y.e (goes_sch rfl rfl) rfl (by decide) rfl (e_buildSliceL (cs := [.string e.name, .int .i64 e.ino]) rfl u_42 (inz inf_46) (by decide) (pv1 (.t .g3)) rfl rfl (by decide) rfl rfl) ?_
 rintro _ _ ⟨g25, rfl, rfl⟩
 refine Y.sk .g1 ?_
 refine Y.schN ?_
 refine Y.sc [(0, false), (4, false), (7, false), (11, false), (12, false)] (by kernel_rfl) ?_
 refine Y.e (goes_sch rfl rfl) rfl (by decide) rfl (e_buildNil rfl u_42 (inz inf_46)) ?_
 rintro _ _ ⟨g26, rfl, rfl⟩
 refine Y.sk .g2 ?_
 refine Y.add (c := ownA kSl_46 ([] : (List DEnt)) [.slice (some ⟨g26, 0, none⟩) 0 0]) (fun w S => own_nil w S _) ?_
 refine Y.e (goes_sch rfl rfl) rfl (by decide) rfl (e_appendF (flat_iso _ (flat_pair (flat_scalar _ _ _) (flat_scalar _ _ _))) rfl u_42 inf_46 rfl (.t .z) (.t .g6) (.c .z .n) (fun w1 S1 tr => tr.ctx ap) (by first | omega | (simp only [List.length_append, List.length_take, List.length_nil, List.length_cons]; omega)) (by first | omega | (simp only [List.length_append, List.length_take, List.length_nil, List.length_cons]; omega))) ?_
 rintro _ _ rfl
 refine Y.ceq .z (List.nil_append _) ?_
 refine Y.know (WS.oform .z) ?_
 rintro ⟨cy, cz, rfl, bc, bd, be⟩
 refine Y.sk .g3 ?_
 refine Y.turns (c := ownA kT_46 (⟨e.name, e.ino⟩ : DEnt) [.string e.name, .int .i64 e.ino]) .n (fun w S h => kT_46_omk (⟨e.name, e.ino⟩ : DEnt) h (by assumption)) ?_
 refine Y.e (goes_sch rfl rfl) rfl (by decide) rfl (e_append1 rfl u_42 inf_46 rfl (.t .z) (.t .g2) (.c .g1 (.c .g2 (.c .z .n))) (by first | omega | (simp only [List.length_append, List.length_take, List.length_nil, List.length_cons]; omega)) (by first | omega | (simp only [List.length_append, List.length_take, List.length_nil, List.length_cons]; omega))) ?_
 rintro _ _ rfl
 refine Y.know (WS.oform .z) ?_
 rintro ⟨c1, c2, rfl, bf, bg, bh⟩
 refine Y.sk .g2 ?_
 refine Y.e (goes_sch rfl rfl) rfl (by decide) rfl (e_appendF (flat_iso _ (flat_pair (flat_scalar _ _ _) (flat_scalar _ _ _))) rfl u_42 inf_46 rfl (.t .z) (.t .g4) (.c .z .n) (fun w1 S1 tr => tr.ctx ad) (by first | omega | (simp only [List.length_append, List.length_take, List.length_nil, List.length_cons]; omega)) (by first | omega | (simp only [List.length_append, List.length_take, List.length_nil, List.length_cons]; omega))) ?_
 rintro _ _ rfl
 refine Y.know (WS.oform .z) ?_
 rintro ⟨c3, c4, rfl, bi, bj, bk⟩
 refine Y.sk .g2 ?_
 refine Y.er (.s16 .g11) ?_
 refine Y.q (goes_sch rfl rfl) rfl (by decide) rfl (q_assign rfl (.t .z)) ?_
 refine Y.sl rfl ?_
 refine Y.schN ?_
 refine Y.drawN (by kernel_rfl) ?_
 refine Y.then_ (Y.ret ?_)
 refine Y.ceq (x' := putE x e) .z (by rw [← putE_eq (insI_eq hallq hq (.inr ⟨_, aj, by first | assumption | simp_all⟩))]; simp [subL]) ?_
 refine Y.doneS (res1 rfl .z) (.c .z .n) ?_
 rfl
 refine Y.sc (qs 5 8 ++ [(13, false)]) (by kernel_rfl) ?_
 refine Y.dskip rfl rfl rfl .z rfl rfl (by decide) rfl .z ?_
 refine Y.dskip rfl rfl rfl .g1 rfl rfl (by decide) rfl .z ?_
 refine Y.dskip rfl rfl rfl .g2 rfl rfl (by decide) rfl .z ?_
 refine Y.dskip rfl rfl rfl .g3 rfl rfl (by decide) rfl .z ?_
 refine Y.dskip rfl rfl rfl .g4 rfl rfl (by decide) rfl .z ?_
 refine Y.dskip rfl rfl rfl .g5 rfl rfl (by decide) rfl .z ?_
 refine Y.dskip rfl rfl rfl .g6 rfl rfl (by decide) rfl .z ?_
 refine Y.dskip rfl rfl rfl .g7 rfl rfl (by decide) rfl .z ?_
 refine Y.q (goes_sch rfl rfl) rfl (by decide) rfl (q_pickF rfl (.t .g8) .c) ?_
 refine Y.sk .z ?_
 refine Y.schN ?_
 refine Y.drawN (by kernel_rfl) ?_
 refine Y.then_ ?_
 refine Y.condF (.t .z) ?_
 refine Y.exit (Y.thenE (Y.thenE (Y.inB (Y.then_ (Y.seq ?_)))))
 have ag : (subL x 0 q).length = q - 0 := subL_len (by omega)
 refine Y.dr .z 12 mixo ?_
 refine Y.sc (qs 1 3 ++ [(5, true)] ++ qs 8 3) (by kernel_rfl) ?_
 refine Y.dm rfl rfl .z (.s16 .g1) (Y.dm rfl rfl .z .g15 ?_)
 obtain ⟨c5, ab⟩ : ∃ A' : Option Addr, A' = (if c0 = 0 then A0 else Option.map (fun z => Addr.add z (0 * 2)) A0) := ⟨_, rfl⟩
 have ae := ro_sub (a := 0) (b := q) ab h0 (by omega) (by omega)
 have c6 := subL_len (xs := x) (a := 0) (b := q) (by omega)
 refine Y.dk rfl rfl .z (q_sliceL (a := 0) (b := q) rfl u_42 sz_46 (.t .g1) ab (.inl ⟨rfl, rfl⟩) (.inr ⟨_, _, rfl, (.t .z)⟩) (by omega) (by omega) (by omega)) ?_
 refine Y.dk rfl rfl .z (qW rfl ag_46 (.t (.s16 .g3)) .z sz_46) (Y.dm rfl rfl .z (.s16 .g5) (Y.dm rfl rfl .z (.s16 .g3) ?_))
 obtain ⟨c7, ac⟩ : ∃ A' : Option Addr, A' = (if c0 = q then A0 else Option.map (fun z => Addr.add z (q * 2)) A0) := ⟨_, rfl⟩
 have af := ro_sub (a := q) (b := x.length) ac h0 (by omega) (by omega)
 have c8 := subL_len (xs := x) (a := q) (b := x.length) (by omega)
 refine Y.dk rfl rfl .z (q_sliceL (a := q) (b := x.length) rfl u_42 sz_46 (.t .g1) ac (.inr ⟨_, _, rfl, (.t .z)⟩) (.inl ⟨rfl, rfl⟩) (by omega) (by omega) (by omega)) ?_
 refine Y.schN ?_
 refine Y.fork2 (i := 0) (j := 6) (by kernel_rfl) ?_ ?_
 refine Y.e (goes_sch rfl rfl) rfl (by decide) rfl (e_buildNil rfl u_42 (inz inf_46)) ?_
 rintro _ _ ⟨g36, rfl, rfl⟩
 refine Y.sk .g1 ?_
 refine Y.schN ?_
 refine Y.sc [] (by kernel_rfl) ?_
 refine Y.schN ?_
 refine Y.fork2 (i := 4) (j := 6) (by kernel_rfl) ?_ ?_
 refine Y.add (c := ownA kSl_46 ([] : (List DEnt)) [.slice (some ⟨g36, 0, none⟩) 0 0]) (fun w S => own_nil w S _) ?_
 refine Y.e (goes_sch rfl rfl) rfl (by decide) rfl (e_appendF (flat_iso _ (flat_pair (flat_scalar _ _ _) (flat_scalar _ _ _))) rfl u_42 inf_46 rfl (.t .z) (.t .g5) (.c .z .n) (fun w1 S1 tr => tr.ctx ae) (by first | omega | (simp only [List.length_append, List.length_take, List.length_nil, List.length_cons]; omega)) (by first | omega | (simp only [List.length_append, List.length_take, List.length_nil, List.length_cons]; omega))) ?_
 rintro _ _ rfl
 refine Y.ceq .z (List.nil_append _) ?_
 refine Y.know (WS.oform .z) ?_
 rintro ⟨c9, da, rfl, bm, bn, bo⟩
 refine Y.sk .g2 ?_
 refine Y.schN ?_
 refine Y.sc [(6, false), (7, false), (11, false), (12, false)] (by kernel_rfl) ?_
 refine Y.e (goes_sch rfl rfl) rfl (by decide) rfl (e_buildSliceL (cs := [.string e.name, .int .i64 e.ino]) rfl u_42 (inz inf_46) (by decide) (pv1 (.t .g5)) rfl rfl (by decide) rfl rfl) ?_
 rintro _ _ ⟨g39, rfl, rfl⟩
 refine Y.sk .g3 ?_
 refine Y.turns (c := ownA kT_46 (⟨e.name, e.ino⟩ : DEnt) [.string e.name, .int .i64 e.ino]) .n (fun w S h => kT_46_omk (⟨e.name, e.ino⟩ : DEnt) h (by assumption)) ?_
 refine Y.e (goes_sch rfl rfl) rfl (by decide) rfl (e_append1 rfl u_42 inf_46 rfl (.t .g1) (.t .z) (.c .g2 (.c .g1 (.c .z .n))) (by first | omega | (simp only [List.length_append, List.length_take, List.length_nil, List.length_cons]; omega)) (by first | omega | (simp only [List.length_append, List.length_take, List.length_nil, List.length_cons]; omega))) ?_
 rintro _ _ rfl
 refine Y.know (WS.oform .z) ?_
 rintro ⟨db, dc, rfl, bp, bq, br⟩
 refine Y.sk .g2 ?_
 refine Y.e (goes_sch rfl rfl) rfl (by decide) rfl (e_appendF (flat_iso _ (flat_pair (flat_scalar _ _ _) (flat_scalar _ _ _))) rfl u_42 inf_46 rfl (.t .z) (.t .g4) (.c .z .n) (fun w1 S1 tr => tr.ctx af) (by first | omega | (simp only [List.length_append, List.length_take, List.length_nil, List.length_cons]; omega)) (by first | omega | (simp only [List.length_append, List.length_take, List.length_nil, List.length_cons]; omega))) ?_
 rintro _ _ rfl
 refine Y.know (WS.oform .z) ?_
 rintro ⟨dd, dg, rfl, bs, bt, bu⟩
 refine Y.sk .g2 ?_
 refine Y.er (.s16 .g11) ?_
 refine Y.q (goes_sch rfl rfl) rfl (by decide) rfl (q_assign rfl (.t .z)) ?_
 refine Y.sl rfl ?_
 refine Y.schN ?_
 refine Y.drawN (by kernel_rfl) ?_
 refine Y.then_ (Y.ret ?_)
 refine Y.ceq (x' := putE x e) .z (by rw [← putE_eq (insI_eq hallq hq (.inl (by omega)))]; simp [subL]) ?_
 refine Y.doneS (res1 rfl .z) (.c .z .n) ?_
 rfl
 refine Y.e (goes_sch rfl rfl) rfl (by decide) rfl (e_buildSliceL (cs := [.string e.name, .int .i64 e.ino]) rfl u_42 (inz inf_46) (by decide) (pv1 (.t .g4)) rfl rfl (by decide) rfl rfl) ?_
 rintro _ _ ⟨g43, rfl, rfl⟩
 refine Y.sk .g2 ?_
 refine Y.schN ?_
 refine Y.sc [(4, false), (7, false), (11, false), (12, false)] (by kernel_rfl) ?_
 refine Y.add (c := ownA kSl_46 ([] : (List DEnt)) [.slice (some ⟨g36, 0, none⟩) 0 0]) (fun w S => own_nil w S _) ?_
 refine Y.e (goes_sch rfl rfl) rfl (by decide) rfl (e_appendF (flat_iso _ (flat_pair (flat_scalar _ _ _) (flat_scalar _ _ _))) rfl u_42 inf_46 rfl (.t .g1) (.t .g6) (.c .z .n) (fun w1 S1 tr => tr.ctx ae) (by first | omega | (simp only [List.length_append, List.length_take, List.length_nil, List.length_cons]; omega)) (by first | omega | (simp only [List.length_append, List.length_take, List.length_nil, List.length_cons]; omega))) ?_
 rintro _ _ rfl
 refine Y.ceq .z (List.nil_append _) ?_
 refine Y.know (WS.oform .z) ?_
 rintro ⟨dh, di, rfl, bv, bw, bx⟩
 refine Y.sk .g3 ?_
 refine Y.turns (c := ownA kT_46 (⟨e.name, e.ino⟩ : DEnt) [.string e.name, .int .i64 e.ino]) .n (fun w S h => kT_46_omk (⟨e.name, e.ino⟩ : DEnt) h (by assumption)) ?_
 refine Y.e (goes_sch rfl rfl) rfl (by decide) rfl (e_append1 rfl u_42 inf_46 rfl (.t .z) (.t .g1) (.c .g1 (.c .g1 (.c .z .n))) (by first | omega | (simp only [List.length_append, List.length_take, List.length_nil, List.length_cons]; omega)) (by first | omega | (simp only [List.length_append, List.length_take, List.length_nil, List.length_cons]; omega))) ?_
 rintro _ _ rfl
 refine Y.know (WS.oform .z) ?_
 rintro ⟨dj, dp, rfl, bz, b0, b1⟩
 refine Y.sk .g2 ?_
 refine Y.e (goes_sch rfl rfl) rfl (by decide) rfl (e_appendF (flat_iso _ (flat_pair (flat_scalar _ _ _) (flat_scalar _ _ _))) rfl u_42 inf_46 rfl (.t .z) (.t .g4) (.c .z .n) (fun w1 S1 tr => tr.ctx af) (by first | omega | (simp only [List.length_append, List.length_take, List.length_nil, List.length_cons]; omega)) (by first | omega | (simp only [List.length_append, List.length_take, List.length_nil, List.length_cons]; omega))) ?_
 rintro _ _ rfl
 refine Y.know (WS.oform .z) ?_
 rintro ⟨ds, dt, rfl, b2, b3, b4⟩
 refine Y.sk .g2 ?_
 refine Y.er (.s16 .g11) ?_
 refine Y.q (goes_sch rfl rfl) rfl (by decide) rfl (q_assign rfl (.t .z)) ?_
 refine Y.sl rfl ?_
 refine Y.schN ?_
 refine Y.drawN (by kernel_rfl) ?_
 refine Y.then_ (Y.ret ?_)
 refine Y.ceq (x' := putE x e) .z (by rw [← putE_eq (insI_eq hallq hq (.inl (by omega)))]; simp [subL]) ?_
 refine Y.doneS (res1 rfl .z) (.c .z .n) ?_
 rfl
 refine Y.e (goes_sch rfl rfl) rfl (by decide) rfl (e_buildSliceL (cs := [.string e.name, .int .i64 e.ino]) rfl u_42 (inz inf_46) (by decide) (pv1 (.t .g3)) rfl rfl (by decide) rfl rfl) ?_
 rintro _ _ ⟨g49, rfl, rfl⟩
 refine Y.sk .g1 ?_
 refine Y.schN ?_
 refine Y.sc [(0, false), (4, false), (7, false), (11, false), (12, false)] (by kernel_rfl) ?_
 refine Y.e (goes_sch rfl rfl) rfl (by decide) rfl (e_buildNil rfl u_42 (inz inf_46)) ?_
 rintro _ _ ⟨g50, rfl, rfl⟩
 refine Y.sk .g2 ?_
 refine Y.add (c := ownA kSl_46 ([] : (List DEnt)) [.slice (some ⟨g50, 0, none⟩) 0 0]) (fun w S => own_nil w S _) ?_
 refine Y.e (goes_sch rfl rfl) rfl (by decide) rfl (e_appendF (flat_iso _ (flat_pair (flat_scalar _ _ _) (flat_scalar _ _ _))) rfl u_42 inf_46 rfl (.t .z) (.t .g6) (.c .z .n) (fun w1 S1 tr => tr.ctx ae) (by first | omega | (simp only [List.length_append, List.length_take, List.length_nil, List.length_cons]; omega)) (by first | omega | (simp only [List.length_append, List.length_take, List.length_nil, List.length_cons]; omega))) ?_
 rintro _ _ rfl
 refine Y.ceq .z (List.nil_append _) ?_
 refine Y.know (WS.oform .z) ?_
 rintro ⟨du, dv, rfl, b5, b6, b8⟩
 refine Y.sk .g3 ?_
 refine Y.turns (c := ownA kT_46 (⟨e.name, e.ino⟩ : DEnt) [.string e.name, .int .i64 e.ino]) .n (fun w S h => kT_46_omk (⟨e.name, e.ino⟩ : DEnt) h (by assumption)) ?_
 refine Y.e (goes_sch rfl rfl) rfl (by decide) rfl (e_append1 rfl u_42 inf_46 rfl (.t .z) (.t .g2) (.c .g1 (.c .g2 (.c .z .n))) (by first | omega | (simp only [List.length_append, List.length_take, List.length_nil, List.length_cons]; omega)) (by first | omega | (simp only [List.length_append, List.length_take, List.length_nil, List.length_cons]; omega))) ?_
 rintro _ _ rfl
 refine Y.know (WS.oform .z) ?_
 rintro ⟨dw, dx, rfl, b9, ca, cb⟩
 refine Y.sk .g2 ?_
 refine Y.e (goes_sch rfl rfl) rfl (by decide) rfl (e_appendF (flat_iso _ (flat_pair (flat_scalar _ _ _) (flat_scalar _ _ _))) rfl u_42 inf_46 rfl (.t .z) (.t .g4) (.c .z .n) (fun w1 S1 tr => tr.ctx af) (by first | omega | (simp only [List.length_append, List.length_take, List.length_nil, List.length_cons]; omega)) (by first | omega | (simp only [List.length_append, List.length_take, List.length_nil, List.length_cons]; omega))) ?_
 rintro _ _ rfl
 refine Y.know (WS.oform .z) ?_
 rintro ⟨dy, dz, rfl, cc, cd, ce⟩
 refine Y.sk .g2 ?_
 refine Y.er (.s16 .g11) ?_
 refine Y.q (goes_sch rfl rfl) rfl (by decide) rfl (q_assign rfl (.t .z)) ?_
 refine Y.sl rfl ?_
 refine Y.schN ?_
 refine Y.drawN (by kernel_rfl) ?_
 refine Y.then_ (Y.ret ?_)
 refine Y.ceq (x' := putE x e) .z (by rw [← putE_eq (insI_eq hallq hq (.inl (by omega)))]; simp [subL]) ?_
 refine Y.doneS (res1 rfl .z) (.c .z .n) ?_
 rfl

end Go.Proofs.YtmejbfmhaoilmaaGreat

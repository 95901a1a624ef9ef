/- What is proved: contracts of functions, one a function. No condition. -/
import Derived.Test.YtbcdcakcmdcafaaGreatW36
import Derived.Test.YtbcdcakcmdcafaaGreatBase2
namespace Go.Proofs.YtbcdcakcmdcafaaGreat
open Go Go.RowKit
set_option linter.unusedVariables false
set_option linter.unusedSimpArgs false
set_option maxHeartbeats 1000000 in
set_option maxRecDepth 20000 in
theorem c_116 {w0 : World} {S0 : Bs} {x : (List DEnt)} {v0 : Value} (h0 : kSl_68.ro w0 (FF w0 S0) x [v0]) {e : DEnt} {cs1 : List Value} (h1 : kT_68.ro w0 (FF w0 S0) e cs1) (hx6 : x.length ≤ 6) :
    Calls Tryz.prog 116 #[v0, .agg cs1.toArray] w0 (TriPost w0 S0 (fun r l => l = [ownA kSl_68 (putE x e) [r]])) := by
 obtain ⟨A0, c0, rfl, hl0, hm0, hb0, he0⟩ := ro_form h0
 obtain ⟨rfl, s1_0⟩ := kT_68_ro h1
 refine FJ.enter (N := 34) Tryz.func116 rfl rfl (by simp) [(0, .slice A0 x.length c0), (1, .agg #[.string e.name, .int .i64 e.ino])] (by simp) (l0 := []) trivial ?_
 refine FJ.seq (FJ.region ?_)
 refine FJ.e (goes_list rfl) rfl (by decide) rfl (e_box (cs := [.string e.name, .int .i64 e.ino]) (n := 2) rfl (.t (.s .z)) rfl rfl) ?_
 rintro _ _ ⟨g2, rfl, rfl⟩
 refine FJ.ql rfl (q_assign rfl .c) (FJ.nil (FJ.then_ (FJ.seq (FJ.region ?_))))
 refine FJ.ql rfl (q_assign rfl .c) (FJ.nil (FJ.then_ (FJ.seq (FJ.block ?_))))
 refine FJ.loopi (γ := Nat) (fun q => [(5, .int .i64 (q : Int)), (4, .slice none 0 0), (3, .pointer (some ⟨g2, 0, none⟩)), (0, .slice A0 x.length c0)]) (fun q => [rowA g2 68 2 1 [.string e.name, .int .i64 e.ino]]) (fun q => q ≤ x.length ∧ ∀ (j : Nat) (y : DEnt), j < q → x[j]? = some y → sLt y.name e.name = true) (fun q => x.length - q) 0 ⟨Nat.zero_le _, all_zero (q := fun _ (y : DEnt) => sLt y.name e.name = true)⟩ (.c .z (.c (.s .z) (.c (.s (.s .z)) (.c (.s (.s (.s .z))) .n)))) (fun _ h => h.sel (.c .z .n)) ?_
 rintro q ⟨hq, hallq⟩
 refine FJ.seq (FJ.seq ?_)
 have hsl1 : (subL x 0 q).length = q - 0 := subL_len (by omega)
 refine FJ.draw [rowA g2 68 2 1 [.string e.name, .int .i64 e.ino]] 14 (by kernel_rfl) ?_
 refine FJ.sch [(0, true), (1, true), (2, true), (3, true), (4, true)] 9 #[true, true, true, true, true, false, false, false, false, false, false, false, false, false] (by rfl) (by kernel_rfl) ?_
 refine FJ.dq rfl rfl rfl (by decide) rfl .z (q_move rfl (.t .z)) (FJ.dq rfl rfl rfl (by decide) rfl .z (q_move rfl (.t (.s4 .z))) (FJ.dq rfl rfl rfl (by decide) rfl .z (q_len rfl u_64 (.t .z)) (FJ.dq rfl rfl rfl (by decide) rfl .z (q_lss rfl (.t (.s (.s .z))) (.t .z)) (FJ.dq rfl rfl rfl (by decide) rfl .z (q_move rfl (.t .z)) ?_))))
 refine FJ.schN ?_
 refine FJ.caseP .z (fun g3 => ?_) (fun g3 => ?_)
 refine FJ.sch [(5, true), (6, true), (7, true), (8, true), (9, true), (10, true), (11, true), (12, true), (13, true)] 0 #[true, true, true, true, true, true, true, true, true, true, true, true, true, true] (by rfl) (by kernel_rfl) ?_
 refine FJ.dqg rfl rfl rfl .z rfl (by decide) rfl .z (q_move rfl (.t (.s4 (.s4 .z)))) ?_
 refine FJ.dqg rfl rfl rfl (.s .z) rfl (by decide) rfl .z (q_move rfl (.t (.s4 (.s (.s .z))))) ?_
 obtain ⟨ad4, hAad4, hrad4⟩ := he0 (by omega)
 subst hAad4
 obtain ⟨x5, hx5⟩ := get_ex (xs := x) (j := q) (by omega)
 obtain ⟨ece6, hre6, hFe6, hce6⟩ := hrad4.elem hx5
 obtain ⟨rfl, se6_0⟩ := kT_68_ro hre6
 refine FJ.dqg rfl rfl rfl (.s (.s .z)) rfl (by decide) rfl .z (q_indexAddr (j := q) rfl u_64 sz_68 (.t (.s .z)) (.t .z) rfl (by omega)) ?_
 refine FJ.dqg rfl rfl rfl (.s (.s (.s .z))) rfl (by decide) rfl .z (q_fieldAddr rfl (.t .z) (fun _ => fa_68_0 _ _)) ?_
 refine FJ.dqg rfl rfl rfl (.s4 .z) rfl (by decide) rfl .z (q_load rfl ag_9 (.t .z) (WS.el hFe6 hce6 rfl)) ?_
 refine FJ.dqg rfl rfl rfl (.s4 (.s .z)) rfl (by decide) rfl .z (q_fieldAddr rfl (.t (.s4 (.s4 (.s4 .z)))) (fun _ => fa_68_0 _ _)) ?_
 refine FJ.dqg rfl rfl rfl (.s4 (.s (.s .z))) rfl (by decide) rfl .z (q_load rfl ag_9 (.t .z) (WS.row .z rfl)) ?_
 refine FJ.dqg rfl rfl rfl (.s4 (.s (.s (.s .z)))) rfl (by decide) rfl .z (q_slss rfl (.t (.s (.s .z))) (.t .z)) ?_
 refine FJ.dq rfl rfl rfl (by decide) rfl .z (q_pickT rfl (.t (.s4 (.s4 .z))) (.t .z)) (FJ.schN ?_)
 refine FJ.drawN (by kernel_rfl) ?_
 refine FJ.then_ ?_
 refine FJ.cond (.t .z) (fun b7 => ?_) (fun b7 => ?_)
 refine FJ.skip (FJ.then_ (FJ.block (FJ.region (FJ.ql rfl (q_move rfl (.t (.s4 (.s4 (.s4 (.s (.s .z))))))) ?_))))
 refine FJ.ql rfl (q_add (c := ((q + 1 : Nat) : Int)) rfl (.t .z) .c (wr (by omega) (by omega) (by omega))) ?_
 refine FJ.er (.s16 .z) (FJ.ql rfl (q_assign rfl (.t .z)) (FJ.nil (FJ.inBN ?_)))
 refine FJ.again (q + 1) ⟨by omega, all_succ (q := fun _ (y : DEnt) => sLt y.name e.name = true) hallq hx5 (by assumption)⟩ (by first | omega | (dsimp only; omega)) (.c .z (.c (.s16 (.s .z)) (.c (.s16 (.s (.s .z))) (.c (.s16 (.s (.s (.s .z)))) .n)))) (fun _ h => h.sel (.c .z .n))
 refine FJ.exit (FJ.thenE (FJ.thenE (FJ.inB (FJ.then_ ?_))))
 refine FJ.seq ?_
 have hsl1 : (subL x 0 q).length = q - 0 := subL_len (by omega)
 refine FJ.draw [rowA g2 68 2 1 [.string e.name, .int .i64 e.ino]] 12 (by kernel_rfl) ?_
 refine FJ.sch [(1, true), (2, true), (3, true), (5, true), (8, true), (9, true), (10, true)] 6 #[false, true, true, true, false, true, false, false, true, true, true, false, false] (by rfl) (by kernel_rfl) ?_
 refine FJ.dq rfl rfl rfl (by decide) rfl .z (q_move rfl (.t (.s16 (.s .z)))) (FJ.dq rfl rfl rfl (by decide) rfl .z (q_move rfl (.t (.s4 (.s4 (.s4 (.s (.s (.s .z)))))))) ?_)
 obtain ⟨As8, hAs8⟩ : ∃ A' : Option Addr, A' = (if c0 = 0 then (some ad4) else Option.map (fun z => Addr.add z (0 * 2)) (some ad4)) := ⟨_, rfl⟩
 have hs8 := ro_sub (a := 0) (b := q) hAs8 h0 (by omega) (by omega)
 have ls8 := subL_len (xs := x) (a := 0) (b := q) (by omega)
 refine FJ.dq rfl rfl rfl (by decide) rfl .z (q_sliceL (a := 0) (b := q) rfl u_64 sz_68 (.t (.s .z)) hAs8 (.inl ⟨rfl, rfl⟩) (.inr ⟨_, _, rfl, (.t .z)⟩) (by omega) (by omega) (by omega)) ?_
 refine FJ.dq rfl rfl rfl (by decide) rfl .z (q_loadA (cs := [.string e.name, .int .i64 e.ino]) rfl ag_68 sz_68 (.t (.s16 (.s (.s (.s .z))))) (WS.rows0 .z (fun i u h => by exact h))) ?_
 refine FJ.dq rfl rfl rfl (by decide) rfl .z (q_move rfl (.t (.s16 (.s4 (.s .z))))) (FJ.dq rfl rfl rfl (by decide) rfl .z (q_move rfl (.t (.s16 (.s (.s (.s .z)))))) ?_)
 obtain ⟨As10, hAs10⟩ : ∃ A' : Option Addr, A' = (if c0 = q then (some ad4) else Option.map (fun z => Addr.add z (q * 2)) (some ad4)) := ⟨_, rfl⟩
 have hs10 := ro_sub (a := q) (b := x.length) hAs10 h0 (by omega) (by omega)
 have ls10 := subL_len (xs := x) (a := q) (b := x.length) (by omega)
 refine FJ.dq rfl rfl rfl (by decide) rfl .z (q_sliceL (a := q) (b := x.length) rfl u_64 sz_68 (.t (.s .z)) hAs10 (.inr ⟨_, _, rfl, (.t .z)⟩) (.inl ⟨rfl, rfl⟩) (by omega) (by omega) (by omega)) ?_
 refine FJ.schN ?_
 refine FJ.fork2 (i := 0) (j := 6) (by kernel_rfl) ?_ ?_
 refine FJ.e (goes_sch rfl rfl) rfl (by decide) rfl (e_buildNil rfl u_64 (inz inf_68)) ?_
 rintro _ _ ⟨g12, rfl, rfl⟩
 refine FJ.sk (.s .z) ?_
 refine FJ.schN ?_
 refine FJ.sch [] 5 #[true, true, true, true, false, true, false, false, true, true, true, false, false] (by rfl) (by kernel_rfl) ?_
 refine FJ.schN ?_
 refine FJ.fork2 (i := 4) (j := 6) (by kernel_rfl) ?_ ?_
 refine FJ.add (c := ownA kSl_68 ([] : (List DEnt)) [.slice (some ⟨g12, 0, none⟩) 0 0]) (fun w S => own_nil w S _) ?_
 refine FJ.e (goes_sch rfl rfl) rfl (by decide) rfl (e_appendF (flat_iso _ (flat_pair (flat_scalar _ _ _) (flat_scalar _ _ _))) rfl u_64 inf_68 rfl (.t .z) (.t (.s4 (.s .z))) (.c .z .n) (fun w1 S1 tr => tr.ctx hs8) (by first | omega | (simp only [List.length_append, List.length_take, List.length_nil, List.length_cons]; omega)) (by first | omega | (simp only [List.length_append, List.length_take, List.length_nil, List.length_cons]; omega))) ?_
 rintro _ _ rfl
 refine FJ.ceq .z (List.nil_append _) ?_
 refine FJ.know (WS.oform .z) ?_
 rintro ⟨Ao14, co14, rfl, hlo14, hmo14, hbo14⟩
 refine FJ.sk (.s (.s .z)) ?_
 refine FJ.schN ?_
 refine FJ.sch [(6, false), (7, false), (11, false), (12, false)] 0 #[true, true, true, true, true, true, true, true, true, true, true, true, true] (by rfl) (by kernel_rfl) ?_
 refine FJ.e (goes_sch rfl rfl) rfl (by decide) rfl (e_buildSliceL (ps := [(0, .agg #[.string e.name, .int .i64 e.ino])]) (cs := [.string e.name, .int .i64 e.ino]) rfl u_64 (inz inf_68) (by decide) (by intro act hact; simp only [List.map_toArray, List.map_cons, List.map_nil, (show Val _ _ _ from (.t (.s4 (.s .z)))) act hact]) rfl rfl (by decide) rfl rfl) ?_
 rintro _ _ ⟨g15, rfl, rfl⟩
 refine FJ.sk (.s (.s (.s .z))) ?_
 refine FJ.turns (c := ownA kT_68 (⟨e.name, e.ino⟩ : DEnt) [.string e.name, .int .i64 e.ino]) .n (fun w S h => kT_68_omk (⟨e.name, e.ino⟩ : DEnt) h (by assumption)) ?_
 refine FJ.e (goes_sch rfl rfl) rfl (by decide) rfl (e_append1 rfl u_64 inf_68 rfl (.t (.s .z)) (.t .z) (.c (.s (.s .z)) (.c (.s .z) (.c .z .n))) (by first | omega | (simp only [List.length_append, List.length_take, List.length_nil, List.length_cons]; omega)) (by first | omega | (simp only [List.length_append, List.length_take, List.length_nil, List.length_cons]; omega))) ?_
 rintro _ _ rfl
 refine FJ.know (WS.oform .z) ?_
 rintro ⟨Ao17, co17, rfl, hlo17, hmo17, hbo17⟩
 refine FJ.sk (.s (.s .z)) ?_
 refine FJ.e (goes_sch rfl rfl) rfl (by decide) rfl (e_appendF (flat_iso _ (flat_pair (flat_scalar _ _ _) (flat_scalar _ _ _))) rfl u_64 inf_68 rfl (.t .z) (.t (.s4 .z)) (.c .z .n) (fun w1 S1 tr => tr.ctx hs10) (by first | omega | (simp only [List.length_append, List.length_take, List.length_nil, List.length_cons]; omega)) (by first | omega | (simp only [List.length_append, List.length_take, List.length_nil, List.length_cons]; omega))) ?_
 rintro _ _ rfl
 refine FJ.know (WS.oform .z) ?_
 rintro ⟨Ao18, co18, rfl, hlo18, hmo18, hbo18⟩
 refine FJ.sk (.s (.s .z)) ?_
 refine FJ.er (.s16 (.s4 (.s4 (.s (.s (.s .z)))))) ?_
 refine FJ.q (goes_sch rfl rfl) rfl (by decide) rfl (q_assign rfl (.t .z)) ?_
 refine FJ.sl rfl ?_
 refine FJ.schN ?_
 refine FJ.drawN (by kernel_rfl) ?_
 refine FJ.then_ (FJ.ret ?_)
 refine FJ.ceq (x' := putE x e) .z (by rw [← putE_eq (insI_eq hallq hq (.inr ⟨_, hx5, by first | assumption | simp_all⟩))]; simp [subL]) ?_
 refine FJ.doneS (res1 rfl .z) (.c .z .n) ?_
 rfl
 refine FJ.e (goes_sch rfl rfl) rfl (by decide) rfl (e_buildSliceL (ps := [(0, .agg #[.string e.name, .int .i64 e.ino])]) (cs := [.string e.name, .int .i64 e.ino]) rfl u_64 (inz inf_68) (by decide) (by intro act hact; simp only [List.map_toArray, List.map_cons, List.map_nil, (show Val _ _ _ from (.t (.s4 .z))) act hact]) rfl rfl (by decide) rfl rfl) ?_
 rintro _ _ ⟨g19, rfl, rfl⟩
 refine FJ.sk (.s (.s .z)) ?_
 refine FJ.schN ?_
 refine FJ.sch [(4, false), (7, false), (11, false), (12, false)] 0 #[true, true, true, true, true, true, true, true, true, true, true, true, true] (by rfl) (by kernel_rfl) ?_
 refine FJ.add (c := ownA kSl_68 ([] : (List DEnt)) [.slice (some ⟨g12, 0, none⟩) 0 0]) (fun w S => own_nil w S _) ?_
 refine FJ.e (goes_sch rfl rfl) rfl (by decide) rfl (e_appendF (flat_iso _ (flat_pair (flat_scalar _ _ _) (flat_scalar _ _ _))) rfl u_64 inf_68 rfl (.t (.s .z)) (.t (.s4 (.s (.s .z)))) (.c .z .n) (fun w1 S1 tr => tr.ctx hs8) (by first | omega | (simp only [List.length_append, List.length_take, List.length_nil, List.length_cons]; omega)) (by first | omega | (simp only [List.length_append, List.length_take, List.length_nil, List.length_cons]; omega))) ?_
 rintro _ _ rfl
 refine FJ.ceq .z (List.nil_append _) ?_
 refine FJ.know (WS.oform .z) ?_
 rintro ⟨Ao21, co21, rfl, hlo21, hmo21, hbo21⟩
 refine FJ.sk (.s (.s (.s .z))) ?_
 refine FJ.turns (c := ownA kT_68 (⟨e.name, e.ino⟩ : DEnt) [.string e.name, .int .i64 e.ino]) .n (fun w S h => kT_68_omk (⟨e.name, e.ino⟩ : DEnt) h (by assumption)) ?_
 refine FJ.e (goes_sch rfl rfl) rfl (by decide) rfl (e_append1 rfl u_64 inf_68 rfl (.t .z) (.t (.s .z)) (.c (.s .z) (.c (.s .z) (.c .z .n))) (by first | omega | (simp only [List.length_append, List.length_take, List.length_nil, List.length_cons]; omega)) (by first | omega | (simp only [List.length_append, List.length_take, List.length_nil, List.length_cons]; omega))) ?_
 rintro _ _ rfl
 refine FJ.know (WS.oform .z) ?_
 rintro ⟨Ao23, co23, rfl, hlo23, hmo23, hbo23⟩
 refine FJ.sk (.s (.s .z)) ?_
 refine FJ.e (goes_sch rfl rfl) rfl (by decide) rfl (e_appendF (flat_iso _ (flat_pair (flat_scalar _ _ _) (flat_scalar _ _ _))) rfl u_64 inf_68 rfl (.t .z) (.t (.s4 .z)) (.c .z .n) (fun w1 S1 tr => tr.ctx hs10) (by first | omega | (simp only [List.length_append, List.length_take, List.length_nil, List.length_cons]; omega)) (by first | omega | (simp only [List.length_append, List.length_take, List.length_nil, List.length_cons]; omega))) ?_
 rintro _ _ rfl
 refine FJ.know (WS.oform .z) ?_
 rintro ⟨Ao24, co24, rfl, hlo24, hmo24, hbo24⟩
 refine FJ.sk (.s (.s .z)) ?_
 refine FJ.er (.s16 (.s4 (.s4 (.s (.s (.s .z)))))) ?_
 refine FJ.q (goes_sch rfl rfl) rfl (by decide) rfl (q_assign rfl (.t .z)) ?_
 refine FJ.sl rfl ?_
 refine FJ.schN ?_
 refine FJ.drawN (by kernel_rfl) ?_
 refine FJ.then_ (FJ.ret ?_)
 refine FJ.ceq (x' := putE x e) .z (by rw [← putE_eq (insI_eq hallq hq (.inr ⟨_, hx5, by first | assumption | simp_all⟩))]; simp [subL]) ?_
 refine FJ.doneS (res1 rfl .z) (.c .z .n) ?_
 rfl
 refine FJ.e (goes_sch rfl rfl) rfl (by decide) rfl (e_buildSliceL (ps := [(0, .agg #[.string e.name, .int .i64 e.ino])]) (cs := [.string e.name, .int .i64 e.ino]) rfl u_64 (inz inf_68) (by decide) (by intro act hact; simp only [List.map_toArray, List.map_cons, List.map_nil, (show Val _ _ _ from (.t (.s (.s (.s .z))))) act hact]) rfl rfl (by decide) rfl rfl) ?_
 rintro _ _ ⟨g25, rfl, rfl⟩
 refine FJ.sk (.s .z) ?_
 refine FJ.schN ?_
 refine FJ.sch [(0, false), (4, false), (7, false), (11, false), (12, false)] 0 #[true, true, true, true, true, true, true, true, true, true, true, true, true] (by rfl) (by kernel_rfl) ?_
 refine FJ.e (goes_sch rfl rfl) rfl (by decide) rfl (e_buildNil rfl u_64 (inz inf_68)) ?_
 rintro _ _ ⟨g26, rfl, rfl⟩
 refine FJ.sk (.s (.s .z)) ?_
 refine FJ.add (c := ownA kSl_68 ([] : (List DEnt)) [.slice (some ⟨g26, 0, none⟩) 0 0]) (fun w S => own_nil w S _) ?_
 refine FJ.e (goes_sch rfl rfl) rfl (by decide) rfl (e_appendF (flat_iso _ (flat_pair (flat_scalar _ _ _) (flat_scalar _ _ _))) rfl u_64 inf_68 rfl (.t .z) (.t (.s4 (.s (.s .z)))) (.c .z .n) (fun w1 S1 tr => tr.ctx hs8) (by first | omega | (simp only [List.length_append, List.length_take, List.length_nil, List.length_cons]; omega)) (by first | omega | (simp only [List.length_append, List.length_take, List.length_nil, List.length_cons]; omega))) ?_
 rintro _ _ rfl
 refine FJ.ceq .z (List.nil_append _) ?_
 refine FJ.know (WS.oform .z) ?_
 rintro ⟨Ao28, co28, rfl, hlo28, hmo28, hbo28⟩
 refine FJ.sk (.s (.s (.s .z))) ?_
 refine FJ.turns (c := ownA kT_68 (⟨e.name, e.ino⟩ : DEnt) [.string e.name, .int .i64 e.ino]) .n (fun w S h => kT_68_omk (⟨e.name, e.ino⟩ : DEnt) h (by assumption)) ?_
 refine FJ.e (goes_sch rfl rfl) rfl (by decide) rfl (e_append1 rfl u_64 inf_68 rfl (.t .z) (.t (.s (.s .z))) (.c (.s .z) (.c (.s (.s .z)) (.c .z .n))) (by first | omega | (simp only [List.length_append, List.length_take, List.length_nil, List.length_cons]; omega)) (by first | omega | (simp only [List.length_append, List.length_take, List.length_nil, List.length_cons]; omega))) ?_
 rintro _ _ rfl
 refine FJ.know (WS.oform .z) ?_
 rintro ⟨Ao30, co30, rfl, hlo30, hmo30, hbo30⟩
 refine FJ.sk (.s (.s .z)) ?_
 refine FJ.e (goes_sch rfl rfl) rfl (by decide) rfl (e_appendF (flat_iso _ (flat_pair (flat_scalar _ _ _) (flat_scalar _ _ _))) rfl u_64 inf_68 rfl (.t .z) (.t (.s4 .z)) (.c .z .n) (fun w1 S1 tr => tr.ctx hs10) (by first | omega | (simp only [List.length_append, List.length_take, List.length_nil, List.length_cons]; omega)) (by first | omega | (simp only [List.length_append, List.length_take, List.length_nil, List.length_cons]; omega))) ?_
 rintro _ _ rfl
 refine FJ.know (WS.oform .z) ?_
 rintro ⟨Ao31, co31, rfl, hlo31, hmo31, hbo31⟩
 refine FJ.sk (.s (.s .z)) ?_
 refine FJ.er (.s16 (.s4 (.s4 (.s (.s (.s .z)))))) ?_
 refine FJ.q (goes_sch rfl rfl) rfl (by decide) rfl (q_assign rfl (.t .z)) ?_
 refine FJ.sl rfl ?_
 refine FJ.schN ?_
 refine FJ.drawN (by kernel_rfl) ?_
 refine FJ.then_ (FJ.ret ?_)
 refine FJ.ceq (x' := putE x e) .z (by rw [← putE_eq (insI_eq hallq hq (.inr ⟨_, hx5, by first | assumption | simp_all⟩))]; simp [subL]) ?_
 refine FJ.doneS (res1 rfl .z) (.c .z .n) ?_
 rfl
 refine FJ.sch [(5, true), (6, true), (7, true), (8, true), (9, true), (10, true), (11, true), (12, true), (13, false)] 0 #[true, true, true, true, true, true, true, true, true, true, true, true, true, true] (by rfl) (by kernel_rfl) ?_
 refine FJ.dskip rfl rfl rfl .z rfl rfl (by decide) rfl .z ?_
 refine FJ.dskip rfl rfl rfl (.s .z) rfl rfl (by decide) rfl .z ?_
 refine FJ.dskip rfl rfl rfl (.s (.s .z)) rfl rfl (by decide) rfl .z ?_
 refine FJ.dskip rfl rfl rfl (.s (.s (.s .z))) rfl rfl (by decide) rfl .z ?_
 refine FJ.dskip rfl rfl rfl (.s4 .z) rfl rfl (by decide) rfl .z ?_
 refine FJ.dskip rfl rfl rfl (.s4 (.s .z)) rfl rfl (by decide) rfl .z ?_
 refine FJ.dskip rfl rfl rfl (.s4 (.s (.s .z))) rfl rfl (by decide) rfl .z ?_
 refine FJ.dskip rfl rfl rfl (.s4 (.s (.s (.s .z)))) rfl rfl (by decide) rfl .z ?_
 refine FJ.q (goes_sch rfl rfl) rfl (by decide) rfl (q_pickF rfl (.t (.s4 (.s4 .z))) .c) ?_
 refine FJ.sk .z ?_
 refine FJ.schN ?_
 refine FJ.drawN (by kernel_rfl) ?_
 refine FJ.then_ ?_
 refine FJ.condF (.t .z) ?_
 refine FJ.exit (FJ.thenE (FJ.thenE (FJ.inB (FJ.then_ ?_))))
 refine FJ.seq ?_
 have hsl1 : (subL x 0 q).length = q - 0 := subL_len (by omega)
 refine FJ.draw [rowA g2 68 2 1 [.string e.name, .int .i64 e.ino]] 12 (by kernel_rfl) ?_
 refine FJ.sch [(1, true), (2, true), (3, true), (5, true), (8, true), (9, true), (10, true)] 6 #[false, true, true, true, false, true, false, false, true, true, true, false, false] (by rfl) (by kernel_rfl) ?_
 refine FJ.dq rfl rfl rfl (by decide) rfl .z (q_move rfl (.t (.s16 (.s .z)))) (FJ.dq rfl rfl rfl (by decide) rfl .z (q_move rfl (.t (.s4 (.s4 (.s4 (.s (.s (.s .z)))))))) ?_)
 obtain ⟨As32, hAs32⟩ : ∃ A' : Option Addr, A' = (if c0 = 0 then A0 else Option.map (fun z => Addr.add z (0 * 2)) A0) := ⟨_, rfl⟩
 have hs32 := ro_sub (a := 0) (b := q) hAs32 h0 (by omega) (by omega)
 have ls32 := subL_len (xs := x) (a := 0) (b := q) (by omega)
 refine FJ.dq rfl rfl rfl (by decide) rfl .z (q_sliceL (a := 0) (b := q) rfl u_64 sz_68 (.t (.s .z)) hAs32 (.inl ⟨rfl, rfl⟩) (.inr ⟨_, _, rfl, (.t .z)⟩) (by omega) (by omega) (by omega)) ?_
 refine FJ.dq rfl rfl rfl (by decide) rfl .z (q_loadA (cs := [.string e.name, .int .i64 e.ino]) rfl ag_68 sz_68 (.t (.s16 (.s (.s (.s .z))))) (WS.rows0 .z (fun i u h => by exact h))) ?_
 refine FJ.dq rfl rfl rfl (by decide) rfl .z (q_move rfl (.t (.s16 (.s4 (.s .z))))) (FJ.dq rfl rfl rfl (by decide) rfl .z (q_move rfl (.t (.s16 (.s (.s (.s .z)))))) ?_)
 obtain ⟨As34, hAs34⟩ : ∃ A' : Option Addr, A' = (if c0 = q then A0 else Option.map (fun z => Addr.add z (q * 2)) A0) := ⟨_, rfl⟩
 have hs34 := ro_sub (a := q) (b := x.length) hAs34 h0 (by omega) (by omega)
 have ls34 := subL_len (xs := x) (a := q) (b := x.length) (by omega)
 refine FJ.dq rfl rfl rfl (by decide) rfl .z (q_sliceL (a := q) (b := x.length) rfl u_64 sz_68 (.t (.s .z)) hAs34 (.inr ⟨_, _, rfl, (.t .z)⟩) (.inl ⟨rfl, rfl⟩) (by omega) (by omega) (by omega)) ?_
 refine FJ.schN ?_
 refine FJ.fork2 (i := 0) (j := 6) (by kernel_rfl) ?_ ?_
 refine FJ.e (goes_sch rfl rfl) rfl (by decide) rfl (e_buildNil rfl u_64 (inz inf_68)) ?_
 rintro _ _ ⟨g36, rfl, rfl⟩
 refine FJ.sk (.s .z) ?_
 refine FJ.schN ?_
 refine FJ.sch [] 5 #[true, true, true, true, false, true, false, false, true, true, true, false, false] (by rfl) (by kernel_rfl) ?_
 refine FJ.schN ?_
 refine FJ.fork2 (i := 4) (j := 6) (by kernel_rfl) ?_ ?_
 refine FJ.add (c := ownA kSl_68 ([] : (List DEnt)) [.slice (some ⟨g36, 0, none⟩) 0 0]) (fun w S => own_nil w S _) ?_
 refine FJ.e (goes_sch rfl rfl) rfl (by decide) rfl (e_appendF (flat_iso _ (flat_pair (flat_scalar _ _ _) (flat_scalar _ _ _))) rfl u_64 inf_68 rfl (.t .z) (.t (.s4 (.s .z))) (.c .z .n) (fun w1 S1 tr => tr.ctx hs32) (by first | omega | (simp only [List.length_append, List.length_take, List.length_nil, List.length_cons]; omega)) (by first | omega | (simp only [List.length_append, List.length_take, List.length_nil, List.length_cons]; omega))) ?_
 rintro _ _ rfl
 refine FJ.ceq .z (List.nil_append _) ?_
 refine FJ.know (WS.oform .z) ?_
 rintro ⟨Ao38, co38, rfl, hlo38, hmo38, hbo38⟩
 refine FJ.sk (.s (.s .z)) ?_
 refine FJ.schN ?_
 refine FJ.sch [(6, false), (7, false), (11, false), (12, false)] 0 #[true, true, true, true, true, true, true, true, true, true, true, true, true] (by rfl) (by kernel_rfl) ?_
 refine FJ.e (goes_sch rfl rfl) rfl (by decide) rfl (e_buildSliceL (ps := [(0, .agg #[.string e.name, .int .i64 e.ino])]) (cs := [.string e.name, .int .i64 e.ino]) rfl u_64 (inz inf_68) (by decide) (by intro act hact; simp only [List.map_toArray, List.map_cons, List.map_nil, (show Val _ _ _ from (.t (.s4 (.s .z)))) act hact]) rfl rfl (by decide) rfl rfl) ?_
 rintro _ _ ⟨g39, rfl, rfl⟩
 refine FJ.sk (.s (.s (.s .z))) ?_
 refine FJ.turns (c := ownA kT_68 (⟨e.name, e.ino⟩ : DEnt) [.string e.name, .int .i64 e.ino]) .n (fun w S h => kT_68_omk (⟨e.name, e.ino⟩ : DEnt) h (by assumption)) ?_
 refine FJ.e (goes_sch rfl rfl) rfl (by decide) rfl (e_append1 rfl u_64 inf_68 rfl (.t (.s .z)) (.t .z) (.c (.s (.s .z)) (.c (.s .z) (.c .z .n))) (by first | omega | (simp only [List.length_append, List.length_take, List.length_nil, List.length_cons]; omega)) (by first | omega | (simp only [List.length_append, List.length_take, List.length_nil, List.length_cons]; omega))) ?_
 rintro _ _ rfl
 refine FJ.know (WS.oform .z) ?_
 rintro ⟨Ao41, co41, rfl, hlo41, hmo41, hbo41⟩
 refine FJ.sk (.s (.s .z)) ?_
 refine FJ.e (goes_sch rfl rfl) rfl (by decide) rfl (e_appendF (flat_iso _ (flat_pair (flat_scalar _ _ _) (flat_scalar _ _ _))) rfl u_64 inf_68 rfl (.t .z) (.t (.s4 .z)) (.c .z .n) (fun w1 S1 tr => tr.ctx hs34) (by first | omega | (simp only [List.length_append, List.length_take, List.length_nil, List.length_cons]; omega)) (by first | omega | (simp only [List.length_append, List.length_take, List.length_nil, List.length_cons]; omega))) ?_
 rintro _ _ rfl
 refine FJ.know (WS.oform .z) ?_
 rintro ⟨Ao42, co42, rfl, hlo42, hmo42, hbo42⟩
 refine FJ.sk (.s (.s .z)) ?_
 refine FJ.er (.s16 (.s4 (.s4 (.s (.s (.s .z)))))) ?_
 refine FJ.q (goes_sch rfl rfl) rfl (by decide) rfl (q_assign rfl (.t .z)) ?_
 refine FJ.sl rfl ?_
 refine FJ.schN ?_
 refine FJ.drawN (by kernel_rfl) ?_
 refine FJ.then_ (FJ.ret ?_)
 refine FJ.ceq (x' := putE x e) .z (by rw [← putE_eq (insI_eq hallq hq (.inl (by omega)))]; simp [subL]) ?_
 refine FJ.doneS (res1 rfl .z) (.c .z .n) ?_
 rfl
 refine FJ.e (goes_sch rfl rfl) rfl (by decide) rfl (e_buildSliceL (ps := [(0, .agg #[.string e.name, .int .i64 e.ino])]) (cs := [.string e.name, .int .i64 e.ino]) rfl u_64 (inz inf_68) (by decide) (by intro act hact; simp only [List.map_toArray, List.map_cons, List.map_nil, (show Val _ _ _ from (.t (.s4 .z))) act hact]) rfl rfl (by decide) rfl rfl) ?_
 rintro _ _ ⟨g43, rfl, rfl⟩
 refine FJ.sk (.s (.s .z)) ?_
 refine FJ.schN ?_
 refine FJ.sch [(4, false), (7, false), (11, false), (12, false)] 0 #[true, true, true, true, true, true, true, true, true, true, true, true, true] (by rfl) (by kernel_rfl) ?_
 refine FJ.add (c := ownA kSl_68 ([] : (List DEnt)) [.slice (some ⟨g36, 0, none⟩) 0 0]) (fun w S => own_nil w S _) ?_
 refine FJ.e (goes_sch rfl rfl) rfl (by decide) rfl (e_appendF (flat_iso _ (flat_pair (flat_scalar _ _ _) (flat_scalar _ _ _))) rfl u_64 inf_68 rfl (.t (.s .z)) (.t (.s4 (.s (.s .z)))) (.c .z .n) (fun w1 S1 tr => tr.ctx hs32) (by first | omega | (simp only [List.length_append, List.length_take, List.length_nil, List.length_cons]; omega)) (by first | omega | (simp only [List.length_append, List.length_take, List.length_nil, List.length_cons]; omega))) ?_
 rintro _ _ rfl
 refine FJ.ceq .z (List.nil_append _) ?_
 refine FJ.know (WS.oform .z) ?_
 rintro ⟨Ao45, co45, rfl, hlo45, hmo45, hbo45⟩
 refine FJ.sk (.s (.s (.s .z))) ?_
 refine FJ.turns (c := ownA kT_68 (⟨e.name, e.ino⟩ : DEnt) [.string e.name, .int .i64 e.ino]) .n (fun w S h => kT_68_omk (⟨e.name, e.ino⟩ : DEnt) h (by assumption)) ?_
 refine FJ.e (goes_sch rfl rfl) rfl (by decide) rfl (e_append1 rfl u_64 inf_68 rfl (.t .z) (.t (.s .z)) (.c (.s .z) (.c (.s .z) (.c .z .n))) (by first | omega | (simp only [List.length_append, List.length_take, List.length_nil, List.length_cons]; omega)) (by first | omega | (simp only [List.length_append, List.length_take, List.length_nil, List.length_cons]; omega))) ?_
 rintro _ _ rfl
 refine FJ.know (WS.oform .z) ?_
 rintro ⟨Ao47, co47, rfl, hlo47, hmo47, hbo47⟩
 refine FJ.sk (.s (.s .z)) ?_
 refine FJ.e (goes_sch rfl rfl) rfl (by decide) rfl (e_appendF (flat_iso _ (flat_pair (flat_scalar _ _ _) (flat_scalar _ _ _))) rfl u_64 inf_68 rfl (.t .z) (.t (.s4 .z)) (.c .z .n) (fun w1 S1 tr => tr.ctx hs34) (by first | omega | (simp only [List.length_append, List.length_take, List.length_nil, List.length_cons]; omega)) (by first | omega | (simp only [List.length_append, List.length_take, List.length_nil, List.length_cons]; omega))) ?_
 rintro _ _ rfl
 refine FJ.know (WS.oform .z) ?_
 rintro ⟨Ao48, co48, rfl, hlo48, hmo48, hbo48⟩
 refine FJ.sk (.s (.s .z)) ?_
 refine FJ.er (.s16 (.s4 (.s4 (.s (.s (.s .z)))))) ?_
 refine FJ.q (goes_sch rfl rfl) rfl (by decide) rfl (q_assign rfl (.t .z)) ?_
 refine FJ.sl rfl ?_
 refine FJ.schN ?_
 refine FJ.drawN (by kernel_rfl) ?_
 refine FJ.then_ (FJ.ret ?_)
 refine FJ.ceq (x' := putE x e) .z (by rw [← putE_eq (insI_eq hallq hq (.inl (by omega)))]; simp [subL]) ?_
 refine FJ.doneS (res1 rfl .z) (.c .z .n) ?_
 rfl
 refine FJ.e (goes_sch rfl rfl) rfl (by decide) rfl (e_buildSliceL (ps := [(0, .agg #[.string e.name, .int .i64 e.ino])]) (cs := [.string e.name, .int .i64 e.ino]) rfl u_64 (inz inf_68) (by decide) (by intro act hact; simp only [List.map_toArray, List.map_cons, List.map_nil, (show Val _ _ _ from (.t (.s (.s (.s .z))))) act hact]) rfl rfl (by decide) rfl rfl) ?_
 rintro _ _ ⟨g49, rfl, rfl⟩
 refine FJ.sk (.s .z) ?_
 refine FJ.schN ?_
 refine FJ.sch [(0, false), (4, false), (7, false), (11, false), (12, false)] 0 #[true, true, true, true, true, true, true, true, true, true, true, true, true] (by rfl) (by kernel_rfl) ?_
 refine FJ.e (goes_sch rfl rfl) rfl (by decide) rfl (e_buildNil rfl u_64 (inz inf_68)) ?_
 rintro _ _ ⟨g50, rfl, rfl⟩
 refine FJ.sk (.s (.s .z)) ?_
 refine FJ.add (c := ownA kSl_68 ([] : (List DEnt)) [.slice (some ⟨g50, 0, none⟩) 0 0]) (fun w S => own_nil w S _) ?_
 refine FJ.e (goes_sch rfl rfl) rfl (by decide) rfl (e_appendF (flat_iso _ (flat_pair (flat_scalar _ _ _) (flat_scalar _ _ _))) rfl u_64 inf_68 rfl (.t .z) (.t (.s4 (.s (.s .z)))) (.c .z .n) (fun w1 S1 tr => tr.ctx hs32) (by first | omega | (simp only [List.length_append, List.length_take, List.length_nil, List.length_cons]; omega)) (by first | omega | (simp only [List.length_append, List.length_take, List.length_nil, List.length_cons]; omega))) ?_
 rintro _ _ rfl
 refine FJ.ceq .z (List.nil_append _) ?_
 refine FJ.know (WS.oform .z) ?_
 rintro ⟨Ao52, co52, rfl, hlo52, hmo52, hbo52⟩
 refine FJ.sk (.s (.s (.s .z))) ?_
 refine FJ.turns (c := ownA kT_68 (⟨e.name, e.ino⟩ : DEnt) [.string e.name, .int .i64 e.ino]) .n (fun w S h => kT_68_omk (⟨e.name, e.ino⟩ : DEnt) h (by assumption)) ?_
 refine FJ.e (goes_sch rfl rfl) rfl (by decide) rfl (e_append1 rfl u_64 inf_68 rfl (.t .z) (.t (.s (.s .z))) (.c (.s .z) (.c (.s (.s .z)) (.c .z .n))) (by first | omega | (simp only [List.length_append, List.length_take, List.length_nil, List.length_cons]; omega)) (by first | omega | (simp only [List.length_append, List.length_take, List.length_nil, List.length_cons]; omega))) ?_
 rintro _ _ rfl
 refine FJ.know (WS.oform .z) ?_
 rintro ⟨Ao54, co54, rfl, hlo54, hmo54, hbo54⟩
 refine FJ.sk (.s (.s .z)) ?_
 refine FJ.e (goes_sch rfl rfl) rfl (by decide) rfl (e_appendF (flat_iso _ (flat_pair (flat_scalar _ _ _) (flat_scalar _ _ _))) rfl u_64 inf_68 rfl (.t .z) (.t (.s4 .z)) (.c .z .n) (fun w1 S1 tr => tr.ctx hs34) (by first | omega | (simp only [List.length_append, List.length_take, List.length_nil, List.length_cons]; omega)) (by first | omega | (simp only [List.length_append, List.length_take, List.length_nil, List.length_cons]; omega))) ?_
 rintro _ _ rfl
 refine FJ.know (WS.oform .z) ?_
 rintro ⟨Ao55, co55, rfl, hlo55, hmo55, hbo55⟩
 refine FJ.sk (.s (.s .z)) ?_
 refine FJ.er (.s16 (.s4 (.s4 (.s (.s (.s .z)))))) ?_
 refine FJ.q (goes_sch rfl rfl) rfl (by decide) rfl (q_assign rfl (.t .z)) ?_
 refine FJ.sl rfl ?_
 refine FJ.schN ?_
 refine FJ.drawN (by kernel_rfl) ?_
 refine FJ.then_ (FJ.ret ?_)
 refine FJ.ceq (x' := putE x e) .z (by rw [← putE_eq (insI_eq hallq hq (.inl (by omega)))]; simp [subL]) ?_
 refine FJ.doneS (res1 rfl .z) (.c .z .n) ?_
 rfl

set_option maxHeartbeats 1000000 in
set_option maxRecDepth 20000 in
theorem c_117 {w0 : World} {S0 : Bs} {f : DFs} {g0 e0 s0 : Nat} {post0 : List Value} {v0_0 : Value} {v0_1 : Value} (a : Int) (s : ByteArray) (hz2 : s.size ≤ 140737488351232) (b : Int) (hs : Star [rowA g0 e0 s0 1 (v0_0 :: v0_1 :: post0), ownA kSl_66 f.inodes [v0_0], ownA kSl_39 f.data [v0_1]] w0 S0) (hp : placeIn f.inodes.length a) (h6 : (entsAt f.inodes a).length ≤ 6) :
    Calls Tryz.prog 117 #[.pointer (some ⟨g0, 0, none⟩), .int .i64 a, .string s, .int .i64 b] w0 (TriPost w0 S0 (PA_26 g0 e0 s0 post0 (takeF f a (putE (entsAt f.inodes a) ⟨s, b⟩)))) := by
 obtain ⟨hp1, hp2⟩ := hp
 refine FJ.enter (N := 50) Tryz.func117 rfl rfl (by simp) [(0, .pointer (some ⟨g0, 0, none⟩)), (1, .int .i64 a), (2, .string s), (3, .int .i64 b)] (by simp) hs ?_
 refine FJ.know (WS.oform (.s .z)) ?_
 rintro ⟨Ao1, co1, rfl, hlo1, hmo1, hbo1⟩
 refine FJ.know (WS.oform (.s (.s .z))) ?_
 rintro ⟨Ao2, co2, rfl, hlo2, hmo2, hbo2⟩
 refine FJ.seq (FJ.region (FJ.ql rfl (q_move rfl (.t .z)) (FJ.ql rfl (q_nilCheck rfl (.t .z)) (FJ.ql rfl (q_fieldAddr rfl (.t .z) (fun _ => fa_26_0 _ _)) ?_))))
 refine FJ.ql rfl (q_load rfl ag_24 (.t .z) (WS.row .z rfl)) (FJ.ql rfl (q_move rfl (.t (.s4 (.s .z)))) ?_)
 refine FJ.open (.c (.s .z) .n) own_raw ?_
 rintro fc3 hlfc3
 obtain ⟨y4, hy4⟩ := get_ex (xs := f.inodes) (j := Int.toNat a) (by omega)
 obtain ⟨c5, hc5⟩ := get_ex (xs := fc3) (j := Int.toNat a) (by rw [hlfc3]; exact (List.getElem?_eq_some_iff.1 hy4).1)
 refine FJ.turn (.s .z) (seq_split hy4 hc5) ?_
 refine FJ.open (.c .z .n) kT_66_op ?_
 rintro ⟨v6, v7⟩ rfl
 refine FJ.know (WS.oform .z) ?_
 rintro ⟨Ao10, co10, rfl, hlo10, hmo10, hbo10⟩
 refine FJ.know (WS.oform (.s .z)) ?_
 rintro ⟨Ao11, co11, rfl, hlo11, hmo11, hbo11⟩
 have ny4 := ents_at (a := a) hy4 (by omega)
 have hley4 : y4.ents.length ≤ 6 := by rw [← ny4]; exact h6
 refine FJ.know (WS.oad (.s4 .z) (by omega)) ?_
 rintro ⟨ad12, rfl⟩
 refine FJ.ql rfl (q_indexAddr (j := Int.toNat a) rfl u_24 sz_66 (.t (.s .z)) (.t .z) (by omega) (by omega)) ?_
 refine FJ.ql rfl (q_assign rfl (.t .z)) (FJ.nil (FJ.then_ (FJ.seq (FJ.region ?_))))
 refine FJ.ql rfl (q_assign rfl .c) (FJ.nil (FJ.then_ (FJ.seq (FJ.block ?_))))
 refine FJ.loopi (γ := Nat) (fun q => [(9, .int .i64 (q : Int)), (8, .pointer (some (Addr.add ad12 ((Int.toNat a) * 5)))), (2, .string s), (3, .int .i64 b)]) (fun q => [ownA kSl_2 y4.blocks [.slice Ao10 y4.blocks.length co10], ownA kSl_68 y4.ents [.slice Ao11 y4.ents.length co11], seqC kT_66 (List.take (Int.toNat a) f.inodes) (List.take (Int.toNat a) fc3), seqC kT_66 (List.drop (Int.toNat a + 1) f.inodes) (List.drop (Int.toNat a + 1) fc3), ownA (kslice 66 72 (kraw kT_66.sz kT_66.pos)) fc3 [.slice (some ad12) f.inodes.length co1], rowA g0 e0 s0 1 ((.slice (some ad12) f.inodes.length co1) :: (.slice Ao2 f.data.length co2) :: post0), ownA kSl_39 f.data [.slice Ao2 f.data.length co2]]) (fun q => q ≤ y4.ents.length ∧ ∀ (j : Nat) (y : DEnt), j < q → y4.ents[j]? = some y → sLt y.name s = true) (fun q => y4.ents.length - q) 0 ⟨Nat.zero_le _, all_zero (q := fun _ (y : DEnt) => sLt y.name s = true)⟩ (.c .z (.c (.s .z) (.c (.s4 (.s4 (.s (.s .z)))) (.c (.s4 (.s4 (.s (.s (.s .z))))) .n)))) (fun _ h => h.sel (.c .z (.c .z (.c .z (.c .z (.c .z (.c .z (.c .z .n)))))))) ?_
 rintro q ⟨hq, hallq⟩
 refine FJ.seq (FJ.seq (FJ.region (FJ.ql rfl (q_move rfl (.t .z)) (FJ.ql rfl (q_move rfl (.t (.s (.s .z)))) ?_))))
 refine FJ.ql rfl (q_nilCheck rfl (.t .z)) (FJ.ql rfl (q_fieldAddr rfl (.t .z) (fun _ => fa_66_4 _ _)) (FJ.ql rfl (q_load rfl ag_64 (.t .z) (WS.raw (.s4 .z) hc5 rfl)) (FJ.ql rfl (q_len rfl u_64 (.t .z)) (FJ.ql rfl (q_lss rfl (.t (.s4 (.s .z))) (.t .z)) ?_))))
 refine FJ.ql rfl (q_move rfl (.t .z)) ?_
 refine FJ.caseP .z (fun g14 => ?_) (fun g14 => ?_)
 refine FJ.q (goes_listg rfl rfl .z) rfl (by decide) rfl (q_move rfl (.t (.s4 (.s4 (.s .z))))) ?_
 refine FJ.q (goes_listg rfl rfl (.s .z)) rfl (by decide) rfl (q_nilCheck rfl (.t .z)) ?_
 refine FJ.q (goes_listg rfl rfl (.s (.s .z))) rfl (by decide) rfl (q_fieldAddr rfl (.t .z) (fun _ => fa_66_4 _ _)) ?_
 refine FJ.q (goes_listg rfl rfl (.s (.s (.s .z)))) rfl (by decide) rfl (q_load rfl ag_64 (.t .z) (WS.raw (.s4 .z) hc5 rfl)) ?_
 refine FJ.q (goes_listg rfl rfl (.s4 .z)) rfl (by decide) rfl (q_move rfl (.t (.s4 (.s4 (.s4 .z))))) ?_
 refine FJ.open (.c (.s .z) .n) own_raw ?_
 rintro fc15 hlfc15
 obtain ⟨y16, hy16⟩ := get_ex (xs := y4.ents) (j := q) (by omega)
 obtain ⟨c17, hc17⟩ := get_ex (xs := fc15) (j := q) (by rw [hlfc15]; exact (List.getElem?_eq_some_iff.1 hy16).1)
 refine FJ.turn (.s .z) (seq_split hy16 hc17) ?_
 refine FJ.open (.c .z .n) kT_68_op ?_
 rintro ⟨⟩ ⟨rfl, sy16_0⟩
 refine FJ.know (WS.oad (.s (.s .z)) (by omega)) ?_
 rintro ⟨ad18, rfl⟩
 refine FJ.q (goes_listg rfl rfl (.s4 (.s .z))) rfl (by decide) rfl (q_indexAddr (j := q) rfl u_64 sz_68 (.t (.s .z)) (.t .z) rfl (by omega)) ?_
 refine FJ.q (goes_listg rfl rfl (.s4 (.s (.s .z)))) rfl (by decide) rfl (q_fieldAddr rfl (.t .z) (fun _ => fa_68_0 _ _)) ?_
 refine FJ.q (goes_listg rfl rfl (.s4 (.s (.s (.s .z))))) rfl (by decide) rfl (q_load rfl ag_9 (.t .z) (WS.raw (.s (.s .z)) hc17 rfl)) ?_
 refine FJ.q (goes_listg rfl rfl (.s4 (.s4 .z))) rfl (by decide) rfl (q_move rfl (.t (.s16 (.s (.s .z))))) ?_
 refine FJ.q (goes_listg rfl rfl (.s4 (.s4 (.s .z)))) rfl (by decide) rfl (q_slss rfl (.t (.s .z)) (.t .z)) ?_
 refine FJ.ql rfl (q_pickT rfl (.t (.s4 (.s4 (.s (.s .z))))) (.t .z)) (FJ.nil (FJ.then_ ?_))
 refine FJ.cond (.t .z) (fun b20 => ?_) (fun b20 => ?_)
 refine FJ.skip (FJ.then_ (FJ.block (FJ.region (FJ.ql rfl (q_move rfl (.t (.s16 (.s (.s (.s .z)))))) ?_))))
 refine FJ.ql rfl (q_add (c := ((q + 1 : Nat) : Int)) rfl (.t .z) .c (wr (by omega) (by omega) (by omega))) ?_
 refine FJ.er (.s16 (.s4 (.s .z))) (FJ.ql rfl (q_assign rfl (.t .z)) (FJ.nil (FJ.inBN ?_)))
 refine FJ.turns (c := ownA kT_68 y16 [.string y16.name, .int .i64 y16.ino]) .n (fun w S h => kT_68_omk y16 h (by assumption)) ?_
 refine FJ.turns (c := ownA kSl_68 y4.ents [.slice (some ad18) y4.ents.length co11]) (.c (.s (.s (.s .z))) (.c .z (.c .z (.c .z .n)))) (own_unfocus0 (K := kT_68) hlfc15 hy16 hc17) ?_
 refine FJ.again (q + 1) ⟨by omega, all_succ (q := fun _ (y : DEnt) => sLt y.name s = true) hallq hy16 (by assumption)⟩ (by first | omega | (dsimp only; omega)) (.c .z (.c (.s16 (.s4 (.s (.s .z)))) (.c (.s16 (.s4 (.s (.s (.s .z))))) (.c (.s16 (.s4 (.s4 .z))) .n)))) (fun _ h => h.sel (.c (.s .z) (.c .z (.c .z (.c .z (.c .z (.c .z (.c .z .n))))))))
 refine FJ.exit (FJ.thenE (FJ.thenE (FJ.inB (FJ.then_ ?_))))
 refine FJ.region (FJ.ql rfl (q_move rfl (.t (.s16 (.s4 .z)))) (FJ.ql rfl (q_move rfl (.t (.s16 (.s4 (.s .z))))) (FJ.ql rfl (q_nilCheck rfl (.t .z)) (FJ.ql rfl (q_fieldAddr rfl (.t .z) (fun _ => fa_66_4 _ _)) ?_))))
 refine FJ.ql rfl (q_load rfl ag_64 (.t .z) (WS.raw (.s4 (.s (.s .z))) hc5 rfl)) (FJ.ql rfl (q_move rfl (.t (.s16 (.s4 (.s4 .z))))) (FJ.ql rfl (q_move rfl (.t (.s16 (.s4 (.s4 (.s (.s (.s .z)))))))) (FJ.ql rfl (q_move rfl (.t (.s16 (.s4 (.s4 (.s4 (.s .z))))))) ?_)))
 refine FJ.ql rfl (q_build (ps := [(0, .string s), (1, .int .i64 b)]) (cs := [.string s, .int .i64 b]) rfl bl_68 (by intro act hact; simp only [List.map_toArray, List.map_cons, List.map_nil, (show Val _ _ _ from (.t (.s .z))) act hact, (show Val _ _ _ from (.t .z)) act hact]) rfl) ?_
 refine FJ.e (goes_list rfl) rfl (by decide) rfl (e_buildSliceL (ps := [(0, .agg #[.string s, .int .i64 b])]) (cs := [.string s, .int .i64 b]) rfl u_64 (inz inf_68) (by decide) (by intro act hact; simp only [List.map_toArray, List.map_cons, List.map_nil, (show Val _ _ _ from (.t .z)) act hact]) rfl rfl (by decide) rfl rfl) ?_
 rintro _ _ ⟨g22, rfl, rfl⟩
 refine FJ.turns (c := ownA kT_68 y16 [.string y16.name, .int .i64 y16.ino]) .n (fun w S h => kT_68_omk y16 h (by assumption)) ?_
 refine FJ.turns (c := ownA kSl_68 y4.ents [.slice (some ad18) y4.ents.length co11]) (.c (.s4 .z) (.c .z (.c (.s .z) (.c (.s .z) .n)))) (own_unfocus0 (K := kT_68) hlfc15 hy16 hc17) ?_
 refine FJ.turns (c := ownA kT_68 (⟨s, b⟩ : DEnt) [.string s, .int .i64 b]) .n (fun w S h => kT_68_omk (⟨s, b⟩ : DEnt) h (by assumption)) ?_
 refine FJ.turns (c := ownA kSl_68 [(⟨s, b⟩ : DEnt)] [.slice (some ⟨g22, 0, none⟩) 1 1]) (.c (.s (.s .z)) (.c .z .n)) (lit1_own rfl rfl (by decide)) ?_
 refine FJ.call (goes_list rfl) rfl (by decide) rfl (c_call rfl Tryz.func145 rfl rfl (args3 (.t (.s4 (.s .z))) (.t (.s4 .z)) (.t .z))) (.c (.s .z) (.c .z .n)) (fun w1 S1 hs tr => c_145 (x := y4.ents) (ys := [(⟨s, b⟩ : DEnt)]) _ hs (by first | omega | (simp only [List.length_cons, List.length_nil]; omega)) (by first | omega | (simp only [List.length_cons, List.length_nil]; omega)) (by first | omega | (simp only [List.length_cons, List.length_nil]; omega)) (by first | omega | (simp only [List.length_cons, List.length_nil]; omega))) ?_
 rintro _ _ rfl
 refine FJ.cat (.c .n) ?_
 refine FJ.know (WS.oform .z) ?_
 rintro ⟨Ao27, co27, rfl, hlo27, hmo27, hbo27⟩
 refine FJ.ql rfl (q_nilCheck rfl (.t (.s4 (.s4 (.s (.s .z)))))) (FJ.ql rfl (q_fieldAddr rfl (.t .z) (fun _ => fa_66_4 _ _)) ?_)
 refine FJ.es (goes_list rfl) rfl (es_raw (j := Int.toNat a) (off := 4) (cs := [.slice Ao27 (List.take q y4.ents ++ ([(⟨s, b⟩ : DEnt)]) ++ List.drop q y4.ents).length co27]) rfl sz_64 (.t .z) (add_add _ _ _) (.t (.s (.s .z))) rfl (ones rfl) (.s4 .z) hc5 (Nat.le_of_ble_eq_true rfl)) ?_
 refine FJ.ceq (x' := List.set fc3 (Int.toNat a) [.int .i64 y4.kind, .int .i64 y4.links, .int .i64 y4.size, .slice Ao10 y4.blocks.length co10, .slice Ao27 (List.take q y4.ents ++ ([(⟨s, b⟩ : DEnt)]) ++ List.drop q y4.ents).length co27]) .z rfl ?_
 refine FJ.nil ?_
 refine FJ.turns (c := ownA kT_66 (⟨y4.kind, y4.links, y4.size, y4.blocks, List.take q y4.ents ++ ([(⟨s, b⟩ : DEnt)]) ++ List.drop q y4.ents⟩ : DInode) [.int .i64 y4.kind, .int .i64 y4.links, .int .i64 y4.size, .slice Ao10 y4.blocks.length co10, .slice Ao27 (List.take q y4.ents ++ ([(⟨s, b⟩ : DEnt)]) ++ List.drop q y4.ents).length co27]) (.c (.s (.s .z)) (.c (.s .z) .n)) (fun w S h => kT_66_omk (⟨y4.kind, y4.links, y4.size, y4.blocks, List.take q y4.ents ++ ([(⟨s, b⟩ : DEnt)]) ++ List.drop q y4.ents⟩ : DInode) h) ?_
 refine FJ.turns (c := ownA kSl_66 (List.set f.inodes (Int.toNat a) (⟨y4.kind, y4.links, y4.size, y4.blocks, List.take q y4.ents ++ ([(⟨s, b⟩ : DEnt)]) ++ List.drop q y4.ents⟩ : DInode)) [.slice (some ad12) f.inodes.length co1]) (.c (.s .z) (.c .z (.c .z (.c .z .n)))) (own_unfocus (K := kT_66) hlfc3 (List.getElem?_eq_some_iff.1 hy4).1 rfl) ?_
 have he29 : List.set f.inodes (Int.toNat a) (⟨y4.kind, y4.links, y4.size, y4.blocks, List.take q y4.ents ++ ([(⟨s, b⟩ : DEnt)]) ++ List.drop q y4.ents⟩ : DInode) = withE f.inodes a (putE (entsAt f.inodes a) ⟨s, b⟩) := (by rw [ny4, ← putE_eq (n := ⟨s, b⟩) (insI_eq hallq hq (.inr ⟨_, hy16, by first | assumption | simp_all⟩))]; exact withE_at hy4 (by omega))
 refine FJ.chEq .z (congrArg (fun z_ => (ownA kSl_66 (z_) [.slice (some ad12) f.inodes.length co1] : Asn)) he29) ?_
 refine FJ.doneSN (res0 rfl) (.c (.s .z) (.c .z (.c .z .n))) ?_
 exact ⟨_, _, rfl, rfl⟩
 refine FJ.skipl rfl rfl .z rfl rfl (by decide) rfl ?_
 refine FJ.skipl rfl rfl (.s .z) rfl rfl (by decide) rfl ?_
 refine FJ.skipl rfl rfl (.s (.s .z)) rfl rfl (by decide) rfl ?_
 refine FJ.skipl rfl rfl (.s (.s (.s .z))) rfl rfl (by decide) rfl ?_
 refine FJ.skipl rfl rfl (.s4 .z) rfl rfl (by decide) rfl ?_
 refine FJ.skipl rfl rfl (.s4 (.s .z)) rfl rfl (by decide) rfl ?_
 refine FJ.skipl rfl rfl (.s4 (.s (.s .z))) rfl rfl (by decide) rfl ?_
 refine FJ.skipl rfl rfl (.s4 (.s (.s (.s .z)))) rfl rfl (by decide) rfl ?_
 refine FJ.skipl rfl rfl (.s4 (.s4 .z)) rfl rfl (by decide) rfl ?_
 refine FJ.skipl rfl rfl (.s4 (.s4 (.s .z))) rfl rfl (by decide) rfl ?_
 refine FJ.ql rfl (q_pickF rfl (.t (.s4 (.s4 (.s (.s .z))))) .c) (FJ.nil (FJ.then_ ?_))
 refine FJ.condF (.t .z) ?_
 refine FJ.exit (FJ.thenE (FJ.thenE (FJ.inB (FJ.then_ ?_))))
 refine FJ.region (FJ.ql rfl (q_move rfl (.t (.s16 (.s4 .z)))) (FJ.ql rfl (q_move rfl (.t (.s16 (.s4 (.s .z))))) (FJ.ql rfl (q_nilCheck rfl (.t .z)) (FJ.ql rfl (q_fieldAddr rfl (.t .z) (fun _ => fa_66_4 _ _)) ?_))))
 refine FJ.ql rfl (q_load rfl ag_64 (.t .z) (WS.raw (.s4 .z) hc5 rfl)) (FJ.ql rfl (q_move rfl (.t (.s16 (.s4 (.s4 .z))))) (FJ.ql rfl (q_move rfl (.t (.s16 (.s4 (.s4 (.s (.s (.s .z)))))))) (FJ.ql rfl (q_move rfl (.t (.s16 (.s4 (.s4 (.s4 (.s .z))))))) ?_)))
 refine FJ.ql rfl (q_build (ps := [(0, .string s), (1, .int .i64 b)]) (cs := [.string s, .int .i64 b]) rfl bl_68 (by intro act hact; simp only [List.map_toArray, List.map_cons, List.map_nil, (show Val _ _ _ from (.t (.s .z))) act hact, (show Val _ _ _ from (.t .z)) act hact]) rfl) ?_
 refine FJ.e (goes_list rfl) rfl (by decide) rfl (e_buildSliceL (ps := [(0, .agg #[.string s, .int .i64 b])]) (cs := [.string s, .int .i64 b]) rfl u_64 (inz inf_68) (by decide) (by intro act hact; simp only [List.map_toArray, List.map_cons, List.map_nil, (show Val _ _ _ from (.t .z)) act hact]) rfl rfl (by decide) rfl rfl) ?_
 rintro _ _ ⟨g30, rfl, rfl⟩
 refine FJ.turns (c := ownA kT_68 (⟨s, b⟩ : DEnt) [.string s, .int .i64 b]) .n (fun w S h => kT_68_omk (⟨s, b⟩ : DEnt) h (by assumption)) ?_
 refine FJ.turns (c := ownA kSl_68 [(⟨s, b⟩ : DEnt)] [.slice (some ⟨g30, 0, none⟩) 1 1]) (.c (.s .z) (.c .z .n)) (lit1_own rfl rfl (by decide)) ?_
 refine FJ.call (goes_list rfl) rfl (by decide) rfl (c_call rfl Tryz.func145 rfl rfl (args3 (.t (.s4 (.s .z))) (.t (.s4 .z)) (.t .z))) (.c (.s (.s .z)) (.c .z .n)) (fun w1 S1 hs tr => c_145 (x := y4.ents) (ys := [(⟨s, b⟩ : DEnt)]) _ hs (by first | omega | (simp only [List.length_cons, List.length_nil]; omega)) (by first | omega | (simp only [List.length_cons, List.length_nil]; omega)) (by first | omega | (simp only [List.length_cons, List.length_nil]; omega)) (by first | omega | (simp only [List.length_cons, List.length_nil]; omega))) ?_
 rintro _ _ rfl
 refine FJ.cat (.c .n) ?_
 refine FJ.know (WS.oform .z) ?_
 rintro ⟨Ao34, co34, rfl, hlo34, hmo34, hbo34⟩
 refine FJ.ql rfl (q_nilCheck rfl (.t (.s4 (.s4 (.s (.s .z)))))) (FJ.ql rfl (q_fieldAddr rfl (.t .z) (fun _ => fa_66_4 _ _)) ?_)
 refine FJ.es (goes_list rfl) rfl (es_raw (j := Int.toNat a) (off := 4) (cs := [.slice Ao34 (List.take q y4.ents ++ ([(⟨s, b⟩ : DEnt)]) ++ List.drop q y4.ents).length co34]) rfl sz_64 (.t .z) (add_add _ _ _) (.t (.s (.s .z))) rfl (ones rfl) (.s4 .z) hc5 (Nat.le_of_ble_eq_true rfl)) ?_
 refine FJ.ceq (x' := List.set fc3 (Int.toNat a) [.int .i64 y4.kind, .int .i64 y4.links, .int .i64 y4.size, .slice Ao10 y4.blocks.length co10, .slice Ao34 (List.take q y4.ents ++ ([(⟨s, b⟩ : DEnt)]) ++ List.drop q y4.ents).length co34]) .z rfl ?_
 refine FJ.nil ?_
 refine FJ.turns (c := ownA kT_66 (⟨y4.kind, y4.links, y4.size, y4.blocks, List.take q y4.ents ++ ([(⟨s, b⟩ : DEnt)]) ++ List.drop q y4.ents⟩ : DInode) [.int .i64 y4.kind, .int .i64 y4.links, .int .i64 y4.size, .slice Ao10 y4.blocks.length co10, .slice Ao34 (List.take q y4.ents ++ ([(⟨s, b⟩ : DEnt)]) ++ List.drop q y4.ents).length co34]) (.c (.s (.s .z)) (.c (.s .z) .n)) (fun w S h => kT_66_omk (⟨y4.kind, y4.links, y4.size, y4.blocks, List.take q y4.ents ++ ([(⟨s, b⟩ : DEnt)]) ++ List.drop q y4.ents⟩ : DInode) h) ?_
 refine FJ.turns (c := ownA kSl_66 (List.set f.inodes (Int.toNat a) (⟨y4.kind, y4.links, y4.size, y4.blocks, List.take q y4.ents ++ ([(⟨s, b⟩ : DEnt)]) ++ List.drop q y4.ents⟩ : DInode)) [.slice (some ad12) f.inodes.length co1]) (.c (.s .z) (.c .z (.c .z (.c .z .n)))) (own_unfocus (K := kT_66) hlfc3 (List.getElem?_eq_some_iff.1 hy4).1 rfl) ?_
 have he36 : List.set f.inodes (Int.toNat a) (⟨y4.kind, y4.links, y4.size, y4.blocks, List.take q y4.ents ++ ([(⟨s, b⟩ : DEnt)]) ++ List.drop q y4.ents⟩ : DInode) = withE f.inodes a (putE (entsAt f.inodes a) ⟨s, b⟩) := (by rw [ny4, ← putE_eq (n := ⟨s, b⟩) (insI_eq hallq hq (.inl (by omega)))]; exact withE_at hy4 (by omega))
 refine FJ.chEq .z (congrArg (fun z_ => (ownA kSl_66 (z_) [.slice (some ad12) f.inodes.length co1] : Asn)) he36) ?_
 refine FJ.doneSN (res0 rfl) (.c (.s .z) (.c .z (.c .z .n))) ?_
 exact ⟨_, _, rfl, rfl⟩

end Go.Proofs.YtbcdcakcmdcafaaGreat

/- What is proved: contracts of functions, one a function. No condition. -/
import Derived.Test.YtmejbfmhaoilmaaGreatBase1
import Derived.Test.YtmejbfmhaoilmaaGreatW24
import Derived.Test.YtmejbfmhaoilmaaGreatBase2
namespace Go.Proofs.YtmejbfmhaoilmaaGreat
open Go Go.RowKit
set_option linter.unusedVariables false
set_option linter.unusedSimpArgs false
set_option maxHeartbeats 1000000
set_option maxRecDepth 20000
theorem c_89 {w0 : World} {S0 : Bs} {x : (List UInt8)} {v0 : Value} (h0 : kSl_5.ro w0 (FF w0 S0) x [v0])  :
    Calls Tryz.prog 89 #[v0] w0 (TriPost w0 S0 (fun r l => l = [ownA kSl_5 x [r]])) := by
 obtain ⟨A0, c0, rfl, ae, af, ag, aa⟩ := ro_form h0
 refine Y.enter (N := 8) Tryz.func89 rfl rfl (by simp) [(0, .slice A0 x.length c0)] (by simp) (l0 := []) trivial ?_
 refine Y.seq (Y.region (Y.ql rfl (q_assign rfl .c) (Y.nt (Y.seq (Y.seq (Y.region (Y.mv rfl .g1 ?_)))))))
 refine Y.ql rfl (q_eqnil rfl u_22 (.t .z) .c) (Y.nt ?_)
 refine Y.cond (.t .z) (fun b2 => ?_) (fun b2 => ?_)
 refine Y.seq (Y.region (Y.er .g2 (Y.ql rfl (q_assign rfl .c) (Y.nt (Y.ret (Y.thenR ?_))))))
 refine Y.add (c := ownA kSl_5 [] [.slice none 0 0]) (fun w S => own_nil w S none) ?_
 refine Y.ceq .z (nil_of aa (by assumption)) ?_
 refine Y.doneS (res1 rfl .z) (.c .z .n) ?_
 rfl
 refine Y.skip (Y.then_ (Y.seq (Y.region ?_)))
 refine Y.el rfl (e_buildNil rfl u_22 (inz inf_5)) ?_
 rintro _ _ ⟨g4, rfl, rfl⟩
 refine Y.mv rfl .g4 ?_
 refine Y.add (c := ownA kSl_5 ([] : (List UInt8)) [.slice (some ⟨g4, 0, none⟩) 0 0]) (fun w S => own_nil w S _) ?_
 refine Y.el rfl (e_appendF (flat_scalar _ _ _) rfl u_22 inf_5 rfl (.t .g1) (.t .z) (.c .z .n) (fun w1 S1 tr => tr.ctx h0) (by first | omega | (simp only [List.length_append, List.length_take, List.length_nil, List.length_cons]; omega)) (by first | omega | (simp only [List.length_append, List.length_take, List.length_nil, List.length_cons]; omega))) ?_
 rintro _ _ rfl
 refine Y.ceq .z (List.nil_append _) ?_
 refine Y.know (WS.oform .z) ?_
 rintro ⟨ah, ai, rfl, ab, ac, ad⟩
 refine Y.er .g5 (Y.as rfl .z (Y.nt (Y.ret ?_)))
 refine Y.doneS (res1 rfl .z) (.c .z .n) ?_
 rfl

theorem c_55 {w0 : World} {S0 : Bs} {x : (List (List UInt8))} {v0 : Value} (h0 : kSl_22.ro w0 (FF w0 S0) x [v0])  :
    Calls Tryz.prog 55 #[v0] w0 (TriPost w0 S0 (fun r l => l = [ownA kSl_22 x [r]])) := by
 obtain ⟨A0, c0, rfl, a1, a2, a3, ao⟩ := ro_form h0
 refine Y.enter (N := 19) Tryz.func55 rfl rfl (by simp) [(0, .slice A0 x.length c0)] (by simp) (l0 := []) trivial ?_
 refine Y.seq (Y.region (Y.ql rfl (q_assign rfl .c) (Y.nt (Y.seq (Y.region (Y.ql rfl (q_assign rfl .c) (Y.nil ?_)))))))
 refine Y.then_ (Y.seq (Y.seq (Y.region (Y.mv rfl .g2 (Y.ql rfl (q_len rfl u_25 (.t .z)) (Y.ql rfl (q_move rfl .c) (Y.nt ?_)))))))
 refine Y.block ?_
 refine Y.add (c := ownA kSl_22 [] [.slice none 0 0]) (fun w S => own_nil w S none) ?_
 refine Y.loopi (γ := Nat × (Option Addr) × Nat) (fun ⟨k, aa, ab⟩ => [(8, .int .i64 (k : Int)), (7, .int .i64 (x.length : Int)), (6, .slice A0 x.length c0), (3, .slice aa (List.take k x).length ab), (2, .slice none 0 0)]) (fun ⟨k, aa, ab⟩ => [ownA kSl_22 (List.take k x) [.slice aa (List.take k x).length ab]]) (fun ⟨k, aa, ab⟩ => k ≤ x.length) (fun ⟨k, aa, ab⟩ => x.length - k) (0, none, 0) (Nat.zero_le _) (.c .z (.c .g1 (.c .g2 (.c .g3 (.c .g4 .n))))) (fun _ h => h.sel (.c .z .n)) ?_
 rintro ⟨k, aa, ab⟩ hk
 refine Y.seq (Y.region (Y.ql rfl (q_lss rfl (.t .z) (.t .g1)) (Y.nt (Y.seq ?_))))
 refine Y.condP (.t .z) (fun b3 => ?_) (fun b3 => ?_)
 refine Y.skip (Y.then_ (Y.seq (Y.block (Y.seq (Y.region ?_)))))
 obtain ⟨a4, ae, af⟩ := ao (by omega)
 subst ae
 obtain ⟨x5, ak⟩ := get_ex (xs := x) (j := k) (by omega)
 obtain ⟨ap, ad, ag, ah⟩ := af.elem ak
 obtain ⟨a5, rfl⟩ := sl_one ad
 obtain ⟨a6, a7, rfl, aq, ar, au, av⟩ := ro_form ad
 refine Y.ql rfl (q_indexAddr (j := k) rfl u_25 sz_22 (.t .g3) (.t .g1) rfl (by omega)) ?_
 refine Y.ql rfl (q_load rfl ag_22 (.t .z) (WS.el0 ag ah rfl)) (Y.as rfl .z (Y.nt (Y.region (Y.mv rfl .g7 (Y.mv rfl .g1 ?_)))))
 refine Y.cl rfl rfl Tryz.func89 rfl rfl (args1 (.t .z)) .n (fun _ _ hs tr => c_89 (tr.ctx ad)) ?_
 rintro _ _ rfl
 refine Y.cat (.c .n) ?_
 refine Y.know (WS.oform .z) ?_
 rintro ⟨aw, ax, rfl, ay, az, a0⟩
 refine Y.el rfl (e_buildSliceL (cs := [.slice aw x5.length ax]) rfl u_25 (inz inf_22) (by decide) (pv1 (.t .z)) rfl rfl (by decide) rfl rfl) ?_
 rintro _ _ ⟨g10, rfl, rfl⟩
 refine Y.el rfl (e_append1 rfl u_25 inf_22 rfl (.t .g3) (.t .z) (.c .g2 (.c .z (.c .z .n))) (by first | omega | (simp only [List.length_take, List.length_cons, List.length_nil]; omega) | (simp <;> omega)) (by first | omega | (simp only [List.length_take, List.length_cons, List.length_nil]; omega) | (simp <;> omega))) ?_
 rintro _ _ rfl
 refine Y.ceq .z (take_get ak).symm ?_
 refine Y.know (WS.oform .z) ?_
 rintro ⟨ai, aj, rfl, al, am, an⟩
 refine Y.er .g12 (Y.as rfl .z (Y.nil (Y.inBN (Y.then_ (Y.region ?_)))))
 refine Y.ql rfl (q_add (c := ((k + 1 : Nat) : Int)) rfl (.t .g10) .c (wr (by omega) (by omega) (by omega))) ?_
 refine Y.er .g11 (Y.mv rfl .z (Y.nil ?_))
 refine Y.again ((k + 1), ai, aj) (by omega) (by first | omega | (dsimp only; omega)) (.c .z (.c .g12 (.c .g13 (.c .g2 (.c .g14 .n))))) (fun _ h => h.sel (.c .z .n))
 refine Y.exit (Y.thenE (Y.thenE (Y.inB (Y.then_ (Y.seq (Y.region (Y.mv rfl .g4 (Y.er .g6 ?_))))))))
 refine Y.as rfl .z (Y.nt (Y.ret ?_))
 have ac : List.take k x = x := (List.take_of_length_le (by omega))
 refine Y.eq .z (congrArg (fun z_ => (.slice aa (z_).length ab : Value)) ac) ?_
 refine Y.eq .g1 (congrArg (fun z_ => (.slice aa (z_).length ab : Value)) ac) ?_
 refine Y.eq .g6 (congrArg (fun z_ => (.slice aa (z_).length ab : Value)) ac) ?_
 refine Y.chEq .z (congrArg (fun z_ => (ownA kSl_22 (z_) [.slice aa (z_).length ab] : Asn)) ac) ?_
 refine Y.doneS (res1 rfl .g2) (.c .z .n) ?_
 rfl

theorem c_19 {w0 : World} {S0 : Bs} {x : (List (List UInt8))} {v0 : Value} (h0 : kSl_22.ro w0 (FF w0 S0) x [v0])  :
    Calls Tryz.prog 19 #[v0] w0 (TriPost w0 S0 (RA_48 (newR x))) := by
 obtain ⟨A0, c0, rfl, aq, ar, au, av⟩ := ro_form h0
 refine Y.enter (N := 27) Tryz.func19 rfl rfl (by simp) [(0, .slice A0 x.length c0)] (by simp) (l0 := []) trivial ?_
 refine Y.seq (Y.region ?_)
 refine Y.el rfl (e_alloc rfl z_48 rfl rfl) ?_
 rintro _ _ ⟨g2, rfl, rfl⟩
 refine Y.nt (Y.seq (Y.region (Y.ql rfl (q_build (cs := [.int .i64 2, .int .i64 0, .int .i64 0, .slice none 0 0, .slice none 0 0]) rfl bl_44 (pv1 .c) rfl) ?_)))
 refine Y.el rfl (e_buildSliceL (cs := [.int .i64 2, .int .i64 0, .int .i64 0, .slice none 0 0, .slice none 0 0]) rfl u_24 (inz inf_44) (by decide) (pv1 (.t .z)) rfl rfl (by decide) rfl rfl) ?_
 rintro _ _ ⟨g3, rfl, rfl⟩
 refine Y.mv rfl .g3 ?_
 refine Y.cl rfl rfl Tryz.func55 rfl rfl (args1 (.t .z)) .n (fun _ _ hs tr => c_55 (tr.ctx h0)) ?_
 rintro _ _ rfl
 refine Y.cat (.c .n) ?_
 refine Y.know (WS.oform .z) ?_
 rintro ⟨ae, af, rfl, al, am, an⟩
 refine Y.ql rfl (q_build (cs := [.slice (some ⟨g3, 0, none⟩) 1 1, .slice ae x.length af]) rfl bl_27 (pv2 (.t .g2) (.t .z)) rfl) ?_
 refine Y.el rfl (e_alloc rfl z_27 rfl rfl) ?_
 rintro _ _ ⟨g6, rfl, rfl⟩
 refine Y.es (goes_list rfl) rfl (esW rfl (.t .z) (.t .g1) .z sz_27 rfl rfl) ?_
 refine Y.nt (Y.seq (Y.block ?_))
 refine Y.add (c := ownA kSl_2 [] [.slice none 0 0]) (fun w S => own_nil w S none) ?_
 refine Y.add (c := ownA kSl_46 [] [.slice none 0 0]) (fun w S => own_nil w S none) ?_
 refine Y.turns (c := ownA kT_44 (⟨2, 0, 0, [], []⟩ : DInode) [.int .i64 2, .int .i64 0, .int .i64 0, .slice none 0 0, .slice none 0 0]) (.c .g1 (.c .z .n)) (fun w S h => kT_44_omk (⟨2, 0, 0, [], []⟩ : DInode) h) ?_
 refine Y.turns (c := ownA kSl_44 [(⟨2, 0, 0, [], []⟩ : DInode)] [.slice (some ⟨g3, 0, none⟩) 1 1]) (.c .g3 (.c .z .n)) (lit1_own rfl rfl (by decide)) ?_
 have ad : x = x ++ List.replicate 0 [] := pad_0 _
 refine Y.ceq .g2 ad ?_
 refine Y.chEq .z (congrArg (fun z_ => (ownA kSl_22 (x ++ List.replicate 0 []) [.slice ae z_ af] : Asn)) (congrArg List.length ad)) ?_
 refine Y.eq .g2 (congrArg (fun z_ => (.slice ae z_ af : Value)) (congrArg List.length ad)) ?_
 refine Y.chEq .g2 (congrArg (fun z_ => (rowA g6 27 2 1 [.slice (some ⟨g3, 0, none⟩) 1 1, .slice ae z_ af] : Asn)) (congrArg List.length ad)) ?_
 refine Y.loopi (γ := Nat × (Option Addr) × Nat) (fun ⟨k, aa, ab⟩ => [(3, .pointer (some ⟨g6, 0, none⟩)), (2, .pointer (some ⟨g2, 0, none⟩))]) (fun ⟨k, aa, ab⟩ => [rowA g6 27 2 1 [.slice (some ⟨g3, 0, none⟩) 1 1, .slice aa (x ++ List.replicate k []).length ab], ownA kSl_22 (x ++ List.replicate k []) [.slice aa (x ++ List.replicate k []).length ab], ownA kSl_44 ([(⟨2, 0, 0, [], []⟩ : DInode)]) [.slice (some ⟨g3, 0, none⟩) 1 1], rowA g2 48 3 1 [.int .i64 0, .slice none 0 0, .slice none 0 0]]) (fun ⟨k, aa, ab⟩ => k ≤ 20 - x.length) (fun ⟨k, aa, ab⟩ => 20 - x.length - k) (0, ae, af) (Nat.zero_le _) (.c .g1 (.c .g6 .n)) (fun _ h => h.sel (.c .z (.c .z (.c .z (.c .z .n))))) ?_
 rintro ⟨k, aa, ab⟩ hk
 have hpl := pad_len (data := x) (k := k)
 refine Y.seq (Y.seq (Y.region (Y.fa rfl .z fa_27_1 (Y.ld rfl ag_25 .z .z (Y.ql rfl (q_len rfl u_25 (.t .z)) (Y.ql rfl (q_lss rfl (.t .z) .c) (Y.nt ?_)))))))
 refine Y.condP (.t .z) (fun ao => ?_) (fun ao => ?_)
 refine Y.skip (Y.then_ (Y.block (Y.region (Y.fa rfl .g4 fa_27_1 (Y.ld rfl ag_25 .z .z ?_)))))
 refine Y.el rfl (e_buildSliceL (cs := [.slice none 0 0]) rfl u_25 (inz inf_22) (by decide) (pv1 .c) rfl rfl (by decide) rfl rfl) ?_
 rintro _ _ ⟨g13, rfl, rfl⟩
 refine Y.add (c := ownA kSl_5 [] [.slice none 0 0]) (fun w S => own_nil w S none) ?_
 refine Y.el rfl (e_append1 rfl u_25 inf_22 rfl (.t .g1) (.t .z) (.c .g3 (.c .g1 (.c .z .n))) (by first | omega | (simp only [List.length_take, List.length_cons, List.length_nil]; omega) | (simp <;> omega)) (by first | omega | (simp only [List.length_take, List.length_cons, List.length_nil]; omega) | (simp <;> omega))) ?_
 rintro _ _ rfl
 refine Y.ceq .z pad_s ?_
 refine Y.know (WS.oform .z) ?_
 rintro ⟨ag, ah, rfl, ai, aj, ak⟩
 refine Y.fa rfl .g8 fa_27_1 ?_
 refine Y.es (goes_list rfl) rfl (es1 (off := 1) rfl sz_25 (.t .z) (.t .g1) rfl rfl .g1 rfl .g1) ?_
 refine Y.nil (Y.inBN ?_)
 refine Y.again ((k + 1), ag, ah) (by omega) (by first | omega | (dsimp only; omega)) (.c .g9 (.c .g10 .n)) (fun _ h => h.sel (.c .z (.c .z (.c .z (.c .z .n)))))
 refine Y.exit (Y.thenE (Y.thenE (Y.inB (Y.then_ (Y.seq (Y.seq (Y.region (Y.ql rfl (qW rfl ag_27 (.t .g4) .z sz_27) ?_))))))))
 have ac : x ++ List.replicate k [] = padD x := (pad_all (by omega) (by omega))
 refine Y.eq .z (congrArg (fun z_ => (.agg #[.slice (some ⟨g3, 0, none⟩) 1 1, .slice aa (z_).length ab] : Value)) ac) ?_
 refine Y.eq .g1 (congrArg (fun z_ => (.bool (decide (((z_).length : Int) < 20)) : Value)) ac) ?_
 refine Y.eq .g2 (congrArg (fun z_ => (.int .i64 ((z_).length : Int) : Value)) ac) ?_
 refine Y.eq .g3 (congrArg (fun z_ => (.slice aa (z_).length ab : Value)) ac) ?_
 refine Y.chEq .z (congrArg (fun z_ => (rowA g6 27 2 1 [.slice (some ⟨g3, 0, none⟩) 1 1, .slice aa (z_).length ab] : Asn)) ac) ?_
 refine Y.chEq .g1 (congrArg (fun z_ => (ownA kSl_22 (z_) [.slice aa (z_).length ab] : Asn)) ac) ?_
 refine Y.cl rfl rfl Tryz.func54 rfl rfl (args1 (.t .g3)) .n (fun _ _ hs tr => c_54 (kT_27_mk (⟨[(⟨2, 0, 0, [], []⟩ : DInode)], padD x⟩ : DFs) (tr.own .g2) (tr.own .z))) ?_
 rintro _ _ ⟨rfl, rfl⟩
 refine Y.cat .n ?_
 refine Y.as rfl .z (Y.nt (Y.seq (Y.region (Y.mv rfl .z (Y.ql rfl (q_neq rfl (.t .z) .c) (Y.nt ?_))))))
 refine Y.condN (.t .z) (fun ap => ?_) (fun ap => ?_)
 refine Y.seq (Y.region (Y.mv rfl .g2 (Y.ql rfl (q_build (cs := [.int .i64 (fsFault (⟨[(⟨2, 0, 0, [], []⟩ : DInode)], padD x⟩ : DFs)), .slice none 0 0, .slice none 0 0]) rfl bl_48 (pv1 (.t .z)) rfl) ?_)))
 refine Y.es (goes_list rfl) rfl (esW rfl (.t .g12) (.t .z) .g3 sz_48 rfl rfl) ?_
 refine Y.nt (Y.ret (Y.thenR ?_))
 refine Y.add (c := ownA kSl_44 [] [.slice none 0 0]) (fun w S => own_nil w S none) ?_
 refine Y.add (c := ownA kSl_22 [] [.slice none 0 0]) (fun w S => own_nil w S none) ?_
 refine Y.doneS (resW rfl .g12 ag_48 .g2 sz_48) (.c .g1 (.c .z .n)) ?_
 first | (rw [newR_f (by assumption)]; exact ⟨_, _, rfl, rfl⟩) | (rw [newR_0 (by assumption)]; exact ⟨_, _, rfl, rfl⟩)
 refine Y.skip (Y.then_ (Y.seq (Y.region (Y.ql rfl (qW rfl ag_27 (.t .g9) .g1 sz_27) (Y.ql rfl (q_build (cs := [.int .i64 0, .slice (some ⟨g3, 0, none⟩) 1 1, .slice aa (padD x).length ab]) rfl bl_48 (pv1 (.t .z)) rfl) ?_)))))
 refine Y.es (goes_list rfl) rfl (esW rfl (.t .g12) (.t .z) .g3 sz_48 rfl rfl) ?_
 refine Y.nt (Y.ret ?_)
 refine Y.doneS (resW rfl .g12 ag_48 .z sz_48) (.c .g3 (.c .g1 .n)) ?_
 first | (rw [newR_f (by assumption)]; exact ⟨_, _, rfl, rfl⟩) | (rw [newR_0 (by assumption)]; exact ⟨_, _, rfl, rfl⟩)

end Go.Proofs.YtmejbfmhaoilmaaGreat

/- What is proved: contracts of functions, one a function. No condition. -/
import Derived.Test.YtmejbfmhaoilmaaGreatBase1
import Derived.Test.YtmejbfmhaoilmaaGreatW20
namespace Go.Proofs.YtmejbfmhaoilmaaGreat
open Go Go.RowKit
set_option linter.unusedVariables false
set_option linter.unusedSimpArgs false
set_option maxHeartbeats 1000000
set_option maxRecDepth 20000
theorem c_51 {w0 : World} {S0 : Bs} {xs : (List DInode)} {v0 : Value} (h0 : kSl_44.ro w0 (FF w0 S0) xs [v0]) (a : Int) (hI : inodesFault xs = 0) (hG : ∀ (j : Nat) x, xs[j]? = some x → goodX xs x) (hr : 0 ≤ a ∧ a < (xs.length : Int)) :
    Calls Tryz.prog 51 #[v0, .int .i64 a] w0 (TriPost w0 S0 (fun r l => l = [ownA kSl_2 (reachL xs a.toNat) [r]])) := by
 obtain ⟨A0, c0, rfl, ck, cm, cn, b5⟩ := ro_form h0
 obtain ⟨co, cp⟩ := hr
 have cq := inodes_10 hI
 refine Y.enter (N := 69) Tryz.func51 rfl rfl (by simp) [(0, .slice A0 xs.length c0), (1, .int .i64 a)] (by simp) (l0 := []) trivial ?_
 refine Y.seq (Y.region (Y.ql rfl (q_assign rfl .c) (Y.nt (Y.seq (Y.region (Y.mv rfl .g1 (Y.ql rfl (q_len rfl u_24 (.t .z)) ?_)))))))
 refine Y.el rfl (e_makeSlice (n := xs.length) (x0 := false) rfl u_129 inf_4 rfl (fun _ _ => ⟨rfl, trivial⟩) (.t .z) (.t .z) (by omega) (by omega)) ?_
 rintro _ _ rfl
 refine Y.know (WS.oform .z) ?_
 rintro ⟨b7, b8, rfl, b9, ca, cb⟩
 refine Y.as rfl .z (Y.nt (Y.seq (Y.region (Y.mv rfl .g6 ?_))))
 refine Y.el rfl (e_buildSliceL (cs := [.int .i64 a]) rfl u_36 (inz inf_2) (by decide) (pv1 (.t .z)) rfl rfl (by decide) rfl rfl) ?_
 rintro _ _ ⟨g4, rfl, rfl⟩
 refine Y.as rfl .z (Y.nt (Y.seq (Y.block ?_)))
 refine Y.turns (c := ownA kSl_2 ([a] : (List Int)) [.slice (some ⟨g4, 0, none⟩) 1 1]) (.c .z .n) (fun w S h => lit_own (xs := ([a] : (List Int))) h rfl (by simp) (by omega) (by omega)) ?_
 refine Y.loopi (γ := (Option Addr) × Nat × (Option Addr) × Nat × (List Bool) × (List Int)) (fun ⟨ae, ac, ag, ad, b, op⟩ => [(6, .slice ag op.length ad), (5, .slice ae b.length ac), (4, .slice none 0 0), (0, .slice A0 xs.length c0)]) (fun ⟨ae, ac, ag, ad, b, op⟩ => [ownA kSl_2 op [.slice ag op.length ad], ownA kSl_4 b [.slice ae b.length ac]]) (fun ⟨ae, ac, ag, ad, b, op⟩ => Dfs xs a.toNat b op ∧ op.length + 7 * offN b ≤ 71) (fun ⟨ae, ac, ag, ad, b, op⟩ => 7 * offN b + op.length) (b7, b8, (some ⟨g4, 0, none⟩), 1, List.replicate xs.length false, ([a] : List Int)) ⟨by have := dfs_init (xs := xs) (r := a.toNat) (by omega); rwa [show ((a.toNat : Nat) : Int) = a by omega] at this, by have := inodes_10 hI; simp only [offN, List.count_replicate_self, List.length_cons, List.length_nil]; omega⟩ (.c .z (.c .g3 (.c .g7 (.c .g8 .n)))) (fun _ h => h.sel (.c .z (.c .z .n))) ?_
 rintro ⟨ae, ac, ag, ad, b, op⟩ ⟨hD, hm⟩
 have hbl := hD.len
 refine Y.seq (Y.seq (Y.region (Y.mv rfl .z (Y.ql rfl (q_len rfl u_36 (.t .z)) (Y.ql rfl (q_gtr rfl (.t .z) .c) (Y.nt ?_))))))
 refine Y.condP (.t .z) (fun b6 => ?_) (fun b6 => ?_)
 refine Y.skip (Y.then_ (Y.block (Y.seq (Y.region (Y.mv rfl .g3 (Y.mv rfl .g4 (Y.ql rfl (q_len rfl u_36 (.t .z)) ?_)))))))
 refine Y.ql rfl (q_sub (c := (op.length : Int) - 1) rfl (.t .z) .c (wr (by omega) (by omega) (by omega))) ?_
 refine Y.know (WS.oad .z (by first | omega | (simp <;> omega) | (simp <;> omega))) ?_
 rintro ⟨a0, rfl⟩
 refine Y.ql rfl (q_indexAddr (j := Int.toNat ((op.length : Int) - 1)) rfl u_36 sz_2 (.t .g3) (.t .z) (by omega) (by first | omega | (simp <;> omega) | (simp <;> omega))) ?_
 obtain ⟨x8, a8⟩ := get_ex (xs := op) (j := Int.toNat ((op.length : Int) - 1)) (by first | omega | (simp <;> omega) | (simp <;> omega))
 obtain ⟨⟨ho1x8, ho2x8⟩, -⟩ := hD.opn _ (List.mem_of_getElem? a8)
 refine Y.ql rfl (q_load rfl ag_2 (.t .z) (WS.oel .z a8)) (Y.as rfl .z (Y.nt (Y.seq (Y.region (Y.mv rfl .g10 (Y.mv rfl .g11 (Y.ql rfl (q_len rfl u_36 (.t .z)) ?_)))))))
 refine Y.ql rfl (q_sub (c := (op.length : Int) - 1) rfl (.t .z) .c (wr (by omega) (by omega) (by omega))) ?_
 refine Y.know (WS.ocap .z) ?_
 rintro ⟨-, cr, -, -⟩
 have bg : (List.take (Int.toNat ((op.length : Int) - 1)) op).length = Int.toNat ((op.length : Int) - 1) := by rw [List.length_take]; omega
 refine Y.eq .z (congrArg (Value.int .i64) (show (op.length : Int) - 1 = (((List.take (Int.toNat ((op.length : Int) - 1)) op).length : Nat) : Int) by rw [bg]; try omega)) ?_
 refine Y.turns (c := ownA kSl_2 (List.take (Int.toNat ((op.length : Int) - 1)) op) [.slice (some a0) ((List.take (Int.toNat ((op.length : Int) - 1)) op).length) ad]) (.c .z .n) (own_take' (by omega)) ?_
 refine Y.ql rfl (q_sliceTake (b := (List.take (Int.toNat ((op.length : Int) - 1)) op).length) rfl u_36 sz_2 (.t .g3) (.t .z) (by omega)) ?_
 refine Y.er .g15 (Y.as rfl .z (Y.nt (Y.seq (Y.seq (Y.region (Y.mv rfl .g16 (Y.mv rfl .g7 ?_)))))))
 refine Y.know (WS.oad .g1 (by first | omega | (simp <;> omega) | (simp <;> omega))) ?_
 rintro ⟨af, rfl⟩
 refine Y.ql rfl (q_indexAddr (j := Int.toNat x8) rfl u_129 sz_4 (.t .g1) (.t .z) (by omega) (by first | omega | (simp <;> omega) | (simp <;> omega))) ?_
 obtain ⟨bt, ak⟩ := get_ex (xs := b) (j := Int.toNat x8) (by first | omega | (simp <;> omega) | (simp <;> omega))
 refine Y.ql rfl (q_load rfl ag_4 (.t .z) (WS.oel .g1 ak)) (Y.nt ?_)
 refine Y.cond (.t .z) (fun cc => ?_) (fun cc => ?_)
 refine Y.exit (Y.thenE (Y.inB ?_))
 refine Y.again ((some af), ac, (some a0), ad, b, List.take (Int.toNat ((op.length : Int) - 1)) op) ⟨by have hn := dfs_seen hD (by rw [show op.length - 1 = Int.toNat ((op.length : Int) - 1) by omega]; exact a8) ((ak).trans (congrArg some (by assumption))); rw [show op.length - 1 = Int.toNat ((op.length : Int) - 1) by omega] at hn; exact hn, by simp only [List.length_take]; omega⟩ (by simp only [List.length_take]; omega) (.c .g4 (.c (.s16 .g4) (.c (.s16 .g5) (.c (.s16 .g6) .n)))) (fun _ h => h.sel (.c .z (.c .z .n)))
 refine Y.skip (Y.then_ (Y.seq (Y.region (Y.mv rfl (.s16 .g4) (Y.mv rfl .g11 ?_)))))
 refine Y.ql rfl (q_indexAddr (j := Int.toNat x8) rfl u_129 sz_4 (.t .g1) (.t .z) (by omega) (by first | omega | (simp <;> omega) | (simp <;> omega))) ?_
 refine Y.add (c := ownA kbool true [.bool true]) (fun _ _ => ⟨rfl, trivial⟩) ?_
 refine Y.es (goes_list rfl) rfl (es_set (j := Int.toNat x8) rfl sz_4 (.t .z) .c rfl (.c .g2 (.c .z .n)) (by first | omega | (simp <;> omega) | (simp <;> omega))) ?_
 have al : b.length = (List.set b (Int.toNat x8) true).length := (List.length_set ..).symm
 refine Y.eq .g2 (congrArg (fun z_ => (.slice (some af) z_ ac : Value)) al) ?_
 refine Y.eq .g6 (congrArg (fun z_ => (.slice (some af) z_ ac : Value)) al) ?_
 refine Y.eq (.s16 .g7) (congrArg (fun z_ => (.slice (some af) z_ ac : Value)) al) ?_
 refine Y.chEq .z (congrArg (fun z_ => (ownA kSl_4 (List.set b (Int.toNat x8) true) [.slice (some af) z_ ac] : Asn)) al) ?_
 refine Y.nt (Y.seq (Y.region (Y.mv rfl (.s16 .g9) (Y.mv rfl .g15 ?_))))
 obtain ⟨bh, ap, aq⟩ := b5 (by omega)
 subst ap
 obtain ⟨ai, aj⟩ := get_ex (xs := xs) (j := Int.toNat x8) (by first | omega | (simp <;> omega) | (simp <;> omega))
 obtain ⟨bu, a1, a2, a3⟩ := aq.elem aj
 obtain ⟨bi, bj, rfl, ar, au⟩ := kT_44_ro a1
 obtain ⟨bk, bm, rfl, a9, ba, bb, bc⟩ := ro_form ar
 obtain ⟨av, aw, rfl, bd, be, bf, am⟩ := ro_form au
 have cd := kind_at (i := x8) aj (by omega)
 have ce := ents_at (a := x8) aj (by omega)
 have ah := inodes_all hI _ (List.mem_of_getElem? aj)
 refine Y.ql rfl (q_indexAddr (j := Int.toNat x8) rfl u_24 sz_44 (.t .g1) (.t .z) (by omega) (by first | omega | (simp <;> omega) | (simp <;> omega))) ?_
 refine Y.fa rfl .z fa_44_4 (Y.le rfl ag_42 .z a2 a3 (Y.ql rfl (q_len rfl u_42 (.t .z)) (Y.ql rfl (q_move rfl .c) (Y.nt (Y.block ?_)))))
 have an : List.take (Int.toNat ((op.length : Int) - 1)) op = List.take (Int.toNat ((op.length : Int) - 1)) op ++ inosTo ai.ents 0 := (inosTo_0 _ _)
 refine Y.eq .g15 (congrArg (fun z_ => (.slice (some a0) ((z_).length) ad : Value)) an) ?_
 refine Y.eq .g16 (congrArg (fun z_ => (.slice (some a0) ((z_).length) ad : Value)) an) ?_
 refine Y.eq (.s16 .g1) (congrArg (fun z_ => (.int .i64 (((z_).length : Nat) : Int) : Value)) an) ?_
 refine Y.chEq .g1 (congrArg (fun z_ => (ownA kSl_2 (z_) [.slice (some a0) ((z_).length) ad] : Asn)) an) ?_
 refine Y.loopi (γ := Nat × (Option Addr) × Nat) (fun ⟨k, aa, ab⟩ => [(6, .slice aa (List.take (Int.toNat ((op.length : Int) - 1)) op ++ inosTo ai.ents k).length ab), (45, .int .i64 (k : Int)), (44, .int .i64 (ai.ents.length : Int)), (43, .slice av ai.ents.length aw), (5, .slice (some af) (List.set b (Int.toNat x8) true).length ac), (4, .slice none 0 0), (0, .slice (some bh) xs.length c0)]) (fun ⟨k, aa, ab⟩ => [ownA kSl_2 (List.take (Int.toNat ((op.length : Int) - 1)) op ++ inosTo ai.ents k) [.slice aa (List.take (Int.toNat ((op.length : Int) - 1)) op ++ inosTo ai.ents k).length ab], ownA kSl_4 (List.set b (Int.toNat x8) true) [.slice (some af) (List.set b (Int.toNat x8) true).length ac]]) (fun ⟨k, aa, ab⟩ => k ≤ ai.ents.length) (fun ⟨k, aa, ab⟩ => ai.ents.length - k) (0, (some a0), ad) (Nat.zero_le _) (.c .g2 (.c .g3 (.c .g4 (.c .g5 (.c .g10 (.c (.s16 .g15) (.c (.s16 .g16) .n))))))) (fun _ h => h.sel (.c .z (.c .z .n))) ?_
 rintro ⟨k, aa, ab⟩ hk
 have hil := inosTo_len (es := ai.ents) (k := k)
 have h6 := ents_6 ah
 have htl : (List.take (Int.toNat ((op.length : Int) - 1)) op).length ≤ op.length := by rw [List.length_take]; omega
 refine Y.seq (Y.region (Y.ql rfl (q_lss rfl (.t .g1) (.t .g2)) (Y.nt (Y.seq ?_))))
 refine Y.condP (.t .z) (fun cf => ?_) (fun cf => ?_)
 refine Y.skip (Y.then_ (Y.seq (Y.block (Y.seq (Y.region ?_)))))
 obtain ⟨cg, ax, ay⟩ := am (by omega)
 subst ax
 obtain ⟨bn, ao⟩ := get_ex (xs := ai.ents) (j := k) (by first | omega | (simp <;> omega) | (simp <;> omega))
 obtain ⟨bv, a4, a5, a6⟩ := ay.elem ao
 obtain ⟨rfl, bo⟩ := kT_46_ro a4
 have bw := ent_in (hG _ _ aj _ _ ao)
 have bx := ents_ok ah _ _ ao
 refine Y.ql rfl (q_indexAddr (j := k) rfl u_42 sz_46 (.t .g4) (.t .g2) rfl (by first | omega | (simp <;> omega) | (simp <;> omega))) ?_
 refine Y.ql rfl (qE rfl ag_46 (.t .z) a5 a6 sz_46) ?_
 refine Y.el rfl (e_alloc rfl z_46 rfl rfl) ?_
 rintro _ _ ⟨g26, rfl, rfl⟩
 refine Y.es (goes_list rfl) rfl (esW rfl (.t .z) (.t .g1) .z sz_46 rfl rfl) ?_
 refine Y.nt (Y.region (Y.mv rfl .g4 (Y.fa rfl .g1 fa_46_1 (Y.ld rfl ag_2 .z .z ?_))))
 refine Y.el rfl (e_buildSliceL (cs := [.int .i64 bn.ino]) rfl u_36 (inz inf_2) (by decide) (pv1 (.t .z)) rfl rfl (by decide) rfl rfl) ?_
 rintro _ _ ⟨g27, rfl, rfl⟩
 refine Y.add (c := ownA (kint .i64) bn.ino [.int .i64 bn.ino]) (fun _ _ => ⟨rfl, trivial⟩) ?_
 refine Y.el rfl (e_append1 rfl u_36 inf_2 rfl (.t .g3) (.t .z) (.c .g3 (.c .g1 (.c .z .n))) (by first | omega | (simp only [List.length_append, List.length_take, List.length_cons, List.length_nil]; omega)) (by first | omega | (simp only [List.length_append, List.length_take, List.length_cons, List.length_nil]; omega))) ?_
 rintro _ _ rfl
 refine Y.ceq .z (inosTo_s ao) ?_
 refine Y.know (WS.oform .z) ?_
 rintro ⟨bp, bq, rfl, bz, b0, b1⟩
 refine Y.er .g9 (Y.as rfl .z (Y.nil (Y.inBN (Y.then_ (Y.region ?_)))))
 refine Y.ql rfl (q_add (c := ((k + 1 : Nat) : Int)) rfl (.t .g10) .c (wr (by omega) (by omega) (by omega))) ?_
 refine Y.er .g11 (Y.mv rfl .z (Y.nil ?_))
 refine Y.again ((k + 1), bp, bq) (by omega) (by first | omega | (dsimp only; omega)) (.c .g2 (.c .z (.c .g12 (.c .g13 (.c .g14 (.c .g15 (.c .g16 .n))))))) (fun _ h => h.sel (.c .z (.c .g1 .n)))
 refine Y.exit (Y.thenE (Y.thenE (Y.inB (Y.inBN ?_))))
 refine Y.again ((some af), ac, aa, ab, List.set b (Int.toNat x8) true, List.take (Int.toNat ((op.length : Int) - 1)) op ++ inosTo ai.ents k) ⟨by have hn := dfs_new (k := k) hI hG hD (by rw [show op.length - 1 = Int.toNat ((op.length : Int) - 1) by omega]; exact a8) aj (by omega); rw [show op.length - 1 = Int.toNat ((op.length : Int) - 1) by omega] at hn; exact hn, by have ho := offN_set (not_on (b := b) (j := Int.toNat x8) (by omega) (fun hon => absurd ((ak).symm.trans hon) (by rw [show bt = false by assumption]; decide))); have h6 := ents_6 ah; have hl := inosTo_len (es := ai.ents) (k := k); simp only [List.length_append, List.length_take]; omega⟩ (by have ho := offN_set (not_on (b := b) (j := Int.toNat x8) (by omega) (fun hon => absurd ((ak).symm.trans hon) (by rw [show bt = false by assumption]; decide))); have h6 := ents_6 ah; have hl := inosTo_len (es := ai.ents) (k := k); simp only [List.length_append, List.length_take]; omega) (.c .g1 (.c .g5 (.c .g6 (.c .g7 .n)))) (fun _ h => h.sel (.c .z (.c .z .n)))
 refine Y.exit (Y.thenE (Y.thenE (Y.inB (Y.then_ (Y.seq (Y.region (Y.ql rfl (q_assign rfl .c) (Y.nil ?_))))))))
 refine Y.then_ (Y.seq (Y.seq (Y.region (Y.mv rfl .g5 (Y.ql rfl (q_len rfl u_129 (.t .z)) (Y.ql rfl (q_move rfl .c) (Y.nt ?_)))))))
 refine Y.block ?_
 refine Y.add (c := ownA kSl_2 [] [.slice none 0 0]) (fun w S => own_nil w S none) ?_
 refine Y.loopi (γ := Nat × (Option Addr) × Nat) (fun ⟨k, aa, ab⟩ => [(57, .int .i64 (k : Int)), (56, .int .i64 (b.length : Int)), (55, .slice ae b.length ac), (10, .slice aa (placesTo (onP b) k).length ab), (4, .slice none 0 0)]) (fun ⟨k, aa, ab⟩ => [ownA kSl_2 (placesTo (onP b) k) [.slice aa (placesTo (onP b) k).length ab], ownA kSl_2 op [.slice ag op.length ad], ownA kSl_4 b [.slice ae b.length ac]]) (fun ⟨k, aa, ab⟩ => k ≤ b.length) (fun ⟨k, aa, ab⟩ => b.length - k) (0, none, 0) (Nat.zero_le _) (.c .z (.c .g1 (.c .g2 (.c .g3 (.c .g9 .n))))) (fun _ h => h.sel (.c .z (.c .z (.c .z .n)))) ?_
 rintro ⟨k, aa, ab⟩ hk
 have hpl := placesTo_len (p := (onP b)) (k := k)
 refine Y.seq (Y.region (Y.ql rfl (q_lss rfl (.t .z) (.t .g1)) (Y.nt (Y.seq ?_))))
 refine Y.condP (.t .z) (fun ch => ?_) (fun ch => ?_)
 refine Y.skip (Y.then_ (Y.seq (Y.block (Y.seq (Y.region (Y.mv rfl .g1 ?_))))))
 refine Y.know (WS.oad .g2 (by first | omega | (simp <;> omega) | (simp <;> omega))) ?_
 rintro ⟨ci, rfl⟩
 refine Y.ql rfl (q_indexAddr (j := k) rfl u_129 sz_4 (.t .g4) (.t .g2) rfl (by first | omega | (simp <;> omega) | (simp <;> omega))) ?_
 obtain ⟨ct, az⟩ := get_ex (xs := b) (j := k) (by first | omega | (simp <;> omega) | (simp <;> omega))
 refine Y.ql rfl (q_load rfl ag_4 (.t .z) (WS.oel .g2 az)) (Y.as rfl .g2 (Y.as rfl .g1 (Y.nt (Y.seq (Y.region (Y.mv rfl .z (Y.nil ?_)))))))
 refine Y.then_ ?_
 refine Y.cond (.t .z) (fun cj => ?_) (fun cj => ?_)
 refine Y.region (Y.mv rfl .g10 (Y.mv rfl .g3 ?_))
 refine Y.el rfl (e_buildSliceL (cs := [.int .i64 (k : Int)]) rfl u_36 (inz inf_2) (by decide) (pv1 (.t .z)) rfl rfl (by decide) rfl rfl) ?_
 rintro _ _ ⟨g35, rfl, rfl⟩
 refine Y.add (c := ownA (kint .i64) (k : Int) [.int .i64 (k : Int)]) (fun _ _ => ⟨rfl, trivial⟩) ?_
 refine Y.el rfl (e_append1 rfl u_36 inf_2 rfl (.t .g2) (.t .z) (.c .g2 (.c .g1 (.c .z .n))) (by first | omega | (simp only [List.length_append, List.length_take, List.length_cons, List.length_nil]; omega)) (by first | omega | (simp only [List.length_append, List.length_take, List.length_cons, List.length_nil]; omega))) ?_
 rintro _ _ rfl
 refine Y.ceq .z (placesTo_on (by rw [onP_of az]; assumption)) ?_
 refine Y.know (WS.oform .z) ?_
 rintro ⟨br, bs, rfl, b2, b3, b4⟩
 refine Y.er .g14 (Y.as rfl .z (Y.nil (Y.inBN (Y.then_ (Y.region ?_)))))
 refine Y.ql rfl (q_add (c := ((k + 1 : Nat) : Int)) rfl (.t .g12) .c (wr (by omega) (by omega) (by omega))) ?_
 refine Y.er .g13 (Y.mv rfl .z (Y.nil ?_))
 refine Y.again ((k + 1), br, bs) (by omega) (by first | omega | (dsimp only; omega)) (.c .z (.c .g14 (.c .g15 (.c .g2 (.c .g16 .n))))) (fun _ h => h.sel (.c .z (.c .z (.c .z .n))))
 refine Y.skip (Y.inBN (Y.then_ (Y.region ?_)))
 refine Y.ql rfl (q_add (c := ((k + 1 : Nat) : Int)) rfl (.t .g7) .c (wr (by omega) (by omega) (by omega))) ?_
 refine Y.er .g8 (Y.mv rfl .z (Y.nil ?_))
 have a7 : placesTo (onP b) k = placesTo (onP b) (k + 1) := (placesTo_off (by rw [onP_of az]; assumption))
 refine Y.eq .g11 (congrArg (fun z_ => (.slice aa (z_).length ab : Value)) a7) ?_
 refine Y.chEq .z (congrArg (fun z_ => (ownA kSl_2 (z_) [.slice aa (z_).length ab] : Asn)) a7) ?_
 refine Y.again ((k + 1), aa, ab) (by omega) (by first | omega | (dsimp only; omega)) (.c .g1 (.c .g10 (.c .g11 (.c .z (.c .g12 .n))))) (fun _ h => h.sel (.c .z (.c .z (.c .z .n))))
 refine Y.exit (Y.thenE (Y.thenE (Y.inB (Y.then_ (Y.seq (Y.region (Y.mv rfl .g4 (Y.er .g6 ?_))))))))
 refine Y.as rfl .z (Y.nt (Y.ret ?_))
 refine Y.ceq (x' := reachL xs a.toNat) .z (seen_reach (dfs_end hD (by omega)) hD.len (by omega)) ?_
 refine Y.doneS (res1 rfl .z) (.c .z .n) ?_
 rfl

theorem c_53 {w0 : World} {S0 : Bs} {f : DFs} {az : Addr} (h0 : PtrRo kT_27 w0 (FF w0 S0) az f) (ht : treeFault f = 0) :
    Calls Tryz.prog 53 #[.pointer (some az)] w0 (TriPost w0 S0 (fun r l => l = [ownA kSl_2 (reachL f.inodes 0) [r]])) := by
 obtain ⟨c2, a0, cg, a1⟩ := id h0
 obtain ⟨ch, ci, rfl, bm, bn⟩ := kT_27_ro cg
 obtain ⟨cj, ck, rfl, bx, bz, b1, a2⟩ := ro_form bm
 obtain ⟨cm, cn, rfl, b2, b3, b4, b5⟩ := ro_form bn
 have hI := treeI ht
 have hG := treeG ht
 have h0 := treeL ht
 refine Y.enter (N := 84) Tryz.func53 rfl rfl (by simp) [(0, .pointer (some az))] (by simp) (l0 := []) trivial ?_
 refine Y.seq (Y.region (Y.ql rfl (q_assign rfl .c) (Y.nt (Y.seq (Y.region (Y.mv rfl .g1 (Y.nc rfl .z ?_)))))))
 refine Y.fa rfl .z fa_27_0 (Y.le rfl ag_24 .z a0 a1 (Y.ql rfl (q_len rfl u_24 (.t .z)) ?_))
 refine Y.el rfl (e_makeSlice (n := f.inodes.length) (x0 := false) rfl u_129 inf_4 rfl (fun _ _ => ⟨rfl, trivial⟩) (.t .z) (.t .z) (by omega) (by omega)) ?_
 rintro _ _ rfl
 refine Y.know (WS.oform .z) ?_
 rintro ⟨c3, a3, rfl, co, cp, cq⟩
 refine Y.as rfl .z (Y.nt (Y.seq (Y.region (Y.mv rfl .z ?_))))
 refine Y.know (WS.oad .z (by first | omega | (simp <;> omega) | (simp <;> omega))) ?_
 rintro ⟨a4, rfl⟩
 refine Y.ql rfl (q_indexAddr (j := 0) rfl u_129 sz_4 (.t .z) .c rfl (by first | omega | (simp <;> omega) | (simp <;> omega))) ?_
 refine Y.add (c := ownA kbool true [.bool true]) (fun _ _ => ⟨rfl, trivial⟩) ?_
 refine Y.es (goes_list rfl) rfl (es_set (j := 0) rfl sz_4 (.t .z) .c rfl (.c .g1 (.c .z .n)) (by first | omega | (simp <;> omega) | (simp <;> omega))) ?_
 have bc : (List.replicate f.inodes.length false).length = (List.set (List.replicate f.inodes.length false) 0 true).length := (List.length_set ..).symm
 refine Y.eq .g1 (congrArg (fun z_ => (.slice (some a4) z_ a3 : Value)) bc) ?_
 refine Y.eq .g2 (congrArg (fun z_ => (.slice (some a4) z_ a3 : Value)) bc) ?_
 refine Y.eq .g3 (congrArg (fun z_ => (.slice (some a4) z_ a3 : Value)) bc) ?_
 refine Y.chEq .z (congrArg (fun z_ => (ownA kSl_4 (List.set (List.replicate f.inodes.length false) 0 true) [.slice (some a4) z_ a3] : Asn)) bc) ?_
 refine Y.nt (Y.seq (Y.seq (Y.region (Y.ql rfl (q_assign rfl .c) (Y.nt (Y.block ?_))))))
 refine Y.loopi (γ := Nat × (Option Addr) × Nat × (List Bool)) (fun ⟨k, ab, ac, b0⟩ => [(4, .int .i64 (k : Int)), (3, .slice ab b0.length ac), (2, .slice none 0 0), (0, .pointer (some az))]) (fun ⟨k, ab, ac, b0⟩ => [ownA kSl_4 b0 [.slice ab b0.length ac]]) (fun ⟨k, ab, ac, b0⟩ => k ≤ f.inodes.length ∧ Rnd f.inodes k b0) (fun ⟨k, ab, ac, b0⟩ => f.inodes.length - k) (0, (some a4), a3, List.set (List.replicate f.inodes.length false) 0 true) ⟨Nat.zero_le _, rnd_init (by omega)⟩ (.c .z (.c .g2 (.c .g10 (.c .g11 .n)))) (fun _ h => h.sel (.c .z .n)) ?_
 rintro ⟨k, ab, ac, b0⟩ ⟨hk, hR⟩
 have hbl := hR.len
 refine Y.seq (Y.seq (Y.region (Y.mv rfl .z (Y.mv rfl .g4 (Y.nc rfl .z (Y.fa rfl .z fa_27_0 (Y.le rfl ag_24 .z a0 a1 (Y.ql rfl (q_len rfl u_24 (.t .z)) ?_))))))))
 refine Y.ql rfl (q_lss rfl (.t .g5) (.t .z)) (Y.nt ?_)
 refine Y.condP (.t .z) (fun b8 => ?_) (fun b8 => ?_)
 refine Y.skip (Y.then_ (Y.seq (Y.block (Y.seq (Y.region (Y.ql rfl (q_assign rfl .c) (Y.nt ?_)))))))
 refine Y.block ?_
 refine Y.loopi (γ := Nat × (Option Addr) × Nat × (List Bool)) (fun ⟨i, af, ag, b⟩ => [(5, .int .i64 (i : Int)), (4, .int .i64 (k : Int)), (3, .slice af b.length ag), (2, .slice none 0 0), (0, .pointer (some az))]) (fun ⟨i, af, ag, b⟩ => [ownA kSl_4 b [.slice af b.length ag]]) (fun ⟨i, af, ag, b⟩ => i ≤ f.inodes.length ∧ Mid f.inodes b0 i b) (fun ⟨i, af, ag, b⟩ => f.inodes.length - i) (0, ab, ac, b0) ⟨Nat.zero_le _, mid_init hR⟩ (.c .z (.c .g8 (.c .g9 (.c .g10 (.c .g11 .n))))) (fun _ h => h.sel (.c .z .n)) ?_
 rintro ⟨i, af, ag, b⟩ ⟨hi, hM⟩
 have cr := hM.len
 refine Y.seq (Y.seq (Y.region (Y.mv rfl .z (Y.mv rfl .g5 (Y.nc rfl .z (Y.fa rfl .z fa_27_0 (Y.le rfl ag_24 .z a0 a1 (Y.ql rfl (q_len rfl u_24 (.t .z)) ?_))))))))
 refine Y.ql rfl (q_lss rfl (.t .g5) (.t .z)) (Y.nt ?_)
 refine Y.condP (.t .z) (fun b9 => ?_) (fun b9 => ?_)
 refine Y.skip (Y.then_ (Y.seq (Y.block (Y.seq (Y.region (Y.ql rfl (q_assign rfl .c) (Y.nt ?_)))))))
 refine Y.block ?_
 obtain ⟨ct, aq, ar⟩ := a2 (by omega)
 subst aq
 obtain ⟨bd, ah⟩ := get_ex (xs := f.inodes) (j := i) (by first | omega | (simp <;> omega) | (simp <;> omega))
 obtain ⟨b6, a5, ao, ap⟩ := ar.elem ah
 obtain ⟨bo, bp, rfl, au, av⟩ := kT_44_ro a5
 obtain ⟨bq, br, rfl, be, bf, bg, bh⟩ := ro_form au
 obtain ⟨bs, bt, rfl, bi, bj, bk, ak⟩ := ro_form av
 have cu := kind_at (i := ((i : Nat) : Int)) ah (by omega)
 have cv := ents_at (a := ((i : Nat) : Int)) ah (by omega)
 have a6 := inodes_all hI _ (List.mem_of_getElem? ah)
 refine Y.loopi (γ := Nat × (Option Addr) × Nat × (List Bool)) (fun ⟨q, aj, aa, c⟩ => [(6, .int .i64 (q : Int)), (5, .int .i64 (i : Int)), (4, .int .i64 (k : Int)), (3, .slice aj c.length aa), (2, .slice none 0 0), (0, .pointer (some az))]) (fun ⟨q, aj, aa, c⟩ => [ownA kSl_4 c [.slice aj c.length aa]]) (fun ⟨q, aj, aa, c⟩ => q ≤ bd.ents.length ∧ Inn f.inodes b0 i bd q c) (fun ⟨q, aj, aa, c⟩ => bd.ents.length - q) (0, af, ag, b) ⟨Nat.zero_le _, inn_init hM⟩ (.c .z (.c .g8 (.c .g9 (.c .g10 (.c .g11 (.c .g12 .n)))))) (fun _ h => h.sel (.c .z .n)) ?_
 rintro ⟨q, aj, aa, c⟩ ⟨hq, hN⟩
 have cw := hN.mid.len
 refine Y.seq (Y.seq (Y.region (Y.mv rfl .g3 (Y.mv rfl .g2 ?_))))
 refine Y.know (WS.oad .z (by first | omega | (simp <;> omega) | (simp <;> omega))) ?_
 rintro ⟨ai, rfl⟩
 refine Y.ql rfl (q_indexAddr (j := i) rfl u_129 sz_4 (.t .g1) (.t .z) rfl (by first | omega | (simp <;> omega) | (simp <;> omega))) ?_
 obtain ⟨b7, al⟩ := get_ex (xs := c) (j := i) (by first | omega | (simp <;> omega) | (simp <;> omega))
 refine Y.ql rfl (q_load rfl ag_4 (.t .z) (WS.oel .z al)) (Y.mv rfl .z ?_)
 refine Y.caseB .z (fun g17 => ?_) (fun g17 => ?_)
 refine Y.qg rfl rfl .z rfl rfl rfl (q_move rfl (.t .g5)) ?_
 refine Y.qg rfl rfl .g1 rfl rfl rfl (q_move rfl (.t .g11)) ?_
 refine Y.qg rfl rfl .g2 rfl rfl rfl (q_nilCheck rfl (.t .z)) ?_
 refine Y.qg rfl rfl .g3 rfl rfl rfl (q_fieldAddr rfl (.t .z) (fun _ => fa_27_0 _ _)) ?_
 refine Y.qg rfl rfl .g4 rfl rfl rfl (q_load rfl ag_24 (.t .z) (WS.el a0 a1 rfl)) ?_
 refine Y.qg rfl rfl .g5 rfl rfl rfl (q_move rfl (.t .g11)) ?_
 refine Y.qg rfl rfl .g6 rfl rfl rfl (q_indexAddr (j := i) rfl u_24 sz_44 (.t .g1) (.t .z) rfl (by first | omega | (simp <;> omega) | (simp <;> omega))) ?_
 refine Y.qg rfl rfl .g7 rfl rfl rfl (q_fieldAddr rfl (.t .z) (fun _ => fa_44_4 _ _)) ?_
 refine Y.qg rfl rfl .g8 rfl rfl rfl (q_load rfl ag_42 (.t .z) (WS.el ao ap rfl)) ?_
 refine Y.qg rfl rfl .g9 rfl rfl rfl (q_len rfl u_42 (.t .z)) ?_
 refine Y.qg rfl rfl .g10 rfl rfl rfl (q_lss rfl (.t .g9) (.t .z)) ?_
 refine Y.ql rfl (q_pickT rfl (.t .g11) (.t .z)) (Y.nt ?_)
 refine Y.condP (.t .z) (fun cx => ?_) (fun cx => ?_)
 refine Y.skip (Y.then_ (Y.seq (Y.block (Y.region (Y.mv rfl (.s16 .g4) (Y.mv rfl (.s16 .g7) (Y.nc rfl .z (Y.fa rfl .z fa_27_0 ?_))))))))
 refine Y.le rfl ag_24 .z a0 a1 (Y.mv rfl (.s16 .g7) ?_)
 refine Y.ql rfl (q_indexAddr (j := i) rfl u_24 sz_44 (.t .g1) (.t .z) rfl (by first | omega | (simp <;> omega) | (simp <;> omega))) ?_
 refine Y.fa rfl .z fa_44_4 (Y.le rfl ag_42 .z ao ap (Y.mv rfl (.s16 .g10) ?_))
 obtain ⟨cy, aw, ax⟩ := ak (by omega)
 subst aw
 obtain ⟨a7, am⟩ := get_ex (xs := bd.ents) (j := q) (by first | omega | (simp <;> omega) | (simp <;> omega))
 obtain ⟨ca, a8, a9, ba⟩ := ax.elem am
 obtain ⟨rfl, bu⟩ := kT_46_ro a8
 have cb := ent_in (hG _ _ ah _ _ am)
 have cc := ents_ok a6 _ _ am
 refine Y.ql rfl (q_indexAddr (j := q) rfl u_42 sz_46 (.t .g1) (.t .z) rfl (by first | omega | (simp <;> omega) | (simp <;> omega))) ?_
 refine Y.fa rfl .z fa_46_1 (Y.le rfl ag_2 .z a9 ba ?_)
 refine Y.ql rfl (q_indexAddr (j := Int.toNat a7.ino) rfl u_129 sz_4 (.t .g12) (.t .z) (by omega) (by first | omega | (simp <;> omega) | (simp <;> omega))) ?_
 refine Y.add (c := ownA kbool true [.bool true]) (fun _ _ => ⟨rfl, trivial⟩) ?_
 refine Y.es (goes_list rfl) rfl (es_set (j := Int.toNat a7.ino) rfl sz_4 (.t .z) .c rfl (.c .g1 (.c .z .n)) (by first | omega | (simp <;> omega) | (simp <;> omega))) ?_
 have an : c.length = (List.set c (Int.toNat a7.ino) true).length := (List.length_set ..).symm
 refine Y.eq .g13 (congrArg (fun z_ => (.slice (some ai) z_ aa : Value)) an) ?_
 refine Y.eq (.s16 .g14) (congrArg (fun z_ => (.slice (some ai) z_ aa : Value)) an) ?_
 refine Y.eq (.s16 (.s16 .g2)) (congrArg (fun z_ => (.slice (some ai) z_ aa : Value)) an) ?_
 refine Y.chEq .z (congrArg (fun z_ => (ownA kSl_4 (List.set c (Int.toNat a7.ino) true) [.slice (some ai) z_ aa] : Asn)) an) ?_
 refine Y.nil (Y.inBN (Y.then_ (Y.region (Y.mv rfl (.s16 .g16) ?_))))
 refine Y.ql rfl (q_add (c := ((q + 1 : Nat) : Int)) rfl (.t .z) .c (wr (by omega) (by omega) (by omega))) ?_
 refine Y.er (.s16 (.s16 .g2)) (Y.as rfl .z (Y.nil ?_))
 refine Y.again ((q + 1), (some ai), aa, List.set c (Int.toNat a7.ino) true) ⟨by omega, inn_next hN ah am ((al).trans (congrArg some (by assumption))) (by omega)⟩ (by first | omega | (dsimp only; omega)) (.c .z (.c (.s16 (.s16 .g3)) (.c (.s16 (.s16 .g4)) (.c .g3 (.c (.s16 (.s16 .g5)) (.c (.s16 (.s16 .g6)) .n)))))) (fun _ h => h.sel (.c .z .n))
 refine Y.exit (Y.thenE (Y.thenE (Y.inB (Y.inBN (Y.then_ (Y.region (Y.mv rfl (.s16 .g2) ?_)))))))
 refine Y.ql rfl (q_add (c := ((i + 1 : Nat) : Int)) rfl (.t .z) .c (wr (by omega) (by omega) (by omega))) ?_
 refine Y.er (.s16 .g4) (Y.as rfl .z (Y.nil ?_))
 refine Y.again ((i + 1), (some ai), aa, c) ⟨by omega, mid_next hN ah (fun hon => by first | omega | (exact absurd ((al).symm.trans hon) (by rw [show b7 = false by assumption]; decide)))⟩ (by first | omega | (dsimp only; omega)) (.c .z (.c (.s16 .g5) (.c (.s16 .g6) (.c (.s16 .g7) (.c (.s16 .g8) .n))))) (fun _ h => h.sel (.c .z .n))
 refine Y.skipl rfl rfl .z rfl rfl (by decide) rfl ?_
 refine Y.skipl rfl rfl .g1 rfl rfl (by decide) rfl ?_
 refine Y.skipl rfl rfl .g2 rfl rfl (by decide) rfl ?_
 refine Y.skipl rfl rfl .g3 rfl rfl (by decide) rfl ?_
 refine Y.skipl rfl rfl .g4 rfl rfl (by decide) rfl ?_
 refine Y.skipl rfl rfl .g5 rfl rfl (by decide) rfl ?_
 refine Y.skipl rfl rfl .g6 rfl rfl (by decide) rfl ?_
 refine Y.skipl rfl rfl .g7 rfl rfl (by decide) rfl ?_
 refine Y.skipl rfl rfl .g8 rfl rfl (by decide) rfl ?_
 refine Y.skipl rfl rfl .g9 rfl rfl (by decide) rfl ?_
 refine Y.skipl rfl rfl .g10 rfl rfl (by decide) rfl ?_
 refine Y.ql rfl (q_pickF rfl (.t .g11) .c) (Y.nt ?_)
 refine Y.condF (.t .z) ?_
 refine Y.exit (Y.thenE (Y.thenE (Y.inB (Y.inBN (Y.then_ (Y.region (Y.mv rfl (.s16 .g2) ?_)))))))
 refine Y.ql rfl (q_add (c := ((i + 1 : Nat) : Int)) rfl (.t .z) .c (wr (by omega) (by omega) (by omega))) ?_
 refine Y.er (.s16 .g4) (Y.as rfl .z (Y.nil ?_))
 refine Y.again ((i + 1), (some ai), aa, c) ⟨by omega, mid_next hN ah (fun hon => by first | omega | (exact absurd ((al).symm.trans hon) (by rw [show b7 = false by assumption]; decide)))⟩ (by first | omega | (dsimp only; omega)) (.c .z (.c (.s16 .g5) (.c (.s16 .g6) (.c (.s16 .g7) (.c (.s16 .g8) .n))))) (fun _ h => h.sel (.c .z .n))
 refine Y.exit (Y.thenE (Y.thenE (Y.inB (Y.inBN (Y.then_ (Y.region (Y.mv rfl .g8 ?_)))))))
 refine Y.ql rfl (q_add (c := ((k + 1 : Nat) : Int)) rfl (.t .z) .c (wr (by omega) (by omega) (by omega))) ?_
 refine Y.er .g10 (Y.as rfl .z (Y.nil ?_))
 refine Y.again ((k + 1), af, ag, b) ⟨by omega, rnd_next hR hM (by omega)⟩ (by first | omega | (dsimp only; omega)) (.c .z (.c .g11 (.c .g12 (.c .g13 .n)))) (fun _ h => h.sel (.c .z .n))
 refine Y.exit (Y.thenE (Y.thenE (Y.inB (Y.then_ (Y.seq (Y.region ?_))))))
 refine Y.el rfl (e_buildNil rfl u_36 (inz inf_2)) ?_
 rintro _ _ ⟨g24, rfl, rfl⟩
 refine Y.as rfl .z (Y.nt (Y.seq (Y.seq (Y.region (Y.ql rfl (q_assign rfl .c) (Y.nt ?_))))))
 refine Y.block ?_
 refine Y.add (c := ownA kSl_2 ([] : (List Int)) [.slice (some ⟨g24, 0, none⟩) 0 0]) (fun w S => own_nil w S _) ?_
 refine Y.loopi (γ := Nat × (Option Addr) × Nat) (fun ⟨z, ad, ae⟩ => [(8, .int .i64 (z : Int)), (7, .slice ad (placesTo (onP b0) z).length ae), (3, .slice ab b0.length ac), (2, .slice none 0 0)]) (fun ⟨z, ad, ae⟩ => [ownA kSl_2 (placesTo (onP b0) z) [.slice ad (placesTo (onP b0) z).length ae], rowA g24 2 1 0 [], ownA kSl_4 b0 [.slice ab b0.length ac]]) (fun ⟨z, ad, ae⟩ => z ≤ b0.length) (fun ⟨z, ad, ae⟩ => b0.length - z) (0, (some ⟨g24, 0, none⟩), 0) (Nat.zero_le _) (.c .z (.c .g1 (.c .g11 (.c .g12 .n)))) (fun _ h => h.sel (.c .z (.c .z (.c .z .n)))) ?_
 rintro ⟨z, ad, ae⟩ hz
 have hpl := placesTo_len (p := (onP b0)) (k := z)
 refine Y.seq (Y.seq (Y.region (Y.mv rfl .z (Y.mv rfl .g3 (Y.ql rfl (q_len rfl u_129 (.t .z)) (Y.ql rfl (q_lss rfl (.t .g2) (.t .z)) (Y.nt ?_)))))))
 refine Y.condP (.t .z) (fun cz => ?_) (fun cz => ?_)
 refine Y.skip (Y.then_ (Y.seq (Y.block (Y.seq (Y.region (Y.mv rfl .g6 (Y.mv rfl .g5 ?_)))))))
 refine Y.know (WS.oad .g2 (by first | omega | (simp <;> omega) | (simp <;> omega))) ?_
 rintro ⟨c0, rfl⟩
 refine Y.ql rfl (q_indexAddr (j := z) rfl u_129 sz_4 (.t .g1) (.t .z) rfl (by first | omega | (simp <;> omega) | (simp <;> omega))) ?_
 obtain ⟨c4, ay⟩ := get_ex (xs := b0) (j := z) (by first | omega | (simp <;> omega) | (simp <;> omega))
 refine Y.ql rfl (q_load rfl ag_4 (.t .z) (WS.oel .g2 ay)) (Y.nt ?_)
 refine Y.cond (.t .z) (fun c1 => ?_) (fun c1 => ?_)
 refine Y.region (Y.mv rfl .g9 (Y.mv rfl .g9 ?_))
 refine Y.el rfl (e_buildSliceL (cs := [.int .i64 (z : Int)]) rfl u_36 (inz inf_2) (by decide) (pv1 (.t .z)) rfl rfl (by decide) rfl rfl) ?_
 rintro _ _ ⟨g30, rfl, rfl⟩
 refine Y.add (c := ownA (kint .i64) (z : Int) [.int .i64 (z : Int)]) (fun _ _ => ⟨rfl, trivial⟩) ?_
 refine Y.el rfl (e_append1 rfl u_36 inf_2 rfl (.t .g2) (.t .z) (.c .g2 (.c .g1 (.c .z .n))) (by first | omega | (simp only [List.length_append, List.length_take, List.length_nil, List.length_cons]; omega)) (by first | omega | (simp only [List.length_append, List.length_take, List.length_nil, List.length_cons]; omega))) ?_
 rintro _ _ rfl
 refine Y.ceq .z (placesTo_on (by rw [onP_of ay]; assumption)) ?_
 refine Y.know (WS.oform .z) ?_
 rintro ⟨bv, bw, rfl, cd, ce, cf⟩
 refine Y.er .g13 (Y.as rfl .z (Y.nil (Y.inBN (Y.then_ (Y.region (Y.mv rfl .g13 ?_))))))
 refine Y.ql rfl (q_add (c := ((z + 1 : Nat) : Int)) rfl (.t .z) .c (wr (by omega) (by omega) (by omega))) ?_
 refine Y.er .g15 (Y.as rfl .z (Y.nil ?_))
 refine Y.again ((z + 1), bv, bw) (by omega) (by first | omega | (dsimp only; omega)) (.c .z (.c .g3 (.c .g16 (.c (.s16 .g1) .n)))) (fun _ h => h.sel (.c .z (.c .z (.c .z .n))))
 refine Y.skip (Y.inBN (Y.then_ (Y.region (Y.mv rfl .g8 ?_))))
 refine Y.ql rfl (q_add (c := ((z + 1 : Nat) : Int)) rfl (.t .z) .c (wr (by omega) (by omega) (by omega))) ?_
 refine Y.er .g10 (Y.as rfl .z (Y.nil ?_))
 have bb : placesTo (onP b0) z = placesTo (onP b0) (z + 1) := (placesTo_off (by rw [onP_of ay]; assumption))
 refine Y.eq .g11 (congrArg (fun z_ => (.slice ad (z_).length ae : Value)) bb) ?_
 refine Y.chEq .z (congrArg (fun z_ => (ownA kSl_2 (z_) [.slice ad (z_).length ae] : Asn)) bb) ?_
 refine Y.again ((z + 1), ad, ae) (by omega) (by first | omega | (dsimp only; omega)) (.c .g1 (.c .z (.c .g12 (.c .g13 .n)))) (fun _ h => h.sel (.c .z (.c .z (.c .z .n))))
 refine Y.exit (Y.thenE (Y.thenE (Y.inB (Y.then_ (Y.seq (Y.region (Y.mv rfl .g5 (Y.er .g8 ?_))))))))
 refine Y.as rfl .z (Y.nt (Y.ret ?_))
 refine Y.ceq (x' := reachL f.inodes 0) .z (seen_reach (rnd_end hR (by omega)) hR.len (by omega)) ?_
 refine Y.doneS (res1 rfl .z) (.c .z .n) ?_
 rfl

theorem c_15 {w0 : World} {S0 : Bs} {f : DFs} {ag : List Value} (h0 : kT_27.ro w0 (FF w0 S0) f ag)  :
    Calls Tryz.prog 15 #[.agg ag.toArray] w0 (TriPost w0 S0 (RA_38 (reachR f))) := by
 obtain ⟨ap, aq, rfl, aa, ab⟩ := kT_27_ro h0
 obtain ⟨ac, ad, rfl, ah, ai, aj, ak⟩ := ro_form aa
 obtain ⟨ae, af, rfl, al, am, an, ao⟩ := ro_form ab
 refine Y.enter (N := 14) Tryz.func15 rfl rfl (by simp) [(0, .agg #[.slice ac f.inodes.length ad, .slice ae f.data.length af])] (by simp) (l0 := []) trivial ?_
 refine Y.seq (Y.region ?_)
 refine Y.el rfl (e_box (cs := [.slice ac f.inodes.length ad, .slice ae f.data.length af]) (n := 2) rfl (.t .z) rfl rfl) ?_
 rintro _ _ ⟨g3, rfl, rfl⟩
 refine Y.el rfl (e_alloc rfl z_38 rfl rfl) ?_
 rintro _ _ ⟨g4, rfl, rfl⟩
 refine Y.nt (Y.seq (Y.seq (Y.region (Y.ql rfl (qW rfl ag_27 (.t .g1) .g1 sz_27) ?_))))
 refine Y.cl rfl rfl Tryz.func50 rfl rfl (args1 (.t .z)) .n (fun _ _ hs tr => c_50 (kT_27_mk f (tr.ctx aa) (tr.ctx ab))) ?_
 rintro _ _ ⟨rfl, rfl⟩
 refine Y.cat .n ?_
 refine Y.as rfl .z (Y.nt (Y.seq (Y.region (Y.mv rfl .z (Y.ql rfl (q_neq rfl (.t .z) .c) (Y.nt ?_))))))
 refine Y.condN (.t .z) (fun b5 => ?_) (fun b5 => ?_)
 refine Y.seq (Y.region (Y.mv rfl .g2 (Y.ql rfl (q_build (cs := [.int .i64 (treeFault f), .slice none 0 0]) rfl bl_38 (pv1 (.t .z)) rfl) ?_)))
 refine Y.es (goes_list rfl) rfl (esW rfl (.t .g7) (.t .z) .z sz_38 rfl rfl) ?_
 refine Y.nt (Y.ret (Y.thenR ?_))
 refine Y.add (c := ownA kSl_2 [] [.slice none 0 0]) (fun w S => own_nil w S none) ?_
 refine Y.doneS (resW rfl .g7 ag_38 .g1 sz_38) (.c .z .n) ?_
 first | (rw [reachR_f (by assumption)]; exact ⟨_, rfl, rfl⟩) | (rw [reachR_0 (by assumption)]; exact ⟨_, rfl, rfl⟩)
 have ar := treeI b5
 refine Y.skip (Y.then_ (Y.seq (Y.region (Y.fa rfl .g6 fa_27_0 (Y.ld rfl ag_24 .z .g1 ?_)))))
 refine Y.cl rfl rfl Tryz.func51 rfl rfl (args2 (.t .z) .c) .n (fun _ _ hs tr => c_51 (tr.ctx aa) _ (treeI (by assumption)) (treeG (by assumption)) (by constructor <;> first | omega | (have := treeL (by assumption); omega))) ?_
 rintro _ _ rfl
 refine Y.cat (.c .n) ?_
 refine Y.know (WS.oform .z) ?_
 rintro ⟨au, av, rfl, aw, ax, ay⟩
 refine Y.ql rfl (q_build (cs := [.int .i64 0, .slice au (reachL f.inodes (Int.toNat 0)).length av]) rfl bl_38 (pv1 (.t .z)) rfl) ?_
 refine Y.es (goes_list rfl) rfl (esW rfl (.t .g9) (.t .z) .g1 sz_38 rfl rfl) ?_
 refine Y.nt (Y.ret ?_)
 refine Y.doneS (resW rfl .g9 ag_38 .z sz_38) (.c .g1 .n) ?_
 first | (rw [reachR_f (by assumption)]; exact ⟨_, rfl, rfl⟩) | (rw [reachR_0 (by assumption)]; exact ⟨_, rfl, rfl⟩)

theorem c_16 {w0 : World} {S0 : Bs} {f : DFs} {ag : List Value} (h0 : kT_27.ro w0 (FF w0 S0) f ag)  :
    Calls Tryz.prog 16 #[.agg ag.toArray] w0 (TriPost w0 S0 (RA_38 (reachR f))) := by
 obtain ⟨ap, aq, rfl, aa, ab⟩ := kT_27_ro h0
 obtain ⟨ac, ad, rfl, ah, ai, aj, ak⟩ := ro_form aa
 obtain ⟨ae, af, rfl, al, am, an, ao⟩ := ro_form ab
 refine Y.enter (N := 11) Tryz.func16 rfl rfl (by simp) [(0, .agg #[.slice ac f.inodes.length ad, .slice ae f.data.length af])] (by simp) (l0 := []) trivial ?_
 refine Y.seq (Y.region ?_)
 refine Y.el rfl (e_box (cs := [.slice ac f.inodes.length ad, .slice ae f.data.length af]) (n := 2) rfl (.t .z) rfl rfl) ?_
 rintro _ _ ⟨g3, rfl, rfl⟩
 refine Y.el rfl (e_alloc rfl z_38 rfl rfl) ?_
 rintro _ _ ⟨g4, rfl, rfl⟩
 refine Y.nt (Y.seq (Y.seq (Y.region ?_)))
 refine Y.cl rfl rfl Tryz.func52 rfl rfl (args1 (.t .g1)) .n (fun _ _ hs tr => c_52 (tr.ptr .g1 (kT_27_mk f (tr.ctx aa) (tr.ctx ab)))) ?_
 rintro _ _ ⟨rfl, rfl⟩
 refine Y.cat .n ?_
 refine Y.as rfl .z (Y.nt (Y.seq (Y.region (Y.mv rfl .z (Y.ql rfl (q_neq rfl (.t .z) .c) (Y.nt ?_))))))
 refine Y.condN (.t .z) (fun b5 => ?_) (fun b5 => ?_)
 refine Y.seq (Y.region (Y.mv rfl .g2 (Y.ql rfl (q_build (cs := [.int .i64 (treeFault f), .slice none 0 0]) rfl bl_38 (pv1 (.t .z)) rfl) ?_)))
 refine Y.es (goes_list rfl) rfl (esW rfl (.t .g6) (.t .z) .z sz_38 rfl rfl) ?_
 refine Y.nt (Y.ret (Y.thenR ?_))
 refine Y.add (c := ownA kSl_2 [] [.slice none 0 0]) (fun w S => own_nil w S none) ?_
 refine Y.doneS (resW rfl .g6 ag_38 .g1 sz_38) (.c .z .n) ?_
 first | (rw [reachR_f (by assumption)]; exact ⟨_, rfl, rfl⟩) | (rw [reachR_0 (by assumption)]; exact ⟨_, rfl, rfl⟩)
 have ar := treeI b5
 refine Y.skip (Y.then_ (Y.seq (Y.region ?_)))
 refine Y.cl rfl rfl Tryz.func53 rfl rfl (args1 (.t .g5)) .n (fun _ _ hs tr => c_53 (tr.ptr .g1 (kT_27_mk f (tr.ctx aa) (tr.ctx ab))) (by assumption)) ?_
 rintro _ _ rfl
 refine Y.cat (.c .n) ?_
 refine Y.know (WS.oform .z) ?_
 rintro ⟨au, av, rfl, aw, ax, ay⟩
 refine Y.ql rfl (q_build (cs := [.int .i64 0, .slice au (reachL (f).inodes 0).length av]) rfl bl_38 (pv1 (.t .z)) rfl) ?_
 refine Y.es (goes_list rfl) rfl (esW rfl (.t .g6) (.t .z) .g1 sz_38 rfl rfl) ?_
 refine Y.nt (Y.ret ?_)
 refine Y.doneS (resW rfl .g6 ag_38 .z sz_38) (.c .g1 .n) ?_
 first | (rw [reachR_f (by assumption)]; exact ⟨_, rfl, rfl⟩) | (rw [reachR_0 (by assumption)]; exact ⟨_, rfl, rfl⟩)

end Go.Proofs.YtmejbfmhaoilmaaGreat

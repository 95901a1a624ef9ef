/- What is proved: contracts of functions, one a function. No condition. -/
import Derived.Test.YtmejbfmhaoilmaaGreatBase1
import Derived.Test.YtmejbfmhaoilmaaGreatW31
import Derived.Test.YtmejbfmhaoilmaaGreatW30
namespace Go.Proofs.YtmejbfmhaoilmaaGreat
open Go Go.RowKit
set_option linter.unusedVariables false
set_option linter.unusedSimpArgs false
set_option maxHeartbeats 1000000
set_option maxRecDepth 20000
theorem c_145 {w0 : World} {S0 : Bs} {x : (List Int)} {v0 : Value} (h0 : kSl_2.ro w0 (FF w0 S0) x [v0])  :
    Calls Tryz.prog 145 #[v0] w0 (TriPost w0 S0 (fun r l => l = [ownA kSl_2 x [r]])) := by
 obtain ⟨A0, c0, rfl, hl0, hm0, hb0, he0⟩ := ro_form h0
 refine Y.enter (N := 6) Tryz.func145 rfl rfl (by simp) [(0, .slice A0 x.length c0)] (by simp) (l0 := []) trivial ?_
 refine Y.seq (Y.region (Y.ql rfl (q_assign rfl .c) (Y.nt (Y.seq (Y.region ?_)))))
 refine Y.el rfl (e_buildNil rfl u_36 (inz inf_2)) ?_
 rintro _ _ ⟨g2, rfl, rfl⟩
 refine Y.mv rfl .g2 ?_
 refine Y.add (c := ownA kSl_2 ([] : (List Int)) [.slice (some ⟨g2, 0, none⟩) 0 0]) (fun w S => own_nil w S _) ?_
 refine Y.el rfl (e_appendF (flat_scalar _ _ _) rfl u_36 inf_2 rfl (.t .g1) (.t .z) (.c .z .n) (fun w1 S1 tr => tr.ctx h0) (by first | omega | (simp only [List.length_append, List.length_take, List.length_nil, List.length_cons]; omega)) (by first | omega | (simp only [List.length_append, List.length_take, List.length_nil, List.length_cons]; omega))) ?_
 rintro _ _ rfl
 refine Y.ceq .z (List.nil_append _) ?_
 refine Y.know (WS.oform .z) ?_
 rintro ⟨Ao4, co4, rfl, hlo4, hmo4, hbo4⟩
 refine Y.er .g3 (Y.as rfl .z (Y.nt (Y.ret ?_)))
 refine Y.doneS (res1 rfl .z) (.c .z .n) ?_
 rfl

theorem c_115 {w0 : World} {S0 : Bs} {x : DInode} {ag : List Value} (h0 : kT_44.ro w0 (FF w0 S0) x ag)  :
    Calls Tryz.prog 115 #[.agg ag.toArray] w0 (TriPost w0 S0 (RA_44 x)) := by
 obtain ⟨ap, aq, rfl, aa, ab⟩ := kT_44_ro h0
 obtain ⟨ac, ad, rfl, ah, ai, aj, ak⟩ := ro_form aa
 obtain ⟨ae, af, rfl, al, am, an, ao⟩ := ro_form ab
 refine Y.enter (N := 13) Tryz.func115 rfl rfl (by simp) [(0, .agg #[.int .i64 x.kind, .int .i64 x.links, .int .i64 x.size, .slice ac x.blocks.length ad, .slice ae x.ents.length af])] (by simp) (l0 := []) trivial ?_
 refine Y.seq (Y.region ?_)
 refine Y.el rfl (e_box (cs := [.int .i64 x.kind, .int .i64 x.links, .int .i64 x.size, .slice ac x.blocks.length ad, .slice ae x.ents.length af]) (n := 5) rfl (.t .z) rfl rfl) ?_
 rintro _ _ ⟨g3, rfl, rfl⟩
 refine Y.el rfl (e_alloc rfl z_44 rfl rfl) ?_
 rintro _ _ ⟨g4, rfl, rfl⟩
 refine Y.nt (Y.seq (Y.region (Y.fa rfl .g1 fa_44_3 (Y.ld rfl ag_36 .z .g1 ?_))))
 refine Y.cl rfl rfl Tryz.func145 rfl rfl (args1 (.t .z)) .n (fun _ _ hs tr => c_145 (tr.ctx aa)) ?_
 rintro _ _ rfl
 refine Y.cat (.c .n) ?_
 refine Y.know (WS.oform .z) ?_
 rintro ⟨az, a0, rfl, ar, au, av⟩
 refine Y.fa rfl .g4 fa_44_3 ?_
 refine Y.es (goes_list rfl) rfl (es1 (off := 3) rfl sz_36 (.t .z) (.t .g1) rfl rfl .g2 rfl .g3) ?_
 refine Y.nt (Y.seq (Y.region ?_))
 refine Y.el rfl (e_buildNil rfl u_42 (inz inf_46)) ?_
 rintro _ _ ⟨g7, rfl, rfl⟩
 refine Y.fa rfl .g6 fa_44_4 (Y.ld rfl ag_42 .z .g1 ?_)
 refine Y.add (c := ownA kSl_46 ([] : (List DEnt)) [.slice (some ⟨g7, 0, none⟩) 0 0]) (fun w S => own_nil w S _) ?_
 refine Y.el rfl (e_appendF (flat_iso _ (flat_pair (flat_scalar _ _ _) (flat_scalar _ _ _))) rfl u_42 inf_46 rfl (.t .g2) (.t .z) (.c .z .n) (fun w1 S1 tr => tr.ctx ab) (by first | omega | (simp only [List.length_append, List.length_take, List.length_nil, List.length_cons]; omega)) (by first | omega | (simp only [List.length_append, List.length_take, List.length_nil, List.length_cons]; omega))) ?_
 rintro _ _ rfl
 refine Y.ceq .z (List.nil_append _) ?_
 refine Y.know (WS.oform .z) ?_
 rintro ⟨a1, a2, rfl, aw, ax, ay⟩
 refine Y.fa rfl .g9 fa_44_4 ?_
 refine Y.es (goes_list rfl) rfl (es1 (off := 4) rfl sz_42 (.t .z) (.t .g1) rfl rfl .g2 rfl .g4) ?_
 refine Y.nt (Y.seq (Y.region (Y.ql rfl (qW rfl ag_44 (.t .g10) .z sz_44) ?_)))
 refine Y.es (goes_list rfl) rfl (esW rfl (.t .g10) (.t .z) .g4 sz_44 rfl rfl) ?_
 refine Y.nt (Y.ret ?_)
 refine Y.doneS (resW rfl .g10 ag_44 .z sz_44) (.c .g4 (.c .g2 .n)) ?_
 exact ⟨_, _, rfl, rfl⟩

theorem c_67 {w0 : World} {S0 : Bs} {f : DFs} {bs : List Value} (h0 : kT_27.ro w0 (FF w0 S0) f bs)  :
    Calls Tryz.prog 67 #[.agg bs.toArray] w0 (TriPost w0 S0 (RA_27 f)) := by
 obtain ⟨co, cp, rfl, bd, be⟩ := kT_27_ro h0
 obtain ⟨af, ag, rfl, bt, bu, bv, ap⟩ := ro_form bd
 obtain ⟨ah, ai, rfl, bw, bx, bz, aq⟩ := ro_form be
 refine Y.enter (N := 45) Tryz.func67 rfl rfl (by simp) [(0, .agg #[.slice af f.inodes.length ag, .slice ah f.data.length ai])] (by simp) (l0 := []) trivial ?_
 refine Y.seq (Y.region ?_)
 refine Y.el rfl (e_box (cs := [.slice af f.inodes.length ag, .slice ah f.data.length ai]) (n := 2) rfl (.t .z) rfl rfl) ?_
 rintro _ _ ⟨g3, rfl, rfl⟩
 refine Y.el rfl (e_alloc rfl z_27 rfl rfl) ?_
 rintro _ _ ⟨g4, rfl, rfl⟩
 refine Y.nt (Y.seq (Y.region (Y.ql rfl (q_build (cs := [.slice none 0 0, .slice none 0 0]) rfl bl_27 pv0 rfl) ?_)))
 refine Y.el rfl (e_alloc rfl z_27 rfl rfl) ?_
 rintro _ _ ⟨g5, rfl, rfl⟩
 refine Y.es (goes_list rfl) rfl (esW rfl (.t .z) (.t .g1) .z sz_27 rfl rfl) ?_
 refine Y.nt (Y.seq (Y.seq (Y.region (Y.ql rfl (q_assign rfl .c) (Y.nt (Y.block ?_))))))
 refine Y.add (c := ownA kSl_44 [] [.slice none 0 0]) (fun w S => own_nil w S none) ?_
 refine Y.loopi (γ := Nat × (Option Addr) × Nat) (fun ⟨k, aa, ab⟩ => [(4, .int .i64 (k : Int)), (3, .pointer (some ⟨g5, 0, none⟩)), (2, .pointer (some ⟨g4, 0, none⟩)), (1, .pointer (some ⟨g3, 0, none⟩))]) (fun ⟨k, aa, ab⟩ => [ownA kSl_44 (List.take k f.inodes) [.slice aa (List.take k f.inodes).length ab], rowA g5 27 2 1 [.slice aa (List.take k f.inodes).length ab, .slice none 0 0], rowA g4 27 2 1 [.slice none 0 0, .slice none 0 0], rowA g3 27 2 1 [.slice af f.inodes.length ag, .slice ah f.data.length ai]]) (fun ⟨k, aa, ab⟩ => k ≤ f.inodes.length) (fun ⟨k, aa, ab⟩ => f.inodes.length - k) (0, none, 0) (Nat.zero_le _) (.c .z (.c .g1 (.c .g3 (.c .g4 .n)))) (fun _ h => h.sel (.c .z (.c .z (.c .z (.c .z .n))))) ?_
 rintro ⟨k, aa, ab⟩ hk
 refine Y.seq (Y.seq (Y.region (Y.mv rfl .z (Y.fa rfl .g4 fa_27_0 (Y.ld rfl ag_24 .z .g3 (Y.ql rfl (q_len rfl u_24 (.t .z)) (Y.ql rfl (q_lss rfl (.t .g3) (.t .z)) (Y.nil ?_))))))))
 refine Y.then_ ?_
 refine Y.condP (.t .z) (fun b7 => ?_) (fun b7 => ?_)
 refine Y.skip (Y.then_ (Y.seq (Y.block ?_)))
 refine Y.dr .g1 11 mixo ?_
 refine Y.sc (qs 0 7 ++ [(7, false), (8, false), (9, false), (10, true), (11, false)]) (by kernel_rfl) ?_
 refine Y.df rfl rfl .g1 .g6 fa_27_0 (Y.dl rfl rfl .g1 ag_24 .z .z (Y.df rfl rfl .g1 .g10 fa_27_0 (Y.dl rfl rfl .g1 ag_24 .z .g2 (Y.dm rfl rfl .g1 .g9 ?_))))
 obtain ⟨cx, ar, au⟩ := ap (by omega)
 subst ar
 obtain ⟨x9, b0⟩ := get_ex (xs := f.inodes) (j := k) (by omega)
 obtain ⟨b1, ak, av, aw⟩ := au.elem b0
 obtain ⟨bf, bg, rfl, al, am⟩ := kT_44_ro ak
 obtain ⟨bh, bi, rfl, a5, a6, a7, a8⟩ := ro_form al
 obtain ⟨bj, bk, rfl, a9, ba, bb, bc⟩ := ro_form am
 refine Y.dk rfl rfl .g1 (q_indexAddr (j := k) rfl u_24 sz_44 (.t .g1) (.t .z) rfl (by omega)) ?_
 refine Y.dk rfl rfl .g1 (qE rfl ag_44 (.t .z) av aw sz_44) ?_
 refine Y.call (goes_sch rfl rfl) rfl (by decide) rfl (c_call rfl Tryz.func115 rfl rfl (args1 (.t .z))) .n (fun _ _ hs tr => c_115 (tr.ctx ak)) ?_
 rintro _ _ ⟨cy, cz, rfl, rfl⟩
 refine Y.cat (.c (.c .n)) ?_
 refine Y.know (WS.oform .z) ?_
 rintro ⟨ax, ay, rfl, b2, b3, b4⟩
 refine Y.know (WS.oform .g1) ?_
 rintro ⟨az, a0, rfl, b5, b6, b8⟩
 refine Y.sk .g3 ?_
 refine Y.e (goes_sch rfl rfl) rfl (by decide) rfl (e_buildSliceL (cs := [.int .i64 x9.kind, .int .i64 x9.links, .int .i64 x9.size, .slice ax x9.blocks.length ay, .slice az x9.ents.length a0]) rfl u_24 (inz inf_44) (by decide) (pv1 (.t .z)) rfl rfl (by decide) rfl rfl) ?_
 rintro _ _ ⟨g19, rfl, rfl⟩
 refine Y.sk .g4 ?_
 refine Y.turns (c := ownA kT_44 (⟨x9.kind, x9.links, x9.size, x9.blocks, x9.ents⟩ : DInode) [.int .i64 x9.kind, .int .i64 x9.links, .int .i64 x9.size, .slice ax x9.blocks.length ay, .slice az x9.ents.length a0]) (.c .g1 (.c .g1 .n)) (fun w S h => kT_44_omk (⟨x9.kind, x9.links, x9.size, x9.blocks, x9.ents⟩ : DInode) h) ?_
 refine Y.e (goes_sch rfl rfl) rfl (by decide) rfl (e_append1 rfl u_24 inf_44 rfl (.t .g7) (.t .z) (.c .g2 (.c .g1 (.c .z .n))) (by first | omega | (simp only [List.length_take, List.length_cons, List.length_nil]; omega)) (by first | omega | (simp only [List.length_take, List.length_cons, List.length_nil]; omega))) ?_
 rintro _ _ rfl
 refine Y.ceq .z (take_get b0).symm ?_
 refine Y.know (WS.oform .z) ?_
 rintro ⟨bm, bn, rfl, b9, ca, cb⟩
 refine Y.sk .g1 ?_
 refine Y.df rfl rfl .g1 .g16 fa_27_0 ?_
 refine Y.es (goes_sch rfl rfl) rfl (es1 (off := 0) rfl sz_24 (.t .z) (.t .g1) rfl rfl .g1 rfl .z) ?_
 refine Y.sl rfl ?_
 refine Y.schN ?_
 refine Y.drawN (by kernel_rfl) ?_
 refine Y.inBN (Y.then_ (Y.region (Y.mv rfl .g16 ?_)))
 refine Y.ql rfl (q_add (c := ((k + 1 : Nat) : Int)) rfl (.t .z) .c (wr (by omega) (by omega) (by omega))) ?_
 refine Y.er (.s16 .g2) (Y.as rfl .z (Y.nil ?_))
 refine Y.again ((k + 1), bm, bn) (by omega) (by first | omega | (dsimp only; omega)) (.c .z (.c (.s16 .g3) (.c (.s16 .g4) (.c (.s16 .g5) .n)))) (fun _ h => h.sel (.c .g1 (.c .z (.c .z (.c .z .n)))))
 refine Y.exit (Y.thenE (Y.thenE (Y.inB (Y.then_ (Y.seq (Y.seq (Y.region (Y.ql rfl (q_assign rfl .c) ?_))))))))
 refine Y.nt (Y.block ?_)
 have a1 : List.take k f.inodes = f.inodes := (List.take_of_length_le (by omega))
 refine Y.chEq .z (congrArg (fun z_ => (ownA kSl_44 (z_) [.slice aa (z_).length ab] : Asn)) a1) ?_
 refine Y.chEq .g1 (congrArg (fun z_ => (rowA g5 27 2 1 [.slice aa (z_).length ab, .slice none 0 0] : Asn)) a1) ?_
 refine Y.add (c := ownA kSl_22 [] [.slice none 0 0]) (fun w S => own_nil w S none) ?_
 refine Y.loopi (γ := Nat × (Option Addr) × Nat) (fun ⟨q, ac, ad⟩ => [(5, .int .i64 (q : Int)), (3, .pointer (some ⟨g5, 0, none⟩)), (2, .pointer (some ⟨g4, 0, none⟩)), (1, .pointer (some ⟨g3, 0, none⟩))]) (fun ⟨q, ac, ad⟩ => [ownA kSl_22 (List.take q f.data) [.slice ac (List.take q f.data).length ad], rowA g5 27 2 1 [.slice aa (f.inodes).length ab, .slice ac (List.take q f.data).length ad], ownA kSl_44 f.inodes [.slice aa (f.inodes).length ab], rowA g4 27 2 1 [.slice none 0 0, .slice none 0 0], rowA g3 27 2 1 [.slice af f.inodes.length ag, .slice ah f.data.length ai]]) (fun ⟨q, ac, ad⟩ => q ≤ f.data.length) (fun ⟨q, ac, ad⟩ => f.data.length - q) (0, none, 0) (Nat.zero_le _) (.c .z (.c .g7 (.c .g8 (.c .g9 .n)))) (fun _ h => h.sel (.c .z (.c .z (.c .z (.c .z (.c .z .n)))))) ?_
 rintro ⟨q, ac, ad⟩ hq
 refine Y.seq (Y.seq (Y.region (Y.mv rfl .z (Y.fa rfl .g4 fa_27_1 (Y.ld rfl ag_25 .z .g4 (Y.ql rfl (q_len rfl u_25 (.t .z)) (Y.ql rfl (q_lss rfl (.t .g3) (.t .z)) (Y.nil ?_))))))))
 refine Y.then_ ?_
 refine Y.condP (.t .z) (fun cq => ?_) (fun cq => ?_)
 refine Y.skip (Y.then_ (Y.seq (Y.block ?_)))
 refine Y.sel (.c .z (.c .g1 (.c .z (.c .z (.c .z .n))))) ?_
 refine Y.dr .g2 12 mixo ?_
 refine Y.sc ([(0, true), (1, true)] ++ qs 3 5 ++ [(2, false), (8, false), (9, false), (10, false), (11, true), (12, false)]) (by kernel_rfl) ?_
 refine Y.df rfl rfl .g2 .g6 fa_27_1 (Y.dl rfl rfl .g2 ag_25 .z .z (Y.df rfl rfl .g2 .g10 fa_27_1 (Y.dl rfl rfl .g2 ag_25 .z .g2 (Y.dm rfl rfl .g2 .g9 ?_))))
 obtain ⟨cr, an, ao⟩ := aq (by omega)
 subst an
 obtain ⟨ct, a2⟩ := get_ex (xs := f.data) (j := q) (by omega)
 obtain ⟨cc, ae, a3, a4⟩ := ao.elem a2
 obtain ⟨cu, rfl⟩ := sl_one ae
 obtain ⟨cv, cw, rfl, cd, ce, cf, cg⟩ := ro_form ae
 refine Y.dk rfl rfl .g2 (q_indexAddr (j := q) rfl u_25 sz_22 (.t .g1) (.t .z) rfl (by omega)) ?_
 refine Y.dk rfl rfl .g2 (q_load rfl ag_22 (.t .z) (WS.el0 a3 a4 rfl)) ?_
 refine Y.e (goes_sch rfl rfl) rfl (by decide) rfl (e_buildNil rfl u_22 (inz inf_5)) ?_
 rintro _ _ ⟨g29, rfl, rfl⟩
 refine Y.sk .g3 ?_
 refine Y.add (c := ownA kSl_5 ([] : (List UInt8)) [.slice (some ⟨g29, 0, none⟩) 0 0]) (fun w S => own_nil w S _) ?_
 refine Y.e (goes_sch rfl rfl) rfl (by decide) rfl (e_appendF (flat_scalar _ _ _) rfl u_22 inf_5 rfl (.t .z) (.t .g1) (.c .z .n) (fun w1 S1 tr => tr.ctx ae) (by first | omega | (simp only [List.length_take, List.length_cons, List.length_nil]; omega)) (by first | omega | (simp only [List.length_take, List.length_cons, List.length_nil]; omega))) ?_
 rintro _ _ rfl
 refine Y.ceq .z (List.nil_append _) ?_
 refine Y.know (WS.oform .z) ?_
 rintro ⟨bo, bp, rfl, ch, ci, cj⟩
 refine Y.sk .g4 ?_
 refine Y.e (goes_sch rfl rfl) rfl (by decide) rfl (e_buildSliceL (cs := [.slice bo ct.length bp]) rfl u_25 (inz inf_22) (by decide) (pv1 (.t .z)) rfl rfl (by decide) rfl rfl) ?_
 rintro _ _ ⟨g32, rfl, rfl⟩
 refine Y.sk .g5 ?_
 refine Y.e (goes_sch rfl rfl) rfl (by decide) rfl (e_append1 rfl u_25 inf_22 rfl (.t .g8) (.t .z) (.c .g3 (.c .z (.c .z .n))) (by first | omega | (simp only [List.length_take, List.length_cons, List.length_nil]; omega)) (by first | omega | (simp only [List.length_take, List.length_cons, List.length_nil]; omega))) ?_
 rintro _ _ rfl
 refine Y.ceq .z (take_get a2).symm ?_
 refine Y.know (WS.oform .z) ?_
 rintro ⟨bq, br, rfl, ck, cm, cn⟩
 refine Y.sk .g3 ?_
 refine Y.df rfl rfl .g3 (.s16 .g1) fa_27_1 ?_
 refine Y.es (goes_sch rfl rfl) rfl (es1 (off := 1) rfl sz_25 (.t .z) (.t .g1) rfl rfl .g3 rfl .g1) ?_
 refine Y.sl rfl ?_
 refine Y.schN ?_
 refine Y.drawN (by kernel_rfl) ?_
 refine Y.inBN (Y.then_ (Y.region (Y.mv rfl (.s16 .g1) ?_)))
 refine Y.ql rfl (q_add (c := ((q + 1 : Nat) : Int)) rfl (.t .z) .c (wr (by omega) (by omega) (by omega))) ?_
 refine Y.er (.s16 .g3) (Y.as rfl .z (Y.nil ?_))
 refine Y.again ((q + 1), bq, br) (by omega) (by first | omega | (dsimp only; omega)) (.c .z (.c (.s16 .g4) (.c (.s16 .g5) (.c (.s16 .g6) .n)))) (fun _ h => h.sel (.c .g1 (.c .z (.c .g1 (.c .g1 (.c .g1 .n))))))
 refine Y.exit (Y.thenE (Y.thenE (Y.inB (Y.then_ (Y.seq (Y.region (Y.ql rfl (qW rfl ag_27 (.t .g6) .g1 sz_27) ?_)))))))
 refine Y.es (goes_list rfl) rfl (esW rfl (.t .g8) (.t .z) .g3 sz_27 rfl rfl) ?_
 refine Y.nt (Y.ret ?_)
 have aj : List.take q f.data = f.data := (List.take_of_length_le (by omega))
 refine Y.eq .z (congrArg (fun z_ => (.agg #[.slice aa (f.inodes).length ab, .slice ac (z_).length ad] : Value)) aj) ?_
 refine Y.chEq .z (congrArg (fun z_ => (rowA g4 27 2 1 [.slice aa (f.inodes).length ab, .slice ac (z_).length ad] : Asn)) aj) ?_
 refine Y.chEq .g1 (congrArg (fun z_ => (ownA kSl_22 (z_) [.slice ac (z_).length ad] : Asn)) aj) ?_
 refine Y.chEq .g2 (congrArg (fun z_ => (rowA g5 27 2 1 [.slice aa (f.inodes).length ab, .slice ac (z_).length ad] : Asn)) aj) ?_
 refine Y.doneS (resW rfl .g8 ag_27 .g2 sz_27) (.c .g3 (.c .g1 .n)) ?_
 exact ⟨_, _, rfl, rfl⟩

theorem c_207 {w0 : World} {S0 : Bs} {f : DFs} {g0 e0 s0 : Nat} {aa : List Value} {ad : Value} {ae : Value} (a : Int) (hs : Star [rowA g0 e0 s0 1 (ad :: ae :: aa), ownA kSl_44 f.inodes [ad], ownA kSl_22 f.data [ae]] w0 S0) (hp : placeIn f.inodes.length a) (hd : f.data.length = 20) (hb : ∀ b, b ∈ blocksAt f.inodes a → 0 ≤ b ∧ b ≤ 19) :
    Calls Tryz.prog 207 #[.pointer (some ⟨g0, 0, none⟩), .int .i64 a] w0 (TriPost w0 S0 (PA_27 g0 e0 s0 aa (dropF f a))) := by
 obtain ⟨bc, bd⟩ := hp
 refine Y.enter (N := 41) Tryz.func207 rfl rfl (by simp) [(0, .pointer (some ⟨g0, 0, none⟩)), (1, .int .i64 a)] (by simp) hs ?_
 refine Y.know (WS.oform .g1) ?_
 rintro ⟨aq, aj, rfl, a3, a4, a5⟩
 refine Y.know (WS.oform .g2) ?_
 rintro ⟨ar, au, rfl, a6, a7, a8⟩
 refine Y.seq (Y.seq (Y.region (Y.ql rfl (q_assign rfl .c) (Y.nt (Y.block ?_)))))
 refine Y.open (.c .g1 .n) own_raw ?_
 rintro af ab
 obtain ⟨y4, ah⟩ := get_ex (xs := f.inodes) (j := Int.toNat a) (by first | omega | (rw [hdl]; omega))
 obtain ⟨c5, ai⟩ := get_ex (xs := af) (j := Int.toNat a) (by rw [ab]; exact (List.getElem?_eq_some_iff.1 ah).1)
 refine Y.turn .g1 (seq_split ah ai) ?_
 refine Y.open (.c .z .n) kT_44_op ?_
 rintro ⟨v6, v7⟩ rfl
 refine Y.know (WS.oform .z) ?_
 rintro ⟨ak, al, rfl, av, aw, ax⟩
 refine Y.know (WS.oform .g1) ?_
 rintro ⟨am, an, rfl, ay, az, a0⟩
 have ag := blocks_at (a := a) ah (by omega)
 have ao : ∀ b, b ∈ y4.blocks → 0 ≤ b ∧ b ≤ 19 := by rw [← ag]; exact hb
 refine Y.ceq (x' := dropB f.data y4.blocks 0) .g6 rfl ?_
 refine Y.loopi (γ := Nat) (fun k => [(4, .int .i64 (k : Int)), (0, .pointer (some ⟨g0, 0, none⟩)), (1, .int .i64 a)]) (fun k => [ownA kSl_22 (dropB f.data y4.blocks k) [.slice ar f.data.length au], ownA kSl_2 y4.blocks [.slice ak y4.blocks.length al], ownA kSl_46 y4.ents [.slice am y4.ents.length an], seqC kT_44 (List.take (Int.toNat a) f.inodes) (List.take (Int.toNat a) af), seqC kT_44 (List.drop (Int.toNat a + 1) f.inodes) (List.drop (Int.toNat a + 1) af), ownA (kslice 44 72 (kraw kT_44.sz kT_44.pos)) af [.slice aq f.inodes.length aj], rowA g0 e0 s0 1 ((.slice aq f.inodes.length aj) :: (.slice ar f.data.length au) :: aa)]) (fun k => k ≤ y4.blocks.length) (fun k => y4.blocks.length - k) 0 (Nat.zero_le _) (.c .z (.c .g1 (.c .g2 .n))) (fun _ h => h.sel (.c .z (.c .z (.c .z (.c .z (.c .z (.c .z (.c .z .n)))))))) ?_
 rintro k hk
 have hdl := dropB_len (data := f.data) (bs := y4.blocks) k
 refine Y.seq (Y.seq (Y.region (Y.mv rfl .z (Y.mv rfl .g2 (Y.nc rfl .z (Y.fa rfl .z fa_27_0 (Y.ld rfl ag_24 .z .g6 (Y.mv rfl .g7 ?_))))))))
 refine Y.know (WS.oad .g5 (by omega)) ?_
 rintro ⟨ap, rfl⟩
 refine Y.ql rfl (q_indexAddr (j := Int.toNat a) rfl u_24 sz_44 (.t .g1) (.t .z) (by omega) (by first | omega | (rw [hdl]; omega))) ?_
 refine Y.fa rfl .z fa_44_3 (Y.ql rfl (q_load rfl ag_36 (.t .z) (WS.raw .g5 ai rfl)) (Y.ql rfl (q_len rfl u_36 (.t .z)) (Y.ql rfl (q_lss rfl (.t .g9) (.t .z)) (Y.nt ?_))))
 refine Y.condP (.t .z) (fun a9 => ?_) (fun a9 => ?_)
 refine Y.skip (Y.then_ (Y.seq (Y.block ?_)))
 refine Y.dr .z 16 mixo ?_
 refine Y.sc (qs 0 16 ++ [(16, false)]) (by kernel_rfl) ?_
 refine Y.dm rfl rfl .z .g12 (Y.dn rfl rfl .z .z (Y.df rfl rfl .z .z fa_27_1 (Y.dl rfl rfl .z ag_25 .z .g6 (Y.dm rfl rfl .z .g16 (Y.dn rfl rfl .z .z (Y.df rfl rfl .z .z fa_27_0 (Y.dl rfl rfl .z ag_24 .z .g6 (Y.dm rfl rfl .z (.s16 .g5) ?_))))))))
 refine Y.dk rfl rfl .z (q_indexAddr (j := Int.toNat a) rfl u_24 sz_44 (.t .g1) (.t .z) (by omega) (by first | omega | (rw [hdl]; omega))) ?_
 refine Y.df rfl rfl .z .z fa_44_3 (Y.dk rfl rfl .z (q_load rfl ag_36 (.t .z) (WS.raw .g5 ai rfl)) (Y.dm rfl rfl .z (.s16 .g7) ?_))
 refine Y.know (WS.oad .g1 (by omega)) ?_
 rintro ⟨ba, rfl⟩
 refine Y.dk rfl rfl .z (q_indexAddr (j := k) rfl u_36 sz_2 (.t .g1) (.t .z) rfl (by first | omega | (rw [hdl]; omega))) ?_
 obtain ⟨a1, ac⟩ := get_ex (xs := y4.blocks) (j := k) (by first | omega | (rw [hdl]; omega))
 have a2 := ao _ (List.mem_of_getElem? ac)
 refine Y.dk rfl rfl .z (q_load rfl ag_2 (.t .z) (WS.oel .g1 ac)) ?_
 refine Y.know (WS.oad .z (by omega)) ?_
 rintro ⟨bb, rfl⟩
 refine Y.dk rfl rfl .z (q_indexAddr (j := Int.toNat a1) rfl u_25 sz_22 (.t .g11) (.t .z) (by omega) (by first | omega | (rw [hdl]; omega))) ?_
 refine Y.add (c := ownA kSl_5 [] [.slice none 0 0]) (fun w S => own_nil w S none) ?_
 refine Y.es (goes_sch rfl rfl) rfl (es_set (j := Int.toNat a1) rfl sz_22 (.t .z) .c rfl (.c .g1 (.c .z .n)) (by first | omega | (rw [hdl]; omega))) ?_
 refine Y.ceq .z (dropB_s ac) ?_
 refine Y.sl rfl ?_
 refine Y.schN ?_
 refine Y.drawN (by kernel_rfl) ?_
 refine Y.inBN (Y.then_ (Y.region (Y.mv rfl (.s16 .g11) ?_)))
 refine Y.ql rfl (q_add (c := ((k + 1 : Nat) : Int)) rfl (.t .z) .c (wr (by omega) (by omega) (by omega))) ?_
 refine Y.er (.s16 .g13) (Y.as rfl .z (Y.nil ?_))
 refine Y.again (k + 1) (by omega) (by first | omega | (dsimp only; omega)) (.c .z (.c (.s16 .g14) (.c (.s16 .g15) .n))) (fun _ h => h.sel (.c .z (.c .z (.c .z (.c .z (.c .z (.c .z (.c .z .n))))))))
 refine Y.exit (Y.thenE (Y.thenE (Y.inB (Y.then_ (Y.region (Y.mv rfl .g12 (Y.nc rfl .z (Y.fa rfl .z fa_27_0 ?_))))))))
 refine Y.ld rfl ag_24 .z .g6 (Y.mv rfl (.s16 .g1) (Y.ql rfl (q_build (cs := [.int .i64 0, .int .i64 0, .int .i64 0, .slice none 0 0, .slice none 0 0]) rfl bl_44 pv0 rfl) ?_))
 refine Y.ql rfl (q_indexAddr (j := Int.toNat a) rfl u_24 sz_44 (.t .g2) (.t .g1) (by omega) (by first | omega | (rw [hdl]; omega))) ?_
 refine Y.es (goes_list rfl) rfl (es_raw (j := Int.toNat a) (off := 0) (cs := [.int .i64 0, .int .i64 0, .int .i64 0, .slice none 0 0, .slice none 0 0]) rfl sz_44 (.t .z) rfl (.t .g1) rfl (ones rfl) .g5 ai (Nat.le_of_ble_eq_true rfl)) ?_
 refine Y.ceq (x' := List.set af (Int.toNat a) [.int .i64 0, .int .i64 0, .int .i64 0, .slice none 0 0, .slice none 0 0]) .z rfl ?_
 refine Y.nil ?_
 refine Y.add (c := ownA kSl_2 [] [.slice none 0 0]) (fun w S => own_nil w S none) ?_
 refine Y.add (c := ownA kSl_46 [] [.slice none 0 0]) (fun w S => own_nil w S none) ?_
 refine Y.turns (c := ownA kT_44 (⟨0, 0, 0, [], []⟩ : DInode) [.int .i64 0, .int .i64 0, .int .i64 0, .slice none 0 0, .slice none 0 0]) (.c .g1 (.c .z .n)) (fun w S h => kT_44_omk (⟨0, 0, 0, [], []⟩ : DInode) h) ?_
 refine Y.turns (c := ownA kSl_44 (List.set f.inodes (Int.toNat a) (⟨0, 0, 0, [], []⟩ : DInode)) [.slice (some ap) f.inodes.length aj]) (.c .g1 (.c .z (.c .g3 (.c .g3 .n)))) (own_unfocus (K := kT_44) ab (List.getElem?_eq_some_iff.1 ah).1 rfl) ?_
 refine Y.ceq (x' := dropAll f a) .g1 (by unfold dropAll; rw [ag, show k = y4.blocks.length by omega]) ?_
 refine Y.doneSN (res0 rfl) (.c .g4 (.c .g1 (.c .z .n))) ?_
 exact ⟨_, _, rfl, rfl⟩

theorem c_113 {w0 : World} {S0 : Bs} {f : DFs} {ad0 : Addr} (h0 : PtrRo kT_27 w0 (FF w0 S0) ad0 f) (a : Int)  :
    Calls Tryz.prog 113 #[.pointer (some ad0), .int .i64 a] w0 (TriPost w0 S0 (fun r l => r = .int .i64 (bytesCode f a) ∧ l = [])) := by
 obtain ⟨ec0, hF0, hr0, hc0⟩ := id h0
 obtain ⟨u0_0, u0_1, rfl, h0_0, h0_1⟩ := kT_27_ro hr0
 obtain ⟨A0_0, c0_0, rfl, hl0_0, hm0_0, hb0_0, he0_0⟩ := ro_form h0_0
 obtain ⟨A0_1, c0_1, rfl, hl0_1, hm0_1, hb0_1, he0_1⟩ := ro_form h0_1
 refine Y.enter (N := 11) Tryz.func113 rfl rfl (by simp) [(0, .pointer (some ad0)), (1, .int .i64 a)] (by simp) (l0 := []) trivial ?_
 refine Y.seq (Y.region (Y.ql rfl (q_assign rfl .c) (Y.nt (Y.seq (Y.region (Y.mv rfl .g1 (Y.nc rfl .z ?_)))))))
 refine Y.ql rfl (qE rfl ag_27 (.t .z) hF0 hc0 sz_27) (Y.mv rfl .g5 ?_)
 refine Y.cl rfl rfl Tryz.func45 rfl rfl (args2 (.t .g1) (.t .z)) .n (fun _ _ hs tr => c_45 (kT_27_mk f (tr.ctx h0_0) (tr.ctx h0_1)) _) ?_
 rintro _ _ ⟨v3, rfl, rfl⟩
 refine Y.cat (.c .n) ?_
 refine Y.know (WS.oform .z) ?_
 rintro ⟨Ao5, co5, rfl, hlo5, hmo5, hbo5⟩
 refine Y.ql rfl (q_field rfl (.t .z) (fun w => fv_31_0 w (.int .i64 ((bytesR f a).code)) (.slice Ao5 ((bytesR f a).bytes).length co5))) ?_
 refine Y.er .g6 (Y.as rfl .z (Y.nt (Y.ret ?_)))
 refine Y.doneS (res1 rfl .z) .n ?_
 exact ⟨by rw [bytesR_code], rfl⟩

end Go.Proofs.YtmejbfmhaoilmaaGreat

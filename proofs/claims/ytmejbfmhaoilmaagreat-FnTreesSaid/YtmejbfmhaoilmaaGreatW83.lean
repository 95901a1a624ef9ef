/- What is proved: contracts of functions, one a function. No condition. -/
import Derived.Test.YtmejbfmhaoilmaaGreatBase1
import Derived.Test.YtmejbfmhaoilmaaGreatW80
import Derived.Test.YtmejbfmhaoilmaaGreatW81
namespace Go.Proofs.YtmejbfmhaoilmaaGreat
open Go Go.RowKit
set_option linter.unusedVariables false
set_option linter.unusedSimpArgs false
set_option maxHeartbeats 1000000
set_option maxRecDepth 20000
theorem c_156 {w0 : World} {S0 : Bs} {f : DFs} {cy : List Value} (h0 : kT_27.ro w0 (FF w0 S0) f cy) {c : DCall} {cz : List Value} (h1 : kT_158.ro w0 (FF w0 S0) c cz) {b : (List Int)} {v2 : Value} (h2 : kSl_2.ro w0 (FF w0 S0) b [v2]) (hj : Jf f) :
    Calls Tryz.prog 156 #[.agg cy.toArray, .agg cz.toArray, v2] w0 (TriPost w0 S0 (fun r l => ∃ x : RCall, Jf x.fs ∧ RA_155 x r l)) := by
 obtain ⟨f6, f7, rfl, aa, ab⟩ := kT_27_ro h0
 obtain ⟨ax, ay, rfl, c0, c1, c3, az⟩ := ro_form aa
 obtain ⟨a0, a1, rfl, c4, c5, c6, c7⟩ := ro_form ab
 obtain ⟨f8, rfl, a2, f9, ga⟩ := kT_158_ro h1
 obtain ⟨a3, a4, rfl, c8, c9, da, db⟩ := ro_form a2
 obtain ⟨A2, c2, rfl, h7, h8, h9, ia⟩ := ro_form h2
 have ht : J0 f := hj.toJ0
 have ib := hj.n.2
 have ic := hj.n.1
 refine Y.enter (N := 91) Tryz.func156 rfl rfl (by simp) [(0, .agg #[.slice ax f.inodes.length ay, .slice a0 f.data.length a1]), (1, .agg #[.int .i64 c.kind, .string c.path, .string c.to, .int .i64 c.frm, .int .i64 c.size, .slice a3 c.data.length a4]), (2, .slice A2 b.length c2)] (by simp) (l0 := []) trivial ?_
 refine Y.seq (Y.region ?_)
 refine Y.el rfl (e_box (cs := [.slice ax f.inodes.length ay, .slice a0 f.data.length a1]) (n := 2) rfl (.t .z) rfl rfl) ?_
 rintro _ _ ⟨g5, rfl, rfl⟩
 refine Y.el rfl (e_box (cs := [.int .i64 c.kind, .string c.path, .string c.to, .int .i64 c.frm, .int .i64 c.size, .slice a3 c.data.length a4]) (n := 6) rfl (.t .g2) rfl rfl) ?_
 rintro _ _ ⟨g6, rfl, rfl⟩
 refine Y.el rfl (e_alloc rfl z_155 rfl rfl) ?_
 rintro _ _ ⟨g7, rfl, rfl⟩
 refine Y.nt (Y.seq (Y.region (Y.fa rfl .g1 fa_158_1 (Y.ld rfl ag_9 .z .g1 ?_))))
 refine Y.cl rfl rfl Tryz.func174 rfl rfl (args2 (.t .g4) (.t .z)) .n (fun _ _ hs tr => c_174w (tr.ptr .g2 (kT_27_mk f (tr.ctx aa) (tr.ctx ab))) _ (by first | assumption | omega) (by assumption)) ?_
 rintro _ _ ⟨rfl, rfl⟩
 refine Y.cat .n ?_
 have dc := jwalkP_place ht c.path
 refine Y.mv rfl .z (Y.ql rfl (q_extract (v := .int .i64 ((walkP f c.path).1)) rfl (.t .z) rfl) (Y.ql rfl (q_extract (v := .int .i64 ((walkP f c.path).2)) rfl (.t .g1) rfl) (Y.as rfl .g1 (Y.as rfl .g1 (Y.nt (Y.seq (Y.seq ?_)))))))
 refine Y.region (Y.mv rfl .z (Y.ql rfl (q_neq rfl (.t .z) .c) (Y.nt ?_)))
 refine Y.condN (.t .z) (fun b9 => ?_) (fun b9 => ?_)
 refine Y.seq (Y.region (Y.ql rfl (qW rfl ag_27 (.t .g12) .g2 sz_27) (Y.mv rfl .g3 ?_)))
 refine Y.cl rfl rfl Tryz.func172 rfl rfl (args2 (.t .g1) (.t .z)) .n (fun _ _ hs tr => c_172 (kT_27_mk f (tr.ctx aa) (tr.ctx ab)) _) ?_
 rintro _ _ ⟨id, ie, ig, ih, rfl, rfl⟩
 refine Y.cat (.c (.c (.c (.c .n)))) ?_
 refine Y.know (WS.oform .z) ?_
 rintro ⟨gb, gc, rfl, dd, dg, dh⟩
 refine Y.know (WS.oform .g1) ?_
 rintro ⟨gd, ge, rfl, di, dj, dp⟩
 refine Y.know (WS.oform .g2) ?_
 rintro ⟨gf, gg, rfl, ds, dt, du⟩
 refine Y.know (WS.oform .g3) ?_
 rintro ⟨gh, gi, rfl, dv, dw, dx⟩
 refine Y.es (goes_list rfl) rfl (esW rfl (.t .g13) (.t .z) .g4 sz_155 rfl rfl) ?_
 refine Y.nt (Y.ret (Y.thenR ?_))
 refine Y.doneS (resW rfl .g13 ag_155 .z sz_155) (.c .g1 (.c .g1 (.c .g1 (.c .g1 .n)))) ?_
 exact ⟨(⟨0, ((walkP f c.path).2), 0, [], [], (⟨f.inodes, f.data⟩ : DFs)⟩ : RCall), (by first | exact hj | assumption), _, _, _, _, rfl, rfl⟩
 refine Y.skip (Y.then_ (Y.seq (Y.seq (Y.region (Y.fa rfl .g12 fa_27_0 (Y.ld rfl ag_24 .z .g2 (Y.mv rfl .g5 ?_)))))))
 obtain ⟨gj, ao, ap⟩ := az (by omega)
 subst ao
 obtain ⟨ii, ag⟩ := get_ex (xs := f.inodes) (j := Int.toNat ((walkP f c.path).1)) (by first | omega | (simp <;> omega))
 obtain ⟨dy, a5, a6, a7⟩ := ap.elem ag
 obtain ⟨bp, bq, rfl, aq, ar⟩ := kT_44_ro a5
 obtain ⟨br, bs, rfl, bg, bh, bi, bj⟩ := ro_form aq
 obtain ⟨bt, bu, rfl, bk, bm, bn, bo⟩ := ro_form ar
 have gk := kind_at (i := ((walkP f c.path).1)) ag (by omega)
 have gl := ents_at (a := ((walkP f c.path).1)) ag (by omega)
 have gm := links_at (a := ((walkP f c.path).1)) ag (by omega)
 have dz := ht.get ag
 refine Y.ql rfl (q_indexAddr (j := Int.toNat ((walkP f c.path).1)) rfl u_24 sz_44 (.t .g1) (.t .z) (by omega) (by first | omega | (simp <;> omega))) ?_
 refine Y.fa rfl .z fa_44_0 (Y.le rfl ag_2 .z a6 a7 (Y.ql rfl (q_eql rfl (.t .z) .c) (Y.nt ?_)))
 refine Y.condP (.t .z) (fun gn => ?_) (fun gn => ?_)
 refine Y.seq (Y.region (Y.ql rfl (qW rfl ag_27 (.t (.s16 .g3)) .g2 sz_27) ?_))
 refine Y.cl rfl rfl Tryz.func172 rfl rfl (args2 (.t .z) .c) .n (fun _ _ hs tr => c_172 (kT_27_mk f (tr.ctx aa) (tr.ctx ab)) _) ?_
 rintro _ _ ⟨ij, ik, il, im, rfl, rfl⟩
 refine Y.cat (.c (.c (.c (.c .n)))) ?_
 refine Y.know (WS.oform .z) ?_
 rintro ⟨go, gp, rfl, d0, d1, d2⟩
 refine Y.know (WS.oform .g1) ?_
 rintro ⟨gq, gr, rfl, d3, d4, d5⟩
 refine Y.know (WS.oform .g2) ?_
 rintro ⟨gs, gt, rfl, d6, d7, d8⟩
 refine Y.know (WS.oform .g3) ?_
 rintro ⟨gu, gv, rfl, d9, ea, eb⟩
 refine Y.es (goes_list rfl) rfl (esW rfl (.t (.s16 .g3)) (.t .z) .g4 sz_155 rfl rfl) ?_
 refine Y.nt (Y.ret (Y.thenR ?_))
 refine Y.doneS (resW rfl (.s16 .g3) ag_155 .z sz_155) (.c .g1 (.c .g1 (.c .g1 (.c .g1 .n)))) ?_
 exact ⟨(⟨0, 9, 0, [], [], (⟨f.inodes, f.data⟩ : DFs)⟩ : RCall), (by first | exact hj | assumption), _, _, _, _, rfl, rfl⟩
 refine Y.skip (Y.then_ (Y.seq (Y.region (Y.ql rfl (q_build (cs := [.int .i64 0, .slice none 0 0, .slice none 0 0]) rfl bl_48 pv0 rfl) ?_))))
 refine Y.el rfl (e_alloc rfl z_48 rfl rfl) ?_
 rintro _ _ ⟨g40, rfl, rfl⟩
 refine Y.es (goes_list rfl) rfl (esW rfl (.t .z) (.t .g1) .z sz_48 rfl rfl) ?_
 refine Y.nt (Y.seq (Y.seq (Y.region (Y.fa rfl (.s16 .g4) fa_158_0 (Y.ld rfl ag_2 .z .g2 (Y.nt ?_))))))
 refine Y.block (Y.seq (Y.region (Y.ql rfl (q_eql rfl (.t .z) .c) (Y.as rfl .z (Y.nt ?_)))))
 refine Y.condP (.t .z) (fun gw => ?_) (fun gw => ?_)
 refine Y.seq (Y.region (Y.ql rfl (qW rfl ag_27 (.t (.s16 .g9)) .g3 sz_27) (Y.mv rfl (.s16 .g1) (Y.fa rfl (.s16 .g10) fa_158_3 (Y.ld rfl ag_2 .z .g2 (Y.fa rfl (.s16 .g12) fa_158_4 (Y.ld rfl ag_2 .z .g2 ?_)))))))
 refine Y.cl rfl rfl Tryz.func11 rfl rfl (args4 (.t .g5) (.t .g4) (.t .g2) (.t .z)) .n (fun _ _ hs tr => c_11 (kT_27_mk f (tr.ctx aa) (tr.ctx ab)) _ _ _) ?_
 rintro _ _ ⟨io, rfl, rfl⟩
 refine Y.cat (.c .n) ?_
 refine Y.know (WS.oform .z) ?_
 rintro ⟨bv, bw, rfl, ec, ed, ee⟩
 refine Y.el rfl (e_alloc rfl z_31 rfl rfl) ?_
 rintro _ _ ⟨g45, rfl, rfl⟩
 refine Y.es (goes_list rfl) rfl (esW rfl (.t .z) (.t .g1) .z sz_31 rfl rfl) ?_
 refine Y.nt (Y.seq (Y.seq (Y.region (Y.fa rfl .z fa_31_0 (Y.ld rfl ag_2 .z .z (Y.ql rfl (q_neq rfl (.t .z) .c) (Y.nil ?_)))))))
 refine Y.then_ ?_
 refine Y.condN (.t .z) (fun gx => ?_) (fun gx => ?_)
 refine Y.seq (Y.region (Y.ql rfl (qW rfl ag_27 (.t (.s16 (.s16 .g4))) .g5 sz_27) (Y.fa rfl .g4 fa_31_0 (Y.ld rfl ag_2 .z .z ?_))))
 refine Y.cl rfl rfl Tryz.func172 rfl rfl (args2 (.t .g2) (.t .z)) .n (fun _ _ hs tr => c_172 (kT_27_mk f (tr.ctx aa) (tr.ctx ab)) _) ?_
 rintro _ _ ⟨ip, iq, ir, it, rfl, rfl⟩
 refine Y.cat (.c (.c (.c (.c .n)))) ?_
 refine Y.know (WS.oform .z) ?_
 rintro ⟨gy, gz, rfl, ef, eg, eh⟩
 refine Y.know (WS.oform .g1) ?_
 rintro ⟨g0, ha, rfl, ei, ej, ek⟩
 refine Y.know (WS.oform .g2) ?_
 rintro ⟨hb, hc, rfl, em, en, eo⟩
 refine Y.know (WS.oform .g3) ?_
 rintro ⟨hd, he, rfl, ep, et, eu⟩
 refine Y.es (goes_list rfl) rfl (esW rfl (.t (.s16 (.s16 .g6))) (.t .z) .g7 sz_155 rfl rfl) ?_
 refine Y.nt (Y.ret (Y.thenR (Y.inBR (Y.thenR ?_))))
 refine Y.doneS (resW rfl (.s16 (.s16 .g6)) ag_155 .z sz_155) (.c .g1 (.c .g1 (.c .g1 (.c .g1 .n)))) ?_
 exact ⟨(⟨0, ((readR f ((walkP f c.path).1) c.frm c.size).code), 0, [], [], (⟨f.inodes, f.data⟩ : DFs)⟩ : RCall), (by first | exact hj | assumption), _, _, _, _, rfl, rfl⟩
 refine Y.skip (Y.then_ (Y.seq ?_))
 refine Y.sel (.c .g1 (.c .z (.c .z (.c .z (.c .z (.c .z .n)))))) ?_
 refine Y.dr .g1 8 mixo ?_
 refine Y.sc (qs 0 6 ++ [(6, false), (7, true), (8, false)]) (by kernel_rfl) ?_
 refine Y.df rfl rfl .g1 .g3 fa_31_1 (Y.dl rfl rfl .g1 ag_22 .z .z (Y.dk rfl rfl .g1 (q_len rfl u_22 (.t .z)) (Y.df rfl rfl .g1 .g6 fa_31_1 (Y.dl rfl rfl .g1 ag_22 .z .z (Y.dk rfl rfl .g1 (qW rfl ag_27 (.t (.s16 (.s16 .g9))) .g4 sz_27) ?_)))))
 refine Y.call (goes_sch rfl rfl) rfl (by decide) rfl (c_call rfl Tryz.func67 rfl rfl (args1 (.t .z))) .n (fun _ _ hs tr => c_67 (kT_27_mk f (tr.ctx aa) (tr.ctx ab))) ?_
 rintro _ _ ⟨iu, iv, rfl, rfl⟩
 refine Y.cat (.c (.c .n)) ?_
 refine Y.know (WS.oform .z) ?_
 rintro ⟨bx, bz, rfl, ev, ew, ey⟩
 refine Y.know (WS.oform .g1) ?_
 rintro ⟨b0, b1, rfl, ez, e0, e1⟩
 refine Y.sk .g3 ?_
 refine Y.dk rfl rfl .g3 (q_build (cs := [.int .i64 0, .int .i64 0, .int .i64 (((readR f ((walkP f c.path).1) c.frm c.size).bytes).length : Int), .slice bv ((readR f ((walkP f c.path).1) c.frm c.size).bytes).length bw, .slice none 0 0, .slice bx f.inodes.length bz, .slice b0 f.data.length b1]) rfl bl_155 (pv3 (.t .g4) (.t .g2) (.t .z)) rfl) ?_
 refine Y.es (goes_sch rfl rfl) rfl (esW rfl (.t (.s16 (.s16 .g10))) (.t .z) .g5 sz_155 rfl rfl) ?_
 refine Y.sl rfl ?_
 refine Y.schN ?_
 refine Y.drawN (by kernel_rfl) ?_
 refine Y.then_ (Y.ret (Y.inBR (Y.thenR ?_)))
 refine Y.add (c := ownA kSl_9 [] [.slice none 0 0]) (fun w S => own_nil w S none) ?_
 refine Y.doneS (resW rfl (.s16 (.s16 .g10)) ag_155 .g1 sz_155) (.c .g4 (.c .z (.c .g1 (.c .g1 .n)))) ?_
 exact ⟨(⟨0, 0, (((readR f ((walkP f c.path).1) c.frm c.size).bytes).length : Int), (readR f ((walkP f c.path).1) c.frm c.size).bytes, [], (⟨f.inodes, f.data⟩ : DFs)⟩ : RCall), (by first | exact hj | assumption), _, _, _, _, rfl, rfl⟩
 refine Y.seq (Y.region (Y.ql rfl (q_eql rfl (.t .g2) .c) (Y.as rfl .z (Y.nt ?_))))
 refine Y.condP (.t .z) (fun hf => ?_) (fun hf => ?_)
 refine Y.region (Y.ql rfl (qW rfl ag_27 (.t (.s16 .g11)) .g3 sz_27) (Y.mv rfl (.s16 .g3) (Y.fa rfl (.s16 .g12) fa_158_3 (Y.ld rfl ag_2 .z .g2 (Y.fa rfl (.s16 .g14) fa_158_5 (Y.ld rfl ag_22 .z .g2 (Y.mv rfl (.s16 (.s16 .g4)) ?_)))))))
 refine Y.cl rfl rfl Tryz.func25 rfl rfl (args5 (.t .g6) (.t .g5) (.t .g3) (.t .g1) (.t .z)) .n (fun _ _ hs tr => c_25 (kT_27_mk f (tr.ctx aa) (tr.ctx ab)) _ _ (tr.ctx a2) (tr.ctx h2)) ?_
 rintro _ _ ⟨iw, ix, rfl, rfl⟩
 refine Y.cat (.c (.c .n)) ?_
 refine Y.know (WS.oform .z) ?_
 rintro ⟨hg, au, rfl, e2, e3, e4⟩
 refine Y.know (WS.oform .g1) ?_
 rintro ⟨a8, a9, rfl, e5, e7, e8⟩
 refine Y.es (goes_list rfl) rfl (esW rfl (.t .g14) (.t .z) .g2 sz_48 rfl rfl) ?_
 refine Y.nil (Y.inBN (Y.then_ (Y.seq (Y.seq (Y.region (Y.fa rfl .g14 fa_48_0 (Y.ld rfl ag_2 .z .z (Y.ql rfl (q_neq rfl (.t .z) .c) ?_))))))))
 refine Y.nt ?_
 refine Y.condN (.t .z) (fun e9 => ?_) (fun e9 => ?_)
 refine Y.seq (Y.region (Y.ql rfl (qW rfl ag_27 (.t (.s16 (.s16 .g6))) .g5 sz_27) (Y.fa rfl (.s16 .g2) fa_48_0 (Y.ld rfl ag_2 .z .z ?_))))
 refine Y.cl rfl rfl Tryz.func172 rfl rfl (args2 (.t .g2) (.t .z)) .n (fun _ _ hs tr => c_172 (kT_27_mk f (tr.ctx aa) (tr.ctx ab)) _) ?_
 rintro _ _ ⟨iy, iz, i0, i1, rfl, rfl⟩
 refine Y.cat (.c (.c (.c (.c .n)))) ?_
 refine Y.know (WS.oform .z) ?_
 rintro ⟨hh, hi, rfl, fb, fc, fd⟩
 refine Y.know (WS.oform .g1) ?_
 rintro ⟨hk, hl, rfl, fe, ff, fg⟩
 refine Y.know (WS.oform .g2) ?_
 rintro ⟨hm, hn, rfl, fh, fi, fj⟩
 refine Y.know (WS.oform .g3) ?_
 rintro ⟨ho, hp, rfl, fk, fl, fm⟩
 refine Y.es (goes_list rfl) rfl (esW rfl (.t (.s16 (.s16 .g8))) (.t .z) .g7 sz_155 rfl rfl) ?_
 refine Y.nt (Y.ret (Y.thenR ?_))
 refine Y.doneS (resW rfl (.s16 (.s16 .g8)) ag_155 .z sz_155) (.c .g1 (.c .g1 (.c .g1 (.c .g1 .n)))) ?_
 exact ⟨(⟨0, ((writeR f ((walkP f c.path).1) c.frm c.data b).code), 0, [], [], (⟨f.inodes, f.data⟩ : DFs)⟩ : RCall), (by first | exact hj | assumption), _, _, _, _, rfl, rfl⟩
 obtain ⟨hJw, hJl⟩ := j_write hj e9
 refine Y.skip (Y.then_ (Y.seq ?_))
 refine Y.open (.c .g1 .n) own_raw ?_
 rintro b2 ah
 obtain ⟨al, af⟩ := get_ex (xs := (writeR f ((walkP f c.path).1) c.frm c.data b).fs.inodes) (j := Int.toNat ((walkP f c.path).1)) (by first | omega | (simp <;> omega))
 obtain ⟨i2, av⟩ := get_ex (xs := b2) (j := Int.toNat ((walkP f c.path).1)) (by rw [ah]; exact (List.getElem?_eq_some_iff.1 af).1)
 refine Y.turn .g1 (seq_split af av) ?_
 refine Y.open (.c .z .n) kT_44_op ?_
 rintro ⟨i3, i4⟩ rfl
 refine Y.know (WS.oform .z) ?_
 rintro ⟨b3, b4, rfl, fn, fo, fp⟩
 refine Y.know (WS.oform .g1) ?_
 rintro ⟨b5, b6, rfl, fq, fr, ft⟩
 have hq := kind_at (i := ((walkP f c.path).1)) af (by omega)
 have hr := ents_at (a := ((walkP f c.path).1)) af (by omega)
 have hu := links_at (a := ((walkP f c.path).1)) af (by omega)
 refine Y.dr .z 10 mixo ?_
 refine Y.sc (qs 0 10 ++ [(10, false)]) (by kernel_rfl) ?_
 refine Y.df rfl rfl .z (.s16 .g1) fa_48_1 (Y.dk rfl rfl .z (q_fieldAddrA (k := 1) rfl (.t .z) (fun _ => fa_27_0 _ _) rfl) (Y.dl rfl rfl .z ag_24 .z .g5 (Y.dm rfl rfl .z (.s16 .g16) ?_)))
 refine Y.know (WS.oad .g4 (by first | omega | (simp <;> omega) | (simp only [List.length_append, List.length_cons, List.length_nil, List.length_set] at *; omega))) ?_
 rintro ⟨aw, rfl⟩
 refine Y.dk rfl rfl .z (q_indexAddr (j := Int.toNat ((walkP f c.path).1)) rfl u_24 sz_44 (.t .g1) (.t .z) (by omega) (by first | omega | (simp <;> omega))) ?_
 refine Y.df rfl rfl .z .z fa_44_2 (Y.dk rfl rfl .z (q_load rfl ag_2 (.t .z) (WS.raw .g4 av rfl)) (Y.df rfl rfl .z (.s16 .g8) fa_48_1 (Y.dk rfl rfl .z (q_loadA (cs := [.slice (some aw) ((writeR f ((walkP f c.path).1) c.frm c.data b).fs.inodes).length au, .slice a8 ((writeR f ((walkP f c.path).1) c.frm c.data b).fs.data).length a9]) rfl ag_27 sz_27 (.t .z) (WS.rows .g5 (sub_at rfl))) (Y.dk rfl rfl .z (q_build (cs := [.int .i64 0, .int .i64 0, .int .i64 al.size, .slice none 0 0, .slice none 0 0, .slice (some aw) ((writeR f ((walkP f c.path).1) c.frm c.data b).fs.inodes).length au, .slice a8 ((writeR f ((walkP f c.path).1) c.frm c.data b).fs.data).length a9]) rfl bl_155 (pv2 (.t .g2) (.t .z)) rfl) ?_))))
 refine Y.es (goes_sch rfl rfl) rfl (esW rfl (.t (.s16 (.s16 .g14))) (.t .z) .g7 sz_155 rfl rfl) ?_
 refine Y.sl rfl ?_
 refine Y.schN ?_
 refine Y.drawN (by kernel_rfl) ?_
 refine Y.then_ (Y.ret ?_)
 refine Y.turns (c := ownA kT_44 al [.int .i64 al.kind, .int .i64 al.links, .int .i64 al.size, .slice b3 al.blocks.length b4, .slice b5 al.ents.length b6]) (.c .g1 (.c .g1 .n)) (fun w S h => kT_44_omk al h) ?_
 refine Y.turns (c := ownA kSl_44 ((writeR f ((walkP f c.path).1) c.frm c.data b).fs.inodes) [.slice (some aw) ((writeR f ((walkP f c.path).1) c.frm c.data b).fs.inodes).length au]) (.c .g4 (.c .z (.c .g1 (.c .g1 .n)))) (own_unfocus0 (K := kT_44) ah af av) ?_
 refine Y.add (c := ownA kSl_5 [] [.slice none 0 0]) (fun w S => own_nil w S none) ?_
 refine Y.add (c := ownA kSl_9 [] [.slice none 0 0]) (fun w S => own_nil w S none) ?_
 refine Y.doneS (resW rfl (.s16 (.s16 .g14)) ag_155 .g3 sz_155) (.c .g1 (.c .z (.c .z (.c .g2 .n)))) ?_
 exact ⟨(⟨0, 0, al.size, [], [], (⟨(writeR f ((walkP f c.path).1) c.frm c.data b).fs.inodes, (writeR f ((walkP f c.path).1) c.frm c.data b).fs.data⟩ : DFs)⟩ : RCall), (by first | exact hj | assumption), _, _, _, _, rfl, rfl⟩
 refine Y.region (Y.ql rfl (qW rfl ag_27 (.t (.s16 .g11)) .g3 sz_27) (Y.mv rfl (.s16 .g3) (Y.fa rfl (.s16 .g12) fa_158_4 (Y.ld rfl ag_2 .z .g2 (Y.mv rfl (.s16 (.s16 .g2)) ?_)))))
 refine Y.cl rfl rfl Tryz.func28 rfl rfl (args4 (.t .g4) (.t .g3) (.t .g1) (.t .z)) .n (fun _ _ hs tr => c_28 (kT_27_mk f (tr.ctx aa) (tr.ctx ab)) _ _ (tr.ctx h2)) ?_
 rintro _ _ ⟨hv, hw, rfl, rfl⟩
 refine Y.cat (.c (.c .n)) ?_
 refine Y.know (WS.oform .z) ?_
 rintro ⟨fu, ai, rfl, b7, b8, ca⟩
 refine Y.know (WS.oform .g1) ?_
 rintro ⟨am, an, rfl, cb, cc, cd⟩
 refine Y.es (goes_list rfl) rfl (esW rfl (.t .g12) (.t .z) .g2 sz_48 rfl rfl) ?_
 refine Y.nil (Y.inBN (Y.then_ (Y.seq (Y.seq (Y.region (Y.fa rfl .g12 fa_48_0 (Y.ld rfl ag_2 .z .z (Y.ql rfl (q_neq rfl (.t .z) .c) ?_))))))))
 refine Y.nt ?_
 refine Y.condN (.t .z) (fun ba => ?_) (fun ba => ?_)
 refine Y.seq (Y.region (Y.ql rfl (qW rfl ag_27 (.t (.s16 (.s16 .g4))) .g5 sz_27) (Y.fa rfl .g16 fa_48_0 (Y.ld rfl ag_2 .z .z ?_))))
 refine Y.cl rfl rfl Tryz.func172 rfl rfl (args2 (.t .g2) (.t .z)) .n (fun _ _ hs tr => c_172 (kT_27_mk f (tr.ctx aa) (tr.ctx ab)) _) ?_
 rintro _ _ ⟨hx, hy, hz, h3, rfl, rfl⟩
 refine Y.cat (.c (.c (.c (.c .n)))) ?_
 refine Y.know (WS.oform .z) ?_
 rintro ⟨fv, fw, rfl, ce, cf, cg⟩
 refine Y.know (WS.oform .g1) ?_
 rintro ⟨fx, fy, rfl, ch, ci, cj⟩
 refine Y.know (WS.oform .g2) ?_
 rintro ⟨fz, f0, rfl, ck, cm, cn⟩
 refine Y.know (WS.oform .g3) ?_
 rintro ⟨f1, f2, rfl, co, cp, cq⟩
 refine Y.es (goes_list rfl) rfl (esW rfl (.t (.s16 (.s16 .g6))) (.t .z) .g7 sz_155 rfl rfl) ?_
 refine Y.nt (Y.ret (Y.thenR ?_))
 refine Y.doneS (resW rfl (.s16 (.s16 .g6)) ag_155 .z sz_155) (.c .g1 (.c .g1 (.c .g1 (.c .g1 .n)))) ?_
 exact ⟨(⟨0, ((cutR f ((walkP f c.path).1) c.size b).code), 0, [], [], (⟨f.inodes, f.data⟩ : DFs)⟩ : RCall), (by first | exact hj | assumption), _, _, _, _, rfl, rfl⟩
 obtain ⟨hJw, hJl⟩ := j_cut hj ba
 refine Y.skip (Y.then_ (Y.seq ?_))
 refine Y.open (.c .g1 .n) own_raw ?_
 rintro bb ae
 obtain ⟨ad, ac⟩ := get_ex (xs := (cutR f ((walkP f c.path).1) c.size b).fs.inodes) (j := Int.toNat ((walkP f c.path).1)) (by first | omega | (simp <;> omega))
 obtain ⟨h4, aj⟩ := get_ex (xs := bb) (j := Int.toNat ((walkP f c.path).1)) (by rw [ae]; exact (List.getElem?_eq_some_iff.1 ac).1)
 refine Y.turn .g1 (seq_split ac aj) ?_
 refine Y.open (.c .z .n) kT_44_op ?_
 rintro ⟨h5, h6⟩ rfl
 refine Y.know (WS.oform .z) ?_
 rintro ⟨bc, bd, rfl, cr, ct, cu⟩
 refine Y.know (WS.oform .g1) ?_
 rintro ⟨be, bf, rfl, cv, cw, cx⟩
 have f3 := kind_at (i := ((walkP f c.path).1)) ac (by omega)
 have f4 := ents_at (a := ((walkP f c.path).1)) ac (by omega)
 have f5 := links_at (a := ((walkP f c.path).1)) ac (by omega)
 refine Y.dr .z 10 mixo ?_
 refine Y.sc (qs 0 10 ++ [(10, false)]) (by kernel_rfl) ?_
 refine Y.df rfl rfl .z .g15 fa_48_1 (Y.dk rfl rfl .z (q_fieldAddrA (k := 1) rfl (.t .z) (fun _ => fa_27_0 _ _) rfl) (Y.dl rfl rfl .z ag_24 .z .g5 (Y.dm rfl rfl .z (.s16 .g14) ?_)))
 refine Y.know (WS.oad .g4 (by first | omega | (simp <;> omega) | (simp only [List.length_append, List.length_cons, List.length_nil, List.length_set] at *; omega))) ?_
 rintro ⟨ak, rfl⟩
 refine Y.dk rfl rfl .z (q_indexAddr (j := Int.toNat ((walkP f c.path).1)) rfl u_24 sz_44 (.t .g1) (.t .z) (by omega) (by first | omega | (simp <;> omega))) ?_
 refine Y.df rfl rfl .z .z fa_44_2 (Y.dk rfl rfl .z (q_load rfl ag_2 (.t .z) (WS.raw .g4 aj rfl)) (Y.df rfl rfl .z (.s16 .g6) fa_48_1 (Y.dk rfl rfl .z (q_loadA (cs := [.slice (some ak) ((cutR f ((walkP f c.path).1) c.size b).fs.inodes).length ai, .slice am ((cutR f ((walkP f c.path).1) c.size b).fs.data).length an]) rfl ag_27 sz_27 (.t .z) (WS.rows .g5 (sub_at rfl))) (Y.dk rfl rfl .z (q_build (cs := [.int .i64 0, .int .i64 0, .int .i64 ad.size, .slice none 0 0, .slice none 0 0, .slice (some ak) ((cutR f ((walkP f c.path).1) c.size b).fs.inodes).length ai, .slice am ((cutR f ((walkP f c.path).1) c.size b).fs.data).length an]) rfl bl_155 (pv2 (.t .g2) (.t .z)) rfl) ?_))))
 refine Y.es (goes_sch rfl rfl) rfl (esW rfl (.t (.s16 (.s16 .g12))) (.t .z) .g7 sz_155 rfl rfl) ?_
 refine Y.sl rfl ?_
 refine Y.schN ?_
 refine Y.drawN (by kernel_rfl) ?_
 refine Y.then_ (Y.ret ?_)
 refine Y.turns (c := ownA kT_44 ad [.int .i64 ad.kind, .int .i64 ad.links, .int .i64 ad.size, .slice bc ad.blocks.length bd, .slice be ad.ents.length bf]) (.c .g1 (.c .g1 .n)) (fun w S h => kT_44_omk ad h) ?_
 refine Y.turns (c := ownA kSl_44 ((cutR f ((walkP f c.path).1) c.size b).fs.inodes) [.slice (some ak) ((cutR f ((walkP f c.path).1) c.size b).fs.inodes).length ai]) (.c .g4 (.c .z (.c .g1 (.c .g1 .n)))) (own_unfocus0 (K := kT_44) ae ac aj) ?_
 refine Y.add (c := ownA kSl_5 [] [.slice none 0 0]) (fun w S => own_nil w S none) ?_
 refine Y.add (c := ownA kSl_9 [] [.slice none 0 0]) (fun w S => own_nil w S none) ?_
 refine Y.doneS (resW rfl (.s16 (.s16 .g12)) ag_155 .g3 sz_155) (.c .g1 (.c .z (.c .z (.c .g2 .n)))) ?_
 exact ⟨(⟨0, 0, ad.size, [], [], (⟨(cutR f ((walkP f c.path).1) c.size b).fs.inodes, (cutR f ((walkP f c.path).1) c.size b).fs.data⟩ : DFs)⟩ : RCall), (by first | exact hj | assumption), _, _, _, _, rfl, rfl⟩

end Go.Proofs.YtmejbfmhaoilmaaGreat

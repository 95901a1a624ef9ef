/- What is proved: contracts of functions, one a function. No condition. -/
import Derived.Test.YtmejbfmhaoilmaaGreatBase1
import Derived.Test.YtmejbfmhaoilmaaGreatW82
namespace Go.Proofs.YtmejbfmhaoilmaaGreat
open Go Go.RowKit
set_option linter.unusedVariables false
set_option linter.unusedSimpArgs false
set_option maxHeartbeats 1000000
set_option maxRecDepth 20000
theorem c_159 {w0 : World} {S0 : Bs} {f : DFs} {ls : List Value} (h0 : kT_27.ro w0 (FF w0 S0) f ls) (p : ByteArray) (sn : p.size ≤ 140737488351232) (q : ByteArray) (so : q.size ≤ 140737488351232) (hj : Jf f) :
    Calls Tryz.prog 159 #[.agg ls.toArray, .string p, .string q] w0 (TriPost w0 S0 (fun r l => ∃ x : RCall, Jf x.fs ∧ RA_155 x r l)) := by
 obtain ⟨pw, px, rfl, ac, ad⟩ := kT_27_ro h0
 obtain ⟨dj, bu, rfl, lu, lv, lw, dp⟩ := ro_form ac
 obtain ⟨bv, bw, rfl, lx, ly, lz, l1⟩ := ro_form ad
 have ht : J0 f := hj.toJ0
 have sp := hj.n.2
 have sq := hj.n.1
 refine Y.enter (N := 156) Tryz.func159 rfl rfl (by simp) [(0, .agg #[.slice dj f.inodes.length bu, .slice bv f.data.length bw]), (1, .string p), (2, .string q)] (by simp) (l0 := []) trivial ?_
 refine Y.seq (Y.region ?_)
 refine Y.el rfl (e_box (cs := [.slice dj f.inodes.length bu, .slice bv f.data.length bw]) (n := 2) rfl (.t .z) rfl rfl) ?_
 rintro _ _ ⟨g3, rfl, rfl⟩
 refine Y.el rfl (e_alloc rfl z_155 rfl rfl) ?_
 rintro _ _ ⟨g4, rfl, rfl⟩
 refine Y.nt (Y.seq (Y.region (Y.mv rfl .g3 ?_)))
 refine Y.cl rfl rfl Tryz.func171 rfl rfl (args2 (.t .g2) (.t .z)) .n (fun _ _ hs tr => c_171w (tr.ptr .g1 (kT_27_mk f (tr.ctx ac) (tr.ctx ad))) _ (by first | assumption | omega | (dsimp only; omega)) (by assumption)) ?_
 rintro _ _ ⟨rfl, rfl⟩
 refine Y.cat .n ?_
 have l2 := parP_size (f := f) (s := p)
 have l3 := jparP_place ht p
 refine Y.mv rfl .z (Y.ql rfl (q_extract (v := .int .i64 ((parP f p).1)) rfl (.t .z) rfl) (Y.ql rfl (q_extract (v := .string ((parP f p).2.1)) rfl (.t .g1) rfl) (Y.ql rfl (q_extract (v := .int .i64 ((parP f p).2.2)) rfl (.t .g2) rfl) (Y.as rfl .g2 (Y.as rfl .g2 (Y.as rfl .g2 (Y.nt ?_)))))))
 refine Y.seq (Y.seq (Y.region (Y.mv rfl .z (Y.ql rfl (q_neq rfl (.t .z) .c) (Y.nt ?_)))))
 refine Y.condN (.t .z) (fun b7 => ?_) (fun b7 => ?_)
 refine Y.seq (Y.region (Y.ql rfl (qW rfl ag_27 (.t .g12) .g1 sz_27) (Y.mv rfl .g3 ?_)))
 refine Y.cl rfl rfl Tryz.func172 rfl rfl (args2 (.t .g1) (.t .z)) .n (fun _ _ hs tr => c_172 (kT_27_mk f (tr.ctx ac) (tr.ctx ad)) _) ?_
 rintro _ _ ⟨v8, sr, ss, st, rfl, rfl⟩
 refine Y.cat (.c (.c (.c (.c .n)))) ?_
 refine Y.know (WS.oform .z) ?_
 rintro ⟨py, pz, rfl, l4, l5, l6⟩
 refine Y.know (WS.oform .g1) ?_
 rintro ⟨p0, p1, rfl, l7, l8, l9⟩
 refine Y.know (WS.oform .g2) ?_
 rintro ⟨p2, p3, rfl, ma, mb, mc⟩
 refine Y.know (WS.oform .g3) ?_
 rintro ⟨p4, p5, rfl, md, me, mf⟩
 refine Y.es (goes_list rfl) rfl (esW rfl (.t .g14) (.t .z) .g4 sz_155 rfl rfl) ?_
 refine Y.nt (Y.ret (Y.thenR ?_))
 refine Y.doneS (resW rfl .g14 ag_155 .z sz_155) (.c .g1 (.c .g1 (.c .g1 (.c .g1 .n)))) ?_
 exact ⟨(⟨0, ((parP f p).2.2), 0, [], [], (⟨f.inodes, f.data⟩ : DFs)⟩ : RCall), (by first | exact hj | assumption), _, _, _, _, rfl, rfl⟩
 refine Y.skip (Y.then_ (Y.seq (Y.region (Y.fa rfl .g12 fa_27_0 (Y.ld rfl ag_24 .z .g1 (Y.mv rfl .g6 ?_))))))
 obtain ⟨ds, cw, au⟩ := dp (by omega)
 subst cw
 obtain ⟨bx, bb⟩ := get_ex (xs := f.inodes) (j := Int.toNat ((parP f p).1)) (by first | omega | (simp <;> omega))
 obtain ⟨mg, dt, cc, cd⟩ := au.elem bb
 obtain ⟨gd, ge, rfl, cx, bc⟩ := kT_44_ro dt
 obtain ⟨gf, gg, rfl, fj, fk, fl, fm⟩ := ro_form cx
 obtain ⟨gh, gi, rfl, fn, fo, fp, bz⟩ := ro_form bc
 have p6 := kind_at (i := ((parP f p).1)) bb (by omega)
 have ai := ents_at (a := ((parP f p).1)) bb (by omega)
 have p7 := links_at (a := ((parP f p).1)) bb (by omega)
 have du := ht.get bb
 refine Y.ql rfl (q_indexAddr (j := Int.toNat ((parP f p).1)) rfl u_24 sz_44 (.t .g1) (.t .z) (by omega) (by first | omega | (simp <;> omega))) ?_
 refine Y.fa rfl .z fa_44_4 (Y.le rfl ag_42 .z cc cd (Y.mv rfl .g9 ?_))
 refine Y.cl rfl rfl Tryz.func127 rfl rfl (args2 (.t .g1) (.t .z)) .n (fun _ _ hs tr => c_127 (tr.ctx bc) _ (by first | assumption | omega | (dsimp only; omega))) ?_
 rintro _ _ ⟨rfl, rfl⟩
 refine Y.cat .n ?_
 refine Y.as rfl .z (Y.nt (Y.seq (Y.seq (Y.region (Y.mv rfl .z (Y.ql rfl (q_lss rfl (.t .z) .c) (Y.nil ?_)))))))
 refine Y.then_ ?_
 refine Y.condP (.t .z) (fun p8 => ?_) (fun p8 => ?_)
 have mh := idxF_rng (nameP ((parP f p).2.1)) bx.ents
 refine Y.seq (Y.region (Y.ql rfl (qW rfl ag_27 (.t (.s16 .g7)) .g1 sz_27) ?_))
 refine Y.cl rfl rfl Tryz.func172 rfl rfl (args2 (.t .z) .c) .n (fun _ _ hs tr => c_172 (kT_27_mk f (tr.ctx ac) (tr.ctx ad)) _) ?_
 rintro _ _ ⟨su, sv, sw, sx, rfl, rfl⟩
 refine Y.cat (.c (.c (.c (.c .n)))) ?_
 refine Y.know (WS.oform .z) ?_
 rintro ⟨p9, qa, rfl, mi, mj, mk⟩
 refine Y.know (WS.oform .g1) ?_
 rintro ⟨qb, qc, rfl, ml, mm, mn⟩
 refine Y.know (WS.oform .g2) ?_
 rintro ⟨qd, qe, rfl, mo, mp, mq⟩
 refine Y.know (WS.oform .g3) ?_
 rintro ⟨qf, qh, rfl, mr, ms, mt⟩
 refine Y.es (goes_list rfl) rfl (esW rfl (.t (.s16 .g8)) (.t .z) .g4 sz_155 rfl rfl) ?_
 refine Y.nt (Y.ret (Y.thenR ?_))
 refine Y.doneS (resW rfl (.s16 .g8) ag_155 .z sz_155) (.c .g1 (.c .g1 (.c .g1 (.c .g1 .n)))) ?_
 exact ⟨(⟨0, 4, 0, [], [], (⟨f.inodes, f.data⟩ : DFs)⟩ : RCall), (by first | exact hj | assumption), _, _, _, _, rfl, rfl⟩
 have mu := idxF_rng (nameP ((parP f p).2.1)) bx.ents
 refine Y.skip (Y.then_ (Y.seq (Y.region (Y.fa rfl (.s16 .g7) fa_27_0 (Y.ld rfl ag_24 .z .g1 (Y.mv rfl (.s16 .g1) ?_))))))
 refine Y.ql rfl (q_indexAddr (j := Int.toNat ((parP f p).1)) rfl u_24 sz_44 (.t .g1) (.t .z) (by omega) (by first | omega | (simp <;> omega))) ?_
 refine Y.fa rfl .z fa_44_4 (Y.le rfl ag_42 .z cc cd (Y.mv rfl .g8 ?_))
 obtain ⟨qi, cy, cz⟩ := bz (by omega)
 subst cy
 obtain ⟨ag, ba⟩ := get_ex (xs := bx.ents) (j := Int.toNat (idxF (nameP ((parP f p).2.1)) bx.ents)) (by first | omega | (simp <;> omega))
 obtain ⟨mw, dv, dw, dx⟩ := cz.elem ba
 obtain ⟨rfl, gj⟩ := kT_46_ro dv
 have mx := jents_ok du _ _ ba
 refine Y.ql rfl (q_indexAddr (j := Int.toNat (idxF (nameP ((parP f p).2.1)) bx.ents)) rfl u_42 sz_46 (.t .g1) (.t .z) (by omega) (by first | omega | (simp <;> omega))) ?_
 refine Y.fa rfl .z fa_46_1 (Y.le rfl ag_2 .z dw dx (Y.as rfl .z (Y.nt (Y.seq (Y.region (Y.mv rfl (.s16 (.s16 .g5)) ?_))))))
 refine Y.cl rfl rfl Tryz.func171 rfl rfl (args2 (.t (.s16 (.s16 .g3))) (.t .z)) .n (fun _ _ hs tr => c_171w (tr.ptr .g1 (kT_27_mk f (tr.ctx ac) (tr.ctx ad))) _ (by first | assumption | omega | (dsimp only; omega)) (by assumption)) ?_
 rintro _ _ ⟨rfl, rfl⟩
 refine Y.cat .n ?_
 have gk := parP_size (f := f) (s := q)
 have gl := jparP_place ht q
 refine Y.mv rfl .z (Y.ql rfl (q_extract (v := .int .i64 ((parP f q).1)) rfl (.t .z) rfl) (Y.ql rfl (q_extract (v := .string ((parP f q).2.1)) rfl (.t .g1) rfl) (Y.ql rfl (q_extract (v := .int .i64 ((parP f q).2.2)) rfl (.t .g2) rfl) (Y.as rfl .g2 (Y.as rfl .g2 (Y.er (.s16 .g16) (Y.as rfl .g2 (Y.nil ?_))))))))
 refine Y.then_ (Y.seq (Y.seq (Y.region (Y.mv rfl .z (Y.ql rfl (q_neq rfl (.t .z) .c) (Y.nt ?_))))))
 refine Y.condN (.t .z) (fun qj => ?_) (fun qj => ?_)
 refine Y.seq (Y.region (Y.ql rfl (qW rfl ag_27 (.t (.s16 (.s16 .g12))) .g1 sz_27) (Y.mv rfl .g3 ?_)))
 refine Y.cl rfl rfl Tryz.func172 rfl rfl (args2 (.t .g1) (.t .z)) .n (fun _ _ hs tr => c_172 (kT_27_mk f (tr.ctx ac) (tr.ctx ad)) _) ?_
 rintro _ _ ⟨sy, s0, s1, s2, rfl, rfl⟩
 refine Y.cat (.c (.c (.c (.c .n)))) ?_
 refine Y.know (WS.oform .z) ?_
 rintro ⟨qk, qm, rfl, my, mz, m0⟩
 refine Y.know (WS.oform .g1) ?_
 rintro ⟨qn, qo, rfl, m1, m2, m3⟩
 refine Y.know (WS.oform .g2) ?_
 rintro ⟨qp, qq, rfl, m4, m5, m6⟩
 refine Y.know (WS.oform .g3) ?_
 rintro ⟨qr, qt, rfl, m7, m8, m9⟩
 refine Y.es (goes_list rfl) rfl (esW rfl (.t (.s16 (.s16 .g14))) (.t .z) .g4 sz_155 rfl rfl) ?_
 refine Y.nt (Y.ret (Y.thenR ?_))
 refine Y.doneS (resW rfl (.s16 (.s16 .g14)) ag_155 .z sz_155) (.c .g1 (.c .g1 (.c .g1 (.c .g1 .n)))) ?_
 exact ⟨(⟨0, ((parP f q).2.2), 0, [], [], (⟨f.inodes, f.data⟩ : DFs)⟩ : RCall), (by first | exact hj | assumption), _, _, _, _, rfl, rfl⟩
 refine Y.skip (Y.then_ (Y.seq (Y.seq (Y.region (Y.fa rfl (.s16 (.s16 .g12)) fa_27_0 (Y.ld rfl ag_24 .z .g1 (Y.mv rfl .g13 ?_)))))))
 obtain ⟨s3, bd⟩ := get_ex (xs := f.inodes) (j := Int.toNat ag.ino) (by first | omega | (simp <;> omega))
 obtain ⟨na, dy, dz, d0⟩ := au.elem bd
 obtain ⟨gm, gn, rfl, c0, c1⟩ := kT_44_ro dy
 obtain ⟨go, gp, rfl, fq, fr, ft, fu⟩ := ro_form c0
 obtain ⟨gq, gr, rfl, fv, fw, fx, fy⟩ := ro_form c1
 have qu := kind_at (i := ag.ino) bd (by omega)
 have b0 := ents_at (a := ag.ino) bd (by omega)
 have qv := links_at (a := ag.ino) bd (by omega)
 have nb := ht.get bd
 refine Y.ql rfl (q_indexAddr (j := Int.toNat ag.ino) rfl u_24 sz_44 (.t .g1) (.t .z) (by omega) (by first | omega | (simp <;> omega))) ?_
 refine Y.fa rfl .z fa_44_0 (Y.le rfl ag_2 .z dz d0 (Y.ql rfl (q_eql rfl (.t .z) .c) (Y.mv rfl .z ?_)))
 refine Y.caseP .z (fun g62 => ?_) (fun g62 => ?_)
 refine Y.qg rfl rfl .z rfl rfl rfl (q_move rfl (.t .g12)) ?_
 refine Y.qg rfl rfl .g1 rfl rfl rfl (q_move rfl (.t (.s16 .g4))) ?_
 refine Y.call (goes_listg rfl rfl .g2) rfl (by decide) rfl (c_call rfl Tryz.func176 rfl rfl (args4 (.t (.s16 (.s16 (.s16 .g6)))) (.t .g1) (.t .z) .c)) .n (fun _ _ hs tr => c_176w (tr.ptr .g1 (kT_27_mk f (tr.ctx ac) (tr.ctx ad))) _ _ _ (by assumption) (by first | assumption | (constructor <;> omega)) 10 (by omega) (by omega)) ?_
 rintro _ _ ⟨rfl, rfl⟩
 refine Y.cat .n ?_
 refine Y.ql rfl (q_pickT rfl (.t .g3) (.t .z)) (Y.nt ?_)
 refine Y.cond (.t .z) (fun qw => ?_) (fun qw => ?_)
 refine Y.seq (Y.region (Y.ql rfl (qW rfl ag_27 (.t (.s16 (.s16 (.s16 .g8)))) .g1 sz_27) ?_))
 refine Y.cl rfl rfl Tryz.func172 rfl rfl (args2 (.t .z) .c) .n (fun _ _ hs tr => c_172 (kT_27_mk f (tr.ctx ac) (tr.ctx ad)) _) ?_
 rintro _ _ ⟨s4, s5, s6, s7, rfl, rfl⟩
 refine Y.cat (.c (.c (.c (.c .n)))) ?_
 refine Y.know (WS.oform .z) ?_
 rintro ⟨qx, qy, rfl, nd, ne, nf⟩
 refine Y.know (WS.oform .g1) ?_
 rintro ⟨qz, q0, rfl, ng, nh, ni⟩
 refine Y.know (WS.oform .g2) ?_
 rintro ⟨q1, q2, rfl, nj, nk, nl⟩
 refine Y.know (WS.oform .g3) ?_
 rintro ⟨q3, q4, rfl, nm, nn, no⟩
 refine Y.es (goes_list rfl) rfl (esW rfl (.t (.s16 (.s16 (.s16 .g9)))) (.t .z) .g4 sz_155 rfl rfl) ?_
 refine Y.nt (Y.ret (Y.thenR ?_))
 refine Y.doneS (resW rfl (.s16 (.s16 (.s16 .g9))) ag_155 .z sz_155) (.c .g1 (.c .g1 (.c .g1 (.c .g1 .n)))) ?_
 exact ⟨(⟨0, 1, 0, [], [], (⟨f.inodes, f.data⟩ : DFs)⟩ : RCall), (by first | exact hj | assumption), _, _, _, _, rfl, rfl⟩
 refine Y.skip (Y.then_ (Y.seq (Y.region (Y.ql rfl (qW rfl ag_27 (.t (.s16 (.s16 (.s16 .g8)))) .g1 sz_27) ?_))))
 refine Y.cl rfl rfl Tryz.func67 rfl rfl (args1 (.t .z)) .n (fun _ _ hs tr => c_67 (kT_27_mk f (tr.ctx ac) (tr.ctx ad))) ?_
 rintro _ _ ⟨s8, s9, rfl, rfl⟩
 refine Y.cat (.c (.c .n)) ?_
 refine Y.know (WS.oform .z) ?_
 rintro ⟨d1, d2, rfl, np, nq, nr⟩
 refine Y.know (WS.oform .g1) ?_
 rintro ⟨d3, d4, rfl, ns, nu, nv⟩
 refine Y.el rfl (e_alloc rfl z_27 rfl rfl) ?_
 rintro _ _ ⟨g82, rfl, rfl⟩
 refine Y.es (goes_list rfl) rfl (esW rfl (.t .z) (.t .g1) .z sz_27 rfl rfl) ?_
 refine Y.nt (Y.seq (Y.region (Y.fa rfl (.s16 (.s16 (.s16 .g11))) fa_27_0 (Y.ld rfl ag_24 .z .g4 (Y.mv rfl (.s16 .g5) ?_)))))
 obtain ⟨c2, be⟩ := get_ex (xs := f.inodes) (j := Int.toNat ((parP f q).1)) (by first | omega | (simp <;> omega))
 obtain ⟨nw, d5, bf, bg⟩ := au.elem be
 obtain ⟨gs, gt, rfl, c3, bh⟩ := kT_44_ro d5
 obtain ⟨gu, gv, rfl, fz, f0, f1, f2⟩ := ro_form c3
 obtain ⟨gw, gx, rfl, f3, f4, f5, b1⟩ := ro_form bh
 have q5 := kind_at (i := ((parP f q).1)) be (by omega)
 have b2 := ents_at (a := ((parP f q).1)) be (by omega)
 have q6 := links_at (a := ((parP f q).1)) be (by omega)
 have d6 := ht.get be
 refine Y.ql rfl (q_indexAddr (j := Int.toNat ((parP f q).1)) rfl u_24 sz_44 (.t .g1) (.t .z) (by omega) (by first | omega | (simp <;> omega))) ?_
 refine Y.fa rfl .z fa_44_4 (Y.le rfl ag_42 .z bf bg (Y.mv rfl (.s16 .g8) ?_))
 refine Y.cl rfl rfl Tryz.func127 rfl rfl (args2 (.t .g1) (.t .z)) .n (fun _ _ hs tr => c_127 (tr.ctx bh) _ (by first | assumption | omega | (dsimp only; omega))) ?_
 rintro _ _ ⟨rfl, rfl⟩
 refine Y.cat .n ?_
 refine Y.as rfl .z (Y.nt ?_)
 refine Y.cut (γ := (Option Addr) × Nat × (Option Addr) × Nat × DFs) (fun ⟨aj, ah, ak, al, F⟩ => [(14, .pointer (some ⟨g82, 0, none⟩)), (13, .string ((parP f q).2.1)), (12, .int .i64 ((parP f q).1)), (11, .int .i64 ag.ino), (8, .string ((parP f p).2.1)), (7, .int .i64 ((parP f p).1)), (6, .pointer (some ⟨g4, 0, none⟩))]) (fun ⟨aj, ah, ak, al, F⟩ => [rowA g82 27 2 1 [.slice aj F.inodes.length ah, .slice ak F.data.length al], ownA kSl_44 F.inodes [.slice aj F.inodes.length ah], ownA kSl_22 F.data [.slice ak F.data.length al], rowA g4 155 7 1 [.int .i64 0, .int .i64 0, .int .i64 0, .slice none 0 0, .slice none 0 0, .slice none 0 0, .slice none 0 0], rowA g3 27 2 1 [.slice (some ds) f.inodes.length bu, .slice bv f.data.length bw]]) (fun ⟨aj, ah, ak, al, F⟩ => Jf F ∧ F.inodes.length = f.inodes.length ∧ 0 ≤ idxF (nameP ((parP f p).2.1)) (entsAt F.inodes ((parP f p).1)) ∧ ((entsAt F.inodes ((parP f q).1)).length ≤ 5 ∨ (((parP f q).1) = ((parP f p).1) ∧ (entsAt F.inodes ((parP f q).1)).length ≤ 6))) ?_ ?_
 refine Y.seq (Y.region (Y.mv rfl .z (Y.ql rfl (q_geq rfl (.t .z) .c) (Y.nt ?_))))
 refine Y.condP (.t .z) (fun q7 => ?_) (fun q7 => ?_)
 have nx := idxF_rng (nameP ((parP f q).2.1)) c2.ents
 refine Y.seq (Y.region (Y.ql rfl (q_fieldAddr rfl (.t (.s16 (.s16 (.s16 (.s16 .g6))))) (fun _ => fa_27_0 _ _)) (Y.ld rfl ag_24 .z .g4 (Y.mv rfl (.s16 .g16) ?_))))
 refine Y.ql rfl (q_indexAddr (j := Int.toNat ((parP f q).1)) rfl u_24 sz_44 (.t .g1) (.t .z) (by omega) (by first | omega | (simp <;> omega))) ?_
 refine Y.fa rfl .z fa_44_4 (Y.le rfl ag_42 .z bf bg (Y.mv rfl .g8 ?_))
 obtain ⟨q8, c4, c5⟩ := b1 (by omega)
 subst c4
 obtain ⟨q9, b3⟩ := get_ex (xs := c2.ents) (j := Int.toNat (idxF (nameP ((parP f q).2.1)) c2.ents)) (by first | omega | (simp <;> omega))
 obtain ⟨ny, d7, d8, d9⟩ := c5.elem b3
 obtain ⟨rfl, gy⟩ := kT_46_ro d7
 have nz := jents_ok d6 _ _ b3
 refine Y.ql rfl (q_indexAddr (j := Int.toNat (idxF (nameP ((parP f q).2.1)) c2.ents)) rfl u_42 sz_46 (.t .g1) (.t .z) (by omega) (by first | omega | (simp <;> omega))) ?_
 refine Y.fa rfl .z fa_46_1 (Y.le rfl ag_2 .z d8 d9 (Y.as rfl .z (Y.nt (Y.seq (Y.seq (Y.region (Y.mv rfl .z ?_)))))))
 refine Y.mv rfl (.s16 (.s16 (.s16 .g1))) (Y.ql rfl (q_eql rfl (.t .g1) (.t .z)) (Y.nt ?_))
 refine Y.condP (.t .z) (fun ra => ?_) (fun ra => ?_)
 refine Y.seq (Y.region (Y.ql rfl (qW rfl ag_27 (.t (.s16 (.s16 (.s16 (.s16 (.s16 .g4)))))) .g4 sz_27) ?_))
 refine Y.cl rfl rfl Tryz.func172 rfl rfl (args2 (.t .z) .c) .n (fun _ _ hs tr => c_172 (kT_27_mk f (tr.ctx ac) (tr.ctx ad)) _) ?_
 rintro _ _ ⟨ta, tb, tc, td, rfl, rfl⟩
 refine Y.cat (.c (.c (.c (.c .n)))) ?_
 refine Y.know (WS.oform .z) ?_
 rintro ⟨n0, n1, rfl, gz, g0, ha⟩
 refine Y.know (WS.oform .g1) ?_
 rintro ⟨n2, n3, rfl, hb, hc, hd⟩
 refine Y.know (WS.oform .g2) ?_
 rintro ⟨n4, n5, rfl, he, hf, hg⟩
 refine Y.know (WS.oform .g3) ?_
 rintro ⟨n6, n7, rfl, hh, hi, hk⟩
 refine Y.es (goes_list rfl) rfl (esW rfl (.t (.s16 (.s16 (.s16 (.s16 (.s16 .g5)))))) (.t .z) .g7 sz_155 rfl rfl) ?_
 refine Y.nt (Y.ret (Y.thenR (Y.thenR ?_)))
 refine Y.doneS (resW rfl (.s16 (.s16 (.s16 (.s16 (.s16 .g5))))) ag_155 .z sz_155) (.c .g1 (.c .g1 (.c .g1 (.c .g1 .n)))) ?_
 exact ⟨(⟨0, 0, 0, [], [], (⟨f.inodes, f.data⟩ : DFs)⟩ : RCall), (by first | exact hj | assumption), _, _, _, _, rfl, rfl⟩
 refine Y.skip (Y.then_ (Y.seq (Y.seq (Y.region (Y.mv rfl (.s16 (.s16 (.s16 .g3))) (Y.mv rfl .g4 ?_))))))
 refine Y.cl rfl rfl Tryz.func177 rfl rfl (args3 (.t (.s16 (.s16 (.s16 (.s16 (.s16 .g6)))))) (.t .g1) (.t .z)) .n (fun _ _ hs tr => c_177 (tr.ptr .g4 (kT_27_mk f (tr.ctx ac) (tr.ctx ad))) _ _ (by first | assumption | (constructor <;> omega)) (by first | assumption | (constructor <;> omega))) ?_
 rintro _ _ ⟨ea, c6, rfl, rfl⟩
 refine Y.cat .n ?_
 refine Y.as rfl .z (Y.nt (Y.seq (Y.region (Y.mv rfl .z (Y.ql rfl (q_neq rfl (.t .z) .c) (Y.nt ?_))))))
 refine Y.condN (.t .z) (fun hl => ?_) (fun hl => ?_)
 refine Y.seq (Y.region (Y.ql rfl (qW rfl ag_27 (.t (.s16 (.s16 (.s16 (.s16 (.s16 .g10)))))) .g4 sz_27) (Y.mv rfl .g3 ?_)))
 refine Y.cl rfl rfl Tryz.func172 rfl rfl (args2 (.t .g1) (.t .z)) .n (fun _ _ hs tr => c_172 (kT_27_mk f (tr.ctx ac) (tr.ctx ad)) _) ?_
 rintro _ _ ⟨rb, rc, rd, re, rfl, rfl⟩
 refine Y.cat (.c (.c (.c (.c .n)))) ?_
 refine Y.know (WS.oform .z) ?_
 rintro ⟨n8, n9, rfl, hm, hn, ho⟩
 refine Y.know (WS.oform .g1) ?_
 rintro ⟨oa, ob, rfl, hp, hq, hr⟩
 refine Y.know (WS.oform .g2) ?_
 rintro ⟨oc, od, rfl, hu, hv, hw⟩
 refine Y.know (WS.oform .g3) ?_
 rintro ⟨oe, og, rfl, hx, hy, hz⟩
 refine Y.es (goes_list rfl) rfl (esW rfl (.t (.s16 (.s16 (.s16 (.s16 (.s16 .g12)))))) (.t .z) .g7 sz_155 rfl rfl) ?_
 refine Y.nt (Y.ret (Y.thenR (Y.thenR ?_)))
 refine Y.doneS (resW rfl (.s16 (.s16 (.s16 (.s16 (.s16 .g12))))) ag_155 .z sz_155) (.c .g1 (.c .g1 (.c .g1 (.c .g1 .n)))) ?_
 exact ⟨(⟨0, ea, 0, [], [], (⟨f.inodes, f.data⟩ : DFs)⟩ : RCall), (by first | exact hj | assumption), _, _, _, _, rfl, rfl⟩
 refine Y.skip (Y.then_ (Y.region (Y.mv rfl (.s16 (.s16 (.s16 .g2))) (Y.mv rfl (.s16 .g7) ?_))))
 obtain ⟨ao, c7, b4, -⟩ := idxF_at (show ¬ idxF (nameP ((parP f q).2.1)) c2.ents = -1 by omega)
 refine Y.eq .z (congrArg (Value.int .i64) c7) ?_
 have av : ao < (entsAt f.inodes ((parP f q).1)).length := by rw [b2]; exact b4
 have hFl : (take2 f ((parP f q).1) ao).inodes.length = f.inodes.length := take2_len
 refine Y.cl rfl rfl Tryz.func175 rfl rfl (args3 (.t (.s16 (.s16 .g1))) (.t .g1) (.t .z)) (.c .z (.c .z (.c .z .n))) (fun _ _ hs tr => c_175 (f := f) _ _ hs (by assumption) (by first | assumption | (constructor <;> omega)) (by first | omega | assumption)) ?_
 rintro _ _ ⟨rf, rg, rfl, rfl⟩
 refine Y.cat (.c (.c (.c .n))) ?_
 refine Y.know (WS.oform .g1) ?_
 rintro ⟨eb, ec, rfl, h1, h2, h3⟩
 refine Y.know (WS.oform .g2) ?_
 rintro ⟨ed, ee, rfl, h4, h6, h7⟩
 refine Y.nil ?_
 have h6t := jents_len ht ((parP f q).1)
 obtain ⟨i0, h8, h9, -⟩ := idxF_at (show ¬ idxF (nameP ((parP f p).2.1)) bx.ents = -1 by omega)
 have ia : idxF (nameP ((parP f p).2.1)) (entsAt f.inodes ((parP f p).1)) = (i0 : Int) := by rw [ai]; exact h8
 have ib : inoAt (entsAt f.inodes ((parP f p).1)) i0 = ag.ino := by rw [ai]; exact inoAt_of (by first | exact ba | (rw [show i0 = Int.toNat (idxF (nameP ((parP f p).2.1)) bx.ents) by omega]; exact ba))
 have ef : inoAt (entsAt f.inodes ((parP f q).1)) ao = q9.ino := by rw [b2]; exact inoAt_of (by first | exact b3 | (rw [show ao = Int.toNat (idxF (nameP ((parP f q).2.1)) c2.ents) by omega]; exact b3))
 have hst := ren_still hj (by assumption) (by assumption) ia av (by rw [ef, ib]; first | assumption | omega) (by rw [ef]; first | assumption | exact c6 (by omega))
 have hsh := take2_shrink (f := f) (a := ((parP f q).1)) (i := ao) (by omega) av
 exact Y.meet (eb, ec, ed, ee, (take2 f ((parP f q).1) ao)) ⟨by first | exact hj | exact j_take2 hj _ _, by first | rfl | assumption, hst, by first | omega | (left; omega) | (right; omega)⟩ (.c (.s16 (.s16 .g2)) (.c (.s16 (.s16 (.s16 .g4))) (.c (.s16 (.s16 (.s16 .g5))) (.c (.s16 (.s16 (.s16 .g12))) (.c (.s16 (.s16 (.s16 (.s16 (.s16 .g4))))) (.c (.s16 (.s16 (.s16 (.s16 (.s16 .g5))))) (.c (.s16 (.s16 (.s16 (.s16 (.s16 .g12))))) .n))))))) (fun _ h => h.sel (.c .z (.c .z (.c .z (.c .z (.c .z .n))))))
 have ic := idxF_rng (nameP ((parP f q).2.1)) c2.ents
 refine Y.seq (Y.region (Y.mv rfl (.s16 .g14) (Y.mv rfl (.s16 (.s16 (.s16 .g15))) (Y.ql rfl (q_neq rfl (.t .g1) (.t .z)) (Y.mv rfl .z ?_)))))
 refine Y.caseN .z (fun g127 => ?_) (fun g127 => ?_)
 refine Y.qg rfl rfl .z rfl rfl rfl (q_fieldAddr rfl (.t (.s16 (.s16 (.s16 (.s16 .g10))))) (fun _ => fa_27_0 _ _)) ?_
 refine Y.qg rfl rfl .g1 rfl rfl rfl (q_load rfl ag_24 (.t .z) (WS.row .g4 rfl)) ?_
 refine Y.qg rfl rfl .g2 rfl rfl rfl (q_move rfl (.t (.s16 (.s16 .g4)))) ?_
 refine Y.qg rfl rfl .g3 rfl rfl rfl (q_indexAddr (j := Int.toNat ((parP f q).1)) rfl u_24 sz_44 (.t .g1) (.t .z) (by omega) (by first | omega | (simp <;> omega))) ?_
 refine Y.qg rfl rfl .g4 rfl rfl rfl (q_fieldAddr rfl (.t .z) (fun _ => fa_44_4 _ _)) ?_
 refine Y.qg rfl rfl .g5 rfl rfl rfl (q_load rfl ag_42 (.t .z) (WS.el bf bg rfl)) ?_
 refine Y.qg rfl rfl .g6 rfl rfl rfl (q_len rfl u_42 (.t .z)) ?_
 refine Y.qg rfl rfl .g7 rfl rfl rfl (q_geq rfl (.t .z) .c) ?_
 refine Y.ql rfl (q_pickT rfl (.t .g8) (.t .z)) (Y.nt ?_)
 refine Y.condP (.t .z) (fun id => ?_) (fun id => ?_)
 refine Y.seq (Y.region (Y.ql rfl (qW rfl ag_27 (.t (.s16 (.s16 (.s16 (.s16 (.s16 .g3)))))) .g4 sz_27) ?_))
 refine Y.cl rfl rfl Tryz.func172 rfl rfl (args2 (.t .z) .c) .n (fun _ _ hs tr => c_172 (kT_27_mk f (tr.ctx ac) (tr.ctx ad)) _) ?_
 rintro _ _ ⟨rh, ri, rj, rk, rfl, rfl⟩
 refine Y.cat (.c (.c (.c (.c .n)))) ?_
 refine Y.know (WS.oform .z) ?_
 rintro ⟨oh, oi, rfl, ie, ig, ih⟩
 refine Y.know (WS.oform .g1) ?_
 rintro ⟨oj, ok, rfl, ii, ij, ik⟩
 refine Y.know (WS.oform .g2) ?_
 rintro ⟨ol, om, rfl, il, im, io⟩
 refine Y.know (WS.oform .g3) ?_
 rintro ⟨on, oo, rfl, ip, iq, ir⟩
 refine Y.es (goes_list rfl) rfl (esW rfl (.t (.s16 (.s16 (.s16 (.s16 (.s16 .g4)))))) (.t .z) .g7 sz_155 rfl rfl) ?_
 refine Y.nt (Y.ret (Y.thenR ?_))
 refine Y.doneS (resW rfl (.s16 (.s16 (.s16 (.s16 (.s16 .g4))))) ag_155 .z sz_155) (.c .g1 (.c .g1 (.c .g1 (.c .g1 .n)))) ?_
 exact ⟨(⟨0, 2, 0, [], [], (⟨f.inodes, f.data⟩ : DFs)⟩ : RCall), (by first | exact hj | assumption), _, _, _, _, rfl, rfl⟩
 refine Y.skip ?_
 have h6t := jents_len ht ((parP f q).1)
 have hst : 0 ≤ idxF (nameP ((parP f p).2.1)) (entsAt f.inodes ((parP f p).1)) := by rw [ai]; omega
 have it := congrArg List.length ai; have iu := congrArg List.length b0; have iv := congrArg List.length b2
 exact Y.meet (d1, d2, d3, d4, f) ⟨by first | exact hj | exact j_take2 hj _ _, by first | rfl | assumption, hst, by first | omega | (left; omega) | (right; omega)⟩ (.c (.s16 .g8) (.c (.s16 (.s16 .g10)) (.c (.s16 (.s16 .g11)) (.c (.s16 (.s16 (.s16 .g2))) (.c (.s16 (.s16 (.s16 (.s16 .g10)))) (.c (.s16 (.s16 (.s16 (.s16 .g11)))) (.c (.s16 (.s16 (.s16 (.s16 (.s16 .g2))))) .n))))))) (fun _ h => h.sel (.c .z (.c .z (.c .z (.c .z (.c .z .n))))))
 refine Y.skipl rfl rfl .z rfl rfl (by decide) rfl ?_
 refine Y.skipl rfl rfl .g1 rfl rfl (by decide) rfl ?_
 refine Y.skipl rfl rfl .g2 rfl rfl (by decide) rfl ?_
 refine Y.skipl rfl rfl .g3 rfl rfl (by decide) rfl ?_
 refine Y.skipl rfl rfl .g4 rfl rfl (by decide) rfl ?_
 refine Y.skipl rfl rfl .g5 rfl rfl (by decide) rfl ?_
 refine Y.skipl rfl rfl .g6 rfl rfl (by decide) rfl ?_
 refine Y.skipl rfl rfl .g7 rfl rfl (by decide) rfl ?_
 refine Y.ql rfl (q_pickF rfl (.t .g8) .c) (Y.nt ?_)
 refine Y.condF (.t .z) ?_
 refine Y.skip ?_
 have h6t := jents_len ht ((parP f q).1)
 have hst : 0 ≤ idxF (nameP ((parP f p).2.1)) (entsAt f.inodes ((parP f p).1)) := by rw [ai]; omega
 have it := congrArg List.length ai; have iu := congrArg List.length b0; have iv := congrArg List.length b2
 exact Y.meet (d1, d2, d3, d4, f) ⟨by first | exact hj | exact j_take2 hj _ _, by first | rfl | assumption, hst, by first | omega | (left; omega) | (right; omega)⟩ (.c (.s16 .g8) (.c (.s16 (.s16 .g10)) (.c (.s16 (.s16 .g11)) (.c (.s16 (.s16 (.s16 .g2))) (.c (.s16 (.s16 (.s16 (.s16 .g10)))) (.c (.s16 (.s16 (.s16 (.s16 .g11)))) (.c (.s16 (.s16 (.s16 (.s16 (.s16 .g2))))) .n))))))) (fun _ h => h.sel (.c .z (.c .z (.c .z (.c .z (.c .z .n))))))
 rintro ⟨aj, ah, ak, al, F⟩ ⟨hJF, hFl, hst, iw⟩
 refine Y.seq (Y.region (Y.mv rfl .g5 (Y.fa rfl .g1 fa_27_0 (Y.ld rfl ag_24 .z .z (Y.mv rfl .g8 ?_)))))
 refine Y.open (.c .g1 .n) own_raw ?_
 rintro eg a3
 obtain ⟨aw, ap⟩ := get_ex (xs := F.inodes) (j := Int.toNat ((parP f p).1)) (by first | omega | (simp <;> omega))
 obtain ⟨rl, bi⟩ := get_ex (xs := eg) (j := Int.toNat ((parP f p).1)) (by rw [a3]; exact (List.getElem?_eq_some_iff.1 ap).1)
 refine Y.turn .g1 (seq_split ap bi) ?_
 refine Y.open (.c .z .n) kT_44_op ?_
 rintro ⟨rm, rn⟩ rfl
 refine Y.know (WS.oform .z) ?_
 rintro ⟨eh, ei, rfl, ix, iy, iz⟩
 refine Y.know (WS.oform .g1) ?_
 rintro ⟨ej, ek, rfl, i1, i2, i3⟩
 have op := kind_at (i := ((parP f p).1)) ap (by omega)
 have ce := ents_at (a := ((parP f p).1)) ap (by omega)
 have oq := links_at (a := ((parP f p).1)) ap (by omega)
 refine Y.know (WS.oad .g4 (by first | omega | (simp <;> omega) | (simp only [List.length_append, List.length_cons, List.length_nil, List.length_set] at *; omega))) ?_
 rintro ⟨em, rfl⟩
 refine Y.ql rfl (q_indexAddr (j := Int.toNat ((parP f p).1)) rfl u_24 sz_44 (.t .g1) (.t .z) (by omega) (by first | omega | (simp <;> omega))) ?_
 refine Y.fa rfl .z fa_44_4 (Y.ql rfl (q_load rfl ag_42 (.t .z) (WS.raw .g4 bi rfl)) (Y.mv rfl .g11 ?_))
 refine Y.cl rfl rfl Tryz.func127 rfl rfl (args2 (.t .g1) (.t .z)) .n (fun _ _ hs tr => c_127 (tr.own .g1) _ (by first | assumption | omega | (dsimp only; omega))) ?_
 rintro _ _ ⟨rfl, rfl⟩
 refine Y.cat .n ?_
 refine Y.turns (c := ownA kT_44 aw [.int .i64 aw.kind, .int .i64 aw.links, .int .i64 aw.size, .slice eh aw.blocks.length ei, .slice ej aw.ents.length ek]) (.c .z (.c .z .n)) (fun w S h => kT_44_omk aw h) ?_
 refine Y.turns (c := ownA kSl_44 F.inodes [.slice (some em) F.inodes.length ah]) (.c .g3 (.c .z (.c .z (.c .z .n)))) (own_unfocus0 (K := kT_44) a3 ap bi) ?_
 rw [ce] at hst
 obtain ⟨ae, c8, b5, -⟩ := idxF_at (show ¬ idxF (nameP ((parP f p).2.1)) aw.ents = -1 by omega)
 refine Y.eq .z (congrArg (Value.int .i64) c8) ?_
 have bj : ae < (entsAt F.inodes ((parP f p).1)).length := by rw [ce]; exact b5
 have hrl := ren_len (F := F) (d := ((parP f p).1)) (t := ((parP f q).1)) (i := ae) (by rw [hFl]; assumption) (by rw [hFl]; assumption) bj
 have hJG : Jf (takeF F ((parP f p).1) (List.eraseIdx (entsAt F.inodes ((parP f p).1)) ae)) := j_erase hJF
 have hGl : (takeF F ((parP f p).1) (List.eraseIdx (entsAt F.inodes ((parP f p).1)) ae)).inodes.length = f.inodes.length := withE_len.trans hFl
 refine Y.cl rfl rfl Tryz.func178 rfl rfl (args3 (.t .g9) (.t .g8) (.t .z)) (.c .g1 (.c .z (.c .z .n))) (fun _ _ hs tr => c_178 (f := F) _ _ hs (by first | assumption | (constructor <;> omega)) (by omega)) ?_
 rintro _ _ ⟨rp, rq, rfl, rfl⟩
 refine Y.cat (.c (.c (.c .n))) ?_
 refine Y.know (WS.oform .g1) ?_
 rintro ⟨ot, cf, rfl, i4, i5, i6⟩
 refine Y.know (WS.oform .g2) ?_
 rintro ⟨en, eo, rfl, i7, i8, i9⟩
 refine Y.nt (Y.seq ?_)
 refine Y.open (.c .g1 .n) own_raw ?_
 rintro cg a4
 obtain ⟨aa, am⟩ := get_ex (xs := (takeF F ((parP f p).1) (List.eraseIdx (entsAt (F).inodes ((parP f p).1)) ae)).inodes) (j := Int.toNat ((parP f q).1)) (by first | omega | (simp <;> omega))
 obtain ⟨rr, bk⟩ := get_ex (xs := cg) (j := Int.toNat ((parP f q).1)) (by rw [a4]; exact (List.getElem?_eq_some_iff.1 am).1)
 refine Y.turn .g1 (seq_split am bk) ?_
 refine Y.open (.c .z .n) kT_44_op ?_
 rintro ⟨rs, rt⟩ rfl
 refine Y.know (WS.oform .z) ?_
 rintro ⟨ch, ci, rfl, ja, jb, jc⟩
 refine Y.know (WS.oform .g1) ?_
 rintro ⟨ou, ov, rfl, jd, je, jf⟩
 have ow := kind_at (i := ((parP f q).1)) am (by omega)
 have ep := ents_at (a := ((parP f q).1)) am (by omega)
 have ox := links_at (a := ((parP f q).1)) am (by omega)
 have hyl : aa.ents.length ≤ 5 := by have e8 := congrArg List.length ep; exact iw.elim (fun h5 => by first | omega | (simp only [takeF] at *; omega)) (fun h5 => by have e9 := hrl.2 h5.1; first | omega | (simp only [takeF] at *; omega))
 refine Y.sel (.c .z (.c .z (.c .g4 (.c .z (.c .z (.c .z (.c .z (.c .z (.c .z .n))))))))) ?_
 refine Y.dr .g3 15 mixo ?_
 refine Y.sc (qs 0 12 ++ [(12, false), (13, false), (14, true), (15, false)]) (by kernel_rfl) ?_
 refine Y.df rfl rfl .g3 .g10 fa_27_0 (Y.dl rfl rfl .g3 ag_24 .z .g3 (Y.dm rfl rfl .g3 .g14 (Y.df rfl rfl .g3 .g13 fa_27_0 (Y.dl rfl rfl .g3 ag_24 .z .g3 (Y.dm rfl rfl .g3 (.s16 .g1) ?_)))))
 refine Y.know (WS.oad .g5 (by first | omega | (simp <;> omega) | (simp only [List.length_append, List.length_cons, List.length_nil, List.length_set] at *; omega))) ?_
 rintro ⟨cj, rfl⟩
 refine Y.dk rfl rfl .g3 (q_indexAddr (j := Int.toNat ((parP f q).1)) rfl u_24 sz_44 (.t .g1) (.t .z) (by omega) (by first | omega | (simp <;> omega))) ?_
 refine Y.df rfl rfl .g3 .z fa_44_4 (Y.dk rfl rfl .g3 (q_load rfl ag_42 (.t .z) (WS.raw .g2 bk rfl)) (Y.dm rfl rfl .g3 (.s16 .g4) (Y.dm rfl rfl .g3 (.s16 .g7) (Y.dk rfl rfl .g3 (q_build (cs := [.string ((parP f q).2.1), .int .i64 ag.ino]) rfl bl_46 (pv2 (.t .g1) (.t .z)) rfl) ?_))))
 refine Y.call (goes_sch rfl rfl) rfl (by decide) rfl (c_call rfl Tryz.func128 rfl rfl (args2 (.t .g3) (.t .z))) .n (fun _ _ hs tr => c_128 (tr.own .g1) (kT_46_mk (⟨(parP f q).2.1, ag.ino⟩ : DEnt) (by first | assumption | omega | (dsimp only; omega))) (by omega)) ?_
 rintro _ _ rfl
 refine Y.cat (.c .n) ?_
 refine Y.know (WS.oform .z) ?_
 rintro ⟨bm, bn, rfl, jg, jh, ji⟩
 refine Y.sk .g4 ?_
 refine Y.q (goes_sch rfl rfl) rfl (by decide) rfl (q_indexAddr (j := Int.toNat ((parP f q).1)) rfl u_24 sz_44 (.t .g11) (.t .g10) (by omega) (by first | omega | (simp <;> omega))) ?_
 refine Y.sk .g4 ?_
 refine Y.df rfl rfl .g4 .z fa_44_4 ?_
 refine Y.es (goes_sch rfl rfl) rfl (es_raw (j := Int.toNat ((parP f q).1)) (off := 4) (cs := [.slice bm (putE aa.ents (⟨(parP f q).2.1, ag.ino⟩ : DEnt)).length bn]) rfl sz_42 (.t .z) (add_add _ _ _) (.t .g2) rfl (ones rfl) .g6 bk (Nat.le_of_ble_eq_true rfl)) ?_
 refine Y.ceq (x' := List.set cg (Int.toNat ((parP f q).1)) [.int .i64 aa.kind, .int .i64 aa.links, .int .i64 aa.size, .slice ch aa.blocks.length ci, .slice bm (putE aa.ents (⟨(parP f q).2.1, ag.ino⟩ : DEnt)).length bn]) .z rfl ?_
 refine Y.sl rfl ?_
 refine Y.schN ?_
 refine Y.drawN (by kernel_rfl) ?_
 refine Y.then_ (Y.seq (Y.region (Y.ql rfl (qW rfl ag_27 (.t (.s16 .g9)) .g7 sz_27) (Y.ql rfl (q_build (cs := [.int .i64 0, .int .i64 0, .int .i64 0, .slice none 0 0, .slice none 0 0, .slice (some cj) ((takeF F ((parP f p).1) (List.eraseIdx (entsAt (F).inodes ((parP f p).1)) ae)).inodes).length cf, .slice en ((takeF F ((parP f p).1) (List.eraseIdx (entsAt (F).inodes ((parP f p).1)) ae)).data).length eo]) rfl bl_155 (pv1 (.t .z)) rfl) ?_))))
 refine Y.es (goes_list rfl) rfl (esW rfl (.t (.s16 (.s16 .g1))) (.t .z) .g8 sz_155 rfl rfl) ?_
 refine Y.nt (Y.ret ?_)
 refine Y.turns (c := ownA kT_44 (⟨aa.kind, aa.links, aa.size, aa.blocks, putE aa.ents (⟨(parP f q).2.1, ag.ino⟩ : DEnt)⟩ : DInode) [.int .i64 aa.kind, .int .i64 aa.links, .int .i64 aa.size, .slice ch aa.blocks.length ci, .slice bm (putE aa.ents (⟨(parP f q).2.1, ag.ino⟩ : DEnt)).length bn]) (.c .g3 (.c .g2 .n)) (fun w S h => kT_44_omk (⟨aa.kind, aa.links, aa.size, aa.blocks, putE aa.ents (⟨(parP f q).2.1, ag.ino⟩ : DEnt)⟩ : DInode) h) ?_
 refine Y.turns (c := ownA kSl_44 (List.set ((takeF F ((parP f p).1) (List.eraseIdx (entsAt (F).inodes ((parP f p).1)) ae)).inodes) (Int.toNat ((parP f q).1)) (⟨aa.kind, aa.links, aa.size, aa.blocks, putE aa.ents (⟨(parP f q).2.1, ag.ino⟩ : DEnt)⟩ : DInode)) [.slice (some cj) ((takeF F ((parP f p).1) (List.eraseIdx (entsAt (F).inodes ((parP f p).1)) ae)).inodes).length cf]) (.c .g2 (.c .z (.c .g3 (.c .g3 .n)))) (own_unfocus (K := kT_44) a4 (List.getElem?_eq_some_iff.1 am).1 rfl) ?_
 refine Y.add (c := ownA kSl_5 [] [.slice none 0 0]) (fun w S => own_nil w S none) ?_
 refine Y.add (c := ownA kSl_9 [] [.slice none 0 0]) (fun w S => own_nil w S none) ?_
 refine Y.doneS (resW rfl (.s16 (.s16 .g1)) ag_155 .g3 sz_155) (.c .g1 (.c .z (.c .z (.c .g2 .n)))) ?_
 exact ⟨(⟨0, 0, 0, [], [], (⟨List.set ((takeF F ((parP f p).1) (List.eraseIdx (entsAt (F).inodes ((parP f p).1)) ae)).inodes) (Int.toNat ((parP f q).1)) (⟨aa.kind, aa.links, aa.size, aa.blocks, putE aa.ents (⟨(parP f q).2.1, ag.ino⟩ : DEnt)⟩ : DInode), (takeF F ((parP f p).1) (List.eraseIdx (entsAt (F).inodes ((parP f p).1)) ae)).data⟩ : DFs)⟩ : RCall), (by first | exact hj | assumption | exact j_put2 hJG am hyl (by rw [hGl]; constructor <;> (dsimp only; omega)) (by dsimp only; omega)), _, _, _, _, rfl, rfl⟩
 refine Y.skipl rfl rfl .z rfl rfl (by decide) rfl ?_
 refine Y.skipl rfl rfl .g1 rfl rfl (by decide) rfl ?_
 refine Y.skipl rfl rfl .g2 rfl rfl (by decide) rfl ?_
 refine Y.ql rfl (q_pickF rfl (.t .g3) .c) (Y.nt ?_)
 refine Y.condF (.t .z) ?_
 refine Y.skip (Y.then_ (Y.seq (Y.region (Y.ql rfl (qW rfl ag_27 (.t (.s16 (.s16 (.s16 .g8)))) .g1 sz_27) ?_))))
 refine Y.cl rfl rfl Tryz.func67 rfl rfl (args1 (.t .z)) .n (fun _ _ hs tr => c_67 (kT_27_mk f (tr.ctx ac) (tr.ctx ad))) ?_
 rintro _ _ ⟨ru, rv, rfl, rfl⟩
 refine Y.cat (.c (.c .n)) ?_
 refine Y.know (WS.oform .z) ?_
 rintro ⟨ck, cm, rfl, jj, jk, jl⟩
 refine Y.know (WS.oform .g1) ?_
 rintro ⟨cn, co, rfl, jm, jn, jo⟩
 refine Y.el rfl (e_alloc rfl z_27 rfl rfl) ?_
 rintro _ _ ⟨g183, rfl, rfl⟩
 refine Y.es (goes_list rfl) rfl (esW rfl (.t .z) (.t .g1) .z sz_27 rfl rfl) ?_
 refine Y.nt (Y.seq (Y.region (Y.fa rfl (.s16 (.s16 (.s16 .g11))) fa_27_0 (Y.ld rfl ag_24 .z .g4 (Y.mv rfl (.s16 .g5) ?_)))))
 obtain ⟨a0, ax⟩ := get_ex (xs := f.inodes) (j := Int.toNat ((parP f q).1)) (by first | omega | (simp <;> omega))
 obtain ⟨jp, c9, a1, a2⟩ := au.elem ax
 obtain ⟨f6, f7, rfl, b6, a5⟩ := kT_44_ro c9
 obtain ⟨f8, f9, rfl, et, eu, ev, ew⟩ := ro_form b6
 obtain ⟨ga, gb, rfl, ey, ez, e0, bo⟩ := ro_form a5
 have oy := kind_at (i := ((parP f q).1)) ax (by omega)
 have a6 := ents_at (a := ((parP f q).1)) ax (by omega)
 have oz := links_at (a := ((parP f q).1)) ax (by omega)
 have da := ht.get ax
 refine Y.ql rfl (q_indexAddr (j := Int.toNat ((parP f q).1)) rfl u_24 sz_44 (.t .g1) (.t .z) (by omega) (by first | omega | (simp <;> omega))) ?_
 refine Y.fa rfl .z fa_44_4 (Y.le rfl ag_42 .z a1 a2 (Y.mv rfl (.s16 .g8) ?_))
 refine Y.cl rfl rfl Tryz.func127 rfl rfl (args2 (.t .g1) (.t .z)) .n (fun _ _ hs tr => c_127 (tr.ctx a5) _ (by first | assumption | omega | (dsimp only; omega))) ?_
 rintro _ _ ⟨rfl, rfl⟩
 refine Y.cat .n ?_
 refine Y.as rfl .z (Y.nt ?_)
 refine Y.cut (γ := (Option Addr) × Nat × (Option Addr) × Nat × DFs) (fun ⟨aj, ah, ak, al, F⟩ => [(14, .pointer (some ⟨g183, 0, none⟩)), (13, .string ((parP f q).2.1)), (12, .int .i64 ((parP f q).1)), (11, .int .i64 ag.ino), (8, .string ((parP f p).2.1)), (7, .int .i64 ((parP f p).1)), (6, .pointer (some ⟨g4, 0, none⟩))]) (fun ⟨aj, ah, ak, al, F⟩ => [rowA g183 27 2 1 [.slice aj F.inodes.length ah, .slice ak F.data.length al], ownA kSl_44 F.inodes [.slice aj F.inodes.length ah], ownA kSl_22 F.data [.slice ak F.data.length al], rowA g4 155 7 1 [.int .i64 0, .int .i64 0, .int .i64 0, .slice none 0 0, .slice none 0 0, .slice none 0 0, .slice none 0 0], rowA g3 27 2 1 [.slice (some ds) f.inodes.length bu, .slice bv f.data.length bw]]) (fun ⟨aj, ah, ak, al, F⟩ => Jf F ∧ F.inodes.length = f.inodes.length ∧ 0 ≤ idxF (nameP ((parP f p).2.1)) (entsAt F.inodes ((parP f p).1)) ∧ ((entsAt F.inodes ((parP f q).1)).length ≤ 5 ∨ (((parP f q).1) = ((parP f p).1) ∧ (entsAt F.inodes ((parP f q).1)).length ≤ 6))) ?_ ?_
 refine Y.seq (Y.region (Y.mv rfl .z (Y.ql rfl (q_geq rfl (.t .z) .c) (Y.nt ?_))))
 refine Y.condP (.t .z) (fun jq => ?_) (fun jq => ?_)
 have jr := idxF_rng (nameP ((parP f q).2.1)) a0.ents
 refine Y.seq (Y.region (Y.ql rfl (q_fieldAddr rfl (.t (.s16 (.s16 (.s16 (.s16 .g6))))) (fun _ => fa_27_0 _ _)) (Y.ld rfl ag_24 .z .g4 (Y.mv rfl (.s16 .g16) ?_))))
 refine Y.ql rfl (q_indexAddr (j := Int.toNat ((parP f q).1)) rfl u_24 sz_44 (.t .g1) (.t .z) (by omega) (by first | omega | (simp <;> omega))) ?_
 refine Y.fa rfl .z fa_44_4 (Y.le rfl ag_42 .z a1 a2 (Y.mv rfl .g8 ?_))
 obtain ⟨o0, b8, b9⟩ := bo (by omega)
 subst b8
 obtain ⟨js, a7⟩ := get_ex (xs := a0.ents) (j := Int.toNat (idxF (nameP ((parP f q).2.1)) a0.ents)) (by first | omega | (simp <;> omega))
 obtain ⟨jt, db, dc, dd⟩ := b9.elem a7
 obtain ⟨rfl, gc⟩ := kT_46_ro db
 have ju := jents_ok da _ _ a7
 refine Y.ql rfl (q_indexAddr (j := Int.toNat (idxF (nameP ((parP f q).2.1)) a0.ents)) rfl u_42 sz_46 (.t .g1) (.t .z) (by omega) (by first | omega | (simp <;> omega))) ?_
 refine Y.fa rfl .z fa_46_1 (Y.le rfl ag_2 .z dc dd (Y.as rfl .z (Y.nt (Y.seq (Y.seq (Y.region (Y.mv rfl .z ?_)))))))
 refine Y.mv rfl (.s16 (.s16 (.s16 .g1))) (Y.ql rfl (q_eql rfl (.t .g1) (.t .z)) (Y.nt ?_))
 refine Y.condP (.t .z) (fun jv => ?_) (fun jv => ?_)
 refine Y.seq (Y.region (Y.ql rfl (qW rfl ag_27 (.t (.s16 (.s16 (.s16 (.s16 (.s16 .g4)))))) .g4 sz_27) ?_))
 refine Y.cl rfl rfl Tryz.func172 rfl rfl (args2 (.t .z) .c) .n (fun _ _ hs tr => c_172 (kT_27_mk f (tr.ctx ac) (tr.ctx ad)) _) ?_
 rintro _ _ ⟨rx, ry, rz, r0, rfl, rfl⟩
 refine Y.cat (.c (.c (.c (.c .n)))) ?_
 refine Y.know (WS.oform .z) ?_
 rintro ⟨o1, o2, rfl, jw, jx, jy⟩
 refine Y.know (WS.oform .g1) ?_
 rintro ⟨o3, o4, rfl, jz, j0, j1⟩
 refine Y.know (WS.oform .g2) ?_
 rintro ⟨o5, o6, rfl, j2, j3, j4⟩
 refine Y.know (WS.oform .g3) ?_
 rintro ⟨o7, o8, rfl, j5, j6, j7⟩
 refine Y.es (goes_list rfl) rfl (esW rfl (.t (.s16 (.s16 (.s16 (.s16 (.s16 .g5)))))) (.t .z) .g7 sz_155 rfl rfl) ?_
 refine Y.nt (Y.ret (Y.thenR (Y.thenR ?_)))
 refine Y.doneS (resW rfl (.s16 (.s16 (.s16 (.s16 (.s16 .g5))))) ag_155 .z sz_155) (.c .g1 (.c .g1 (.c .g1 (.c .g1 .n)))) ?_
 exact ⟨(⟨0, 0, 0, [], [], (⟨f.inodes, f.data⟩ : DFs)⟩ : RCall), (by first | exact hj | assumption), _, _, _, _, rfl, rfl⟩
 refine Y.skip (Y.then_ (Y.seq (Y.seq (Y.region (Y.mv rfl (.s16 (.s16 (.s16 .g3))) (Y.mv rfl .g4 ?_))))))
 refine Y.cl rfl rfl Tryz.func177 rfl rfl (args3 (.t (.s16 (.s16 (.s16 (.s16 (.s16 .g6)))))) (.t .g1) (.t .z)) .n (fun _ _ hs tr => c_177 (tr.ptr .g4 (kT_27_mk f (tr.ctx ac) (tr.ctx ad))) _ _ (by first | assumption | (constructor <;> omega)) (by first | assumption | (constructor <;> omega))) ?_
 rintro _ _ ⟨e1, dg, rfl, rfl⟩
 refine Y.cat .n ?_
 refine Y.as rfl .z (Y.nt (Y.seq (Y.region (Y.mv rfl .z (Y.ql rfl (q_neq rfl (.t .z) .c) (Y.nt ?_))))))
 refine Y.condN (.t .z) (fun j8 => ?_) (fun j8 => ?_)
 refine Y.seq (Y.region (Y.ql rfl (qW rfl ag_27 (.t (.s16 (.s16 (.s16 (.s16 (.s16 .g10)))))) .g4 sz_27) (Y.mv rfl .g3 ?_)))
 refine Y.cl rfl rfl Tryz.func172 rfl rfl (args2 (.t .g1) (.t .z)) .n (fun _ _ hs tr => c_172 (kT_27_mk f (tr.ctx ac) (tr.ctx ad)) _) ?_
 rintro _ _ ⟨r1, r2, r3, r4, rfl, rfl⟩
 refine Y.cat (.c (.c (.c (.c .n)))) ?_
 refine Y.know (WS.oform .z) ?_
 rintro ⟨o9, pa, rfl, j9, ka, kb⟩
 refine Y.know (WS.oform .g1) ?_
 rintro ⟨pb, pc, rfl, kc, kd, ke⟩
 refine Y.know (WS.oform .g2) ?_
 rintro ⟨pd, pe, rfl, kf, kg, kh⟩
 refine Y.know (WS.oform .g3) ?_
 rintro ⟨pf, pg, rfl, ki, kj, kk⟩
 refine Y.es (goes_list rfl) rfl (esW rfl (.t (.s16 (.s16 (.s16 (.s16 (.s16 .g12)))))) (.t .z) .g7 sz_155 rfl rfl) ?_
 refine Y.nt (Y.ret (Y.thenR (Y.thenR ?_)))
 refine Y.doneS (resW rfl (.s16 (.s16 (.s16 (.s16 (.s16 .g12))))) ag_155 .z sz_155) (.c .g1 (.c .g1 (.c .g1 (.c .g1 .n)))) ?_
 exact ⟨(⟨0, e1, 0, [], [], (⟨f.inodes, f.data⟩ : DFs)⟩ : RCall), (by first | exact hj | assumption), _, _, _, _, rfl, rfl⟩
 refine Y.skip (Y.then_ (Y.region (Y.mv rfl (.s16 (.s16 (.s16 .g2))) (Y.mv rfl (.s16 .g7) ?_))))
 obtain ⟨aq, dh, ca, -⟩ := idxF_at (show ¬ idxF (nameP ((parP f q).2.1)) a0.ents = -1 by omega)
 refine Y.eq .z (congrArg (Value.int .i64) dh) ?_
 have ay : aq < (entsAt f.inodes ((parP f q).1)).length := by rw [a6]; exact ca
 have hFl : (take2 f ((parP f q).1) aq).inodes.length = f.inodes.length := take2_len
 refine Y.cl rfl rfl Tryz.func175 rfl rfl (args3 (.t (.s16 (.s16 .g1))) (.t .g1) (.t .z)) (.c .z (.c .z (.c .z .n))) (fun _ _ hs tr => c_175 (f := f) _ _ hs (by assumption) (by first | assumption | (constructor <;> omega)) (by first | omega | assumption)) ?_
 rintro _ _ ⟨r5, r6, rfl, rfl⟩
 refine Y.cat (.c (.c (.c .n))) ?_
 refine Y.know (WS.oform .g1) ?_
 rintro ⟨e2, e3, rfl, kl, km, kn⟩
 refine Y.know (WS.oform .g2) ?_
 rintro ⟨e4, e5, rfl, ko, kp, kq⟩
 refine Y.nil ?_
 have h6t := jents_len ht ((parP f q).1)
 obtain ⟨i0, h8, h9, -⟩ := idxF_at (show ¬ idxF (nameP ((parP f p).2.1)) bx.ents = -1 by omega)
 have ia : idxF (nameP ((parP f p).2.1)) (entsAt f.inodes ((parP f p).1)) = (i0 : Int) := by rw [ai]; exact h8
 have ib : inoAt (entsAt f.inodes ((parP f p).1)) i0 = ag.ino := by rw [ai]; exact inoAt_of (by first | exact ba | (rw [show i0 = Int.toNat (idxF (nameP ((parP f p).2.1)) bx.ents) by omega]; exact ba))
 have ef : inoAt (entsAt f.inodes ((parP f q).1)) aq = js.ino := by rw [a6]; exact inoAt_of (by first | exact a7 | (rw [show aq = Int.toNat (idxF (nameP ((parP f q).2.1)) a0.ents) by omega]; exact a7))
 have hst := ren_still hj (by assumption) (by assumption) ia ay (by rw [ef, ib]; first | assumption | omega) (by rw [ef]; first | assumption | exact dg (by omega))
 have hsh := take2_shrink (f := f) (a := ((parP f q).1)) (i := aq) (by omega) ay
 exact Y.meet (e2, e3, e4, e5, (take2 f ((parP f q).1) aq)) ⟨by first | exact hj | exact j_take2 hj _ _, by first | rfl | assumption, hst, by first | omega | (left; omega) | (right; omega)⟩ (.c (.s16 (.s16 .g2)) (.c (.s16 (.s16 (.s16 .g4))) (.c (.s16 (.s16 (.s16 .g5))) (.c (.s16 (.s16 (.s16 .g12))) (.c (.s16 (.s16 (.s16 (.s16 (.s16 .g4))))) (.c (.s16 (.s16 (.s16 (.s16 (.s16 .g5))))) (.c (.s16 (.s16 (.s16 (.s16 (.s16 .g12))))) .n))))))) (fun _ h => h.sel (.c .z (.c .z (.c .z (.c .z (.c .z .n))))))
 have kr := idxF_rng (nameP ((parP f q).2.1)) a0.ents
 refine Y.seq (Y.region (Y.mv rfl (.s16 .g14) (Y.mv rfl (.s16 (.s16 (.s16 .g15))) (Y.ql rfl (q_neq rfl (.t .g1) (.t .z)) (Y.mv rfl .z ?_)))))
 refine Y.caseN .z (fun g228 => ?_) (fun g228 => ?_)
 refine Y.qg rfl rfl .z rfl rfl rfl (q_fieldAddr rfl (.t (.s16 (.s16 (.s16 (.s16 .g10))))) (fun _ => fa_27_0 _ _)) ?_
 refine Y.qg rfl rfl .g1 rfl rfl rfl (q_load rfl ag_24 (.t .z) (WS.row .g4 rfl)) ?_
 refine Y.qg rfl rfl .g2 rfl rfl rfl (q_move rfl (.t (.s16 (.s16 .g4)))) ?_
 refine Y.qg rfl rfl .g3 rfl rfl rfl (q_indexAddr (j := Int.toNat ((parP f q).1)) rfl u_24 sz_44 (.t .g1) (.t .z) (by omega) (by first | omega | (simp <;> omega))) ?_
 refine Y.qg rfl rfl .g4 rfl rfl rfl (q_fieldAddr rfl (.t .z) (fun _ => fa_44_4 _ _)) ?_
 refine Y.qg rfl rfl .g5 rfl rfl rfl (q_load rfl ag_42 (.t .z) (WS.el a1 a2 rfl)) ?_
 refine Y.qg rfl rfl .g6 rfl rfl rfl (q_len rfl u_42 (.t .z)) ?_
 refine Y.qg rfl rfl .g7 rfl rfl rfl (q_geq rfl (.t .z) .c) ?_
 refine Y.ql rfl (q_pickT rfl (.t .g8) (.t .z)) (Y.nt ?_)
 refine Y.condP (.t .z) (fun ks => ?_) (fun ks => ?_)
 refine Y.seq (Y.region (Y.ql rfl (qW rfl ag_27 (.t (.s16 (.s16 (.s16 (.s16 (.s16 .g3)))))) .g4 sz_27) ?_))
 refine Y.cl rfl rfl Tryz.func172 rfl rfl (args2 (.t .z) .c) .n (fun _ _ hs tr => c_172 (kT_27_mk f (tr.ctx ac) (tr.ctx ad)) _) ?_
 rintro _ _ ⟨r7, r8, r9, sa, rfl, rfl⟩
 refine Y.cat (.c (.c (.c (.c .n)))) ?_
 refine Y.know (WS.oform .z) ?_
 rintro ⟨ph, pi, rfl, kt, ku, kv⟩
 refine Y.know (WS.oform .g1) ?_
 rintro ⟨pj, pk, rfl, kw, kx, ky⟩
 refine Y.know (WS.oform .g2) ?_
 rintro ⟨pl, pm, rfl, kz, k0, k1⟩
 refine Y.know (WS.oform .g3) ?_
 rintro ⟨pn, po, rfl, k2, k3, k4⟩
 refine Y.es (goes_list rfl) rfl (esW rfl (.t (.s16 (.s16 (.s16 (.s16 (.s16 .g4)))))) (.t .z) .g7 sz_155 rfl rfl) ?_
 refine Y.nt (Y.ret (Y.thenR ?_))
 refine Y.doneS (resW rfl (.s16 (.s16 (.s16 (.s16 (.s16 .g4))))) ag_155 .z sz_155) (.c .g1 (.c .g1 (.c .g1 (.c .g1 .n)))) ?_
 exact ⟨(⟨0, 2, 0, [], [], (⟨f.inodes, f.data⟩ : DFs)⟩ : RCall), (by first | exact hj | assumption), _, _, _, _, rfl, rfl⟩
 refine Y.skip ?_
 have h6t := jents_len ht ((parP f q).1)
 have hst : 0 ≤ idxF (nameP ((parP f p).2.1)) (entsAt f.inodes ((parP f p).1)) := by rw [ai]; omega
 have it := congrArg List.length ai; have iu := congrArg List.length b0; have iv := congrArg List.length a6
 exact Y.meet (ck, cm, cn, co, f) ⟨by first | exact hj | exact j_take2 hj _ _, by first | rfl | assumption, hst, by first | omega | (left; omega) | (right; omega)⟩ (.c (.s16 .g8) (.c (.s16 (.s16 .g10)) (.c (.s16 (.s16 .g11)) (.c (.s16 (.s16 (.s16 .g2))) (.c (.s16 (.s16 (.s16 (.s16 .g10)))) (.c (.s16 (.s16 (.s16 (.s16 .g11)))) (.c (.s16 (.s16 (.s16 (.s16 (.s16 .g2))))) .n))))))) (fun _ h => h.sel (.c .z (.c .z (.c .z (.c .z (.c .z .n))))))
 refine Y.skipl rfl rfl .z rfl rfl (by decide) rfl ?_
 refine Y.skipl rfl rfl .g1 rfl rfl (by decide) rfl ?_
 refine Y.skipl rfl rfl .g2 rfl rfl (by decide) rfl ?_
 refine Y.skipl rfl rfl .g3 rfl rfl (by decide) rfl ?_
 refine Y.skipl rfl rfl .g4 rfl rfl (by decide) rfl ?_
 refine Y.skipl rfl rfl .g5 rfl rfl (by decide) rfl ?_
 refine Y.skipl rfl rfl .g6 rfl rfl (by decide) rfl ?_
 refine Y.skipl rfl rfl .g7 rfl rfl (by decide) rfl ?_
 refine Y.ql rfl (q_pickF rfl (.t .g8) .c) (Y.nt ?_)
 refine Y.condF (.t .z) ?_
 refine Y.skip ?_
 have h6t := jents_len ht ((parP f q).1)
 have hst : 0 ≤ idxF (nameP ((parP f p).2.1)) (entsAt f.inodes ((parP f p).1)) := by rw [ai]; omega
 have it := congrArg List.length ai; have iu := congrArg List.length b0; have iv := congrArg List.length a6
 exact Y.meet (ck, cm, cn, co, f) ⟨by first | exact hj | exact j_take2 hj _ _, by first | rfl | assumption, hst, by first | omega | (left; omega) | (right; omega)⟩ (.c (.s16 .g8) (.c (.s16 (.s16 .g10)) (.c (.s16 (.s16 .g11)) (.c (.s16 (.s16 (.s16 .g2))) (.c (.s16 (.s16 (.s16 (.s16 .g10)))) (.c (.s16 (.s16 (.s16 (.s16 .g11)))) (.c (.s16 (.s16 (.s16 (.s16 (.s16 .g2))))) .n))))))) (fun _ h => h.sel (.c .z (.c .z (.c .z (.c .z (.c .z .n))))))
 rintro ⟨aj, ah, ak, al, F⟩ ⟨hJF, hFl, hst, iw⟩
 refine Y.seq (Y.region (Y.mv rfl .g5 (Y.fa rfl .g1 fa_27_0 (Y.ld rfl ag_24 .z .z (Y.mv rfl .g8 ?_)))))
 refine Y.open (.c .g1 .n) own_raw ?_
 rintro e7 a8
 obtain ⟨az, ar⟩ := get_ex (xs := F.inodes) (j := Int.toNat ((parP f p).1)) (by first | omega | (simp <;> omega))
 obtain ⟨sd, bp⟩ := get_ex (xs := e7) (j := Int.toNat ((parP f p).1)) (by rw [a8]; exact (List.getElem?_eq_some_iff.1 ar).1)
 refine Y.turn .g1 (seq_split ar bp) ?_
 refine Y.open (.c .z .n) kT_44_op ?_
 rintro ⟨se, sf⟩ rfl
 refine Y.know (WS.oform .z) ?_
 rintro ⟨fb, fc, rfl, k5, k6, k7⟩
 refine Y.know (WS.oform .g1) ?_
 rintro ⟨fd, fe, rfl, k8, k9, la⟩
 have pp := kind_at (i := ((parP f p).1)) ar (by omega)
 have cp := ents_at (a := ((parP f p).1)) ar (by omega)
 have pq := links_at (a := ((parP f p).1)) ar (by omega)
 refine Y.know (WS.oad .g4 (by first | omega | (simp <;> omega) | (simp only [List.length_append, List.length_cons, List.length_nil, List.length_set] at *; omega))) ?_
 rintro ⟨ff, rfl⟩
 refine Y.ql rfl (q_indexAddr (j := Int.toNat ((parP f p).1)) rfl u_24 sz_44 (.t .g1) (.t .z) (by omega) (by first | omega | (simp <;> omega))) ?_
 refine Y.fa rfl .z fa_44_4 (Y.ql rfl (q_load rfl ag_42 (.t .z) (WS.raw .g4 bp rfl)) (Y.mv rfl .g11 ?_))
 refine Y.cl rfl rfl Tryz.func127 rfl rfl (args2 (.t .g1) (.t .z)) .n (fun _ _ hs tr => c_127 (tr.own .g1) _ (by first | assumption | omega | (dsimp only; omega))) ?_
 rintro _ _ ⟨rfl, rfl⟩
 refine Y.cat .n ?_
 refine Y.turns (c := ownA kT_44 az [.int .i64 az.kind, .int .i64 az.links, .int .i64 az.size, .slice fb az.blocks.length fc, .slice fd az.ents.length fe]) (.c .z (.c .z .n)) (fun w S h => kT_44_omk az h) ?_
 refine Y.turns (c := ownA kSl_44 F.inodes [.slice (some ff) F.inodes.length ah]) (.c .g3 (.c .z (.c .z (.c .z .n)))) (own_unfocus0 (K := kT_44) a8 ar bp) ?_
 rw [cp] at hst
 obtain ⟨af, di, cb, -⟩ := idxF_at (show ¬ idxF (nameP ((parP f p).2.1)) az.ents = -1 by omega)
 refine Y.eq .z (congrArg (Value.int .i64) di) ?_
 have bq : af < (entsAt F.inodes ((parP f p).1)).length := by rw [cp]; exact cb
 have hrl := ren_len (F := F) (d := ((parP f p).1)) (t := ((parP f q).1)) (i := af) (by rw [hFl]; assumption) (by rw [hFl]; assumption) bq
 have hJG : Jf (takeF F ((parP f p).1) (List.eraseIdx (entsAt F.inodes ((parP f p).1)) af)) := j_erase hJF
 have hGl : (takeF F ((parP f p).1) (List.eraseIdx (entsAt F.inodes ((parP f p).1)) af)).inodes.length = f.inodes.length := withE_len.trans hFl
 refine Y.cl rfl rfl Tryz.func178 rfl rfl (args3 (.t .g9) (.t .g8) (.t .z)) (.c .g1 (.c .z (.c .z .n))) (fun _ _ hs tr => c_178 (f := F) _ _ hs (by first | assumption | (constructor <;> omega)) (by omega)) ?_
 rintro _ _ ⟨sg, sh, rfl, rfl⟩
 refine Y.cat (.c (.c (.c .n))) ?_
 refine Y.know (WS.oform .g1) ?_
 rintro ⟨pr, cq, rfl, lb, lc, lf⟩
 refine Y.know (WS.oform .g2) ?_
 rintro ⟨fg, fh, rfl, lg, lh, li⟩
 refine Y.nt (Y.seq ?_)
 refine Y.open (.c .g1 .n) own_raw ?_
 rintro cr a9
 obtain ⟨ab, an⟩ := get_ex (xs := (takeF F ((parP f p).1) (List.eraseIdx (entsAt (F).inodes ((parP f p).1)) af)).inodes) (j := Int.toNat ((parP f q).1)) (by first | omega | (simp <;> omega))
 obtain ⟨si, br⟩ := get_ex (xs := cr) (j := Int.toNat ((parP f q).1)) (by rw [a9]; exact (List.getElem?_eq_some_iff.1 an).1)
 refine Y.turn .g1 (seq_split an br) ?_
 refine Y.open (.c .z .n) kT_44_op ?_
 rintro ⟨sj, sm⟩ rfl
 refine Y.know (WS.oform .z) ?_
 rintro ⟨ct, cu, rfl, lj, lk, ll⟩
 refine Y.know (WS.oform .g1) ?_
 rintro ⟨ps, pt, rfl, lm, ln, lo⟩
 have pu := kind_at (i := ((parP f q).1)) an (by omega)
 have fi := ents_at (a := ((parP f q).1)) an (by omega)
 have pv := links_at (a := ((parP f q).1)) an (by omega)
 have hyl : ab.ents.length ≤ 5 := by have e8 := congrArg List.length fi; exact iw.elim (fun h5 => by first | omega | (simp only [takeF] at *; omega)) (fun h5 => by have e9 := hrl.2 h5.1; first | omega | (simp only [takeF] at *; omega))
 refine Y.sel (.c .z (.c .z (.c .g4 (.c .z (.c .z (.c .z (.c .z (.c .z (.c .z .n))))))))) ?_
 refine Y.dr .g3 15 mixo ?_
 refine Y.sc (qs 0 12 ++ [(12, false), (13, false), (14, true), (15, false)]) (by kernel_rfl) ?_
 refine Y.df rfl rfl .g3 .g10 fa_27_0 (Y.dl rfl rfl .g3 ag_24 .z .g3 (Y.dm rfl rfl .g3 .g14 (Y.df rfl rfl .g3 .g13 fa_27_0 (Y.dl rfl rfl .g3 ag_24 .z .g3 (Y.dm rfl rfl .g3 (.s16 .g1) ?_)))))
 refine Y.know (WS.oad .g5 (by first | omega | (simp <;> omega) | (simp only [List.length_append, List.length_cons, List.length_nil, List.length_set] at *; omega))) ?_
 rintro ⟨cv, rfl⟩
 refine Y.dk rfl rfl .g3 (q_indexAddr (j := Int.toNat ((parP f q).1)) rfl u_24 sz_44 (.t .g1) (.t .z) (by omega) (by first | omega | (simp <;> omega))) ?_
 refine Y.df rfl rfl .g3 .z fa_44_4 (Y.dk rfl rfl .g3 (q_load rfl ag_42 (.t .z) (WS.raw .g2 br rfl)) (Y.dm rfl rfl .g3 (.s16 .g4) (Y.dm rfl rfl .g3 (.s16 .g7) (Y.dk rfl rfl .g3 (q_build (cs := [.string ((parP f q).2.1), .int .i64 ag.ino]) rfl bl_46 (pv2 (.t .g1) (.t .z)) rfl) ?_))))
 refine Y.call (goes_sch rfl rfl) rfl (by decide) rfl (c_call rfl Tryz.func128 rfl rfl (args2 (.t .g3) (.t .z))) .n (fun _ _ hs tr => c_128 (tr.own .g1) (kT_46_mk (⟨(parP f q).2.1, ag.ino⟩ : DEnt) (by first | assumption | omega | (dsimp only; omega))) (by omega)) ?_
 rintro _ _ rfl
 refine Y.cat (.c .n) ?_
 refine Y.know (WS.oform .z) ?_
 rintro ⟨bs, bt, rfl, lp, lq, lr⟩
 refine Y.sk .g4 ?_
 refine Y.q (goes_sch rfl rfl) rfl (by decide) rfl (q_indexAddr (j := Int.toNat ((parP f q).1)) rfl u_24 sz_44 (.t .g11) (.t .g10) (by omega) (by first | omega | (simp <;> omega))) ?_
 refine Y.sk .g4 ?_
 refine Y.df rfl rfl .g4 .z fa_44_4 ?_
 refine Y.es (goes_sch rfl rfl) rfl (es_raw (j := Int.toNat ((parP f q).1)) (off := 4) (cs := [.slice bs (putE ab.ents (⟨(parP f q).2.1, ag.ino⟩ : DEnt)).length bt]) rfl sz_42 (.t .z) (add_add _ _ _) (.t .g2) rfl (ones rfl) .g6 br (Nat.le_of_ble_eq_true rfl)) ?_
 refine Y.ceq (x' := List.set cr (Int.toNat ((parP f q).1)) [.int .i64 ab.kind, .int .i64 ab.links, .int .i64 ab.size, .slice ct ab.blocks.length cu, .slice bs (putE ab.ents (⟨(parP f q).2.1, ag.ino⟩ : DEnt)).length bt]) .z rfl ?_
 refine Y.sl rfl ?_
 refine Y.schN ?_
 refine Y.drawN (by kernel_rfl) ?_
 refine Y.then_ (Y.seq (Y.region (Y.ql rfl (qW rfl ag_27 (.t (.s16 .g9)) .g7 sz_27) (Y.ql rfl (q_build (cs := [.int .i64 0, .int .i64 0, .int .i64 0, .slice none 0 0, .slice none 0 0, .slice (some cv) ((takeF F ((parP f p).1) (List.eraseIdx (entsAt (F).inodes ((parP f p).1)) af)).inodes).length cq, .slice fg ((takeF F ((parP f p).1) (List.eraseIdx (entsAt (F).inodes ((parP f p).1)) af)).data).length fh]) rfl bl_155 (pv1 (.t .z)) rfl) ?_))))
 refine Y.es (goes_list rfl) rfl (esW rfl (.t (.s16 (.s16 .g1))) (.t .z) .g8 sz_155 rfl rfl) ?_
 refine Y.nt (Y.ret ?_)
 refine Y.turns (c := ownA kT_44 (⟨ab.kind, ab.links, ab.size, ab.blocks, putE ab.ents (⟨(parP f q).2.1, ag.ino⟩ : DEnt)⟩ : DInode) [.int .i64 ab.kind, .int .i64 ab.links, .int .i64 ab.size, .slice ct ab.blocks.length cu, .slice bs (putE ab.ents (⟨(parP f q).2.1, ag.ino⟩ : DEnt)).length bt]) (.c .g3 (.c .g2 .n)) (fun w S h => kT_44_omk (⟨ab.kind, ab.links, ab.size, ab.blocks, putE ab.ents (⟨(parP f q).2.1, ag.ino⟩ : DEnt)⟩ : DInode) h) ?_
 refine Y.turns (c := ownA kSl_44 (List.set ((takeF F ((parP f p).1) (List.eraseIdx (entsAt (F).inodes ((parP f p).1)) af)).inodes) (Int.toNat ((parP f q).1)) (⟨ab.kind, ab.links, ab.size, ab.blocks, putE ab.ents (⟨(parP f q).2.1, ag.ino⟩ : DEnt)⟩ : DInode)) [.slice (some cv) ((takeF F ((parP f p).1) (List.eraseIdx (entsAt (F).inodes ((parP f p).1)) af)).inodes).length cq]) (.c .g2 (.c .z (.c .g3 (.c .g3 .n)))) (own_unfocus (K := kT_44) a9 (List.getElem?_eq_some_iff.1 an).1 rfl) ?_
 refine Y.add (c := ownA kSl_5 [] [.slice none 0 0]) (fun w S => own_nil w S none) ?_
 refine Y.add (c := ownA kSl_9 [] [.slice none 0 0]) (fun w S => own_nil w S none) ?_
 refine Y.doneS (resW rfl (.s16 (.s16 .g1)) ag_155 .g3 sz_155) (.c .g1 (.c .z (.c .z (.c .g2 .n)))) ?_
 exact ⟨(⟨0, 0, 0, [], [], (⟨List.set ((takeF F ((parP f p).1) (List.eraseIdx (entsAt (F).inodes ((parP f p).1)) af)).inodes) (Int.toNat ((parP f q).1)) (⟨ab.kind, ab.links, ab.size, ab.blocks, putE ab.ents (⟨(parP f q).2.1, ag.ino⟩ : DEnt)⟩ : DInode), (takeF F ((parP f p).1) (List.eraseIdx (entsAt (F).inodes ((parP f p).1)) af)).data⟩ : DFs)⟩ : RCall), (by first | exact hj | assumption | exact j_put2 hJG an hyl (by rw [hGl]; constructor <;> (dsimp only; omega)) (by dsimp only; omega)), _, _, _, _, rfl, rfl⟩

end Go.Proofs.YtmejbfmhaoilmaaGreat

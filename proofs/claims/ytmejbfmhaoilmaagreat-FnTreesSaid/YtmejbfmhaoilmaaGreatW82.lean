/- What is proved: contracts of functions, one a function. No condition. -/
import Derived.Test.YtmejbfmhaoilmaaGreatBase1
import Derived.Test.YtmejbfmhaoilmaaGreatW80
import Derived.Test.YtmejbfmhaoilmaaGreatW81
import Derived.Test.YtmejbfmhaoilmaaGreatW35
namespace Go.Proofs.YtmejbfmhaoilmaaGreat
open Go Go.RowKit
set_option linter.unusedVariables false
set_option linter.unusedSimpArgs false
set_option maxHeartbeats 1000000
set_option maxRecDepth 20000
theorem c_175 {w0 : World} {S0 : Bs} {f : DFs} {g0 e0 s0 : Nat} {ad : List Value} {af : Value} {ag : Value} (a : Int) (i : Nat) (hs : Star [rowA g0 e0 s0 1 (af :: ag :: ad), ownA kSl_44 f.inodes [af], ownA kSl_22 f.data [ag]] w0 S0) (hj : Jf f) (hp : placeIn f.inodes.length a) (hi : i < (entsAt f.inodes a).length) :
    Calls Tryz.prog 175 #[.pointer (some ⟨g0, 0, none⟩), .int .i64 a, .int .i64 (i : Int)] w0 (TriPost w0 S0 (PA_27 g0 e0 s0 ad (take2 f a i))) := by
 have ht : J0 f := hj.toJ0
 have bm := hj.n.2
 have bn := hj.n.1
 obtain ⟨bo, bp⟩ := hp
 refine Y.enter (N := 30) Tryz.func175 rfl rfl (by simp) [(0, .pointer (some ⟨g0, 0, none⟩)), (1, .int .i64 a), (2, .int .i64 (i : Int))] (by simp) hs ?_
 refine Y.know (WS.oform .g1) ?_
 rintro ⟨bq, br, rfl, a2, a3, a4⟩
 refine Y.know (WS.oform .g2) ?_
 rintro ⟨bs, bt, rfl, a5, a6, a7⟩
 refine Y.seq (Y.region (Y.mv rfl .z (Y.mv rfl .g2 (Y.mv rfl .g4 ?_))))
 refine Y.cl rfl rfl Tryz.func178 rfl rfl (args3 (.t .g2) (.t .g1) (.t .z)) (.c .z (.c .z (.c .z .n))) (fun _ _ hs tr => c_178 (f := f) _ _ hs (by first | assumption | (constructor <;> omega)) (by omega)) ?_
 rintro _ _ ⟨v3, v5, rfl, rfl⟩
 refine Y.cat (.c (.c (.c .n))) ?_
 refine Y.know (WS.oform .g1) ?_
 rintro ⟨bu, bv, rfl, a8, a9, ba⟩
 refine Y.know (WS.oform .g2) ?_
 rintro ⟨bw, bx, rfl, bb, bc, bd⟩
 refine Y.as rfl .z (Y.nt (Y.seq (Y.region (Y.mv rfl .g5 (Y.mv rfl .g1 ?_)))))
 have hkp := jino_place ht hi
 have hlp : LessPre (takeF f a (List.eraseIdx (entsAt f.inodes a) i)) (inoAt (entsAt f.inodes a) i) := jless_pre (j_erase hj) (by show placeIn (withE _ _ _).length _; rw [withE_len]; exact hkp)
 have hLl : (lessF (takeF f a (List.eraseIdx (entsAt f.inodes a) i)) (inoAt (entsAt f.inodes a) i)).inodes.length = f.inodes.length := less_len.trans withE_len
 obtain ⟨bz, b0⟩ := hkp
 refine Y.cl rfl rfl Tryz.func197 rfl rfl (args2 (.t .g1) (.t .z)) (.c .z (.c .z (.c .z .n))) (fun _ _ hs tr => c_197 (f := (takeF f a (List.eraseIdx (entsAt (f).inodes a) i))) _ hs hlp) ?_
 rintro _ _ ⟨v9, b1, rfl, rfl⟩
 refine Y.cat (.c (.c (.c .n))) ?_
 refine Y.know (WS.oform .g1) ?_
 rintro ⟨be, ah, rfl, ao, ap, aq⟩
 refine Y.know (WS.oform .g2) ?_
 rintro ⟨bf, bg, rfl, ar, au, av⟩
 refine Y.nt (Y.seq (Y.region (Y.mv rfl .g8 (Y.nc rfl .z (Y.fa rfl .z fa_27_0 (Y.ld rfl ag_24 .z .z (Y.mv rfl .g7 ?_)))))))
 refine Y.open (.c .g1 .n) own_raw ?_
 rintro ai aa
 obtain ⟨ae, ab⟩ := get_ex (xs := (lessF (takeF f a (List.eraseIdx (entsAt (f).inodes a) i)) (inoAt (entsAt (f).inodes a) i)).inodes) (j := Int.toNat (inoAt (entsAt (f).inodes a) i)) (by first | omega | (simp <;> omega))
 obtain ⟨b2, ac⟩ := get_ex (xs := ai) (j := Int.toNat (inoAt (entsAt (f).inodes a) i)) (by rw [aa]; exact (List.getElem?_eq_some_iff.1 ab).1)
 refine Y.turn .g1 (seq_split ab ac) ?_
 refine Y.open (.c .z .n) kT_44_op ?_
 rintro ⟨b3, b4⟩ rfl
 refine Y.know (WS.oform .z) ?_
 rintro ⟨ak, al, rfl, aw, ax, ay⟩
 refine Y.know (WS.oform .g1) ?_
 rintro ⟨am, an, rfl, az, a0, a1⟩
 have bh := kind_at (i := (inoAt (entsAt (f).inodes a) i)) ab (by omega)
 have bi := ents_at (a := (inoAt (entsAt (f).inodes a) i)) ab (by omega)
 have bj := links_at (a := (inoAt (entsAt (f).inodes a) i)) ab (by omega)
 refine Y.know (WS.oad .g4 (by first | omega | (simp <;> omega) | (simp only [List.length_append, List.length_cons, List.length_nil, List.length_set] at *; omega))) ?_
 rintro ⟨aj, rfl⟩
 refine Y.ql rfl (q_indexAddr (j := Int.toNat (inoAt (entsAt (f).inodes a) i)) rfl u_24 sz_44 (.t .g1) (.t .z) (by omega) (by first | omega | (simp <;> omega))) ?_
 refine Y.fa rfl .z fa_44_0 (Y.ql rfl (q_load rfl ag_2 (.t .z) (WS.raw .g4 ac rfl)) (Y.ql rfl (q_eql rfl (.t .z) .c) (Y.nt ?_)))
 refine Y.condP (.t .z) (fun bk => ?_) (fun bk => ?_)
 refine Y.region (Y.mv rfl (.s16 .g1) (Y.nc rfl .z (Y.fa rfl .z fa_27_0 (Y.ld rfl ag_24 .z .g5 (Y.mv rfl .g16 (Y.ql rfl (q_build (cs := [.int .i64 0, .int .i64 0, .int .i64 0, .slice none 0 0, .slice none 0 0]) rfl bl_44 pv0 rfl) ?_))))))
 refine Y.ql rfl (q_indexAddr (j := Int.toNat (inoAt (entsAt (f).inodes a) i)) rfl u_24 sz_44 (.t .g2) (.t .g1) (by omega) (by first | omega | (simp <;> omega))) ?_
 refine Y.es (goes_list rfl) rfl (es_raw (j := Int.toNat (inoAt (entsAt (f).inodes a) i)) (off := 0) (cs := [.int .i64 0, .int .i64 0, .int .i64 0, .slice none 0 0, .slice none 0 0]) rfl sz_44 (.t .z) rfl (.t .g1) rfl (ones rfl) .g4 ac (Nat.le_of_ble_eq_true rfl)) ?_
 refine Y.ceq (x' := List.set ai (Int.toNat (inoAt (entsAt (f).inodes a) i)) [.int .i64 0, .int .i64 0, .int .i64 0, .slice none 0 0, .slice none 0 0]) .z rfl ?_
 refine Y.nil ?_
 refine Y.add (c := ownA kSl_2 [] [.slice none 0 0]) (fun w S => own_nil w S none) ?_
 refine Y.add (c := ownA kSl_46 [] [.slice none 0 0]) (fun w S => own_nil w S none) ?_
 refine Y.turns (c := ownA kT_44 (⟨0, 0, 0, [], []⟩ : DInode) [.int .i64 0, .int .i64 0, .int .i64 0, .slice none 0 0, .slice none 0 0]) (.c .g1 (.c .z .n)) (fun w S h => kT_44_omk (⟨0, 0, 0, [], []⟩ : DInode) h) ?_
 refine Y.turns (c := ownA kSl_44 (List.set ((lessF (takeF f a (List.eraseIdx (entsAt (f).inodes a) i)) (inoAt (entsAt (f).inodes a) i)).inodes) (Int.toNat (inoAt (entsAt (f).inodes a) i)) (⟨0, 0, 0, [], []⟩ : DInode)) [.slice (some aj) ((lessF (takeF f a (List.eraseIdx (entsAt (f).inodes a) i)) (inoAt (entsAt (f).inodes a) i)).inodes).length ah]) (.c .g1 (.c .z (.c .g2 (.c .g2 .n)))) (own_unfocus (K := kT_44) aa (List.getElem?_eq_some_iff.1 ab).1 rfl) ?_
 refine Y.doneSN (res0 rfl) (.c .g3 (.c .z (.c .g2 .n))) ?_
 exact ⟨_, _, rfl, by first | (rw [take2_d (by omega)]; done) | (rw [take2_n (by omega)]; done)⟩
 refine Y.skip ?_
 refine Y.turns (c := ownA kT_44 ae [.int .i64 ae.kind, .int .i64 ae.links, .int .i64 ae.size, .slice ak ae.blocks.length al, .slice am ae.ents.length an]) (.c .z (.c .z .n)) (fun w S h => kT_44_omk ae h) ?_
 refine Y.turns (c := ownA kSl_44 ((lessF (takeF f a (List.eraseIdx (entsAt (f).inodes a) i)) (inoAt (entsAt (f).inodes a) i)).inodes) [.slice (some aj) ((lessF (takeF f a (List.eraseIdx (entsAt (f).inodes a) i)) (inoAt (entsAt (f).inodes a) i)).inodes).length ah]) (.c .g3 (.c .z (.c .z (.c .z .n)))) (own_unfocus0 (K := kT_44) aa ab ac) ?_
 refine Y.doneSN (res0 rfl) (.c .g1 (.c .z (.c .z .n))) ?_
 exact ⟨_, _, rfl, by first | (rw [take2_d (by omega)]; done) | (rw [take2_n (by omega)]; done)⟩

theorem c_177 {w0 : World} {S0 : Bs} {f : DFs} {aj : Addr} (h0 : PtrRo kT_27 w0 (FF w0 S0) aj f) (a : Int) (b : Int) (hp : placeIn f.inodes.length a) (hq : placeIn f.inodes.length b) :
    Calls Tryz.prog 177 #[.pointer (some aj), .int .i64 a, .int .i64 b] w0 (TriPost w0 S0 (fun r l => ∃ c : Int, (c = 0 → (entsAt f.inodes b).length = 0) ∧ r = .int .i64 c ∧ l = [])) := by
 obtain ⟨ca, ak, bz, al⟩ := id h0
 obtain ⟨b0, b1, rfl, am, an⟩ := kT_27_ro bz
 obtain ⟨b2, b3, rfl, bc, bd, be, ab⟩ := ro_form am
 obtain ⟨b4, b5, rfl, bf, bg, bh, bi⟩ := ro_form an
 obtain ⟨cb, cc⟩ := hp
 obtain ⟨cd, ce⟩ := hq
 refine Y.enter (N := 36) Tryz.func177 rfl rfl (by simp) [(0, .pointer (some aj)), (1, .int .i64 a), (2, .int .i64 b)] (by simp) (l0 := []) trivial ?_
 refine Y.seq (Y.region (Y.ql rfl (q_assign rfl .c) (Y.nt (Y.seq (Y.seq ?_)))))
 refine Y.dr .z 19 mixo ?_
 refine Y.sc (qs 0 19) (by kernel_rfl) ?_
 refine Y.dm rfl rfl .z .g1 (Y.dn rfl rfl .z .z (Y.df rfl rfl .z .z fa_27_0 (Y.de rfl rfl .z ag_24 .z ak al (Y.dm rfl rfl .z .g6 ?_))))
 obtain ⟨cf, ac, aa⟩ := ab (by omega)
 subst ac
 obtain ⟨x4, bj⟩ := get_ex (xs := f.inodes) (j := Int.toNat a) (by omega)
 obtain ⟨b6, ao, ap, aq⟩ := aa.elem bj
 obtain ⟨bk, bm, rfl, ad, ae⟩ := kT_44_ro ao
 obtain ⟨bn, bo, rfl, ar, au, av, aw⟩ := ro_form ad
 obtain ⟨bp, bq, rfl, ax, ay, az, a0⟩ := ro_form ae
 have a1 := ents_at (a := a) bj (by omega)
 refine Y.dk rfl rfl .z (q_indexAddr (j := Int.toNat a) rfl u_24 sz_44 (.t .g1) (.t .z) (by omega) (by omega)) ?_
 refine Y.df rfl rfl .z .z fa_44_0 (Y.de rfl rfl .z ag_2 .z ap aq (Y.dk rfl rfl .z (q_eql rfl (.t .z) .c) (Y.dm rfl rfl .z .g10 (Y.dn rfl rfl .z .z (Y.df rfl rfl .z .z fa_27_0 (Y.de rfl rfl .z ag_24 .z ak al (Y.dm rfl rfl .z .g16 ?_)))))))
 obtain ⟨x8, br⟩ := get_ex (xs := f.inodes) (j := Int.toNat b) (by omega)
 obtain ⟨b7, a2, af, ag⟩ := aa.elem br
 obtain ⟨bs, bt, rfl, ah, ai⟩ := kT_44_ro a2
 obtain ⟨bu, bv, rfl, a3, a4, a5, a6⟩ := ro_form ah
 obtain ⟨bw, bx, rfl, a7, a8, a9, ba⟩ := ro_form ai
 have bb := ents_at (a := b) br (by omega)
 refine Y.dk rfl rfl .z (q_indexAddr (j := Int.toNat b) rfl u_24 sz_44 (.t .g1) (.t .z) (by omega) (by omega)) ?_
 refine Y.df rfl rfl .z .z fa_44_0 (Y.de rfl rfl .z ag_2 .z af ag (Y.dk rfl rfl .z (q_eql rfl (.t .z) .c) (Y.dk rfl rfl .z (q_bneq rfl u_4 (.t .g9) (.t .z)) (Y.schN ?_))))
 refine Y.drawN (by kernel_rfl) ?_
 refine Y.then_ ?_
 refine Y.cond (.t .z) (fun b8 => ?_) (fun b8 => ?_)
 refine Y.seq (Y.region (Y.er (.s16 .g3) (Y.ql rfl (q_assign rfl .c) (Y.nt (Y.ret (Y.thenR ?_))))))
 refine Y.doneS (res1 rfl .z) .n ?_
 exact ⟨_, (by intro hz; first | exact absurd hz (by decide) | (rw [a1]; omega) | (rw [bb]; omega)), rfl, rfl⟩
 refine Y.skip (Y.then_ (Y.seq (Y.seq (Y.region (Y.mv rfl (.s16 .g4) (Y.nc rfl .z (Y.fa rfl .z fa_27_0 (Y.le rfl ag_24 .z ak al ?_))))))))
 refine Y.mv rfl (.s16 .g10) ?_
 refine Y.ql rfl (q_indexAddr (j := Int.toNat b) rfl u_24 sz_44 (.t .g1) (.t .z) (by omega) (by omega)) ?_
 refine Y.fa rfl .z fa_44_4 (Y.le rfl ag_42 .z af ag (Y.ql rfl (q_len rfl u_42 (.t .z)) (Y.ql rfl (q_gtr rfl (.t .z) .c) (Y.nt ?_))))
 refine Y.condP (.t .z) (fun b9 => ?_) (fun b9 => ?_)
 refine Y.seq (Y.region (Y.er (.s16 .g13) (Y.ql rfl (q_assign rfl .c) (Y.nt (Y.ret (Y.thenR ?_))))))
 refine Y.doneS (res1 rfl .z) .n ?_
 exact ⟨_, (by intro hz; first | exact absurd hz (by decide) | (rw [a1]; omega) | (rw [bb]; omega)), rfl, rfl⟩
 refine Y.skip (Y.then_ (Y.seq (Y.region (Y.er (.s16 .g13) (Y.ql rfl (q_assign rfl .c) (Y.nt (Y.ret ?_)))))))
 refine Y.doneS (res1 rfl .z) .n ?_
 exact ⟨_, (by intro hz; first | exact absurd hz (by decide) | (rw [a1]; omega) | (rw [bb]; omega)), rfl, rfl⟩

theorem c_155 {w0 : World} {S0 : Bs} {f : DFs} {b8 : List Value} (h0 : kT_27.ro w0 (FF w0 S0) f b8) (p : ByteArray) (gz : p.size ≤ 140737488351232) (k : Int) (hj : Jf f) (hk : 1 ≤ k ∧ k ≤ 2) :
    Calls Tryz.prog 155 #[.agg b8.toArray, .string p, .int .i64 k] w0 (TriPost w0 S0 (fun r l => ∃ x : RCall, Jf x.fs ∧ RA_155 x r l)) := by
 obtain ⟨e8, e9, rfl, ab, ac⟩ := kT_27_ro h0
 obtain ⟨ar, au, rfl, b9, ca, cb, av⟩ := ro_form ab
 obtain ⟨aw, ax, rfl, cc, cd, ce, cf⟩ := ro_form ac
 have ht : J0 f := hj.toJ0
 have g0 := hj.n.2
 have ha := hj.n.1
 have hfr := free_rng f.inodes
 refine Y.enter (N := 77) Tryz.func155 rfl rfl (by simp) [(0, .agg #[.slice ar f.inodes.length au, .slice aw f.data.length ax]), (1, .string p), (2, .int .i64 k)] (by simp) (l0 := []) trivial ?_
 refine Y.seq (Y.region ?_)
 refine Y.el rfl (e_box (cs := [.slice ar f.inodes.length au, .slice aw f.data.length ax]) (n := 2) rfl (.t .z) rfl rfl) ?_
 rintro _ _ ⟨g3, rfl, rfl⟩
 refine Y.el rfl (e_alloc rfl z_155 rfl rfl) ?_
 rintro _ _ ⟨g4, rfl, rfl⟩
 refine Y.nt (Y.seq (Y.region (Y.mv rfl .g3 ?_)))
 refine Y.cl rfl rfl Tryz.func171 rfl rfl (args2 (.t .g2) (.t .z)) .n (fun _ _ hs tr => c_171w (tr.ptr .g1 (kT_27_mk f (tr.ctx ab) (tr.ctx ac))) _ (by first | assumption | omega) (by assumption)) ?_
 rintro _ _ ⟨rfl, rfl⟩
 refine Y.cat .n ?_
 have cg := parP_size (f := f) (s := p)
 have ch := jparP_place ht p
 refine Y.mv rfl .z (Y.ql rfl (q_extract (v := .int .i64 ((parP f p).1)) rfl (.t .z) rfl) (Y.ql rfl (q_extract (v := .string ((parP f p).2.1)) rfl (.t .g1) rfl) (Y.ql rfl (q_extract (v := .int .i64 ((parP f p).2.2)) rfl (.t .g2) rfl) (Y.as rfl .g2 (Y.as rfl .g2 (Y.as rfl .g2 (Y.nt ?_)))))))
 refine Y.seq (Y.seq (Y.region (Y.mv rfl .z (Y.ql rfl (q_neq rfl (.t .z) .c) (Y.nt ?_)))))
 refine Y.condN (.t .z) (fun b7 => ?_) (fun b7 => ?_)
 refine Y.seq (Y.region (Y.ql rfl (qW rfl ag_27 (.t .g12) .g1 sz_27) (Y.mv rfl .g3 ?_)))
 refine Y.cl rfl rfl Tryz.func172 rfl rfl (args2 (.t .g1) (.t .z)) .n (fun _ _ hs tr => c_172 (kT_27_mk f (tr.ctx ab) (tr.ctx ac)) _) ?_
 rintro _ _ ⟨v8, hb, hc, hd, rfl, rfl⟩
 refine Y.cat (.c (.c (.c (.c .n)))) ?_
 refine Y.know (WS.oform .z) ?_
 rintro ⟨fb, fc, rfl, ci, cj, ck⟩
 refine Y.know (WS.oform .g1) ?_
 rintro ⟨fd, fe, rfl, cm, cn, co⟩
 refine Y.know (WS.oform .g2) ?_
 rintro ⟨ff, fg, rfl, cp, cq, cr⟩
 refine Y.know (WS.oform .g3) ?_
 rintro ⟨fh, fi, rfl, ct, cu, cv⟩
 refine Y.es (goes_list rfl) rfl (esW rfl (.t .g14) (.t .z) .g4 sz_155 rfl rfl) ?_
 refine Y.nt (Y.ret (Y.thenR ?_))
 refine Y.doneS (resW rfl .g14 ag_155 .z sz_155) (.c .g1 (.c .g1 (.c .g1 (.c .g1 .n)))) ?_
 exact ⟨(⟨0, ((parP f p).2.2), 0, [], [], (⟨f.inodes, f.data⟩ : DFs)⟩ : RCall), (by first | exact hj | assumption | exact an), _, _, _, _, rfl, rfl⟩
 refine Y.skip (Y.then_ (Y.seq (Y.seq (Y.region (Y.fa rfl .g12 fa_27_0 (Y.ld rfl ag_24 .z .g1 (Y.mv rfl .g6 ?_)))))))
 obtain ⟨fj, ao, ap⟩ := av (by omega)
 subst ao
 obtain ⟨cw, af⟩ := get_ex (xs := f.inodes) (j := Int.toNat ((parP f p).1)) (by first | omega | (simp <;> omega))
 obtain ⟨cx, ay, aj, ak⟩ := ap.elem af
 obtain ⟨be, bf, rfl, aq, ag⟩ := kT_44_ro ay
 obtain ⟨bg, bh, rfl, a6, a7, a8, a9⟩ := ro_form aq
 obtain ⟨bi, bj, rfl, ba, bb, bc, bd⟩ := ro_form ag
 have fk := kind_at (i := ((parP f p).1)) af (by omega)
 have ai := ents_at (a := ((parP f p).1)) af (by omega)
 have fl := links_at (a := ((parP f p).1)) af (by omega)
 have cy := ht.get af
 refine Y.ql rfl (q_indexAddr (j := Int.toNat ((parP f p).1)) rfl u_24 sz_44 (.t .g1) (.t .z) (by omega) (by first | omega | (simp <;> omega))) ?_
 refine Y.fa rfl .z fa_44_4 (Y.le rfl ag_42 .z aj ak (Y.mv rfl .g9 ?_))
 refine Y.cl rfl rfl Tryz.func127 rfl rfl (args2 (.t .g1) (.t .z)) .n (fun _ _ hs tr => c_127 (tr.ctx ag) _ (by first | assumption | omega)) ?_
 rintro _ _ ⟨rfl, rfl⟩
 refine Y.cat .n ?_
 refine Y.ql rfl (q_geq rfl (.t .z) .c) (Y.nt ?_)
 refine Y.condP (.t .z) (fun fm => ?_) (fun fm => ?_)
 have cz := idxF_rng (nameP ((parP f p).2.1)) cw.ents
 refine Y.seq (Y.region (Y.ql rfl (qW rfl ag_27 (.t (.s16 .g5)) .g1 sz_27) ?_))
 refine Y.cl rfl rfl Tryz.func172 rfl rfl (args2 (.t .z) .c) .n (fun _ _ hs tr => c_172 (kT_27_mk f (tr.ctx ab) (tr.ctx ac)) _) ?_
 rintro _ _ ⟨he, hf, hg, hh, rfl, rfl⟩
 refine Y.cat (.c (.c (.c (.c .n)))) ?_
 refine Y.know (WS.oform .z) ?_
 rintro ⟨fn, fo, rfl, c0, c1, c2⟩
 refine Y.know (WS.oform .g1) ?_
 rintro ⟨fp, fq, rfl, c3, c4, c5⟩
 refine Y.know (WS.oform .g2) ?_
 rintro ⟨fr, ft, rfl, c6, c7, c8⟩
 refine Y.know (WS.oform .g3) ?_
 rintro ⟨fu, fv, rfl, c9, da, db⟩
 refine Y.es (goes_list rfl) rfl (esW rfl (.t (.s16 .g6)) (.t .z) .g4 sz_155 rfl rfl) ?_
 refine Y.nt (Y.ret (Y.thenR ?_))
 refine Y.doneS (resW rfl (.s16 .g6) ag_155 .z sz_155) (.c .g1 (.c .g1 (.c .g1 (.c .g1 .n)))) ?_
 exact ⟨(⟨0, 7, 0, [], [], (⟨f.inodes, f.data⟩ : DFs)⟩ : RCall), (by first | exact hj | assumption | exact an), _, _, _, _, rfl, rfl⟩
 have dc := idxF_rng (nameP ((parP f p).2.1)) cw.ents
 refine Y.skip (Y.then_ (Y.seq (Y.seq (Y.region (Y.fa rfl (.s16 .g5) fa_27_0 (Y.ld rfl ag_24 .z .g1 (Y.mv rfl .g15 ?_)))))))
 refine Y.ql rfl (q_indexAddr (j := Int.toNat ((parP f p).1)) rfl u_24 sz_44 (.t .g1) (.t .z) (by omega) (by first | omega | (simp <;> omega))) ?_
 refine Y.fa rfl .z fa_44_4 (Y.le rfl ag_42 .z aj ak (Y.ql rfl (q_len rfl u_42 (.t .z)) (Y.ql rfl (q_geq rfl (.t .z) .c) (Y.nt ?_))))
 refine Y.condP (.t .z) (fun fw => ?_) (fun fw => ?_)
 refine Y.seq (Y.region (Y.ql rfl (qW rfl ag_27 (.t (.s16 .g13)) .g1 sz_27) ?_))
 refine Y.cl rfl rfl Tryz.func172 rfl rfl (args2 (.t .z) .c) .n (fun _ _ hs tr => c_172 (kT_27_mk f (tr.ctx ab) (tr.ctx ac)) _) ?_
 rintro _ _ ⟨hi, hl, hm, hn, rfl, rfl⟩
 refine Y.cat (.c (.c (.c (.c .n)))) ?_
 refine Y.know (WS.oform .z) ?_
 rintro ⟨fx, fy, rfl, dd, dg, dh⟩
 refine Y.know (WS.oform .g1) ?_
 rintro ⟨fz, f0, rfl, di, dj, dp⟩
 refine Y.know (WS.oform .g2) ?_
 rintro ⟨f1, f2, rfl, ds, dt, du⟩
 refine Y.know (WS.oform .g3) ?_
 rintro ⟨f3, f4, rfl, dv, dw, dx⟩
 refine Y.es (goes_list rfl) rfl (esW rfl (.t (.s16 .g14)) (.t .z) .g4 sz_155 rfl rfl) ?_
 refine Y.nt (Y.ret (Y.thenR ?_))
 refine Y.doneS (resW rfl (.s16 .g14) ag_155 .z sz_155) (.c .g1 (.c .g1 (.c .g1 (.c .g1 .n)))) ?_
 exact ⟨(⟨0, 2, 0, [], [], (⟨f.inodes, f.data⟩ : DFs)⟩ : RCall), (by first | exact hj | assumption | exact an), _, _, _, _, rfl, rfl⟩
 refine Y.skip (Y.then_ (Y.seq (Y.region (Y.fa rfl (.s16 .g13) fa_27_0 (Y.ld rfl ag_24 .z .g1 ?_)))))
 refine Y.cl rfl rfl Tryz.func173 rfl rfl (args1 (.t .z)) .n (fun _ _ hs tr => c_173w (tr.ctx ab) (by assumption)) ?_
 rintro _ _ ⟨rfl, rfl⟩
 refine Y.cat .n ?_
 refine Y.as rfl .z (Y.nt (Y.seq (Y.seq (Y.region (Y.mv rfl .z (Y.ql rfl (q_lss rfl (.t .z) .c) (Y.nil ?_)))))))
 refine Y.then_ ?_
 refine Y.condP (.t .z) (fun f5 => ?_) (fun f5 => ?_)
 refine Y.seq (Y.region (Y.ql rfl (qW rfl ag_27 (.t (.s16 (.s16 .g3))) .g1 sz_27) ?_))
 refine Y.cl rfl rfl Tryz.func172 rfl rfl (args2 (.t .z) .c) .n (fun _ _ hs tr => c_172 (kT_27_mk f (tr.ctx ab) (tr.ctx ac)) _) ?_
 rintro _ _ ⟨ho, hp, hq, hr, rfl, rfl⟩
 refine Y.cat (.c (.c (.c (.c .n)))) ?_
 refine Y.know (WS.oform .z) ?_
 rintro ⟨f6, f7, rfl, dy, dz, d0⟩
 refine Y.know (WS.oform .g1) ?_
 rintro ⟨f8, f9, rfl, d1, d2, d3⟩
 refine Y.know (WS.oform .g2) ?_
 rintro ⟨ga, gb, rfl, d4, d5, d6⟩
 refine Y.know (WS.oform .g3) ?_
 rintro ⟨gc, gd, rfl, d7, d8, d9⟩
 refine Y.es (goes_list rfl) rfl (esW rfl (.t (.s16 (.s16 .g4))) (.t .z) .g4 sz_155 rfl rfl) ?_
 refine Y.nt (Y.ret (Y.thenR ?_))
 refine Y.doneS (resW rfl (.s16 (.s16 .g4)) ag_155 .z sz_155) (.c .g1 (.c .g1 (.c .g1 (.c .g1 .n)))) ?_
 exact ⟨(⟨0, 8, 0, [], [], (⟨f.inodes, f.data⟩ : DFs)⟩ : RCall), (by first | exact hj | assumption | exact an), _, _, _, _, rfl, rfl⟩
 refine Y.skip (Y.then_ (Y.seq (Y.region (Y.ql rfl (qW rfl ag_27 (.t (.s16 (.s16 .g3))) .g1 sz_27) ?_))))
 refine Y.cl rfl rfl Tryz.func67 rfl rfl (args1 (.t .z)) .n (fun _ _ hs tr => c_67 (kT_27_mk f (tr.ctx ab) (tr.ctx ac))) ?_
 rintro _ _ ⟨hu, hv, rfl, rfl⟩
 refine Y.cat (.c (.c .n)) ?_
 refine Y.know (WS.oform .z) ?_
 rintro ⟨ge, bk, rfl, ea, eb, ec⟩
 refine Y.know (WS.oform .g1) ?_
 rintro ⟨gf, gg, rfl, ed, ee, ef⟩
 refine Y.el rfl (e_alloc rfl z_27 rfl rfl) ?_
 rintro _ _ ⟨g72, rfl, rfl⟩
 refine Y.es (goes_list rfl) rfl (esW rfl (.t .z) (.t .g1) .z sz_27 rfl rfl) ?_
 refine Y.nt (Y.seq (Y.seq (Y.region (Y.mv rfl .g5 (Y.fa rfl .g1 fa_27_0 (Y.ld rfl ag_24 .z .z (Y.ql rfl (q_len rfl u_24 (.t .z)) ?_)))))))
 refine Y.ql rfl (q_eql rfl (.t .g3) (.t .z)) (Y.nt ?_)
 refine Y.condP (.t .z) (fun gh => ?_) (fun gh => ?_)
 refine Y.region (Y.fa rfl .g5 fa_27_0 (Y.ld rfl ag_24 .z .z (Y.ql rfl (q_build (cs := [.int .i64 0, .int .i64 0, .int .i64 0, .slice none 0 0, .slice none 0 0]) rfl bl_44 pv0 rfl) ?_)))
 refine Y.el rfl (e_buildSliceL (cs := [.int .i64 0, .int .i64 0, .int .i64 0, .slice none 0 0, .slice none 0 0]) rfl u_24 (inz inf_44) (by decide) (pv1 (.t .z)) rfl rfl (by decide) rfl rfl) ?_
 rintro _ _ ⟨g74, rfl, rfl⟩
 refine Y.add (c := ownA kSl_2 [] [.slice none 0 0]) (fun w S => own_nil w S none) ?_
 refine Y.add (c := ownA kSl_46 [] [.slice none 0 0]) (fun w S => own_nil w S none) ?_
 refine Y.turns (c := ownA kT_44 (⟨0, 0, 0, [], []⟩ : DInode) [.int .i64 0, .int .i64 0, .int .i64 0, .slice none 0 0, .slice none 0 0]) (.c .g1 (.c .z .n)) (fun w S h => kT_44_omk (⟨0, 0, 0, [], []⟩ : DInode) h) ?_
 refine Y.el rfl (e_append1 rfl u_24 inf_44 rfl (.t .g2) (.t .z) (.c .g3 (.c .g1 (.c .z .n))) (by first | omega | (simp <;> omega)) (by first | omega | (simp <;> omega))) ?_
 rintro _ _ rfl
 refine Y.know (WS.oform .z) ?_
 rintro ⟨gi, bm, rfl, eg, eh, ei⟩
 refine Y.fa rfl .g10 fa_27_0 ?_
 refine Y.es (goes_list rfl) rfl (es1 (off := 0) rfl sz_24 (.t .z) (.t .g1) rfl rfl .g1 rfl .z) ?_
 refine Y.nt (Y.seq (Y.region (Y.fa rfl .g11 fa_27_0 (Y.ld rfl ag_24 .z .z (Y.mv rfl (.s16 .g2) (Y.mv rfl (.s16 (.s16 (.s16 .g7))) (Y.ql rfl (q_build (cs := [.int .i64 k, .int .i64 0, .int .i64 0, .slice none 0 0, .slice none 0 0]) rfl bl_44 (pv1 (.t .z)) rfl) ?_)))))))
 refine Y.open (.c .g1 .n) own_raw ?_
 rintro az ah
 obtain ⟨hw, ae⟩ := get_ex (xs := f.inodes ++ [(⟨0, 0, 0, [], []⟩ : DInode)]) (j := Int.toNat (freeAt f.inodes)) (by first | omega | (simp <;> omega))
 obtain ⟨hx, a0⟩ := get_ex (xs := az) (j := Int.toNat (freeAt f.inodes)) (by rw [ah]; exact (List.getElem?_eq_some_iff.1 ae).1)
 refine Y.turn .g1 (seq_split ae a0) ?_
 refine Y.open (.c .z .n) kT_44_op ?_
 rintro ⟨hy, hz⟩ rfl
 refine Y.know (WS.oform .z) ?_
 rintro ⟨gj, gk, rfl, ej, ek, em⟩
 refine Y.know (WS.oform .g1) ?_
 rintro ⟨gl, gm, rfl, en, eo, ep⟩
 have gn := kind_at (i := (freeAt f.inodes)) ae (by omega)
 have go := ents_at (a := (freeAt f.inodes)) ae (by omega)
 have gp := links_at (a := (freeAt f.inodes)) ae (by omega)
 refine Y.know (WS.oad .g4 (by first | omega | (simp <;> omega) | (simp only [List.length_append, List.length_cons, List.length_nil, List.length_set] at *; omega))) ?_
 rintro ⟨bn, rfl⟩
 refine Y.ql rfl (q_indexAddr (j := Int.toNat (freeAt f.inodes)) rfl u_24 sz_44 (.t .g3) (.t .g2) (by omega) (by first | omega | (simp <;> omega))) ?_
 refine Y.es (goes_list rfl) rfl (es_raw (j := Int.toNat (freeAt f.inodes)) (off := 0) (cs := [.int .i64 k, .int .i64 0, .int .i64 0, .slice none 0 0, .slice none 0 0]) rfl sz_44 (.t .z) rfl (.t .g1) rfl (ones rfl) .g4 a0 (Nat.le_of_ble_eq_true rfl)) ?_
 refine Y.ceq (x' := List.set az (Int.toNat (freeAt f.inodes)) [.int .i64 k, .int .i64 0, .int .i64 0, .slice none 0 0, .slice none 0 0]) .z rfl ?_
 refine Y.nt (Y.seq (Y.region (Y.mv rfl (.s16 (.s16 .g15)) (Y.mv rfl (.s16 (.s16 .g15)) (Y.mv rfl (.s16 .g8) ?_)))))
 refine Y.add (c := ownA kSl_2 [] [.slice none 0 0]) (fun w S => own_nil w S none) ?_
 refine Y.add (c := ownA kSl_46 [] [.slice none 0 0]) (fun w S => own_nil w S none) ?_
 refine Y.turns (c := ownA kT_44 (⟨k, 0, 0, [], []⟩ : DInode) [.int .i64 k, .int .i64 0, .int .i64 0, .slice none 0 0, .slice none 0 0]) (.c .g1 (.c .z .n)) (fun w S h => kT_44_omk (⟨k, 0, 0, [], []⟩ : DInode) h) ?_
 refine Y.turns (c := ownA kSl_44 (List.set (f.inodes ++ [(⟨0, 0, 0, [], []⟩ : DInode)]) (Int.toNat (freeAt f.inodes)) (⟨k, 0, 0, [], []⟩ : DInode)) [.slice (some bn) (f.inodes ++ [(⟨0, 0, 0, [], []⟩ : DInode)]).length bm]) (.c .g1 (.c .z (.c .g2 (.c .g2 .n)))) (own_unfocus (K := kT_44) ah (List.getElem?_eq_some_iff.1 ae).1 rfl) ?_
 have hid : idxF (nameP (parP f p).2.1) (entsAt f.inodes (parP f p).1) < 0 := by rw [ai]; omega
 have bo : (entsAt f.inodes (parP f p).1).length < 6 := by rw [ai]; omega
 obtain ⟨gq, an, gr, gs⟩ := j_mk hj (xs := f.inodes ++ [⟨0, 0, 0, [], []⟩]) hk (by omega) hid bo (by omega) (.inr ⟨by first | assumption | omega, rfl⟩)
 refine Y.cl rfl rfl Tryz.func78 rfl rfl (args4 (.t (.s16 .g4)) (.t .g2) (.t .g1) (.t .z)) (.c .g3 (.c .z (.c .g2 .n))) (fun _ _ hs tr => c_78w (f := (⟨List.set (f.inodes ++ [(⟨0, 0, 0, [], []⟩ : DInode)]) (Int.toNat (freeAt f.inodes)) (⟨k, 0, 0, [], []⟩ : DInode), f.data⟩ : DFs)) _ _ (by first | assumption | omega) _ hs (by assumption) (by first | assumption | (constructor <;> omega)) (by first | omega | assumption)) ?_
 rintro _ _ ⟨h1, h2, rfl, rfl⟩
 refine Y.cat (.c (.c (.c .n))) ?_
 refine Y.know (WS.oform .g1) ?_
 rintro ⟨bp, bq, rfl, et, eu, ev⟩
 refine Y.know (WS.oform .g2) ?_
 rintro ⟨br, bs, rfl, ew, ey, ez⟩
 refine Y.nt (Y.seq (Y.region (Y.mv rfl (.s16 .g10) (Y.ql rfl (qW rfl ag_27 (.t (.s16 .g6)) .z sz_27) (Y.ql rfl (q_build (cs := [.int .i64 0, .int .i64 0, .int .i64 (freeAt f.inodes), .slice none 0 0, .slice none 0 0, .slice bp ((addF (⟨List.set (f.inodes ++ [(⟨0, 0, 0, [], []⟩ : DInode)]) (Int.toNat (freeAt f.inodes)) (⟨k, 0, 0, [], []⟩ : DInode), f.data⟩ : DFs) ((parP f p).1) ((parP f p).2.1) (freeAt f.inodes)).inodes).length bq, .slice br ((addF (⟨List.set (f.inodes ++ [(⟨0, 0, 0, [], []⟩ : DInode)]) (Int.toNat (freeAt f.inodes)) (⟨k, 0, 0, [], []⟩ : DInode), f.data⟩ : DFs) ((parP f p).1) ((parP f p).2.1) (freeAt f.inodes)).data).length bs]) rfl bl_155 (pv2 (.t .g1) (.t .z)) rfl) ?_)))))
 refine Y.es (goes_list rfl) rfl (esW rfl (.t (.s16 (.s16 (.s16 .g13)))) (.t .z) .g5 sz_155 rfl rfl) ?_
 refine Y.nt (Y.ret ?_)
 refine Y.add (c := ownA kSl_5 [] [.slice none 0 0]) (fun w S => own_nil w S none) ?_
 refine Y.add (c := ownA kSl_9 [] [.slice none 0 0]) (fun w S => own_nil w S none) ?_
 refine Y.doneS (resW rfl (.s16 (.s16 (.s16 .g13))) ag_155 .g2 sz_155) (.c .g1 (.c .z (.c .g2 (.c .g2 .n)))) ?_
 exact ⟨(⟨0, 0, freeAt f.inodes, [], [], (⟨(addF (⟨List.set (f.inodes ++ [(⟨0, 0, 0, [], []⟩ : DInode)]) (Int.toNat (freeAt f.inodes)) (⟨k, 0, 0, [], []⟩ : DInode), f.data⟩ : DFs) ((parP f p).1) ((parP f p).2.1) (freeAt f.inodes)).inodes, (addF (⟨List.set (f.inodes ++ [(⟨0, 0, 0, [], []⟩ : DInode)]) (Int.toNat (freeAt f.inodes)) (⟨k, 0, 0, [], []⟩ : DInode), f.data⟩ : DFs) ((parP f p).1) ((parP f p).2.1) (freeAt f.inodes)).data⟩ : DFs)⟩ : RCall), (by first | exact hj | assumption | exact an), _, _, _, _, rfl, rfl⟩
 refine Y.skip (Y.then_ (Y.seq (Y.region (Y.fa rfl .g5 fa_27_0 (Y.ld rfl ag_24 .z .z (Y.mv rfl .g12 (Y.mv rfl (.s16 (.s16 (.s16 .g1))) (Y.ql rfl (q_build (cs := [.int .i64 k, .int .i64 0, .int .i64 0, .slice none 0 0, .slice none 0 0]) rfl bl_44 (pv1 (.t .z)) rfl) ?_))))))))
 refine Y.open (.c .g1 .n) own_raw ?_
 rintro al ad
 obtain ⟨gt, aa⟩ := get_ex (xs := f.inodes) (j := Int.toNat (freeAt f.inodes)) (by first | omega | (simp <;> omega))
 obtain ⟨gu, am⟩ := get_ex (xs := al) (j := Int.toNat (freeAt f.inodes)) (by rw [ad]; exact (List.getElem?_eq_some_iff.1 aa).1)
 refine Y.turn .g1 (seq_split aa am) ?_
 refine Y.open (.c .z .n) kT_44_op ?_
 rintro ⟨gv, gw⟩ rfl
 refine Y.know (WS.oform .z) ?_
 rintro ⟨e0, e1, rfl, bt, bu, bv⟩
 refine Y.know (WS.oform .g1) ?_
 rintro ⟨e2, e3, rfl, bw, bx, bz⟩
 have e4 := kind_at (i := (freeAt f.inodes)) aa (by omega)
 have e5 := ents_at (a := (freeAt f.inodes)) aa (by omega)
 have e7 := links_at (a := (freeAt f.inodes)) aa (by omega)
 have b0 := ht.get aa
 refine Y.know (WS.oad .g4 (by first | omega | (simp <;> omega) | (simp only [List.length_append, List.length_cons, List.length_nil, List.length_set] at *; omega))) ?_
 rintro ⟨a1, rfl⟩
 refine Y.ql rfl (q_indexAddr (j := Int.toNat (freeAt f.inodes)) rfl u_24 sz_44 (.t .g3) (.t .g2) (by omega) (by first | omega | (simp <;> omega))) ?_
 refine Y.es (goes_list rfl) rfl (es_raw (j := Int.toNat (freeAt f.inodes)) (off := 0) (cs := [.int .i64 k, .int .i64 0, .int .i64 0, .slice none 0 0, .slice none 0 0]) rfl sz_44 (.t .z) rfl (.t .g1) rfl (ones rfl) .g4 am (Nat.le_of_ble_eq_true rfl)) ?_
 refine Y.ceq (x' := List.set al (Int.toNat (freeAt f.inodes)) [.int .i64 k, .int .i64 0, .int .i64 0, .slice none 0 0, .slice none 0 0]) .z rfl ?_
 refine Y.nt (Y.seq (Y.region (Y.mv rfl (.s16 (.s16 .g9)) (Y.mv rfl (.s16 (.s16 .g9)) (Y.mv rfl (.s16 .g2) ?_)))))
 refine Y.add (c := ownA kSl_2 [] [.slice none 0 0]) (fun w S => own_nil w S none) ?_
 refine Y.add (c := ownA kSl_46 [] [.slice none 0 0]) (fun w S => own_nil w S none) ?_
 refine Y.turns (c := ownA kT_44 (⟨k, 0, 0, [], []⟩ : DInode) [.int .i64 k, .int .i64 0, .int .i64 0, .slice none 0 0, .slice none 0 0]) (.c .g1 (.c .z .n)) (fun w S h => kT_44_omk (⟨k, 0, 0, [], []⟩ : DInode) h) ?_
 refine Y.turns (c := ownA kSl_44 (List.set f.inodes (Int.toNat (freeAt f.inodes)) (⟨k, 0, 0, [], []⟩ : DInode)) [.slice (some a1) f.inodes.length bk]) (.c .g1 (.c .z (.c .g2 (.c .g2 .n)))) (own_unfocus (K := kT_44) ad (List.getElem?_eq_some_iff.1 aa).1 rfl) ?_
 have hid : idxF (nameP (parP f p).2.1) (entsAt f.inodes (parP f p).1) < 0 := by rw [ai]; omega
 have bo : (entsAt f.inodes (parP f p).1).length < 6 := by rw [ai]; omega
 obtain ⟨gq, an, gr, gs⟩ := j_mk hj (xs := f.inodes) hk (by omega) hid bo (by omega) (.inl ⟨by first | assumption | omega, rfl⟩)
 refine Y.cl rfl rfl Tryz.func78 rfl rfl (args4 (.t .g14) (.t .g2) (.t .g1) (.t .z)) (.c .g3 (.c .z (.c .g2 .n))) (fun _ _ hs tr => c_78w (f := (⟨List.set f.inodes (Int.toNat (freeAt f.inodes)) (⟨k, 0, 0, [], []⟩ : DInode), f.data⟩ : DFs)) _ _ (by first | assumption | omega) _ hs (by assumption) (by first | assumption | (constructor <;> omega)) (by first | omega | assumption)) ?_
 rintro _ _ ⟨gx, gy, rfl, rfl⟩
 refine Y.cat (.c (.c (.c .n))) ?_
 refine Y.know (WS.oform .g1) ?_
 rintro ⟨a2, a3, rfl, b1, b2, b3⟩
 refine Y.know (WS.oform .g2) ?_
 rintro ⟨a4, a5, rfl, b4, b5, b6⟩
 refine Y.nt (Y.seq (Y.region (Y.mv rfl (.s16 .g4) (Y.ql rfl (qW rfl ag_27 (.t .g16) .z sz_27) (Y.ql rfl (q_build (cs := [.int .i64 0, .int .i64 0, .int .i64 (freeAt f.inodes), .slice none 0 0, .slice none 0 0, .slice a2 ((addF (⟨List.set f.inodes (Int.toNat (freeAt f.inodes)) (⟨k, 0, 0, [], []⟩ : DInode), f.data⟩ : DFs) ((parP f p).1) ((parP f p).2.1) (freeAt f.inodes)).inodes).length a3, .slice a4 ((addF (⟨List.set f.inodes (Int.toNat (freeAt f.inodes)) (⟨k, 0, 0, [], []⟩ : DInode), f.data⟩ : DFs) ((parP f p).1) ((parP f p).2.1) (freeAt f.inodes)).data).length a5]) rfl bl_155 (pv2 (.t .g1) (.t .z)) rfl) ?_)))))
 refine Y.es (goes_list rfl) rfl (esW rfl (.t (.s16 (.s16 (.s16 .g7)))) (.t .z) .g5 sz_155 rfl rfl) ?_
 refine Y.nt (Y.ret ?_)
 refine Y.add (c := ownA kSl_5 [] [.slice none 0 0]) (fun w S => own_nil w S none) ?_
 refine Y.add (c := ownA kSl_9 [] [.slice none 0 0]) (fun w S => own_nil w S none) ?_
 refine Y.doneS (resW rfl (.s16 (.s16 (.s16 .g7))) ag_155 .g2 sz_155) (.c .g1 (.c .z (.c .g2 (.c .g2 .n)))) ?_
 exact ⟨(⟨0, 0, freeAt f.inodes, [], [], (⟨(addF (⟨List.set f.inodes (Int.toNat (freeAt f.inodes)) (⟨k, 0, 0, [], []⟩ : DInode), f.data⟩ : DFs) ((parP f p).1) ((parP f p).2.1) (freeAt f.inodes)).inodes, (addF (⟨List.set f.inodes (Int.toNat (freeAt f.inodes)) (⟨k, 0, 0, [], []⟩ : DInode), f.data⟩ : DFs) ((parP f p).1) ((parP f p).2.1) (freeAt f.inodes)).data⟩ : DFs)⟩ : RCall), (by first | exact hj | assumption | exact an), _, _, _, _, rfl, rfl⟩

theorem c_158 {w0 : World} {S0 : Bs} {f : DFs} {bb : List Value} (h0 : kT_27.ro w0 (FF w0 S0) f bb) (p : ByteArray) (e2 : p.size ≤ 140737488351232) (q : ByteArray) (e3 : q.size ≤ 140737488351232) (hj : Jf f) :
    Calls Tryz.prog 158 #[.agg bb.toArray, .string p, .string q] w0 (TriPost w0 S0 (fun r l => ∃ x : RCall, Jf x.fs ∧ RA_155 x r l)) := by
 obtain ⟨dh, di, rfl, aa, ab⟩ := kT_27_ro h0
 obtain ⟨ah, ai, rfl, bc, bd, be, aj⟩ := ro_form aa
 obtain ⟨ak, al, rfl, bf, bg, bh, bi⟩ := ro_form ab
 have ht : J0 f := hj.toJ0
 have e4 := hj.n.2
 have e5 := hj.n.1
 refine Y.enter (N := 56) Tryz.func158 rfl rfl (by simp) [(0, .agg #[.slice ah f.inodes.length ai, .slice ak f.data.length al]), (1, .string p), (2, .string q)] (by simp) (l0 := []) trivial ?_
 refine Y.seq (Y.region ?_)
 refine Y.el rfl (e_box (cs := [.slice ah f.inodes.length ai, .slice ak f.data.length al]) (n := 2) rfl (.t .z) rfl rfl) ?_
 rintro _ _ ⟨g3, rfl, rfl⟩
 refine Y.el rfl (e_alloc rfl z_155 rfl rfl) ?_
 rintro _ _ ⟨g4, rfl, rfl⟩
 refine Y.nt (Y.seq (Y.region (Y.mv rfl .g3 ?_)))
 refine Y.cl rfl rfl Tryz.func174 rfl rfl (args2 (.t .g2) (.t .z)) .n (fun _ _ hs tr => c_174w (tr.ptr .g1 (kT_27_mk f (tr.ctx aa) (tr.ctx ab))) _ (by first | assumption | omega) (by assumption)) ?_
 rintro _ _ ⟨rfl, rfl⟩
 refine Y.cat .n ?_
 have bj := jwalkP_place ht p
 refine Y.mv rfl .z (Y.ql rfl (q_extract (v := .int .i64 ((walkP f p).1)) rfl (.t .z) rfl) (Y.ql rfl (q_extract (v := .int .i64 ((walkP f p).2)) rfl (.t .g1) rfl) (Y.as rfl .g1 (Y.as rfl .g1 (Y.nt (Y.seq (Y.seq ?_)))))))
 refine Y.region (Y.mv rfl .z (Y.ql rfl (q_neq rfl (.t .z) .c) (Y.nt ?_)))
 refine Y.condN (.t .z) (fun b6 => ?_) (fun b6 => ?_)
 refine Y.seq (Y.region (Y.ql rfl (qW rfl ag_27 (.t .g10) .g1 sz_27) (Y.mv rfl .g3 ?_)))
 refine Y.cl rfl rfl Tryz.func172 rfl rfl (args2 (.t .g1) (.t .z)) .n (fun _ _ hs tr => c_172 (kT_27_mk f (tr.ctx aa) (tr.ctx ab)) _) ?_
 rintro _ _ ⟨v7, v9, e7, e8, rfl, rfl⟩
 refine Y.cat (.c (.c (.c (.c .n)))) ?_
 refine Y.know (WS.oform .z) ?_
 rintro ⟨dj, dp, rfl, bk, bm, bn⟩
 refine Y.know (WS.oform .g1) ?_
 rintro ⟨ds, dt, rfl, bo, bp, bq⟩
 refine Y.know (WS.oform .g2) ?_
 rintro ⟨du, dv, rfl, br, bs, bt⟩
 refine Y.know (WS.oform .g3) ?_
 rintro ⟨dw, dx, rfl, bu, bv, bw⟩
 refine Y.es (goes_list rfl) rfl (esW rfl (.t .g12) (.t .z) .g4 sz_155 rfl rfl) ?_
 refine Y.nt (Y.ret (Y.thenR ?_))
 refine Y.doneS (resW rfl .g12 ag_155 .z sz_155) (.c .g1 (.c .g1 (.c .g1 (.c .g1 .n)))) ?_
 exact ⟨(⟨0, ((walkP f p).2), 0, [], [], (⟨f.inodes, f.data⟩ : DFs)⟩ : RCall), (by first | exact hj | assumption | exact j_add' hj (by omega)), _, _, _, _, rfl, rfl⟩
 refine Y.skip (Y.then_ (Y.seq (Y.seq (Y.region (Y.fa rfl .g10 fa_27_0 (Y.ld rfl ag_24 .z .g1 (Y.mv rfl .g5 ?_)))))))
 obtain ⟨dy, ad, ae⟩ := aj (by omega)
 subst ad
 obtain ⟨e9, ac⟩ := get_ex (xs := f.inodes) (j := Int.toNat ((walkP f p).1)) (by first | omega | (simp <;> omega))
 obtain ⟨bx, am, an, ao⟩ := ae.elem ac
 obtain ⟨az, a0, rfl, af, ag⟩ := kT_44_ro am
 obtain ⟨a1, a2, rfl, ap, aq, ar, au⟩ := ro_form af
 obtain ⟨a3, a4, rfl, av, aw, ax, ay⟩ := ro_form ag
 have dz := kind_at (i := ((walkP f p).1)) ac (by omega)
 have d0 := ents_at (a := ((walkP f p).1)) ac (by omega)
 have d1 := links_at (a := ((walkP f p).1)) ac (by omega)
 have bz := ht.get ac
 refine Y.ql rfl (q_indexAddr (j := Int.toNat ((walkP f p).1)) rfl u_24 sz_44 (.t .g1) (.t .z) (by omega) (by first | omega | (simp <;> omega))) ?_
 refine Y.fa rfl .z fa_44_0 (Y.le rfl ag_2 .z an ao (Y.ql rfl (q_eql rfl (.t .z) .c) (Y.nt ?_)))
 refine Y.condP (.t .z) (fun d2 => ?_) (fun d2 => ?_)
 refine Y.seq (Y.region (Y.ql rfl (qW rfl ag_27 (.t (.s16 .g1)) .g1 sz_27) ?_))
 refine Y.cl rfl rfl Tryz.func172 rfl rfl (args2 (.t .z) .c) .n (fun _ _ hs tr => c_172 (kT_27_mk f (tr.ctx aa) (tr.ctx ab)) _) ?_
 rintro _ _ ⟨fb, fc, fd, fe, rfl, rfl⟩
 refine Y.cat (.c (.c (.c (.c .n)))) ?_
 refine Y.know (WS.oform .z) ?_
 rintro ⟨d3, d4, rfl, b0, b1, b2⟩
 refine Y.know (WS.oform .g1) ?_
 rintro ⟨d5, d6, rfl, b3, b4, b5⟩
 refine Y.know (WS.oform .g2) ?_
 rintro ⟨d7, d8, rfl, b7, b8, b9⟩
 refine Y.know (WS.oform .g3) ?_
 rintro ⟨d9, ea, rfl, ca, cb, cc⟩
 refine Y.es (goes_list rfl) rfl (esW rfl (.t (.s16 .g2)) (.t .z) .g4 sz_155 rfl rfl) ?_
 refine Y.nt (Y.ret (Y.thenR ?_))
 refine Y.doneS (resW rfl (.s16 .g2) ag_155 .z sz_155) (.c .g1 (.c .g1 (.c .g1 (.c .g1 .n)))) ?_
 exact ⟨(⟨0, 9, 0, [], [], (⟨f.inodes, f.data⟩ : DFs)⟩ : RCall), (by first | exact hj | assumption | exact j_add' hj (by omega)), _, _, _, _, rfl, rfl⟩
 refine Y.skip (Y.then_ (Y.seq (Y.region (Y.mv rfl (.s16 .g4) ?_))))
 refine Y.cl rfl rfl Tryz.func171 rfl rfl (args2 (.t (.s16 .g2)) (.t .z)) .n (fun _ _ hs tr => c_171w (tr.ptr .g1 (kT_27_mk f (tr.ctx aa) (tr.ctx ab))) _ (by first | assumption | omega) (by assumption)) ?_
 rintro _ _ ⟨rfl, rfl⟩
 refine Y.cat .n ?_
 have a5 := parP_size (f := f) (s := q)
 have a6 := jparP_place ht q
 refine Y.mv rfl .z (Y.ql rfl (q_extract (v := .int .i64 ((parP f q).1)) rfl (.t .z) rfl) (Y.ql rfl (q_extract (v := .string ((parP f q).2.1)) rfl (.t .g1) rfl) (Y.ql rfl (q_extract (v := .int .i64 ((parP f q).2.2)) rfl (.t .g2) rfl) (Y.as rfl .g2 (Y.as rfl .g2 (Y.er (.s16 .g1) (Y.as rfl .g2 (Y.nil ?_))))))))
 refine Y.then_ (Y.seq (Y.seq (Y.region (Y.mv rfl .z (Y.ql rfl (q_neq rfl (.t .z) .c) (Y.nt ?_))))))
 refine Y.condN (.t .z) (fun eb => ?_) (fun eb => ?_)
 refine Y.seq (Y.region (Y.ql rfl (qW rfl ag_27 (.t (.s16 .g11)) .g1 sz_27) (Y.mv rfl .g3 ?_)))
 refine Y.cl rfl rfl Tryz.func172 rfl rfl (args2 (.t .g1) (.t .z)) .n (fun _ _ hs tr => c_172 (kT_27_mk f (tr.ctx aa) (tr.ctx ab)) _) ?_
 rintro _ _ ⟨ff, fg, fh, fi, rfl, rfl⟩
 refine Y.cat (.c (.c (.c (.c .n)))) ?_
 refine Y.know (WS.oform .z) ?_
 rintro ⟨ec, ed, rfl, cd, ce, cf⟩
 refine Y.know (WS.oform .g1) ?_
 rintro ⟨ee, ef, rfl, cg, ch, ci⟩
 refine Y.know (WS.oform .g2) ?_
 rintro ⟨eg, eh, rfl, cj, ck, cm⟩
 refine Y.know (WS.oform .g3) ?_
 rintro ⟨ei, ej, rfl, cn, co, cp⟩
 refine Y.es (goes_list rfl) rfl (esW rfl (.t (.s16 .g13)) (.t .z) .g4 sz_155 rfl rfl) ?_
 refine Y.nt (Y.ret (Y.thenR ?_))
 refine Y.doneS (resW rfl (.s16 .g13) ag_155 .z sz_155) (.c .g1 (.c .g1 (.c .g1 (.c .g1 .n)))) ?_
 exact ⟨(⟨0, ((parP f q).2.2), 0, [], [], (⟨f.inodes, f.data⟩ : DFs)⟩ : RCall), (by first | exact hj | assumption | exact j_add' hj (by omega)), _, _, _, _, rfl, rfl⟩
 refine Y.skip (Y.then_ (Y.seq (Y.region (Y.ql rfl (qW rfl ag_27 (.t (.s16 .g11)) .g1 sz_27) ?_))))
 refine Y.cl rfl rfl Tryz.func67 rfl rfl (args1 (.t .z)) .n (fun _ _ hs tr => c_67 (kT_27_mk f (tr.ctx aa) (tr.ctx ab))) ?_
 rintro _ _ ⟨fj, fk, rfl, rfl⟩
 refine Y.cat (.c (.c .n)) ?_
 refine Y.know (WS.oform .z) ?_
 rintro ⟨ek, em, rfl, cq, cr, ct⟩
 refine Y.know (WS.oform .g1) ?_
 rintro ⟨en, eo, rfl, cu, cv, cw⟩
 refine Y.el rfl (e_alloc rfl z_27 rfl rfl) ?_
 rintro _ _ ⟨g58, rfl, rfl⟩
 refine Y.es (goes_list rfl) rfl (esW rfl (.t .z) (.t .g1) .z sz_27 rfl rfl) ?_
 refine Y.nt (Y.seq (Y.seq (Y.region (Y.mv rfl .g7 (Y.mv rfl .g7 (Y.mv rfl (.s16 .g9) ?_))))))
 have fl := jents_len ht (parP f q).1
 refine Y.cl rfl rfl Tryz.func78 rfl rfl (args4 (.t .g3) (.t .g2) (.t .g1) (.t .z)) (.c .z (.c .z (.c .z .n))) (fun _ _ hs tr => c_78w (f := f) _ _ (by first | assumption | omega) _ hs (by assumption) (by first | assumption | (constructor <;> omega)) (by first | omega | assumption)) ?_
 rintro _ _ ⟨fm, fn, rfl, rfl⟩
 refine Y.cat (.c (.c (.c .n))) ?_
 refine Y.know (WS.oform .g1) ?_
 rintro ⟨a7, a8, rfl, cx, cy, cz⟩
 refine Y.know (WS.oform .g2) ?_
 rintro ⟨a9, ba, rfl, c0, c1, c2⟩
 refine Y.as rfl .z (Y.nt (Y.seq (Y.region (Y.mv rfl .z (Y.ql rfl (q_neq rfl (.t .z) .c) (Y.nt ?_))))))
 refine Y.condN (.t .z) (fun ep => ?_) (fun ep => ?_)
 refine Y.seq (Y.region (Y.ql rfl (qW rfl ag_27 (.t (.s16 (.s16 .g5))) .g4 sz_27) (Y.mv rfl .g3 ?_)))
 refine Y.cl rfl rfl Tryz.func172 rfl rfl (args2 (.t .g1) (.t .z)) .n (fun _ _ hs tr => c_172 (kT_27_mk f (tr.ctx aa) (tr.ctx ab)) _) ?_
 rintro _ _ ⟨fo, fp, fq, fr, rfl, rfl⟩
 refine Y.cat (.c (.c (.c (.c .n)))) ?_
 refine Y.know (WS.oform .z) ?_
 rintro ⟨et, eu, rfl, c3, c4, c5⟩
 refine Y.know (WS.oform .g1) ?_
 rintro ⟨ev, ew, rfl, c6, c7, c8⟩
 refine Y.know (WS.oform .g2) ?_
 rintro ⟨ey, ez, rfl, c9, da, db⟩
 refine Y.know (WS.oform .g3) ?_
 rintro ⟨e0, e1, rfl, dc, dd, dg⟩
 refine Y.es (goes_list rfl) rfl (esW rfl (.t (.s16 (.s16 .g7))) (.t .z) .g7 sz_155 rfl rfl) ?_
 refine Y.nt (Y.ret (Y.thenR ?_))
 refine Y.doneS (resW rfl (.s16 (.s16 .g7)) ag_155 .z sz_155) (.c .g1 (.c .g1 (.c .g1 (.c .g1 .n)))) ?_
 exact ⟨(⟨0, (addC f ((parP f q).1) ((parP f q).2.1) ((walkP f p).1)), 0, [], [], (⟨f.inodes, f.data⟩ : DFs)⟩ : RCall), (by first | exact hj | assumption | exact j_add' hj (by omega)), _, _, _, _, rfl, rfl⟩
 refine Y.skip (Y.then_ (Y.seq (Y.region (Y.ql rfl (qW rfl ag_27 (.t .g7) .z sz_27) (Y.ql rfl (q_build (cs := [.int .i64 0, .int .i64 0, .int .i64 0, .slice none 0 0, .slice none 0 0, .slice a7 ((addF f ((parP f q).1) ((parP f q).2.1) ((walkP f p).1)).inodes).length a8, .slice a9 ((addF f ((parP f q).1) ((parP f q).2.1) ((walkP f p).1)).data).length ba]) rfl bl_155 (pv1 (.t .z)) rfl) ?_)))))
 refine Y.es (goes_list rfl) rfl (esW rfl (.t (.s16 (.s16 .g6))) (.t .z) .g3 sz_155 rfl rfl) ?_
 refine Y.nt (Y.ret ?_)
 refine Y.add (c := ownA kSl_5 [] [.slice none 0 0]) (fun w S => own_nil w S none) ?_
 refine Y.add (c := ownA kSl_9 [] [.slice none 0 0]) (fun w S => own_nil w S none) ?_
 refine Y.doneS (resW rfl (.s16 (.s16 .g6)) ag_155 .g2 sz_155) (.c .g1 (.c .z (.c .g2 (.c .g2 .n)))) ?_
 exact ⟨(⟨0, 0, 0, [], [], (⟨(addF f ((parP f q).1) ((parP f q).2.1) ((walkP f p).1)).inodes, (addF f ((parP f q).1) ((parP f q).2.1) ((walkP f p).1)).data⟩ : DFs)⟩ : RCall), (by first | exact hj | assumption | exact j_add' hj (by omega)), _, _, _, _, rfl, rfl⟩

theorem c_157 {w0 : World} {S0 : Bs} {f : DFs} {e0 : List Value} (h0 : kT_27.ro w0 (FF w0 S0) f e0) {c : DCall} {e1 : List Value} (h1 : kT_158.ro w0 (FF w0 S0) c e1) (hj : Jf f) :
    Calls Tryz.prog 157 #[.agg e0.toArray, .agg e1.toArray] w0 (TriPost w0 S0 (fun r l => ∃ x : RCall, Jf x.fs ∧ RA_155 x r l)) := by
 obtain ⟨ip, iq, rfl, aa, ab⟩ := kT_27_ro h0
 obtain ⟨a3, a4, rfl, e2, e3, e4, a5⟩ := ro_form aa
 obtain ⟨a6, a7, rfl, e5, e7, e8, e9⟩ := ro_form ab
 obtain ⟨ir, rfl, cc, it, iu⟩ := kT_158_ro h1
 obtain ⟨a8, a9, rfl, fb, fc, fd, fe⟩ := ro_form cc
 have ht : J0 f := hj.toJ0
 have kn := hj.n.2
 have ko := hj.n.1
 refine Y.enter (N := 87) Tryz.func157 rfl rfl (by simp) [(0, .agg #[.slice a3 f.inodes.length a4, .slice a6 f.data.length a7]), (1, .agg #[.int .i64 c.kind, .string c.path, .string c.to, .int .i64 c.frm, .int .i64 c.size, .slice a8 c.data.length a9])] (by simp) (l0 := []) trivial ?_
 refine Y.seq (Y.region ?_)
 refine Y.el rfl (e_box (cs := [.slice a3 f.inodes.length a4, .slice a6 f.data.length a7]) (n := 2) rfl (.t .z) rfl rfl) ?_
 rintro _ _ ⟨g4, rfl, rfl⟩
 refine Y.el rfl (e_box (cs := [.int .i64 c.kind, .string c.path, .string c.to, .int .i64 c.frm, .int .i64 c.size, .slice a8 c.data.length a9]) (n := 6) rfl (.t .g2) rfl rfl) ?_
 rintro _ _ ⟨g5, rfl, rfl⟩
 refine Y.el rfl (e_alloc rfl z_155 rfl rfl) ?_
 rintro _ _ ⟨g6, rfl, rfl⟩
 refine Y.nt (Y.seq (Y.region (Y.fa rfl .g1 fa_158_1 (Y.ld rfl ag_9 .z .g1 ?_))))
 refine Y.cl rfl rfl Tryz.func171 rfl rfl (args2 (.t .g4) (.t .z)) .n (fun _ _ hs tr => c_171w (tr.ptr .g2 (kT_27_mk f (tr.ctx aa) (tr.ctx ab))) _ (by first | assumption | omega) (by assumption)) ?_
 rintro _ _ ⟨rfl, rfl⟩
 refine Y.cat .n ?_
 have ff := parP_size (f := f) (s := c.path)
 have fg := jparP_place ht c.path
 refine Y.mv rfl .z (Y.ql rfl (q_extract (v := .int .i64 ((parP f c.path).1)) rfl (.t .z) rfl) (Y.ql rfl (q_extract (v := .string ((parP f c.path).2.1)) rfl (.t .g1) rfl) (Y.ql rfl (q_extract (v := .int .i64 ((parP f c.path).2.2)) rfl (.t .g2) rfl) (Y.as rfl .g2 (Y.as rfl .g2 (Y.as rfl .g2 (Y.nt ?_)))))))
 refine Y.seq (Y.seq (Y.region (Y.mv rfl .z (Y.ql rfl (q_neq rfl (.t .z) .c) (Y.nt ?_)))))
 refine Y.condN (.t .z) (fun b9 => ?_) (fun b9 => ?_)
 refine Y.seq (Y.region (Y.ql rfl (qW rfl ag_27 (.t .g14) .g2 sz_27) (Y.mv rfl .g3 ?_)))
 refine Y.cl rfl rfl Tryz.func172 rfl rfl (args2 (.t .g1) (.t .z)) .n (fun _ _ hs tr => c_172 (kT_27_mk f (tr.ctx aa) (tr.ctx ab)) _) ?_
 rintro _ _ ⟨kp, kq, kr, ks, rfl, rfl⟩
 refine Y.cat (.c (.c (.c (.c .n)))) ?_
 refine Y.know (WS.oform .z) ?_
 rintro ⟨iv, iw, rfl, fh, fi, fj⟩
 refine Y.know (WS.oform .g1) ?_
 rintro ⟨ix, iy, rfl, fk, fl, fm⟩
 refine Y.know (WS.oform .g2) ?_
 rintro ⟨iz, i0, rfl, fn, fo, fp⟩
 refine Y.know (WS.oform .g3) ?_
 rintro ⟨i1, i2, rfl, fq, fr, ft⟩
 refine Y.es (goes_list rfl) rfl (esW rfl (.t .g15) (.t .z) .g4 sz_155 rfl rfl) ?_
 refine Y.nt (Y.ret (Y.thenR ?_))
 refine Y.doneS (resW rfl .g15 ag_155 .z sz_155) (.c .g1 (.c .g1 (.c .g1 (.c .g1 .n)))) ?_
 exact ⟨(⟨0, ((parP f c.path).2.2), 0, [], [], (⟨f.inodes, f.data⟩ : DFs)⟩ : RCall), (by first | exact hj | assumption | exact j_take2 hj _ _), _, _, _, _, rfl, rfl⟩
 refine Y.skip (Y.then_ (Y.seq (Y.region (Y.fa rfl .g14 fa_27_0 (Y.ld rfl ag_24 .z .g2 (Y.mv rfl .g6 ?_))))))
 obtain ⟨i3, ar, ag⟩ := a5 (by omega)
 subst ar
 obtain ⟨ao, ah⟩ := get_ex (xs := f.inodes) (j := Int.toNat ((parP f c.path).1)) (by first | omega | (simp <;> omega))
 obtain ⟨fu, ba, ap, aq⟩ := ag.elem ah
 obtain ⟨cd, ce, rfl, au, ai⟩ := kT_44_ro ba
 obtain ⟨cf, cg, rfl, bu, bv, bw, bx⟩ := ro_form au
 obtain ⟨ch, ci, rfl, bz, b0, b1, al⟩ := ro_form ai
 have i4 := kind_at (i := ((parP f c.path).1)) ah (by omega)
 have av := ents_at (a := ((parP f c.path).1)) ah (by omega)
 have i5 := links_at (a := ((parP f c.path).1)) ah (by omega)
 have bb := ht.get ah
 refine Y.ql rfl (q_indexAddr (j := Int.toNat ((parP f c.path).1)) rfl u_24 sz_44 (.t .g1) (.t .z) (by omega) (by first | omega | (simp <;> omega))) ?_
 refine Y.fa rfl .z fa_44_4 (Y.le rfl ag_42 .z ap aq (Y.mv rfl .g9 ?_))
 refine Y.cl rfl rfl Tryz.func127 rfl rfl (args2 (.t .g1) (.t .z)) .n (fun _ _ hs tr => c_127 (tr.ctx ai) _ (by first | assumption | omega)) ?_
 rintro _ _ ⟨rfl, rfl⟩
 refine Y.cat .n ?_
 refine Y.as rfl .z (Y.nt (Y.seq (Y.seq (Y.region (Y.mv rfl .z (Y.ql rfl (q_lss rfl (.t .z) .c) (Y.nil ?_)))))))
 refine Y.then_ ?_
 refine Y.condP (.t .z) (fun i6 => ?_) (fun i6 => ?_)
 have fv := idxF_rng (nameP ((parP f c.path).2.1)) ao.ents
 refine Y.seq (Y.region (Y.ql rfl (qW rfl ag_27 (.t (.s16 .g9)) .g2 sz_27) ?_))
 refine Y.cl rfl rfl Tryz.func172 rfl rfl (args2 (.t .z) .c) .n (fun _ _ hs tr => c_172 (kT_27_mk f (tr.ctx aa) (tr.ctx ab)) _) ?_
 rintro _ _ ⟨kt, ku, kv, kw, rfl, rfl⟩
 refine Y.cat (.c (.c (.c (.c .n)))) ?_
 refine Y.know (WS.oform .z) ?_
 rintro ⟨i7, i8, rfl, fw, fx, fy⟩
 refine Y.know (WS.oform .g1) ?_
 rintro ⟨i9, ja, rfl, fz, f0, f1⟩
 refine Y.know (WS.oform .g2) ?_
 rintro ⟨jb, jc, rfl, f2, f3, f4⟩
 refine Y.know (WS.oform .g3) ?_
 rintro ⟨jd, je, rfl, f5, f6, f7⟩
 refine Y.es (goes_list rfl) rfl (esW rfl (.t (.s16 .g9)) (.t .z) .g4 sz_155 rfl rfl) ?_
 refine Y.nt (Y.ret (Y.thenR ?_))
 refine Y.doneS (resW rfl (.s16 .g9) ag_155 .z sz_155) (.c .g1 (.c .g1 (.c .g1 (.c .g1 .n)))) ?_
 exact ⟨(⟨0, 4, 0, [], [], (⟨f.inodes, f.data⟩ : DFs)⟩ : RCall), (by first | exact hj | assumption | exact j_take2 hj _ _), _, _, _, _, rfl, rfl⟩
 have f8 := idxF_rng (nameP ((parP f c.path).2.1)) ao.ents
 refine Y.skip (Y.then_ (Y.seq ?_))
 refine Y.dr .z 13 mixo ?_
 refine Y.sc (qs 0 13 ++ [(13, false)]) (by kernel_rfl) ?_
 refine Y.df rfl rfl .z (.s16 .g9) fa_27_0 (Y.dl rfl rfl .z ag_24 .z .g2 (Y.df rfl rfl .z (.s16 .g11) fa_27_0 (Y.dl rfl rfl .z ag_24 .z .g2 (Y.dm rfl rfl .z (.s16 .g3) ?_))))
 refine Y.dk rfl rfl .z (q_indexAddr (j := Int.toNat ((parP f c.path).1)) rfl u_24 sz_44 (.t .g1) (.t .z) (by omega) (by first | omega | (simp <;> omega))) ?_
 refine Y.df rfl rfl .z .z fa_44_4 (Y.de rfl rfl .z ag_42 .z ap aq (Y.dm rfl rfl .z .g10 ?_))
 obtain ⟨jf, aw, ax⟩ := al (by omega)
 subst aw
 obtain ⟨bc, bd⟩ := get_ex (xs := ao.ents) (j := Int.toNat (idxF (nameP ((parP f c.path).2.1)) ao.ents)) (by first | omega | (simp <;> omega))
 obtain ⟨f9, be, bf, bg⟩ := ax.elem bd
 obtain ⟨rfl, cj⟩ := kT_46_ro be
 have ga := jents_ok bb _ _ bd
 refine Y.dk rfl rfl .z (q_indexAddr (j := Int.toNat (idxF (nameP ((parP f c.path).2.1)) ao.ents)) rfl u_42 sz_46 (.t .g1) (.t .z) (by omega) (by first | omega | (simp <;> omega))) ?_
 refine Y.df rfl rfl .z .z fa_46_1 (Y.de rfl rfl .z ag_2 .z bf bg ?_)
 obtain ⟨kx, aj⟩ := get_ex (xs := f.inodes) (j := Int.toNat bc.ino) (by first | omega | (simp <;> omega))
 obtain ⟨gb, bh, ac, ad⟩ := ag.elem aj
 obtain ⟨ck, cm, rfl, ay, az⟩ := kT_44_ro bh
 obtain ⟨cn, co, rfl, b2, b3, b4, b5⟩ := ro_form ay
 obtain ⟨cp, cq, rfl, b6, b7, b8, ca⟩ := ro_form az
 have jg := kind_at (i := bc.ino) aj (by omega)
 have jh := ents_at (a := bc.ino) aj (by omega)
 have ji := links_at (a := bc.ino) aj (by omega)
 have gc := ht.get aj
 refine Y.dk rfl rfl .z (q_indexAddr (j := Int.toNat bc.ino) rfl u_24 sz_44 (.t .g10) (.t .z) (by omega) (by first | omega | (simp <;> omega))) ?_
 refine Y.q (goes_sch rfl rfl) rfl (by decide) rfl (q_assign rfl (.t .z)) ?_
 refine Y.sl rfl ?_
 refine Y.schN ?_
 refine Y.drawN (by kernel_rfl) ?_
 refine Y.then_ (Y.seq (Y.seq (Y.region (Y.fa rfl (.s16 (.s16 .g6)) fa_158_0 (Y.ld rfl ag_2 .z .g1 (Y.ql rfl (q_eql rfl (.t .z) .c) (Y.mv rfl .z ?_)))))))
 refine Y.caseP .z (fun g49 => ?_) (fun g49 => ?_)
 refine Y.qg rfl rfl .z rfl rfl rfl (q_move rfl (.t .g4)) ?_
 refine Y.qg rfl rfl .g1 rfl rfl rfl (q_nilCheck rfl (.t .z)) ?_
 refine Y.qg rfl rfl .g2 rfl rfl rfl (q_fieldAddr rfl (.t .z) (fun _ => fa_44_0 _ _)) ?_
 refine Y.qg rfl rfl .g3 rfl rfl rfl (q_load rfl ag_2 (.t .z) (WS.el ac ad rfl)) ?_
 refine Y.qg rfl rfl .g4 rfl rfl rfl (q_eql rfl (.t .z) .c) ?_
 refine Y.ql rfl (q_pickT rfl (.t .g5) (.t .z)) (Y.nt ?_)
 refine Y.condP (.t .z) (fun jj => ?_) (fun jj => ?_)
 refine Y.seq (Y.region (Y.ql rfl (qW rfl ag_27 (.t (.s16 (.s16 (.s16 .g1)))) .g2 sz_27) ?_))
 refine Y.cl rfl rfl Tryz.func172 rfl rfl (args2 (.t .z) .c) .n (fun _ _ hs tr => c_172 (kT_27_mk f (tr.ctx aa) (tr.ctx ab)) _) ?_
 rintro _ _ ⟨ky, kz, k0, k1, rfl, rfl⟩
 refine Y.cat (.c (.c (.c (.c .n)))) ?_
 refine Y.know (WS.oform .z) ?_
 rintro ⟨jk, jl, rfl, gd, ge, gf⟩
 refine Y.know (WS.oform .g1) ?_
 rintro ⟨jm, jn, rfl, gg, gh, gi⟩
 refine Y.know (WS.oform .g2) ?_
 rintro ⟨jo, jp, rfl, gj, gk, gl⟩
 refine Y.know (WS.oform .g3) ?_
 rintro ⟨jq, jr, rfl, gm, gn, go⟩
 refine Y.es (goes_list rfl) rfl (esW rfl (.t (.s16 (.s16 (.s16 .g1)))) (.t .z) .g4 sz_155 rfl rfl) ?_
 refine Y.nt (Y.ret (Y.thenR ?_))
 refine Y.doneS (resW rfl (.s16 (.s16 (.s16 .g1))) ag_155 .z sz_155) (.c .g1 (.c .g1 (.c .g1 (.c .g1 .n)))) ?_
 exact ⟨(⟨0, 9, 0, [], [], (⟨f.inodes, f.data⟩ : DFs)⟩ : RCall), (by first | exact hj | assumption | exact j_take2 hj _ _), _, _, _, _, rfl, rfl⟩
 refine Y.skip (Y.then_ (Y.seq (Y.seq (Y.region (Y.fa rfl (.s16 (.s16 .g16)) fa_158_0 (Y.ld rfl ag_2 .z .g1 (Y.ql rfl (q_eql rfl (.t .z) .c) (Y.mv rfl .z ?_))))))))
 refine Y.caseP .z (fun g63 => ?_) (fun g63 => ?_)
 exfalso; first | omega | contradiction
 refine Y.skipl rfl rfl .z rfl rfl (by decide) rfl ?_
 refine Y.skipl rfl rfl .g1 rfl rfl (by decide) rfl ?_
 refine Y.skipl rfl rfl .g2 rfl rfl (by decide) rfl ?_
 refine Y.skipl rfl rfl .g3 rfl rfl (by decide) rfl ?_
 refine Y.skipl rfl rfl .g4 rfl rfl (by decide) rfl ?_
 refine Y.ql rfl (q_pickF rfl (.t .g5) .c) (Y.nt ?_)
 refine Y.condF (.t .z) ?_
 refine Y.skip (Y.then_ (Y.seq (Y.seq (Y.region (Y.mv rfl (.s16 .g4) (Y.nc rfl .z (Y.fa rfl .z fa_44_4 (Y.le rfl ag_42 .z ac ad ?_))))))))
 refine Y.ql rfl (q_len rfl u_42 (.t .z)) (Y.ql rfl (q_gtr rfl (.t .z) .c) (Y.nt ?_))
 refine Y.condP (.t .z) (fun js => ?_) (fun js => ?_)
 refine Y.seq (Y.region (Y.ql rfl (qW rfl ag_27 (.t (.s16 (.s16 (.s16 (.s16 .g1))))) .g2 sz_27) ?_))
 refine Y.cl rfl rfl Tryz.func172 rfl rfl (args2 (.t .z) .c) .n (fun _ _ hs tr => c_172 (kT_27_mk f (tr.ctx aa) (tr.ctx ab)) _) ?_
 rintro _ _ ⟨k2, k3, k4, k5, rfl, rfl⟩
 refine Y.cat (.c (.c (.c (.c .n)))) ?_
 refine Y.know (WS.oform .z) ?_
 rintro ⟨jt, ju, rfl, gp, gq, gr⟩
 refine Y.know (WS.oform .g1) ?_
 rintro ⟨jv, jw, rfl, gs, gt, gu⟩
 refine Y.know (WS.oform .g2) ?_
 rintro ⟨jx, jy, rfl, gv, gw, gx⟩
 refine Y.know (WS.oform .g3) ?_
 rintro ⟨jz, j0, rfl, gy, gz, g0⟩
 refine Y.es (goes_list rfl) rfl (esW rfl (.t (.s16 (.s16 (.s16 (.s16 .g1))))) (.t .z) .g4 sz_155 rfl rfl) ?_
 refine Y.nt (Y.ret (Y.thenR ?_))
 refine Y.doneS (resW rfl (.s16 (.s16 (.s16 (.s16 .g1)))) ag_155 .z sz_155) (.c .g1 (.c .g1 (.c .g1 (.c .g1 .n)))) ?_
 exact ⟨(⟨0, 8, 0, [], [], (⟨f.inodes, f.data⟩ : DFs)⟩ : RCall), (by first | exact hj | assumption | exact j_take2 hj _ _), _, _, _, _, rfl, rfl⟩
 refine Y.skip (Y.then_ (Y.seq (Y.region (Y.ql rfl (qW rfl ag_27 (.t (.s16 (.s16 (.s16 (.s16 .g1))))) .g2 sz_27) ?_))))
 refine Y.cl rfl rfl Tryz.func67 rfl rfl (args1 (.t .z)) .n (fun _ _ hs tr => c_67 (kT_27_mk f (tr.ctx aa) (tr.ctx ab))) ?_
 rintro _ _ ⟨k6, k7, rfl, rfl⟩
 refine Y.cat (.c (.c .n)) ?_
 refine Y.know (WS.oform .z) ?_
 rintro ⟨j1, j2, rfl, ha, hb, hc⟩
 refine Y.know (WS.oform .g1) ?_
 rintro ⟨j3, j4, rfl, hd, he, hf⟩
 refine Y.el rfl (e_alloc rfl z_27 rfl rfl) ?_
 rintro _ _ ⟨g83, rfl, rfl⟩
 refine Y.es (goes_list rfl) rfl (esW rfl (.t .z) (.t .g1) .z sz_27 rfl rfl) ?_
 refine Y.nt (Y.seq (Y.region (Y.mv rfl (.s16 (.s16 (.s16 .g10))) (Y.mv rfl (.s16 (.s16 .g14)) ?_))))
 obtain ⟨ak, bi, a0, -⟩ := idxF_at (show ¬ idxF (nameP ((parP f c.path).2.1)) ao.ents = -1 by omega)
 refine Y.eq .z (congrArg (Value.int .i64) bi) ?_
 have cb : ak < (entsAt f.inodes (parP f c.path).1).length := by rw [av]; exact a0
 refine Y.cl rfl rfl Tryz.func175 rfl rfl (args3 (.t .g2) (.t .g1) (.t .z)) (.c .z (.c .z (.c .z .n))) (fun _ _ hs tr => c_175 (f := f) _ _ hs (by assumption) (by first | assumption | (constructor <;> omega)) (by first | omega | assumption)) ?_
 rintro _ _ ⟨k8, k9, rfl, rfl⟩
 refine Y.cat (.c (.c (.c .n))) ?_
 refine Y.know (WS.oform .g1) ?_
 rintro ⟨cr, ct, rfl, hg, hh, hi⟩
 refine Y.know (WS.oform .g2) ?_
 rintro ⟨cu, cv, rfl, hk, hl, hm⟩
 refine Y.nt (Y.seq (Y.region (Y.ql rfl (qW rfl ag_27 (.t .g3) .z sz_27) (Y.ql rfl (q_build (cs := [.int .i64 0, .int .i64 0, .int .i64 0, .slice none 0 0, .slice none 0 0, .slice cr ((take2 f ((parP f c.path).1) ak).inodes).length ct, .slice cu ((take2 f ((parP f c.path).1) ak).data).length cv]) rfl bl_155 (pv1 (.t .z)) rfl) ?_))))
 refine Y.es (goes_list rfl) rfl (esW rfl (.t (.s16 (.s16 (.s16 (.s16 .g7))))) (.t .z) .g3 sz_155 rfl rfl) ?_
 refine Y.nt (Y.ret ?_)
 refine Y.add (c := ownA kSl_5 [] [.slice none 0 0]) (fun w S => own_nil w S none) ?_
 refine Y.add (c := ownA kSl_9 [] [.slice none 0 0]) (fun w S => own_nil w S none) ?_
 refine Y.doneS (resW rfl (.s16 (.s16 (.s16 (.s16 .g7)))) ag_155 .g2 sz_155) (.c .g1 (.c .z (.c .g2 (.c .g2 .n)))) ?_
 exact ⟨(⟨0, 0, 0, [], [], (⟨(take2 f ((parP f c.path).1) ak).inodes, (take2 f ((parP f c.path).1) ak).data⟩ : DFs)⟩ : RCall), (by first | exact hj | assumption | exact j_take2 hj _ _), _, _, _, _, rfl, rfl⟩
 refine Y.skipl rfl rfl .z rfl rfl (by decide) rfl ?_
 refine Y.skipl rfl rfl .g1 rfl rfl (by decide) rfl ?_
 refine Y.skipl rfl rfl .g2 rfl rfl (by decide) rfl ?_
 refine Y.skipl rfl rfl .g3 rfl rfl (by decide) rfl ?_
 refine Y.skipl rfl rfl .g4 rfl rfl (by decide) rfl ?_
 refine Y.ql rfl (q_pickF rfl (.t .g5) .c) (Y.nt ?_)
 refine Y.condF (.t .z) ?_
 refine Y.skip (Y.then_ (Y.seq (Y.seq (Y.region (Y.fa rfl (.s16 (.s16 .g16)) fa_158_0 (Y.ld rfl ag_2 .z .g1 (Y.ql rfl (q_eql rfl (.t .z) .c) (Y.mv rfl .z ?_))))))))
 refine Y.caseP .z (fun g93 => ?_) (fun g93 => ?_)
 refine Y.qg rfl rfl .z rfl rfl rfl (q_move rfl (.t .g14)) ?_
 refine Y.qg rfl rfl .g1 rfl rfl rfl (q_nilCheck rfl (.t .z)) ?_
 refine Y.qg rfl rfl .g2 rfl rfl rfl (q_fieldAddr rfl (.t .z) (fun _ => fa_44_0 _ _)) ?_
 refine Y.qg rfl rfl .g3 rfl rfl rfl (q_load rfl ag_2 (.t .z) (WS.el ac ad rfl)) ?_
 refine Y.qg rfl rfl .g4 rfl rfl rfl (q_neq rfl (.t .z) .c) ?_
 refine Y.ql rfl (q_pickT rfl (.t .g5) (.t .z)) (Y.nt ?_)
 refine Y.condN (.t .z) (fun j5 => ?_) (fun j5 => ?_)
 refine Y.seq (Y.region (Y.ql rfl (qW rfl ag_27 (.t (.s16 (.s16 (.s16 .g11)))) .g2 sz_27) ?_))
 refine Y.cl rfl rfl Tryz.func172 rfl rfl (args2 (.t .z) .c) .n (fun _ _ hs tr => c_172 (kT_27_mk f (tr.ctx aa) (tr.ctx ab)) _) ?_
 rintro _ _ ⟨la, lb, lc, j6, rfl, rfl⟩
 refine Y.cat (.c (.c (.c (.c .n)))) ?_
 refine Y.know (WS.oform .z) ?_
 rintro ⟨hn, ho, rfl, cw, cx, cy⟩
 refine Y.know (WS.oform .g1) ?_
 rintro ⟨hp, hq, rfl, cz, c0, c1⟩
 refine Y.know (WS.oform .g2) ?_
 rintro ⟨hr, hu, rfl, c2, c3, c4⟩
 refine Y.know (WS.oform .g3) ?_
 rintro ⟨hv, hw, rfl, c5, c6, c7⟩
 refine Y.es (goes_list rfl) rfl (esW rfl (.t (.s16 (.s16 (.s16 .g11)))) (.t .z) .g4 sz_155 rfl rfl) ?_
 refine Y.nt (Y.ret (Y.thenR ?_))
 refine Y.doneS (resW rfl (.s16 (.s16 (.s16 .g11))) ag_155 .z sz_155) (.c .g1 (.c .g1 (.c .g1 (.c .g1 .n)))) ?_
 exact ⟨(⟨0, 1, 0, [], [], (⟨f.inodes, f.data⟩ : DFs)⟩ : RCall), (by first | exact hj | assumption | exact j_take2 hj _ _), _, _, _, _, rfl, rfl⟩
 refine Y.skip (Y.then_ (Y.seq (Y.seq (Y.region (Y.mv rfl (.s16 .g4) (Y.nc rfl .z (Y.fa rfl .z fa_44_4 (Y.le rfl ag_42 .z ac ad ?_))))))))
 refine Y.ql rfl (q_len rfl u_42 (.t .z)) (Y.ql rfl (q_gtr rfl (.t .z) .c) (Y.nt ?_))
 refine Y.condP (.t .z) (fun c8 => ?_) (fun c8 => ?_)
 refine Y.seq (Y.region (Y.ql rfl (qW rfl ag_27 (.t (.s16 (.s16 (.s16 (.s16 .g1))))) .g2 sz_27) ?_))
 refine Y.cl rfl rfl Tryz.func172 rfl rfl (args2 (.t .z) .c) .n (fun _ _ hs tr => c_172 (kT_27_mk f (tr.ctx aa) (tr.ctx ab)) _) ?_
 rintro _ _ ⟨j7, j8, j9, ka, rfl, rfl⟩
 refine Y.cat (.c (.c (.c (.c .n)))) ?_
 refine Y.know (WS.oform .z) ?_
 rintro ⟨hx, hy, rfl, c9, da, db⟩
 refine Y.know (WS.oform .g1) ?_
 rintro ⟨hz, h2, rfl, dc, dd, dg⟩
 refine Y.know (WS.oform .g2) ?_
 rintro ⟨h3, h4, rfl, dh, di, dj⟩
 refine Y.know (WS.oform .g3) ?_
 rintro ⟨h5, h6, rfl, dp, ds, dt⟩
 refine Y.es (goes_list rfl) rfl (esW rfl (.t (.s16 (.s16 (.s16 (.s16 .g1))))) (.t .z) .g4 sz_155 rfl rfl) ?_
 refine Y.nt (Y.ret (Y.thenR ?_))
 refine Y.doneS (resW rfl (.s16 (.s16 (.s16 (.s16 .g1)))) ag_155 .z sz_155) (.c .g1 (.c .g1 (.c .g1 (.c .g1 .n)))) ?_
 exact ⟨(⟨0, 8, 0, [], [], (⟨f.inodes, f.data⟩ : DFs)⟩ : RCall), (by first | exact hj | assumption | exact j_take2 hj _ _), _, _, _, _, rfl, rfl⟩
 refine Y.skip (Y.then_ (Y.seq (Y.region (Y.ql rfl (qW rfl ag_27 (.t (.s16 (.s16 (.s16 (.s16 .g1))))) .g2 sz_27) ?_))))
 refine Y.cl rfl rfl Tryz.func67 rfl rfl (args1 (.t .z)) .n (fun _ _ hs tr => c_67 (kT_27_mk f (tr.ctx aa) (tr.ctx ab))) ?_
 rintro _ _ ⟨kb, kc, rfl, rfl⟩
 refine Y.cat (.c (.c .n)) ?_
 refine Y.know (WS.oform .z) ?_
 rintro ⟨h7, h8, rfl, du, dv, dw⟩
 refine Y.know (WS.oform .g1) ?_
 rintro ⟨h9, ia, rfl, dx, dy, dz⟩
 refine Y.el rfl (e_alloc rfl z_27 rfl rfl) ?_
 rintro _ _ ⟨g126, rfl, rfl⟩
 refine Y.es (goes_list rfl) rfl (esW rfl (.t .z) (.t .g1) .z sz_27 rfl rfl) ?_
 refine Y.nt (Y.seq (Y.region (Y.mv rfl (.s16 (.s16 (.s16 .g10))) (Y.mv rfl (.s16 (.s16 .g14)) ?_))))
 obtain ⟨ae, a1, am, -⟩ := idxF_at (show ¬ idxF (nameP ((parP f c.path).2.1)) ao.ents = -1 by omega)
 refine Y.eq .z (congrArg (Value.int .i64) a1) ?_
 have bj : ae < (entsAt f.inodes (parP f c.path).1).length := by rw [av]; exact am
 refine Y.cl rfl rfl Tryz.func175 rfl rfl (args3 (.t .g2) (.t .g1) (.t .z)) (.c .z (.c .z (.c .z .n))) (fun _ _ hs tr => c_175 (f := f) _ _ hs (by assumption) (by first | assumption | (constructor <;> omega)) (by first | omega | assumption)) ?_
 rintro _ _ ⟨kd, ke, rfl, rfl⟩
 refine Y.cat (.c (.c (.c .n))) ?_
 refine Y.know (WS.oform .g1) ?_
 rintro ⟨bk, bm, rfl, d0, d1, d2⟩
 refine Y.know (WS.oform .g2) ?_
 rintro ⟨bn, bo, rfl, d3, d4, d5⟩
 refine Y.nt (Y.seq (Y.region (Y.ql rfl (qW rfl ag_27 (.t .g3) .z sz_27) (Y.ql rfl (q_build (cs := [.int .i64 0, .int .i64 0, .int .i64 0, .slice none 0 0, .slice none 0 0, .slice bk ((take2 f ((parP f c.path).1) ae).inodes).length bm, .slice bn ((take2 f ((parP f c.path).1) ae).data).length bo]) rfl bl_155 (pv1 (.t .z)) rfl) ?_))))
 refine Y.es (goes_list rfl) rfl (esW rfl (.t (.s16 (.s16 (.s16 (.s16 .g7))))) (.t .z) .g3 sz_155 rfl rfl) ?_
 refine Y.nt (Y.ret ?_)
 refine Y.add (c := ownA kSl_5 [] [.slice none 0 0]) (fun w S => own_nil w S none) ?_
 refine Y.add (c := ownA kSl_9 [] [.slice none 0 0]) (fun w S => own_nil w S none) ?_
 refine Y.doneS (resW rfl (.s16 (.s16 (.s16 (.s16 .g7)))) ag_155 .g2 sz_155) (.c .g1 (.c .z (.c .g2 (.c .g2 .n)))) ?_
 exact ⟨(⟨0, 0, 0, [], [], (⟨(take2 f ((parP f c.path).1) ae).inodes, (take2 f ((parP f c.path).1) ae).data⟩ : DFs)⟩ : RCall), (by first | exact hj | assumption | exact j_take2 hj _ _), _, _, _, _, rfl, rfl⟩
 refine Y.skipl rfl rfl .z rfl rfl (by decide) rfl ?_
 refine Y.skipl rfl rfl .g1 rfl rfl (by decide) rfl ?_
 refine Y.skipl rfl rfl .g2 rfl rfl (by decide) rfl ?_
 refine Y.skipl rfl rfl .g3 rfl rfl (by decide) rfl ?_
 refine Y.skipl rfl rfl .g4 rfl rfl (by decide) rfl ?_
 refine Y.ql rfl (q_pickF rfl (.t .g5) .c) (Y.nt ?_)
 refine Y.condF (.t .z) ?_
 refine Y.skip (Y.then_ (Y.seq (Y.seq (Y.region (Y.mv rfl (.s16 .g4) (Y.nc rfl .z (Y.fa rfl .z fa_44_4 (Y.le rfl ag_42 .z ac ad ?_))))))))
 refine Y.ql rfl (q_len rfl u_42 (.t .z)) (Y.ql rfl (q_gtr rfl (.t .z) .c) (Y.nt ?_))
 refine Y.condP (.t .z) (fun d6 => ?_) (fun d6 => ?_)
 refine Y.seq (Y.region (Y.ql rfl (qW rfl ag_27 (.t (.s16 (.s16 (.s16 (.s16 .g1))))) .g2 sz_27) ?_))
 refine Y.cl rfl rfl Tryz.func172 rfl rfl (args2 (.t .z) .c) .n (fun _ _ hs tr => c_172 (kT_27_mk f (tr.ctx aa) (tr.ctx ab)) _) ?_
 rintro _ _ ⟨kf, kg, kh, ki, rfl, rfl⟩
 refine Y.cat (.c (.c (.c (.c .n)))) ?_
 refine Y.know (WS.oform .z) ?_
 rintro ⟨ib, ic, rfl, d7, d8, d9⟩
 refine Y.know (WS.oform .g1) ?_
 rintro ⟨id, ie, rfl, ea, eb, ec⟩
 refine Y.know (WS.oform .g2) ?_
 rintro ⟨ig, ih, rfl, ed, ee, ef⟩
 refine Y.know (WS.oform .g3) ?_
 rintro ⟨ii, ij, rfl, eg, eh, ei⟩
 refine Y.es (goes_list rfl) rfl (esW rfl (.t (.s16 (.s16 (.s16 (.s16 .g1))))) (.t .z) .g4 sz_155 rfl rfl) ?_
 refine Y.nt (Y.ret (Y.thenR ?_))
 refine Y.doneS (resW rfl (.s16 (.s16 (.s16 (.s16 .g1)))) ag_155 .z sz_155) (.c .g1 (.c .g1 (.c .g1 (.c .g1 .n)))) ?_
 exact ⟨(⟨0, 8, 0, [], [], (⟨f.inodes, f.data⟩ : DFs)⟩ : RCall), (by first | exact hj | assumption | exact j_take2 hj _ _), _, _, _, _, rfl, rfl⟩
 refine Y.skip (Y.then_ (Y.seq (Y.region (Y.ql rfl (qW rfl ag_27 (.t (.s16 (.s16 (.s16 (.s16 .g1))))) .g2 sz_27) ?_))))
 refine Y.cl rfl rfl Tryz.func67 rfl rfl (args1 (.t .z)) .n (fun _ _ hs tr => c_67 (kT_27_mk f (tr.ctx aa) (tr.ctx ab))) ?_
 rintro _ _ ⟨kj, kk, rfl, rfl⟩
 refine Y.cat (.c (.c .n)) ?_
 refine Y.know (WS.oform .z) ?_
 rintro ⟨ik, il, rfl, ej, ek, em⟩
 refine Y.know (WS.oform .g1) ?_
 rintro ⟨im, io, rfl, en, eo, ep⟩
 refine Y.el rfl (e_alloc rfl z_27 rfl rfl) ?_
 rintro _ _ ⟨g155, rfl, rfl⟩
 refine Y.es (goes_list rfl) rfl (esW rfl (.t .z) (.t .g1) .z sz_27 rfl rfl) ?_
 refine Y.nt (Y.seq (Y.region (Y.mv rfl (.s16 (.s16 (.s16 .g10))) (Y.mv rfl (.s16 (.s16 .g14)) ?_))))
 obtain ⟨af, a2, an, -⟩ := idxF_at (show ¬ idxF (nameP ((parP f c.path).2.1)) ao.ents = -1 by omega)
 refine Y.eq .z (congrArg (Value.int .i64) a2) ?_
 have bp : af < (entsAt f.inodes (parP f c.path).1).length := by rw [av]; exact an
 refine Y.cl rfl rfl Tryz.func175 rfl rfl (args3 (.t .g2) (.t .g1) (.t .z)) (.c .z (.c .z (.c .z .n))) (fun _ _ hs tr => c_175 (f := f) _ _ hs (by assumption) (by first | assumption | (constructor <;> omega)) (by first | omega | assumption)) ?_
 rintro _ _ ⟨kl, km, rfl, rfl⟩
 refine Y.cat (.c (.c (.c .n))) ?_
 refine Y.know (WS.oform .g1) ?_
 rintro ⟨bq, br, rfl, et, eu, ev⟩
 refine Y.know (WS.oform .g2) ?_
 rintro ⟨bs, bt, rfl, ew, ey, ez⟩
 refine Y.nt (Y.seq (Y.region (Y.ql rfl (qW rfl ag_27 (.t .g3) .z sz_27) (Y.ql rfl (q_build (cs := [.int .i64 0, .int .i64 0, .int .i64 0, .slice none 0 0, .slice none 0 0, .slice bq ((take2 f ((parP f c.path).1) af).inodes).length br, .slice bs ((take2 f ((parP f c.path).1) af).data).length bt]) rfl bl_155 (pv1 (.t .z)) rfl) ?_))))
 refine Y.es (goes_list rfl) rfl (esW rfl (.t (.s16 (.s16 (.s16 (.s16 .g7))))) (.t .z) .g3 sz_155 rfl rfl) ?_
 refine Y.nt (Y.ret ?_)
 refine Y.add (c := ownA kSl_5 [] [.slice none 0 0]) (fun w S => own_nil w S none) ?_
 refine Y.add (c := ownA kSl_9 [] [.slice none 0 0]) (fun w S => own_nil w S none) ?_
 refine Y.doneS (resW rfl (.s16 (.s16 (.s16 (.s16 .g7)))) ag_155 .g2 sz_155) (.c .g1 (.c .z (.c .g2 (.c .g2 .n)))) ?_
 exact ⟨(⟨0, 0, 0, [], [], (⟨(take2 f ((parP f c.path).1) af).inodes, (take2 f ((parP f c.path).1) af).data⟩ : DFs)⟩ : RCall), (by first | exact hj | assumption | exact j_take2 hj _ _), _, _, _, _, rfl, rfl⟩

theorem c_160 {w0 : World} {S0 : Bs} {f : DFs} {aq : List Value} (h0 : kT_27.ro w0 (FF w0 S0) f aq) {c : DCall} {ar : List Value} (h1 : kT_158.ro w0 (FF w0 S0) c ar) (hj : Jf f) :
    Calls Tryz.prog 160 #[.agg aq.toArray, .agg ar.toArray] w0 (TriPost w0 S0 (fun r l => ∃ x : RCall, Jf x.fs ∧ RA_155 x r l)) := by
 obtain ⟨ci, cj, rfl, aa, ab⟩ := kT_27_ro h0
 obtain ⟨ac, ad, rfl, au, av, aw, ax⟩ := ro_form aa
 obtain ⟨ae, af, rfl, ay, az, a0, a1⟩ := ro_form ab
 obtain ⟨ck, rfl, ai, cm, cn⟩ := kT_158_ro h1
 obtain ⟨ag, ah, rfl, a2, a3, a4, a5⟩ := ro_form ai
 have ht : J0 f := hj.toJ0
 have dh := hj.n.2
 have di := hj.n.1
 refine Y.enter (N := 59) Tryz.func160 rfl rfl (by simp) [(0, .agg #[.slice ac f.inodes.length ad, .slice ae f.data.length af]), (1, .agg #[.int .i64 c.kind, .string c.path, .string c.to, .int .i64 c.frm, .int .i64 c.size, .slice ag c.data.length ah])] (by simp) (l0 := []) trivial ?_
 refine Y.seq (Y.region ?_)
 refine Y.el rfl (e_box (cs := [.slice ac f.inodes.length ad, .slice ae f.data.length af]) (n := 2) rfl (.t .z) rfl rfl) ?_
 rintro _ _ ⟨g4, rfl, rfl⟩
 refine Y.el rfl (e_box (cs := [.int .i64 c.kind, .string c.path, .string c.to, .int .i64 c.frm, .int .i64 c.size, .slice ag c.data.length ah]) (n := 6) rfl (.t .g2) rfl rfl) ?_
 rintro _ _ ⟨g5, rfl, rfl⟩
 refine Y.el rfl (e_alloc rfl z_155 rfl rfl) ?_
 rintro _ _ ⟨g6, rfl, rfl⟩
 refine Y.nt (Y.seq (Y.seq (Y.region (Y.fa rfl .g1 fa_158_0 (Y.ld rfl ag_2 .z .g1 (Y.ql rfl (q_eql rfl (.t .z) .c) (Y.nil ?_)))))))
 refine Y.then_ ?_
 refine Y.condP (.t .z) (fun b7 => ?_) (fun b7 => ?_)
 refine Y.seq (Y.region (Y.ql rfl (qW rfl ag_27 (.t .g5) .g2 sz_27) (Y.fa rfl .g5 fa_158_1 (Y.ld rfl ag_9 .z .g1 ?_))))
 refine Y.cl rfl rfl Tryz.func179 rfl rfl (args2 (.t .g2) (.t .z)) .n (fun _ _ hs tr => c_179 (kT_27_mk f (tr.ctx aa) (tr.ctx ab)) _ (by first | assumption | omega)) ?_
 rintro _ _ ⟨rfl, rfl⟩
 refine Y.cat .n ?_
 refine Y.el rfl (e_alloc rfl z_190 rfl rfl) ?_
 rintro _ _ ⟨g8, rfl, rfl⟩
 refine Y.es (goes_list rfl) rfl (esW rfl (.t .z) (.t .g1) .z sz_190 rfl rfl) ?_
 refine Y.nt (Y.seq (Y.region (Y.ql rfl (qW rfl ag_27 (.t .g10) .g3 sz_27) (Y.fa rfl .g1 fa_190_0 (Y.ld rfl ag_2 .z .z ?_)))))
 obtain ⟨⟨hsa, hsb⟩, ⟨hsc, hsd⟩, hse, hsf⟩ := jstat ht c.path
 refine Y.cl rfl rfl Tryz.func172 rfl rfl (args2 (.t .g2) (.t .z)) .n (fun _ _ hs tr => c_172 (kT_27_mk f (tr.ctx aa) (tr.ctx ab)) _) ?_
 rintro _ _ ⟨v9, dj, dp, ds, rfl, rfl⟩
 refine Y.cat (.c (.c (.c (.c .n)))) ?_
 refine Y.know (WS.oform .z) ?_
 rintro ⟨co, cp, rfl, a6, a7, a8⟩
 refine Y.know (WS.oform .g1) ?_
 rintro ⟨cq, cr, rfl, a9, ba, bb⟩
 refine Y.know (WS.oform .g2) ?_
 rintro ⟨ct, cu, rfl, bc, bd, be⟩
 refine Y.know (WS.oform .g3) ?_
 rintro ⟨cv, cw, rfl, bf, bg, bh⟩
 refine Y.el rfl (e_alloc rfl z_155 rfl rfl) ?_
 rintro _ _ ⟨g21, rfl, rfl⟩
 refine Y.es (goes_list rfl) rfl (esW rfl (.t .z) (.t .g1) .z sz_155 rfl rfl) ?_
 refine Y.nt (Y.seq (Y.region (Y.fa rfl .g5 fa_190_2 (Y.ld rfl ag_2 .z .g5 ?_))))
 refine Y.ql rfl (q_mul (c := ((statR f c.path).kind) * 1000) rfl (.t .z) .c (wr (by omega) (by omega) (by omega))) ?_
 refine Y.fa rfl .g8 fa_190_3 (Y.ld rfl ag_2 .z .g5 ?_)
 refine Y.ql rfl (q_mul (c := ((statR f c.path).links) * 100) rfl (.t .z) .c (wr (by omega) (by omega) (by omega))) ?_
 refine Y.ql rfl (q_add (c := (((statR f c.path).kind) * 1000) + (((statR f c.path).links) * 100)) rfl (.t .g3) (.t .z) (wr (by omega) (by omega) (by omega))) ?_
 refine Y.fa rfl .g12 fa_190_4 (Y.ld rfl ag_2 .z .g5 ?_)
 refine Y.ql rfl (q_add (c := ((((statR f c.path).kind) * 1000) + (((statR f c.path).links) * 100)) + ((statR f c.path).size)) rfl (.t .g2) (.t .z) (wr (by omega) (by omega) (by omega))) ?_
 refine Y.fa rfl .g10 fa_155_2 ?_
 refine Y.es (goes_list rfl) rfl (es1 (off := 2) rfl sz_2 (.t .z) (.t .g1) rfl rfl .z rfl .g2) ?_
 refine Y.nt (Y.seq (Y.region (Y.ql rfl (qW rfl ag_155 (.t .g11) .z sz_155) ?_)))
 refine Y.es (goes_list rfl) rfl (esW rfl (.t (.s16 .g9)) (.t .z) .g6 sz_155 rfl rfl) ?_
 refine Y.nt (Y.ret (Y.thenR ?_))
 refine Y.doneS (resW rfl (.s16 .g9) ag_155 .z sz_155) (.c .g2 (.c .g2 (.c .g2 (.c .g2 .n)))) ?_
 exact ⟨(⟨0, ((statR f c.path).code), ((((statR f c.path).kind) * 1000) + (((statR f c.path).links) * 100)) + ((statR f c.path).size), [], [], (⟨f.inodes, f.data⟩ : DFs)⟩ : RCall), (by first | exact hj | assumption), _, _, _, _, rfl, rfl⟩
 refine Y.skip (Y.then_ (Y.seq (Y.region (Y.fa rfl .g4 fa_158_1 (Y.ld rfl ag_9 .z .g1 ?_)))))
 refine Y.cl rfl rfl Tryz.func174 rfl rfl (args2 (.t .g7) (.t .z)) .n (fun _ _ hs tr => c_174w (tr.ptr .g2 (kT_27_mk f (tr.ctx aa) (tr.ctx ab))) _ (by first | assumption | omega) (by assumption)) ?_
 rintro _ _ ⟨rfl, rfl⟩
 refine Y.cat .n ?_
 have aj := jwalkP_place ht c.path
 refine Y.mv rfl .z (Y.ql rfl (q_extract (v := .int .i64 ((walkP f c.path).1)) rfl (.t .z) rfl) (Y.ql rfl (q_extract (v := .int .i64 ((walkP f c.path).2)) rfl (.t .g1) rfl) (Y.as rfl .g1 (Y.as rfl .g1 (Y.nt (Y.seq (Y.seq ?_)))))))
 refine Y.region (Y.mv rfl .z (Y.ql rfl (q_neq rfl (.t .z) .c) (Y.nt ?_)))
 refine Y.condN (.t .z) (fun cx => ?_) (fun cx => ?_)
 refine Y.seq (Y.region (Y.ql rfl (qW rfl ag_27 (.t .g15) .g2 sz_27) (Y.mv rfl .g3 ?_)))
 obtain ⟨⟨hsa, hsb⟩, ⟨hsc, hsd⟩, hse, hsf⟩ := jstat ht c.path
 refine Y.cl rfl rfl Tryz.func172 rfl rfl (args2 (.t .g1) (.t .z)) .n (fun _ _ hs tr => c_172 (kT_27_mk f (tr.ctx aa) (tr.ctx ab)) _) ?_
 rintro _ _ ⟨dt, du, dv, dw, rfl, rfl⟩
 refine Y.cat (.c (.c (.c (.c .n)))) ?_
 refine Y.know (WS.oform .z) ?_
 rintro ⟨cy, cz, rfl, bi, bj, bk⟩
 refine Y.know (WS.oform .g1) ?_
 rintro ⟨c0, c1, rfl, bm, bn, bo⟩
 refine Y.know (WS.oform .g2) ?_
 rintro ⟨c2, c3, rfl, bp, bq, br⟩
 refine Y.know (WS.oform .g3) ?_
 rintro ⟨c4, c5, rfl, bs, bt, bu⟩
 refine Y.es (goes_list rfl) rfl (esW rfl (.t .g16) (.t .z) .g4 sz_155 rfl rfl) ?_
 refine Y.nt (Y.ret (Y.thenR ?_))
 refine Y.doneS (resW rfl .g16 ag_155 .z sz_155) (.c .g1 (.c .g1 (.c .g1 (.c .g1 .n)))) ?_
 exact ⟨(⟨0, ((walkP f c.path).2), 0, [], [], (⟨f.inodes, f.data⟩ : DFs)⟩ : RCall), (by first | exact hj | assumption), _, _, _, _, rfl, rfl⟩
 refine Y.skip (Y.then_ (Y.seq (Y.region (Y.ql rfl (qW rfl ag_27 (.t .g15) .g2 sz_27) (Y.mv rfl .g4 ?_)))))
 refine Y.cl rfl rfl Tryz.func180 rfl rfl (args2 (.t .g1) (.t .z)) .n (fun _ _ hs tr => c_180 (kT_27_mk f (tr.ctx aa) (tr.ctx ab)) _) ?_
 rintro _ _ ⟨dx, rfl, rfl⟩
 refine Y.cat (.c .n) ?_
 refine Y.know (WS.oform .z) ?_
 rintro ⟨ak, al, rfl, bv, bw, bx⟩
 refine Y.el rfl (e_alloc rfl z_65 rfl rfl) ?_
 rintro _ _ ⟨g39, rfl, rfl⟩
 refine Y.es (goes_list rfl) rfl (esW rfl (.t .z) (.t .g1) .z sz_65 rfl rfl) ?_
 refine Y.nt (Y.seq (Y.seq (Y.region (Y.fa rfl .z fa_65_0 (Y.ld rfl ag_2 .z .z (Y.ql rfl (q_neq rfl (.t .z) .c) (Y.nil ?_)))))))
 refine Y.then_ ?_
 refine Y.condN (.t .z) (fun c6 => ?_) (fun c6 => ?_)
 refine Y.seq (Y.region (Y.ql rfl (qW rfl ag_27 (.t (.s16 .g6)) .g4 sz_27) (Y.fa rfl .g4 fa_65_0 (Y.ld rfl ag_2 .z .z ?_))))
 obtain ⟨⟨hsa, hsb⟩, ⟨hsc, hsd⟩, hse, hsf⟩ := jstat ht c.path
 refine Y.cl rfl rfl Tryz.func172 rfl rfl (args2 (.t .g2) (.t .z)) .n (fun _ _ hs tr => c_172 (kT_27_mk f (tr.ctx aa) (tr.ctx ab)) _) ?_
 rintro _ _ ⟨dy, dz, d0, d1, rfl, rfl⟩
 refine Y.cat (.c (.c (.c (.c .n)))) ?_
 refine Y.know (WS.oform .z) ?_
 rintro ⟨c7, c8, rfl, bz, b0, b1⟩
 refine Y.know (WS.oform .g1) ?_
 rintro ⟨c9, da, rfl, b2, b3, b4⟩
 refine Y.know (WS.oform .g2) ?_
 rintro ⟨db, dc, rfl, b5, b6, b8⟩
 refine Y.know (WS.oform .g3) ?_
 rintro ⟨dd, dg, rfl, b9, ca, cb⟩
 refine Y.es (goes_list rfl) rfl (esW rfl (.t (.s16 .g8)) (.t .z) .g6 sz_155 rfl rfl) ?_
 refine Y.nt (Y.ret (Y.thenR ?_))
 refine Y.doneS (resW rfl (.s16 .g8) ag_155 .z sz_155) (.c .g1 (.c .g1 (.c .g1 (.c .g1 .n)))) ?_
 exact ⟨(⟨0, ((namesR f ((walkP f c.path).1)).code), 0, [], [], (⟨f.inodes, f.data⟩ : DFs)⟩ : RCall), (by first | exact hj | assumption), _, _, _, _, rfl, rfl⟩
 refine Y.skip (Y.then_ (Y.seq ?_))
 refine Y.sel (.c .g1 (.c .z (.c .z (.c .z (.c .z .n))))) ?_
 refine Y.dr .g1 5 mixo ?_
 refine Y.sc (qs 0 3 ++ [(3, false), (4, true), (5, false)]) (by kernel_rfl) ?_
 refine Y.df rfl rfl .g1 .g3 fa_65_1 (Y.dl rfl rfl .g1 ag_63 .z .z (Y.dk rfl rfl .g1 (qW rfl ag_27 (.t (.s16 .g8)) .g3 sz_27) ?_))
 refine Y.call (goes_sch rfl rfl) rfl (by decide) rfl (c_call rfl Tryz.func67 rfl rfl (args1 (.t .z))) .n (fun _ _ hs tr => c_67 (kT_27_mk f (tr.ctx aa) (tr.ctx ab))) ?_
 rintro _ _ ⟨d2, d3, rfl, rfl⟩
 refine Y.cat (.c (.c .n)) ?_
 refine Y.know (WS.oform .z) ?_
 rintro ⟨am, an, rfl, cc, cd, ce⟩
 refine Y.know (WS.oform .g1) ?_
 rintro ⟨ao, ap, rfl, cf, cg, ch⟩
 refine Y.sk .g3 ?_
 refine Y.dk rfl rfl .g3 (q_build (cs := [.int .i64 0, .int .i64 0, .int .i64 0, .slice none 0 0, .slice ak ((namesR f ((walkP f c.path).1)).names).length al, .slice am f.inodes.length an, .slice ao f.data.length ap]) rfl bl_155 (pv2 (.t .g2) (.t .z)) rfl) ?_
 refine Y.es (goes_sch rfl rfl) rfl (esW rfl (.t (.s16 .g9)) (.t .z) .g4 sz_155 rfl rfl) ?_
 refine Y.sl rfl ?_
 refine Y.schN ?_
 refine Y.drawN (by kernel_rfl) ?_
 refine Y.then_ (Y.ret ?_)
 refine Y.add (c := ownA kSl_5 [] [.slice none 0 0]) (fun w S => own_nil w S none) ?_
 refine Y.doneS (resW rfl (.s16 .g9) ag_155 .g1 sz_155) (.c .z (.c .g3 (.c .g1 (.c .g1 .n)))) ?_
 exact ⟨(⟨0, 0, 0, [], (namesR f ((walkP f c.path).1)).names, (⟨f.inodes, f.data⟩ : DFs)⟩ : RCall), (by first | exact hj | assumption), _, _, _, _, rfl, rfl⟩

end Go.Proofs.YtmejbfmhaoilmaaGreat

/- What is proved: contracts of functions, one a function. No condition. -/
import Derived.Test.YtmejbfmhaoilmaaGreatBase1
import Derived.Test.YtmejbfmhaoilmaaGreatW33
import Derived.Test.YtmejbfmhaoilmaaGreatW62
import Derived.Test.YtmejbfmhaoilmaaGreatBase2
namespace Go.Proofs.YtmejbfmhaoilmaaGreat
open Go Go.RowKit
set_option linter.unusedVariables false
set_option linter.unusedSimpArgs false
set_option maxHeartbeats 1000000
set_option maxRecDepth 20000
theorem c_195 {w0 : World} {S0 : Bs} {f : DFs} {a1 : Addr} (h0 : PtrRo kT_27 w0 (FF w0 S0) a1 f) {x : (List ByteArray)} {v1 : Value} (h1 : kSl_9.ro w0 (FF w0 S0) x [v1]) (ht : treeFault f = 0) :
    Calls Tryz.prog 195 #[.pointer (some a1), v1] w0 (TriPost w0 S0 (fun r l => r = .tuple #[.int .i64 (wkC f.inodes 0 x).1, .int .i64 (wkC f.inodes 0 x).2] ∧ l = [])) := by
 obtain ⟨cc, a2, bv, a3⟩ := id h0
 obtain ⟨bw, bx, rfl, a4, a5⟩ := kT_27_ro bv
 obtain ⟨bz, b0, rfl, bf, bg, bh, al⟩ := ro_form a4
 obtain ⟨b1, b2, rfl, bi, bj, bk, bm⟩ := ro_form a5
 obtain ⟨A1, c1, rfl, cd, ce, cf, b3⟩ := ro_form h1
 have hI := treeI ht
 have cg := place_0 ht
 refine Y.enter (N := 52) Tryz.func195 rfl rfl (by simp) [(0, .pointer (some a1)), (1, .slice A1 x.length c1)] (by simp) (l0 := []) trivial ?_
 refine Y.seq (Y.region (Y.ql rfl (q_assign rfl .c) (Y.ql rfl (q_assign rfl .c) (Y.nt (Y.seq (Y.region (Y.ql rfl (q_assign rfl .c) ?_)))))))
 refine Y.nt (Y.seq (Y.seq (Y.region (Y.ql rfl (q_assign rfl .c) (Y.nt (Y.block ?_))))))
 refine Y.loopi (γ := Nat × Int) (fun ⟨k, a⟩ => [(7, .int .i64 (k : Int)), (6, .int .i64 a), (0, .pointer (some a1)), (1, .slice A1 x.length c1)]) (fun ⟨k, a⟩ => []) (fun ⟨k, a⟩ => k ≤ x.length ∧ placeIn f.inodes.length a ∧ wkC f.inodes 0 x = wkC f.inodes a (x.drop k)) (fun ⟨k, a⟩ => x.length - k) (0, 0) ⟨Nat.zero_le _, place_0 ht, rfl⟩ (.c .z (.c .g1 (.c .g4 (.c .g5 .n)))) (fun _ h => h) ?_
 rintro ⟨k, a⟩ ⟨hk, hpa, hwk⟩
 obtain ⟨ch, ci⟩ := hpa
 have hor := fun s : ByteArray => look_or (s := s) (a := a) ht rfl
 refine Y.seq (Y.seq (Y.region (Y.mv rfl .z (Y.mv rfl .g4 (Y.ql rfl (q_len rfl u_63 (.t .z)) (Y.ql rfl (q_lss rfl (.t .g2) (.t .z)) (Y.nt ?_)))))))
 refine Y.condP (.t .z) (fun b4 => ?_) (fun b4 => ?_)
 refine Y.skip (Y.then_ (Y.seq (Y.block (Y.seq (Y.seq (Y.region (Y.mv rfl .g6 (Y.nc rfl .z ?_))))))))
 refine Y.fa rfl .z fa_27_0 (Y.le rfl ag_24 .z a2 a3 (Y.mv rfl .g9 ?_))
 obtain ⟨cj, am, an⟩ := al (by omega)
 subst am
 obtain ⟨x6, ao⟩ := get_ex (xs := f.inodes) (j := Int.toNat a) (by first | omega)
 obtain ⟨b5, a6, ac, ad⟩ := an.elem ao
 obtain ⟨bn, bo, rfl, ap, aa⟩ := kT_44_ro a6
 obtain ⟨bp, bq, rfl, a7, a8, a9, ba⟩ := ro_form ap
 obtain ⟨br, bs, rfl, bb, bc, bd, ae⟩ := ro_form aa
 have ck := kind_at (i := a) ao (by omega)
 have aq := ents_at (a := a) ao (by omega)
 have cm := links_at (a := a) ao (by omega)
 have cn := size_at (a := a) ao (by omega)
 refine Y.ql rfl (q_indexAddr (j := Int.toNat a) rfl u_24 sz_44 (.t .g1) (.t .z) (by omega) (by first | omega)) ?_
 refine Y.fa rfl .z fa_44_0 (Y.le rfl ag_2 .z ac ad (Y.ql rfl (q_neq rfl (.t .z) .c) (Y.nt ?_)))
 refine Y.condN (.t .z) (fun b6 => ?_) (fun b6 => ?_)
 refine Y.seq (Y.region (Y.ql rfl (q_assign rfl .c) (Y.ql rfl (q_assign rfl .c) (Y.nt (Y.ret (Y.thenR (Y.inBR ?_)))))))
 refine Y.thenR (Y.thenR (Y.inBR (Y.thenR ?_)))
 refine Y.doneS (res2 rfl .g1 .z) .n ?_
 obtain ⟨zn, hzn⟩ := get_ex (xs := x) (j := k) (by omega); rw [hwk, wk_9 hzn (by omega)]; exact ⟨rfl, rfl⟩
 refine Y.skip (Y.then_ (Y.seq ?_))
 refine Y.dr .z 13 mixo ?_
 refine Y.sc (qs 0 12 ++ [(12, false), (13, false)]) (by kernel_rfl) ?_
 refine Y.dm rfl rfl .z .g15 (Y.dn rfl rfl .z .z (Y.df rfl rfl .z .z fa_27_0 (Y.de rfl rfl .z ag_24 .z a2 a3 (Y.dm rfl rfl .z (.s16 .g2) ?_))))
 refine Y.dk rfl rfl .z (q_indexAddr (j := Int.toNat a) rfl u_24 sz_44 (.t .g1) (.t .z) (by omega) (by first | omega)) ?_
 refine Y.df rfl rfl .z .z fa_44_4 (Y.de rfl rfl .z ag_42 .z ac ad (Y.dm rfl rfl .z (.s16 .g8) (Y.dm rfl rfl .z (.s16 .g6) ?_)))
 obtain ⟨b7, af, ag⟩ := b3 (by omega)
 subst af
 obtain ⟨ab, ah⟩ := get_ex (xs := x) (j := k) (by first | omega)
 obtain ⟨bt, ar, au, av⟩ := ag.elem ah
 obtain ⟨rfl, b8⟩ := ar
 refine Y.dk rfl rfl .z (q_indexAddr (j := k) rfl u_63 sz_9 (.t .g1) (.t .z) rfl (by first | omega)) ?_
 refine Y.dk rfl rfl .z (q_load rfl ag_9 (.t .z) (WS.el0 au av rfl)) ?_
 refine Y.call (goes_sch rfl rfl) rfl (by decide) rfl (c_call rfl Tryz.func127 rfl rfl (args2 (.t .g4) (.t .z))) .n (fun _ _ hs tr => c_127 (tr.ctx aa) _ (by first | assumption | omega)) ?_
 rintro _ _ ⟨rfl, rfl⟩
 refine Y.cat .n ?_
 refine Y.sk .z ?_
 refine Y.q (goes_sch rfl rfl) rfl (by decide) rfl (q_assign rfl (.t .z)) ?_
 refine Y.sl rfl ?_
 refine Y.schN ?_
 refine Y.drawN (by kernel_rfl) ?_
 refine Y.then_ (Y.seq (Y.seq (Y.region (Y.mv rfl .z (Y.ql rfl (q_lss rfl (.t .z) .c) (Y.nt ?_))))))
 refine Y.condP (.t .z) (fun b9 => ?_) (fun b9 => ?_)
 have aw := look_or (s := ab) (a := a) ht aq
 have ax := idxF_rng (nameP ab) x6.ents
 refine Y.seq (Y.region (Y.ql rfl (q_assign rfl .c) (Y.ql rfl (q_assign rfl .c) (Y.nt (Y.ret (Y.thenR (Y.inBR ?_)))))))
 refine Y.thenR (Y.thenR (Y.inBR (Y.thenR ?_)))
 refine Y.doneS (res2 rfl .g1 .z) .n ?_
 have h9 := look_or (s := ab) (a := a) ht aq; have h8 := hor ab; rw [hwk, wk_4 ah (by omega) (by omega)]; exact ⟨rfl, rfl⟩
 have aw := look_or (s := ab) (a := a) ht aq
 have ax := idxF_rng (nameP ab) x6.ents
 refine Y.skip (Y.then_ (Y.region (Y.mv rfl (.s16 .g15) (Y.nc rfl .z (Y.fa rfl .z fa_27_0 (Y.le rfl ag_24 .z a2 a3 (Y.mv rfl (.s16 (.s16 .g2)) ?_)))))))
 refine Y.ql rfl (q_indexAddr (j := Int.toNat a) rfl u_24 sz_44 (.t .g1) (.t .z) (by omega) (by first | omega)) ?_
 refine Y.fa rfl .z fa_44_4 (Y.le rfl ag_42 .z ac ad (Y.mv rfl .g10 ?_))
 obtain ⟨ca, ai, aj⟩ := ae (by omega)
 subst ai
 obtain ⟨cb, ak⟩ := get_ex (xs := x6.ents) (j := Int.toNat (idxF (nameP ab) x6.ents)) (by first | omega)
 obtain ⟨bu, ay, az, a0⟩ := aj.elem ak
 obtain ⟨rfl, be⟩ := kT_46_ro ay
 refine Y.ql rfl (q_indexAddr (j := Int.toNat (idxF (nameP ab) x6.ents)) rfl u_42 sz_46 (.t .g1) (.t .z) (by omega) (by first | omega)) ?_
 refine Y.fa rfl .z fa_46_1 (Y.le rfl ag_2 .z az a0 (Y.er (.s16 (.s16 .g10)) (Y.as rfl .z (Y.nil (Y.inBN (Y.then_ (Y.region (Y.mv rfl (.s16 (.s16 .g10)) ?_))))))))
 refine Y.ql rfl (q_add (c := ((k + 1 : Nat) : Int)) rfl (.t .z) .c (wr (by omega) (by omega) (by omega))) ?_
 refine Y.er (.s16 (.s16 .g12)) (Y.as rfl .z (Y.nil ?_))
 refine Y.again ((k + 1), cb.ino) ⟨by omega, (by have h9 := look_at (by assumption) ak; rw [← aq] at h9; rw [← h9]; exact look_place ht (by omega)), (by have h9 := look_at (by assumption) ak; rw [← aq] at h9; rw [← h9]; have h8 := wk_s ah (show kindAt f.inodes a = 2 by omega) (by omega); rw [hwk, h8])⟩ (by first | omega | (dsimp only; omega)) (.c .z (.c .g3 (.c (.s16 (.s16 .g13)) (.c (.s16 (.s16 .g14)) .n)))) (fun _ h => h)
 refine Y.exit (Y.thenE (Y.thenE (Y.inB (Y.then_ (Y.seq (Y.region (Y.mv rfl .g5 (Y.as rfl .z ?_))))))))
 refine Y.ql rfl (q_assign rfl .c) (Y.nt (Y.ret ?_))
 refine Y.doneS (res2 rfl .g1 .z) .n ?_
 rw [hwk, wk_end (by omega)]; exact ⟨rfl, rfl⟩

theorem c_174 {w0 : World} {S0 : Bs} {f : DFs} {aa : Addr} (h0 : PtrRo kT_27 w0 (FF w0 S0) aa f) (s : ByteArray) (a1 : s.size ≤ 140737488351232) (ht : treeFault f = 0) :
    Calls Tryz.prog 174 #[.pointer (some aa), .string s] w0 (TriPost w0 S0 (fun r l => r = .tuple #[.int .i64 (walkP f s).1, .int .i64 (walkP f s).2] ∧ l = [])) := by
 obtain ⟨a2, a3, an, a4⟩ := id h0
 obtain ⟨ao, ap, rfl, ab, ac⟩ := kT_27_ro an
 obtain ⟨aq, ar, rfl, ad, ae, af, ag⟩ := ro_form ab
 obtain ⟨au, av, rfl, ah, ai, aj, ak⟩ := ro_form ac
 refine Y.enter (N := 21) Tryz.func174 rfl rfl (by simp) [(0, .pointer (some aa)), (1, .string s)] (by simp) (l0 := []) trivial ?_
 refine Y.seq (Y.region (Y.ql rfl (q_assign rfl .c) (Y.ql rfl (q_assign rfl .c) (Y.nt (Y.seq (Y.region (Y.mv rfl .g3 ?_)))))))
 refine Y.cl rfl rfl Tryz.func196 rfl rfl (args1 (.t .z)) .n (fun _ _ hs tr => c_196 _ (by first | assumption | omega)) ?_
 rintro _ _ ⟨v3, rfl, rfl⟩
 refine Y.cat (.c .n) ?_
 refine Y.know (WS.oform .z) ?_
 rintro ⟨aw, ax, rfl, ay, az, a0⟩
 have al := (splitN_ok s).1
 refine Y.mv rfl .z (Y.ql rfl (q_extract (v := .slice aw (splitN s).length ax) rfl (.t .z) rfl) (Y.ql rfl (q_extract (v := .int .i64 (splitC s)) rfl (.t .g1) rfl) (Y.as rfl .g1 (Y.as rfl .g1 (Y.nt (Y.seq (Y.seq ?_)))))))
 refine Y.region (Y.mv rfl .z (Y.ql rfl (q_neq rfl (.t .z) .c) (Y.nt ?_)))
 refine Y.condN (.t .z) (fun b6 => ?_) (fun b6 => ?_)
 refine Y.seq (Y.region (Y.mv rfl .g2 (Y.er .g11 (Y.ql rfl (q_assign rfl .c) (Y.er .g11 (Y.as rfl .g1 (Y.nt ?_)))))))
 refine Y.ret (Y.thenR ?_)
 refine Y.doneS (res2 rfl .g1 .z) .n ?_
 rw [walkP_c (by assumption)]; exact ⟨rfl, rfl⟩
 refine Y.skip (Y.then_ (Y.seq (Y.region (Y.mv rfl .g11 (Y.mv rfl .g4 ?_)))))
 refine Y.cl rfl rfl Tryz.func195 rfl rfl (args2 (.t .g1) (.t .z)) .n (fun _ _ hs tr => c_195 (tr.ctxP h0) (tr.own .z) (by assumption)) ?_
 rintro _ _ ⟨rfl, rfl⟩
 refine Y.cat .n ?_
 have am := wk_place ht (splitN s) 0 (place_0 ht)
 refine Y.ql rfl (q_extract (v := .int .i64 ((wkC (f).inodes 0 (splitN s)).1)) rfl (.t .z) rfl) (Y.ql rfl (q_extract (v := .int .i64 ((wkC (f).inodes 0 (splitN s)).2)) rfl (.t .g1) rfl) (Y.er .g15 (Y.as rfl .g1 (Y.er .g15 (Y.as rfl .g1 (Y.nt (Y.ret ?_)))))))
 refine Y.doneS (res2 rfl .g1 .z) .n ?_
 rw [walkP_0 (by assumption)]; exact ⟨rfl, rfl⟩

theorem c_179 {w0 : World} {S0 : Bs} {f : DFs} {a6 : List Value} (h0 : kT_27.ro w0 (FF w0 S0) f a6) (s : ByteArray) (bn : s.size ≤ 140737488351232)  :
    Calls Tryz.prog 179 #[.agg a6.toArray, .string s] w0 (TriPost w0 S0 (RA_190 (statR f s))) := by
 obtain ⟨bj, bk, rfl, ac, ad⟩ := kT_27_ro h0
 obtain ⟨ag, ah, rfl, a7, a8, a9, ai⟩ := ro_form ac
 obtain ⟨aj, ak, rfl, ba, bb, bc, bd⟩ := ro_form ad
 refine Y.enter (N := 57) Tryz.func179 rfl rfl (by simp) [(0, .agg #[.slice ag f.inodes.length ah, .slice aj f.data.length ak]), (1, .string s)] (by simp) (l0 := []) trivial ?_
 refine Y.seq (Y.region ?_)
 refine Y.el rfl (e_box (cs := [.slice ag f.inodes.length ah, .slice aj f.data.length ak]) (n := 2) rfl (.t .z) rfl rfl) ?_
 rintro _ _ ⟨g3, rfl, rfl⟩
 refine Y.el rfl (e_alloc rfl z_190 rfl rfl) ?_
 rintro _ _ ⟨g4, rfl, rfl⟩
 refine Y.nt (Y.seq (Y.seq (Y.region ?_)))
 refine Y.cl rfl rfl Tryz.func56 rfl rfl (args1 (.t .g1)) .n (fun _ _ hs tr => c_56 (tr.ptr .g1 (kT_27_mk f (tr.ctx ac) (tr.ctx ad)))) ?_
 rintro _ _ ⟨rfl, rfl⟩
 refine Y.cat .n ?_
 refine Y.as rfl .z (Y.nt (Y.seq (Y.region (Y.mv rfl .z (Y.ql rfl (q_neq rfl (.t .z) .c) (Y.nt ?_))))))
 refine Y.condN (.t .z) (fun b5 => ?_) (fun b5 => ?_)
 refine Y.seq (Y.region (Y.mv rfl .g2 (Y.ql rfl (q_build (cs := [.int .i64 (fsFault f), .int .i64 0, .int .i64 0, .int .i64 0, .int .i64 0]) rfl bl_190 (pv1 (.t .z)) rfl) ?_)))
 refine Y.es (goes_list rfl) rfl (esW rfl (.t .g6) (.t .z) .z sz_190 rfl rfl) ?_
 refine Y.nt (Y.ret (Y.thenR ?_))
 refine Y.doneS (resW rfl .g6 ag_190 .z sz_190) .n ?_
 first | (rw [statR_f (by assumption)]; exact ⟨rfl, rfl⟩) | (rw [statR_c hF (by assumption)]; exact ⟨rfl, rfl⟩)
 have hF : fsFault f = 0 := b5
 have ht := fsTree hF
 refine Y.skip (Y.then_ (Y.seq (Y.region (Y.mv rfl .g7 ?_))))
 refine Y.cl rfl rfl Tryz.func174 rfl rfl (args2 (.t .g6) (.t .z)) .n (fun _ _ hs tr => c_174 (tr.ptr .g1 (kT_27_mk f (tr.ctx ac) (tr.ctx ad))) _ (by first | assumption | omega) (by assumption)) ?_
 rintro _ _ ⟨rfl, rfl⟩
 refine Y.cat .n ?_
 have be := walkP_place ht s
 refine Y.mv rfl .z (Y.ql rfl (q_extract (v := .int .i64 ((walkP f s).1)) rfl (.t .z) rfl) (Y.ql rfl (q_extract (v := .int .i64 ((walkP f s).2)) rfl (.t .g1) rfl) (Y.as rfl .g1 (Y.as rfl .g1 (Y.nt (Y.seq (Y.seq ?_)))))))
 refine Y.region (Y.mv rfl .z (Y.ql rfl (q_neq rfl (.t .z) .c) (Y.nt ?_)))
 refine Y.condN (.t .z) (fun b7 => ?_) (fun b7 => ?_)
 refine Y.seq (Y.region (Y.mv rfl .g2 (Y.ql rfl (q_build (cs := [.int .i64 ((walkP f s).2), .int .i64 0, .int .i64 0, .int .i64 0, .int .i64 0]) rfl bl_190 (pv1 (.t .z)) rfl) ?_)))
 refine Y.es (goes_list rfl) rfl (esW rfl (.t .g15) (.t .z) .z sz_190 rfl rfl) ?_
 refine Y.nt (Y.ret (Y.thenR ?_))
 refine Y.doneS (resW rfl .g15 ag_190 .z sz_190) .n ?_
 first | (rw [statR_f (by assumption)]; exact ⟨rfl, rfl⟩) | (rw [statR_c hF (by assumption)]; exact ⟨rfl, rfl⟩)
 refine Y.skip (Y.then_ (Y.seq (Y.region (Y.fa rfl .g14 fa_27_0 (Y.ld rfl ag_24 .z .g1 (Y.mv rfl .g5 ?_))))))
 obtain ⟨bo, al, am⟩ := ai (by omega)
 subst al
 obtain ⟨x9, an⟩ := get_ex (xs := f.inodes) (j := Int.toNat ((walkP f s).1)) (by omega)
 obtain ⟨bf, ao, aa, ab⟩ := am.elem an
 obtain ⟨a0, a1, rfl, ae, af⟩ := kT_44_ro ao
 obtain ⟨a2, a3, rfl, ap, aq, ar, au⟩ := ro_form ae
 obtain ⟨a4, a5, rfl, av, aw, ax, ay⟩ := ro_form af
 have az := kind_at (i := ((walkP f s).1)) an (by omega)
 have bg := ents_at (a := ((walkP f s).1)) an (by omega)
 have bh := links_at (a := ((walkP f s).1)) an (by omega)
 have bi := size_at (a := ((walkP f s).1)) an (by omega)
 refine Y.ql rfl (q_indexAddr (j := Int.toNat ((walkP f s).1)) rfl u_24 sz_44 (.t .g1) (.t .z) (by omega) (by omega)) ?_
 refine Y.as rfl .z (Y.nt (Y.seq (Y.seq (Y.region (Y.mv rfl .z (Y.nc rfl .z (Y.fa rfl .z fa_44_0 ?_)))))))
 refine Y.le rfl ag_2 .z aa ab (Y.ql rfl (q_eql rfl (.t .z) .c) (Y.nt ?_))
 refine Y.condP (.t .z) (fun bm => ?_) (fun bm => ?_)
 refine Y.seq ?_
 refine Y.dr .z 11 mixo ?_
 refine Y.sc (qs 0 11 ++ [(11, false)]) (by kernel_rfl) ?_
 refine Y.dm rfl rfl .z .g13 (Y.dm rfl rfl .z .g6 (Y.dn rfl rfl .z .z (Y.df rfl rfl .z .z fa_44_0 (Y.de rfl rfl .z ag_2 .z aa ab (Y.dm rfl rfl .z .g10 (Y.dn rfl rfl .z .z (Y.df rfl rfl .z .z fa_44_4 (Y.de rfl rfl .z ag_42 .z aa ab ?_))))))))
 refine Y.dk rfl rfl .z (q_len rfl u_42 (.t .z)) (Y.dk rfl rfl .z (q_build (cs := [.int .i64 0, .int .i64 ((walkP f s).1), .int .i64 x9.kind, .int .i64 1, .int .i64 (x9.ents.length : Int)]) rfl bl_190 (pv4 (.t .g9) (.t .g5) .c (.t .z)) rfl) ?_)
 refine Y.es (goes_sch rfl rfl) rfl (esW rfl (.t (.s16 (.s16 .g2))) (.t .z) .z sz_190 rfl rfl) ?_
 refine Y.sl rfl ?_
 refine Y.schN ?_
 refine Y.drawN (by kernel_rfl) ?_
 refine Y.then_ (Y.ret (Y.thenR ?_))
 refine Y.doneS (resW rfl (.s16 (.s16 .g2)) ag_190 .z sz_190) .n ?_
 first | (rw [statR_f (by assumption)]; exact ⟨rfl, rfl⟩) | (rw [statR_c hF (by assumption)]; exact ⟨rfl, rfl⟩) | (rw [statR_0 hF (by assumption), statA_d (by omega), az, bg]; exact ⟨rfl, rfl⟩) | (rw [statR_0 hF (by assumption), statA_f (by omega), az, bh, bi]; exact ⟨rfl, rfl⟩)
 refine Y.skip (Y.then_ (Y.seq ?_))
 refine Y.dr .z 14 mixo ?_
 refine Y.sc (qs 0 14 ++ [(14, false)]) (by kernel_rfl) ?_
 refine Y.dm rfl rfl .z .g13 (Y.dm rfl rfl .z .g6 (Y.dn rfl rfl .z .z (Y.df rfl rfl .z .z fa_44_0 (Y.de rfl rfl .z ag_2 .z aa ab (Y.dm rfl rfl .z .g10 (Y.dn rfl rfl .z .z (Y.df rfl rfl .z .z fa_44_1 (Y.de rfl rfl .z ag_2 .z aa ab ?_))))))))
 refine Y.dm rfl rfl .z .g14 (Y.dn rfl rfl .z .z (Y.df rfl rfl .z .z fa_44_2 (Y.de rfl rfl .z ag_2 .z aa ab (Y.dk rfl rfl .z (q_build (cs := [.int .i64 0, .int .i64 ((walkP f s).1), .int .i64 x9.kind, .int .i64 x9.links, .int .i64 x9.size]) rfl bl_190 (pv4 (.t .g12) (.t .g8) (.t .g4) (.t .z)) rfl) ?_))))
 refine Y.es (goes_sch rfl rfl) rfl (esW rfl (.t (.s16 (.s16 .g5))) (.t .z) .z sz_190 rfl rfl) ?_
 refine Y.sl rfl ?_
 refine Y.schN ?_
 refine Y.drawN (by kernel_rfl) ?_
 refine Y.then_ (Y.ret ?_)
 refine Y.doneS (resW rfl (.s16 (.s16 .g5)) ag_190 .z sz_190) .n ?_
 first | (rw [statR_f (by assumption)]; exact ⟨rfl, rfl⟩) | (rw [statR_c hF (by assumption)]; exact ⟨rfl, rfl⟩) | (rw [statR_0 hF (by assumption), statA_d (by omega), az, bg]; exact ⟨rfl, rfl⟩) | (rw [statR_0 hF (by assumption), statA_f (by omega), az, bh, bi]; exact ⟨rfl, rfl⟩)

end Go.Proofs.YtmejbfmhaoilmaaGreat

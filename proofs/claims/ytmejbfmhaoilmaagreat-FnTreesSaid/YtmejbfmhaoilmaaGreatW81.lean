/- What is proved: contracts of functions, one a function. No condition. -/
import Derived.Test.YtmejbfmhaoilmaaGreatBase1
import Derived.Test.YtmejbfmhaoilmaaGreatW70
import Derived.Test.YtmejbfmhaoilmaaGreatW38
import Derived.Test.YtmejbfmhaoilmaaGreatW9
import Derived.Test.YtmejbfmhaoilmaaGreatBase2
namespace Go.Proofs.YtmejbfmhaoilmaaGreat
open Go Go.RowKit
set_option linter.unusedVariables false
set_option linter.unusedSimpArgs false
set_option maxHeartbeats 1000000
set_option maxRecDepth 20000
theorem c_173w {w0 : World} {S0 : Bs} {xs : (List DInode)} {v0 : Value} (h0 : kSl_44.ro w0 (FF w0 S0) xs [v0]) (hb : xs.length ≤ 10) :
    Calls Tryz.prog 173 #[v0] w0 (TriPost w0 S0 (fun r l => r = .int .i64 (freeAt xs) ∧ l = [])) := by
 obtain ⟨A0, c0, rfl, a0, a1, a2, ay⟩ := ro_form h0
 refine Y.enter (N := 22) Tryz.func173 rfl rfl (by simp) [(0, .slice A0 xs.length c0)] (by simp) (l0 := []) trivial ?_
 refine Y.seq (Y.region (Y.ql rfl (q_assign rfl .c) (Y.nt (Y.seq (Y.seq (Y.region (Y.ql rfl (q_assign rfl .c) ?_)))))))
 refine Y.nt (Y.block ?_)
 refine Y.loopi (γ := Nat) (fun k => [(3, .int .i64 (k : Int)), (0, .slice A0 xs.length c0)]) (fun k => []) (fun k => k ≤ xs.length ∧ ∀ j y, j < k → xs[j]? = some y → ¬ DInode.kind y = 0) (fun k => xs.length - k) 0 ⟨Nat.zero_le _, all_zero (q := fun _ y => ¬ DInode.kind y = 0)⟩ (.c .z (.c .g2 .n)) (fun _ h => h) ?_
 rintro k ⟨hk, hallk⟩
 refine Y.seq (Y.seq (Y.region (Y.mv rfl .z (Y.mv rfl .g2 (Y.ql rfl (q_len rfl u_24 (.t .z)) (Y.ql rfl (q_lss rfl (.t .g2) (.t .z)) (Y.nt ?_)))))))
 refine Y.condP (.t .z) (fun b2 => ?_) (fun b2 => ?_)
 refine Y.skip (Y.then_ (Y.seq (Y.block (Y.seq (Y.region (Y.mv rfl .g5 (Y.mv rfl .g5 ?_)))))))
 obtain ⟨a3, aa, ab⟩ := ay (by omega)
 subst aa
 obtain ⟨x4, ae⟩ := get_ex (xs := xs) (j := k) (by omega)
 obtain ⟨az, af, ag, ah⟩ := ab.elem ae
 obtain ⟨aq, ar, rfl, ac, ad⟩ := kT_44_ro af
 obtain ⟨au, av, rfl, ai, aj, ak, al⟩ := ro_form ac
 obtain ⟨aw, ax, rfl, am, an, ao, ap⟩ := ro_form ad
 refine Y.ql rfl (q_indexAddr (j := k) rfl u_24 sz_44 (.t .g1) (.t .z) rfl (by omega)) ?_
 refine Y.fa rfl .z fa_44_0 (Y.le rfl ag_2 .z ag ah (Y.ql rfl (q_eql rfl (.t .z) .c) (Y.nt ?_)))
 refine Y.condP (.t .z) (fun b8 => ?_) (fun b8 => ?_)
 refine Y.seq (Y.region (Y.mv rfl .g10 (Y.as rfl .z (Y.nt (Y.ret (Y.inBR (Y.thenR ?_)))))))
 refine Y.thenR (Y.inBR (Y.thenR ?_))
 refine Y.doneS (res1 rfl .z) .n ?_
 exact ⟨by first | (rw [freeAt_i ae (by assumption) hallk]; done) | (rw [freeAt_l (q := k) (by omega) hallk (by assumption)]; done) | (rw [freeAt_n (q := k) (by omega) hallk (by assumption) hb]; done), rfl⟩
 refine Y.skip (Y.inBN (Y.then_ (Y.region (Y.mv rfl .g10 ?_))))
 refine Y.ql rfl (q_add (c := ((k + 1 : Nat) : Int)) rfl (.t .z) .c (wr (by omega) (by omega) (by omega))) ?_
 refine Y.er .g12 (Y.as rfl .z (Y.nil ?_))
 refine Y.again (k + 1) ⟨by omega, all_succ (q := fun _ y => ¬ DInode.kind y = 0) hallk ae (by assumption)⟩ (by first | omega | (dsimp only; omega)) (.c .z (.c .g13 .n)) (fun _ h => h)
 refine Y.exit (Y.thenE (Y.thenE (Y.inB (Y.then_ (Y.seq (Y.seq (Y.region (Y.mv rfl .g5 ?_))))))))
 refine Y.ql rfl (q_len rfl u_24 (.t .z)) (Y.ql rfl (q_lss rfl (.t .z) .c) (Y.nt ?_))
 refine Y.condP (.t .z) (fun b9 => ?_) (fun b9 => ?_)
 refine Y.seq (Y.region (Y.mv rfl .g8 (Y.ql rfl (q_len rfl u_24 (.t .z)) (Y.as rfl .z (Y.nt (Y.ret (Y.thenR ?_)))))))
 refine Y.doneS (res1 rfl .z) .n ?_
 exact ⟨by first | (rw [freeAt_l (q := k) (by omega) hallk (by assumption)]; done) | (rw [freeAt_n (q := k) (by omega) hallk (by assumption) hb]; done), rfl⟩
 refine Y.skip (Y.then_ (Y.seq (Y.region (Y.ql rfl (q_assign rfl .c) (Y.nt (Y.ret ?_))))))
 refine Y.doneS (res1 rfl .z) .n ?_
 exact ⟨by first | (rw [freeAt_l (q := k) (by omega) hallk (by assumption)]; done) | (rw [freeAt_n (q := k) (by omega) hallk (by assumption) hb]; done), rfl⟩

theorem c_78w {w0 : World} {S0 : Bs} {f : DFs} {g0 e0 s0 : Nat} {bh : List Value} {bw : Value} {bx : Value} (a : Int) (s : ByteArray) (fu : s.size ≤ 140737488351232) (b : Int) (hs : Star [rowA g0 e0 s0 1 (bw :: bx :: bh), ownA kSl_44 f.inodes [bw], ownA kSl_22 f.data [bx]] w0 S0) (ht : J0 f) (hp : placeIn f.inodes.length a) (h6 : (entsAt f.inodes a).length ≤ 6) :
    Calls Tryz.prog 78 #[.pointer (some ⟨g0, 0, none⟩), .int .i64 a, .string s, .int .i64 b] w0 (TriPost w0 S0 (fun r l => ∃ v0 v1, r = .int .i64 (addC f a s b) ∧ l = [rowA g0 e0 s0 1 (v0 :: v1 :: bh), ownA kSl_44 (addF f a s b).inodes [v0], ownA kSl_22 (addF f a s b).data [v1]])) := by
 obtain ⟨fv, fw⟩ := hp
 have hI := ht
 refine Y.enter (N := 100) Tryz.func78 rfl rfl (by simp) [(0, .pointer (some ⟨g0, 0, none⟩)), (1, .int .i64 a), (2, .string s), (3, .int .i64 b)] (by simp) hs ?_
 refine Y.know (WS.oform .g1) ?_
 rintro ⟨fx, ar, rfl, ey, ez, e1⟩
 refine Y.know (WS.oform .g2) ?_
 rintro ⟨e2, e3, rfl, e4, e5, e7⟩
 refine Y.seq (Y.region (Y.ql rfl (q_assign rfl .c) (Y.nt (Y.seq (Y.seq (Y.region (Y.mv rfl .g1 ?_)))))))
 refine Y.nc rfl .z (Y.fa rfl .z fa_27_0 (Y.ld rfl ag_24 .z .z (Y.mv rfl .g6 ?_)))
 refine Y.open (.c .g1 .n) own_raw ?_
 rintro e8 a5
 obtain ⟨y4, bi⟩ := get_ex (xs := f.inodes) (j := Int.toNat a) (by first | omega | (simp only [takeF, withE_len, withL_len]; omega))
 obtain ⟨c5, co⟩ := get_ex (xs := e8) (j := Int.toNat a) (by rw [a5]; exact (List.getElem?_eq_some_iff.1 bi).1)
 refine Y.turn .g1 (seq_split bi co) ?_
 refine Y.open (.c .z .n) kT_44_op ?_
 rintro ⟨v6, v7⟩ rfl
 refine Y.know (WS.oform .z) ?_
 rintro ⟨bz, b0, rfl, c6, c7, c8⟩
 refine Y.know (WS.oform .g1) ?_
 rintro ⟨b1, b2, rfl, c9, da, db⟩
 have fy := kind_at (i := a) bi (by omega)
 have au := ents_at (a := a) bi (by omega)
 have fz := links_at (a := a) bi (by omega)
 have e9 : (entsAt f.inodes a).length = y4.ents.length := by rw [au]
 refine Y.know (WS.oad .g4 (by omega)) ?_
 rintro ⟨ac, rfl⟩
 refine Y.ql rfl (q_indexAddr (j := Int.toNat a) rfl u_24 sz_44 (.t .g1) (.t .z) (by omega) (by first | omega | (simp only [takeF, withE_len, withL_len]; omega))) ?_
 refine Y.fa rfl .z fa_44_4 (Y.ql rfl (q_load rfl ag_42 (.t .z) (WS.raw .g4 co rfl)) (Y.mv rfl .g11 ?_))
 refine Y.cl rfl rfl Tryz.func127 rfl rfl (args2 (.t .g1) (.t .z)) .n (fun _ _ hs tr => c_127 (tr.own .g1) _ (by first | assumption | omega)) ?_
 rintro _ _ ⟨rfl, rfl⟩
 refine Y.cat .n ?_
 refine Y.ql rfl (q_geq rfl (.t .z) .c) (Y.nt ?_)
 refine Y.condP (.t .z) (fun fb => ?_) (fun fb => ?_)
 refine Y.seq (Y.region (Y.er .g11 (Y.ql rfl (q_assign rfl .c) (Y.nt (Y.ret (Y.thenR ?_))))))
 refine Y.turns (c := ownA kT_44 y4 [.int .i64 y4.kind, .int .i64 y4.links, .int .i64 y4.size, .slice bz y4.blocks.length b0, .slice b1 y4.ents.length b2]) (.c .z (.c .z .n)) (fun w S h => kT_44_omk y4 h) ?_
 refine Y.turns (c := ownA kSl_44 f.inodes [.slice (some ac) f.inodes.length ar]) (.c .g3 (.c .z (.c .z (.c .z .n)))) (own_unfocus0 (K := kT_44) a5 bi co) ?_
 have ah : (entsAt f.inodes a).length = y4.ents.length ∨ True := .inr trivial
 try have ai : (entsAt f.inodes a).length = y4.ents.length := by rw [au]
 have aj := jlook_or (s := s) ht au
 have hlk : kindAt f.inodes b = 1 ∨ linksAt f.inodes b = 0 := by by_cases hk : kindAt f.inodes b = 1; exact .inl hk; exact .inr (jlinks_kind hI hk)
 refine Y.doneS (res1 rfl .z) (.c .g1 (.c .z (.c .z .n))) ?_
 first | (have hc := addC_7 (f := f) (a := a) (s := s) (b := b) (by omega); exact ⟨_, _, by rw [hc], by rw [addF_n (by rw [hc]; decide)]⟩) | (have hc := addC_4 (f := f) (a := a) (s := s) (b := b) (by omega) (by rintro ⟨⟨h1, h2⟩, h3⟩; first | omega | (simp_all; done) | (simp_all; omega)); exact ⟨_, _, by rw [hc], by rw [addF_n (by rw [hc]; decide)]⟩) | (have hc := addC_2 (f := f) (a := a) (s := s) (b := b) (by omega) ⟨⟨by omega, by omega⟩, by omega⟩ (by omega); exact ⟨_, _, by rw [hc], by rw [addF_n (by rw [hc]; decide)]⟩) | (have hc := addC_0 (f := f) (a := a) (s := s) (b := b) (by omega) ⟨⟨by omega, by omega⟩, by omega⟩ (by omega); exact ⟨_, _, by rw [hc], by rw [addF_d hc (by omega)]⟩) | (have hc := addC_0 (f := f) (a := a) (s := s) (b := b) (by omega) ⟨⟨by omega, by omega⟩, by omega⟩ (by omega); exact ⟨_, _, by rw [hc], by rw [addF_f hc (by omega)]⟩)
 refine Y.skip (Y.then_ (Y.seq (Y.seq (Y.region (Y.mv rfl .g12 (Y.mv rfl .g16 ?_))))))
 refine Y.turns (c := ownA kT_44 y4 [.int .i64 y4.kind, .int .i64 y4.links, .int .i64 y4.size, .slice bz y4.blocks.length b0, .slice b1 y4.ents.length b2]) (.c .z (.c .z .n)) (fun w S h => kT_44_omk y4 h) ?_
 refine Y.turns (c := ownA kSl_44 f.inodes [.slice (some ac) f.inodes.length ar]) (.c .g3 (.c .z (.c .z (.c .z .n)))) (own_unfocus0 (K := kT_44) a5 bi co) ?_
 refine Y.cl rfl rfl Tryz.func90 rfl rfl (args2 (.t .g1) (.t .z)) .n (fun _ _ hs tr => c_90 (tr.ptrpre .g1 (kT_27_mk f (tr.own .z) (tr.own .g2)) (pre_at (cs := [.slice (some ac) f.inodes.length ar, .slice e2 f.data.length e3]) (k := 2) rfl rfl)) _) ?_
 rintro _ _ ⟨rfl, rfl⟩
 refine Y.cat .n ?_
 refine Y.ql rfl (q_not rfl (.t .z)) (Y.mv rfl .z ?_)
 refine Y.caseN .z (fun g17 => ?_) (fun g17 => ?_)
 refine Y.skipl rfl rfl .z rfl rfl (by decide) rfl ?_
 refine Y.skipl rfl rfl .g1 rfl rfl (by decide) rfl ?_
 refine Y.skipl rfl rfl .g2 rfl rfl (by decide) rfl ?_
 refine Y.skipl rfl rfl .g3 rfl rfl (by decide) rfl ?_
 refine Y.skipl rfl rfl .g4 rfl rfl (by decide) rfl ?_
 refine Y.skipl rfl rfl .g5 rfl rfl (by decide) rfl ?_
 refine Y.skipl rfl rfl .g6 rfl rfl (by decide) rfl ?_
 refine Y.skipl rfl rfl .g7 rfl rfl (by decide) rfl ?_
 refine Y.skipl rfl rfl .g8 rfl rfl (by decide) rfl ?_
 refine Y.ql rfl (q_pickT rfl (.t .g9) .c) (Y.nt ?_)
 refine Y.condT (.t .z) ?_
 refine Y.seq (Y.region (Y.er (.s16 .g10) (Y.ql rfl (q_assign rfl .c) (Y.nt (Y.ret (Y.thenR ?_))))))
 have ah : (entsAt f.inodes a).length = y4.ents.length ∨ True := .inr trivial
 try have ai : (entsAt f.inodes a).length = y4.ents.length := by rw [au]
 have aj := jlook_or (s := s) ht au
 have hlk : kindAt f.inodes b = 1 ∨ linksAt f.inodes b = 0 := by by_cases hk : kindAt f.inodes b = 1; exact .inl hk; exact .inr (jlinks_kind hI hk)
 refine Y.doneS (res1 rfl .z) (.c .g1 (.c .z (.c .z .n))) ?_
 first | (have hc := addC_7 (f := f) (a := a) (s := s) (b := b) (by omega); exact ⟨_, _, by rw [hc], by rw [addF_n (by rw [hc]; decide)]⟩) | (have hc := addC_4 (f := f) (a := a) (s := s) (b := b) (by omega) (by rintro ⟨⟨h1, h2⟩, h3⟩; first | omega | (simp_all; done) | (simp_all; omega)); exact ⟨_, _, by rw [hc], by rw [addF_n (by rw [hc]; decide)]⟩) | (have hc := addC_2 (f := f) (a := a) (s := s) (b := b) (by omega) ⟨⟨by omega, by omega⟩, by omega⟩ (by omega); exact ⟨_, _, by rw [hc], by rw [addF_n (by rw [hc]; decide)]⟩) | (have hc := addC_0 (f := f) (a := a) (s := s) (b := b) (by omega) ⟨⟨by omega, by omega⟩, by omega⟩ (by omega); exact ⟨_, _, by rw [hc], by rw [addF_d hc (by omega)]⟩) | (have hc := addC_0 (f := f) (a := a) (s := s) (b := b) (by omega) ⟨⟨by omega, by omega⟩, by omega⟩ (by omega); exact ⟨_, _, by rw [hc], by rw [addF_f hc (by omega)]⟩)
 refine Y.qg rfl rfl .z rfl rfl rfl (q_move rfl (.t (.s16 .g1))) ?_
 refine Y.qg rfl rfl .g1 rfl rfl rfl (q_nilCheck rfl (.t .z)) ?_
 refine Y.qg rfl rfl .g2 rfl rfl rfl (q_fieldAddr rfl (.t .z) (fun _ => fa_27_0 _ _)) ?_
 refine Y.qg rfl rfl .g3 rfl rfl rfl (q_load rfl ag_24 (.t .z) (WS.row .g1 rfl)) ?_
 refine Y.qg rfl rfl .g4 rfl rfl rfl (q_move rfl (.t (.s16 .g8))) ?_
 refine Y.open (.c .z .n) own_raw ?_
 rintro cp av
 obtain ⟨af, aw⟩ := get_ex (xs := f.inodes) (j := Int.toNat b) (by first | omega | (simp only [takeF, withE_len, withL_len]; omega))
 obtain ⟨f0, a6⟩ := get_ex (xs := cp) (j := Int.toNat b) (by rw [av]; exact (List.getElem?_eq_some_iff.1 aw).1)
 refine Y.turn .g1 (seq_split aw a6) ?_
 refine Y.open (.c .z .n) kT_44_op ?_
 rintro ⟨f1, f2⟩ rfl
 refine Y.know (WS.oform .z) ?_
 rintro ⟨b3, b4, rfl, dc, dd, dg⟩
 refine Y.know (WS.oform .g1) ?_
 rintro ⟨b5, b6, rfl, dh, di, dj⟩
 have fc := kind_at (i := b) aw (by omega)
 have ag := ents_at (a := b) aw (by omega)
 have fd := links_at (a := b) aw (by omega)
 have dp : (entsAt f.inodes b).length = af.ents.length := by rw [ag]
 refine Y.qg rfl rfl .g5 rfl rfl rfl (q_indexAddr (j := Int.toNat b) rfl u_24 sz_44 (.t .g1) (.t .z) (by omega) (by first | omega | (simp only [takeF, withE_len, withL_len]; omega))) ?_
 refine Y.qg rfl rfl .g6 rfl rfl rfl (q_fieldAddr rfl (.t .z) (fun _ => fa_44_0 _ _)) ?_
 refine Y.qg rfl rfl .g7 rfl rfl rfl (q_load rfl ag_2 (.t .z) (WS.raw .g4 a6 rfl)) ?_
 refine Y.qg rfl rfl .g8 rfl rfl rfl (q_eql rfl (.t .z) .c) ?_
 refine Y.ql rfl (q_pickF rfl (.t .g9) (.t .z)) (Y.nt ?_)
 refine Y.condP (.t .z) (fun fe => ?_) (fun fe => ?_)
 refine Y.seq (Y.region (Y.er (.s16 .g10) (Y.ql rfl (q_assign rfl .c) (Y.nt (Y.ret (Y.thenR ?_))))))
 refine Y.turns (c := ownA kT_44 af [.int .i64 af.kind, .int .i64 af.links, .int .i64 af.size, .slice b3 af.blocks.length b4, .slice b5 af.ents.length b6]) (.c .z (.c .z .n)) (fun w S h => kT_44_omk af h) ?_
 refine Y.turns (c := ownA kSl_44 f.inodes [.slice (some ac) f.inodes.length ar]) (.c .g3 (.c .z (.c .z (.c .z .n)))) (own_unfocus0 (K := kT_44) av aw a6) ?_
 have ah : (entsAt f.inodes a).length = y4.ents.length ∨ True := .inr trivial
 try have ai : (entsAt f.inodes a).length = y4.ents.length := by rw [au]
 have aj := jlook_or (s := s) ht au
 have ak : (entsAt f.inodes a).length = af.ents.length ∨ True := .inr trivial
 try have al : (entsAt f.inodes a).length = af.ents.length := by rw [ag]
 have am := jlook_or (s := s) ht ag
 have hlk : kindAt f.inodes b = 1 ∨ linksAt f.inodes b = 0 := by by_cases hk : kindAt f.inodes b = 1; exact .inl hk; exact .inr (jlinks_kind hI hk)
 refine Y.doneS (res1 rfl .z) (.c .g1 (.c .z (.c .z .n))) ?_
 first | (have hc := addC_7 (f := f) (a := a) (s := s) (b := b) (by omega); exact ⟨_, _, by rw [hc], by rw [addF_n (by rw [hc]; decide)]⟩) | (have hc := addC_4 (f := f) (a := a) (s := s) (b := b) (by omega) (by rintro ⟨⟨h1, h2⟩, h3⟩; first | omega | (simp_all; done) | (simp_all; omega)); exact ⟨_, _, by rw [hc], by rw [addF_n (by rw [hc]; decide)]⟩) | (have hc := addC_2 (f := f) (a := a) (s := s) (b := b) (by omega) ⟨⟨by omega, by omega⟩, by omega⟩ (by omega); exact ⟨_, _, by rw [hc], by rw [addF_n (by rw [hc]; decide)]⟩) | (have hc := addC_0 (f := f) (a := a) (s := s) (b := b) (by omega) ⟨⟨by omega, by omega⟩, by omega⟩ (by omega); exact ⟨_, _, by rw [hc], by rw [addF_d hc (by omega)]⟩) | (have hc := addC_0 (f := f) (a := a) (s := s) (b := b) (by omega) ⟨⟨by omega, by omega⟩, by omega⟩ (by omega); exact ⟨_, _, by rw [hc], by rw [addF_f hc (by omega)]⟩)
 refine Y.skip (Y.then_ (Y.seq (Y.region (Y.mv rfl (.s16 .g11) (Y.nc rfl .z (Y.fa rfl .z fa_27_0 (Y.ld rfl ag_24 .z .g5 (Y.mv rfl (.s16 (.s16 .g2)) ?_))))))))
 refine Y.ql rfl (q_indexAddr (j := Int.toNat b) rfl u_24 sz_44 (.t .g1) (.t .z) (by omega) (by first | omega | (simp only [takeF, withE_len, withL_len]; omega))) ?_
 refine Y.fa rfl .z fa_44_0 (Y.ql rfl (q_load rfl ag_2 (.t .z) (WS.raw .g4 a6 rfl)) (Y.ql rfl (q_eql rfl (.t .z) .c) (Y.as rfl .z (Y.nt (Y.seq (Y.seq (Y.region ?_)))))))
 refine Y.mv rfl (.s16 (.s16 .g5)) (Y.nc rfl .z (Y.fa rfl .z fa_27_0 (Y.ld rfl ag_24 .z .g5 (Y.mv rfl (.s16 (.s16 .g10)) ?_))))
 refine Y.turns (c := ownA kT_44 af [.int .i64 af.kind, .int .i64 af.links, .int .i64 af.size, .slice b3 af.blocks.length b4, .slice b5 af.ents.length b6]) (.c .z (.c .z .n)) (fun w S h => kT_44_omk af h) ?_
 refine Y.turns (c := ownA kSl_44 f.inodes [.slice (some ac) f.inodes.length ar]) (.c .g3 (.c .z (.c .z (.c .z .n)))) (own_unfocus0 (K := kT_44) av aw a6) ?_
 refine Y.open (.c .z .n) own_raw ?_
 rintro cq an
 obtain ⟨ae, aq⟩ := get_ex (xs := f.inodes) (j := Int.toNat a) (by first | omega | (simp only [takeF, withE_len, withL_len]; omega))
 obtain ⟨f3, a7⟩ := get_ex (xs := cq) (j := Int.toNat a) (by rw [an]; exact (List.getElem?_eq_some_iff.1 aq).1)
 refine Y.turn .g1 (seq_split aq a7) ?_
 refine Y.open (.c .z .n) kT_44_op ?_
 rintro ⟨f4, f5⟩ rfl
 refine Y.know (WS.oform .z) ?_
 rintro ⟨bj, bk, rfl, ds, dt, du⟩
 refine Y.know (WS.oform .g1) ?_
 rintro ⟨bm, bn, rfl, dv, dw, dx⟩
 have ff := kind_at (i := a) aq (by omega)
 have ao := ents_at (a := a) aq (by omega)
 have fg := links_at (a := a) aq (by omega)
 have dy : (entsAt f.inodes a).length = ae.ents.length := by rw [ao]
 refine Y.ql rfl (q_indexAddr (j := Int.toNat a) rfl u_24 sz_44 (.t .g1) (.t .z) (by omega) (by first | omega | (simp only [takeF, withE_len, withL_len]; omega))) ?_
 refine Y.fa rfl .z fa_44_4 (Y.ql rfl (q_load rfl ag_42 (.t .z) (WS.raw .g4 a7 rfl)) (Y.ql rfl (q_len rfl u_42 (.t .z)) (Y.ql rfl (q_geq rfl (.t .z) .c) (Y.mv rfl .z ?_))))
 refine Y.caseP .z (fun g42 => ?_) (fun g42 => ?_)
 refine Y.skipl rfl rfl .z rfl rfl (by decide) rfl ?_
 refine Y.skipl rfl rfl .g1 rfl rfl (by decide) rfl ?_
 refine Y.skipl rfl rfl .z rfl rfl (by decide) rfl ?_
 refine Y.skipl rfl rfl .g1 rfl rfl (by decide) rfl ?_
 refine Y.skipl rfl rfl .g2 rfl rfl (by decide) rfl ?_
 refine Y.skipl rfl rfl .g3 rfl rfl (by decide) rfl ?_
 refine Y.skipl rfl rfl .g4 rfl rfl (by decide) rfl ?_
 refine Y.skipl rfl rfl .g5 rfl rfl (by decide) rfl ?_
 refine Y.skipl rfl rfl .g6 rfl rfl (by decide) rfl ?_
 refine Y.skipl rfl rfl .g7 rfl rfl (by decide) rfl ?_
 refine Y.skipl rfl rfl .g8 rfl rfl (by decide) rfl ?_
 refine Y.skipl rfl rfl .g11 rfl rfl (by decide) rfl ?_
 refine Y.ql rfl (q_pickT rfl (.t .g12) .c) (Y.nt ?_)
 refine Y.condT (.t .z) ?_
 refine Y.seq (Y.region (Y.er (.s16 (.s16 (.s16 .g12))) (Y.ql rfl (q_assign rfl .c) (Y.nt (Y.ret (Y.thenR ?_))))))
 refine Y.turns (c := ownA kT_44 ae [.int .i64 ae.kind, .int .i64 ae.links, .int .i64 ae.size, .slice bj ae.blocks.length bk, .slice bm ae.ents.length bn]) (.c .z (.c .z .n)) (fun w S h => kT_44_omk ae h) ?_
 refine Y.turns (c := ownA kSl_44 f.inodes [.slice (some ac) f.inodes.length ar]) (.c .g3 (.c .z (.c .z (.c .z .n)))) (own_unfocus0 (K := kT_44) an aq a7) ?_
 have ah : (entsAt f.inodes a).length = y4.ents.length ∨ True := .inr trivial
 try have ai : (entsAt f.inodes a).length = y4.ents.length := by rw [au]
 have aj := jlook_or (s := s) ht au
 have ak : (entsAt f.inodes a).length = af.ents.length ∨ True := .inr trivial
 try have al : (entsAt f.inodes a).length = af.ents.length := by rw [ag]
 have am := jlook_or (s := s) ht ag
 have ax : (entsAt f.inodes a).length = ae.ents.length ∨ True := .inr trivial
 try have ay : (entsAt f.inodes a).length = ae.ents.length := by rw [ao]
 have az := jlook_or (s := s) ht ao
 have hlk : kindAt f.inodes b = 1 ∨ linksAt f.inodes b = 0 := by by_cases hk : kindAt f.inodes b = 1; exact .inl hk; exact .inr (jlinks_kind hI hk)
 refine Y.doneS (res1 rfl .z) (.c .g1 (.c .z (.c .z .n))) ?_
 first | (have hc := addC_7 (f := f) (a := a) (s := s) (b := b) (by omega); exact ⟨_, _, by rw [hc], by rw [addF_n (by rw [hc]; decide)]⟩) | (have hc := addC_4 (f := f) (a := a) (s := s) (b := b) (by omega) (by rintro ⟨⟨h1, h2⟩, h3⟩; first | omega | (simp_all; done) | (simp_all; omega)); exact ⟨_, _, by rw [hc], by rw [addF_n (by rw [hc]; decide)]⟩) | (have hc := addC_2 (f := f) (a := a) (s := s) (b := b) (by omega) ⟨⟨by omega, by omega⟩, by omega⟩ (by omega); exact ⟨_, _, by rw [hc], by rw [addF_n (by rw [hc]; decide)]⟩) | (have hc := addC_0 (f := f) (a := a) (s := s) (b := b) (by omega) ⟨⟨by omega, by omega⟩, by omega⟩ (by omega); exact ⟨_, _, by rw [hc], by rw [addF_d hc (by omega)]⟩) | (have hc := addC_0 (f := f) (a := a) (s := s) (b := b) (by omega) ⟨⟨by omega, by omega⟩, by omega⟩ (by omega); exact ⟨_, _, by rw [hc], by rw [addF_f hc (by omega)]⟩)
 refine Y.qg rfl rfl .z rfl rfl rfl (q_move rfl (.t .g11)) ?_
 refine Y.qg rfl rfl .g1 rfl rfl rfl (q_move rfl (.t .z)) ?_
 refine Y.caseP .z (fun g44 => ?_) (fun g44 => ?_)
 refine Y.qg rfl rfl .z rfl rfl rfl (q_move rfl (.t (.s16 (.s16 (.s16 .g2))))) ?_
 refine Y.qg rfl rfl .g1 rfl rfl rfl (q_nilCheck rfl (.t .z)) ?_
 refine Y.qg rfl rfl .g2 rfl rfl rfl (q_fieldAddr rfl (.t .z) (fun _ => fa_27_0 _ _)) ?_
 refine Y.qg rfl rfl .g3 rfl rfl rfl (q_load rfl ag_24 (.t .z) (WS.row .g5 rfl)) ?_
 refine Y.qg rfl rfl .g4 rfl rfl rfl (q_move rfl (.t (.s16 (.s16 (.s16 .g9))))) ?_
 refine Y.turns (c := ownA kT_44 ae [.int .i64 ae.kind, .int .i64 ae.links, .int .i64 ae.size, .slice bj ae.blocks.length bk, .slice bm ae.ents.length bn]) (.c .z (.c .z .n)) (fun w S h => kT_44_omk ae h) ?_
 refine Y.turns (c := ownA kSl_44 f.inodes [.slice (some ac) f.inodes.length ar]) (.c .g3 (.c .z (.c .z (.c .z .n)))) (own_unfocus0 (K := kT_44) an aq a7) ?_
 refine Y.open (.c .z .n) own_raw ?_
 rintro cr a0
 obtain ⟨ap, a1⟩ := get_ex (xs := f.inodes) (j := Int.toNat b) (by first | omega | (simp only [takeF, withE_len, withL_len]; omega))
 obtain ⟨f6, be⟩ := get_ex (xs := cr) (j := Int.toNat b) (by rw [a0]; exact (List.getElem?_eq_some_iff.1 a1).1)
 refine Y.turn .g1 (seq_split a1 be) ?_
 refine Y.open (.c .z .n) kT_44_op ?_
 rintro ⟨f7, f8⟩ rfl
 refine Y.know (WS.oform .z) ?_
 rintro ⟨b7, b8, rfl, dz, d0, d1⟩
 refine Y.know (WS.oform .g1) ?_
 rintro ⟨b9, ca, rfl, d2, d3, d4⟩
 have fh := kind_at (i := b) a1 (by omega)
 have a8 := ents_at (a := b) a1 (by omega)
 have fi := links_at (a := b) a1 (by omega)
 have d5 : (entsAt f.inodes b).length = ap.ents.length := by rw [a8]
 refine Y.qg rfl rfl .g5 rfl rfl rfl (q_indexAddr (j := Int.toNat b) rfl u_24 sz_44 (.t .g1) (.t .z) (by omega) (by first | omega | (simp only [takeF, withE_len, withL_len]; omega))) ?_
 refine Y.qg rfl rfl .g6 rfl rfl rfl (q_fieldAddr rfl (.t .z) (fun _ => fa_44_1 _ _)) ?_
 refine Y.qg rfl rfl .g7 rfl rfl rfl (q_load rfl ag_2 (.t .z) (WS.raw .g4 be rfl)) ?_
 refine Y.qg rfl rfl .g8 rfl rfl rfl (q_geq rfl (.t .z) .c) ?_
 refine Y.qg rfl rfl .g11 rfl rfl rfl (q_pickT rfl (.t .g9) (.t .z)) ?_
 refine Y.ql rfl (q_pickF rfl (.t .g12) (.t .z)) (Y.nt ?_)
 refine Y.condP (.t .z) (fun fj => ?_) (fun fj => ?_)
 refine Y.seq (Y.region (Y.er (.s16 (.s16 (.s16 .g12))) (Y.ql rfl (q_assign rfl .c) (Y.nt (Y.ret (Y.thenR ?_))))))
 refine Y.turns (c := ownA kT_44 ap [.int .i64 ap.kind, .int .i64 ap.links, .int .i64 ap.size, .slice b7 ap.blocks.length b8, .slice b9 ap.ents.length ca]) (.c .z (.c .z .n)) (fun w S h => kT_44_omk ap h) ?_
 refine Y.turns (c := ownA kSl_44 f.inodes [.slice (some ac) f.inodes.length ar]) (.c .g3 (.c .z (.c .z (.c .z .n)))) (own_unfocus0 (K := kT_44) a0 a1 be) ?_
 have ah : (entsAt f.inodes a).length = y4.ents.length ∨ True := .inr trivial
 try have ai : (entsAt f.inodes a).length = y4.ents.length := by rw [au]
 have aj := jlook_or (s := s) ht au
 have ak : (entsAt f.inodes a).length = af.ents.length ∨ True := .inr trivial
 try have al : (entsAt f.inodes a).length = af.ents.length := by rw [ag]
 have am := jlook_or (s := s) ht ag
 have ax : (entsAt f.inodes a).length = ae.ents.length ∨ True := .inr trivial
 try have ay : (entsAt f.inodes a).length = ae.ents.length := by rw [ao]
 have az := jlook_or (s := s) ht ao
 have bo : (entsAt f.inodes a).length = ap.ents.length ∨ True := .inr trivial
 try have bp : (entsAt f.inodes a).length = ap.ents.length := by rw [a8]
 have bq := jlook_or (s := s) ht a8
 have hlk : kindAt f.inodes b = 1 ∨ linksAt f.inodes b = 0 := by by_cases hk : kindAt f.inodes b = 1; exact .inl hk; exact .inr (jlinks_kind hI hk)
 refine Y.doneS (res1 rfl .z) (.c .g1 (.c .z (.c .z .n))) ?_
 first | (have hc := addC_7 (f := f) (a := a) (s := s) (b := b) (by omega); exact ⟨_, _, by rw [hc], by rw [addF_n (by rw [hc]; decide)]⟩) | (have hc := addC_4 (f := f) (a := a) (s := s) (b := b) (by omega) (by rintro ⟨⟨h1, h2⟩, h3⟩; first | omega | (simp_all; done) | (simp_all; omega)); exact ⟨_, _, by rw [hc], by rw [addF_n (by rw [hc]; decide)]⟩) | (have hc := addC_2 (f := f) (a := a) (s := s) (b := b) (by omega) ⟨⟨by omega, by omega⟩, by omega⟩ (by omega); exact ⟨_, _, by rw [hc], by rw [addF_n (by rw [hc]; decide)]⟩) | (have hc := addC_0 (f := f) (a := a) (s := s) (b := b) (by omega) ⟨⟨by omega, by omega⟩, by omega⟩ (by omega); exact ⟨_, _, by rw [hc], by rw [addF_d hc (by omega)]⟩) | (have hc := addC_0 (f := f) (a := a) (s := s) (b := b) (by omega) ⟨⟨by omega, by omega⟩, by omega⟩ (by omega); exact ⟨_, _, by rw [hc], by rw [addF_f hc (by omega)]⟩)
 refine Y.skip (Y.then_ (Y.seq ?_))
 refine Y.turns (c := ownA kT_44 ap [.int .i64 ap.kind, .int .i64 ap.links, .int .i64 ap.size, .slice b7 ap.blocks.length b8, .slice b9 ap.ents.length ca]) (.c .z (.c .z .n)) (fun w S h => kT_44_omk ap h) ?_
 refine Y.turns (c := ownA kSl_44 f.inodes [.slice (some ac) f.inodes.length ar]) (.c .g3 (.c .z (.c .z (.c .z .n)))) (own_unfocus0 (K := kT_44) a0 a1 be) ?_
 refine Y.open (.c .z .n) own_raw ?_
 rintro cb a9
 obtain ⟨aa, a2⟩ := get_ex (xs := f.inodes) (j := Int.toNat a) (by first | omega | (simp only [takeF, withE_len, withL_len]; omega))
 obtain ⟨f9, br⟩ := get_ex (xs := cb) (j := Int.toNat a) (by rw [a9]; exact (List.getElem?_eq_some_iff.1 a2).1)
 refine Y.turn .g1 (seq_split a2 br) ?_
 refine Y.open (.c .z .n) kT_44_op ?_
 rintro ⟨ga, gb⟩ rfl
 refine Y.know (WS.oform .z) ?_
 rintro ⟨cc, cd, rfl, d6, d7, d8⟩
 refine Y.know (WS.oform .g1) ?_
 rintro ⟨fk, fl, rfl, d9, ea, eb⟩
 have fm := kind_at (i := a) a2 (by omega)
 have bf := ents_at (a := a) a2 (by omega)
 have fn := links_at (a := a) a2 (by omega)
 have ec : (entsAt f.inodes a).length = aa.ents.length := by rw [bf]
 refine Y.sel (.c .z (.c .z (.c .g4 (.c .z (.c .z (.c .z (.c .z .n))))))) ?_
 refine Y.dr .g3 19 mixo ?_
 refine Y.sc (qs 0 16 ++ [(16, false), (17, false), (18, true), (19, false)]) (by kernel_rfl) ?_
 refine Y.dm rfl rfl .g3 (.s16 (.s16 (.s16 .g13))) (Y.dn rfl rfl .g3 .z (Y.df rfl rfl .g3 .z fa_27_0 (Y.dl rfl rfl .g3 ag_24 .z .g3 (Y.dk rfl rfl .g3 (q_move rfl (.t (.s16 (.s16 (.s16 (.s16 .g2)))))) (Y.dk rfl rfl .g3 (q_move rfl (.t (.s16 (.s16 (.s16 (.s16 .g2)))))) (Y.dn rfl rfl .g3 .z (Y.df rfl rfl .g3 .z fa_27_0 (Y.dl rfl rfl .g3 ag_24 .z .g3 ?_))))))))
 refine Y.dk rfl rfl .g3 (q_move rfl (.t (.s16 (.s16 (.s16 (.s16 .g7)))))) ?_
 refine Y.dk rfl rfl .g3 (q_indexAddr (j := Int.toNat a) rfl u_24 sz_44 (.t .g1) (.t .z) (by omega) (by first | omega | (simp only [takeF, withE_len, withL_len]; omega))) ?_
 refine Y.df rfl rfl .g3 .z fa_44_4 (Y.dk rfl rfl .g3 (q_load rfl ag_42 (.t .z) (WS.raw .g2 br rfl)) (Y.dk rfl rfl .g3 (q_move rfl (.t (.s16 (.s16 (.s16 (.s16 .g12)))))) (Y.dk rfl rfl .g3 (q_move rfl (.t (.s16 (.s16 (.s16 (.s16 .g14)))))) (Y.dk rfl rfl .g3 (q_build (cs := [.string s, .int .i64 b]) rfl bl_46 (pv2 (.t .g1) (.t .z)) rfl) ?_))))
 refine Y.call (goes_sch rfl rfl) rfl (by decide) rfl (c_call rfl Tryz.func128 rfl rfl (args2 (.t .g3) (.t .z))) .n (fun _ _ hs tr => c_128 (tr.own .g1) (kT_46_mk (⟨s, b⟩ : DEnt) (by assumption)) (by omega)) ?_
 rintro _ _ rfl
 refine Y.cat (.c .n) ?_
 refine Y.know (WS.oform .z) ?_
 rintro ⟨bs, bt, rfl, ed, ee, ef⟩
 refine Y.sk .g4 ?_
 refine Y.q (goes_sch rfl rfl) rfl (by decide) rfl (q_indexAddr (j := Int.toNat a) rfl u_24 sz_44 (.t .g13) (.t .g12) (by omega) (by first | omega | (simp only [takeF, withE_len, withL_len]; omega))) ?_
 refine Y.sk .g4 ?_
 refine Y.df rfl rfl .g4 .z fa_44_4 ?_
 refine Y.es (goes_sch rfl rfl) rfl (es_raw (j := Int.toNat a) (off := 4) (cs := [.slice bs (putE aa.ents (⟨s, b⟩ : DEnt)).length bt]) rfl sz_42 (.t .z) (add_add _ _ _) (.t .g2) rfl (ones rfl) .g6 br (Nat.le_of_ble_eq_true rfl)) ?_
 refine Y.ceq (x' := List.set cb (Int.toNat a) [.int .i64 aa.kind, .int .i64 aa.links, .int .i64 aa.size, .slice cc aa.blocks.length cd, .slice bs (putE aa.ents (⟨s, b⟩ : DEnt)).length bt]) .z rfl ?_
 refine Y.sl rfl ?_
 refine Y.schN ?_
 refine Y.drawN (by kernel_rfl) ?_
 refine Y.then_ (Y.seq (Y.seq (Y.region (Y.mv rfl (.s16 (.s16 .g11)) (Y.nt ?_)))))
 refine Y.condP (.t .z) (fun fo => ?_) (fun fo => ?_)
 refine Y.region (Y.ql rfl (q_move rfl (.t (.s16 (.s16 (.s16 (.s16 (.s16 .g1))))))) (Y.nc rfl .z (Y.fa rfl .z fa_27_0 (Y.ld rfl ag_24 .z .g7 (Y.ql rfl (q_move rfl (.t (.s16 (.s16 (.s16 (.s16 (.s16 .g8))))))) ?_)))))
 refine Y.turns (c := ownA kT_44 (⟨aa.kind, aa.links, aa.size, aa.blocks, putE aa.ents (⟨s, b⟩ : DEnt)⟩ : DInode) [.int .i64 aa.kind, .int .i64 aa.links, .int .i64 aa.size, .slice cc aa.blocks.length cd, .slice bs (putE aa.ents (⟨s, b⟩ : DEnt)).length bt]) (.c .g2 (.c .g1 .n)) (fun w S h => kT_44_omk (⟨aa.kind, aa.links, aa.size, aa.blocks, putE aa.ents (⟨s, b⟩ : DEnt)⟩ : DInode) h) ?_
 refine Y.turns (c := ownA kSl_44 (List.set f.inodes (Int.toNat a) (⟨aa.kind, aa.links, aa.size, aa.blocks, putE aa.ents (⟨s, b⟩ : DEnt)⟩ : DInode)) [.slice (some ac) f.inodes.length ar]) (.c .g1 (.c .z (.c .g2 (.c .g2 .n)))) (own_unfocus (K := kT_44) a9 (List.getElem?_eq_some_iff.1 a2).1 rfl) ?_
 have ct : List.set f.inodes (Int.toNat a) (⟨aa.kind, aa.links, aa.size, aa.blocks, putE aa.ents (⟨s, b⟩ : DEnt)⟩ : DInode) = withE f.inodes a (putE (entsAt f.inodes a) ⟨s, b⟩) := (by rw [bf]; exact withE_at a2 (by omega))
 refine Y.chEq .z (congrArg (fun z_ => (ownA kSl_44 (z_) [.slice (some ac) f.inodes.length ar] : Asn)) ct) ?_
 refine Y.open (.c .z .n) own_raw ?_
 rintro ce ba
 obtain ⟨ad, a4⟩ := get_ex (xs := withE f.inodes a (putE (entsAt f.inodes a) ⟨s, b⟩)) (j := Int.toNat b) (by first | omega | (simp only [takeF, withE_len, withL_len]; omega))
 obtain ⟨gc, bu⟩ := get_ex (xs := ce) (j := Int.toNat b) (by rw [ba]; exact (List.getElem?_eq_some_iff.1 a4).1)
 refine Y.turn .g1 (seq_split a4 bu) ?_
 refine Y.open (.c .z .n) kT_44_op ?_
 rintro ⟨gd, ge⟩ rfl
 refine Y.know (WS.oform .z) ?_
 rintro ⟨cf, cg, rfl, eg, eh, ei⟩
 refine Y.know (WS.oform .g1) ?_
 rintro ⟨ch, ci, rfl, ej, ek, em⟩
 have hTl : (withE f.inodes a (putE (entsAt f.inodes a) ⟨s, b⟩)).length = f.inodes.length := withE_len
 have hTk : kindAt (withE f.inodes a (putE (entsAt f.inodes a) ⟨s, b⟩)) b = kindAt f.inodes b := withE_kind
 have hTn : linksAt (withE f.inodes a (putE (entsAt f.inodes a) ⟨s, b⟩)) b = linksAt f.inodes b := withE_links
 have hLb : (0 ≤ linksAt f.inodes b ∧ linksAt f.inodes b ≤ 60) ∨ kindAt f.inodes b ≠ 1 := by by_cases hk : kindAt f.inodes b = 1; exact .inl (by have := jfile_links hI hk; omega); exact .inr hk
 have kT := kind_at (i := b) a4 (by omega)
 have lT := links_at (a := b) a4 (by omega)
 refine Y.ql rfl (q_indexAddr (j := Int.toNat b) rfl u_24 sz_44 (.t .g1) (.t .z) (by omega) (by first | omega | (simp only [takeF, withE_len, withL_len]; omega))) ?_
 refine Y.fa rfl .z fa_44_1 (Y.ql rfl (q_load rfl ag_2 (.t .z) (WS.raw .g4 bu rfl)) ?_)
 refine Y.ql rfl (q_add (c := ad.links + 1) rfl (.t .z) .c (wr (by omega) (by omega) (by omega))) ?_
 refine Y.ql rfl (q_indexAddr (j := Int.toNat b) rfl u_24 sz_44 (.t .g5) (.t .g4) (by omega) (by first | omega | (simp only [takeF, withE_len, withL_len]; omega))) ?_
 refine Y.fa rfl .z fa_44_1 ?_
 refine Y.es (goes_list rfl) rfl (es_raw (j := Int.toNat b) (off := 1) (cs := [.int .i64 (ad.links + 1)]) rfl sz_2 (.t .z) (add_add _ _ _) (.t .g2) rfl (ones rfl) .g4 bu (Nat.le_of_ble_eq_true rfl)) ?_
 refine Y.ceq (x' := List.set ce (Int.toNat b) [.int .i64 ad.kind, .int .i64 (ad.links + 1), .int .i64 ad.size, .slice cf ad.blocks.length cg, .slice ch ad.ents.length ci]) .z rfl ?_
 refine Y.nt (Y.seq (Y.region (Y.er (.s16 (.s16 (.s16 (.s16 (.s16 .g11))))) (Y.ql rfl (q_assign rfl .c) (Y.nt (Y.ret ?_))))))
 refine Y.turns (c := ownA kT_44 (⟨ad.kind, ad.links + 1, ad.size, ad.blocks, ad.ents⟩ : DInode) [.int .i64 ad.kind, .int .i64 (ad.links + 1), .int .i64 ad.size, .slice cf ad.blocks.length cg, .slice ch ad.ents.length ci]) (.c .g1 (.c .g1 .n)) (fun w S h => kT_44_omk (⟨ad.kind, ad.links + 1, ad.size, ad.blocks, ad.ents⟩ : DInode) h) ?_
 refine Y.turns (c := ownA kSl_44 (List.set (withE f.inodes a (putE (entsAt f.inodes a) ⟨s, b⟩)) (Int.toNat b) (⟨ad.kind, ad.links + 1, ad.size, ad.blocks, ad.ents⟩ : DInode)) [.slice (some ac) f.inodes.length ar]) (.c .g1 (.c .z (.c .z (.c .z .n)))) (own_unfocus (K := kT_44) ba (List.getElem?_eq_some_iff.1 a4).1 rfl) ?_
 have ah : (entsAt f.inodes a).length = y4.ents.length ∨ True := .inr trivial
 try have ai : (entsAt f.inodes a).length = y4.ents.length := by rw [au]
 have aj := jlook_or (s := s) ht au
 have ak : (entsAt f.inodes a).length = af.ents.length ∨ True := .inr trivial
 try have al : (entsAt f.inodes a).length = af.ents.length := by rw [ag]
 have am := jlook_or (s := s) ht ag
 have ax : (entsAt f.inodes a).length = ae.ents.length ∨ True := .inr trivial
 try have ay : (entsAt f.inodes a).length = ae.ents.length := by rw [ao]
 have az := jlook_or (s := s) ht ao
 have bo : (entsAt f.inodes a).length = ap.ents.length ∨ True := .inr trivial
 try have bp : (entsAt f.inodes a).length = ap.ents.length := by rw [a8]
 have bq := jlook_or (s := s) ht a8
 have cu : (entsAt f.inodes a).length = aa.ents.length ∨ True := .inr trivial
 try have cv : (entsAt f.inodes a).length = aa.ents.length := by rw [bf]
 have cw := jlook_or (s := s) ht bf
 have hlk : kindAt f.inodes b = 1 ∨ linksAt f.inodes b = 0 := by by_cases hk : kindAt f.inodes b = 1; exact .inl hk; exact .inr (jlinks_kind hI hk)
 have cx : List.set (withE f.inodes a (putE (entsAt f.inodes a) ⟨s, b⟩)) (Int.toNat b) (⟨ad.kind, ad.links + 1, ad.size, ad.blocks, ad.ents⟩ : DInode) = withL (withE f.inodes a (putE (entsAt f.inodes a) ⟨s, b⟩)) b (linksAt f.inodes b + 1) := (by rw [← hTn, lT]; exact withL_at a4 (by omega))
 refine Y.chEq .z (congrArg (fun z_ => (ownA kSl_44 (z_) [.slice (some ac) f.inodes.length ar] : Asn)) cx) ?_
 refine Y.doneS (res1 rfl .z) (.c .g3 (.c .z (.c .g1 .n))) ?_
 first | (have hc := addC_7 (f := f) (a := a) (s := s) (b := b) (by omega); exact ⟨_, _, by rw [hc], by rw [addF_n (by rw [hc]; decide)]⟩) | (have hc := addC_4 (f := f) (a := a) (s := s) (b := b) (by omega) (by rintro ⟨⟨h1, h2⟩, h3⟩; first | omega | (simp_all; done) | (simp_all; omega)); exact ⟨_, _, by rw [hc], by rw [addF_n (by rw [hc]; decide)]⟩) | (have hc := addC_2 (f := f) (a := a) (s := s) (b := b) (by omega) ⟨⟨by omega, by omega⟩, by omega⟩ (by omega); exact ⟨_, _, by rw [hc], by rw [addF_n (by rw [hc]; decide)]⟩) | (have hc := addC_0 (f := f) (a := a) (s := s) (b := b) (by omega) ⟨⟨by omega, by omega⟩, by omega⟩ (by omega); exact ⟨_, _, by rw [hc], by rw [addF_d hc (by omega)]⟩) | (have hc := addC_0 (f := f) (a := a) (s := s) (b := b) (by omega) ⟨⟨by omega, by omega⟩, by omega⟩ (by omega); exact ⟨_, _, by rw [hc], by rw [addF_f hc (by omega)]⟩)
 exfalso; first | omega | contradiction
 refine Y.skipl rfl rfl .z rfl rfl (by decide) rfl ?_
 refine Y.skipl rfl rfl .g1 rfl rfl (by decide) rfl ?_
 refine Y.skipl rfl rfl .g2 rfl rfl (by decide) rfl ?_
 refine Y.skipl rfl rfl .g3 rfl rfl (by decide) rfl ?_
 refine Y.skipl rfl rfl .g4 rfl rfl (by decide) rfl ?_
 refine Y.skipl rfl rfl .g5 rfl rfl (by decide) rfl ?_
 refine Y.skipl rfl rfl .g6 rfl rfl (by decide) rfl ?_
 refine Y.skipl rfl rfl .g7 rfl rfl (by decide) rfl ?_
 refine Y.skipl rfl rfl .g8 rfl rfl (by decide) rfl ?_
 refine Y.qg rfl rfl .g11 rfl rfl rfl (q_pickF rfl (.t .g9) .c) ?_
 refine Y.ql rfl (q_pickF rfl (.t .g12) (.t .z)) (Y.nt ?_)
 refine Y.condF (.t .z) ?_
 refine Y.skip (Y.then_ (Y.seq ?_))
 refine Y.turns (c := ownA kT_44 ae [.int .i64 ae.kind, .int .i64 ae.links, .int .i64 ae.size, .slice bj ae.blocks.length bk, .slice bm ae.ents.length bn]) (.c .z (.c .z .n)) (fun w S h => kT_44_omk ae h) ?_
 refine Y.turns (c := ownA kSl_44 f.inodes [.slice (some ac) f.inodes.length ar]) (.c .g3 (.c .z (.c .z (.c .z .n)))) (own_unfocus0 (K := kT_44) an aq a7) ?_
 refine Y.open (.c .z .n) own_raw ?_
 rintro cj bb
 obtain ⟨ab, a3⟩ := get_ex (xs := f.inodes) (j := Int.toNat a) (by first | omega | (simp only [takeF, withE_len, withL_len]; omega))
 obtain ⟨gf, bv⟩ := get_ex (xs := cj) (j := Int.toNat a) (by rw [bb]; exact (List.getElem?_eq_some_iff.1 a3).1)
 refine Y.turn .g1 (seq_split a3 bv) ?_
 refine Y.open (.c .z .n) kT_44_op ?_
 rintro ⟨gg, gh⟩ rfl
 refine Y.know (WS.oform .z) ?_
 rintro ⟨ck, cm, rfl, en, eo, ep⟩
 refine Y.know (WS.oform .g1) ?_
 rintro ⟨fp, fq, rfl, et, eu, ev⟩
 have fr := kind_at (i := a) a3 (by omega)
 have bg := ents_at (a := a) a3 (by omega)
 have ft := links_at (a := a) a3 (by omega)
 have ew : (entsAt f.inodes a).length = ab.ents.length := by rw [bg]
 refine Y.sel (.c .z (.c .z (.c .g4 (.c .z (.c .z (.c .z (.c .z .n))))))) ?_
 refine Y.dr .g3 19 mixo ?_
 refine Y.sc (qs 0 16 ++ [(16, false), (17, false), (18, true), (19, false)]) (by kernel_rfl) ?_
 refine Y.dm rfl rfl .g3 (.s16 (.s16 (.s16 .g13))) (Y.dn rfl rfl .g3 .z (Y.df rfl rfl .g3 .z fa_27_0 (Y.dl rfl rfl .g3 ag_24 .z .g3 (Y.dk rfl rfl .g3 (q_move rfl (.t (.s16 (.s16 (.s16 (.s16 .g2)))))) (Y.dk rfl rfl .g3 (q_move rfl (.t (.s16 (.s16 (.s16 (.s16 .g2)))))) (Y.dn rfl rfl .g3 .z (Y.df rfl rfl .g3 .z fa_27_0 (Y.dl rfl rfl .g3 ag_24 .z .g3 ?_))))))))
 refine Y.dk rfl rfl .g3 (q_move rfl (.t (.s16 (.s16 (.s16 (.s16 .g7)))))) ?_
 refine Y.dk rfl rfl .g3 (q_indexAddr (j := Int.toNat a) rfl u_24 sz_44 (.t .g1) (.t .z) (by omega) (by first | omega | (simp only [takeF, withE_len, withL_len]; omega))) ?_
 refine Y.df rfl rfl .g3 .z fa_44_4 (Y.dk rfl rfl .g3 (q_load rfl ag_42 (.t .z) (WS.raw .g2 bv rfl)) (Y.dk rfl rfl .g3 (q_move rfl (.t (.s16 (.s16 (.s16 (.s16 .g12)))))) (Y.dk rfl rfl .g3 (q_move rfl (.t (.s16 (.s16 (.s16 (.s16 .g14)))))) (Y.dk rfl rfl .g3 (q_build (cs := [.string s, .int .i64 b]) rfl bl_46 (pv2 (.t .g1) (.t .z)) rfl) ?_))))
 refine Y.call (goes_sch rfl rfl) rfl (by decide) rfl (c_call rfl Tryz.func128 rfl rfl (args2 (.t .g3) (.t .z))) .n (fun _ _ hs tr => c_128 (tr.own .g1) (kT_46_mk (⟨s, b⟩ : DEnt) (by assumption)) (by omega)) ?_
 rintro _ _ rfl
 refine Y.cat (.c .n) ?_
 refine Y.know (WS.oform .z) ?_
 rintro ⟨bc, bd, rfl, cy, cz, c0⟩
 refine Y.sk .g4 ?_
 refine Y.q (goes_sch rfl rfl) rfl (by decide) rfl (q_indexAddr (j := Int.toNat a) rfl u_24 sz_44 (.t .g13) (.t .g12) (by omega) (by first | omega | (simp only [takeF, withE_len, withL_len]; omega))) ?_
 refine Y.sk .g4 ?_
 refine Y.df rfl rfl .g4 .z fa_44_4 ?_
 refine Y.es (goes_sch rfl rfl) rfl (es_raw (j := Int.toNat a) (off := 4) (cs := [.slice bc (putE ab.ents (⟨s, b⟩ : DEnt)).length bd]) rfl sz_42 (.t .z) (add_add _ _ _) (.t .g2) rfl (ones rfl) .g6 bv (Nat.le_of_ble_eq_true rfl)) ?_
 refine Y.ceq (x' := List.set cj (Int.toNat a) [.int .i64 ab.kind, .int .i64 ab.links, .int .i64 ab.size, .slice ck ab.blocks.length cm, .slice bc (putE ab.ents (⟨s, b⟩ : DEnt)).length bd]) .z rfl ?_
 refine Y.sl rfl ?_
 refine Y.schN ?_
 refine Y.drawN (by kernel_rfl) ?_
 refine Y.then_ (Y.seq (Y.seq (Y.region (Y.mv rfl (.s16 (.s16 .g11)) (Y.nt ?_)))))
 refine Y.condP (.t .z) (fun c1 => ?_) (fun c1 => ?_)
 exfalso; first | omega | contradiction
 refine Y.skip (Y.then_ (Y.seq (Y.region (Y.er (.s16 (.s16 (.s16 (.s16 .g16)))) (Y.ql rfl (q_assign rfl .c) (Y.nt (Y.ret ?_)))))))
 refine Y.turns (c := ownA kT_44 (⟨ab.kind, ab.links, ab.size, ab.blocks, putE ab.ents (⟨s, b⟩ : DEnt)⟩ : DInode) [.int .i64 ab.kind, .int .i64 ab.links, .int .i64 ab.size, .slice ck ab.blocks.length cm, .slice bc (putE ab.ents (⟨s, b⟩ : DEnt)).length bd]) (.c .g2 (.c .g1 .n)) (fun w S h => kT_44_omk (⟨ab.kind, ab.links, ab.size, ab.blocks, putE ab.ents (⟨s, b⟩ : DEnt)⟩ : DInode) h) ?_
 refine Y.turns (c := ownA kSl_44 (List.set f.inodes (Int.toNat a) (⟨ab.kind, ab.links, ab.size, ab.blocks, putE ab.ents (⟨s, b⟩ : DEnt)⟩ : DInode)) [.slice (some ac) f.inodes.length ar]) (.c .g1 (.c .z (.c .g2 (.c .g2 .n)))) (own_unfocus (K := kT_44) bb (List.getElem?_eq_some_iff.1 a3).1 rfl) ?_
 have cn : List.set f.inodes (Int.toNat a) (⟨ab.kind, ab.links, ab.size, ab.blocks, putE ab.ents (⟨s, b⟩ : DEnt)⟩ : DInode) = withE f.inodes a (putE (entsAt f.inodes a) ⟨s, b⟩) := (by rw [bg]; exact withE_at a3 (by omega))
 refine Y.chEq .z (congrArg (fun z_ => (ownA kSl_44 (z_) [.slice (some ac) f.inodes.length ar] : Asn)) cn) ?_
 have ah : (entsAt f.inodes a).length = y4.ents.length ∨ True := .inr trivial
 try have ai : (entsAt f.inodes a).length = y4.ents.length := by rw [au]
 have aj := jlook_or (s := s) ht au
 have ak : (entsAt f.inodes a).length = af.ents.length ∨ True := .inr trivial
 try have al : (entsAt f.inodes a).length = af.ents.length := by rw [ag]
 have am := jlook_or (s := s) ht ag
 have ax : (entsAt f.inodes a).length = ae.ents.length ∨ True := .inr trivial
 try have ay : (entsAt f.inodes a).length = ae.ents.length := by rw [ao]
 have az := jlook_or (s := s) ht ao
 have c2 : (entsAt f.inodes a).length = ab.ents.length ∨ True := .inr trivial
 try have c3 : (entsAt f.inodes a).length = ab.ents.length := by rw [bg]
 have c4 := jlook_or (s := s) ht bg
 have hlk : kindAt f.inodes b = 1 ∨ linksAt f.inodes b = 0 := by by_cases hk : kindAt f.inodes b = 1; exact .inl hk; exact .inr (jlinks_kind hI hk)
 refine Y.doneS (res1 rfl .z) (.c .g3 (.c .z (.c .g1 .n))) ?_
 first | (have hc := addC_7 (f := f) (a := a) (s := s) (b := b) (by omega); exact ⟨_, _, by rw [hc], by rw [addF_n (by rw [hc]; decide)]⟩) | (have hc := addC_4 (f := f) (a := a) (s := s) (b := b) (by omega) (by rintro ⟨⟨h1, h2⟩, h3⟩; first | omega | (simp_all; done) | (simp_all; omega)); exact ⟨_, _, by rw [hc], by rw [addF_n (by rw [hc]; decide)]⟩) | (have hc := addC_2 (f := f) (a := a) (s := s) (b := b) (by omega) ⟨⟨by omega, by omega⟩, by omega⟩ (by omega); exact ⟨_, _, by rw [hc], by rw [addF_n (by rw [hc]; decide)]⟩) | (have hc := addC_0 (f := f) (a := a) (s := s) (b := b) (by omega) ⟨⟨by omega, by omega⟩, by omega⟩ (by omega); exact ⟨_, _, by rw [hc], by rw [addF_d hc (by omega)]⟩) | (have hc := addC_0 (f := f) (a := a) (s := s) (b := b) (by omega) ⟨⟨by omega, by omega⟩, by omega⟩ (by omega); exact ⟨_, _, by rw [hc], by rw [addF_f hc (by omega)]⟩)

theorem c_195w {w0 : World} {S0 : Bs} {f : DFs} {a1 : Addr} (h0 : PtrRo kT_27 w0 (FF w0 S0) a1 f) {x : (List ByteArray)} {v1 : Value} (h1 : kSl_9.ro w0 (FF w0 S0) x [v1]) (ht : J0 f) :
    Calls Tryz.prog 195 #[.pointer (some a1), v1] w0 (TriPost w0 S0 (fun r l => r = .tuple #[.int .i64 (wkC f.inodes 0 x).1, .int .i64 (wkC f.inodes 0 x).2] ∧ l = [])) := by
 obtain ⟨cc, a2, bv, a3⟩ := id h0
 obtain ⟨bw, bx, rfl, a4, a5⟩ := kT_27_ro bv
 obtain ⟨bz, b0, rfl, bf, bg, bh, al⟩ := ro_form a4
 obtain ⟨b1, b2, rfl, bi, bj, bk, bm⟩ := ro_form a5
 obtain ⟨A1, c1, rfl, cd, ce, cf, b3⟩ := ro_form h1
 have hI := ht
 have cg := jplace_0 ht
 refine Y.enter (N := 52) Tryz.func195 rfl rfl (by simp) [(0, .pointer (some a1)), (1, .slice A1 x.length c1)] (by simp) (l0 := []) trivial ?_
 refine Y.seq (Y.region (Y.ql rfl (q_assign rfl .c) (Y.ql rfl (q_assign rfl .c) (Y.nt (Y.seq (Y.region (Y.ql rfl (q_assign rfl .c) ?_)))))))
 refine Y.nt (Y.seq (Y.seq (Y.region (Y.ql rfl (q_assign rfl .c) (Y.nt (Y.block ?_))))))
 refine Y.loopi (γ := Nat × Int) (fun ⟨k, a⟩ => [(7, .int .i64 (k : Int)), (6, .int .i64 a), (0, .pointer (some a1)), (1, .slice A1 x.length c1)]) (fun ⟨k, a⟩ => []) (fun ⟨k, a⟩ => k ≤ x.length ∧ placeIn f.inodes.length a ∧ wkC f.inodes 0 x = wkC f.inodes a (x.drop k)) (fun ⟨k, a⟩ => x.length - k) (0, 0) ⟨Nat.zero_le _, jplace_0 ht, rfl⟩ (.c .z (.c .g1 (.c .g4 (.c .g5 .n)))) (fun _ h => h) ?_
 rintro ⟨k, a⟩ ⟨hk, hpa, hwk⟩
 obtain ⟨ch, ci⟩ := hpa
 have hor := fun s : ByteArray => jlook_or (s := s) (a := a) ht rfl
 refine Y.seq (Y.seq (Y.region (Y.mv rfl .z (Y.mv rfl .g4 (Y.ql rfl (q_len rfl u_63 (.t .z)) (Y.ql rfl (q_lss rfl (.t .g2) (.t .z)) (Y.nt ?_)))))))
 refine Y.condP (.t .z) (fun b4 => ?_) (fun b4 => ?_)
 refine Y.skip (Y.then_ (Y.seq (Y.block (Y.seq (Y.seq (Y.region (Y.mv rfl .g6 (Y.nc rfl .z ?_))))))))
 refine Y.fa rfl .z fa_27_0 (Y.le rfl ag_24 .z a2 a3 (Y.mv rfl .g9 ?_))
 obtain ⟨cj, am, an⟩ := al (by omega)
 subst am
 obtain ⟨x6, ao⟩ := get_ex (xs := f.inodes) (j := Int.toNat a) (by first | omega)
 obtain ⟨b5, a6, ac, ad⟩ := an.elem ao
 obtain ⟨bn, bo, rfl, ap, aa⟩ := kT_44_ro a6
 obtain ⟨bp, bq, rfl, a7, a8, a9, ba⟩ := ro_form ap
 obtain ⟨br, bs, rfl, bb, bc, bd, ae⟩ := ro_form aa
 have ck := kind_at (i := a) ao (by omega)
 have aq := ents_at (a := a) ao (by omega)
 have cm := links_at (a := a) ao (by omega)
 have cn := size_at (a := a) ao (by omega)
 refine Y.ql rfl (q_indexAddr (j := Int.toNat a) rfl u_24 sz_44 (.t .g1) (.t .z) (by omega) (by first | omega)) ?_
 refine Y.fa rfl .z fa_44_0 (Y.le rfl ag_2 .z ac ad (Y.ql rfl (q_neq rfl (.t .z) .c) (Y.nt ?_)))
 refine Y.condN (.t .z) (fun b6 => ?_) (fun b6 => ?_)
 refine Y.seq (Y.region (Y.ql rfl (q_assign rfl .c) (Y.ql rfl (q_assign rfl .c) (Y.nt (Y.ret (Y.thenR (Y.inBR ?_)))))))
 refine Y.thenR (Y.thenR (Y.inBR (Y.thenR ?_)))
 refine Y.doneS (res2 rfl .g1 .z) .n ?_
 obtain ⟨zn, hzn⟩ := get_ex (xs := x) (j := k) (by omega); rw [hwk, wk_9 hzn (by omega)]; exact ⟨rfl, rfl⟩
 refine Y.skip (Y.then_ (Y.seq ?_))
 refine Y.dr .z 13 mixo ?_
 refine Y.sc (qs 0 12 ++ [(12, false), (13, false)]) (by kernel_rfl) ?_
 refine Y.dm rfl rfl .z .g15 (Y.dn rfl rfl .z .z (Y.df rfl rfl .z .z fa_27_0 (Y.de rfl rfl .z ag_24 .z a2 a3 (Y.dm rfl rfl .z (.s16 .g2) ?_))))
 refine Y.dk rfl rfl .z (q_indexAddr (j := Int.toNat a) rfl u_24 sz_44 (.t .g1) (.t .z) (by omega) (by first | omega)) ?_
 refine Y.df rfl rfl .z .z fa_44_4 (Y.de rfl rfl .z ag_42 .z ac ad (Y.dm rfl rfl .z (.s16 .g8) (Y.dm rfl rfl .z (.s16 .g6) ?_)))
 obtain ⟨b7, af, ag⟩ := b3 (by omega)
 subst af
 obtain ⟨ab, ah⟩ := get_ex (xs := x) (j := k) (by first | omega)
 obtain ⟨bt, ar, au, av⟩ := ag.elem ah
 obtain ⟨rfl, b8⟩ := ar
 refine Y.dk rfl rfl .z (q_indexAddr (j := k) rfl u_63 sz_9 (.t .g1) (.t .z) rfl (by first | omega)) ?_
 refine Y.dk rfl rfl .z (q_load rfl ag_9 (.t .z) (WS.el0 au av rfl)) ?_
 refine Y.call (goes_sch rfl rfl) rfl (by decide) rfl (c_call rfl Tryz.func127 rfl rfl (args2 (.t .g4) (.t .z))) .n (fun _ _ hs tr => c_127 (tr.ctx aa) _ (by first | assumption | omega)) ?_
 rintro _ _ ⟨rfl, rfl⟩
 refine Y.cat .n ?_
 refine Y.sk .z ?_
 refine Y.q (goes_sch rfl rfl) rfl (by decide) rfl (q_assign rfl (.t .z)) ?_
 refine Y.sl rfl ?_
 refine Y.schN ?_
 refine Y.drawN (by kernel_rfl) ?_
 refine Y.then_ (Y.seq (Y.seq (Y.region (Y.mv rfl .z (Y.ql rfl (q_lss rfl (.t .z) .c) (Y.nt ?_))))))
 refine Y.condP (.t .z) (fun b9 => ?_) (fun b9 => ?_)
 have aw := jlook_or (s := ab) (a := a) ht aq
 have ax := idxF_rng (nameP ab) x6.ents
 refine Y.seq (Y.region (Y.ql rfl (q_assign rfl .c) (Y.ql rfl (q_assign rfl .c) (Y.nt (Y.ret (Y.thenR (Y.inBR ?_)))))))
 refine Y.thenR (Y.thenR (Y.inBR (Y.thenR ?_)))
 refine Y.doneS (res2 rfl .g1 .z) .n ?_
 have h9 := jlook_or (s := ab) (a := a) ht aq; have h8 := hor ab; rw [hwk, wk_4 ah (by omega) (by omega)]; exact ⟨rfl, rfl⟩
 have aw := jlook_or (s := ab) (a := a) ht aq
 have ax := idxF_rng (nameP ab) x6.ents
 refine Y.skip (Y.then_ (Y.region (Y.mv rfl (.s16 .g15) (Y.nc rfl .z (Y.fa rfl .z fa_27_0 (Y.le rfl ag_24 .z a2 a3 (Y.mv rfl (.s16 (.s16 .g2)) ?_)))))))
 refine Y.ql rfl (q_indexAddr (j := Int.toNat a) rfl u_24 sz_44 (.t .g1) (.t .z) (by omega) (by first | omega)) ?_
 refine Y.fa rfl .z fa_44_4 (Y.le rfl ag_42 .z ac ad (Y.mv rfl .g10 ?_))
 obtain ⟨ca, ai, aj⟩ := ae (by omega)
 subst ai
 obtain ⟨cb, ak⟩ := get_ex (xs := x6.ents) (j := Int.toNat (idxF (nameP ab) x6.ents)) (by first | omega)
 obtain ⟨bu, ay, az, a0⟩ := aj.elem ak
 obtain ⟨rfl, be⟩ := kT_46_ro ay
 refine Y.ql rfl (q_indexAddr (j := Int.toNat (idxF (nameP ab) x6.ents)) rfl u_42 sz_46 (.t .g1) (.t .z) (by omega) (by first | omega)) ?_
 refine Y.fa rfl .z fa_46_1 (Y.le rfl ag_2 .z az a0 (Y.er (.s16 (.s16 .g10)) (Y.as rfl .z (Y.nil (Y.inBN (Y.then_ (Y.region (Y.mv rfl (.s16 (.s16 .g10)) ?_))))))))
 refine Y.ql rfl (q_add (c := ((k + 1 : Nat) : Int)) rfl (.t .z) .c (wr (by omega) (by omega) (by omega))) ?_
 refine Y.er (.s16 (.s16 .g12)) (Y.as rfl .z (Y.nil ?_))
 refine Y.again ((k + 1), cb.ino) ⟨by omega, (by have h9 := look_at (by assumption) ak; rw [← aq] at h9; rw [← h9]; exact jlook_place ht (by omega)), (by have h9 := look_at (by assumption) ak; rw [← aq] at h9; rw [← h9]; have h8 := wk_s ah (show kindAt f.inodes a = 2 by omega) (by omega); rw [hwk, h8])⟩ (by first | omega | (dsimp only; omega)) (.c .z (.c .g3 (.c (.s16 (.s16 .g13)) (.c (.s16 (.s16 .g14)) .n)))) (fun _ h => h)
 refine Y.exit (Y.thenE (Y.thenE (Y.inB (Y.then_ (Y.seq (Y.region (Y.mv rfl .g5 (Y.as rfl .z ?_))))))))
 refine Y.ql rfl (q_assign rfl .c) (Y.nt (Y.ret ?_))
 refine Y.doneS (res2 rfl .g1 .z) .n ?_
 rw [hwk, wk_end (by omega)]; exact ⟨rfl, rfl⟩

theorem c_174w {w0 : World} {S0 : Bs} {f : DFs} {aa : Addr} (h0 : PtrRo kT_27 w0 (FF w0 S0) aa f) (s : ByteArray) (a1 : s.size ≤ 140737488351232) (ht : J0 f) :
    Calls Tryz.prog 174 #[.pointer (some aa), .string s] w0 (TriPost w0 S0 (fun r l => r = .tuple #[.int .i64 (walkP f s).1, .int .i64 (walkP f s).2] ∧ l = [])) := by
 obtain ⟨a2, a3, an, a4⟩ := id h0
 obtain ⟨ao, ap, rfl, ab, ac⟩ := kT_27_ro an
 obtain ⟨aq, ar, rfl, ad, ae, af, ag⟩ := ro_form ab
 obtain ⟨au, av, rfl, ah, ai, aj, ak⟩ := ro_form ac
 refine Y.enter (N := 21) Tryz.func174 rfl rfl (by simp) [(0, .pointer (some aa)), (1, .string s)] (by simp) (l0 := []) trivial ?_
 refine Y.seq (Y.region (Y.ql rfl (q_assign rfl .c) (Y.ql rfl (q_assign rfl .c) (Y.nt (Y.seq (Y.region (Y.mv rfl .g3 ?_)))))))
 refine Y.cl rfl rfl Tryz.func196 rfl rfl (args1 (.t .z)) .n (fun _ _ hs tr => c_196 _ (by first | assumption | omega)) ?_
 rintro _ _ ⟨v3, rfl, rfl⟩
 refine Y.cat (.c .n) ?_
 refine Y.know (WS.oform .z) ?_
 rintro ⟨aw, ax, rfl, ay, az, a0⟩
 have al := (splitN_ok s).1
 refine Y.mv rfl .z (Y.ql rfl (q_extract (v := .slice aw (splitN s).length ax) rfl (.t .z) rfl) (Y.ql rfl (q_extract (v := .int .i64 (splitC s)) rfl (.t .g1) rfl) (Y.as rfl .g1 (Y.as rfl .g1 (Y.nt (Y.seq (Y.seq ?_)))))))
 refine Y.region (Y.mv rfl .z (Y.ql rfl (q_neq rfl (.t .z) .c) (Y.nt ?_)))
 refine Y.condN (.t .z) (fun b6 => ?_) (fun b6 => ?_)
 refine Y.seq (Y.region (Y.mv rfl .g2 (Y.er .g11 (Y.ql rfl (q_assign rfl .c) (Y.er .g11 (Y.as rfl .g1 (Y.nt ?_)))))))
 refine Y.ret (Y.thenR ?_)
 refine Y.doneS (res2 rfl .g1 .z) .n ?_
 rw [walkP_c (by assumption)]; exact ⟨rfl, rfl⟩
 refine Y.skip (Y.then_ (Y.seq (Y.region (Y.mv rfl .g11 (Y.mv rfl .g4 ?_)))))
 refine Y.cl rfl rfl Tryz.func195 rfl rfl (args2 (.t .g1) (.t .z)) .n (fun _ _ hs tr => c_195w (tr.ctxP h0) (tr.own .z) (by assumption)) ?_
 rintro _ _ ⟨rfl, rfl⟩
 refine Y.cat .n ?_
 have am := jwk_place ht (splitN s) 0 (jplace_0 ht)
 refine Y.ql rfl (q_extract (v := .int .i64 ((wkC (f).inodes 0 (splitN s)).1)) rfl (.t .z) rfl) (Y.ql rfl (q_extract (v := .int .i64 ((wkC (f).inodes 0 (splitN s)).2)) rfl (.t .g1) rfl) (Y.er .g15 (Y.as rfl .g1 (Y.er .g15 (Y.as rfl .g1 (Y.nt (Y.ret ?_)))))))
 refine Y.doneS (res2 rfl .g1 .z) .n ?_
 rw [walkP_0 (by assumption)]; exact ⟨rfl, rfl⟩

theorem c_171w {w0 : World} {S0 : Bs} {f : DFs} {au : Addr} (h0 : PtrRo kT_27 w0 (FF w0 S0) au f) (s : ByteArray) (bx : s.size ≤ 140737488351232) (ht : J0 f) :
    Calls Tryz.prog 171 #[.pointer (some au), .string s] w0 (TriPost w0 S0 (fun r l => r = .tuple #[.int .i64 (parP f s).1, .string (parP f s).2.1, .int .i64 (parP f s).2.2] ∧ l = [])) := by
 obtain ⟨bz, be, bf, bg⟩ := id h0
 obtain ⟨bh, bi, rfl, av, aw⟩ := kT_27_ro bf
 obtain ⟨bj, bk, rfl, a3, a4, a5, ad⟩ := ro_form av
 obtain ⟨bm, bn, rfl, a6, a7, a8, a9⟩ := ro_form aw
 refine Y.enter (N := 40) Tryz.func171 rfl rfl (by simp) [(0, .pointer (some au)), (1, .string s)] (by simp) (l0 := []) trivial ?_
 refine Y.seq (Y.region (Y.ql rfl (q_assign rfl .c) (Y.ql rfl (q_assign rfl .c) (Y.ql rfl (q_assign rfl .c) (Y.nt (Y.seq (Y.region ?_)))))))
 refine Y.mv rfl .g4 ?_
 refine Y.cl rfl rfl Tryz.func194 rfl rfl (args1 (.t .z)) .n (fun _ _ hs tr => c_194 _ (by first | assumption | omega)) ?_
 rintro _ _ ⟨v3, rfl, rfl⟩
 refine Y.cat (.c .n) ?_
 refine Y.know (WS.oform .z) ?_
 rintro ⟨bo, bp, rfl, bq, br, bs⟩
 have ba := lastT_size s
 have bb := lastN_ok s
 refine Y.mv rfl .z (Y.ql rfl (q_extract (v := .slice bo (lastN s).length bp) rfl (.t .z) rfl) (Y.ql rfl (q_extract (v := .string (lastT s)) rfl (.t .g1) rfl) (Y.ql rfl (q_extract (v := .int .i64 (lastC s)) rfl (.t .g2) rfl) (Y.as rfl .g2 (Y.as rfl .g2 (Y.as rfl .g2 (Y.nt ?_)))))))
 refine Y.seq (Y.seq (Y.region (Y.mv rfl .z (Y.ql rfl (q_neq rfl (.t .z) .c) (Y.nt ?_)))))
 refine Y.condN (.t .z) (fun b6 => ?_) (fun b6 => ?_)
 refine Y.seq (Y.region (Y.mv rfl .g2 (Y.er .g14 (Y.ql rfl (q_assign rfl .c) (Y.er .g14 (Y.ql rfl (q_assign rfl .c) (Y.er .g14 (Y.as rfl .g2 ?_))))))))
 refine Y.nt (Y.ret (Y.thenR ?_))
 refine Y.doneS (res3 rfl .g2 .g1 .z) .n ?_
 rw [parP_c (by assumption)]; exact ⟨rfl, rfl⟩
 refine Y.skip (Y.then_ (Y.seq (Y.region (Y.mv rfl .g14 (Y.mv rfl .g5 ?_)))))
 refine Y.cl rfl rfl Tryz.func195 rfl rfl (args2 (.t .g1) (.t .z)) .n (fun _ _ hs tr => c_195w (tr.ctxP h0) (tr.own .z) (by assumption)) ?_
 rintro _ _ ⟨rfl, rfl⟩
 refine Y.cat .n ?_
 have bc := jwk_place ht (lastN s) 0 (jplace_0 ht)
 refine Y.mv rfl .z (Y.ql rfl (q_extract (v := .int .i64 ((wkC (f).inodes 0 (lastN s)).1)) rfl (.t .z) rfl) (Y.ql rfl (q_extract (v := .int .i64 ((wkC (f).inodes 0 (lastN s)).2)) rfl (.t .g1) rfl) (Y.as rfl .g1 (Y.er .g9 (Y.as rfl .g1 (Y.nt (Y.seq ?_)))))))
 refine Y.seq (Y.region (Y.mv rfl .z (Y.ql rfl (q_neq rfl (.t .z) .c) (Y.nt ?_))))
 refine Y.condN (.t .z) (fun b8 => ?_) (fun b8 => ?_)
 refine Y.seq (Y.region (Y.mv rfl .g2 (Y.er (.s16 .g7) (Y.ql rfl (q_assign rfl .c) (Y.er (.s16 .g7) (Y.ql rfl (q_assign rfl .c) (Y.er (.s16 .g7) (Y.as rfl .g2 ?_))))))))
 refine Y.nt (Y.ret (Y.thenR ?_))
 refine Y.doneS (res3 rfl .g2 .g1 .z) .n ?_
 rw [parP_w (by assumption) (by assumption)]; exact ⟨rfl, rfl⟩
 refine Y.skip (Y.then_ (Y.seq (Y.seq (Y.region (Y.mv rfl (.s16 .g7) (Y.nc rfl .z (Y.fa rfl .z fa_27_0 (Y.le rfl ag_24 .z be bg ?_))))))))
 refine Y.mv rfl .g7 ?_
 obtain ⟨b0, ae, af⟩ := ad (by omega)
 subst ae
 obtain ⟨b1, aa⟩ := get_ex (xs := f.inodes) (j := Int.toNat ((wkC (f).inodes 0 (lastN s)).1)) (by omega)
 obtain ⟨bd, ag, ah, ai⟩ := af.elem aa
 obtain ⟨ax, ay, rfl, ab, ac⟩ := kT_44_ro ag
 obtain ⟨az, a0, rfl, ak, al, am, an⟩ := ro_form ab
 obtain ⟨a1, a2, rfl, ao, ap, aq, ar⟩ := ro_form ac
 have aj := kind_at (i := ((wkC (f).inodes 0 (lastN s)).1)) aa (by omega)
 have bt := ents_at (a := ((wkC (f).inodes 0 (lastN s)).1)) aa (by omega)
 have bu := links_at (a := ((wkC (f).inodes 0 (lastN s)).1)) aa (by omega)
 have bv := size_at (a := ((wkC (f).inodes 0 (lastN s)).1)) aa (by omega)
 refine Y.ql rfl (q_indexAddr (j := Int.toNat ((wkC (f).inodes 0 (lastN s)).1)) rfl u_24 sz_44 (.t .g1) (.t .z) (by omega) (by omega)) ?_
 refine Y.fa rfl .z fa_44_0 (Y.le rfl ag_2 .z ah ai (Y.ql rfl (q_neq rfl (.t .z) .c) (Y.nt ?_)))
 refine Y.condN (.t .z) (fun bw => ?_) (fun bw => ?_)
 refine Y.seq (Y.region (Y.er (.s16 .g15) (Y.ql rfl (q_assign rfl .c) (Y.er (.s16 .g15) (Y.ql rfl (q_assign rfl .c) (Y.er (.s16 .g15) (Y.ql rfl (q_assign rfl .c) (Y.nil ?_))))))))
 refine Y.then_ (Y.ret (Y.thenR ?_))
 refine Y.doneS (res3 rfl .g2 .g1 .z) .n ?_
 rw [parP_9 (by assumption) (by assumption) (by rw [aj]; assumption)]; exact ⟨rfl, rfl⟩
 refine Y.skip (Y.then_ (Y.seq (Y.region (Y.mv rfl .g12 (Y.mv rfl (.s16 .g6) (Y.er (.s16 (.s16 .g1)) (Y.as rfl .g1 (Y.er (.s16 (.s16 .g1)) ?_))))))))
 refine Y.as rfl .g1 (Y.er (.s16 (.s16 .g1)) (Y.ql rfl (q_assign rfl .c) (Y.nt (Y.ret ?_))))
 refine Y.doneS (res3 rfl .g2 .g1 .z) .n ?_
 rw [parP_0 (by assumption) (by assumption) (by rw [aj]; assumption)]; exact ⟨rfl, rfl⟩

theorem c_176sw {w0 : World} {S0 : Bs} {f : DFs} {ab : Addr} (h0 : PtrRo kT_27 w0 (FF w0 S0) ab f) (a : Int) (b : Int) (m : Int) (ht : J0 f) (hp : placeIn f.inodes.length b) (n : Nat) (hm : m = (n : Int)) (hn : n ≤ 10) (ih : ∀ (n' : Nat), n' < n → ∀ {w0 : World} {S0 : Bs} {f : DFs} {ab : Addr} (h0 : PtrRo kT_27 w0 (FF w0 S0) ab f) (a b m : Int) (ht : J0 f) (hp : placeIn f.inodes.length b) (hm : m = (n' : Int)) (hn : n' ≤ 10), Calls Tryz.prog 176 #[.pointer (some ab), .int .i64 a, .int .i64 b, .int .i64 m] w0 (TriPost w0 S0 (fun r l => r = .bool (wi f.inodes a n' b) ∧ l = []))) :
    Calls Tryz.prog 176 #[.pointer (some ab), .int .i64 a, .int .i64 b, .int .i64 m] w0 (TriPost w0 S0 (fun r l => r = .bool (wi f.inodes a n b) ∧ l = [])) := by
 obtain ⟨b0, a5, bo, a6⟩ := id h0
 obtain ⟨bp, bq, rfl, ar, au⟩ := kT_27_ro bo
 obtain ⟨br, bs, rfl, a7, a8, a9, af⟩ := ro_form ar
 obtain ⟨bt, bu, rfl, ba, bb, bc, bd⟩ := ro_form au
 have hI := ht
 have hG := jG ht
 obtain ⟨b1, b2⟩ := hp
 refine Y.enter (N := 47) Tryz.func176 rfl rfl (by simp) [(0, .pointer (some ab)), (1, .int .i64 a), (2, .int .i64 b), (3, .int .i64 m)] (by simp) (l0 := []) trivial ?_
 refine Y.seq (Y.region (Y.ql rfl (q_assign rfl .c) (Y.nt (Y.seq (Y.seq (Y.region (Y.mv rfl .g2 ?_)))))))
 refine Y.mv rfl .g4 (Y.ql rfl (q_eql rfl (.t .g1) (.t .z)) (Y.nt ?_))
 refine Y.condP (.t .z) (fun b3 => ?_) (fun b3 => ?_)
 refine Y.seq (Y.region (Y.er .g3 (Y.ql rfl (q_assign rfl .c) (Y.nt (Y.ret (Y.thenR ?_))))))
 refine Y.doneS (res1 rfl .z) .n ?_
 exact ⟨by first | (rw [wi_eq (by omega)]; done), rfl⟩
 refine Y.skip (Y.then_ (Y.seq (Y.seq (Y.region (Y.ql rfl (q_assign rfl .c) (Y.nt (Y.block ?_)))))))
 obtain ⟨b4, ag, ah⟩ := af (by omega)
 subst ag
 obtain ⟨x5, ai⟩ := get_ex (xs := f.inodes) (j := Int.toNat b) (by omega)
 obtain ⟨bv, av, aj, ak⟩ := ah.elem ai
 obtain ⟨be, bf, rfl, al, am⟩ := kT_44_ro av
 obtain ⟨bg, bh, rfl, aw, ax, ay, az⟩ := ro_form al
 obtain ⟨bi, bj, rfl, a0, a1, a2, ac⟩ := ro_form am
 have b5 := kind_at (i := b) ai (by omega)
 have aq := ents_at (a := b) ai (by omega)
 have a3 := J0.x hI _ (List.mem_of_getElem? ai)
 refine Y.loopi (γ := Nat) (fun k => [(9, .int .i64 (k : Int)), (0, .pointer (some ab)), (1, .int .i64 a), (2, .int .i64 b), (3, .int .i64 m)]) (fun k => []) (fun k => k ≤ x5.ents.length ∧ ∀ (j : Nat) (e : DEnt), j < k → x5.ents[j]? = some e → wi f.inodes a (n - 1) e.ino = false) (fun k => x5.ents.length - k) 0 ⟨Nat.zero_le _, all_zero (q := fun _ (e : DEnt) => wi f.inodes a (n - 1) e.ino = false)⟩ (.c .z (.c .g5 (.c .g6 (.c .g7 (.c .g8 .n))))) (fun _ h => h) ?_
 rintro k ⟨hk, hallk⟩
 refine Y.seq (Y.seq (Y.region (Y.mv rfl .g4 (Y.ql rfl (q_gtr rfl (.t .z) .c) (Y.mv rfl .z ?_)))))
 refine Y.caseP .z (fun g9 => ?_) (fun g9 => ?_)
 refine Y.qg rfl rfl .z rfl rfl rfl (q_move rfl (.t .g3)) ?_
 refine Y.qg rfl rfl .g1 rfl rfl rfl (q_move rfl (.t .g5)) ?_
 refine Y.qg rfl rfl .g2 rfl rfl rfl (q_nilCheck rfl (.t .z)) ?_
 refine Y.qg rfl rfl .g3 rfl rfl rfl (q_fieldAddr rfl (.t .z) (fun _ => fa_27_0 _ _)) ?_
 refine Y.qg rfl rfl .g4 rfl rfl rfl (q_load rfl ag_24 (.t .z) (WS.el a5 a6 rfl)) ?_
 refine Y.qg rfl rfl .g5 rfl rfl rfl (q_move rfl (.t .g11)) ?_
 refine Y.qg rfl rfl .g6 rfl rfl rfl (q_indexAddr (j := Int.toNat b) rfl u_24 sz_44 (.t .g1) (.t .z) (by omega) (by omega)) ?_
 refine Y.qg rfl rfl .g7 rfl rfl rfl (q_fieldAddr rfl (.t .z) (fun _ => fa_44_4 _ _)) ?_
 refine Y.qg rfl rfl .g8 rfl rfl rfl (q_load rfl ag_42 (.t .z) (WS.el aj ak rfl)) ?_
 refine Y.qg rfl rfl .g9 rfl rfl rfl (q_len rfl u_42 (.t .z)) ?_
 refine Y.qg rfl rfl .g10 rfl rfl rfl (q_lss rfl (.t .g9) (.t .z)) ?_
 refine Y.ql rfl (q_pickT rfl (.t .g11) (.t .z)) (Y.nt ?_)
 refine Y.condP (.t .z) (fun bw => ?_) (fun bw => ?_)
 refine Y.skip (Y.then_ (Y.seq (Y.block (Y.seq (Y.region (Y.mv rfl .g16 (Y.mv rfl (.s16 .g2) (Y.mv rfl (.s16 .g2) ?_))))))))
 refine Y.nc rfl .z (Y.fa rfl .z fa_27_0 (Y.le rfl ag_24 .z a5 a6 (Y.mv rfl (.s16 .g8) ?_)))
 refine Y.ql rfl (q_indexAddr (j := Int.toNat b) rfl u_24 sz_44 (.t .g1) (.t .z) (by omega) (by omega)) ?_
 refine Y.fa rfl .z fa_44_4 (Y.le rfl ag_42 .z aj ak (Y.mv rfl (.s16 .g9) ?_))
 obtain ⟨bx, ad, ae⟩ := ac (by omega)
 subst ad
 obtain ⟨b6, aa⟩ := get_ex (xs := x5.ents) (j := k) (by omega)
 obtain ⟨bk, an, ao, ap⟩ := ae.elem aa
 obtain ⟨rfl, a4⟩ := kT_46_ro an
 have bm := id (hG _ _ ai _ _ aa)
 have bn := jents_ok a3 _ _ aa
 refine Y.ql rfl (q_indexAddr (j := k) rfl u_42 sz_46 (.t .g1) (.t .z) rfl (by omega)) ?_
 refine Y.fa rfl .z fa_46_1 (Y.le rfl ag_2 .z ao ap (Y.mv rfl (.s16 (.s16 .g1)) ?_))
 refine Y.ql rfl (q_sub (c := m - 1) rfl (.t .z) .c (wr (by omega) (by omega) (by omega))) ?_
 refine Y.cl rfl rfl Tryz.func176 rfl rfl (args4 (.t .g15) (.t .g14) (.t .g2) (.t .z)) .n (fun _ _ hs tr => ih (n - 1) (by omega) (tr.ctxP h0) _ _ _ (by assumption) (by first | assumption | (constructor <;> omega)) (by omega) (by omega)) ?_
 rintro _ _ ⟨rfl, rfl⟩
 refine Y.cat .n ?_
 refine Y.nt ?_
 refine Y.cond (.t .z) (fun bz => ?_) (fun bz => ?_)
 refine Y.seq (Y.region (Y.ql rfl (q_assign rfl .c) (Y.nt (Y.ret (Y.inBR (Y.thenR (Y.thenR ?_)))))))
 refine Y.inBR (Y.thenR ?_)
 refine Y.doneS (res1 rfl .z) .n ?_
 exact ⟨by first | (rw [wi_eq (by omega)]; done) | (rw [wi_hit (k := k) (by omega) (by rw [aq]; exact aa) (by assumption)]; done) | (rw [wi_no (by omega) (.inl (by omega))]; done) | (rw [wi_no (by omega) (.inr (fun j e he => by rw [aq] at he; exact hallk j e (by have := (List.getElem?_eq_some_iff.1 he).1; omega) he))]; done), rfl⟩
 refine Y.skip (Y.inBN (Y.then_ (Y.region (Y.mv rfl (.s16 .g16) ?_))))
 refine Y.ql rfl (q_add (c := ((k + 1 : Nat) : Int)) rfl (.t .z) .c (wr (by omega) (by omega) (by omega))) ?_
 refine Y.er (.s16 (.s16 .g2)) (Y.as rfl .z (Y.nil ?_))
 refine Y.again (k + 1) ⟨by omega, all_succ (q := fun _ (e : DEnt) => wi f.inodes a (n - 1) e.ino = false) hallk aa (by assumption)⟩ (by first | omega | (dsimp only; omega)) (.c .z (.c (.s16 (.s16 .g3)) (.c (.s16 (.s16 .g4)) (.c (.s16 (.s16 .g5)) (.c (.s16 (.s16 .g6)) .n))))) (fun _ h => h)
 refine Y.exit (Y.thenE (Y.thenE (Y.inB (Y.then_ (Y.seq (Y.region (Y.ql rfl (q_assign rfl .c) (Y.nil ?_))))))))
 refine Y.then_ (Y.ret ?_)
 refine Y.doneS (res1 rfl .z) .n ?_
 exact ⟨by first | (rw [wi_eq (by omega)]; done) | (rw [wi_no (by omega) (.inl (by omega))]; done) | (rw [wi_no (by omega) (.inr (fun j e he => by rw [aq] at he; exact hallk j e (by have := (List.getElem?_eq_some_iff.1 he).1; omega) he))]; done), rfl⟩
 refine Y.skipl rfl rfl .z rfl rfl (by decide) rfl ?_
 refine Y.skipl rfl rfl .g1 rfl rfl (by decide) rfl ?_
 refine Y.skipl rfl rfl .g2 rfl rfl (by decide) rfl ?_
 refine Y.skipl rfl rfl .g3 rfl rfl (by decide) rfl ?_
 refine Y.skipl rfl rfl .g4 rfl rfl (by decide) rfl ?_
 refine Y.skipl rfl rfl .g5 rfl rfl (by decide) rfl ?_
 refine Y.skipl rfl rfl .g6 rfl rfl (by decide) rfl ?_
 refine Y.skipl rfl rfl .g7 rfl rfl (by decide) rfl ?_
 refine Y.skipl rfl rfl .g8 rfl rfl (by decide) rfl ?_
 refine Y.skipl rfl rfl .g9 rfl rfl (by decide) rfl ?_
 refine Y.skipl rfl rfl .g10 rfl rfl (by decide) rfl ?_
 refine Y.ql rfl (q_pickF rfl (.t .g11) .c) (Y.nt ?_)
 refine Y.condF (.t .z) ?_
 refine Y.exit (Y.thenE (Y.thenE (Y.inB (Y.then_ (Y.seq (Y.region (Y.ql rfl (q_assign rfl .c) (Y.nil ?_))))))))
 refine Y.then_ (Y.ret ?_)
 refine Y.doneS (res1 rfl .z) .n ?_
 exact ⟨by first | (rw [wi_eq (by omega)]; done) | (rw [wi_no (by omega) (.inl (by omega))]; done) | (rw [wi_no (by omega) (.inr (fun j e he => by rw [aq] at he; exact hallk j e (by have := (List.getElem?_eq_some_iff.1 he).1; omega) he))]; done), rfl⟩
theorem c_176w {w0 : World} {S0 : Bs} {f : DFs} {ad0 : Addr} (h0 : PtrRo kT_27 w0 (FF w0 S0) ad0 f) (a b m : Int) (ht : J0 f) (hp : placeIn f.inodes.length b) (n : Nat) (hm : m = (n : Int)) (hn : n ≤ 10) : Calls Tryz.prog 176 #[.pointer (some ad0), .int .i64 a, .int .i64 b, .int .i64 m] w0 (TriPost w0 S0 (fun r l => r = .bool (wi f.inodes a n b) ∧ l = [])) := by
 have key : ∀ n : Nat, ∀ {w0 : World} {S0 : Bs} {f : DFs} {ad0 : Addr} (h0 : PtrRo kT_27 w0 (FF w0 S0) ad0 f) (a b m : Int) (ht : J0 f) (hp : placeIn f.inodes.length b) (hm : m = (n : Int)) (hn : n ≤ 10), Calls Tryz.prog 176 #[.pointer (some ad0), .int .i64 a, .int .i64 b, .int .i64 m] w0 (TriPost w0 S0 (fun r l => r = .bool (wi f.inodes a n b) ∧ l = [])) := fun n => by
  induction n using Nat.strongRecOn with
  | _ n ih => exact fun h0 a b m ht hp hm hn => c_176sw h0 a b m ht hp n hm hn ih
 exact key n h0 a b m ht hp hm hn

end Go.Proofs.YtmejbfmhaoilmaaGreat

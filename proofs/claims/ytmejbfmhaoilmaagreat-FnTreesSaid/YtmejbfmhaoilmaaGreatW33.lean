/- What is proved: contracts of functions, one a function. No condition. -/
import Derived.Test.YtmejbfmhaoilmaaGreatBase1
import Derived.Test.YtmejbfmhaoilmaaGreatW31
namespace Go.Proofs.YtmejbfmhaoilmaaGreat
open Go Go.RowKit
set_option linter.unusedVariables false
set_option linter.unusedSimpArgs false
set_option maxHeartbeats 1000000
set_option maxRecDepth 20000
theorem c_125 {w0 : World} {S0 : Bs} {f : DFs} {ag : Addr} (h0 : PtrRo kT_27 w0 (FF w0 S0) ag f) (a : Int)  :
    Calls Tryz.prog 125 #[.pointer (some ag), .int .i64 a] w0 (TriPost w0 S0 (fun r l => r = .int .i64 (dirCode f a) ∧ l = [])) := by
 obtain ⟨bn, ba, bb, bc⟩ := id h0
 obtain ⟨bd, be, rfl, ah, ai⟩ := kT_27_ro bb
 obtain ⟨bf, bg, rfl, ax, ay, az, aa⟩ := ro_form ah
 obtain ⟨bh, bi, rfl, a0, a1, a2, a3⟩ := ro_form ai
 refine Y.enter (N := 24) Tryz.func125 rfl rfl (by simp) [(0, .pointer (some ag)), (1, .int .i64 a)] (by simp) (l0 := []) trivial ?_
 refine Y.seq (Y.region (Y.ql rfl (q_assign rfl .c) (Y.nt (Y.seq (Y.seq (Y.region (Y.mv rfl .g1 ?_)))))))
 refine Y.cl rfl rfl Tryz.func52 rfl rfl (args1 (.t .z)) .n (fun _ _ hs tr => c_52 (tr.ctxP h0)) ?_
 rintro _ _ ⟨rfl, rfl⟩
 refine Y.cat .n ?_
 refine Y.as rfl .z (Y.nt (Y.seq (Y.region (Y.mv rfl .z (Y.ql rfl (q_neq rfl (.t .z) .c) (Y.nt ?_))))))
 refine Y.condN (.t .z) (fun b3 => ?_) (fun b3 => ?_)
 refine Y.seq (Y.region (Y.mv rfl .g2 (Y.er .g6 (Y.as rfl .z (Y.nt (Y.ret (Y.thenR ?_)))))))
 refine Y.doneS (res1 rfl .z) .n ?_
 exact ⟨by first | (rw [dirCode_f (by assumption)]; done) | (rw [dirCode_3 (by assumption) (by assumption)]; done) | (rw [dirCode_9 (by assumption) (by assumption) (by omega)]; done) | (rw [dirCode_0 (by assumption) (by assumption) (by omega)]; done), rfl⟩
 have aj := treeI b3
 refine Y.skip (Y.then_ (Y.seq (Y.seq (Y.region (Y.mv rfl .g6 (Y.mv rfl .g8 ?_))))))
 refine Y.cl rfl rfl Tryz.func90 rfl rfl (args2 (.t .g1) (.t .z)) .n (fun _ _ hs tr => c_90 (tr.ctxP h0) _) ?_
 rintro _ _ ⟨rfl, rfl⟩
 refine Y.cat .n ?_
 refine Y.ql rfl (q_not rfl (.t .z)) (Y.nt ?_)
 refine Y.condN (.t .z) (fun b5 => ?_) (fun b5 => ?_)
 refine Y.seq (Y.region (Y.er .g9 (Y.ql rfl (q_assign rfl .c) (Y.nt (Y.ret (Y.thenR ?_))))))
 refine Y.doneS (res1 rfl .z) .n ?_
 exact ⟨by first | (rw [dirCode_f (by assumption)]; done) | (rw [dirCode_3 (by assumption) (by assumption)]; done) | (rw [dirCode_9 (by assumption) (by assumption) (by omega)]; done) | (rw [dirCode_0 (by assumption) (by assumption) (by omega)]; done), rfl⟩
 refine Y.skip (Y.then_ (Y.seq (Y.seq (Y.region (Y.mv rfl .g10 (Y.nc rfl .z (Y.fa rfl .z fa_27_0 (Y.le rfl ag_24 .z ba bc ?_))))))))
 refine Y.mv rfl .g15 ?_
 obtain ⟨bo, ab, ac⟩ := aa (by omega)
 subst ab
 obtain ⟨x7, af⟩ := get_ex (xs := f.inodes) (j := Int.toNat a) (by omega)
 obtain ⟨bj, ak, al, am⟩ := ac.elem af
 obtain ⟨a4, a5, rfl, ad, ae⟩ := kT_44_ro ak
 obtain ⟨a6, a7, rfl, an, ao, ap, aq⟩ := ro_form ad
 obtain ⟨a8, a9, rfl, ar, au, av, aw⟩ := ro_form ae
 have bp := kind_at (i := a) af (by omega)
 have bq := ents_at (a := a) af (by omega)
 have bk := inodes_all aj _ (List.mem_of_getElem? af)
 refine Y.ql rfl (q_indexAddr (j := Int.toNat a) rfl u_24 sz_44 (.t .g1) (.t .z) (by omega) (by omega)) ?_
 refine Y.fa rfl .z fa_44_0 (Y.le rfl ag_2 .z al am (Y.ql rfl (q_neq rfl (.t .z) .c) (Y.nt ?_)))
 refine Y.condN (.t .z) (fun bm => ?_) (fun bm => ?_)
 refine Y.seq (Y.region (Y.er (.s16 .g2) (Y.ql rfl (q_assign rfl .c) (Y.nt (Y.ret (Y.thenR ?_))))))
 refine Y.doneS (res1 rfl .z) .n ?_
 exact ⟨by first | (rw [dirCode_f (by assumption)]; done) | (rw [dirCode_3 (by assumption) (by assumption)]; done) | (rw [dirCode_9 (by assumption) (by assumption) (by omega)]; done) | (rw [dirCode_0 (by assumption) (by assumption) (by omega)]; done), rfl⟩
 refine Y.skip (Y.then_ (Y.seq (Y.region (Y.er (.s16 .g2) (Y.ql rfl (q_assign rfl .c) (Y.nt (Y.ret ?_)))))))
 refine Y.doneS (res1 rfl .z) .n ?_
 exact ⟨by first | (rw [dirCode_f (by assumption)]; done) | (rw [dirCode_3 (by assumption) (by assumption)]; done) | (rw [dirCode_9 (by assumption) (by assumption) (by omega)]; done) | (rw [dirCode_0 (by assumption) (by assumption) (by omega)]; done), rfl⟩

theorem c_127 {w0 : World} {S0 : Bs} {es : (List DEnt)} {v0 : Value} (h0 : kSl_46.ro w0 (FF w0 S0) es [v0]) (s : ByteArray) (aj : s.size ≤ 140737488351232)  :
    Calls Tryz.prog 127 #[v0, .string s] w0 (TriPost w0 S0 (fun r l => r = .int .i64 (idxF (nameP s) es) ∧ l = [])) := by
 obtain ⟨A0, c0, rfl, ak, al, am, ah⟩ := ro_form h0
 refine Y.enter (N := 20) Tryz.func127 rfl rfl (by simp) [(0, .slice A0 es.length c0), (1, .string s)] (by simp) (l0 := []) trivial ?_
 refine Y.seq (Y.region (Y.ql rfl (q_assign rfl .c) (Y.nt (Y.seq (Y.seq (Y.region (Y.ql rfl (q_assign rfl .c) ?_)))))))
 refine Y.nt (Y.block ?_)
 refine Y.loopi (γ := Nat) (fun k => [(5, .int .i64 (k : Int)), (0, .slice A0 es.length c0), (1, .string s)]) (fun k => []) (fun k => k ≤ es.length ∧ ∀ j e, j < k → es[j]? = some e → nameP s e = false) (fun k => es.length - k) 0 ⟨Nat.zero_le _, all_zero (q := fun _ e => nameP s e = false)⟩ (.c .z (.c .g2 (.c .g3 .n))) (fun _ h => h) ?_
 rintro k ⟨hk, hallk⟩
 refine Y.seq (Y.seq (Y.region (Y.mv rfl .z (Y.mv rfl .g2 (Y.ql rfl (q_len rfl u_42 (.t .z)) (Y.ql rfl (q_lss rfl (.t .g2) (.t .z)) (Y.nt ?_)))))))
 refine Y.condP (.t .z) (fun b2 => ?_) (fun b2 => ?_)
 refine Y.skip (Y.then_ (Y.seq (Y.block (Y.seq (Y.region (Y.mv rfl .g5 (Y.mv rfl .g5 ?_)))))))
 obtain ⟨an, aa, ab⟩ := ah (by omega)
 subst aa
 obtain ⟨x4, ac⟩ := get_ex (xs := es) (j := k) (by omega)
 obtain ⟨ai, ad, ae, af⟩ := ab.elem ac
 obtain ⟨rfl, ag⟩ := kT_46_ro ad
 refine Y.ql rfl (q_indexAddr (j := k) rfl u_42 sz_46 (.t .g1) (.t .z) rfl (by omega)) ?_
 refine Y.fa rfl .z fa_46_0 (Y.le rfl ag_9 .z ae af (Y.mv rfl .g11 (Y.ql rfl (q_seql rfl (.t .g1) (.t .z)) (Y.nt ?_))))
 refine Y.condP (.t .z) (fun b6 => ?_) (fun b6 => ?_)
 refine Y.seq (Y.region (Y.mv rfl .g11 (Y.as rfl .z (Y.nt (Y.ret (Y.inBR (Y.thenR ?_)))))))
 refine Y.thenR (Y.inBR (Y.thenR ?_))
 refine Y.doneS (res1 rfl .z) .n ?_
 exact ⟨by rw [idxF_some ac (decide_eq_true (by assumption)) hallk], rfl⟩
 refine Y.skip (Y.inBN (Y.then_ (Y.region (Y.mv rfl .g11 ?_))))
 refine Y.ql rfl (q_add (c := ((k + 1 : Nat) : Int)) rfl (.t .z) .c (wr (by omega) (by omega) (by omega))) ?_
 refine Y.er .g13 (Y.as rfl .z (Y.nil ?_))
 refine Y.again (k + 1) ⟨by omega, all_succ (q := fun _ e => nameP s e = false) hallk ac (decide_eq_false (by assumption))⟩ (by first | omega | (dsimp only; omega)) (.c .z (.c .g14 (.c .g15 .n))) (fun _ h => h)
 refine Y.exit (Y.thenE (Y.thenE (Y.inB (Y.then_ (Y.seq (Y.region (Y.ql rfl (q_assign rfl .c) (Y.nil ?_))))))))
 refine Y.then_ (Y.ret ?_)
 refine Y.doneS (res1 rfl .z) .n ?_
 exact ⟨by rw [idxF_none (fun j x hx => hallk j x (by have := (List.getElem?_eq_some_iff.1 hx).1; omega) hx)], rfl⟩

theorem c_180 {w0 : World} {S0 : Bs} {f : DFs} {bo : List Value} (h0 : kT_27.ro w0 (FF w0 S0) f bo) (a : Int)  :
    Calls Tryz.prog 180 #[.agg bo.toArray, .int .i64 a] w0 (TriPost w0 S0 (RA_65 (namesR f a))) := by
 obtain ⟨b3, b4, rfl, ar, au⟩ := kT_27_ro h0
 obtain ⟨av, ag, rfl, bp, bq, br, aw⟩ := ro_form ar
 obtain ⟨ah, ai, rfl, bs, bt, bu, bv⟩ := ro_form au
 refine Y.enter (N := 42) Tryz.func180 rfl rfl (by simp) [(0, .agg #[.slice av f.inodes.length ag, .slice ah f.data.length ai]), (1, .int .i64 a)] (by simp) (l0 := []) trivial ?_
 refine Y.seq (Y.region ?_)
 refine Y.el rfl (e_box (cs := [.slice av f.inodes.length ag, .slice ah f.data.length ai]) (n := 2) rfl (.t .z) rfl rfl) ?_
 rintro _ _ ⟨g3, rfl, rfl⟩
 refine Y.el rfl (e_alloc rfl z_65 rfl rfl) ?_
 rintro _ _ ⟨g4, rfl, rfl⟩
 refine Y.nt (Y.seq (Y.seq (Y.region (Y.mv rfl .g3 ?_))))
 refine Y.cl rfl rfl Tryz.func125 rfl rfl (args2 (.t .g2) (.t .z)) .n (fun _ _ hs tr => c_125 (tr.ptr .g1 (kT_27_mk f (tr.ctx ar) (tr.ctx au))) _) ?_
 rintro _ _ ⟨rfl, rfl⟩
 refine Y.cat .n ?_
 refine Y.as rfl .z (Y.nt (Y.seq (Y.region (Y.mv rfl .z (Y.ql rfl (q_neq rfl (.t .z) .c) (Y.nt ?_))))))
 refine Y.condN (.t .z) (fun b5 => ?_) (fun b5 => ?_)
 refine Y.seq (Y.region (Y.mv rfl .g2 (Y.ql rfl (q_build (cs := [.int .i64 (dirCode f a), .slice none 0 0]) rfl bl_65 (pv1 (.t .z)) rfl) ?_)))
 refine Y.es (goes_list rfl) rfl (esW rfl (.t .g7) (.t .z) .z sz_65 rfl rfl) ?_
 refine Y.nt (Y.ret (Y.thenR ?_))
 refine Y.add (c := ownA kSl_9 [] [.slice none 0 0]) (fun w S => own_nil w S none) ?_
 refine Y.doneS (resW rfl .g7 ag_65 .g1 sz_65) (.c .z .n) ?_
 first | (rw [namesR_f (by assumption)]; exact ⟨_, rfl, rfl⟩) | (rw [namesR_0 (by assumption)]; exact ⟨_, rfl, rfl⟩)
 have ax := dirOk b5
 have ba := treeI ax.1
 obtain ⟨b6, b7⟩ := ax.2.1
 refine Y.skip (Y.then_ (Y.seq (Y.region (Y.ql rfl (q_build (cs := [.int .i64 0, .slice none 0 0]) rfl bl_65 pv0 rfl) ?_))))
 refine Y.el rfl (e_alloc rfl z_65 rfl rfl) ?_
 rintro _ _ ⟨g8, rfl, rfl⟩
 refine Y.es (goes_list rfl) rfl (esW rfl (.t .z) (.t .g1) .z sz_65 rfl rfl) ?_
 refine Y.nt (Y.seq (Y.seq (Y.region (Y.ql rfl (q_assign rfl .c) (Y.nt (Y.block ?_))))))
 refine Y.add (c := ownA kSl_9 [] [.slice none 0 0]) (fun w S => own_nil w S none) ?_
 obtain ⟨bb, aj, ak⟩ := aw (by omega)
 subst aj
 obtain ⟨al, ac⟩ := get_ex (xs := f.inodes) (j := Int.toNat a) (by omega)
 obtain ⟨bw, ay, ae, af⟩ := ak.elem ac
 obtain ⟨bc, bd, rfl, am, an⟩ := kT_44_ro ay
 obtain ⟨be, bf, rfl, a3, a4, a5, a6⟩ := ro_form am
 obtain ⟨bg, bh, rfl, a7, a8, a9, ad⟩ := ro_form an
 have b8 := kind_at (i := a) ac (by omega)
 have bi := ents_at (a := a) ac (by omega)
 have az := inodes_all ba _ (List.mem_of_getElem? ac)
 refine Y.loopi (γ := Nat × (Option Addr) × Nat) (fun ⟨k, aa, ab⟩ => [(7, .int .i64 (k : Int)), (6, .pointer (some ⟨g8, 0, none⟩)), (4, .pointer (some ⟨g4, 0, none⟩)), (2, .pointer (some ⟨g3, 0, none⟩)), (1, .int .i64 a)]) (fun ⟨k, aa, ab⟩ => [ownA kSl_9 (namesTo al.ents k) [.slice aa (namesTo al.ents k).length ab], rowA g8 65 2 1 [.int .i64 0, .slice aa (namesTo al.ents k).length ab], rowA g4 65 2 1 [.int .i64 0, .slice none 0 0], rowA g3 27 2 1 [.slice (some bb) f.inodes.length ag, .slice ah f.data.length ai]]) (fun ⟨k, aa, ab⟩ => k ≤ al.ents.length) (fun ⟨k, aa, ab⟩ => al.ents.length - k) (0, none, 0) (Nat.zero_le _) (.c .z (.c .g1 (.c .g8 (.c .g9 (.c .g11 .n))))) (fun _ h => h.sel (.c .z (.c .z (.c .z (.c .z .n))))) ?_
 rintro ⟨k, aa, ab⟩ hk
 have hnl := namesTo_len (es := al.ents) (k := k)
 refine Y.seq (Y.seq (Y.region (Y.mv rfl .z (Y.fa rfl .g4 fa_27_0 (Y.ld rfl ag_24 .z .g3 (Y.mv rfl .g7 ?_))))))
 refine Y.ql rfl (q_indexAddr (j := Int.toNat a) rfl u_24 sz_44 (.t .g1) (.t .z) (by omega) (by omega)) ?_
 refine Y.fa rfl .z fa_44_4 (Y.le rfl ag_42 .z ae af (Y.ql rfl (q_len rfl u_42 (.t .z)) (Y.ql rfl (q_lss rfl (.t .g7) (.t .z)) (Y.nt ?_))))
 refine Y.condP (.t .z) (fun b9 => ?_) (fun b9 => ?_)
 refine Y.skip (Y.then_ (Y.seq (Y.block ?_)))
 refine Y.dr .g1 15 mixo ?_
 refine Y.sc (qs 0 12 ++ [(12, false), (13, false), (14, true), (15, false)]) (by kernel_rfl) ?_
 refine Y.df rfl rfl .g1 .g10 fa_65_1 (Y.dl rfl rfl .g1 ag_63 .z .z (Y.df rfl rfl .g1 .g14 fa_27_0 (Y.dl rfl rfl .g1 ag_24 .z .g2 (Y.dm rfl rfl .g1 (.s16 .g1) ?_))))
 refine Y.dk rfl rfl .g1 (q_indexAddr (j := Int.toNat a) rfl u_24 sz_44 (.t .g1) (.t .z) (by omega) (by omega)) ?_
 refine Y.df rfl rfl .g1 .z fa_44_4 (Y.de rfl rfl .g1 ag_42 .z ae af (Y.dm rfl rfl .g1 (.s16 .g1) ?_))
 obtain ⟨ca, ao, ap⟩ := ad (by omega)
 subst ao
 obtain ⟨bj, aq⟩ := get_ex (xs := al.ents) (j := k) (by omega)
 obtain ⟨bx, a0, a1, a2⟩ := ap.elem aq
 obtain ⟨rfl, bk⟩ := kT_46_ro a0
 have bz := ents_ok az _ _ aq
 refine Y.dk rfl rfl .g1 (q_indexAddr (j := k) rfl u_42 sz_46 (.t .g1) (.t .z) rfl (by omega)) ?_
 refine Y.df rfl rfl .g1 .z fa_46_0 (Y.de rfl rfl .g1 ag_9 .z a1 a2 ?_)
 refine Y.e (goes_sch rfl rfl) rfl (by decide) rfl (e_buildSliceL (cs := [.string bj.name]) rfl u_63 (inz inf_9) (by decide) (pv1 (.t .z)) rfl rfl (by decide) rfl rfl) ?_
 rintro _ _ ⟨g19, rfl, rfl⟩
 refine Y.sk .g2 ?_
 refine Y.add (c := ownA kstr bj.name [.string bj.name]) (fun _ _ => ⟨rfl, by assumption⟩) ?_
 refine Y.e (goes_sch rfl rfl) rfl (by decide) rfl (e_append1 rfl u_63 inf_9 rfl (.t .g11) (.t .z) (.c .g2 (.c .g1 (.c .z .n))) (by first | omega | (simp only [List.length_append, List.length_take, List.length_nil, List.length_cons]; omega)) (by first | omega | (simp only [List.length_append, List.length_take, List.length_nil, List.length_cons]; omega))) ?_
 rintro _ _ rfl
 refine Y.ceq .z (namesTo_s aq) ?_
 refine Y.know (WS.oform .z) ?_
 rintro ⟨bm, bn, rfl, b0, b1, b2⟩
 refine Y.sk .g1 ?_
 refine Y.df rfl rfl .g1 (.s16 .g8) fa_65_1 ?_
 refine Y.es (goes_sch rfl rfl) rfl (es1 (off := 1) rfl sz_63 (.t .z) (.t .g1) rfl rfl .g1 rfl .g1) ?_
 refine Y.sl rfl ?_
 refine Y.schN ?_
 refine Y.drawN (by kernel_rfl) ?_
 refine Y.inBN (Y.then_ (Y.region (Y.mv rfl (.s16 .g8) ?_)))
 refine Y.ql rfl (q_add (c := ((k + 1 : Nat) : Int)) rfl (.t .z) .c (wr (by omega) (by omega) (by omega))) ?_
 refine Y.er (.s16 .g10) (Y.as rfl .z (Y.nil ?_))
 refine Y.again ((k + 1), bm, bn) (by omega) (by first | omega | (dsimp only; omega)) (.c .z (.c (.s16 .g11) (.c (.s16 .g12) (.c (.s16 .g13) (.c (.s16 .g14) .n))))) (fun _ h => h.sel (.c .g1 (.c .z (.c .z (.c .z .n)))))
 refine Y.exit (Y.thenE (Y.thenE (Y.inB (Y.then_ (Y.seq (Y.region (Y.ql rfl (qW rfl ag_65 (.t .g10) .g1 sz_65) ?_)))))))
 refine Y.es (goes_list rfl) rfl (esW rfl (.t .g12) (.t .z) .g2 sz_65 rfl rfl) ?_
 refine Y.nt (Y.ret ?_)
 refine Y.ceq (x' := namesOf (entsAt f.inodes a)) .g1 (by rw [bi]; exact namesTo_all (by omega)) ?_
 refine Y.doneS (resW rfl .g12 ag_65 .g1 sz_65) (.c .z .n) ?_
 first | (rw [namesR_f (by assumption)]; exact ⟨_, rfl, rfl⟩) | (rw [namesR_0 (by assumption)]; exact ⟨_, rfl, rfl⟩)

end Go.Proofs.YtmejbfmhaoilmaaGreat

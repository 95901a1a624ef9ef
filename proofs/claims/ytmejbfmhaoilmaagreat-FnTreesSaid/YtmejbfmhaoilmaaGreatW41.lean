/- What is proved: contracts of functions, one a function. No condition. -/
import Derived.Test.YtmejbfmhaoilmaaGreatBase1
import Derived.Test.YtmejbfmhaoilmaaGreatW40
namespace Go.Proofs.YtmejbfmhaoilmaaGreat
open Go Go.RowKit
set_option linter.unusedVariables false
set_option linter.unusedSimpArgs false
set_option maxHeartbeats 1000000
set_option maxRecDepth 20000
theorem c_28 {w0 : World} {S0 : Bs} {f : DFs} {ar : List Value} (h0 : kT_27.ro w0 (FF w0 S0) f ar) (a : Int) (n : Int) {b : (List Int)} {v3 : Value} (h3 : kSl_2.ro w0 (FF w0 S0) b [v3])  :
    Calls Tryz.prog 28 #[.agg ar.toArray, .int .i64 a, .int .i64 n, v3] w0 (TriPost w0 S0 (RA_48 (cutR f a n b))) := by
 obtain ⟨be, bf, rfl, ad, ae⟩ := kT_27_ro h0
 obtain ⟨ai, aj, rfl, au, av, aw, ax⟩ := ro_form ad
 obtain ⟨ak, al, rfl, ay, az, a0, a1⟩ := ro_form ae
 obtain ⟨A3, c3, rfl, bn, bo, bp, bq⟩ := ro_form h3
 refine Y.enter (N := 38) Tryz.func28 rfl rfl (by simp) [(0, .agg #[.slice ai f.inodes.length aj, .slice ak f.data.length al]), (1, .int .i64 a), (2, .int .i64 n), (3, .slice A3 b.length c3)] (by simp) (l0 := []) trivial ?_
 refine Y.seq (Y.region ?_)
 refine Y.el rfl (e_box (cs := [.slice ai f.inodes.length aj, .slice ak f.data.length al]) (n := 2) rfl (.t .z) rfl rfl) ?_
 rintro _ _ ⟨g4, rfl, rfl⟩
 refine Y.el rfl (e_alloc rfl z_48 rfl rfl) ?_
 rintro _ _ ⟨g5, rfl, rfl⟩
 refine Y.nt (Y.seq (Y.seq (Y.region (Y.mv rfl .g3 (Y.mv rfl .g6 ?_)))))
 refine Y.cl rfl rfl Tryz.func66 rfl rfl (args3 (.t .g3) (.t .g1) (.t .z)) .n (fun _ _ hs tr => c_66 (tr.ptr .g1 (kT_27_mk f (tr.ctx ad) (tr.ctx ae))) _ (tr.ctx h3)) ?_
 rintro _ _ ⟨rfl, rfl⟩
 refine Y.cat .n ?_
 refine Y.as rfl .z (Y.nt (Y.seq (Y.region (Y.mv rfl .z (Y.ql rfl (q_neq rfl (.t .z) .c) (Y.nt ?_))))))
 refine Y.condN (.t .z) (fun b6 => ?_) (fun b6 => ?_)
 have an : ¬ wcode f a b = 0 := b6
 refine Y.seq (Y.region (Y.mv rfl .g2 (Y.ql rfl (q_build (cs := [.int .i64 (wcode f a b), .slice none 0 0, .slice none 0 0]) rfl bl_48 (pv1 (.t .z)) rfl) ?_)))
 refine Y.es (goes_list rfl) rfl (esW rfl (.t .g8) (.t .z) .z sz_48 rfl rfl) ?_
 refine Y.nt (Y.ret (Y.thenR ?_))
 refine Y.add (c := ownA kSl_44 [] [.slice none 0 0]) (fun w S => own_nil w S none) ?_
 refine Y.add (c := ownA kSl_22 [] [.slice none 0 0]) (fun w S => own_nil w S none) ?_
 refine Y.doneS (resW rfl .g8 ag_48 .g2 sz_48) (.c .g1 (.c .z .n)) ?_
 first | (rw [cutR_f an]; exact ⟨_, _, rfl, rfl⟩) | (rw [cutR_3 am (by omega)]; exact ⟨_, _, rfl, rfl⟩) | (rw [cutR_0 am (by omega)]; exact ⟨_, _, rfl, rfl⟩)
 have am : wcode f a b = 0 := b6
 obtain ⟨hbc, hbz⟩ := wOk am
 obtain ⟨hF, ⟨hpa, hpb⟩, br, bs⟩ := bytesOk hbc
 have ht := fsTree hF
 have hI := treeI ht
 have hd := data_20 ht
 have hB := blocks_in hI a
 have hfl := fileB_len ht a
 refine Y.skip (Y.then_ (Y.seq (Y.seq (Y.region (Y.mv rfl .g10 ?_)))))
 refine Y.cl rfl rfl Tryz.func71 rfl rfl (args1 (.t .z)) .n (fun _ _ hs tr => c_71 _) ?_
 rintro _ _ ⟨rfl, rfl⟩
 refine Y.cat .n ?_
 refine Y.ql rfl (q_not rfl (.t .z)) (Y.nt ?_)
 refine Y.condN (.t .z) (fun b9 => ?_) (fun b9 => ?_)
 refine Y.seq (Y.region (Y.ql rfl (q_build (cs := [.int .i64 3, .slice none 0 0, .slice none 0 0]) rfl bl_48 (pv1 .c) rfl) ?_))
 refine Y.es (goes_list rfl) rfl (esW rfl (.t .g10) (.t .z) .z sz_48 rfl rfl) ?_
 refine Y.nt (Y.ret (Y.thenR ?_))
 refine Y.add (c := ownA kSl_44 [] [.slice none 0 0]) (fun w S => own_nil w S none) ?_
 refine Y.add (c := ownA kSl_22 [] [.slice none 0 0]) (fun w S => own_nil w S none) ?_
 refine Y.doneS (resW rfl .g10 ag_48 .g2 sz_48) (.c .g1 (.c .z .n)) ?_
 first | (rw [cutR_f an]; exact ⟨_, _, rfl, rfl⟩) | (rw [cutR_3 am (by omega)]; exact ⟨_, _, rfl, rfl⟩) | (rw [cutR_0 am (by omega)]; exact ⟨_, _, rfl, rfl⟩)
 refine Y.skip (Y.then_ (Y.seq (Y.region (Y.mv rfl .g12 ?_))))
 refine Y.cl rfl rfl Tryz.func68 rfl rfl (args2 (.t .g11) (.t .z)) .n (fun _ _ hs tr => c_68 (tr.ptr .g1 (kT_27_mk f (tr.ctx ad) (tr.ctx ae))) _ (by assumption) (by first | assumption | (constructor <;> omega))) ?_
 rintro _ _ rfl
 refine Y.cat (.c .n) ?_
 refine Y.know (WS.oform .z) ?_
 rintro ⟨af, ag, rfl, a2, a3, a4⟩
 refine Y.as rfl .z (Y.nt (Y.seq (Y.block ?_)))
 have ah : fileB f a = fileB f a ++ List.replicate 0 0 := (padz_0 _)
 refine Y.ceq .z ah ?_
 refine Y.chEq .z (congrArg (fun z_ : Nat => (ownA kSl_5 (fileB f a ++ List.replicate 0 0) [.slice af z_ ag] : Asn)) (congrArg List.length ah)) ?_
 refine Y.eq .z (congrArg (fun z_ : Nat => (.slice af z_ ag : Value)) (congrArg List.length ah)) ?_
 refine Y.eq .g1 (congrArg (fun z_ : Nat => (.slice af z_ ag : Value)) (congrArg List.length ah)) ?_
 refine Y.loopi (γ := Nat × (Option Addr) × Nat) (fun ⟨k, aa, ab⟩ => [(10, .slice aa (fileB f a ++ List.replicate k 0).length ab), (8, .pointer (some ⟨g5, 0, none⟩)), (4, .pointer (some ⟨g4, 0, none⟩)), (1, .int .i64 a), (2, .int .i64 n), (3, .slice A3 b.length c3)]) (fun ⟨k, aa, ab⟩ => [ownA kSl_5 (fileB f a ++ List.replicate k 0) [.slice aa (fileB f a ++ List.replicate k 0).length ab], rowA g5 48 3 1 [.int .i64 0, .slice none 0 0, .slice none 0 0], rowA g4 27 2 1 [.slice ai f.inodes.length aj, .slice ak f.data.length al]]) (fun ⟨k, aa, ab⟩ => k ≤ Int.toNat (n) - (fileB f a).length) (fun ⟨k, aa, ab⟩ => Int.toNat (n) - (fileB f a).length - k) (0, af, ag) (Nat.zero_le _) (.c .g1 (.c .g12 (.c .g13 (.c .g15 (.c .g16 (.c (.s16 .g1) .n)))))) (fun _ h => h.sel (.c .z (.c .z (.c .z .n)))) ?_
 rintro ⟨k, aa, ab⟩ hk
 have hpl := padz_len (L := fileB f a) (k := k)
 refine Y.seq (Y.seq (Y.region (Y.mv rfl .z (Y.ql rfl (q_len rfl u_22 (.t .z)) (Y.mv rfl .g6 (Y.ql rfl (q_lss rfl (.t .g1) (.t .z)) (Y.nt ?_)))))))
 refine Y.condP (.t .z) (fun bg => ?_) (fun bg => ?_)
 refine Y.skip (Y.then_ (Y.block (Y.region (Y.mv rfl .g4 ?_))))
 refine Y.el rfl (e_buildSliceL (cs := [.int .u8 0]) rfl u_22 (inz inf_5) (by decide) (pv1 .c) rfl rfl (by decide) rfl rfl) ?_
 rintro _ _ ⟨g16, rfl, rfl⟩
 refine Y.add (c := ownA kbyte (0 : UInt8) [.int .u8 0]) (fun _ _ => ⟨rfl, trivial⟩) ?_
 refine Y.el rfl (e_append1 rfl u_22 inf_5 rfl (.t .g1) (.t .z) (.c .g2 (.c .g1 (.c .z .n))) (by first | omega | (simp <;> omega)) (by first | omega | (simp <;> omega))) ?_
 rintro _ _ rfl
 refine Y.ceq .z padz_s ?_
 refine Y.know (WS.oform .z) ?_
 rintro ⟨ao, ap, rfl, a5, a6, a7⟩
 refine Y.er .g7 (Y.as rfl .z (Y.nil (Y.inBN ?_)))
 refine Y.again ((k + 1), ao, ap) (by omega) (by first | omega | (dsimp only; omega)) (.c .z (.c .g8 (.c .g9 (.c .g10 (.c .g11 (.c .g12 .n)))))) (fun _ h => h.sel (.c .z (.c .z (.c .z .n))))
 refine Y.exit (Y.thenE (Y.thenE (Y.inB (Y.then_ (Y.seq ?_)))))
 have hzl := @padZ_len (fileB f a) n
 have ac : fileB f a ++ List.replicate k 0 = padZ (fileB f a) n := (padz_all (by omega) (by omega))
 refine Y.eq .z (congrArg (fun z_ => (.bool (decide (((z_).length : Int) < n)) : Value)) ac) ?_
 refine Y.eq .g2 (congrArg (fun z_ => (.int .i64 ((z_).length : Int) : Value)) ac) ?_
 refine Y.eq .g3 (congrArg (fun z_ => (.slice aa (z_).length ab : Value)) ac) ?_
 refine Y.eq .g4 (congrArg (fun z_ => (.slice aa (z_).length ab : Value)) ac) ?_
 refine Y.chEq .z (congrArg (fun z_ => (ownA kSl_5 (z_) [.slice aa (z_).length ab] : Asn)) ac) ?_
 refine Y.dr .g1 7 mixo ?_
 refine Y.sc (qs 0 6 ++ [(6, false), (7, false)]) (by kernel_rfl) ?_
 refine Y.dk rfl rfl .g1 (qW rfl ag_27 (.t .g6) .g1 sz_27) (Y.dm rfl rfl .g1 .g8 (Y.dm rfl rfl .g1 .g2 (Y.dm rfl rfl .g1 .g11 ?_)))
 refine Y.know (WS.ocap .z) ?_
 rintro ⟨-, bh, -, -⟩
 have aq : (List.take (Int.toNat n) (padZ (fileB f a) n)).length = Int.toNat n := by rw [List.length_take]; rw [padZ_len]; omega
 refine Y.eq .z (congrArg (Value.int .i64) (show n = (((List.take (Int.toNat n) (padZ (fileB f a) n)).length : Nat) : Int) by rw [aq]; try omega)) ?_
 refine Y.turns (c := ownA kSl_5 (List.take (Int.toNat n) (padZ (fileB f a) n)) [.slice aa ((List.take (Int.toNat n) (padZ (fileB f a) n)).length) ab]) (.c .z .n) (own_take' (by rw [padZ_len]; omega)) ?_
 refine Y.dk rfl rfl .g1 (q_sliceTake (b := (List.take (Int.toNat n) (padZ (fileB f a) n)).length) rfl u_22 sz_5 (.t .g1) (.t .z) (by omega)) ?_
 refine Y.dm rfl rfl .g1 .g14 ?_
 refine Y.call (goes_sch rfl rfl) rfl (by decide) rfl (c_call rfl Tryz.func69 rfl rfl (args4 (.t .g5) (.t .g4) (.t .g1) (.t .z))) .n (fun _ _ hs tr => c_69 (kT_27_mk f (tr.ctx ad) (tr.ctx ae)) _ (tr.own .z) (tr.ctx h3) (by assumption) (by first | assumption | (constructor <;> omega)) (by assumption)) ?_
 rintro _ _ ⟨bt, bu, rfl, rfl⟩
 refine Y.cat (.c (.c .n)) ?_
 refine Y.know (WS.oform .z) ?_
 rintro ⟨bi, bj, rfl, a8, a9, ba⟩
 refine Y.know (WS.oform .g1) ?_
 rintro ⟨bk, bm, rfl, bb, bc, bd⟩
 refine Y.sk .g3 ?_
 refine Y.es (goes_sch rfl rfl) rfl (esW rfl (.t .g12) (.t .z) .g3 sz_48 rfl rfl) ?_
 refine Y.sl rfl ?_
 refine Y.schN ?_
 refine Y.drawN (by kernel_rfl) ?_
 refine Y.then_ (Y.ret ?_)
 refine Y.doneS (resW rfl .g12 ag_48 .z sz_48) (.c .g1 (.c .g1 .n)) ?_
 first | (rw [cutR_f an]; exact ⟨_, _, rfl, rfl⟩) | (rw [cutR_3 am (by omega)]; exact ⟨_, _, rfl, rfl⟩) | (rw [cutR_0 am (by omega)]; exact ⟨_, _, rfl, rfl⟩)

end Go.Proofs.YtmejbfmhaoilmaaGreat

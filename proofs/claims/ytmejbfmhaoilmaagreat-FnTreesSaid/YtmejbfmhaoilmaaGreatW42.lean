/- What is proved: contracts of functions, one a function. No condition. -/
import Derived.Test.YtmejbfmhaoilmaaGreatBase1
import Derived.Test.YtmejbfmhaoilmaaGreatW40
import Derived.Test.YtmejbfmhaoilmaaGreatBase2
namespace Go.Proofs.YtmejbfmhaoilmaaGreat
open Go Go.RowKit
set_option linter.unusedVariables false
set_option linter.unusedSimpArgs false
set_option maxHeartbeats 1000000
set_option maxRecDepth 20000
theorem c_25 {w0 : World} {S0 : Bs} {f : DFs} {a3 : List Value} (h0 : kT_27.ro w0 (FF w0 S0) f a3) (a : Int) (i : Int) {L : (List UInt8)} {v3 : Value} (h3 : kSl_5.ro w0 (FF w0 S0) L [v3]) {b : (List Int)} {v4 : Value} (h4 : kSl_2.ro w0 (FF w0 S0) b [v4])  :
    Calls Tryz.prog 25 #[.agg a3.toArray, .int .i64 a, .int .i64 i, v3, v4] w0 (TriPost w0 S0 (RA_48 (writeR f a i L b))) := by
 obtain ⟨bx, bz, rfl, ad, ae⟩ := kT_27_ro h0
 obtain ⟨ag, ah, rfl, a4, a5, a6, a7⟩ := ro_form ad
 obtain ⟨ai, aj, rfl, a8, a9, ba, bb⟩ := ro_form ae
 obtain ⟨A3, c3, rfl, ce, cf, cg, b0⟩ := ro_form h3
 obtain ⟨A4, c4, rfl, ch, ci, cj, ck⟩ := ro_form h4
 refine Y.enter (N := 69) Tryz.func25 rfl rfl (by simp) [(0, .agg #[.slice ag f.inodes.length ah, .slice ai f.data.length aj]), (1, .int .i64 a), (2, .int .i64 i), (3, .slice A3 L.length c3), (4, .slice A4 b.length c4)] (by simp) (l0 := []) trivial ?_
 refine Y.seq (Y.region ?_)
 refine Y.el rfl (e_box (cs := [.slice ag f.inodes.length ah, .slice ai f.data.length aj]) (n := 2) rfl (.t .z) rfl rfl) ?_
 rintro _ _ ⟨g5, rfl, rfl⟩
 refine Y.el rfl (e_alloc rfl z_48 rfl rfl) ?_
 rintro _ _ ⟨g6, rfl, rfl⟩
 refine Y.nt (Y.seq (Y.seq (Y.region (Y.mv rfl .g3 (Y.mv rfl .g7 ?_)))))
 refine Y.cl rfl rfl Tryz.func66 rfl rfl (args3 (.t .g3) (.t .g1) (.t .z)) .n (fun _ _ hs tr => c_66 (tr.ptr .g1 (kT_27_mk f (tr.ctx ad) (tr.ctx ae))) _ (tr.ctx h4)) ?_
 rintro _ _ ⟨rfl, rfl⟩
 refine Y.cat .n ?_
 refine Y.as rfl .z (Y.nt (Y.seq (Y.region (Y.mv rfl .z (Y.ql rfl (q_neq rfl (.t .z) .c) (Y.nt ?_))))))
 refine Y.condN (.t .z) (fun b7 => ?_) (fun b7 => ?_)
 have aq : ¬ wcode f a b = 0 := b7
 refine Y.seq (Y.region (Y.mv rfl .g2 (Y.ql rfl (q_build (cs := [.int .i64 (wcode f a b), .slice none 0 0, .slice none 0 0]) rfl bl_48 (pv1 (.t .z)) rfl) ?_)))
 refine Y.es (goes_list rfl) rfl (esW rfl (.t .g8) (.t .z) .z sz_48 rfl rfl) ?_
 refine Y.nt (Y.ret (Y.thenR ?_))
 refine Y.add (c := ownA kSl_44 [] [.slice none 0 0]) (fun w S => own_nil w S none) ?_
 refine Y.add (c := ownA kSl_22 [] [.slice none 0 0]) (fun w S => own_nil w S none) ?_
 refine Y.doneS (resW rfl .g8 ag_48 .g2 sz_48) (.c .g1 (.c .z .n)) ?_
 first | (rw [writeR_f aq]; exact ⟨_, _, rfl, rfl⟩) | (rw [writeR_3 ac (by omega)]; exact ⟨_, _, rfl, rfl⟩) | (rw [writeR_2 ac (by omega) (by omega)]; exact ⟨_, _, rfl, rfl⟩) | (rw [writeR_e ac (by omega) (by omega) (by omega)]; exact ⟨_, _, rfl, rfl⟩) | (rw [writeR_0 ac (by omega) (by omega) (by omega)]; exact ⟨_, _, rfl, rfl⟩)
 have ac : wcode f a b = 0 := b7
 obtain ⟨hbc, hbz⟩ := wOk ac
 obtain ⟨hF, ⟨hpa, hpb⟩, cm, cn⟩ := bytesOk hbc
 have ht := fsTree hF
 have hI := treeI ht
 have hd := data_20 ht
 have hB := blocks_in hI a
 have hfl := fileB_len ht a
 refine Y.skip (Y.then_ (Y.seq (Y.seq (Y.region (Y.mv rfl .g10 ?_)))))
 refine Y.cl rfl rfl Tryz.func46 rfl rfl (args3 (.t .z) .c .c) .n (fun _ _ hs tr => c_46 _ _ _) ?_
 rintro _ _ ⟨rfl, rfl⟩
 refine Y.cat .n ?_
 refine Y.ql rfl (q_not rfl (.t .z)) (Y.nt ?_)
 refine Y.condN (.t .z) (fun b1 => ?_) (fun b1 => ?_)
 refine Y.seq (Y.region (Y.ql rfl (q_build (cs := [.int .i64 3, .slice none 0 0, .slice none 0 0]) rfl bl_48 (pv1 .c) rfl) ?_))
 refine Y.es (goes_list rfl) rfl (esW rfl (.t .g10) (.t .z) .z sz_48 rfl rfl) ?_
 refine Y.nt (Y.ret (Y.thenR ?_))
 refine Y.add (c := ownA kSl_44 [] [.slice none 0 0]) (fun w S => own_nil w S none) ?_
 refine Y.add (c := ownA kSl_22 [] [.slice none 0 0]) (fun w S => own_nil w S none) ?_
 refine Y.doneS (resW rfl .g10 ag_48 .g2 sz_48) (.c .g1 (.c .z .n)) ?_
 first | (rw [writeR_f aq]; exact ⟨_, _, rfl, rfl⟩) | (rw [writeR_3 ac (by omega)]; exact ⟨_, _, rfl, rfl⟩) | (rw [writeR_2 ac (by omega) (by omega)]; exact ⟨_, _, rfl, rfl⟩) | (rw [writeR_e ac (by omega) (by omega) (by omega)]; exact ⟨_, _, rfl, rfl⟩) | (rw [writeR_0 ac (by omega) (by omega) (by omega)]; exact ⟨_, _, rfl, rfl⟩)
 refine Y.skip (Y.then_ (Y.seq (Y.seq (Y.region (Y.mv rfl .g13 (Y.mv rfl .g15 (Y.ql rfl (q_len rfl u_22 (.t .z)) ?_)))))))
 refine Y.ql rfl (q_add (c := i + (L.length : Int)) rfl (.t .g2) (.t .z) (wr (by omega) (by omega) (by omega))) ?_
 refine Y.ql rfl (q_gtr rfl (.t .z) .c) (Y.nt ?_)
 refine Y.condP (.t .z) (fun b2 => ?_) (fun b2 => ?_)
 refine Y.seq (Y.region (Y.ql rfl (q_build (cs := [.int .i64 2, .slice none 0 0, .slice none 0 0]) rfl bl_48 (pv1 .c) rfl) ?_))
 refine Y.es (goes_list rfl) rfl (esW rfl (.t .g15) (.t .z) .z sz_48 rfl rfl) ?_
 refine Y.nt (Y.ret (Y.thenR ?_))
 refine Y.add (c := ownA kSl_44 [] [.slice none 0 0]) (fun w S => own_nil w S none) ?_
 refine Y.add (c := ownA kSl_22 [] [.slice none 0 0]) (fun w S => own_nil w S none) ?_
 refine Y.doneS (resW rfl .g15 ag_48 .g2 sz_48) (.c .g1 (.c .z .n)) ?_
 first | (rw [writeR_f aq]; exact ⟨_, _, rfl, rfl⟩) | (rw [writeR_3 ac (by omega)]; exact ⟨_, _, rfl, rfl⟩) | (rw [writeR_2 ac (by omega) (by omega)]; exact ⟨_, _, rfl, rfl⟩) | (rw [writeR_e ac (by omega) (by omega) (by omega)]; exact ⟨_, _, rfl, rfl⟩) | (rw [writeR_0 ac (by omega) (by omega) (by omega)]; exact ⟨_, _, rfl, rfl⟩)
 refine Y.skip (Y.then_ (Y.seq (Y.seq (Y.region (Y.mv rfl (.s16 .g3) (Y.ql rfl (q_len rfl u_22 (.t .z)) (Y.ql rfl (q_eql rfl (.t .z) .c) (Y.nil ?_))))))))
 refine Y.then_ ?_
 refine Y.condP (.t .z) (fun b3 => ?_) (fun b3 => ?_)
 refine Y.seq (Y.region (Y.ql rfl (qW rfl ag_27 (.t (.s16 .g2)) .g1 sz_27) ?_))
 refine Y.cl rfl rfl Tryz.func67 rfl rfl (args1 (.t .z)) .n (fun _ _ hs tr => c_67 (kT_27_mk f (tr.ctx ad) (tr.ctx ae))) ?_
 rintro _ _ ⟨co, cp, rfl, rfl⟩
 refine Y.cat (.c (.c .n)) ?_
 refine Y.know (WS.oform .z) ?_
 rintro ⟨aw, ax, rfl, bc, bd, be⟩
 refine Y.know (WS.oform .g1) ?_
 rintro ⟨ay, az, rfl, bf, bg, bh⟩
 refine Y.ql rfl (q_build (cs := [.int .i64 0, .slice aw f.inodes.length ax, .slice ay f.data.length az]) rfl bl_48 (pv1 (.t .z)) rfl) ?_
 refine Y.es (goes_list rfl) rfl (esW rfl (.t (.s16 .g4)) (.t .z) .g2 sz_48 rfl rfl) ?_
 refine Y.nt (Y.ret (Y.thenR ?_))
 refine Y.doneS (resW rfl (.s16 .g4) ag_48 .z sz_48) (.c .g1 (.c .g1 .n)) ?_
 first | (rw [writeR_f aq]; exact ⟨_, _, rfl, rfl⟩) | (rw [writeR_3 ac (by omega)]; exact ⟨_, _, rfl, rfl⟩) | (rw [writeR_2 ac (by omega) (by omega)]; exact ⟨_, _, rfl, rfl⟩) | (rw [writeR_e ac (by omega) (by omega) (by omega)]; exact ⟨_, _, rfl, rfl⟩) | (rw [writeR_0 ac (by omega) (by omega) (by omega)]; exact ⟨_, _, rfl, rfl⟩)
 refine Y.skip (Y.then_ (Y.seq (Y.region (Y.mv rfl (.s16 .g4) ?_))))
 refine Y.cl rfl rfl Tryz.func68 rfl rfl (args2 (.t (.s16 .g3)) (.t .z)) .n (fun _ _ hs tr => c_68 (tr.ptr .g1 (kT_27_mk f (tr.ctx ad) (tr.ctx ae))) _ (by assumption) (by first | assumption | (constructor <;> omega))) ?_
 rintro _ _ rfl
 refine Y.cat (.c .n) ?_
 refine Y.know (WS.oform .z) ?_
 rintro ⟨ak, al, rfl, bi, bj, bk⟩
 refine Y.as rfl .z (Y.nt (Y.seq (Y.block ?_)))
 have am : fileB f a = fileB f a ++ List.replicate 0 0 := (padz_0 _)
 refine Y.ceq .z am ?_
 refine Y.chEq .z (congrArg (fun z_ : Nat => (ownA kSl_5 (fileB f a ++ List.replicate 0 0) [.slice ak z_ al] : Asn)) (congrArg List.length am)) ?_
 refine Y.eq .z (congrArg (fun z_ : Nat => (.slice ak z_ al : Value)) (congrArg List.length am)) ?_
 refine Y.eq .g1 (congrArg (fun z_ : Nat => (.slice ak z_ al : Value)) (congrArg List.length am)) ?_
 refine Y.loopi (γ := Nat × (Option Addr) × Nat) (fun ⟨k, aa, ab⟩ => [(12, .slice aa (fileB f a ++ List.replicate k 0).length ab), (10, .pointer (some ⟨g6, 0, none⟩)), (5, .pointer (some ⟨g5, 0, none⟩)), (1, .int .i64 a), (2, .int .i64 i), (3, .slice A3 L.length c3), (4, .slice A4 b.length c4)]) (fun ⟨k, aa, ab⟩ => [ownA kSl_5 (fileB f a ++ List.replicate k 0) [.slice aa (fileB f a ++ List.replicate k 0).length ab], rowA g6 48 3 1 [.int .i64 0, .slice none 0 0, .slice none 0 0], rowA g5 27 2 1 [.slice ag f.inodes.length ah, .slice ai f.data.length aj]]) (fun ⟨k, aa, ab⟩ => k ≤ Int.toNat (i + (L.length : Int)) - (fileB f a).length) (fun ⟨k, aa, ab⟩ => Int.toNat (i + (L.length : Int)) - (fileB f a).length - k) (0, ak, al) (Nat.zero_le _) (.c .g1 (.c (.s16 .g4) (.c (.s16 .g5) (.c (.s16 .g7) (.c (.s16 .g8) (.c (.s16 .g9) (.c (.s16 .g10) .n))))))) (fun _ h => h.sel (.c .z (.c .z (.c .z .n)))) ?_
 rintro ⟨k, aa, ab⟩ hk
 have hpl := padz_len (L := fileB f a) (k := k)
 refine Y.seq (Y.seq (Y.region (Y.mv rfl .z (Y.ql rfl (q_len rfl u_22 (.t .z)) (Y.mv rfl .g6 (Y.mv rfl .g8 (Y.ql rfl (q_len rfl u_22 (.t .z)) ?_)))))))
 refine Y.ql rfl (q_add (c := i + (L.length : Int)) rfl (.t .g2) (.t .z) (wr (by omega) (by omega) (by omega))) ?_
 refine Y.ql rfl (q_lss rfl (.t .g4) (.t .z)) (Y.nt ?_)
 refine Y.condP (.t .z) (fun b4 => ?_) (fun b4 => ?_)
 refine Y.skip (Y.then_ (Y.block (Y.region (Y.mv rfl .g7 ?_))))
 refine Y.el rfl (e_buildSliceL (cs := [.int .u8 0]) rfl u_22 (inz inf_5) (by decide) (pv1 .c) rfl rfl (by decide) rfl rfl) ?_
 rintro _ _ ⟨g27, rfl, rfl⟩
 refine Y.add (c := ownA kbyte (0 : UInt8) [.int .u8 0]) (fun _ _ => ⟨rfl, trivial⟩) ?_
 refine Y.el rfl (e_append1 rfl u_22 inf_5 rfl (.t .g1) (.t .z) (.c .g2 (.c .g1 (.c .z .n))) (by first | omega | (simp <;> omega)) (by first | omega | (simp <;> omega))) ?_
 rintro _ _ rfl
 refine Y.ceq .z padz_s ?_
 refine Y.know (WS.oform .z) ?_
 rintro ⟨a0, a1, rfl, bm, bn, bo⟩
 refine Y.er .g10 (Y.as rfl .z (Y.nil (Y.inBN ?_)))
 refine Y.again ((k + 1), a0, a1) (by omega) (by first | omega | (dsimp only; omega)) (.c .z (.c .g11 (.c .g12 (.c .g13 (.c .g14 (.c .g15 (.c .g16 .n))))))) (fun _ h => h.sel (.c .z (.c .z (.c .z .n))))
 refine Y.exit (Y.thenE (Y.thenE (Y.inB (Y.then_ (Y.seq (Y.seq (Y.region (Y.ql rfl (q_assign rfl .c) ?_))))))))
 refine Y.nt (Y.block ?_)
 have af : fileB f a ++ List.replicate k 0 = padZ (fileB f a) (i + (L.length : Int)) := (padz_all (by omega) (by omega))
 refine Y.eq .g1 (congrArg (fun z_ => (.bool (decide (((z_).length : Int) < i + (L.length : Int))) : Value)) af) ?_
 refine Y.eq .g6 (congrArg (fun z_ => (.int .i64 ((z_).length : Int) : Value)) af) ?_
 refine Y.eq .g7 (congrArg (fun z_ => (.slice aa (z_).length ab : Value)) af) ?_
 refine Y.eq .g8 (congrArg (fun z_ => (.slice aa (z_).length ab : Value)) af) ?_
 refine Y.chEq .z (congrArg (fun z_ => (ownA kSl_5 (z_) [.slice aa (z_).length ab] : Asn)) af) ?_
 have hzl := @padZ_len (fileB f a) (i + (L.length : Int))
 refine Y.ceq (x' := putB (padZ (fileB f a) (i + (L.length : Int))) (Int.toNat i) L 0) .z (putB_0 _ _ _) ?_
 refine Y.loopi (γ := Nat) (fun q => [(12, .slice aa (padZ (fileB f a) (i + (L.length : Int))).length ab), (13, .int .i64 (q : Int)), (10, .pointer (some ⟨g6, 0, none⟩)), (5, .pointer (some ⟨g5, 0, none⟩)), (1, .int .i64 a), (2, .int .i64 i), (3, .slice A3 L.length c3), (4, .slice A4 b.length c4)]) (fun q => [ownA kSl_5 (putB (padZ (fileB f a) (i + (L.length : Int))) (Int.toNat i) L q) [.slice aa (padZ (fileB f a) (i + (L.length : Int))).length ab], rowA g6 48 3 1 [.int .i64 0, .slice none 0 0, .slice none 0 0], rowA g5 27 2 1 [.slice ag f.inodes.length ah, .slice ai f.data.length aj]]) (fun q => q ≤ L.length) (fun q => L.length - q) 0 (Nat.zero_le _) (.c .z (.c .g4 (.c .g9 (.c .g10 (.c .g11 (.c .g12 (.c .g13 (.c .g14 .n)))))))) (fun _ h => h.sel (.c .z (.c .z (.c .z .n)))) ?_
 rintro q hq
 have hpq : (putB (padZ (fileB f a) (i + (L.length : Int))) (Int.toNat i) L q).length = (padZ (fileB f a) (i + (L.length : Int))).length := putB_len (by omega) (by omega)
 refine Y.seq (Y.seq (Y.region (Y.mv rfl .g1 (Y.mv rfl .g7 (Y.ql rfl (q_len rfl u_22 (.t .z)) (Y.ql rfl (q_lss rfl (.t .g2) (.t .z)) (Y.nt ?_)))))))
 refine Y.condP (.t .z) (fun b5 => ?_) (fun b5 => ?_)
 refine Y.skip (Y.then_ (Y.seq (Y.block (Y.region (Y.mv rfl .g4 (Y.mv rfl .g10 (Y.mv rfl .g7 ?_)))))))
 refine Y.ql rfl (q_add (c := i + (q : Int)) rfl (.t .g1) (.t .z) (wr (by omega) (by omega) (by omega))) ?_
 refine Y.mv rfl .g14 (Y.mv rfl .g10 ?_)
 obtain ⟨b6, an, ao⟩ := b0 (by omega)
 subst an
 obtain ⟨bp, ap⟩ := get_ex (xs := L) (j := q) (by first | omega | (rw [hpq]; omega))
 obtain ⟨bq, ar, au, av⟩ := ao.elem ap
 obtain ⟨rfl, b8⟩ := ar
 refine Y.ql rfl (q_indexAddr (j := q) rfl u_22 sz_5 (.t .g1) (.t .z) rfl (by first | omega | (rw [hpq]; omega))) ?_
 refine Y.ql rfl (q_load rfl ag_5 (.t .z) (WS.el0 au av rfl)) ?_
 refine Y.know (WS.oad .z (by omega)) ?_
 rintro ⟨b9, rfl⟩
 refine Y.ql rfl (q_indexAddr (j := Int.toNat (i + (q : Int))) rfl u_22 sz_5 (.t .g7) (.t .g4) (by omega) (by first | omega | (rw [hpq]; omega))) ?_
 refine Y.add (c := ownA kbyte bp [.int .u8 (bp.toNat : Int)]) (fun _ _ => ⟨rfl, trivial⟩) ?_
 refine Y.es (goes_list rfl) rfl (es_set (j := Int.toNat (i + (q : Int))) rfl sz_5 (.t .z) (.t .g1) rfl (.c .g1 (.c .z .n)) (by first | omega | (rw [hpq]; omega))) ?_
 refine Y.ceq .z (by first | exact putB_s ap (by omega) | (rw [show Int.toNat (i + (q : Int)) = Int.toNat i + q by omega, putB_s ap (by omega)])) ?_
 refine Y.nil (Y.inBN (Y.then_ (Y.region (Y.mv rfl .g14 ?_))))
 refine Y.ql rfl (q_add (c := ((q + 1 : Nat) : Int)) rfl (.t .z) .c (wr (by omega) (by omega) (by omega))) ?_
 refine Y.er .g16 (Y.as rfl .z (Y.nil ?_))
 refine Y.again (q + 1) (by omega) (by first | omega | (dsimp only; omega)) (.c .g16 (.c .z (.c (.s16 .g1) (.c (.s16 .g2) (.c (.s16 .g3) (.c (.s16 .g4) (.c (.s16 .g5) (.c (.s16 .g6) .n)))))))) (fun _ h => h.sel (.c .z (.c .z (.c .z .n))))
 refine Y.exit (Y.thenE (Y.thenE (Y.inB (Y.then_ (Y.seq (Y.region (Y.ql rfl (qW rfl ag_27 (.t .g7) .g2 sz_27) (Y.mv rfl .g9 ?_))))))))
 refine Y.mv rfl .g6 (Y.mv rfl .g14 ?_)
 have a2 : putB (padZ (fileB f a) (i + (L.length : Int))) (Int.toNat i) L q = wroteB f a i L := (putB_all (by omega) (by omega))
 refine Y.chEq .z (congrArg (fun z_ => (ownA kSl_5 (z_) [.slice aa (padZ (fileB f a) (i + (L.length : Int))).length ab] : Asn)) a2) ?_
 refine Y.cl rfl rfl Tryz.func69 rfl rfl (args4 (.t .g3) (.t .g2) (.t .g1) (.t .z)) .n (fun _ _ hs tr => c_69 (kT_27_mk f (tr.ctx ad) (tr.ctx ae)) _ (tr.own .z) (tr.ctx h4) (by assumption) (by first | assumption | (constructor <;> omega)) (by assumption)) ?_
 rintro _ _ ⟨cq, cr, rfl, rfl⟩
 refine Y.cat (.c (.c .n)) ?_
 refine Y.know (WS.oform .z) ?_
 rintro ⟨ca, cb, rfl, br, bs, bt⟩
 refine Y.know (WS.oform .g1) ?_
 rintro ⟨cc, cd, rfl, bu, bv, bw⟩
 refine Y.es (goes_list rfl) rfl (esW rfl (.t .g11) (.t .z) .g3 sz_48 rfl rfl) ?_
 refine Y.nt (Y.ret ?_)
 refine Y.doneS (resW rfl .g11 ag_48 .z sz_48) (.c .g1 (.c .g1 .n)) ?_
 first | (rw [writeR_f aq]; exact ⟨_, _, rfl, rfl⟩) | (rw [writeR_3 ac (by omega)]; exact ⟨_, _, rfl, rfl⟩) | (rw [writeR_2 ac (by omega) (by omega)]; exact ⟨_, _, rfl, rfl⟩) | (rw [writeR_e ac (by omega) (by omega) (by omega)]; exact ⟨_, _, rfl, rfl⟩) | (rw [writeR_0 ac (by omega) (by omega) (by omega)]; exact ⟨_, _, rfl, rfl⟩)

end Go.Proofs.YtmejbfmhaoilmaaGreat

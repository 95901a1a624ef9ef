/- What is proved: contracts of functions, one a function. No condition. -/
import Derived.Test.YtmejbfmhaoilmaaGreatBase1
import Derived.Test.YtmejbfmhaoilmaaGreatW32
import Derived.Test.YtmejbfmhaoilmaaGreatBase2
import Derived.Test.YtmejbfmhaoilmaaGreatW11
namespace Go.Proofs.YtmejbfmhaoilmaaGreat
open Go Go.RowKit
set_option linter.unusedVariables false
set_option linter.unusedSimpArgs false
set_option maxHeartbeats 1000000
set_option maxRecDepth 20000
theorem c_66 {w0 : World} {S0 : Bs} {f : DFs} {aa : Addr} (h0 : PtrRo kT_27 w0 (FF w0 S0) aa f) (a : Int) {b : (List Int)} {v2 : Value} (h2 : kSl_2.ro w0 (FF w0 S0) b [v2])  :
    Calls Tryz.prog 66 #[.pointer (some aa), .int .i64 a, v2] w0 (TriPost w0 S0 (fun r l => r = .int .i64 (wcode f a b) ∧ l = [])) := by
 obtain ⟨au, av, al, aw⟩ := id h0
 obtain ⟨am, an, rfl, ab, ac⟩ := kT_27_ro al
 obtain ⟨ao, ap, rfl, ad, ae, af, ag⟩ := ro_form ab
 obtain ⟨aq, ar, rfl, ah, ai, aj, ak⟩ := ro_form ac
 obtain ⟨A2, c2, rfl, ax, ay, az, a0⟩ := ro_form h2
 refine Y.enter (N := 16) Tryz.func66 rfl rfl (by simp) [(0, .pointer (some aa)), (1, .int .i64 a), (2, .slice A2 b.length c2)] (by simp) (l0 := []) trivial ?_
 refine Y.seq (Y.region (Y.ql rfl (q_assign rfl .c) (Y.nt (Y.seq (Y.seq (Y.region (Y.mv rfl .g1 ?_)))))))
 refine Y.mv rfl .g3 ?_
 refine Y.cl rfl rfl Tryz.func113 rfl rfl (args2 (.t .g1) (.t .z)) .n (fun _ _ hs tr => c_113 (tr.ctxP h0) _) ?_
 rintro _ _ ⟨rfl, rfl⟩
 refine Y.cat .n ?_
 refine Y.as rfl .z (Y.nt (Y.seq (Y.region (Y.mv rfl .z (Y.ql rfl (q_neq rfl (.t .z) .c) (Y.nt ?_))))))
 refine Y.condN (.t .z) (fun b4 => ?_) (fun b4 => ?_)
 refine Y.seq (Y.region (Y.mv rfl .g2 (Y.er .g7 (Y.as rfl .z (Y.nt (Y.ret (Y.thenR ?_)))))))
 refine Y.doneS (res1 rfl .z) .n ?_
 exact ⟨by first | (rw [wcode_f (by assumption)]; done) | (rw [wcode_b (by assumption)]; done), rfl⟩
 refine Y.skip (Y.then_ (Y.seq (Y.region (Y.mv rfl .g9 ?_))))
 refine Y.cl rfl rfl Tryz.func114 rfl rfl (args1 (.t .z)) .n (fun _ _ hs tr => c_114 (tr.ctx h2)) ?_
 rintro _ _ ⟨rfl, rfl⟩
 refine Y.cat .n ?_
 refine Y.er .g8 (Y.as rfl .z (Y.nt (Y.ret ?_)))
 refine Y.doneS (res1 rfl .z) .n ?_
 exact ⟨by first | (rw [wcode_f (by assumption)]; done) | (rw [wcode_b (by assumption)]; done), rfl⟩

theorem c_69 {w0 : World} {S0 : Bs} {f : DFs} {bb : List Value} (h0 : kT_27.ro w0 (FF w0 S0) f bb) (a : Int) {L : (List UInt8)} {v2 : Value} (h2 : kSl_5.ro w0 (FF w0 S0) L [v2]) {b : (List Int)} {v3 : Value} (h3 : kSl_2.ro w0 (FF w0 S0) b [v3]) (ht : treeFault f = 0) (hp : placeIn f.inodes.length a) (hbz : busyFault b = 0) :
    Calls Tryz.prog 69 #[.agg bb.toArray, .int .i64 a, v2, v3] w0 (TriPost w0 S0 (RA_48 (setG f a L b))) := by
 obtain ⟨cg, ch, rfl, ah, ay⟩ := kT_27_ro h0
 obtain ⟨ai, aj, rfl, bc, bd, be, bf⟩ := ro_form ah
 obtain ⟨ak, al, rfl, bg, bh, bi, bj⟩ := ro_form ay
 obtain ⟨A2, c2, rfl, cx, cy, cz, c0⟩ := ro_form h2
 obtain ⟨A3, c3, rfl, c1, c4, c5, c6⟩ := ro_form h3
 have hI := treeI ht
 have hd := data_20 ht
 obtain ⟨hp1a, hp2a⟩ := hp
 have hB := blocks_in hI a
 have hpk : pickR f.inodes b (((L.length : Int) + 7) / 8) = pickB f L b := pickR_0 (ask_0 hI hbz)
 refine Y.enter (N := 104) Tryz.func69 rfl rfl (by simp) [(0, .agg #[.slice ai f.inodes.length aj, .slice ak f.data.length al]), (1, .int .i64 a), (2, .slice A2 L.length c2), (3, .slice A3 b.length c3)] (by simp) (l0 := []) trivial ?_
 refine Y.seq (Y.region ?_)
 refine Y.el rfl (e_box (cs := [.slice ai f.inodes.length aj, .slice ak f.data.length al]) (n := 2) rfl (.t .z) rfl rfl) ?_
 rintro _ _ ⟨g5, rfl, rfl⟩
 refine Y.el rfl (e_alloc rfl z_48 rfl rfl) ?_
 rintro _ _ ⟨g6, rfl, rfl⟩
 refine Y.nt (Y.seq (Y.seq (Y.region (Y.mv rfl .g4 (Y.ql rfl (q_len rfl u_22 (.t .z)) ?_)))))
 refine Y.cl rfl rfl Tryz.func71 rfl rfl (args1 (.t .z)) .n (fun _ _ hs tr => c_71 _) ?_
 rintro _ _ ⟨rfl, rfl⟩
 refine Y.cat .n ?_
 refine Y.ql rfl (q_not rfl (.t .z)) (Y.nt ?_)
 refine Y.condN (.t .z) (fun b7 => ?_) (fun b7 => ?_)
 refine Y.seq (Y.region (Y.ql rfl (q_build (cs := [.int .i64 2, .slice none 0 0, .slice none 0 0]) rfl bl_48 (pv1 .c) rfl) ?_))
 refine Y.es (goes_list rfl) rfl (esW rfl (.t .g5) (.t .z) .z sz_48 rfl rfl) ?_
 refine Y.nt (Y.ret (Y.thenR ?_))
 refine Y.add (c := ownA kSl_44 [] [.slice none 0 0]) (fun w S => own_nil w S none) ?_
 refine Y.add (c := ownA kSl_22 [] [.slice none 0 0]) (fun w S => own_nil w S none) ?_
 refine Y.doneS (resW rfl .g5 ag_48 .g2 sz_48) (.c .g1 (.c .z .n)) ?_
 first | (rw [setG_2 (by omega)]; exact ⟨_, _, rfl, rfl⟩) | (rw [setG_p (by omega) hpn]; exact ⟨_, _, rfl, rfl⟩) | (rw [setG_0 (by omega) hpc]; exact ⟨_, _, rfl, rfl⟩)
 refine Y.skip (Y.then_ ?_)
 refine Y.cut (γ := Nat × (Option Addr) × Nat) (fun ⟨gp, Ap, cp⟩ => [(8, .pointer (some ⟨g6, 0, none⟩)), (4, .pointer (some ⟨g5, 0, none⟩)), (1, .int .i64 a), (2, .slice A2 L.length c2), (9, .pointer (some ⟨gp, 0, none⟩))]) (fun ⟨gp, Ap, cp⟩ => [rowA gp 38 2 1 [.int .i64 ((pickR f.inodes b (((L.length : Int) + 7) / 8)).code), .slice Ap ((pickR f.inodes b (((L.length : Int) + 7) / 8)).list).length cp], ownA kSl_2 ((pickR f.inodes b (((L.length : Int) + 7) / 8)).list) [.slice Ap ((pickR f.inodes b (((L.length : Int) + 7) / 8)).list).length cp], rowA g6 48 3 1 [.int .i64 0, .slice none 0 0, .slice none 0 0], rowA g5 27 2 1 [.slice ai f.inodes.length aj, .slice ak f.data.length al]]) (fun ⟨gp, Ap, cp⟩ => True) ?_ ?_
 refine Y.dr .z 8 mixo ?_
 refine Y.sc (qs 0 5) (by kernel_rfl) ?_
 refine Y.df rfl rfl .z .g5 fa_27_0 (Y.dl rfl rfl .z ag_24 .z .g1 (Y.dm rfl rfl .z .g11 (Y.dm rfl rfl .z .g11 (Y.dk rfl rfl .z (q_len rfl u_22 (.t .z)) (Y.schN ?_)))))
 refine Y.fork2 (i := 5) (j := 7) (by kernel_rfl) ?_ ?_
 refine Y.call (goes_sch rfl rfl) rfl (by decide) rfl (c_call rfl Tryz.func117 rfl rfl (args1 (.t .z))) .n (fun _ _ hs tr => c_117 _ (by omega) (by omega)) ?_
 rintro _ _ ⟨rfl, rfl⟩
 refine Y.cat .n ?_
 refine Y.sk .z ?_
 refine Y.schN ?_
 refine Y.sc [] (by kernel_rfl) ?_
 refine Y.schN ?_
 refine Y.fork2 (i := 6) (j := 7) (by kernel_rfl) ?_ ?_
 refine Y.call (goes_sch rfl rfl) rfl (by decide) rfl (c_call rfl Tryz.func116 rfl rfl (args3 (.t .g4) (.t .g3) (.t .z))) .n (fun _ _ hs tr => c_116 (tr.ctx ah) (tr.ctx h3) _) ?_
 rintro _ _ ⟨c7, rfl, rfl⟩
 refine Y.cat (.c .n) ?_
 refine Y.know (WS.oform .z) ?_
 rintro ⟨a3, a4, rfl, bk, bm, bn⟩
 refine Y.sk .g1 ?_
 refine Y.schN ?_
 refine Y.sc [(7, false), (8, false)] (by kernel_rfl) ?_
 refine Y.e (goes_sch rfl rfl) rfl (by decide) rfl (e_alloc rfl z_38 rfl rfl) ?_
 rintro _ _ ⟨g13, rfl, rfl⟩
 refine Y.sk .g2 ?_
 refine Y.es (goes_sch rfl rfl) rfl (esW rfl (.t .z) (.t .g1) .z sz_38 rfl rfl) ?_
 refine Y.sl rfl ?_
 refine Y.schN ?_
 refine Y.drawN (by kernel_rfl) ?_
 exact Y.meet (g13, a3, a4) trivial (.c .g12 (.c .g13 (.c .g15 (.c .g16 (.c .z .n))))) (fun _ h => h.sel (.c .z (.c .z (.c .z (.c .z .n)))))
 refine Y.e (goes_sch rfl rfl) rfl (by decide) rfl (e_alloc rfl z_38 rfl rfl) ?_
 rintro _ _ ⟨g14, rfl, rfl⟩
 refine Y.sk .g1 ?_
 refine Y.schN ?_
 refine Y.sc [(6, false), (8, false)] (by kernel_rfl) ?_
 refine Y.call (goes_sch rfl rfl) rfl (by decide) rfl (c_call rfl Tryz.func116 rfl rfl (args3 (.t .g5) (.t .g4) (.t .g1))) .n (fun _ _ hs tr => c_116 (tr.ctx ah) (tr.ctx h3) _) ?_
 rintro _ _ ⟨c8, rfl, rfl⟩
 refine Y.cat (.c .n) ?_
 refine Y.know (WS.oform .z) ?_
 rintro ⟨a5, a6, rfl, bo, bp, bq⟩
 refine Y.sk .g2 ?_
 refine Y.es (goes_sch rfl rfl) rfl (esW rfl (.t .g1) (.t .z) .g1 sz_38 rfl rfl) ?_
 refine Y.sl rfl ?_
 refine Y.schN ?_
 refine Y.drawN (by kernel_rfl) ?_
 exact Y.meet (g14, a5, a6) trivial (.c .g12 (.c .g13 (.c .g15 (.c .g16 (.c .g1 .n))))) (fun _ h => h.sel (.c .z (.c .z (.c .z (.c .z .n)))))
 refine Y.e (goes_sch rfl rfl) rfl (by decide) rfl (e_alloc rfl z_38 rfl rfl) ?_
 rintro _ _ ⟨g18, rfl, rfl⟩
 refine Y.sk .g1 ?_
 refine Y.schN ?_
 refine Y.sc [(5, false), (6, false), (8, false)] (by kernel_rfl) ?_
 refine Y.call (goes_sch rfl rfl) rfl (by decide) rfl (c_call rfl Tryz.func117 rfl rfl (args1 (.t .g1))) .n (fun _ _ hs tr => c_117 _ (by omega) (by omega)) ?_
 rintro _ _ ⟨rfl, rfl⟩
 refine Y.cat .n ?_
 refine Y.sk .g1 ?_
 refine Y.call (goes_sch rfl rfl) rfl (by decide) rfl (c_call rfl Tryz.func116 rfl rfl (args3 (.t .g5) (.t .g4) (.t .z))) .n (fun _ _ hs tr => c_116 (tr.ctx ah) (tr.ctx h3) _) ?_
 rintro _ _ ⟨c9, rfl, rfl⟩
 refine Y.cat (.c .n) ?_
 refine Y.know (WS.oform .z) ?_
 rintro ⟨a7, a8, rfl, br, bt, bu⟩
 refine Y.sk .g2 ?_
 refine Y.es (goes_sch rfl rfl) rfl (esW rfl (.t .g2) (.t .z) .g1 sz_38 rfl rfl) ?_
 refine Y.sl rfl ?_
 refine Y.schN ?_
 refine Y.drawN (by kernel_rfl) ?_
 exact Y.meet (g18, a7, a8) trivial (.c .g12 (.c .g13 (.c .g15 (.c .g16 (.c .g2 .n))))) (fun _ h => h.sel (.c .z (.c .z (.c .z (.c .z .n)))))
 rintro ⟨gp, Ap, cp⟩ -
 refine Y.seq (Y.seq (Y.region (Y.fa rfl .g4 fa_38_0 (Y.ld rfl ag_2 .z .z (Y.ql rfl (q_neq rfl (.t .z) .c) (Y.nt ?_))))))
 refine Y.condN (.t .z) (fun az => ?_) (fun az => ?_)
 rw [hpk] at az
 have ar : (pickR f.inodes b (((L.length : Int) + 7) / 8)) = (pickB f L b) := hpk
 refine Y.eq .z (congrArg (fun z_ : RInts => (.bool (!decide (z_.code = 0)) : Value)) ar) ?_
 refine Y.eq .g1 (congrArg (fun z_ : RInts => (.int .i64 (z_.code) : Value)) ar) ?_
 refine Y.chEq .z (congrArg (fun z_ : RInts => (rowA gp 38 2 1 [.int .i64 (z_.code), .slice Ap (z_.list).length cp] : Asn)) ar) ?_
 refine Y.chEq .g1 (congrArg (fun z_ : RInts => (ownA kSl_2 (z_.list) [.slice Ap (z_.list).length cp] : Asn)) ar) ?_
 have hpn : ¬ (pickB f L b).code = 0 := az
 refine Y.seq (Y.region (Y.fa rfl .g7 fa_38_0 (Y.ld rfl ag_2 .z .g1 (Y.ql rfl (q_build (cs := [.int .i64 ((pickB f L b).code), .slice none 0 0, .slice none 0 0]) rfl bl_48 (pv1 (.t .z)) rfl) ?_))))
 refine Y.es (goes_list rfl) rfl (esW rfl (.t .g6) (.t .z) .g2 sz_48 rfl rfl) ?_
 refine Y.nt (Y.ret (Y.thenR ?_))
 refine Y.add (c := ownA kSl_44 [] [.slice none 0 0]) (fun w S => own_nil w S none) ?_
 refine Y.add (c := ownA kSl_22 [] [.slice none 0 0]) (fun w S => own_nil w S none) ?_
 refine Y.doneS (resW rfl .g6 ag_48 .g2 sz_48) (.c .g1 (.c .z .n)) ?_
 first | (rw [setG_2 (by omega)]; exact ⟨_, _, rfl, rfl⟩) | (rw [setG_p (by omega) hpn]; exact ⟨_, _, rfl, rfl⟩) | (rw [setG_0 (by omega) hpc]; exact ⟨_, _, rfl, rfl⟩)
 rw [hpk] at az
 have au : (pickR f.inodes b (((L.length : Int) + 7) / 8)) = (pickB f L b) := hpk
 refine Y.eq .z (congrArg (fun z_ : RInts => (.bool (!decide (z_.code = 0)) : Value)) au) ?_
 refine Y.eq .g1 (congrArg (fun z_ : RInts => (.int .i64 (z_.code) : Value)) au) ?_
 refine Y.chEq .z (congrArg (fun z_ : RInts => (rowA gp 38 2 1 [.int .i64 (z_.code), .slice Ap (z_.list).length cp] : Asn)) au) ?_
 refine Y.chEq .g1 (congrArg (fun z_ : RInts => (ownA kSl_2 (z_.list) [.slice Ap (z_.list).length cp] : Asn)) au) ?_
 have hpc : (pickB f L b).code = 0 := az
 have hpi := pick_in hpc
 have hpl : ((pickB f L b).list.length : Int) = ((L.length : Int) + 7) / 8 := hpi.2
 refine Y.skip (Y.then_ (Y.seq (Y.region (Y.ql rfl (qW rfl ag_27 (.t .g4) .g3 sz_27) ?_))))
 refine Y.cl rfl rfl Tryz.func67 rfl rfl (args1 (.t .z)) .n (fun _ _ hs tr => c_67 (kT_27_mk f (tr.ctx ah) (tr.ctx ay))) ?_
 rintro _ _ ⟨da, db, rfl, rfl⟩
 refine Y.cat (.c (.c .n)) ?_
 refine Y.know (WS.oform .z) ?_
 rintro ⟨ci, ae, rfl, bv, bw, bx⟩
 refine Y.know (WS.oform .g1) ?_
 rintro ⟨am, an, rfl, bz, b0, b1⟩
 refine Y.el rfl (e_alloc rfl z_27 rfl rfl) ?_
 rintro _ _ ⟨g33, rfl, rfl⟩
 refine Y.es (goes_list rfl) rfl (esW rfl (.t .z) (.t .g1) .z sz_27 rfl rfl) ?_
 refine Y.nt (Y.seq (Y.region (Y.fa rfl .z fa_27_0 (Y.ld rfl ag_24 .z .z (Y.mv rfl .g10 ?_)))))
 refine Y.open (.c .g1 .n) own_raw ?_
 rintro ab ao
 obtain ⟨aa, ap⟩ := get_ex (xs := f.inodes) (j := Int.toNat a) (by first | omega | (rw [hdl]; omega) | (rw [hsl]; omega))
 obtain ⟨dc, ad⟩ := get_ex (xs := ab) (j := Int.toNat a) (by rw [ao]; exact (List.getElem?_eq_some_iff.1 ap).1)
 refine Y.turn .g1 (seq_split ap ad) ?_
 refine Y.open (.c .z .n) kT_44_op ?_
 rintro ⟨dd, dg⟩ rfl
 refine Y.know (WS.oform .z) ?_
 rintro ⟨a0, a1, rfl, b2, b3, b4⟩
 refine Y.know (WS.oform .g1) ?_
 rintro ⟨af, ag, rfl, b5, b6, b8⟩
 have av := blocks_at (a := a) ap (by omega)
 have a2 : ∀ b, b ∈ aa.blocks → 0 ≤ b ∧ b ≤ 19 := by rw [← av]; exact hB
 refine Y.know (WS.oad .g4 (by omega)) ?_
 rintro ⟨ac, rfl⟩
 refine Y.ql rfl (q_indexAddr (j := Int.toNat a) rfl u_24 sz_44 (.t .g1) (.t .z) (by omega) (by first | omega | (rw [hdl]; omega) | (rw [hsl]; omega))) ?_
 refine Y.as rfl .z (Y.nt (Y.seq (Y.seq (Y.region (Y.ql rfl (q_assign rfl .c) (Y.nt ?_))))))
 refine Y.block ?_
 refine Y.ceq (x' := dropB f.data aa.blocks 0) .g6 rfl ?_
 refine Y.loopi (γ := Nat) (fun k => [(12, .int .i64 (k : Int)), (11, .pointer (some (Addr.add ac ((Int.toNat a) * 5)))), (10, .pointer (some ⟨g33, 0, none⟩)), (8, .pointer (some ⟨g6, 0, none⟩)), (2, .slice A2 L.length c2), (9, .pointer (some ⟨gp, 0, none⟩))]) (fun k => [ownA kSl_22 (dropB f.data aa.blocks k) [.slice am f.data.length an], ownA kSl_2 aa.blocks [.slice a0 aa.blocks.length a1], ownA kSl_46 aa.ents [.slice af aa.ents.length ag], seqC kT_44 (List.take (Int.toNat a) f.inodes) (List.take (Int.toNat a) ab), seqC kT_44 (List.drop (Int.toNat a + 1) f.inodes) (List.drop (Int.toNat a + 1) ab), ownA (kslice 44 72 (kraw kT_44.sz kT_44.pos)) ab [.slice (some ac) f.inodes.length ae], rowA g33 27 2 1 [.slice (some ac) f.inodes.length ae, .slice am f.data.length an], ownA kSl_2 ((pickB f L b).list) [.slice Ap ((pickB f L b).list).length cp], rowA gp 38 2 1 [.int .i64 ((pickB f L b).code), .slice Ap ((pickB f L b).list).length cp], rowA g6 48 3 1 [.int .i64 0, .slice none 0 0, .slice none 0 0], rowA g5 27 2 1 [.slice ai f.inodes.length aj, .slice ak f.data.length al]]) (fun k => k ≤ aa.blocks.length) (fun k => aa.blocks.length - k) 0 (Nat.zero_le _) (.c .z (.c .g1 (.c .g6 (.c .g12 (.c .g15 (.c .g16 .n)))))) (fun _ h => h.sel (.c .z (.c .z (.c .z (.c .z (.c .z (.c .z (.c .z (.c .z (.c .z (.c .z (.c .z .n)))))))))))) ?_
 rintro k hk
 have hdl := dropB_len (data := f.data) (bs := aa.blocks) k
 refine Y.seq (Y.seq (Y.region (Y.mv rfl .z (Y.mv rfl .g2 (Y.nc rfl .z (Y.fa rfl .z fa_44_3 (Y.ql rfl (q_load rfl ag_36 (.t .z) (WS.raw .g5 ad rfl)) (Y.ql rfl (q_len rfl u_36 (.t .z)) ?_))))))))
 refine Y.ql rfl (q_lss rfl (.t .g5) (.t .z)) (Y.nt ?_)
 refine Y.condP (.t .z) (fun cj => ?_) (fun cj => ?_)
 refine Y.skip (Y.then_ (Y.seq (Y.block ?_)))
 refine Y.dr .z 10 mixo ?_
 refine Y.sc (qs 0 10 ++ [(10, false)]) (by kernel_rfl) ?_
 refine Y.df rfl rfl .z .g9 fa_27_1 (Y.dl rfl rfl .z ag_25 .z .g6 (Y.dm rfl rfl .z .g10 (Y.dn rfl rfl .z .z (Y.df rfl rfl .z .z fa_44_3 (Y.dk rfl rfl .z (q_load rfl ag_36 (.t .z) (WS.raw .g5 ad rfl)) (Y.dm rfl rfl .z .g13 ?_))))))
 refine Y.know (WS.oad .g1 (by omega)) ?_
 rintro ⟨ck, rfl⟩
 refine Y.dk rfl rfl .z (q_indexAddr (j := k) rfl u_36 sz_2 (.t .g1) (.t .z) rfl (by first | omega | (rw [hdl]; omega) | (rw [hsl]; omega))) ?_
 obtain ⟨b9, ax⟩ := get_ex (xs := aa.blocks) (j := k) (by first | omega | (rw [hdl]; omega) | (rw [hsl]; omega))
 have ca := a2 _ (List.mem_of_getElem? ax)
 refine Y.dk rfl rfl .z (q_load rfl ag_2 (.t .z) (WS.oel .g1 ax)) ?_
 refine Y.know (WS.oad .z (by omega)) ?_
 rintro ⟨cm, rfl⟩
 refine Y.dk rfl rfl .z (q_indexAddr (j := Int.toNat b9) rfl u_25 sz_22 (.t .g7) (.t .z) (by omega) (by first | omega | (rw [hdl]; omega) | (rw [hsl]; omega))) ?_
 refine Y.add (c := ownA kSl_5 [] [.slice none 0 0]) (fun w S => own_nil w S none) ?_
 refine Y.es (goes_sch rfl rfl) rfl (es_set (j := Int.toNat b9) rfl sz_22 (.t .z) .c rfl (.c .g1 (.c .z .n)) (by first | omega | (rw [hdl]; omega) | (rw [hsl]; omega))) ?_
 refine Y.ceq .z (dropB_s ax) ?_
 refine Y.sl rfl ?_
 refine Y.schN ?_
 refine Y.drawN (by kernel_rfl) ?_
 refine Y.inBN (Y.then_ (Y.region (Y.mv rfl (.s16 .g1) ?_)))
 refine Y.ql rfl (q_add (c := ((k + 1 : Nat) : Int)) rfl (.t .z) .c (wr (by omega) (by omega) (by omega))) ?_
 refine Y.er (.s16 .g3) (Y.as rfl .z (Y.nil ?_))
 refine Y.again (k + 1) (by omega) (by first | omega | (dsimp only; omega)) (.c .z (.c (.s16 .g4) (.c (.s16 .g5) (.c (.s16 .g6) (.c (.s16 .g7) (.c (.s16 .g8) .n)))))) (fun _ h => h.sel (.c .z (.c .z (.c .z (.c .z (.c .z (.c .z (.c .z (.c .z (.c .z (.c .z (.c .z .n))))))))))))
 refine Y.exit (Y.thenE (Y.thenE (Y.inB (Y.then_ (Y.seq (Y.region (Y.mv rfl .g8 (Y.fa rfl .g13 fa_38_1 ?_))))))))
 refine Y.ld rfl ag_36 .z .g8 (Y.nc rfl .g2 (Y.fa rfl .z fa_44_3 ?_))
 refine Y.es (goes_list rfl) rfl (es_raw (j := Int.toNat a) (off := 3) (cs := [.slice Ap ((pickB f L b).list).length cp]) rfl sz_36 (.t .z) (add_add _ _ _) (.t .g2) rfl (ones rfl) .g5 ad (Nat.le_of_ble_eq_true rfl)) ?_
 refine Y.ceq (x' := List.set ab (Int.toNat a) [.int .i64 aa.kind, .int .i64 aa.links, .int .i64 aa.size, .slice Ap ((pickB f L b).list).length cp, .slice af aa.ents.length ag]) .z rfl ?_
 refine Y.nt (Y.seq (Y.region (Y.mv rfl .g13 (Y.mv rfl (.s16 .g1) (Y.ql rfl (q_len rfl u_22 (.t .z)) (Y.nc rfl .g2 (Y.fa rfl .z fa_44_2 ?_)))))))
 refine Y.es (goes_list rfl) rfl (es_raw (j := Int.toNat a) (off := 2) (cs := [.int .i64 (L.length : Int)]) rfl sz_2 (.t .z) (add_add _ _ _) (.t .g2) rfl (ones rfl) .z (set_get ad) (Nat.le_of_ble_eq_true rfl)) ?_
 refine Y.ceq (x' := List.set ab (Int.toNat a) [.int .i64 aa.kind, .int .i64 aa.links, .int .i64 (L.length : Int), .slice Ap ((pickB f L b).list).length cp, .slice af aa.ents.length ag]) .z (List.set_set ..) ?_
 refine Y.nt (Y.seq (Y.seq (Y.region (Y.ql rfl (q_assign rfl .c) (Y.nt (Y.block ?_))))))
 refine Y.ceq (x' := dropAll f a) .g1 (by unfold dropAll; rw [av, show k = aa.blocks.length by omega]) ?_
 refine Y.ceq (x' := setD (dropAll f a) (pickB f L b).list L 0) .z rfl ?_
 refine Y.loopi (γ := Nat) (fun q => [(13, .int .i64 (q : Int)), (11, .pointer (some (Addr.add ac ((Int.toNat a) * 5)))), (10, .pointer (some ⟨g33, 0, none⟩)), (8, .pointer (some ⟨g6, 0, none⟩)), (2, .slice A2 L.length c2)]) (fun q => [ownA kSl_22 (setD (dropAll f a) (pickB f L b).list L q) [.slice am f.data.length an], ownA (kslice 44 72 (kraw kT_44.sz kT_44.pos)) (List.set ab (Int.toNat a) [.int .i64 aa.kind, .int .i64 aa.links, .int .i64 (L.length : Int), .slice Ap ((pickB f L b).list).length cp, .slice af aa.ents.length ag]) [.slice (some ac) f.inodes.length ae], ownA kSl_2 aa.blocks [.slice a0 aa.blocks.length a1], ownA kSl_46 aa.ents [.slice af aa.ents.length ag], seqC kT_44 (List.take (Int.toNat a) f.inodes) (List.take (Int.toNat a) ab), seqC kT_44 (List.drop (Int.toNat a + 1) f.inodes) (List.drop (Int.toNat a + 1) ab), rowA g33 27 2 1 [.slice (some ac) f.inodes.length ae, .slice am f.data.length an], ownA kSl_2 ((pickB f L b).list) [.slice Ap ((pickB f L b).list).length cp], rowA gp 38 2 1 [.int .i64 ((pickB f L b).code), .slice Ap ((pickB f L b).list).length cp], rowA g6 48 3 1 [.int .i64 0, .slice none 0 0, .slice none 0 0], rowA g5 27 2 1 [.slice ai f.inodes.length aj, .slice ak f.data.length al]]) (fun q => q ≤ (pickB f L b).list.length) (fun q => (pickB f L b).list.length - q) 0 (Nat.zero_le _) (.c .z (.c (.s16 .g3) (.c (.s16 .g4) (.c (.s16 .g5) (.c (.s16 .g6) .n))))) (fun _ h => h.sel (.c .z (.c .z (.c .z (.c .z (.c .z (.c .z (.c .z (.c .z (.c .z (.c .z (.c .z .n)))))))))))) ?_
 rintro q hq
 have hsl := (setD_len (data := dropAll f a) (bs := (pickB f L b).list) (L := L) q).trans (dropB_len _)
 refine Y.seq (Y.seq (Y.region (Y.mv rfl .z (Y.mv rfl .g2 (Y.nc rfl .z (Y.fa rfl .z fa_44_3 (Y.ql rfl (q_load rfl ag_36 (.t .z) (WS.raw .g1 (set_get ad) rfl)) (Y.ql rfl (q_len rfl u_36 (.t .z)) ?_))))))))
 refine Y.ql rfl (q_lss rfl (.t .g5) (.t .z)) (Y.nt ?_)
 refine Y.condP (.t .z) (fun cn => ?_) (fun cn => ?_)
 refine Y.skip (Y.then_ (Y.seq (Y.block (Y.seq (Y.region (Y.mv rfl .g8 (Y.nc rfl .z (Y.fa rfl .z fa_44_2 ?_))))))))
 refine Y.ql rfl (q_load rfl ag_2 (.t .z) (WS.raw .g1 (set_get ad) rfl)) (Y.mv rfl .g11 ?_)
 refine Y.ql rfl (q_add (c := ((q + 1 : Nat) : Int)) rfl (.t .z) .c (wr (by omega) (by omega) (by omega))) ?_
 refine Y.ql rfl (q_mul (c := (((q + 1) * 8 : Nat) : Int)) rfl (.t .z) .c (wr (by omega) (by omega) (by omega))) ?_
 refine Y.cl rfl rfl Tryz.func47 rfl rfl (args2 (.t .g3) (.t .z)) .n (fun _ _ hs tr => c_47 _ _) ?_
 rintro _ _ ⟨rfl, rfl⟩
 refine Y.cat .n ?_
 have co := minI_spec (L.length : Int) (((q + 1) * 8 : Nat) : Int)
 refine Y.as rfl .z (Y.nt ?_)
 refine Y.sel (.c .z (.c .g2 (.c .z (.c .z (.c .z (.c .z (.c .z (.c .z (.c .z (.c .z (.c .z .n))))))))))) ?_
 refine Y.dr .g2 17 mixo ?_
 refine Y.sc (qs 0 9 ++ qs 10 5 ++ [(9, false), (15, false), (16, true), (17, false)]) (by kernel_rfl) ?_
 refine Y.df rfl rfl .g2 (.s16 .g2) fa_27_1 (Y.dl rfl rfl .g2 ag_25 .z .g4 (Y.dm rfl rfl .g2 (.s16 .g3) (Y.dn rfl rfl .g2 .z (Y.df rfl rfl .g2 .z fa_44_3 (Y.dk rfl rfl .g2 (q_load rfl ag_36 (.t .z) (WS.raw .z (set_get ad) rfl)) (Y.dm rfl rfl .g2 (.s16 .g6) ?_))))))
 refine Y.know (WS.oad .g7 (by omega)) ?_
 rintro ⟨cq, rfl⟩
 refine Y.dk rfl rfl .g2 (q_indexAddr (j := q) rfl u_36 sz_2 (.t .g1) (.t .z) rfl (by first | omega | (rw [hdl]; omega) | (rw [hsl]; omega))) ?_
 obtain ⟨cb, aq⟩ := get_ex (xs := (pickB f L b).list) (j := q) (by first | omega | (rw [hdl]; omega) | (rw [hsl]; omega))
 have cc := hpi.1 _ (List.mem_of_getElem? aq)
 refine Y.dk rfl rfl .g2 (q_load rfl ag_2 (.t .z) (WS.oel .g5 aq)) (Y.dm rfl rfl .g2 (.s16 .g13) (Y.dm rfl rfl .g2 (.s16 .g10) ?_))
 refine Y.dk rfl rfl .g2 (q_mul (c := ((q * 8 : Nat) : Int)) rfl (.t .z) .c (wr (by omega) (by omega) (by omega))) ?_
 refine Y.dm rfl rfl .g2 .g12 ?_
 refine Y.eq .z (congrArg (Value.int .i64) (show minI (L.length : Int) (((q + 1) * 8 : Nat) : Int) = ((Int.toNat (minI (L.length : Int) (((q + 1) * 8 : Nat) : Int)) : Nat) : Int) by omega)) ?_
 obtain ⟨cr, aw⟩ : ∃ A' : Option Addr, A' = (if c2 = q * 8 then A2 else Option.map (fun z => Addr.add z ((q * 8) * 1)) A2) := ⟨_, rfl⟩
 have a9 := ro_sub (a := q * 8) (b := Int.toNat (minI (L.length : Int) (((q + 1) * 8 : Nat) : Int))) aw h2 (by omega) (by omega)
 have ct := subL_len (xs := L) (a := q * 8) (b := Int.toNat (minI (L.length : Int) (((q + 1) * 8 : Nat) : Int))) (by omega)
 refine Y.dk rfl rfl .g2 (q_sliceL (a := q * 8) (b := Int.toNat (minI (L.length : Int) (((q + 1) * 8 : Nat) : Int))) rfl u_22 sz_5 (.t .g3) aw (.inr ⟨_, _, rfl, (.t .g1)⟩) (.inr ⟨_, _, rfl, (.t .z)⟩) (by omega) (by omega) (by omega)) ?_
 refine Y.e (goes_sch rfl rfl) rfl (by decide) rfl (e_buildNil rfl u_22 (inz inf_5)) ?_
 rintro _ _ ⟨g56, rfl, rfl⟩
 refine Y.sk .g3 ?_
 refine Y.add (c := ownA kSl_5 ([] : (List UInt8)) [.slice (some ⟨g56, 0, none⟩) 0 0]) (fun w S => own_nil w S _) ?_
 refine Y.e (goes_sch rfl rfl) rfl (by decide) rfl (e_appendF (flat_scalar _ _ _) rfl u_22 inf_5 rfl (.t .z) (.t .g1) (.c .z .n) (fun w1 S1 tr => tr.ctx a9) (by first | omega | (simp only [List.length_append, List.length_take, List.length_nil, List.length_cons]; omega)) (by first | omega | (simp only [List.length_append, List.length_take, List.length_nil, List.length_cons]; omega))) ?_
 rintro _ _ rfl
 refine Y.ceq .z (List.nil_append _) ?_
 refine Y.know (WS.oform .z) ?_
 rintro ⟨cu, cv, rfl, cd, ce, cf⟩
 refine Y.sk .g4 ?_
 refine Y.know (WS.oad .g2 (by omega)) ?_
 rintro ⟨cw, rfl⟩
 refine Y.dk rfl rfl .g4 (q_indexAddr (j := Int.toNat cb) rfl u_25 sz_22 (.t .g14) (.t .g7) (by omega) (by first | omega | (rw [hdl]; omega) | (rw [hsl]; omega))) ?_
 refine Y.es (goes_sch rfl rfl) rfl (es_set (j := Int.toNat cb) rfl sz_22 (.t .z) (.t .g1) rfl (.c .g2 (.c .z .n)) (by first | omega | (rw [hdl]; omega) | (rw [hsl]; omega))) ?_
 refine Y.ceq .z (by first | exact setD_s aq | rw [share_eq, setD_s aq] | rw [share_eq', setD_s aq]) ?_
 refine Y.sl rfl ?_
 refine Y.schN ?_
 refine Y.drawN (by kernel_rfl) ?_
 refine Y.inBN (Y.then_ (Y.region (Y.mv rfl (.s16 (.s16 .g1)) ?_)))
 refine Y.ql rfl (q_add (c := ((q + 1 : Nat) : Int)) rfl (.t .z) .c (wr (by omega) (by omega) (by omega))) ?_
 refine Y.er (.s16 (.s16 .g3)) (Y.as rfl .z (Y.nil ?_))
 refine Y.again (q + 1) (by omega) (by first | omega | (dsimp only; omega)) (.c .z (.c (.s16 (.s16 .g4)) (.c (.s16 (.s16 .g5)) (.c (.s16 (.s16 .g6)) (.c (.s16 (.s16 .g7)) .n))))) (fun _ h => h.sel (.c .z (.c .g2 (.c .g2 (.c .g1 (.c .g1 (.c .g1 (.c .g1 (.c .g1 (.c .g1 (.c .g1 (.c .g1 .n))))))))))))
 refine Y.exit (Y.thenE (Y.thenE (Y.inB (Y.then_ (Y.seq (Y.region (Y.ql rfl (qW rfl ag_27 (.t .g9) .g6 sz_27) (Y.ql rfl (q_build (cs := [.int .i64 0, .slice (some ac) f.inodes.length ae, .slice am f.data.length an]) rfl bl_48 (pv1 (.t .z)) rfl) ?_))))))))
 refine Y.es (goes_list rfl) rfl (esW rfl (.t .g12) (.t .z) .g9 sz_48 rfl rfl) ?_
 refine Y.nt (Y.ret ?_)
 refine Y.turns (c := ownA kT_44 (⟨aa.kind, aa.links, (L.length : Int), (pickB f L b).list, aa.ents⟩ : DInode) [.int .i64 aa.kind, .int .i64 aa.links, .int .i64 (L.length : Int), .slice Ap ((pickB f L b).list).length cp, .slice af aa.ents.length ag]) (.c .g8 (.c .g4 .n)) (fun w S h => kT_44_omk (⟨aa.kind, aa.links, (L.length : Int), (pickB f L b).list, aa.ents⟩ : DInode) h) ?_
 refine Y.turns (c := ownA kSl_44 (List.set f.inodes (Int.toNat a) (⟨aa.kind, aa.links, (L.length : Int), (pickB f L b).list, aa.ents⟩ : DInode)) [.slice (some ac) f.inodes.length ae]) (.c .g3 (.c .z (.c .g3 (.c .g3 .n)))) (own_unfocus (K := kT_44) ao (List.getElem?_eq_some_iff.1 ap).1 rfl) ?_
 have ba : List.set f.inodes (Int.toNat a) (⟨aa.kind, aa.links, (L.length : Int), (pickB f L b).list, aa.ents⟩ : DInode) = withB f.inodes a (L.length : Int) (pickB f L b).list := (withB_at ap (by omega))
 refine Y.chEq .z (congrArg (fun z_ => (ownA kSl_44 (z_) [.slice (some ac) f.inodes.length ae] : Asn)) ba) ?_
 refine Y.ceq (x' := setD (dropAll f a) (pickB f L b).list L (pickB f L b).list.length) .g2 (by rw [show q = (pickB f L b).list.length by omega]) ?_
 refine Y.doneS (resW rfl .g12 ag_48 .g2 sz_48) (.c .g1 (.c .z .n)) ?_
 first | (rw [setG_2 (by omega)]; exact ⟨_, _, rfl, rfl⟩) | (rw [setG_p (by omega) hpn]; exact ⟨_, _, rfl, rfl⟩) | (rw [setG_0 (by omega) hpc]; exact ⟨_, _, rfl, rfl⟩)

end Go.Proofs.YtmejbfmhaoilmaaGreat

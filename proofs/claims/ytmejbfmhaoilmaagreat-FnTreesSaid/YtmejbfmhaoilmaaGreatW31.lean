/- What is proved: contracts of functions, one a function. No condition. -/
import Derived.Test.YtmejbfmhaoilmaaGreatBase1
import Derived.Test.YtmejbfmhaoilmaaGreatW24
import Derived.Test.YtmejbfmhaoilmaaGreatBase2
namespace Go.Proofs.YtmejbfmhaoilmaaGreat
open Go Go.RowKit
set_option linter.unusedVariables false
set_option linter.unusedSimpArgs false
set_option maxHeartbeats 1000000
set_option maxRecDepth 20000
theorem c_89 {w0 : World} {S0 : Bs} {x : (List UInt8)} {v0 : Value} (h0 : kSl_5.ro w0 (FF w0 S0) x [v0])  :
    Calls Tryz.prog 89 #[v0] w0 (TriPost w0 S0 (fun r l => l = [ownA kSl_5 x [r]])) := by
 obtain ⟨A0, c0, rfl, ae, af, ag, aa⟩ := ro_form h0
 refine Y.enter (N := 8) Tryz.func89 rfl rfl (by simp) [(0, .slice A0 x.length c0)] (by simp) (l0 := []) trivial ?_
 refine Y.seq (Y.region (Y.ql rfl (q_assign rfl .c) (Y.nt (Y.seq (Y.seq (Y.region (Y.mv rfl .g1 ?_)))))))
 refine Y.ql rfl (q_eqnil rfl u_22 (.t .z) .c) (Y.nt ?_)
 refine Y.cond (.t .z) (fun b2 => ?_) (fun b2 => ?_)
 refine Y.seq (Y.region (Y.er .g2 (Y.ql rfl (q_assign rfl .c) (Y.nt (Y.ret (Y.thenR ?_))))))
 refine Y.add (c := ownA kSl_5 [] [.slice none 0 0]) (fun w S => own_nil w S none) ?_
 refine Y.ceq .z (nil_of aa (by assumption)) ?_
 refine Y.doneS (res1 rfl .z) (.c .z .n) ?_
 rfl
 refine Y.skip (Y.then_ (Y.seq (Y.region ?_)))
 refine Y.el rfl (e_buildNil rfl u_22 (inz inf_5)) ?_
 rintro _ _ ⟨g4, rfl, rfl⟩
 refine Y.mv rfl .g4 ?_
 refine Y.add (c := ownA kSl_5 ([] : (List UInt8)) [.slice (some ⟨g4, 0, none⟩) 0 0]) (fun w S => own_nil w S _) ?_
 refine Y.el rfl (e_appendF (flat_scalar _ _ _) rfl u_22 inf_5 rfl (.t .g1) (.t .z) (.c .z .n) (fun w1 S1 tr => tr.ctx h0) (by first | omega | (simp only [List.length_append, List.length_take, List.length_nil, List.length_cons]; omega)) (by first | omega | (simp only [List.length_append, List.length_take, List.length_nil, List.length_cons]; omega))) ?_
 rintro _ _ rfl
 refine Y.ceq .z (List.nil_append _) ?_
 refine Y.know (WS.oform .z) ?_
 rintro ⟨ah, ai, rfl, ab, ac, ad⟩
 refine Y.er .g5 (Y.as rfl .z (Y.nt (Y.ret ?_)))
 refine Y.doneS (res1 rfl .z) (.c .z .n) ?_
 rfl

theorem c_90 {w0 : World} {S0 : Bs} {f : DFs} {ad0 : Addr} (h0 : PtrRo kT_27 w0 (FF w0 S0) ad0 f) (a : Int)  :
    Calls Tryz.prog 90 #[.pointer (some ad0), .int .i64 a] w0 (TriPost w0 S0 (fun r l => r = .bool (decide (placeIn f.inodes.length a)) ∧ l = [])) := by
 obtain ⟨ec0, hF0, hr0, hc0⟩ := id h0
 obtain ⟨u0_0, u0_1, rfl, h0_0, h0_1⟩ := kT_27_ro hr0
 obtain ⟨A0_0, c0_0, rfl, hl0_0, hm0_0, hb0_0, he0_0⟩ := ro_form h0_0
 obtain ⟨A0_1, c0_1, rfl, hl0_1, hm0_1, hb0_1, he0_1⟩ := ro_form h0_1
 refine Y.enter (N := 13) Tryz.func90 rfl rfl (by simp) [(0, .pointer (some ad0)), (1, .int .i64 a)] (by simp) (l0 := []) trivial ?_
 refine Y.seq (Y.region (Y.ql rfl (q_assign rfl .c) (Y.nt (Y.seq (Y.region (Y.mv rfl .g2 (Y.mv rfl .g2 ?_)))))))
 refine Y.nc rfl .z (Y.fa rfl .z fa_27_0 (Y.le rfl ag_24 .z hF0 hc0 (Y.ql rfl (q_len rfl u_24 (.t .z)) ?_)))
 refine Y.ql rfl (q_sub (c := (f.inodes.length : Int) - 1) rfl (.t .z) .c (wr (by omega) (by omega) (by omega))) ?_
 refine Y.cl rfl rfl Tryz.func46 rfl rfl (args3 (.t .g6) .c (.t .z)) .n (fun _ _ hs tr => c_46 _ _ _) ?_
 rintro _ _ ⟨rfl, rfl⟩
 refine Y.cat .n ?_
 refine Y.er .g8 (Y.as rfl .z (Y.nt (Y.ret ?_)))
 refine Y.doneS (res1 rfl .z) .n ?_
 exact ⟨rfl, rfl⟩

theorem c_68 {w0 : World} {S0 : Bs} {f : DFs} {a1 : Addr} (h0 : PtrRo kT_27 w0 (FF w0 S0) a1 f) (a : Int) (ht : treeFault f = 0) (hp : placeIn f.inodes.length a) :
    Calls Tryz.prog 68 #[.pointer (some a1), .int .i64 a] w0 (TriPost w0 S0 (fun r l => l = [ownA kSl_5 (fileB f a) [r]])) := by
 obtain ⟨cq, bg, b8, bh⟩ := id h0
 obtain ⟨b9, ca, rfl, a2, a3⟩ := kT_27_ro b8
 obtain ⟨cb, cc, rfl, bi, bj, bk, al⟩ := ro_form a2
 obtain ⟨cd, ce, rfl, bm, bn, bo, am⟩ := ro_form a3
 have hI := treeI ht
 have cf := data_20 ht
 obtain ⟨cr, cs⟩ := hp
 refine Y.enter (N := 40) Tryz.func68 rfl rfl (by simp) [(0, .pointer (some a1)), (1, .int .i64 a)] (by simp) (l0 := []) trivial ?_
 refine Y.seq (Y.region (Y.ql rfl (q_assign rfl .c) (Y.nt (Y.seq (Y.region ?_)))))
 refine Y.el rfl (e_buildNil rfl u_22 (inz inf_5)) ?_
 rintro _ _ ⟨g3, rfl, rfl⟩
 refine Y.as rfl .z (Y.nt (Y.seq (Y.region (Y.mv rfl .g3 (Y.nc rfl .z (Y.fa rfl .z fa_27_0 (Y.le rfl ag_24 .z bg bh ?_)))))))
 refine Y.mv rfl .g8 ?_
 obtain ⟨cg, an, ao⟩ := al (by omega)
 subst an
 obtain ⟨x5, ap⟩ := get_ex (xs := f.inodes) (j := Int.toNat a) (by omega)
 obtain ⟨ch, a4, aq, ar⟩ := ao.elem ap
 obtain ⟨bp, bq, rfl, au, av⟩ := kT_44_ro a4
 obtain ⟨br, bt, rfl, a5, a6, a7, ae⟩ := ro_form au
 obtain ⟨bu, bv, rfl, a8, a9, ba, bb⟩ := ro_form av
 have ct := kind_at (i := a) ap (by omega)
 have cu := ents_at (a := a) ap (by omega)
 have bc := inodes_all hI _ (List.mem_of_getElem? ap)
 have bd := blocks_at (a := a) ap (by omega)
 have b4x5 := blocks_4 bc
 refine Y.ql rfl (q_indexAddr (j := Int.toNat a) rfl u_24 sz_44 (.t .g1) (.t .z) (by omega) (by omega)) ?_
 refine Y.as rfl .z (Y.nt (Y.seq (Y.seq (Y.region (Y.ql rfl (q_assign rfl .c) (Y.nt ?_))))))
 refine Y.block ?_
 refine Y.add (c := ownA kSl_5 ([] : (List UInt8)) [.slice (some ⟨g3, 0, none⟩) 0 0]) (fun w S => own_nil w S _) ?_
 refine Y.loopi (γ := Nat × (Option Addr) × Nat) (fun ⟨k, aa, ab⟩ => [(7, .int .i64 (k : Int)), (6, .pointer (some (Addr.add cg ((Int.toNat a) * 5)))), (5, .slice aa (bytesTo f.data x5.blocks k).length ab), (4, .slice none 0 0), (0, .pointer (some a1))]) (fun ⟨k, aa, ab⟩ => [ownA kSl_5 (bytesTo f.data x5.blocks k) [.slice aa (bytesTo f.data x5.blocks k).length ab], rowA g3 5 1 0 []]) (fun ⟨k, aa, ab⟩ => k ≤ x5.blocks.length) (fun ⟨k, aa, ab⟩ => x5.blocks.length - k) (0, (some ⟨g3, 0, none⟩), 0) (Nat.zero_le _) (.c .z (.c .g1 (.c .g8 (.c .g10 (.c .g11 .n))))) (fun _ h => h.sel (.c .z (.c .z .n))) ?_
 rintro ⟨k, aa, ab⟩ hk
 have hbl := bytesTo_len (data := f.data) (bs := x5.blocks) k b4x5.1 (data_8 ht)
 refine Y.seq (Y.seq (Y.region (Y.mv rfl .z (Y.mv rfl .g2 (Y.nc rfl .z (Y.fa rfl .z fa_44_3 (Y.le rfl ag_36 .z aq ar (Y.ql rfl (q_len rfl u_36 (.t .z)) ?_))))))))
 refine Y.ql rfl (q_lss rfl (.t .g5) (.t .z)) (Y.nt ?_)
 refine Y.condP (.t .z) (fun ci => ?_) (fun ci => ?_)
 refine Y.skip (Y.then_ (Y.seq (Y.block ?_)))
 refine Y.dr .g1 15 mixo ?_
 refine Y.sc (qs 0 14 ++ [(14, false), (15, false)]) (by kernel_rfl) ?_
 refine Y.dm rfl rfl .g1 .g9 (Y.dm rfl rfl .g1 .g12 (Y.dn rfl rfl .g1 .z (Y.df rfl rfl .g1 .z fa_27_1 (Y.de rfl rfl .g1 ag_25 .z bg bh (Y.dm rfl rfl .g1 .g13 (Y.dn rfl rfl .g1 .z (Y.df rfl rfl .g1 .z fa_44_3 (Y.de rfl rfl .g1 ag_36 .z aq ar ?_))))))))
 refine Y.dm rfl rfl .g1 .g16 ?_
 obtain ⟨cj, af, ag⟩ := ae (by omega)
 subst af
 obtain ⟨bw, ah⟩ := get_ex (xs := x5.blocks) (j := k) (by omega)
 obtain ⟨bx, aw, ax, ay⟩ := ag.elem ah
 obtain ⟨rfl, ck⟩ := aw
 have bz := b4x5.2 _ (List.mem_of_getElem? ah)
 refine Y.dk rfl rfl .g1 (q_indexAddr (j := k) rfl u_36 sz_2 (.t .g1) (.t .z) rfl (by omega)) ?_
 refine Y.dk rfl rfl .g1 (q_load rfl ag_2 (.t .z) (WS.el0 ax ay rfl)) ?_
 obtain ⟨cm, ai, aj⟩ := am (by omega)
 subst ai
 obtain ⟨cv, ak⟩ := get_ex (xs := f.data) (j := Int.toNat bw) (by omega)
 obtain ⟨b0, ac, az, a0⟩ := aj.elem ak
 obtain ⟨cn, rfl⟩ := sl_one ac
 obtain ⟨co, cp, rfl, b1, b2, b3, b4⟩ := ro_form ac
 have p8x15 := data_8 ht _ (List.mem_of_getElem? ak)
 refine Y.dk rfl rfl .g1 (q_indexAddr (j := Int.toNat bw) rfl u_25 sz_22 (.t .g7) (.t .z) (by omega) (by omega)) ?_
 refine Y.dk rfl rfl .g1 (q_load rfl ag_22 (.t .z) (WS.el0 az a0 rfl)) ?_
 refine Y.e (goes_sch rfl rfl) rfl (by decide) rfl (e_appendF (flat_scalar _ _ _) rfl u_22 inf_5 rfl (.t .g13) (.t .z) (.c .z .n) (fun w1 S1 tr => tr.ctx ac) (by first | omega | (simp only [List.length_append, List.length_take, List.length_nil, List.length_cons]; omega)) (by first | omega | (simp only [List.length_append, List.length_take, List.length_nil, List.length_cons]; omega))) ?_
 rintro _ _ rfl
 refine Y.ceq .z (bytesTo_s ah ak) ?_
 refine Y.know (WS.oform .z) ?_
 rintro ⟨be, bf, rfl, b5, b6, b7⟩
 refine Y.sk .g1 ?_
 refine Y.er (.s16 .g8) ?_
 refine Y.q (goes_sch rfl rfl) rfl (by decide) rfl (q_assign rfl (.t .z)) ?_
 refine Y.sl rfl ?_
 refine Y.schN ?_
 refine Y.drawN (by kernel_rfl) ?_
 refine Y.inBN (Y.then_ (Y.region (Y.mv rfl (.s16 .g7) ?_)))
 refine Y.ql rfl (q_add (c := ((k + 1 : Nat) : Int)) rfl (.t .z) .c (wr (by omega) (by omega) (by omega))) ?_
 refine Y.er (.s16 .g9) (Y.as rfl .z (Y.nil ?_))
 refine Y.again ((k + 1), be, bf) (by omega) (by first | omega | (dsimp only; omega)) (.c .z (.c (.s16 .g10) (.c .g3 (.c (.s16 .g11) (.c (.s16 .g12) .n))))) (fun _ h => h.sel (.c .z (.c .z .n)))
 refine Y.exit (Y.thenE (Y.thenE (Y.inB (Y.then_ (Y.seq (Y.region (Y.mv rfl .g9 (Y.er .g11 ?_))))))))
 refine Y.as rfl .z (Y.nt (Y.ret ?_))
 have ad : bytesTo f.data x5.blocks k = fileB f a := (by unfold fileB; rw [bd]; exact bytesTo_all (by omega))
 refine Y.eq .z (congrArg (fun z_ => (.slice aa (z_).length ab : Value)) ad) ?_
 refine Y.eq .g1 (congrArg (fun z_ => (.slice aa (z_).length ab : Value)) ad) ?_
 refine Y.eq .g11 (congrArg (fun z_ => (.slice aa (z_).length ab : Value)) ad) ?_
 refine Y.chEq .z (congrArg (fun z_ => (ownA kSl_5 (z_) [.slice aa (z_).length ab] : Asn)) ad) ?_
 refine Y.doneS (res1 rfl .g2) (.c .z .n) ?_
 rfl

theorem c_45 {w0 : World} {S0 : Bs} {f : DFs} {a9 : List Value} (h0 : kT_27.ro w0 (FF w0 S0) f a9) (a : Int)  :
    Calls Tryz.prog 45 #[.agg a9.toArray, .int .i64 a] w0 (TriPost w0 S0 (RA_31 (bytesR f a))) := by
 obtain ⟨bn, bo, rfl, aa, ab⟩ := kT_27_ro h0
 obtain ⟨ah, ai, rfl, ba, bb, bc, aj⟩ := ro_form aa
 obtain ⟨ak, al, rfl, bd, be, bf, bg⟩ := ro_form ab
 refine Y.enter (N := 30) Tryz.func45 rfl rfl (by simp) [(0, .agg #[.slice ah f.inodes.length ai, .slice ak f.data.length al]), (1, .int .i64 a)] (by simp) (l0 := []) trivial ?_
 refine Y.seq (Y.region ?_)
 refine Y.el rfl (e_box (cs := [.slice ah f.inodes.length ai, .slice ak f.data.length al]) (n := 2) rfl (.t .z) rfl rfl) ?_
 rintro _ _ ⟨g3, rfl, rfl⟩
 refine Y.el rfl (e_alloc rfl z_31 rfl rfl) ?_
 rintro _ _ ⟨g4, rfl, rfl⟩
 refine Y.nt (Y.seq (Y.seq (Y.region ?_)))
 refine Y.cl rfl rfl Tryz.func56 rfl rfl (args1 (.t .g1)) .n (fun _ _ hs tr => c_56 (tr.ptr .g1 (kT_27_mk f (tr.ctx aa) (tr.ctx ab)))) ?_
 rintro _ _ ⟨rfl, rfl⟩
 refine Y.cat .n ?_
 refine Y.as rfl .z (Y.nt (Y.seq (Y.region (Y.mv rfl .z (Y.ql rfl (q_neq rfl (.t .z) .c) (Y.nt ?_))))))
 refine Y.condN (.t .z) (fun b5 => ?_) (fun b5 => ?_)
 refine Y.seq (Y.region (Y.mv rfl .g2 (Y.ql rfl (q_build (cs := [.int .i64 (fsFault f), .slice none 0 0]) rfl bl_31 (pv1 (.t .z)) rfl) ?_)))
 refine Y.es (goes_list rfl) rfl (esW rfl (.t .g6) (.t .z) .z sz_31 rfl rfl) ?_
 refine Y.nt (Y.ret (Y.thenR ?_))
 refine Y.add (c := ownA kSl_5 [] [.slice none 0 0]) (fun w S => own_nil w S none) ?_
 refine Y.doneS (resW rfl .g6 ag_31 .g1 sz_31) (.c .z .n) ?_
 first | (rw [bytesR_f (by assumption)]; exact ⟨_, rfl, rfl⟩) | (rw [bytesR_0 (by assumption)]; exact ⟨_, rfl, rfl⟩) | (rw [bytesR_0 (bytesCode_0 (by assumption) (by assumption) (by omega) (by omega))]; exact ⟨_, rfl, rfl⟩) | (rw [bytesR_f (by rw [bytesCode_f (by assumption)]; first | assumption | decide), bytesCode_f (by assumption)]; exact ⟨_, rfl, rfl⟩) | (rw [bytesR_f (by rw [bytesCode_3 (by assumption) (by assumption)]; first | assumption | decide), bytesCode_3 (by assumption) (by assumption)]; exact ⟨_, rfl, rfl⟩) | (rw [bytesR_f (by rw [bytesCode_9 (by assumption) (by assumption) (by omega)]; first | assumption | decide), bytesCode_9 (by assumption) (by assumption) (by omega)]; exact ⟨_, rfl, rfl⟩) | (rw [bytesR_f (by rw [bytesCode_4 (by assumption) (by assumption) (by omega) (by omega)]; first | assumption | decide), bytesCode_4 (by assumption) (by assumption) (by omega) (by omega)]; exact ⟨_, rfl, rfl⟩)
 have az := fsTree b5
 have a0 := treeI az
 refine Y.skip (Y.then_ (Y.seq (Y.seq (Y.region (Y.mv rfl .g7 ?_)))))
 refine Y.cl rfl rfl Tryz.func90 rfl rfl (args2 (.t .g6) (.t .z)) .n (fun _ _ hs tr => c_90 (tr.ptr .g1 (kT_27_mk f (tr.ctx aa) (tr.ctx ab))) _) ?_
 rintro _ _ ⟨rfl, rfl⟩
 refine Y.cat .n ?_
 refine Y.ql rfl (q_not rfl (.t .z)) (Y.nt ?_)
 refine Y.condN (.t .z) (fun b8 => ?_) (fun b8 => ?_)
 refine Y.seq (Y.region (Y.ql rfl (q_build (cs := [.int .i64 3, .slice none 0 0]) rfl bl_31 (pv1 .c) rfl) ?_))
 refine Y.es (goes_list rfl) rfl (esW rfl (.t .g8) (.t .z) .z sz_31 rfl rfl) ?_
 refine Y.nt (Y.ret (Y.thenR ?_))
 refine Y.add (c := ownA kSl_5 [] [.slice none 0 0]) (fun w S => own_nil w S none) ?_
 refine Y.doneS (resW rfl .g8 ag_31 .g1 sz_31) (.c .z .n) ?_
 first | (rw [bytesR_f (by assumption)]; exact ⟨_, rfl, rfl⟩) | (rw [bytesR_0 (by assumption)]; exact ⟨_, rfl, rfl⟩) | (rw [bytesR_0 (bytesCode_0 (by assumption) (by assumption) (by omega) (by omega))]; exact ⟨_, rfl, rfl⟩) | (rw [bytesR_f (by rw [bytesCode_f (by assumption)]; first | assumption | decide), bytesCode_f (by assumption)]; exact ⟨_, rfl, rfl⟩) | (rw [bytesR_f (by rw [bytesCode_3 (by assumption) (by assumption)]; first | assumption | decide), bytesCode_3 (by assumption) (by assumption)]; exact ⟨_, rfl, rfl⟩) | (rw [bytesR_f (by rw [bytesCode_9 (by assumption) (by assumption) (by omega)]; first | assumption | decide), bytesCode_9 (by assumption) (by assumption) (by omega)]; exact ⟨_, rfl, rfl⟩) | (rw [bytesR_f (by rw [bytesCode_4 (by assumption) (by assumption) (by omega) (by omega)]; first | assumption | decide), bytesCode_4 (by assumption) (by assumption) (by omega) (by omega)]; exact ⟨_, rfl, rfl⟩)
 refine Y.skip (Y.then_ (Y.seq (Y.seq (Y.region (Y.fa rfl .g8 fa_27_0 (Y.ld rfl ag_24 .z .g1 (Y.mv rfl .g12 ?_)))))))
 obtain ⟨bp, ad, ae⟩ := aj (by omega)
 subst ad
 obtain ⟨bu, ac⟩ := get_ex (xs := f.inodes) (j := Int.toNat a) (by omega)
 obtain ⟨bh, am, an, ao⟩ := ae.elem ac
 obtain ⟨a1, a2, rfl, af, ag⟩ := kT_44_ro am
 obtain ⟨a3, a4, rfl, ap, aq, ar, au⟩ := ro_form af
 obtain ⟨a5, a6, rfl, av, aw, ax, ay⟩ := ro_form ag
 have bq := kind_at (i := a) ac (by omega)
 have br := ents_at (a := a) ac (by omega)
 have bi := inodes_all a0 _ (List.mem_of_getElem? ac)
 refine Y.ql rfl (q_indexAddr (j := Int.toNat a) rfl u_24 sz_44 (.t .g1) (.t .z) (by omega) (by omega)) ?_
 refine Y.fa rfl .z fa_44_0 (Y.le rfl ag_2 .z an ao (Y.nt (Y.block (Y.seq (Y.region (Y.ql rfl (q_eql rfl (.t .z) .c) (Y.as rfl .z ?_)))))))
 refine Y.nt ?_
 refine Y.condP (.t .z) (fun bs => ?_) (fun bs => ?_)
 refine Y.seq (Y.region (Y.ql rfl (q_build (cs := [.int .i64 9, .slice none 0 0]) rfl bl_31 (pv1 .c) rfl) ?_))
 refine Y.es (goes_list rfl) rfl (esW rfl (.t .g16) (.t .z) .z sz_31 rfl rfl) ?_
 refine Y.nt (Y.ret (Y.inBR (Y.thenR ?_)))
 refine Y.add (c := ownA kSl_5 [] [.slice none 0 0]) (fun w S => own_nil w S none) ?_
 refine Y.doneS (resW rfl .g16 ag_31 .g1 sz_31) (.c .z .n) ?_
 first | (rw [bytesR_f (by assumption)]; exact ⟨_, rfl, rfl⟩) | (rw [bytesR_0 (by assumption)]; exact ⟨_, rfl, rfl⟩) | (rw [bytesR_0 (bytesCode_0 (by assumption) (by assumption) (by omega) (by omega))]; exact ⟨_, rfl, rfl⟩) | (rw [bytesR_f (by rw [bytesCode_f (by assumption)]; first | assumption | decide), bytesCode_f (by assumption)]; exact ⟨_, rfl, rfl⟩) | (rw [bytesR_f (by rw [bytesCode_3 (by assumption) (by assumption)]; first | assumption | decide), bytesCode_3 (by assumption) (by assumption)]; exact ⟨_, rfl, rfl⟩) | (rw [bytesR_f (by rw [bytesCode_9 (by assumption) (by assumption) (by omega)]; first | assumption | decide), bytesCode_9 (by assumption) (by assumption) (by omega)]; exact ⟨_, rfl, rfl⟩) | (rw [bytesR_f (by rw [bytesCode_4 (by assumption) (by assumption) (by omega) (by omega)]; first | assumption | decide), bytesCode_4 (by assumption) (by assumption) (by omega) (by omega)]; exact ⟨_, rfl, rfl⟩)
 refine Y.seq (Y.region (Y.ql rfl (q_eql rfl (.t .g2) .c) (Y.as rfl .z (Y.nt ?_))))
 refine Y.condP (.t .z) (fun bt => ?_) (fun bt => ?_)
 refine Y.seq (Y.region (Y.ql rfl (q_build (cs := [.int .i64 4, .slice none 0 0]) rfl bl_31 (pv1 .c) rfl) ?_))
 refine Y.es (goes_list rfl) rfl (esW rfl (.t (.s16 .g2)) (.t .z) .z sz_31 rfl rfl) ?_
 refine Y.nt (Y.ret (Y.inBR (Y.thenR ?_)))
 refine Y.add (c := ownA kSl_5 [] [.slice none 0 0]) (fun w S => own_nil w S none) ?_
 refine Y.doneS (resW rfl (.s16 .g2) ag_31 .g1 sz_31) (.c .z .n) ?_
 first | (rw [bytesR_f (by assumption)]; exact ⟨_, rfl, rfl⟩) | (rw [bytesR_0 (by assumption)]; exact ⟨_, rfl, rfl⟩) | (rw [bytesR_0 (bytesCode_0 (by assumption) (by assumption) (by omega) (by omega))]; exact ⟨_, rfl, rfl⟩) | (rw [bytesR_f (by rw [bytesCode_f (by assumption)]; first | assumption | decide), bytesCode_f (by assumption)]; exact ⟨_, rfl, rfl⟩) | (rw [bytesR_f (by rw [bytesCode_3 (by assumption) (by assumption)]; first | assumption | decide), bytesCode_3 (by assumption) (by assumption)]; exact ⟨_, rfl, rfl⟩) | (rw [bytesR_f (by rw [bytesCode_9 (by assumption) (by assumption) (by omega)]; first | assumption | decide), bytesCode_9 (by assumption) (by assumption) (by omega)]; exact ⟨_, rfl, rfl⟩) | (rw [bytesR_f (by rw [bytesCode_4 (by assumption) (by assumption) (by omega) (by omega)]; first | assumption | decide), bytesCode_4 (by assumption) (by assumption) (by omega) (by omega)]; exact ⟨_, rfl, rfl⟩)
 refine Y.skip (Y.inBN (Y.then_ (Y.seq (Y.region (Y.mv rfl (.s16 .g4) ?_)))))
 refine Y.cl rfl rfl Tryz.func68 rfl rfl (args2 (.t (.s16 .g3)) (.t .z)) .n (fun _ _ hs tr => c_68 (tr.ptr .g1 (kT_27_mk f (tr.ctx aa) (tr.ctx ab))) _ (by assumption) (by first | assumption | (constructor <;> omega))) ?_
 rintro _ _ rfl
 refine Y.cat (.c .n) ?_
 refine Y.know (WS.oform .z) ?_
 rintro ⟨a7, a8, rfl, bj, bk, bm⟩
 refine Y.ql rfl (q_build (cs := [.int .i64 0, .slice a7 (fileB f a).length a8]) rfl bl_31 (pv1 (.t .z)) rfl) ?_
 refine Y.es (goes_list rfl) rfl (esW rfl (.t (.s16 .g4)) (.t .z) .g1 sz_31 rfl rfl) ?_
 refine Y.nt (Y.ret ?_)
 refine Y.doneS (resW rfl (.s16 .g4) ag_31 .z sz_31) (.c .g1 .n) ?_
 first | (rw [bytesR_f (by assumption)]; exact ⟨_, rfl, rfl⟩) | (rw [bytesR_0 (by assumption)]; exact ⟨_, rfl, rfl⟩) | (rw [bytesR_0 (bytesCode_0 (by assumption) (by assumption) (by omega) (by omega))]; exact ⟨_, rfl, rfl⟩) | (rw [bytesR_f (by rw [bytesCode_f (by assumption)]; first | assumption | decide), bytesCode_f (by assumption)]; exact ⟨_, rfl, rfl⟩) | (rw [bytesR_f (by rw [bytesCode_3 (by assumption) (by assumption)]; first | assumption | decide), bytesCode_3 (by assumption) (by assumption)]; exact ⟨_, rfl, rfl⟩) | (rw [bytesR_f (by rw [bytesCode_9 (by assumption) (by assumption) (by omega)]; first | assumption | decide), bytesCode_9 (by assumption) (by assumption) (by omega)]; exact ⟨_, rfl, rfl⟩) | (rw [bytesR_f (by rw [bytesCode_4 (by assumption) (by assumption) (by omega) (by omega)]; first | assumption | decide), bytesCode_4 (by assumption) (by assumption) (by omega) (by omega)]; exact ⟨_, rfl, rfl⟩)

theorem c_11 {w0 : World} {S0 : Bs} {f : DFs} {ap : List Value} (h0 : kT_27.ro w0 (FF w0 S0) f ap) (a : Int) (i : Int) (n : Int)  :
    Calls Tryz.prog 11 #[.agg ap.toArray, .int .i64 a, .int .i64 i, .int .i64 n] w0 (TriPost w0 S0 (RA_31 (readR f a i n))) := by
 obtain ⟨a6, a7, rfl, ae, af⟩ := kT_27_ro h0
 obtain ⟨ag, ah, rfl, aq, ar, au, av⟩ := ro_form ae
 obtain ⟨ai, aj, rfl, aw, ax, ay, az⟩ := ro_form af
 refine Y.enter (N := 46) Tryz.func11 rfl rfl (by simp) [(0, .agg #[.slice ag f.inodes.length ah, .slice ai f.data.length aj]), (1, .int .i64 a), (2, .int .i64 i), (3, .int .i64 n)] (by simp) (l0 := []) trivial ?_
 refine Y.seq (Y.region ?_)
 refine Y.el rfl (e_box (cs := [.slice ag f.inodes.length ah, .slice ai f.data.length aj]) (n := 2) rfl (.t .z) rfl rfl) ?_
 rintro _ _ ⟨g3, rfl, rfl⟩
 refine Y.el rfl (e_alloc rfl z_31 rfl rfl) ?_
 rintro _ _ ⟨g4, rfl, rfl⟩
 refine Y.nt (Y.seq (Y.region (Y.ql rfl (qW rfl ag_27 (.t .g1) .g1 sz_27) (Y.mv rfl .g4 ?_))))
 refine Y.cl rfl rfl Tryz.func45 rfl rfl (args2 (.t .g1) (.t .z)) .n (fun _ _ hs tr => c_45 (kT_27_mk f (tr.ctx ae) (tr.ctx af)) _) ?_
 rintro _ _ ⟨v5, rfl, rfl⟩
 refine Y.cat (.c .n) ?_
 refine Y.know (WS.oform .z) ?_
 rintro ⟨ac, ak, rfl, a8, a9, ba⟩
 refine Y.el rfl (e_alloc rfl z_31 rfl rfl) ?_
 rintro _ _ ⟨g8, rfl, rfl⟩
 refine Y.es (goes_list rfl) rfl (esW rfl (.t .z) (.t .g1) .z sz_31 rfl rfl) ?_
 refine Y.nt (Y.seq (Y.seq (Y.region (Y.fa rfl .z fa_31_0 (Y.ld rfl ag_2 .z .z (Y.ql rfl (q_neq rfl (.t .z) .c) (Y.nil ?_)))))))
 refine Y.then_ ?_
 refine Y.condN (.t .z) (fun b9 => ?_) (fun b9 => ?_)
 have hbc := bytesR_codeN b9
 refine Y.seq (Y.region (Y.ql rfl (qW rfl ag_31 (.t .g3) .z sz_31) ?_))
 refine Y.es (goes_list rfl) rfl (esW rfl (.t .g8) (.t .z) .g2 sz_31 rfl rfl) ?_
 refine Y.nt (Y.ret (Y.thenR ?_))
 refine Y.doneS (resW rfl .g8 ag_31 .z sz_31) (.c .g2 .n) ?_
 first | (rw [readR_b (by assumption)]; exact ⟨_, rfl, rfl⟩) | (rw [readR_3 (by assumption) (by omega)]; exact ⟨_, rfl, rfl⟩) | (rw [readR_0 (by assumption) (by omega)]; exact ⟨_, rfl, rfl⟩)
 have hbc := bytesR_code0 b9
 have hbb := bytesR_bytes hbc
 have hbbl : (bytesR f a).bytes.length = (fileB f a).length := by rw [hbb]
 have hfl := fileB_len (fsTree (bytesOk hbc).1) a
 have ad : (bytesR f a).bytes = fileB f a := hbb
 refine Y.eq .g4 (congrArg (fun z_ : List UInt8 => (.agg #[.int .i64 ((bytesR f a).code), .slice ac (z_).length ak] : Value)) ad) ?_
 refine Y.chEq .z (congrArg (fun z_ : List UInt8 => (rowA g8 31 2 1 [.int .i64 ((bytesR f a).code), .slice ac (z_).length ak] : Asn)) ad) ?_
 refine Y.chEq .g1 (congrArg (fun z_ : List UInt8 => (ownA kSl_5 (z_) [.slice ac (z_).length ak] : Asn)) ad) ?_
 refine Y.skip (Y.then_ (Y.seq (Y.seq (Y.region (Y.mv rfl .g11 ?_)))))
 refine Y.cl rfl rfl Tryz.func46 rfl rfl (args3 (.t .z) .c .c) .n (fun _ _ hs tr => c_46 _ _ _) ?_
 rintro _ _ ⟨rfl, rfl⟩
 refine Y.cat .n ?_
 refine Y.ql rfl (q_not rfl (.t .z)) (Y.mv rfl .z ?_)
 refine Y.caseN .z (fun g11 => ?_) (fun g11 => ?_)
 refine Y.skipl rfl rfl .z rfl rfl (by decide) rfl ?_
 refine Y.skipl rfl rfl .g1 rfl rfl (by decide) rfl ?_
 refine Y.skipl rfl rfl .g2 rfl rfl (by decide) rfl ?_
 refine Y.ql rfl (q_pickT rfl (.t .g3) .c) (Y.nt ?_)
 refine Y.condT (.t .z) ?_
 refine Y.seq (Y.region (Y.ql rfl (q_build (cs := [.int .i64 3, .slice none 0 0]) rfl bl_31 (pv1 .c) rfl) ?_))
 refine Y.es (goes_list rfl) rfl (esW rfl (.t .g16) (.t .z) .g2 sz_31 rfl rfl) ?_
 refine Y.nt (Y.ret (Y.thenR ?_))
 refine Y.add (c := ownA kSl_5 [] [.slice none 0 0]) (fun w S => own_nil w S none) ?_
 refine Y.doneS (resW rfl .g16 ag_31 .g1 sz_31) (.c .z .n) ?_
 first | (rw [readR_b (by assumption)]; exact ⟨_, rfl, rfl⟩) | (rw [readR_3 (by assumption) (by omega)]; exact ⟨_, rfl, rfl⟩) | (rw [readR_0 (by assumption) (by omega)]; exact ⟨_, rfl, rfl⟩)
 refine Y.qg rfl rfl .z rfl rfl rfl (q_move rfl (.t .g16)) ?_
 refine Y.call (goes_listg rfl rfl .g1) rfl (by decide) rfl (c_call rfl Tryz.func46 rfl rfl (args3 (.t .z) .c .c)) .n (fun _ _ hs tr => c_46 _ _ _) ?_
 rintro _ _ ⟨rfl, rfl⟩
 refine Y.cat .n ?_
 refine Y.qg rfl rfl .g2 rfl rfl rfl (q_not rfl (.t .z)) ?_
 refine Y.ql rfl (q_pickF rfl (.t .g3) (.t .z)) (Y.nt ?_)
 refine Y.condN (.t .z) (fun bb => ?_) (fun bb => ?_)
 refine Y.seq (Y.region (Y.ql rfl (q_build (cs := [.int .i64 3, .slice none 0 0]) rfl bl_31 (pv1 .c) rfl) ?_))
 refine Y.es (goes_list rfl) rfl (esW rfl (.t .g16) (.t .z) .g2 sz_31 rfl rfl) ?_
 refine Y.nt (Y.ret (Y.thenR ?_))
 refine Y.add (c := ownA kSl_5 [] [.slice none 0 0]) (fun w S => own_nil w S none) ?_
 refine Y.doneS (resW rfl .g16 ag_31 .g1 sz_31) (.c .z .n) ?_
 first | (rw [readR_b (by assumption)]; exact ⟨_, rfl, rfl⟩) | (rw [readR_3 (by assumption) (by omega)]; exact ⟨_, rfl, rfl⟩) | (rw [readR_0 (by assumption) (by omega)]; exact ⟨_, rfl, rfl⟩)
 refine Y.skip (Y.then_ (Y.seq (Y.region (Y.fa rfl .g12 fa_31_1 (Y.ld rfl ag_22 .z .g1 (Y.ql rfl (q_len rfl u_22 (.t .z)) (Y.as rfl .z (Y.nil ?_))))))))
 refine Y.then_ (Y.seq (Y.region (Y.mv rfl (.s16 .g7) (Y.mv rfl .g1 ?_))))
 refine Y.cl rfl rfl Tryz.func47 rfl rfl (args2 (.t .g1) (.t .z)) .n (fun _ _ hs tr => c_47 _ _) ?_
 rintro _ _ ⟨rfl, rfl⟩
 refine Y.cat .n ?_
 have bc := minI_spec i ((fileB f a).length : Int)
 refine Y.as rfl .z (Y.nt (Y.seq ?_))
 refine Y.dr .g1 12 mixo ?_
 refine Y.sc (qs 1 7) (by kernel_rfl) ?_
 refine Y.df rfl rfl .g1 (.s16 .g4) fa_31_1 (Y.dl rfl rfl .g1 ag_22 .z .z (Y.dm rfl rfl .g1 .g2 (Y.dm rfl rfl .g1 .g7 (Y.dm rfl rfl .g1 .g4 (Y.dm rfl rfl .g1 (.s16 (.s16 .g1)) ?_)))))
 refine Y.dk rfl rfl .g1 (q_add (c := (minI i ((fileB f a).length : Int)) + n) rfl (.t .g1) (.t .z) (wr (by omega) (by omega) (by omega))) ?_
 refine Y.schN ?_
 refine Y.fork2 (i := 0) (j := 8) (by kernel_rfl) ?_ ?_
 refine Y.e (goes_sch rfl rfl) rfl (by decide) rfl (e_buildNil rfl u_22 (inz inf_5)) ?_
 rintro _ _ ⟨g16, rfl, rfl⟩
 refine Y.sk .g2 ?_
 refine Y.schN ?_
 refine Y.sc [(8, false), (9, true), (10, false), (11, true), (12, false)] (by kernel_rfl) ?_
 refine Y.call (goes_sch rfl rfl) rfl (by decide) rfl (c_call rfl Tryz.func47 rfl rfl (args2 (.t .g4) (.t .g1))) .n (fun _ _ hs tr => c_47 _ _) ?_
 rintro _ _ ⟨rfl, rfl⟩
 refine Y.cat .n ?_
 have bd := minI_spec ((fileB f a).length : Int) ((minI i ((fileB f a).length : Int)) + n)
 refine Y.sk .g2 ?_
 refine Y.eq .g6 (congrArg (Value.int .i64) (show minI i ((fileB f a).length : Int) = ((Int.toNat (minI i ((fileB f a).length : Int)) : Nat) : Int) by omega)) ?_
 refine Y.eq .g1 (congrArg (Value.int .i64) (show minI ((fileB f a).length : Int) ((minI i ((fileB f a).length : Int)) + n) = ((Int.toNat (minI ((fileB f a).length : Int) ((minI i ((fileB f a).length : Int)) + n)) : Nat) : Int) by omega)) ?_
 obtain ⟨be, aa⟩ : ∃ A' : Option Addr, A' = (if ak = Int.toNat (minI i ((fileB f a).length : Int)) then ac else Option.map (fun z => Addr.add z ((Int.toNat (minI i ((fileB f a).length : Int))) * 1)) ac) := ⟨_, rfl⟩
 have bf := subL_len (xs := fileB f a) (a := Int.toNat (minI i ((fileB f a).length : Int))) (b := Int.toNat (minI ((fileB f a).length : Int) ((minI i ((fileB f a).length : Int)) + n))) (by omega)
 have bg : True := trivial
 refine Y.dk rfl rfl .g2 (q_sliceL (a := Int.toNat (minI i ((fileB f a).length : Int))) (b := Int.toNat (minI ((fileB f a).length : Int) ((minI i ((fileB f a).length : Int)) + n))) rfl u_22 sz_5 (.t .g7) aa (.inr ⟨_, _, rfl, (.t .g1)⟩) (.inr ⟨_, _, rfl, (.t .z)⟩) (by omega) (by omega) (by omega)) ?_
 refine Y.add (c := ownA kSl_5 ([] : (List UInt8)) [.slice (some ⟨g16, 0, none⟩) 0 0]) (fun w S => own_nil w S _) ?_
 refine Y.e (goes_sch rfl rfl) rfl (by decide) rfl (e_appendF (flat_scalar _ _ _) rfl u_22 inf_5 rfl (.t .g3) (.t .z) (.c .z .n) (fun w1 S1 tr => (ro_sub (a := Int.toNat (minI i ((fileB f a).length : Int))) (b := Int.toNat (minI ((fileB f a).length : Int) ((minI i ((fileB f a).length : Int)) + n))) aa (tr.own .g1) (by omega) (by omega))) (by first | omega | (simp only [List.length_append, List.length_take, List.length_nil, List.length_cons]; omega)) (by first | omega | (simp only [List.length_append, List.length_take, List.length_nil, List.length_cons]; omega))) ?_
 rintro _ _ rfl
 refine Y.ceq .z (List.nil_append _) ?_
 refine Y.know (WS.oform .z) ?_
 rintro ⟨al, am, rfl, a0, a1, a2⟩
 refine Y.sk .g3 ?_
 refine Y.dk rfl rfl .g3 (q_build (cs := [.int .i64 0, .slice al (subL (fileB f a) (Int.toNat (minI i ((fileB f a).length : Int))) (Int.toNat (minI ((fileB f a).length : Int) ((minI i ((fileB f a).length : Int)) + n)))).length am]) rfl bl_31 (pv1 (.t .z)) rfl) ?_
 refine Y.es (goes_sch rfl rfl) rfl (esW rfl (.t (.s16 (.s16 .g3))) (.t .z) .g4 sz_31 rfl rfl) ?_
 refine Y.sl rfl ?_
 refine Y.schN ?_
 refine Y.drawN (by kernel_rfl) ?_
 refine Y.then_ (Y.ret ?_)
 refine Y.ceq (x' := partB (fileB f a) i n) .g1 (by unfold partB; first | rfl | rw [minI_comm (minI i _ + n)]) ?_
 refine Y.doneS (resW rfl (.s16 (.s16 .g3)) ag_31 .g1 sz_31) (.c .z .n) ?_
 first | (rw [readR_b (by assumption)]; exact ⟨_, rfl, rfl⟩) | (rw [readR_3 (by assumption) (by omega)]; exact ⟨_, rfl, rfl⟩) | (rw [readR_0 (by assumption) (by omega)]; exact ⟨_, rfl, rfl⟩)
 refine Y.call (goes_sch rfl rfl) rfl (by decide) rfl (c_call rfl Tryz.func47 rfl rfl (args2 (.t .g3) (.t .z))) .n (fun _ _ hs tr => c_47 _ _) ?_
 rintro _ _ ⟨rfl, rfl⟩
 refine Y.cat .n ?_
 have bh := minI_spec ((fileB f a).length : Int) ((minI i ((fileB f a).length : Int)) + n)
 refine Y.sk .g1 ?_
 refine Y.schN ?_
 refine Y.sc [(9, true), (0, false), (10, false), (11, true), (12, false)] (by kernel_rfl) ?_
 refine Y.eq .g5 (congrArg (Value.int .i64) (show minI i ((fileB f a).length : Int) = ((Int.toNat (minI i ((fileB f a).length : Int)) : Nat) : Int) by omega)) ?_
 refine Y.eq .g1 (congrArg (Value.int .i64) (show minI ((fileB f a).length : Int) ((minI i ((fileB f a).length : Int)) + n) = ((Int.toNat (minI ((fileB f a).length : Int) ((minI i ((fileB f a).length : Int)) + n)) : Nat) : Int) by omega)) ?_
 obtain ⟨bi, ab⟩ : ∃ A' : Option Addr, A' = (if ak = Int.toNat (minI i ((fileB f a).length : Int)) then ac else Option.map (fun z => Addr.add z ((Int.toNat (minI i ((fileB f a).length : Int))) * 1)) ac) := ⟨_, rfl⟩
 have bj := subL_len (xs := fileB f a) (a := Int.toNat (minI i ((fileB f a).length : Int))) (b := Int.toNat (minI ((fileB f a).length : Int) ((minI i ((fileB f a).length : Int)) + n))) (by omega)
 have bk : True := trivial
 refine Y.dk rfl rfl .g1 (q_sliceL (a := Int.toNat (minI i ((fileB f a).length : Int))) (b := Int.toNat (minI ((fileB f a).length : Int) ((minI i ((fileB f a).length : Int)) + n))) rfl u_22 sz_5 (.t .g6) ab (.inr ⟨_, _, rfl, (.t .g1)⟩) (.inr ⟨_, _, rfl, (.t .z)⟩) (by omega) (by omega) (by omega)) ?_
 refine Y.e (goes_sch rfl rfl) rfl (by decide) rfl (e_buildNil rfl u_22 (inz inf_5)) ?_
 rintro _ _ ⟨g25, rfl, rfl⟩
 refine Y.sk .g2 ?_
 refine Y.add (c := ownA kSl_5 ([] : (List UInt8)) [.slice (some ⟨g25, 0, none⟩) 0 0]) (fun w S => own_nil w S _) ?_
 refine Y.e (goes_sch rfl rfl) rfl (by decide) rfl (e_appendF (flat_scalar _ _ _) rfl u_22 inf_5 rfl (.t .z) (.t .g1) (.c .z .n) (fun w1 S1 tr => (ro_sub (a := Int.toNat (minI i ((fileB f a).length : Int))) (b := Int.toNat (minI ((fileB f a).length : Int) ((minI i ((fileB f a).length : Int)) + n))) ab (tr.own .g1) (by omega) (by omega))) (by first | omega | (simp only [List.length_append, List.length_take, List.length_nil, List.length_cons]; omega)) (by first | omega | (simp only [List.length_append, List.length_take, List.length_nil, List.length_cons]; omega))) ?_
 rintro _ _ rfl
 refine Y.ceq .z (List.nil_append _) ?_
 refine Y.know (WS.oform .z) ?_
 rintro ⟨an, ao, rfl, a3, a4, a5⟩
 refine Y.sk .g3 ?_
 refine Y.dk rfl rfl .g3 (q_build (cs := [.int .i64 0, .slice an (subL (fileB f a) (Int.toNat (minI i ((fileB f a).length : Int))) (Int.toNat (minI ((fileB f a).length : Int) ((minI i ((fileB f a).length : Int)) + n)))).length ao]) rfl bl_31 (pv1 (.t .z)) rfl) ?_
 refine Y.es (goes_sch rfl rfl) rfl (esW rfl (.t (.s16 (.s16 .g3))) (.t .z) .g4 sz_31 rfl rfl) ?_
 refine Y.sl rfl ?_
 refine Y.schN ?_
 refine Y.drawN (by kernel_rfl) ?_
 refine Y.then_ (Y.ret ?_)
 refine Y.ceq (x' := partB (fileB f a) i n) .g1 (by unfold partB; first | rfl | rw [minI_comm (minI i _ + n)]) ?_
 refine Y.doneS (resW rfl (.s16 (.s16 .g3)) ag_31 .g1 sz_31) (.c .z .n) ?_
 first | (rw [readR_b (by assumption)]; exact ⟨_, rfl, rfl⟩) | (rw [readR_3 (by assumption) (by omega)]; exact ⟨_, rfl, rfl⟩) | (rw [readR_0 (by assumption) (by omega)]; exact ⟨_, rfl, rfl⟩)

end Go.Proofs.YtmejbfmhaoilmaaGreat

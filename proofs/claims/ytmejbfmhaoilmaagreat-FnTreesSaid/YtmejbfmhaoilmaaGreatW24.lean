/- What is proved: contracts of functions, one a function. No condition. -/
import Derived.Test.YtmejbfmhaoilmaaGreatBase1
import Derived.Test.YtmejbfmhaoilmaaGreatW23
import Derived.Test.YtmejbfmhaoilmaaGreatTypesA
namespace Go.Proofs.YtmejbfmhaoilmaaGreat
open Go Go.RowKit
set_option linter.unusedVariables false
set_option linter.unusedSimpArgs false
set_option maxHeartbeats 1000000
set_option maxRecDepth 20000
theorem c_88 {w0 : World} {S0 : Bs} {b : (List UInt8)} {v0 : Value} (h0 : kSl_5.ro w0 (FF w0 S0) b [v0])  :
    Calls Tryz.prog 88 #[v0] w0 (TriPost w0 S0 (fun r l => r = .int .i64 b.length ∧ l = [])) := by
 obtain ⟨A0, c0, rfl, hl0, hm0, hb0, he0⟩ := ro_form h0
 refine Y.enter (N := 5) Tryz.func88 rfl rfl (by simp) [(0, .slice A0 b.length c0)] (by simp) (l0 := []) trivial ?_
 refine Y.seq (Y.region (Y.ql rfl (q_assign rfl .c) (Y.nt (Y.seq (Y.region (Y.mv rfl .g1 (Y.ql rfl (q_len rfl u_22 (.t .z)) ?_)))))))
 refine Y.er .g2 (Y.as rfl .z (Y.nt (Y.ret ?_)))
 refine Y.doneS (res1 rfl .z) .n ?_
 exact ⟨rfl, rfl⟩

theorem c_47 {w0 : World} {S0 : Bs} (a : Int) (b : Int)  :
    Calls Tryz.prog 47 #[.int .i64 a, .int .i64 b] w0 (TriPost w0 S0 (fun r l => r = .int .i64 (minI a b) ∧ l = [])) := by
 refine Y.enter (N := 10) Tryz.func47 rfl rfl (by simp) [(0, .int .i64 a), (1, .int .i64 b)] (by simp) (l0 := []) trivial ?_
 refine Y.seq (Y.region (Y.ql rfl (q_assign rfl .c) (Y.nt (Y.seq (Y.seq (Y.region (Y.mv rfl .g1 ?_)))))))
 refine Y.mv rfl .g3 (Y.ql rfl (q_lss rfl (.t .g1) (.t .z)) (Y.nt ?_))
 refine Y.condP (.t .z) (fun b1 => ?_) (fun b1 => ?_)
 refine Y.seq (Y.region (Y.mv rfl .g4 (Y.er .g4 (Y.as rfl .z (Y.nt (Y.ret (Y.thenR ?_)))))))
 refine Y.doneS (res1 rfl .z) .n ?_
 exact ⟨by first | (rw [minI_a (by assumption)]; done) | (rw [minI_b (by assumption)]; done), rfl⟩
 refine Y.skip (Y.then_ (Y.seq (Y.region (Y.mv rfl .g5 (Y.er .g4 (Y.as rfl .z (Y.nt ?_)))))))
 refine Y.ret ?_
 refine Y.doneS (res1 rfl .z) .n ?_
 exact ⟨by first | (rw [minI_a (by assumption)]; done) | (rw [minI_b (by assumption)]; done), rfl⟩

theorem c_141 {w0 : World} {S0 : Bs} {xs : (List DInode)} {v0 : Value} (h0 : kSl_44.ro w0 (FF w0 S0) xs [v0]) (hI : inodesFault xs = 0) :
    Calls Tryz.prog 141 #[v0] w0 (TriPost w0 S0 (fun r l => r = .agg (List.map (Value.int .i64) (wantTo xs xs.length)).toArray ∧ l = [])) := by
 obtain ⟨A0, c0, rfl, bj, bk, bm, bc⟩ := ro_form h0
 refine Y.enter (N := 33) Tryz.func141 rfl rfl (by simp) [(0, .slice A0 xs.length c0)] (by simp) (l0 := []) trivial ?_
 refine Y.seq (Y.region ?_)
 refine Y.el rfl (e_alloc (cs := List.map (Value.int .i64) (List.replicate 20 (0 : Int))) (n := 20) rfl z_163 rfl rfl) ?_
 rintro _ _ ⟨g2, rfl, rfl⟩
 refine Y.nt (Y.seq (Y.region ?_))
 refine Y.el rfl (e_alloc (cs := List.map (Value.int .i64) (List.replicate 20 (0 : Int))) (n := 20) rfl z_163 rfl rfl) ?_
 rintro _ _ ⟨g3, rfl, rfl⟩
 refine Y.nt (Y.seq (Y.seq (Y.region (Y.mv rfl .g2 (Y.ql rfl (q_len rfl u_24 (.t .z)) (Y.ql rfl (q_move rfl .c) (Y.nil ?_)))))))
 refine Y.then_ (Y.block ?_)
 refine Y.loopi (γ := Nat) (fun k => [(10, .int .i64 (k : Int)), (9, .int .i64 (xs.length : Int)), (8, .slice A0 xs.length c0), (3, .pointer (some ⟨g3, 0, none⟩)), (2, .pointer (some ⟨g2, 0, none⟩))]) (fun k => [rowA g3 163 20 1 (List.map (Value.int .i64) (wantTo xs k)), rowA g2 163 20 1 (List.map (Value.int .i64) (List.replicate 20 (0 : Int)))]) (fun k => k ≤ xs.length) (fun k => xs.length - k) 0 (Nat.zero_le _) (.c .z (.c .g1 (.c .g2 (.c .g3 (.c .g4 .n))))) (fun _ h => h.sel (.c .z (.c .z .n))) ?_
 rintro k hk
 have hwt : (wantTo xs k).length = 20 := wantTo_len k
 refine Y.seq (Y.region (Y.ql rfl (q_lss rfl (.t .z) (.t .g1)) (Y.nt (Y.seq ?_))))
 refine Y.condP (.t .z) (fun b4 => ?_) (fun b4 => ?_)
 refine Y.skip (Y.then_ (Y.seq (Y.block (Y.seq (Y.region ?_)))))
 obtain ⟨bd, ah, ai⟩ := bc (by omega)
 subst ah
 obtain ⟨x6, aj⟩ := get_ex (xs := xs) (j := k) (by omega)
 obtain ⟨be, ar, au, av⟩ := ai.elem aj
 obtain ⟨a7, a8, rfl, ak, al⟩ := kT_44_ro ar
 obtain ⟨aa, ab, rfl, aw, ax, ay, ac⟩ := ro_form ak
 obtain ⟨am, an, rfl, az, a0, a1, a2⟩ := ro_form al
 have bn := kind_at (i := ((k : Nat) : Int)) aj (by omega)
 have bo := ents_at (a := ((k : Nat) : Int)) aj (by omega)
 have ad := inodes_all hI _ (List.mem_of_getElem? aj)
 refine Y.ql rfl (q_indexAddr (j := k) rfl u_24 sz_44 (.t .g3) (.t .g1) rfl (by omega)) ?_
 refine Y.ql rfl (qE rfl ag_44 (.t .z) au av sz_44) ?_
 refine Y.el rfl (e_alloc rfl z_44 rfl rfl) ?_
 rintro _ _ ⟨g10, rfl, rfl⟩
 refine Y.es (goes_list rfl) rfl (esW rfl (.t .z) (.t .g1) .z sz_44 rfl rfl) ?_
 refine Y.nt (Y.seq (Y.region (Y.fa rfl .z fa_44_3 (Y.ld rfl ag_36 .z .z (Y.ql rfl (q_len rfl u_36 (.t .z)) (Y.ql rfl (q_move rfl .c) (Y.nil ?_)))))))
 refine Y.then_ (Y.block ?_)
 have a3 : wantTo xs k = wantI x6 (wantTo xs k) 0 := rfl
 refine Y.chEq .g1 (congrArg (fun z_ => (rowA g3 163 20 1 (List.map (Value.int .i64) (z_)) : Asn)) a3) ?_
 refine Y.loopi (γ := Nat) (fun q => [(17, .int .i64 (q : Int)), (16, .int .i64 (x6.blocks.length : Int)), (15, .slice aa x6.blocks.length ab), (5, .pointer (some ⟨g10, 0, none⟩)), (10, .int .i64 (k : Int)), (9, .int .i64 (xs.length : Int)), (8, .slice (some bd) xs.length c0), (3, .pointer (some ⟨g3, 0, none⟩)), (2, .pointer (some ⟨g2, 0, none⟩))]) (fun q => [rowA g3 163 20 1 (List.map (Value.int .i64) (wantI x6 (wantTo xs k) q)), rowA g10 44 5 1 [.int .i64 x6.kind, .int .i64 x6.links, .int .i64 x6.size, .slice aa x6.blocks.length ab, .slice am x6.ents.length an], rowA g2 163 20 1 (List.map (Value.int .i64) (List.replicate 20 (0 : Int)))]) (fun q => q ≤ x6.blocks.length) (fun q => x6.blocks.length - q) 0 (Nat.zero_le _) (.c .z (.c .g1 (.c .g2 (.c .g4 (.c .g8 (.c .g9 (.c .g10 (.c .g11 (.c .g12 .n))))))))) (fun _ h => h.sel (.c .z (.c .z (.c .z .n)))) ?_
 rintro q hq
 have hwi : (wantI x6 (wantTo xs k) q).length = 20 := (wantI_len q).trans (wantTo_len k)
 refine Y.seq (Y.region (Y.ql rfl (q_lss rfl (.t .z) (.t .g1)) (Y.nt (Y.seq ?_))))
 refine Y.condP (.t .z) (fun bf => ?_) (fun bf => ?_)
 refine Y.skip (Y.then_ (Y.seq (Y.block (Y.seq (Y.region (Y.mv rfl .g1 ?_))))))
 obtain ⟨bg, ae, af⟩ := ac (by omega)
 subst ae
 obtain ⟨a4, ag⟩ := get_ex (xs := x6.blocks) (j := q) (by omega)
 obtain ⟨a9, ao, ap, aq⟩ := af.elem ag
 obtain ⟨rfl, bh⟩ := ao
 have ba := (blocks_4 ad).2 _ (List.mem_of_getElem? ag)
 have p4x14 := (blocks_4 ad).1
 have bb := size_32 ad
 refine Y.ql rfl (q_indexAddr (j := q) rfl u_36 sz_2 (.t .g4) (.t .g2) rfl (by omega)) ?_
 refine Y.ql rfl (q_load rfl ag_2 (.t .z) (WS.el0 ap aq rfl)) (Y.as rfl .g2 (Y.as rfl .g1 (Y.nt (Y.region (Y.mv rfl .z (Y.fa rfl .g10 fa_44_2 (Y.ld rfl ag_2 .z .g1 ?_)))))))
 refine Y.mv rfl .g4 ?_
 refine Y.ql rfl (q_mul (c := ((q * 8 : Nat) : Int)) rfl (.t .z) .c (wr (by omega) (by omega) (by omega))) ?_
 refine Y.ql rfl (q_sub (c := x6.size - ((q * 8 : Nat) : Int)) rfl (.t .g2) (.t .z) (wr (by omega) (by omega) (by omega))) ?_
 have bi := minI_spec 8 (x6.size - ((q * 8 : Nat) : Int))
 refine Y.ql rfl (q_min rfl .c (.t .z)) ?_
 refine Y.ql rfl (q_indexAddrA (j := Int.toNat a4) rfl u_163 sz_2 (.t (.s16 .g4)) (.t .g6) (by omega) (by omega)) ?_
 refine Y.es (goes_list rfl) rfl (es_store (off := (Int.toNat a4) * 1) (cs := [.int .i64 (minI 8 (x6.size - ((q * 8 : Nat) : Int)))]) rfl sz_2 (.t .z) (.t .g1) rfl (ones rfl) .z (by have e1 : (wantI x6 (wantTo xs k) q).length = 20 := (by (first | rfl | exact List.length_replicate | exact wantTo_len _ | (rw [wantI_len]; exact wantTo_len _) | (rw [List.length_set, wantI_len]; exact wantTo_len _))); simp only [List.length_map, List.length_cons, List.length_nil]; omega) (put_arr (by have e1 : (wantI x6 (wantTo xs k) q).length = 20 := (by (first | rfl | exact List.length_replicate | exact wantTo_len _ | (rw [wantI_len]; exact wantTo_len _) | (rw [List.length_set, wantI_len]; exact wantTo_len _))); omega))) ?_
 have a5 : List.set (wantI x6 (wantTo xs k) q) (Int.toNat a4) (minI 8 (x6.size - ((q * 8 : Nat) : Int))) = wantI x6 (wantTo xs k) (q + 1) := (wantI_s ag)
 refine Y.chEq .z (congrArg (fun z_ => (rowA g3 163 20 1 (List.map (Value.int .i64) (z_)) : Asn)) a5) ?_
 refine Y.nil (Y.inBN (Y.then_ (Y.region ?_)))
 refine Y.ql rfl (q_add (c := ((q + 1 : Nat) : Int)) rfl (.t .g14) .c (wr (by omega) (by omega) (by omega))) ?_
 refine Y.er .g15 (Y.mv rfl .z (Y.nil ?_))
 refine Y.again (q + 1) (by omega) (by first | omega | (dsimp only; omega)) (.c .z (.c .g16 (.c (.s16 .g1) (.c (.s16 .g2) (.c (.s16 .g3) (.c (.s16 .g4) (.c (.s16 .g5) (.c (.s16 .g6) (.c (.s16 .g7) .n))))))))) (fun _ h => h.sel (.c .z (.c .z (.c .z .n))))
 refine Y.exit (Y.thenE (Y.thenE (Y.inB (Y.inBN (Y.then_ (Y.region ?_))))))
 refine Y.ql rfl (q_add (c := ((k + 1 : Nat) : Int)) rfl (.t .g5) .c (wr (by omega) (by omega) (by omega))) ?_
 refine Y.er .g6 (Y.mv rfl .z (Y.nil ?_))
 have a6 : wantI x6 (wantTo xs k) q = wantTo xs (k + 1) := (wantTo_s aj (by omega) (by omega))
 refine Y.chEq .z (congrArg (fun z_ => (rowA g3 163 20 1 (List.map (Value.int .i64) (z_)) : Asn)) a6) ?_
 refine Y.again (k + 1) (by omega) (by first | omega | (dsimp only; omega)) (.c .z (.c .g7 (.c .g8 (.c .g9 (.c .g10 .n))))) (fun _ h => h.sel (.c .z (.c .g1 .n)))
 refine Y.exit (Y.thenE (Y.thenE (Y.inB (Y.then_ (Y.seq (Y.region ?_))))))
 refine Y.ql rfl (q_loadA (cs := List.map (Value.int .i64) (wantTo xs k)) rfl ag_163 (by rw [List.length_map, show (wantTo xs k).length = 20 by first | rfl | exact List.length_replicate | exact wantTo_len _ | (rw [wantI_len]; exact wantTo_len _) | (rw [List.length_set, wantI_len]; exact wantTo_len _)]; exact sz_163) (.t .g4) (WS.rows0 .z (fun i u h => h))) ?_
 refine Y.es (goes_list rfl) rfl (es_store (off := 0) (cs := List.map (Value.int .i64) (wantTo xs k)) rfl (by rw [List.length_map, show (wantTo xs k).length = 20 by (first | rfl | exact List.length_replicate | exact wantTo_len _ | (rw [wantI_len]; exact wantTo_len _) | (rw [List.length_set, wantI_len]; exact wantTo_len _))]; exact sz_163) (.t .g6) (.t .z) rfl (ones_map _) .g1 (by have e1 : (wantTo xs k).length = 20 := (by (first | rfl | exact List.length_replicate | exact wantTo_len _ | (rw [wantI_len]; exact wantTo_len _) | (rw [List.length_set, wantI_len]; exact wantTo_len _))); have e2 : (List.replicate 20 (0 : Int)).length = 20 := (by (first | rfl | exact List.length_replicate | exact wantTo_len _ | (rw [wantI_len]; exact wantTo_len _) | (rw [List.length_set, wantI_len]; exact wantTo_len _))); rw [List.length_map, List.length_map, e1, e2]; decide) (put_whole (by have e1 : (wantTo xs k).length = 20 := (by (first | rfl | exact List.length_replicate | exact wantTo_len _ | (rw [wantI_len]; exact wantTo_len _) | (rw [List.length_set, wantI_len]; exact wantTo_len _))); have e2 : (List.replicate 20 (0 : Int)).length = 20 := (by (first | rfl | exact List.length_replicate | exact wantTo_len _ | (rw [wantI_len]; exact wantTo_len _) | (rw [List.length_set, wantI_len]; exact wantTo_len _))); rw [List.length_map, List.length_map, e1, e2]))) ?_
 refine Y.nt (Y.ret ?_)
 refine Y.doneS (resC (cs := List.map (Value.int .i64) (wantTo xs k)) rfl .g6 ag_163 (by rw [List.length_map, show (wantTo xs k).length = 20 by first | rfl | exact List.length_replicate | exact wantTo_len _ | (rw [wantI_len]; exact wantTo_len _) | (rw [List.length_set, wantI_len]; exact wantTo_len _)]; exact sz_163) (WS.rows0 (cs := List.map (Value.int .i64) (wantTo xs k)) .z (fun _ _ h => h))) .n ?_
 exact ⟨by rw [show k = xs.length by omega], rfl⟩

theorem c_101 {w0 : World} {S0 : Bs} {f : DFs} {ao : List Value} (h0 : kT_27.ro w0 (FF w0 S0) f ao) (ht : treeFault f = 0) :
    Calls Tryz.prog 101 #[.agg ao.toArray] w0 (TriPost w0 S0 (fun r l => r = .int .i64 (dataF f) ∧ l = [])) := by
 obtain ⟨ay, az, rfl, af, aj⟩ := kT_27_ro h0
 obtain ⟨aa, ab, rfl, ap, aq, ar, au⟩ := ro_form af
 obtain ⟨ac, ad, rfl, av, aw, ax, ag⟩ := ro_form aj
 have hI := treeI ht
 have hG := treeG ht
 have a7 := treeL ht
 have a8 := inodes_10 hI
 have a0 := data_20 ht
 refine Y.enter (N := 21) Tryz.func101 rfl rfl (by simp) [(0, .agg #[.slice aa f.inodes.length ab, .slice ac f.data.length ad])] (by simp) (l0 := []) trivial ?_
 refine Y.seq (Y.region ?_)
 refine Y.el rfl (e_box (cs := [.slice aa f.inodes.length ab, .slice ac f.data.length ad]) (n := 2) rfl (.t .z) rfl rfl) ?_
 rintro _ _ ⟨g3, rfl, rfl⟩
 refine Y.ql rfl (q_assign rfl .c) (Y.nt (Y.seq (Y.seq (Y.region (Y.fa rfl .g1 fa_27_0 (Y.ld rfl ag_24 .z .z ?_))))))
 refine Y.cl rfl rfl Tryz.func141 rfl rfl (args1 (.t .z)) .n (fun _ _ hs tr => c_141 (tr.ctx af) (by assumption)) ?_
 rintro _ _ ⟨rfl, rfl⟩
 refine Y.cat .n ?_
 refine Y.ql rfl (q_move rfl .c) (Y.nt (Y.block ?_))
 refine Y.loopi (γ := Nat) (fun k => [(8, .int .i64 (k : Int)), (7, .agg (List.map (Value.int .i64) (wantTo f.inodes f.inodes.length)).toArray), (1, .pointer (some ⟨g3, 0, none⟩))]) (fun k => [rowA g3 27 2 1 [.slice aa f.inodes.length ab, .slice ac f.data.length ad]]) (fun k => k ≤ 20 ∧ ∀ (j : Nat) (b : List UInt8), j < k → f.data[j]? = some b → (lens f)[j]? = some (b.length : Int)) (fun k => 20 - k) 0 ⟨Nat.zero_le _, all_zero (q := fun j (b : List UInt8) => (lens f)[j]? = some (b.length : Int))⟩ (.c .z (.c .g1 (.c .g5 .n))) (fun _ h => h.sel (.c .z .n)) ?_
 rintro k ⟨hk, hallk⟩
 have hwl : (wantTo f.inodes f.inodes.length).length = 20 := wantTo_len _
 refine Y.seq (Y.region (Y.ql rfl (q_lss rfl (.t .z) .c) (Y.nt (Y.seq ?_))))
 refine Y.condP (.t .z) (fun b4 => ?_) (fun b4 => ?_)
 refine Y.skip (Y.then_ (Y.seq (Y.block (Y.seq (Y.region (Y.mv rfl .g1 ?_))))))
 obtain ⟨x5, ak⟩ := get_ex (xs := wantTo f.inodes f.inodes.length) (j := k) (by omega)
 refine Y.ql rfl (q_indexArr (j := k) rfl u_163 sz_2 ag_2 (.t .g3) (.t .g2) rfl ak (by first | rfl | exact List.length_replicate | exact wantTo_len _ | (rw [wantI_len]; exact wantTo_len _) | (rw [List.length_set, wantI_len]; exact wantTo_len _))) ?_
 refine Y.as rfl .g1 (Y.as rfl .g1 (Y.nt (Y.seq (Y.region (Y.fa rfl .g7 fa_27_1 (Y.ld rfl ag_25 .z .z (Y.mv rfl .g3 ?_)))))))
 obtain ⟨a9, ah, ai⟩ := ag (by omega)
 subst ah
 obtain ⟨x7, al⟩ := get_ex (xs := f.data) (j := k) (by omega)
 obtain ⟨a1, ae, am, an⟩ := ai.elem al
 obtain ⟨ba, rfl⟩ := sl_one ae
 obtain ⟨bb, bc, rfl, a2, a3, a4, a5⟩ := ro_form ae
 refine Y.ql rfl (q_indexAddr (j := k) rfl u_25 sz_22 (.t .g1) (.t .z) rfl (by omega)) ?_
 refine Y.ql rfl (q_load rfl ag_22 (.t .z) (WS.el0 am an rfl)) ?_
 refine Y.cl rfl rfl Tryz.func88 rfl rfl (args1 (.t .z)) .n (fun _ _ hs tr => c_88 (tr.ctx ae)) ?_
 rintro _ _ ⟨rfl, rfl⟩
 refine Y.cat .n ?_
 refine Y.mv rfl .g6 (Y.ql rfl (q_neq rfl (.t .g1) (.t .z)) (Y.nt ?_))
 refine Y.condN (.t .z) (fun a6 => ?_) (fun a6 => ?_)
 refine Y.seq (Y.region (Y.ql rfl (q_assign rfl .c) (Y.nt (Y.ret (Y.inBR (Y.thenR (Y.thenR ?_)))))))
 refine Y.inBR (Y.thenR ?_)
 refine Y.doneS (res1 rfl .z) .n ?_
 exact ⟨by first | (rw [dataF_1 (data_no al ak (by omega))]; done) | (rw [dataF_0 (data_yes (k := k) (by omega) hallk)]; done), rfl⟩
 refine Y.skip (Y.inBN (Y.then_ (Y.region ?_)))
 refine Y.ql rfl (q_add (c := ((k + 1 : Nat) : Int)) rfl (.t .g13) .c (wr (by omega) (by omega) (by omega))) ?_
 refine Y.er .g14 (Y.mv rfl .z (Y.nil ?_))
 refine Y.again (k + 1) ⟨by omega, data_s hallk al ak (by omega)⟩ (by first | omega | (dsimp only; omega)) (.c .z (.c .g15 (.c .g16 .n))) (fun _ h => h.sel (.c .z .n))
 refine Y.exit (Y.thenE (Y.thenE (Y.inB (Y.then_ (Y.seq (Y.region (Y.ql rfl (q_assign rfl .c) (Y.nil ?_))))))))
 refine Y.then_ (Y.ret ?_)
 refine Y.doneS (res1 rfl .z) .n ?_
 exact ⟨by first | (rw [dataF_0 (data_yes (k := k) (by omega) hallk)]; done), rfl⟩

theorem c_103 {w0 : World} {S0 : Bs} {f : DFs} {ax : Addr} (h0 : PtrRo kT_27 w0 (FF w0 S0) ax f) (ht : treeFault f = 0) :
    Calls Tryz.prog 103 #[.pointer (some ax)] w0 (TriPost w0 S0 (fun r l => r = .bool (decide (DataOk f)) ∧ l = [])) := by
 obtain ⟨c4, be, ce, bf⟩ := id h0
 obtain ⟨cf, cg, rfl, bg, bh⟩ := kT_27_ro ce
 obtain ⟨ch, ci, rfl, bs, bt, bu, ay⟩ := ro_form bg
 obtain ⟨cj, ck, rfl, bv, bw, bx, az⟩ := ro_form bh
 have hI := treeI ht
 have hG := treeG ht
 have c5 := treeL ht
 have c6 := inodes_10 hI
 have cm := data_20 ht
 refine Y.enter (N := 72) Tryz.func103 rfl rfl (by simp) [(0, .pointer (some ax))] (by simp) (l0 := []) trivial ?_
 refine Y.seq (Y.region (Y.ql rfl (q_assign rfl .c) (Y.nt (Y.seq (Y.region ?_)))))
 refine Y.el rfl (e_makeSlice (n := 20) (x0 := (0 : Int)) rfl u_36 inf_2 rfl (fun _ _ => ⟨rfl, trivial⟩) .c .c (by omega) (by omega)) ?_
 rintro _ _ rfl
 refine Y.know (WS.oform .z) ?_
 rintro ⟨cn, co, rfl, cp, cq, cr⟩
 refine Y.as rfl .z (Y.nt (Y.seq (Y.seq (Y.region (Y.ql rfl (q_assign rfl .c) (Y.nt ?_))))))
 refine Y.block ?_
 refine Y.loopi (γ := Nat × (Option Addr) × Nat) (fun ⟨k, ab, ac⟩ => [(4, .int .i64 (k : Int)), (3, .slice ab (wantTo f.inodes k).length ac), (2, .bool false), (0, .pointer (some ax))]) (fun ⟨k, ab, ac⟩ => [ownA kSl_2 (wantTo f.inodes k) [.slice ab (wantTo f.inodes k).length ac]]) (fun ⟨k, ab, ac⟩ => k ≤ f.inodes.length) (fun ⟨k, ab, ac⟩ => f.inodes.length - k) (0, cn, co) (Nat.zero_le _) (.c .z (.c .g1 (.c .g3 (.c .g4 .n)))) (fun _ h => h.sel (.c .z .n)) ?_
 rintro ⟨k, ab, ac⟩ hk
 have hwt : (wantTo f.inodes k).length = 20 := wantTo_len k
 refine Y.seq (Y.seq (Y.region (Y.mv rfl .z (Y.mv rfl .g4 (Y.nc rfl .z (Y.fa rfl .z fa_27_0 (Y.le rfl ag_24 .z be bf (Y.ql rfl (q_len rfl u_24 (.t .z)) ?_))))))))
 refine Y.ql rfl (q_lss rfl (.t .g5) (.t .z)) (Y.nt ?_)
 refine Y.condP (.t .z) (fun b5 => ?_) (fun b5 => ?_)
 refine Y.skip (Y.then_ (Y.seq (Y.block (Y.seq (Y.region (Y.mv rfl .g10 (Y.nc rfl .z (Y.fa rfl .z fa_27_0 ?_))))))))
 refine Y.le rfl ag_24 .z be bf (Y.mv rfl .g11 ?_)
 obtain ⟨cs, a0, a1⟩ := ay (by omega)
 subst a0
 obtain ⟨x7, a2⟩ := get_ex (xs := f.inodes) (j := k) (by first | omega | (simp <;> omega))
 obtain ⟨ct, bi, ai, aj⟩ := a1.elem a2
 obtain ⟨bz, b0, rfl, a3, a4⟩ := kT_44_ro bi
 obtain ⟨b1, b2, rfl, bj, bk, bm, ak⟩ := ro_form a3
 obtain ⟨b3, b4, rfl, bn, bo, bp, bq⟩ := ro_form a4
 have c7 := kind_at (i := ((k : Nat) : Int)) a2 (by omega)
 have c8 := ents_at (a := ((k : Nat) : Int)) a2 (by omega)
 have al := inodes_all hI _ (List.mem_of_getElem? a2)
 refine Y.ql rfl (q_indexAddr (j := k) rfl u_24 sz_44 (.t .g1) (.t .z) rfl (by first | omega | (simp <;> omega))) ?_
 refine Y.as rfl .z (Y.nt (Y.seq (Y.region (Y.ql rfl (q_assign rfl .c) (Y.nt (Y.block ?_))))))
 have a5 : wantTo f.inodes k = wantI x7 (wantTo f.inodes k) 0 := rfl
 refine Y.eq .g16 (congrArg (fun z_ => (.slice ab (z_).length ac : Value)) a5) ?_
 refine Y.chEq .z (congrArg (fun z_ => (ownA kSl_2 (z_) [.slice ab (z_).length ac] : Asn)) a5) ?_
 refine Y.loopi (γ := Nat × (Option Addr) × Nat) (fun ⟨q, ad, aa⟩ => [(3, .slice ad (wantI x7 (wantTo f.inodes k) q).length aa), (6, .int .i64 (q : Int)), (5, .pointer (some (Addr.add cs (k * 5)))), (4, .int .i64 (k : Int)), (2, .bool false), (0, .pointer (some ax))]) (fun ⟨q, ad, aa⟩ => [ownA kSl_2 (wantI x7 (wantTo f.inodes k) q) [.slice ad (wantI x7 (wantTo f.inodes k) q).length aa]]) (fun ⟨q, ad, aa⟩ => q ≤ x7.blocks.length) (fun ⟨q, ad, aa⟩ => x7.blocks.length - q) (0, ab, ac) (Nat.zero_le _) (.c .z (.c .g1 (.c .g2 (.c .g16 (.c (.s16 .g1) (.c (.s16 .g2) .n)))))) (fun _ h => h.sel (.c .z .n)) ?_
 rintro ⟨q, ad, aa⟩ hq
 have hwi : (wantI x7 (wantTo f.inodes k) q).length = 20 := (wantI_len q).trans (wantTo_len k)
 refine Y.seq (Y.seq (Y.region (Y.mv rfl .g1 (Y.mv rfl .g3 (Y.nc rfl .z (Y.fa rfl .z fa_44_3 (Y.le rfl ag_36 .z ai aj (Y.ql rfl (q_len rfl u_36 (.t .z)) ?_))))))))
 refine Y.ql rfl (q_lss rfl (.t .g5) (.t .z)) (Y.nt ?_)
 refine Y.condP (.t .z) (fun cu => ?_) (fun cu => ?_)
 refine Y.skip (Y.then_ (Y.seq (Y.block ?_)))
 refine Y.dr .g1 17 mixo ?_
 refine Y.sc (qs 0 15 ++ [(15, false), (16, true), (17, false)]) (by kernel_rfl) ?_
 refine Y.dm rfl rfl .g1 .g7 (Y.dm rfl rfl .g1 .g10 (Y.dn rfl rfl .g1 .z (Y.df rfl rfl .g1 .z fa_44_3 (Y.de rfl rfl .g1 ag_36 .z ai aj (Y.dm rfl rfl .g1 .g13 ?_)))))
 obtain ⟨cv, am, an⟩ := ak (by omega)
 subst am
 obtain ⟨a6, ao⟩ := get_ex (xs := x7.blocks) (j := q) (by first | omega | (simp <;> omega))
 obtain ⟨b6, a7, a8, a9⟩ := an.elem ao
 obtain ⟨rfl, cw⟩ := a7
 have b7 := (blocks_4 al).2 _ (List.mem_of_getElem? ao)
 have p4x14 := (blocks_4 al).1
 have b8 := size_32 al
 refine Y.dk rfl rfl .g1 (q_indexAddr (j := q) rfl u_36 sz_2 (.t .g1) (.t .z) rfl (by first | omega | (simp <;> omega))) ?_
 refine Y.dk rfl rfl .g1 (q_load rfl ag_2 (.t .z) (WS.el0 a8 a9 rfl)) (Y.dm rfl rfl .g1 (.s16 .g1) (Y.dn rfl rfl .g1 .z (Y.df rfl rfl .g1 .z fa_44_2 (Y.de rfl rfl .g1 ag_2 .z ai aj (Y.dm rfl rfl .g1 (.s16 .g4) ?_)))))
 refine Y.dk rfl rfl .g1 (q_mul (c := ((q * 8 : Nat) : Int)) rfl (.t .z) .c (wr (by omega) (by omega) (by omega))) ?_
 refine Y.dk rfl rfl .g1 (q_sub (c := x7.size - ((q * 8 : Nat) : Int)) rfl (.t .g2) (.t .z) (wr (by omega) (by omega) (by omega))) ?_
 refine Y.call (goes_sch rfl rfl) rfl (by decide) rfl (c_call rfl Tryz.func47 rfl rfl (args2 .c (.t .z))) .n (fun _ _ hs tr => c_47 _ _) ?_
 rintro _ _ ⟨rfl, rfl⟩
 refine Y.cat .n ?_
 have cx := minI_spec 8 (x7.size - ((q * 8 : Nat) : Int))
 refine Y.sk .g1 ?_
 refine Y.know (WS.oad .z (by first | omega | (simp <;> omega))) ?_
 rintro ⟨ae, rfl⟩
 refine Y.dk rfl rfl .g1 (q_indexAddr (j := Int.toNat a6) rfl u_36 sz_2 (.t .g15) (.t .g8) (by omega) (by first | omega | (simp <;> omega))) ?_
 refine Y.add (c := ownA (kint .i64) (minI 8 (x7.size - ((q * 8 : Nat) : Int))) [.int .i64 (minI 8 (x7.size - ((q * 8 : Nat) : Int)))]) (fun _ _ => ⟨rfl, trivial⟩) ?_
 refine Y.es (goes_sch rfl rfl) rfl (es_set (j := Int.toNat a6) rfl sz_2 (.t .z) (.t .g1) rfl (.c .g1 (.c .z .n)) (by first | omega | (simp <;> omega))) ?_
 have ap : (wantI x7 (wantTo f.inodes k) q).length = (List.set (wantI x7 (wantTo f.inodes k) q) (Int.toNat a6) (minI 8 (x7.size - ((q * 8 : Nat) : Int)))).length := (List.length_set ..).symm
 refine Y.eq .g16 (congrArg (fun z_ => (.slice (some ae) z_ aa : Value)) ap) ?_
 refine Y.eq (.s16 .g8) (congrArg (fun z_ => (.slice (some ae) z_ aa : Value)) ap) ?_
 refine Y.chEq .z (congrArg (fun z_ => (ownA kSl_2 (List.set (wantI x7 (wantTo f.inodes k) q) (Int.toNat a6) (minI 8 (x7.size - ((q * 8 : Nat) : Int)))) [.slice (some ae) z_ aa] : Asn)) ap) ?_
 have aq : List.set (wantI x7 (wantTo f.inodes k) q) (Int.toNat a6) (minI 8 (x7.size - ((q * 8 : Nat) : Int))) = wantI x7 (wantTo f.inodes k) (q + 1) := (wantI_s ao)
 refine Y.eq .z (congrArg (fun z_ => (.slice (some ae) (z_).length aa : Value)) aq) ?_
 refine Y.eq .g1 (congrArg (fun z_ => (.slice (some ae) (z_).length aa : Value)) aq) ?_
 refine Y.chEq .z (congrArg (fun z_ => (ownA kSl_2 (z_) [.slice (some ae) (z_).length aa] : Asn)) aq) ?_
 refine Y.sl rfl ?_
 refine Y.schN ?_
 refine Y.drawN (by kernel_rfl) ?_
 refine Y.inBN (Y.then_ (Y.region (Y.mv rfl (.s16 .g9) ?_)))
 refine Y.ql rfl (q_add (c := ((q + 1 : Nat) : Int)) rfl (.t .z) .c (wr (by omega) (by omega) (by omega))) ?_
 refine Y.er (.s16 .g11) (Y.as rfl .z (Y.nil ?_))
 refine Y.again ((q + 1), (some ae), aa) (by omega) (by first | omega | (dsimp only; omega)) (.c .g4 (.c .z (.c (.s16 .g12) (.c (.s16 .g13) (.c (.s16 .g14) (.c (.s16 .g15) .n)))))) (fun _ h => h.sel (.c .z .n))
 refine Y.exit (Y.thenE (Y.thenE (Y.inB (Y.inBN (Y.then_ (Y.region (Y.mv rfl .g10 ?_)))))))
 refine Y.ql rfl (q_add (c := ((k + 1 : Nat) : Int)) rfl (.t .z) .c (wr (by omega) (by omega) (by omega))) ?_
 refine Y.er .g12 (Y.as rfl .z (Y.nil ?_))
 have ba : wantI x7 (wantTo f.inodes k) q = wantTo f.inodes (k + 1) := (wantTo_s a2 (by omega) (by omega))
 refine Y.eq .g10 (congrArg (fun z_ => (.slice ad (z_).length aa : Value)) ba) ?_
 refine Y.chEq .z (congrArg (fun z_ => (ownA kSl_2 (z_) [.slice ad (z_).length aa] : Asn)) ba) ?_
 refine Y.again ((k + 1), ad, aa) (by omega) (by first | omega | (dsimp only; omega)) (.c .g1 (.c .z (.c .g13 (.c .g14 .n)))) (fun _ h => h.sel (.c .z .n))
 refine Y.exit (Y.thenE (Y.thenE (Y.inB (Y.then_ (Y.seq (Y.seq (Y.region (Y.ql rfl (q_assign rfl .c) ?_))))))))
 refine Y.nt (Y.block ?_)
 have bb : wantTo f.inodes k = lens f := (by rw [show k = f.inodes.length by omega])
 refine Y.eq .g9 (congrArg (fun z_ => (.slice ab (z_).length ac : Value)) bb) ?_
 refine Y.chEq .z (congrArg (fun z_ => (ownA kSl_2 (z_) [.slice ab (z_).length ac] : Asn)) bb) ?_
 refine Y.loopi (γ := Nat × (Option Addr) × Nat) (fun ⟨z, ag, af⟩ => [(3, .slice ag (lens f).length af), (7, .int .i64 (z : Int)), (0, .pointer (some ax))]) (fun ⟨z, ag, af⟩ => [ownA kSl_2 (lens f) [.slice ag (lens f).length af]]) (fun ⟨z, ag, af⟩ => z ≤ f.data.length ∧ ∀ (j : Nat) (b : List UInt8), j < z → f.data[j]? = some b → (lens f)[j]? = some (b.length : Int)) (fun ⟨z, ag, af⟩ => f.data.length - z) (0, ab, ac) ⟨Nat.zero_le _, all_zero (q := fun j (b : List UInt8) => (lens f)[j]? = some (b.length : Int))⟩ (.c .z (.c .g1 (.c .g11 .n))) (fun _ h => h.sel (.c .z .n)) ?_
 rintro ⟨z, ag, af⟩ ⟨hz, hallz⟩
 have hwl : (lens f).length = 20 := wantTo_len _
 refine Y.seq (Y.seq (Y.region (Y.mv rfl .g1 (Y.mv rfl .g3 (Y.nc rfl .z (Y.fa rfl .z fa_27_1 (Y.le rfl ag_25 .z be bf (Y.ql rfl (q_len rfl u_25 (.t .z)) ?_))))))))
 refine Y.ql rfl (q_lss rfl (.t .g5) (.t .z)) (Y.nt ?_)
 refine Y.condP (.t .z) (fun cy => ?_) (fun cy => ?_)
 refine Y.skip (Y.then_ (Y.seq (Y.block (Y.seq ?_))))
 refine Y.dr .z 13 mixo ?_
 refine Y.sc (qs 0 13) (by kernel_rfl) ?_
 refine Y.dm rfl rfl .z .g9 (Y.dn rfl rfl .z .z (Y.df rfl rfl .z .z fa_27_1 (Y.de rfl rfl .z ag_25 .z be bf (Y.dm rfl rfl .z .g12 ?_))))
 obtain ⟨cz, ar, au⟩ := az (by omega)
 subst ar
 obtain ⟨c9, av⟩ := get_ex (xs := f.data) (j := z) (by first | omega | (simp <;> omega))
 obtain ⟨b9, ah, bc, bd⟩ := au.elem av
 obtain ⟨c0, rfl⟩ := sl_one ah
 obtain ⟨c1, c2, rfl, ca, cb, cc, cd⟩ := ro_form ah
 refine Y.dk rfl rfl .z (q_indexAddr (j := z) rfl u_25 sz_22 (.t .g1) (.t .z) rfl (by first | omega | (simp <;> omega))) ?_
 refine Y.dk rfl rfl .z (q_load rfl ag_22 (.t .z) (WS.el0 bc bd rfl)) (Y.dk rfl rfl .z (q_len rfl u_22 (.t .z)) (Y.dm rfl rfl .z .g15 (Y.dm rfl rfl .z (.s16 .g1) ?_)))
 refine Y.know (WS.oad .z (by first | omega | (simp <;> omega))) ?_
 rintro ⟨br, rfl⟩
 refine Y.dk rfl rfl .z (q_indexAddr (j := z) rfl u_36 sz_2 (.t .g1) (.t .z) rfl (by first | omega | (simp <;> omega))) ?_
 obtain ⟨da, aw⟩ := get_ex (xs := lens f) (j := z) (by first | omega | (simp <;> omega))
 refine Y.dk rfl rfl .z (q_load rfl ag_2 (.t .z) (WS.oel .z aw)) (Y.dk rfl rfl .z (q_neq rfl (.t .g4) (.t .z)) (Y.schN ?_))
 refine Y.drawN (by kernel_rfl) ?_
 refine Y.then_ ?_
 refine Y.condN (.t .z) (fun c3 => ?_) (fun c3 => ?_)
 refine Y.seq (Y.region (Y.ql rfl (q_assign rfl .c) (Y.nt (Y.ret (Y.inBR (Y.thenR (Y.thenR ?_)))))))
 refine Y.inBR (Y.thenR ?_)
 refine Y.doneS (res1 rfl .z) .n ?_
 exact ⟨by first | (rw [decide_eq_true (data_yes (k := z) (by omega) hallz)]; done) | (rw [decide_eq_false (data_no av aw (by omega))]; done), rfl⟩
 refine Y.skip (Y.inBN (Y.then_ (Y.region (Y.mv rfl (.s16 .g5) ?_))))
 refine Y.ql rfl (q_add (c := ((z + 1 : Nat) : Int)) rfl (.t .z) .c (wr (by omega) (by omega) (by omega))) ?_
 refine Y.er (.s16 .g7) (Y.as rfl .z (Y.nil ?_))
 refine Y.again ((z + 1), (some br), af) ⟨by omega, data_s hallz av aw (by omega)⟩ (by first | omega | (dsimp only; omega)) (.c (.s16 .g7) (.c .z (.c (.s16 .g8) .n))) (fun _ h => h.sel (.c .z .n))
 refine Y.exit (Y.thenE (Y.thenE (Y.inB (Y.then_ (Y.seq (Y.region (Y.ql rfl (q_assign rfl .c) (Y.nil ?_))))))))
 refine Y.then_ (Y.ret ?_)
 refine Y.doneS (res1 rfl .z) .n ?_
 exact ⟨by first | (rw [decide_eq_true (data_yes (k := z) (by omega) hallz)]; done), rfl⟩

theorem c_54 {w0 : World} {S0 : Bs} {f : DFs} {ag : List Value} (h0 : kT_27.ro w0 (FF w0 S0) f ag)  :
    Calls Tryz.prog 54 #[.agg ag.toArray] w0 (TriPost w0 S0 (fun r l => r = .int .i64 (fsFault f) ∧ l = [])) := by
 obtain ⟨ap, aq, rfl, aa, ab⟩ := kT_27_ro h0
 obtain ⟨ac, ad, rfl, ah, ai, aj, ak⟩ := ro_form aa
 obtain ⟨ae, af, rfl, al, am, an, ao⟩ := ro_form ab
 refine Y.enter (N := 17) Tryz.func54 rfl rfl (by simp) [(0, .agg #[.slice ac f.inodes.length ad, .slice ae f.data.length af])] (by simp) (l0 := []) trivial ?_
 refine Y.seq (Y.region ?_)
 refine Y.el rfl (e_box (cs := [.slice ac f.inodes.length ad, .slice ae f.data.length af]) (n := 2) rfl (.t .z) rfl rfl) ?_
 rintro _ _ ⟨g3, rfl, rfl⟩
 refine Y.ql rfl (q_assign rfl .c) (Y.nt (Y.seq (Y.seq (Y.region (Y.ql rfl (qW rfl ag_27 (.t .g1) .z sz_27) ?_)))))
 refine Y.cl rfl rfl Tryz.func50 rfl rfl (args1 (.t .z)) .n (fun _ _ hs tr => c_50 (kT_27_mk f (tr.ctx aa) (tr.ctx ab))) ?_
 rintro _ _ ⟨rfl, rfl⟩
 refine Y.cat .n ?_
 refine Y.as rfl .z (Y.nt (Y.seq (Y.region (Y.mv rfl .z (Y.ql rfl (q_neq rfl (.t .z) .c) (Y.nt ?_))))))
 refine Y.condN (.t .z) (fun b4 => ?_) (fun b4 => ?_)
 refine Y.seq (Y.region (Y.mv rfl .g2 (Y.er .g6 (Y.as rfl .z (Y.nt (Y.ret (Y.thenR ?_)))))))
 refine Y.doneS (res1 rfl .z) .n ?_
 exact ⟨by first | (rw [fsFault_t (by assumption)]; done) | (rw [fsFault_l (by assumption) (by assumption)]; done) | (rw [fsFault_d (by assumption) (by assumption)]; done) | (rw [fsFault_1 (by assumption) (.inl (by assumption))]; done) | (rw [fsFault_1 (by assumption) (.inr (by assumption))]; done) | (rw [fsFault_0 (by assumption) (by assumption) (by assumption)]; done), rfl⟩
 refine Y.skip (Y.then_ (Y.seq (Y.seq (Y.region (Y.ql rfl (qW rfl ag_27 (.t .g6) .z sz_27) ?_)))))
 refine Y.cl rfl rfl Tryz.func100 rfl rfl (args1 (.t .z)) .n (fun _ _ hs tr => c_100 (kT_27_mk f (tr.ctx aa) (tr.ctx ab)) (by assumption)) ?_
 rintro _ _ ⟨rfl, rfl⟩
 refine Y.cat .n ?_
 refine Y.as rfl .z (Y.nt (Y.seq (Y.region (Y.mv rfl .z (Y.ql rfl (q_neq rfl (.t .z) .c) (Y.nt ?_))))))
 refine Y.condN (.t .z) (fun b5 => ?_) (fun b5 => ?_)
 refine Y.seq (Y.region (Y.mv rfl .g2 (Y.er .g11 (Y.as rfl .z (Y.nt (Y.ret (Y.thenR ?_)))))))
 refine Y.doneS (res1 rfl .z) .n ?_
 exact ⟨by first | (rw [fsFault_t (by assumption)]; done) | (rw [fsFault_l (by assumption) (by assumption)]; done) | (rw [fsFault_d (by assumption) (by assumption)]; done) | (rw [fsFault_1 (by assumption) (.inl (by assumption))]; done) | (rw [fsFault_1 (by assumption) (.inr (by assumption))]; done) | (rw [fsFault_0 (by assumption) (by assumption) (by assumption)]; done), rfl⟩
 refine Y.skip (Y.then_ (Y.seq (Y.region (Y.ql rfl (qW rfl ag_27 (.t .g11) .z sz_27) ?_))))
 refine Y.cl rfl rfl Tryz.func101 rfl rfl (args1 (.t .z)) .n (fun _ _ hs tr => c_101 (kT_27_mk f (tr.ctx aa) (tr.ctx ab)) (by assumption)) ?_
 rintro _ _ ⟨rfl, rfl⟩
 refine Y.cat .n ?_
 refine Y.er .g12 (Y.as rfl .z (Y.nt (Y.ret ?_)))
 refine Y.doneS (res1 rfl .z) .n ?_
 exact ⟨by first | (rw [fsFault_t (by assumption)]; done) | (rw [fsFault_l (by assumption) (by assumption)]; done) | (rw [fsFault_d (by assumption) (by assumption)]; done) | (rw [fsFault_1 (by assumption) (.inl (by assumption))]; done) | (rw [fsFault_1 (by assumption) (.inr (by assumption))]; done) | (rw [fsFault_0 (by assumption) (by assumption) (by assumption)]; done), rfl⟩

theorem c_56 {w0 : World} {S0 : Bs} {f : DFs} {aa : Addr} (h0 : PtrRo kT_27 w0 (FF w0 S0) aa f)  :
    Calls Tryz.prog 56 #[.pointer (some aa)] w0 (TriPost w0 S0 (fun r l => r = .int .i64 (fsFault f) ∧ l = [])) := by
 obtain ⟨au, av, al, aw⟩ := id h0
 obtain ⟨am, an, rfl, ab, ac⟩ := kT_27_ro al
 obtain ⟨ao, ap, rfl, ad, ae, af, ag⟩ := ro_form ab
 obtain ⟨aq, ar, rfl, ah, ai, aj, ak⟩ := ro_form ac
 refine Y.enter (N := 17) Tryz.func56 rfl rfl (by simp) [(0, .pointer (some aa))] (by simp) (l0 := []) trivial ?_
 refine Y.seq (Y.region (Y.ql rfl (q_assign rfl .c) (Y.nt (Y.seq (Y.seq (Y.region (Y.mv rfl .g1 ?_)))))))
 refine Y.cl rfl rfl Tryz.func52 rfl rfl (args1 (.t .z)) .n (fun _ _ hs tr => c_52 (tr.ctxP h0)) ?_
 rintro _ _ ⟨rfl, rfl⟩
 refine Y.cat .n ?_
 refine Y.as rfl .z (Y.nt (Y.seq (Y.region (Y.mv rfl .z (Y.ql rfl (q_neq rfl (.t .z) .c) (Y.nt ?_))))))
 refine Y.condN (.t .z) (fun b3 => ?_) (fun b3 => ?_)
 refine Y.seq (Y.region (Y.mv rfl .g2 (Y.er .g6 (Y.as rfl .z (Y.nt (Y.ret (Y.thenR ?_)))))))
 refine Y.doneS (res1 rfl .z) .n ?_
 exact ⟨by first | (rw [fsFault_t (by assumption)]; done) | (rw [fsFault_l (by assumption) (by assumption)]; done) | (rw [fsFault_d (by assumption) (by assumption)]; done) | (rw [fsFault_1 (by assumption) (.inl (by assumption))]; done) | (rw [fsFault_1 (by assumption) (.inr (by assumption))]; done) | (rw [fsFault_0 (by assumption) (by assumption) (by assumption)]; done), rfl⟩
 refine Y.skip (Y.then_ (Y.seq (Y.seq (Y.region (Y.mv rfl .g6 ?_)))))
 refine Y.cl rfl rfl Tryz.func102 rfl rfl (args1 (.t .z)) .n (fun _ _ hs tr => c_102 (tr.ctxP h0) (by assumption)) ?_
 rintro _ _ ⟨rfl, rfl⟩
 refine Y.cat .n ?_
 refine Y.ql rfl (q_not rfl (.t .z)) (Y.mv rfl .z ?_)
 refine Y.caseN .z (fun g4 => ?_) (fun g4 => ?_)
 refine Y.skipl rfl rfl .z rfl rfl (by decide) rfl ?_
 refine Y.skipl rfl rfl .g1 rfl rfl (by decide) rfl ?_
 refine Y.skipl rfl rfl .g2 rfl rfl (by decide) rfl ?_
 refine Y.ql rfl (q_pickT rfl (.t .g3) .c) (Y.nt ?_)
 refine Y.condT (.t .z) ?_
 refine Y.seq (Y.region (Y.er .g13 (Y.ql rfl (q_assign rfl .c) (Y.nt (Y.ret (Y.thenR ?_))))))
 refine Y.doneS (res1 rfl .z) .n ?_
 exact ⟨by first | (rw [fsFault_t (by assumption)]; done) | (rw [fsFault_l (by assumption) (by assumption)]; done) | (rw [fsFault_d (by assumption) (by assumption)]; done) | (rw [fsFault_1 (by assumption) (.inl (by assumption))]; done) | (rw [fsFault_1 (by assumption) (.inr (by assumption))]; done) | (rw [fsFault_0 (by assumption) (by assumption) (by assumption)]; done), rfl⟩
 refine Y.qg rfl rfl .z rfl rfl rfl (q_move rfl (.t .g10)) ?_
 refine Y.call (goes_listg rfl rfl .g1) rfl (by decide) rfl (c_call rfl Tryz.func103 rfl rfl (args1 (.t .z))) .n (fun _ _ hs tr => c_103 (tr.ctxP h0) (by assumption)) ?_
 rintro _ _ ⟨rfl, rfl⟩
 refine Y.cat .n ?_
 refine Y.qg rfl rfl .g2 rfl rfl rfl (q_not rfl (.t .z)) ?_
 refine Y.ql rfl (q_pickF rfl (.t .g3) (.t .z)) (Y.nt ?_)
 refine Y.condN (.t .z) (fun b5 => ?_) (fun b5 => ?_)
 refine Y.seq (Y.region (Y.er .g13 (Y.ql rfl (q_assign rfl .c) (Y.nt (Y.ret (Y.thenR ?_))))))
 refine Y.doneS (res1 rfl .z) .n ?_
 exact ⟨by first | (rw [fsFault_t (by assumption)]; done) | (rw [fsFault_l (by assumption) (by assumption)]; done) | (rw [fsFault_d (by assumption) (by assumption)]; done) | (rw [fsFault_1 (by assumption) (.inl (by assumption))]; done) | (rw [fsFault_1 (by assumption) (.inr (by assumption))]; done) | (rw [fsFault_0 (by assumption) (by assumption) (by assumption)]; done), rfl⟩
 refine Y.skip (Y.then_ (Y.seq (Y.region (Y.er .g13 (Y.ql rfl (q_assign rfl .c) (Y.nt (Y.ret ?_)))))))
 refine Y.doneS (res1 rfl .z) .n ?_
 exact ⟨by first | (rw [fsFault_t (by assumption)]; done) | (rw [fsFault_l (by assumption) (by assumption)]; done) | (rw [fsFault_d (by assumption) (by assumption)]; done) | (rw [fsFault_1 (by assumption) (.inl (by assumption))]; done) | (rw [fsFault_1 (by assumption) (.inr (by assumption))]; done) | (rw [fsFault_0 (by assumption) (by assumption) (by assumption)]; done), rfl⟩

theorem c_17 {w0 : World} {S0 : Bs} {f : DFs} {cs0 : List Value} (h0 : kT_27.ro w0 (FF w0 S0) f cs0)  :
    Calls Tryz.prog 17 #[.agg cs0.toArray] w0 (TriPost w0 S0 (fun r l => r = .int .i64 (fsFault f) ∧ l = [])) := by
 obtain ⟨u0_0, u0_1, rfl, h0_0, h0_1⟩ := kT_27_ro h0
 obtain ⟨A0_0, c0_0, rfl, hl0_0, hm0_0, hb0_0, he0_0⟩ := ro_form h0_0
 obtain ⟨A0_1, c0_1, rfl, hl0_1, hm0_1, hb0_1, he0_1⟩ := ro_form h0_1
 refine Y.enter (N := 5) Tryz.func17 rfl rfl (by simp) [(0, .agg #[.slice A0_0 f.inodes.length c0_0, .slice A0_1 f.data.length c0_1])] (by simp) (l0 := []) trivial ?_
 refine Y.seq (Y.region ?_)
 refine Y.el rfl (e_box (cs := [.slice A0_0 f.inodes.length c0_0, .slice A0_1 f.data.length c0_1]) (n := 2) rfl (.t .z) rfl rfl) ?_
 rintro _ _ ⟨g3, rfl, rfl⟩
 refine Y.ql rfl (q_assign rfl .c) (Y.nt (Y.seq (Y.region (Y.ql rfl (qW rfl ag_27 (.t .g1) .z sz_27) ?_))))
 refine Y.cl rfl rfl Tryz.func54 rfl rfl (args1 (.t .z)) .n (fun _ _ hs tr => c_54 (kT_27_mk f (tr.ctx h0_0) (tr.ctx h0_1))) ?_
 rintro _ _ ⟨rfl, rfl⟩
 refine Y.cat .n ?_
 refine Y.er .g2 (Y.as rfl .z (Y.nt (Y.ret ?_)))
 refine Y.doneS (res1 rfl .z) .n ?_
 exact ⟨rfl, rfl⟩

theorem c_20 {w0 : World} {S0 : Bs} {f : DFs} {cs0 : List Value} (h0 : kT_27.ro w0 (FF w0 S0) f cs0)  :
    Calls Tryz.prog 20 #[.agg cs0.toArray] w0 (TriPost w0 S0 (fun r l => r = .int .i64 (fsFault f) ∧ l = [])) := by
 obtain ⟨u0_0, u0_1, rfl, h0_0, h0_1⟩ := kT_27_ro h0
 obtain ⟨A0_0, c0_0, rfl, hl0_0, hm0_0, hb0_0, he0_0⟩ := ro_form h0_0
 obtain ⟨A0_1, c0_1, rfl, hl0_1, hm0_1, hb0_1, he0_1⟩ := ro_form h0_1
 refine Y.enter (N := 4) Tryz.func20 rfl rfl (by simp) [(0, .agg #[.slice A0_0 f.inodes.length c0_0, .slice A0_1 f.data.length c0_1])] (by simp) (l0 := []) trivial ?_
 refine Y.seq (Y.region ?_)
 refine Y.el rfl (e_box (cs := [.slice A0_0 f.inodes.length c0_0, .slice A0_1 f.data.length c0_1]) (n := 2) rfl (.t .z) rfl rfl) ?_
 rintro _ _ ⟨g3, rfl, rfl⟩
 refine Y.ql rfl (q_assign rfl .c) (Y.nt (Y.seq (Y.region ?_)))
 refine Y.cl rfl rfl Tryz.func56 rfl rfl (args1 (.t .g1)) .n (fun _ _ hs tr => c_56 (tr.ptr .z (kT_27_mk f (tr.ctx h0_0) (tr.ctx h0_1)))) ?_
 rintro _ _ ⟨rfl, rfl⟩
 refine Y.cat .n ?_
 refine Y.er .g1 (Y.as rfl .z (Y.nt (Y.ret ?_)))
 refine Y.doneS (res1 rfl .z) .n ?_
 exact ⟨rfl, rfl⟩

end Go.Proofs.YtmejbfmhaoilmaaGreat

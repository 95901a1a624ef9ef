/- What is proved: contracts of functions, one a function. No condition. -/
import Derived.Test.YtmejbfmhaoilmaaGreatBase1
import Derived.Test.YtmejbfmhaoilmaaGreatW51
import Derived.Test.YtmejbfmhaoilmaaGreatW10
import Derived.Test.YtmejbfmhaoilmaaGreatW3
import Derived.Test.YtmejbfmhaoilmaaGreatBase2
namespace Go.Proofs.YtmejbfmhaoilmaaGreat
open Go Go.RowKit
set_option linter.unusedVariables false
set_option linter.unusedSimpArgs false
set_option maxHeartbeats 1000000
set_option maxRecDepth 20000
theorem c_92 {w0 : World} {S0 : Bs} {g0 e0 s0 : Nat} {ae : List Value} {cd : List UInt8} {Ac : Option Addr} {cc : Nat} (hcd : kSl_5.ro w0 (FF w0 S0) cd [.slice Ac cd.length cc]) {a : Int} (hs : Star [rowA g0 e0 s0 1 ((.slice Ac cd.length cc) :: (.int .i64 a) :: ae)] w0 S0) (ha : 0 ≤ a ∧ a ≤ 900000) :
    Calls Tryz.prog 92 #[.pointer (some ⟨g0, 0, none⟩)] w0 (TriPost w0 S0 (fun r l => ∃ (x : List DInode) (u : Int), (x.length ≤ 11 ∧ a ≤ u ∧ u ≤ a + 600) ∧ l = [ownA kSl_44 x [r], rowA g0 e0 s0 1 (.slice Ac cd.length cc :: .int .i64 u :: ae)])) := by
 obtain ⟨hlc, hmc, hbc⟩ := src_hl hcd
 refine Y.enter (N := 76) Tryz.func92 rfl rfl (by simp) [(0, .pointer (some ⟨g0, 0, none⟩))] (by simp) hs ?_
 refine Y.seq (Y.region (Y.ql rfl (q_assign rfl .c) (Y.nt (Y.seq (Y.region ?_)))))
 refine Y.el rfl (e_buildNil rfl u_24 (inz inf_44)) ?_
 rintro _ _ ⟨g2, rfl, rfl⟩
 refine Y.as rfl .z (Y.nt (Y.seq (Y.seq (Y.region (Y.mv rfl .g3 ?_)))))
 refine Y.cl rfl rfl Tryz.func42 rfl rfl (args2 (.t .z) .c) (.c .g1 .n) (fun _ _ hs tr => c_42 (tr.ctx hcd) _ hs (by omega) (by omega)) ?_
 rintro _ _ ⟨m3, h0m3, h1m3, rfl, rfl⟩
 refine Y.cat (.c .n) ?_
 refine Y.as rfl .z (Y.nt (Y.block ?_))
 refine Y.add (c := ownA kSl_44 ([] : (List DInode)) [.slice (some ⟨g2, 0, none⟩) 0 0]) (fun w S => own_nil w S _) ?_
 refine Y.loopi (γ := (Option Addr) × Nat × Int × Int × (List DInode)) (fun ⟨ac, ad, n, z, O⟩ => [(4, .int .i64 n), (3, .slice ac O.length ad), (2, .slice none 0 0), (0, .pointer (some ⟨g0, 0, none⟩))]) (fun ⟨ac, ad, n, z, O⟩ => [ownA kSl_44 O [.slice ac O.length ad], rowA g0 e0 s0 1 ((.slice Ac cd.length cc) :: (.int .i64 z) :: ae), rowA g2 44 5 0 []]) (fun ⟨ac, ad, n, z, O⟩ => (0 ≤ n ∧ n ≤ 7) ∧ (a ≤ z ∧ z + 60 * n ≤ a + 421) ∧ inodesFault O = 0 ∧ (O.length : Int) + n ≤ 7) (fun ⟨ac, ad, n, z, O⟩ => n.toNat) ((some ⟨g2, 0, none⟩), 0, m3, (a + 1), []) ⟨by omega, by omega, by decide, by simp only [List.length_nil]; omega⟩ (.c .z (.c .g3 (.c .g5 (.c .g6 .n)))) (fun _ h => h.sel (.c .z (.c .z (.c .z .n)))) ?_
 rintro ⟨ac, ad, n, z, O⟩ ⟨hn, hz, hO, hOl⟩
 refine Y.seq (Y.seq (Y.region (Y.mv rfl .z (Y.ql rfl (q_gtr rfl (.t .z) .c) (Y.nt ?_)))))
 refine Y.condP (.t .z) (fun b5 => ?_) (fun b5 => ?_)
 refine Y.skip (Y.then_ (Y.seq (Y.block (Y.seq (Y.region (Y.mv rfl .g5 ?_))))))
 refine Y.cl rfl rfl Tryz.func93 rfl rfl (args1 (.t .z)) (.c .g1 .n) (fun _ _ hs tr => c_93 (tr.ctx hcd) hs (by omega)) ?_
 rintro _ _ ⟨aa, v8, b2, u7, aj, rfl, rfl⟩
 refine Y.cat (.c (.c (.c .n))) ?_
 refine Y.know (WS.oform .z) ?_
 rintro ⟨af, ag, rfl, az, a0, a1⟩
 refine Y.know (WS.oform .g1) ?_
 rintro ⟨ah, ai, rfl, a2, a3, a4⟩
 refine Y.el rfl (e_alloc rfl z_44 rfl rfl) ?_
 rintro _ _ ⟨g14, rfl, rfl⟩
 refine Y.es (goes_list rfl) rfl (esW rfl (.t .z) (.t .g1) .z sz_44 rfl rfl) ?_
 refine Y.nt (Y.seq (Y.seq (Y.region (Y.ql rfl (q_assign rfl .c) (Y.nt (Y.block ?_))))))
 refine Y.loopi (γ := Nat × Int × (List Int)) (fun ⟨i, y, B⟩ => [(6, .int .i64 (i : Int)), (5, .pointer (some ⟨g14, 0, none⟩)), (4, .int .i64 n), (3, .slice ac O.length ad), (2, .slice none 0 0), (0, .pointer (some ⟨g0, 0, none⟩))]) (fun ⟨i, y, B⟩ => [rowA g14 44 5 1 [.int .i64 aa.kind, .int .i64 aa.links, .int .i64 aa.size, .slice af aa.blocks.length ag, .slice ah aa.ents.length ai], ownA kSl_2 B [.slice af aa.blocks.length ag], ownA kSl_46 aa.ents [.slice ah aa.ents.length ai], rowA g0 e0 s0 1 ((.slice Ac cd.length cc) :: (.int .i64 y) :: ae), ownA kSl_44 O [.slice ac O.length ad], rowA g2 44 5 0 []]) (fun ⟨i, y, B⟩ => i ≤ aa.blocks.length ∧ (z ≤ y ∧ y ≤ z + 40 + i) ∧ B.length = aa.blocks.length ∧ ∀ b, b ∈ B → 0 ≤ b ∧ b ≤ 19) (fun ⟨i, y, B⟩ => aa.blocks.length - i) (0, u7, aa.blocks) ⟨Nat.zero_le _, by omega, rfl, aj.2.2.2.1⟩ (.c .z (.c .g1 (.c .g6 (.c .g7 (.c .g8 (.c .g9 .n)))))) (fun _ h => h.sel (.c .z (.c .z (.c .z (.c .z (.c .z (.c .z .n))))))) ?_
 rintro ⟨i, y, B⟩ ⟨hi, hy, hBl, hBn⟩
 refine Y.seq (Y.seq (Y.region (Y.mv rfl .z (Y.fa rfl .g2 fa_44_3 (Y.ld rfl ag_36 .z .z (Y.ql rfl (q_len rfl u_36 (.t .z)) (Y.ql rfl (q_lss rfl (.t .g3) (.t .z)) (Y.mv rfl .z ?_))))))))
 refine Y.caseP .z (fun g15 => ?_) (fun g15 => ?_)
 refine Y.qg rfl rfl .z rfl rfl rfl (q_move rfl (.t .g11)) ?_
 refine Y.call (goes_listg rfl rfl .g1) rfl (by decide) rfl (c_call rfl Tryz.func87 rfl rfl (args2 (.t .z) .c)) (.c .g3 .n) (fun _ _ hs tr => c_87 (tr.ctx hcd) _ hs (by omega) (by omega)) ?_
 rintro _ _ ⟨b3, rfl, rfl⟩
 refine Y.cat (.c .n) ?_
 refine Y.qg rfl rfl .g2 rfl rfl rfl (q_not rfl (.t .z)) ?_
 refine Y.ql rfl (q_pickT rfl (.t .g3) (.t .z)) (Y.nt ?_)
 refine Y.cond (.t .z) (fun bq => ?_) (fun bq => ?_)
 refine Y.skip (Y.then_ (Y.seq (Y.block (Y.seq (Y.region (Y.ql rfl (q_assign rfl .c) (Y.nt ?_)))))))
 refine Y.block ?_
 refine Y.loopi (γ := Nat × (List Int)) (fun ⟨k, C⟩ => [(7, .int .i64 (k : Int)), (6, .int .i64 (i : Int)), (5, .pointer (some ⟨g14, 0, none⟩)), (4, .int .i64 n), (3, .slice ac O.length ad), (2, .slice none 0 0), (0, .pointer (some ⟨g0, 0, none⟩))]) (fun ⟨k, C⟩ => [rowA g0 e0 s0 1 ((.slice Ac cd.length cc) :: (.int .i64 (y + 1)) :: ae), rowA g14 44 5 1 [.int .i64 aa.kind, .int .i64 aa.links, .int .i64 aa.size, .slice af aa.blocks.length ag, .slice ah aa.ents.length ai], ownA kSl_2 C [.slice af aa.blocks.length ag], ownA kSl_46 aa.ents [.slice ah aa.ents.length ai], ownA kSl_44 O [.slice ac O.length ad], rowA g2 44 5 0 []]) (fun ⟨k, C⟩ => k ≤ 20 ∧ C.length = aa.blocks.length ∧ ∀ b, b ∈ C → 0 ≤ b ∧ b ≤ 19) (fun ⟨k, C⟩ => 20 - k) (0, B) ⟨Nat.zero_le _, hBl, hBn⟩ (.c .z (.c .g11 (.c .g12 (.c .g13 (.c .g14 (.c .g15 (.c .g16 .n))))))) (fun _ h => h.sel (.c .z (.c .z (.c .z (.c .z (.c .z (.c .z .n))))))) ?_
 rintro ⟨k, C⟩ ⟨hk, hCl, hCn⟩
 refine Y.seq (Y.seq (Y.region (Y.mv rfl .z (Y.ql rfl (q_lss rfl (.t .z) .c) (Y.mv rfl .z ?_)))))
 refine Y.caseP .z (fun g18 => ?_) (fun g18 => ?_)
 refine Y.qg rfl rfl .z rfl rfl rfl (q_move rfl (.t .g7)) ?_
 refine Y.qg rfl rfl .g1 rfl rfl rfl (q_fieldAddr rfl (.t .g6) (fun _ => fa_44_3 _ _)) ?_
 refine Y.qg rfl rfl .g2 rfl rfl rfl (q_load rfl ag_36 (.t .z) (WS.row .g1 rfl)) ?_
 refine Y.qg rfl rfl .g3 rfl rfl rfl (q_move rfl (.t .g7)) ?_
 refine Y.know (WS.oad .g2 (by omega)) ?_
 rintro ⟨br, rfl⟩
 refine Y.qg rfl rfl .g4 rfl rfl rfl (q_indexAddr (j := i) rfl u_36 sz_2 (.t .g1) (.t .z) rfl (by omega)) ?_
 obtain ⟨b4, ak⟩ := get_ex (xs := C) (j := i) (by omega)
 have a5 := hCn _ (List.mem_of_getElem? ak)
 refine Y.qg rfl rfl .g5 rfl rfl rfl (q_load rfl ag_2 (.t .z) (WS.oel .g2 ak)) ?_
 refine Y.call (goes_listg rfl rfl .g6) rfl (by decide) rfl (c_call rfl Tryz.func134 rfl rfl (args2 (.t .g5) (.t .z))) .n (fun _ _ hs tr => c_134 (tr.own .g4) _ (by assumption)) ?_
 rintro _ _ ⟨rfl, rfl⟩
 refine Y.cat .n ?_
 refine Y.qg rfl rfl .g7 rfl rfl rfl (q_gtr rfl (.t .z) .c) ?_
 refine Y.ql rfl (q_pickT rfl (.t .g8) (.t .z)) (Y.nt ?_)
 refine Y.condP (.t .z) (fun bs => ?_) (fun bs => ?_)
 refine Y.skip (Y.then_ (Y.seq (Y.block ?_)))
 refine Y.dr .g1 11 mixo ?_
 refine Y.sc (qs 0 11 ++ [(11, false)]) (by kernel_rfl) ?_
 refine Y.df rfl rfl .g1 .g14 fa_44_3 (Y.dl rfl rfl .g1 ag_36 .z .z (Y.dm rfl rfl .g1 .g15 (Y.df rfl rfl .g1 (.s16 .g1) fa_44_3 (Y.dl rfl rfl .g1 ag_36 .z .z (Y.dm rfl rfl .g1 (.s16 .g2) ?_)))))
 refine Y.dk rfl rfl .g1 (q_indexAddr (j := i) rfl u_36 sz_2 (.t .g1) (.t .z) rfl (by omega)) ?_
 obtain ⟨al, am⟩ := get_ex (xs := C) (j := i) (by omega)
 have a6 := hCn _ (List.mem_of_getElem? am)
 refine Y.dk rfl rfl .g1 (q_load rfl ag_2 (.t .z) (WS.oel .g1 am)) ?_
 refine Y.dk rfl rfl .g1 (q_add (c := al + 1) rfl (.t .z) .c (wr (by omega) (by omega) (by omega))) ?_
 refine Y.dk rfl rfl .g1 (q_rem (c := Int.tmod (al + 1) 20) rfl (.t .z) .c (by omega) rfl) ?_
 refine Y.dk rfl rfl .g1 (q_indexAddr (j := i) rfl u_36 sz_2 (.t .g8) (.t .g7) rfl (by omega)) ?_
 refine Y.add (c := ownA (kint .i64) (Int.tmod (al + 1) 20) [.int .i64 (Int.tmod (al + 1) 20)]) (fun _ _ => ⟨rfl, trivial⟩) ?_
 refine Y.es (goes_sch rfl rfl) rfl (es_set (j := i) rfl sz_2 (.t .z) (.t .g1) rfl (.c .g3 (.c .z .n)) (by omega)) ?_
 refine Y.sl rfl ?_
 refine Y.schN ?_
 refine Y.drawN (by kernel_rfl) ?_
 refine Y.inBN (Y.then_ (Y.region (Y.mv rfl (.s16 .g7) ?_)))
 refine Y.ql rfl (q_add (c := ((k + 1 : Nat) : Int)) rfl (.t .z) .c (wr (by omega) (by omega) (by omega))) ?_
 refine Y.er (.s16 .g9) (Y.as rfl .z (Y.nil ?_))
 refine Y.again ((k + 1), List.set C i (Int.tmod (al + 1) 20)) ⟨by omega, ⟨by rw [List.length_set]; exact hCl, set_in hCn ⟨(tmod_in (by omega) (by omega)).1, Int.le_of_lt_add_one (tmod_in (by omega) (by omega)).2⟩⟩⟩ (by first | omega | (dsimp only; omega)) (.c .z (.c (.s16 .g10) (.c (.s16 .g11) (.c (.s16 .g12) (.c (.s16 .g13) (.c (.s16 .g14) (.c (.s16 .g15) .n))))))) (fun _ h => h.sel (.c .g1 (.c .g1 (.c .z (.c .z (.c .z (.c .z .n)))))))
 refine Y.exit (Y.thenE (Y.thenE (Y.inB (Y.inBN (Y.then_ (Y.region (Y.mv rfl .g13 ?_)))))))
 refine Y.ql rfl (q_add (c := ((i + 1 : Nat) : Int)) rfl (.t .z) .c (wr (by omega) (by omega) (by omega))) ?_
 refine Y.er .g15 (Y.as rfl .z (Y.nil ?_))
 refine Y.again ((i + 1), (y + 1), C) ⟨by omega, ⟨by omega, by assumption, by assumption⟩⟩ (by first | omega | (dsimp only; omega)) (.c .z (.c .g16 (.c (.s16 .g1) (.c (.s16 .g2) (.c (.s16 .g3) (.c (.s16 .g4) .n)))))) (fun _ h => h.sel (.c .g1 (.c .g1 (.c .g1 (.c .z (.c .z (.c .z .n)))))))
 refine Y.skipl rfl rfl .z rfl rfl (by decide) rfl ?_
 refine Y.skipl rfl rfl .g1 rfl rfl (by decide) rfl ?_
 refine Y.skipl rfl rfl .g2 rfl rfl (by decide) rfl ?_
 refine Y.skipl rfl rfl .g3 rfl rfl (by decide) rfl ?_
 refine Y.skipl rfl rfl .g4 rfl rfl (by decide) rfl ?_
 refine Y.skipl rfl rfl .g5 rfl rfl (by decide) rfl ?_
 refine Y.skipl rfl rfl .g6 rfl rfl (by decide) rfl ?_
 refine Y.skipl rfl rfl .g7 rfl rfl (by decide) rfl ?_
 refine Y.ql rfl (q_pickF rfl (.t .g8) .c) (Y.nt ?_)
 refine Y.condF (.t .z) ?_
 refine Y.exit (Y.thenE (Y.thenE (Y.inB (Y.inBN (Y.then_ (Y.region (Y.mv rfl .g13 ?_)))))))
 refine Y.ql rfl (q_add (c := ((i + 1 : Nat) : Int)) rfl (.t .z) .c (wr (by omega) (by omega) (by omega))) ?_
 refine Y.er .g15 (Y.as rfl .z (Y.nil ?_))
 refine Y.again ((i + 1), (y + 1), C) ⟨by omega, ⟨by omega, by assumption, by assumption⟩⟩ (by first | omega | (dsimp only; omega)) (.c .z (.c .g16 (.c (.s16 .g1) (.c (.s16 .g2) (.c (.s16 .g3) (.c (.s16 .g4) .n)))))) (fun _ h => h.sel (.c .g1 (.c .g1 (.c .g1 (.c .z (.c .z (.c .z .n)))))))
 refine Y.exit (Y.thenE (Y.thenE (Y.inB (Y.then_ (Y.seq (Y.region ?_))))))
 refine Y.cl rfl rfl Tryz.func135 rfl rfl (args1 (.t .g11)) .n (fun _ _ hs tr => c_135 (tr.ptr .g1 (kT_44_mk (⟨aa.kind, aa.links, aa.size, B, aa.ents⟩ : DInode) (tr.own .g2) (tr.own .g3)))) ?_
 rintro _ _ ⟨rfl, rfl⟩
 refine Y.cat .n ?_
 refine Y.ql rfl (q_eql rfl (.t .z) .c) (Y.nt ?_)
 refine Y.condP (.t .z) (fun bt => ?_) (fun bt => ?_)
 refine Y.region (Y.mv rfl .g15 (Y.ql rfl (qW rfl ag_44 (.t .g14) .g1 sz_44) ?_))
 refine Y.el rfl (e_buildSliceL (cs := [.int .i64 aa.kind, .int .i64 aa.links, .int .i64 aa.size, .slice af aa.blocks.length ag, .slice ah aa.ents.length ai]) rfl u_24 (inz inf_44) (by decide) (pv1 (.t .z)) rfl rfl (by decide) rfl rfl) ?_
 rintro _ _ ⟨g25, rfl, rfl⟩
 refine Y.turns (c := ownA kT_44 (⟨aa.kind, aa.links, aa.size, B, aa.ents⟩ : DInode) [.int .i64 aa.kind, .int .i64 aa.links, .int .i64 aa.size, .slice af aa.blocks.length ag, .slice ah aa.ents.length ai]) (.c .g3 (.c .g3 .n)) (fun w S h => kT_44_omk (⟨aa.kind, aa.links, aa.size, B, aa.ents⟩ : DInode) h) ?_
 refine Y.el rfl (e_append1 rfl u_24 inf_44 rfl (.t .g2) (.t .z) (.c .g4 (.c .g1 (.c .z .n))) (by first | omega | (simp <;> omega)) (by first | omega | (simp <;> omega))) ?_
 rintro _ _ rfl
 refine Y.know (WS.oform .z) ?_
 rintro ⟨au, av, rfl, a7, a8, a9⟩
 refine Y.er (.s16 .g3) (Y.as rfl .z (Y.nil (Y.inBN (Y.then_ (Y.region (Y.mv rfl (.s16 .g3) ?_))))))
 refine Y.ql rfl (q_sub (c := n - 1) rfl (.t .z) .c (wr (by omega) (by omega) (by omega))) ?_
 refine Y.er (.s16 .g5) (Y.as rfl .z (Y.nil ?_))
 refine Y.again (au, av, n - 1, (y + 1), O ++ [(⟨aa.kind, aa.links, aa.size, B, aa.ents⟩ : DInode)]) ⟨by omega, by omega, (by first | exact hO | exact inodes_snoc hO (by assumption) (by omega)), (by first | omega | (simp <;> omega))⟩ (by first | omega | (dsimp only; omega)) (.c .z (.c .g3 (.c (.s16 .g6) (.c (.s16 .g7) .n)))) (fun _ h => h.sel (.c .z (.c .z (.c .g1 .n))))
 refine Y.skip (Y.inBN (Y.then_ (Y.region (Y.mv rfl .g14 ?_))))
 refine Y.ql rfl (q_sub (c := n - 1) rfl (.t .z) .c (wr (by omega) (by omega) (by omega))) ?_
 refine Y.er .g16 (Y.as rfl .z (Y.nil ?_))
 refine Y.again (ac, ad, n - 1, (y + 1), O) ⟨by omega, by omega, (by first | exact hO | exact inodes_snoc hO (by assumption) (by omega)), (by first | omega | (simp <;> omega))⟩ (by first | omega | (dsimp only; omega)) (.c .z (.c (.s16 .g1) (.c (.s16 .g2) (.c (.s16 .g3) .n)))) (fun _ h => h.sel (.c .g4 (.c .z (.c .g3 .n))))
 refine Y.skipl rfl rfl .z rfl rfl (by decide) rfl ?_
 refine Y.skipl rfl rfl .g1 rfl rfl (by decide) rfl ?_
 refine Y.skipl rfl rfl .g2 rfl rfl (by decide) rfl ?_
 refine Y.ql rfl (q_pickF rfl (.t .g3) .c) (Y.nt ?_)
 refine Y.condF (.t .z) ?_
 refine Y.exit (Y.thenE (Y.thenE (Y.inB (Y.then_ (Y.seq (Y.region ?_))))))
 refine Y.cl rfl rfl Tryz.func135 rfl rfl (args1 (.t .g11)) .n (fun _ _ hs tr => c_135 (tr.ptr .z (kT_44_mk (⟨aa.kind, aa.links, aa.size, B, aa.ents⟩ : DInode) (tr.own .g1) (tr.own .g2)))) ?_
 rintro _ _ ⟨rfl, rfl⟩
 refine Y.cat .n ?_
 refine Y.ql rfl (q_eql rfl (.t .z) .c) (Y.nt ?_)
 refine Y.condP (.t .z) (fun bu => ?_) (fun bu => ?_)
 refine Y.region (Y.mv rfl .g15 (Y.ql rfl (qW rfl ag_44 (.t .g14) .z sz_44) ?_))
 refine Y.el rfl (e_buildSliceL (cs := [.int .i64 aa.kind, .int .i64 aa.links, .int .i64 aa.size, .slice af aa.blocks.length ag, .slice ah aa.ents.length ai]) rfl u_24 (inz inf_44) (by decide) (pv1 (.t .z)) rfl rfl (by decide) rfl rfl) ?_
 rintro _ _ ⟨g29, rfl, rfl⟩
 refine Y.turns (c := ownA kT_44 (⟨aa.kind, aa.links, aa.size, B, aa.ents⟩ : DInode) [.int .i64 aa.kind, .int .i64 aa.links, .int .i64 aa.size, .slice af aa.blocks.length ag, .slice ah aa.ents.length ai]) (.c .g2 (.c .g2 .n)) (fun w S h => kT_44_omk (⟨aa.kind, aa.links, aa.size, B, aa.ents⟩ : DInode) h) ?_
 refine Y.el rfl (e_append1 rfl u_24 inf_44 rfl (.t .g2) (.t .z) (.c .g4 (.c .g1 (.c .z .n))) (by first | omega | (simp <;> omega)) (by first | omega | (simp <;> omega))) ?_
 rintro _ _ rfl
 refine Y.know (WS.oform .z) ?_
 rintro ⟨aw, ax, rfl, ba, bb, bc⟩
 refine Y.er (.s16 .g3) (Y.as rfl .z (Y.nil (Y.inBN (Y.then_ (Y.region (Y.mv rfl (.s16 .g3) ?_))))))
 refine Y.ql rfl (q_sub (c := n - 1) rfl (.t .z) .c (wr (by omega) (by omega) (by omega))) ?_
 refine Y.er (.s16 .g5) (Y.as rfl .z (Y.nil ?_))
 refine Y.again (aw, ax, n - 1, y, O ++ [(⟨aa.kind, aa.links, aa.size, B, aa.ents⟩ : DInode)]) ⟨by omega, by omega, (by first | exact hO | exact inodes_snoc hO (by assumption) (by omega)), (by first | omega | (simp <;> omega))⟩ (by first | omega | (dsimp only; omega)) (.c .z (.c .g3 (.c (.s16 .g6) (.c (.s16 .g7) .n)))) (fun _ h => h.sel (.c .z (.c .g1 (.c .g1 .n))))
 refine Y.skip (Y.inBN (Y.then_ (Y.region (Y.mv rfl .g14 ?_))))
 refine Y.ql rfl (q_sub (c := n - 1) rfl (.t .z) .c (wr (by omega) (by omega) (by omega))) ?_
 refine Y.er .g16 (Y.as rfl .z (Y.nil ?_))
 refine Y.again (ac, ad, n - 1, y, O) ⟨by omega, by omega, (by first | exact hO | exact inodes_snoc hO (by assumption) (by omega)), (by first | omega | (simp <;> omega))⟩ (by first | omega | (dsimp only; omega)) (.c .z (.c (.s16 .g1) (.c (.s16 .g2) (.c (.s16 .g3) .n)))) (fun _ h => h.sel (.c .g4 (.c .g3 (.c .g3 .n))))
 refine Y.exit (Y.thenE (Y.thenE (Y.inB (Y.then_ (Y.seq (Y.seq (Y.region (Y.mv rfl .g5 ?_))))))))
 refine Y.cl rfl rfl Tryz.func42 rfl rfl (args2 (.t .z) .c) (.c .g1 .n) (fun _ _ hs tr => c_42 (tr.ctx hcd) _ hs (by omega) (by omega)) ?_
 rintro _ _ ⟨b6, h0m32, h1m32, rfl, rfl⟩
 refine Y.cat (.c .n) ?_
 refine Y.nt (Y.block (Y.seq (Y.region (Y.ql rfl (q_eql rfl (.t .z) .c) (Y.as rfl .z (Y.nt ?_))))))
 refine Y.condP (.t .z) (fun bv => ?_) (fun bv => ?_)
 refine Y.region (Y.mv rfl .g7 (Y.mv rfl .g10 ?_))
 refine Y.cl rfl rfl Tryz.func136 rfl rfl (args1 (.t .z)) (.c .z .n) (fun _ _ hs tr => c_136 (tr.ctx hcd) hs (by omega)) ?_
 rintro _ _ ⟨ab, b7, b8, u35, ay, rfl, rfl⟩
 refine Y.cat (.c (.c (.c .n))) ?_
 refine Y.know (WS.oform .z) ?_
 rintro ⟨an, ao, rfl, bd, be, bf⟩
 refine Y.know (WS.oform .g1) ?_
 rintro ⟨ap, aq, rfl, bg, bh, bi⟩
 refine Y.el rfl (e_buildSliceL (cs := [.int .i64 ab.kind, .int .i64 ab.links, .int .i64 ab.size, .slice an ab.blocks.length ao, .slice ap ab.ents.length aq]) rfl u_24 (inz inf_44) (by decide) (pv1 (.t .z)) rfl rfl (by decide) rfl rfl) ?_
 rintro _ _ ⟨g42, rfl, rfl⟩
 refine Y.turns (c := ownA kT_44 (⟨ab.kind, ab.links, ab.size, ab.blocks, ab.ents⟩ : DInode) [.int .i64 ab.kind, .int .i64 ab.links, .int .i64 ab.size, .slice an ab.blocks.length ao, .slice ap ab.ents.length aq]) (.c .g1 (.c .g1 .n)) (fun w S h => kT_44_omk (⟨ab.kind, ab.links, ab.size, ab.blocks, ab.ents⟩ : DInode) h) ?_
 refine Y.el rfl (e_append1 rfl u_24 inf_44 rfl (.t .g3) (.t .z) (.c .g3 (.c .g1 (.c .z .n))) (by first | omega | (simp <;> omega)) (by first | omega | (simp <;> omega))) ?_
 rintro _ _ rfl
 refine Y.know (WS.oform .z) ?_
 rintro ⟨bw, bx, rfl, bj, bk, bm⟩
 refine Y.er .g12 (Y.as rfl .z (Y.nil (Y.inBN (Y.then_ (Y.seq (Y.region (Y.mv rfl .z (Y.er .g14 ?_))))))))
 refine Y.as rfl .z (Y.nt (Y.ret ?_))
 refine Y.doneS (res1 rfl .z) (.c .z (.c .z .n)) ?_
 exact ⟨_, _, ⟨by first | omega | (simp <;> omega), by omega, by omega⟩, rfl⟩
 refine Y.seq (Y.region (Y.ql rfl (q_eql rfl (.t .g2) .c) (Y.as rfl .z (Y.nt ?_))))
 refine Y.condP (.t .z) (fun bz => ?_) (fun bz => ?_)
 refine Y.region (Y.mv rfl .g11 ?_)
 refine Y.cl rfl rfl Tryz.func42 rfl rfl (args2 (.t .z) .c) (.c .z .n) (fun _ _ hs tr => c_42 (tr.ctx hcd) _ hs (by omega) (by omega)) ?_
 rintro _ _ ⟨ar, h0m46, h1m46, rfl, rfl⟩
 refine Y.cat (.c .n) ?_
 refine Y.ql rfl (q_add (c := 10 + ar) rfl .c (.t .z) (wr (by omega) (by omega) (by omega))) ?_
 refine Y.eq .z (congrArg (Value.int .i64) (show 10 + ar = ((Int.toNat (10 + ar) : Nat) : Int) by omega)) ?_
 refine Y.el rfl (e_makeSlice (n := Int.toNat (10 + ar)) (x0 := (⟨0, 0, 0, [], []⟩ : DInode)) rfl u_24 inf_44 rfl (fun w S => zero_44 w S) (.t .z) (.t .z) (by omega) (by omega)) ?_
 rintro _ _ rfl
 refine Y.know (WS.oform .z) ?_
 rintro ⟨b0, b1, rfl, bn, bo, bp⟩
 refine Y.er .g13 (Y.as rfl .z (Y.nil (Y.inBN (Y.then_ (Y.seq (Y.region (Y.mv rfl .z (Y.er .g15 ?_))))))))
 refine Y.as rfl .z (Y.nt (Y.ret ?_))
 refine Y.doneS (res1 rfl .z) (.c .z (.c .z .n)) ?_
 exact ⟨_, _, ⟨by first | omega | (simp <;> omega), by omega, by omega⟩, rfl⟩
 refine Y.skip (Y.inBN (Y.then_ (Y.seq (Y.region (Y.mv rfl .g9 (Y.er .g11 (Y.as rfl .z (Y.nil ?_))))))))
 refine Y.then_ (Y.ret ?_)
 refine Y.doneS (res1 rfl .z) (.c .g1 (.c .z .n)) ?_
 exact ⟨_, _, ⟨by first | omega | (simp <;> omega), by omega, by omega⟩, rfl⟩

end Go.Proofs.YtmejbfmhaoilmaaGreat

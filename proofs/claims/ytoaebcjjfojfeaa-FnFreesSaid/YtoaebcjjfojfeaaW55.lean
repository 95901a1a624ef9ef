/- What is proved: contracts of functions, one a function. No condition. -/
import Derived.Test.YtoaebcjjfojfeaaW51
import Derived.Test.YtoaebcjjfojfeaaW10
import Derived.Test.YtoaebcjjfojfeaaW3
import Derived.Test.YtoaebcjjfojfeaaBase2
namespace Go.Proofs.Ytoaebcjjfojfeaa
open Go Go.RowKit
set_option linter.unusedVariables false
set_option linter.unusedSimpArgs false
set_option maxHeartbeats 1000000 in
set_option maxRecDepth 20000 in
theorem c_108 {w0 : World} {S0 : Bs} {g0 e0 s0 : Nat} {post0 : List Value} {cd : List UInt8} {Ac : Option Addr} {cc : Nat} (hcd : kSl_5.ro w0 (FF w0 S0) cd [.slice Ac cd.length cc]) {a : Int} (hs : Star [rowA g0 e0 s0 1 ((.slice Ac cd.length cc) :: (.int .i64 a) :: post0)] w0 S0) (ha : 0 ≤ a ∧ a ≤ 900000) :
    Calls Try.prog 108 #[.pointer (some ⟨g0, 0, none⟩)] w0 (TriPost w0 S0 (fun r l => ∃ (x : List DInode) (u : Int), (x.length ≤ 11 ∧ a ≤ u ∧ u ≤ a + 600) ∧ l = [ownA kSl_30 x [r], rowA g0 e0 s0 1 (.slice Ac cd.length cc :: .int .i64 u :: post0)])) := by
 obtain ⟨hlc, hmc, hbc⟩ := src_hl hcd
 refine FJ.enter (N := 76) Try.func108 rfl rfl (by simp) [(0, .pointer (some ⟨g0, 0, none⟩))] (by simp) hs ?_
 refine FJ.seq (FJ.region (FJ.ql rfl (q_assign rfl .c) (FJ.nil (FJ.then_ ?_))))
 refine FJ.seq (FJ.region ?_)
 refine FJ.e (goes_list rfl) rfl (by decide) rfl (e_buildNil rfl u_41 (inz inf_30)) ?_
 rintro _ _ ⟨g2, rfl, rfl⟩
 refine FJ.ql rfl (q_assign rfl (.t .z)) (FJ.nil (FJ.then_ (FJ.seq (FJ.seq ?_))))
 refine FJ.region (FJ.ql rfl (q_move rfl (.t (.s (.s (.s .z))))) ?_)
 refine FJ.call (goes_list rfl) rfl (by decide) rfl (c_call rfl Try.func93 rfl rfl (args2 (.t .z) .c)) (.c (.s .z) .n) (fun w1 S1 hs tr => c_93 (tr.ctx hcd) _ hs (by omega) (by omega)) ?_
 rintro _ _ ⟨m3, h0m3, h1m3, rfl, rfl⟩
 refine FJ.cat (.c .n) ?_
 refine FJ.ql rfl (q_assign rfl (.t .z)) (FJ.nil (FJ.then_ (FJ.block ?_)))
 refine FJ.add (c := ownA kSl_30 ([] : (List DInode)) [.slice (some ⟨g2, 0, none⟩) 0 0]) (fun w S => own_nil w S _) ?_
 refine FJ.loopi (γ := (Option Addr) × Nat × Int × Int × (List DInode)) (fun ⟨Agq0, cgq0, n, z, O⟩ => [(4, .int .i64 n), (3, .slice Agq0 O.length cgq0), (2, .slice none 0 0), (0, .pointer (some ⟨g0, 0, none⟩))]) (fun ⟨Agq0, cgq0, n, z, O⟩ => [ownA kSl_30 O [.slice Agq0 O.length cgq0], rowA g0 e0 s0 1 ((.slice Ac cd.length cc) :: (.int .i64 z) :: post0), rowA g2 30 5 0 []]) (fun ⟨Agq0, cgq0, n, z, O⟩ => (0 ≤ n ∧ n ≤ 7) ∧ (a ≤ z ∧ z + 60 * n ≤ a + 421) ∧ inodesFault O = 0 ∧ (O.length : Int) + n ≤ 7) (fun ⟨Agq0, cgq0, n, z, O⟩ => n.toNat) ((some ⟨g2, 0, none⟩), 0, m3, (a + 1), []) ⟨by omega, by omega, by decide, by simp only [List.length_nil]; omega⟩ (.c .z (.c (.s (.s (.s .z))) (.c (.s4 (.s .z)) (.c (.s4 (.s (.s .z))) .n)))) (fun _ h => h.sel (.c .z (.c .z (.c .z .n)))) ?_
 rintro ⟨Agq0, cgq0, n, z, O⟩ ⟨hn, hz, hO, hOl⟩
 refine FJ.seq (FJ.seq (FJ.region (FJ.ql rfl (q_move rfl (.t .z)) (FJ.ql rfl (q_gtr rfl (.t .z) .c) ?_))))
 refine FJ.nil (FJ.then_ ?_)
 refine FJ.condP (.t .z) (fun b5 => ?_) (fun b5 => ?_)
 refine FJ.skip (FJ.then_ (FJ.seq (FJ.block (FJ.seq ?_))))
 refine FJ.region (FJ.ql rfl (q_move rfl (.t (.s4 (.s .z)))) ?_)
 refine FJ.call (goes_list rfl) rfl (by decide) rfl (c_call rfl Try.func92 rfl rfl (args1 (.t .z))) (.c (.s .z) .n) (fun w1 S1 hs tr => c_92 (tr.ctx hcd) hs (by omega)) ?_
 rintro _ _ ⟨nd6, v8, v10, u7, hznd6, rfl, rfl⟩
 refine FJ.cat (.c (.c (.c .n))) ?_
 refine FJ.know (WS.oform .z) ?_
 rintro ⟨Ao12, co12, rfl, hlo12, hmo12, hbo12⟩
 refine FJ.know (WS.oform (.s .z)) ?_
 rintro ⟨Ao13, co13, rfl, hlo13, hmo13, hbo13⟩
 refine FJ.e (goes_list rfl) rfl (by decide) rfl (e_alloc rfl z_30 rfl rfl) ?_
 rintro _ _ ⟨g14, rfl, rfl⟩
 refine FJ.es (goes_list rfl) rfl (es_store (off := 0) (cs := [.int .i64 nd6.kind, .int .i64 nd6.links, .int .i64 nd6.size, .slice Ao12 nd6.blocks.length co12, .slice Ao13 nd6.ents.length co13]) rfl sz_30 (.t .z) (.t (.s .z)) rfl (ones rfl) .z (Nat.le_of_ble_eq_true rfl) (.c .z (.c (.s .z) (.c (.s (.s .z)) (.c (.s (.s (.s .z))) (.c (.s (.s (.s (.s .z)))) .n)))))) ?_
 refine FJ.nil (FJ.then_ (FJ.seq (FJ.seq (FJ.region ?_))))
 refine FJ.ql rfl (q_assign rfl .c) (FJ.nil (FJ.then_ (FJ.block ?_)))
 refine FJ.loopi (γ := Nat × Int × (List Int)) (fun ⟨i, y, B⟩ => [(6, .int .i64 (i : Int)), (5, .pointer (some ⟨g14, 0, none⟩)), (4, .int .i64 n), (3, .slice Agq0 O.length cgq0), (2, .slice none 0 0), (0, .pointer (some ⟨g0, 0, none⟩))]) (fun ⟨i, y, B⟩ => [rowA g14 30 5 1 [.int .i64 nd6.kind, .int .i64 nd6.links, .int .i64 nd6.size, .slice Ao12 nd6.blocks.length co12, .slice Ao13 nd6.ents.length co13], ownA kSl_2 B [.slice Ao12 nd6.blocks.length co12], ownA kSl_130 nd6.ents [.slice Ao13 nd6.ents.length co13], rowA g0 e0 s0 1 ((.slice Ac cd.length cc) :: (.int .i64 y) :: post0), ownA kSl_30 O [.slice Agq0 O.length cgq0], rowA g2 30 5 0 []]) (fun ⟨i, y, B⟩ => i ≤ nd6.blocks.length ∧ (z ≤ y ∧ y ≤ z + 40 + i) ∧ B.length = nd6.blocks.length ∧ ∀ b, b ∈ B → 0 ≤ b ∧ b ≤ 19) (fun ⟨i, y, B⟩ => nd6.blocks.length - i) (0, u7, nd6.blocks) ⟨Nat.zero_le _, by omega, rfl, hznd6.2.2.2.1⟩ (.c .z (.c (.s .z) (.c (.s4 (.s (.s .z))) (.c (.s4 (.s (.s (.s .z)))) (.c (.s4 (.s4 .z)) (.c (.s4 (.s4 (.s .z))) .n)))))) (fun _ h => h.sel (.c .z (.c .z (.c .z (.c .z (.c .z (.c .z .n))))))) ?_
 rintro ⟨i, y, B⟩ ⟨hi, hy, hBl, hBn⟩
 refine FJ.seq (FJ.seq (FJ.region (FJ.ql rfl (q_move rfl (.t .z)) (FJ.ql rfl (q_fieldAddr rfl (.t (.s (.s .z))) (fun _ => fa_30_3 _ _)) ?_))))
 refine FJ.ql rfl (q_load rfl ag_22 (.t .z) (WS.row .z rfl)) (FJ.ql rfl (q_len rfl u_22 (.t .z)) (FJ.ql rfl (q_lss rfl (.t (.s (.s (.s .z)))) (.t .z)) (FJ.ql rfl (q_move rfl (.t .z)) ?_)))
 refine FJ.caseP .z (fun g15 => ?_) (fun g15 => ?_)
 refine FJ.q (goes_listg rfl rfl .z) rfl (by decide) rfl (q_move rfl (.t (.s4 (.s4 (.s (.s (.s .z))))))) ?_
 refine FJ.call (goes_listg rfl rfl (.s .z)) rfl (by decide) rfl (c_call rfl Try.func110 rfl rfl (args2 (.t .z) .c)) (.c (.s (.s (.s .z))) .n) (fun w1 S1 hs tr => c_110 (tr.ctx hcd) _ hs (by omega) (by omega)) ?_
 rintro _ _ ⟨b16, rfl, rfl⟩
 refine FJ.cat (.c .n) ?_
 refine FJ.q (goes_listg rfl rfl (.s (.s .z))) rfl (by decide) rfl (q_not rfl (.t .z)) ?_
 refine FJ.ql rfl (q_pickT rfl (.t (.s (.s (.s .z)))) (.t .z)) (FJ.nil (FJ.then_ ?_))
 refine FJ.cond (.t .z) (fun b17 => ?_) (fun b17 => ?_)
 refine FJ.skip (FJ.then_ (FJ.seq (FJ.block (FJ.seq ?_))))
 refine FJ.region (FJ.ql rfl (q_assign rfl .c) (FJ.nil (FJ.then_ (FJ.block ?_))))
 refine FJ.loopi (γ := Nat × (List Int)) (fun ⟨k, C⟩ => [(7, .int .i64 (k : Int)), (6, .int .i64 (i : Int)), (5, .pointer (some ⟨g14, 0, none⟩)), (4, .int .i64 n), (3, .slice Agq0 O.length cgq0), (2, .slice none 0 0), (0, .pointer (some ⟨g0, 0, none⟩))]) (fun ⟨k, C⟩ => [rowA g0 e0 s0 1 ((.slice Ac cd.length cc) :: (.int .i64 (y + 1)) :: post0), rowA g14 30 5 1 [.int .i64 nd6.kind, .int .i64 nd6.links, .int .i64 nd6.size, .slice Ao12 nd6.blocks.length co12, .slice Ao13 nd6.ents.length co13], ownA kSl_2 C [.slice Ao12 nd6.blocks.length co12], ownA kSl_130 nd6.ents [.slice Ao13 nd6.ents.length co13], ownA kSl_30 O [.slice Agq0 O.length cgq0], rowA g2 30 5 0 []]) (fun ⟨k, C⟩ => k ≤ 20 ∧ C.length = nd6.blocks.length ∧ ∀ b, b ∈ C → 0 ≤ b ∧ b ≤ 19) (fun ⟨k, C⟩ => 20 - k) (0, B) ⟨Nat.zero_le _, hBl, hBn⟩ (.c .z (.c (.s4 (.s4 (.s (.s (.s .z))))) (.c (.s4 (.s4 (.s4 .z))) (.c (.s4 (.s4 (.s4 (.s .z)))) (.c (.s4 (.s4 (.s4 (.s (.s .z))))) (.c (.s4 (.s4 (.s4 (.s (.s (.s .z)))))) (.c (.s16 .z) .n))))))) (fun _ h => h.sel (.c .z (.c .z (.c .z (.c .z (.c .z (.c .z .n))))))) ?_
 rintro ⟨k, C⟩ ⟨hk, hCl, hCn⟩
 refine FJ.seq (FJ.seq (FJ.region (FJ.ql rfl (q_move rfl (.t .z)) (FJ.ql rfl (q_lss rfl (.t .z) .c) ?_))))
 refine FJ.ql rfl (q_move rfl (.t .z)) ?_
 refine FJ.caseP .z (fun g18 => ?_) (fun g18 => ?_)
 refine FJ.q (goes_listg rfl rfl .z) rfl (by decide) rfl (q_move rfl (.t (.s4 (.s (.s (.s .z)))))) ?_
 refine FJ.q (goes_listg rfl rfl (.s .z)) rfl (by decide) rfl (q_fieldAddr rfl (.t (.s4 (.s (.s .z)))) (fun _ => fa_30_3 _ _)) ?_
 refine FJ.q (goes_listg rfl rfl (.s (.s .z))) rfl (by decide) rfl (q_load rfl ag_22 (.t .z) (WS.row (.s .z) rfl)) ?_
 refine FJ.q (goes_listg rfl rfl (.s (.s (.s .z)))) rfl (by decide) rfl (q_move rfl (.t (.s4 (.s (.s (.s .z)))))) ?_
 refine FJ.know (WS.oad (.s (.s .z)) (by omega)) ?_
 rintro ⟨ad19, rfl⟩
 refine FJ.q (goes_listg rfl rfl (.s4 .z)) rfl (by decide) rfl (q_indexAddr (j := i) rfl u_22 sz_2 (.t (.s .z)) (.t .z) rfl (by omega)) ?_
 obtain ⟨x20, hx20⟩ := get_ex (xs := C) (j := i) (by omega)
 have hcx20 := hCn _ (List.mem_of_getElem? hx20)
 refine FJ.q (goes_listg rfl rfl (.s4 (.s .z))) rfl (by decide) rfl (q_load rfl ag_2 (.t .z) (WS.oel (.s (.s .z)) hx20)) ?_
 refine FJ.call (goes_listg rfl rfl (.s4 (.s (.s .z)))) rfl (by decide) rfl (c_call rfl Try.func136 rfl rfl (args2 (.t (.s4 (.s .z))) (.t .z))) .n (fun w1 S1 hs tr => c_136 (tr.own (.s4 .z)) _ (by assumption)) ?_
 rintro _ _ ⟨rfl, rfl⟩
 refine FJ.cat .n ?_
 refine FJ.q (goes_listg rfl rfl (.s4 (.s (.s (.s .z))))) rfl (by decide) rfl (q_gtr rfl (.t .z) .c) ?_
 refine FJ.ql rfl (q_pickT rfl (.t (.s4 (.s4 .z))) (.t .z)) (FJ.nil (FJ.then_ ?_))
 refine FJ.condP (.t .z) (fun b21 => ?_) (fun b21 => ?_)
 refine FJ.skip (FJ.then_ (FJ.seq (FJ.block ?_)))
 refine FJ.draw [rowA g14 30 5 1 [.int .i64 nd6.kind, .int .i64 nd6.links, .int .i64 nd6.size, .slice (some ad19) nd6.blocks.length co12, .slice Ao13 nd6.ents.length co13], ownA kSl_2 C [.slice (some ad19) nd6.blocks.length co12], ownA kSl_130 nd6.ents [.slice Ao13 nd6.ents.length co13], ownA kSl_30 O [.slice Agq0 O.length cgq0], rowA g2 30 5 0 []] 11 (by kernel_rfl) ?_
 refine FJ.sch [(0, true), (1, true), (2, true), (3, true), (4, true), (5, true), (6, true), (7, true), (8, true), (9, true), (10, true), (11, false)] 0 #[true, true, true, true, true, true, true, true, true, true, true, true] (by rfl) (by kernel_rfl) ?_
 refine FJ.dq rfl rfl rfl (by decide) rfl (.s .z) (q_fieldAddr rfl (.t (.s4 (.s4 (.s4 (.s (.s .z)))))) (fun _ => fa_30_3 _ _)) (FJ.dq rfl rfl rfl (by decide) rfl (.s .z) (q_load rfl ag_22 (.t .z) (WS.row .z rfl)) (FJ.dq rfl rfl rfl (by decide) rfl (.s .z) (q_move rfl (.t (.s4 (.s4 (.s4 (.s (.s (.s .z)))))))) (FJ.dq rfl rfl rfl (by decide) rfl (.s .z) (q_fieldAddr rfl (.t (.s16 (.s .z))) (fun _ => fa_30_3 _ _)) (FJ.dq rfl rfl rfl (by decide) rfl (.s .z) (q_load rfl ag_22 (.t .z) (WS.row .z rfl)) ?_))))
 refine FJ.dq rfl rfl rfl (by decide) rfl (.s .z) (q_move rfl (.t (.s16 (.s (.s .z))))) ?_
 refine FJ.dq rfl rfl rfl (by decide) rfl (.s .z) (q_indexAddr (j := i) rfl u_22 sz_2 (.t (.s .z)) (.t .z) rfl (by omega)) ?_
 obtain ⟨x22, hx22⟩ := get_ex (xs := C) (j := i) (by omega)
 have hcx22 := hCn _ (List.mem_of_getElem? hx22)
 refine FJ.dq rfl rfl rfl (by decide) rfl (.s .z) (q_load rfl ag_2 (.t .z) (WS.oel (.s .z) hx22)) ?_
 refine FJ.dq rfl rfl rfl (by decide) rfl (.s .z) (q_add (c := x22 + 1) rfl (.t .z) .c (wr (by omega) (by omega) (by omega))) ?_
 refine FJ.dq rfl rfl rfl (by decide) rfl (.s .z) (q_rem (c := Int.tmod (x22 + 1) 20) rfl (.t .z) .c (by omega) rfl) ?_
 refine FJ.dq rfl rfl rfl (by decide) rfl (.s .z) (q_indexAddr (j := i) rfl u_22 sz_2 (.t (.s4 (.s4 .z))) (.t (.s4 (.s (.s (.s .z))))) rfl (by omega)) ?_
 refine FJ.add (c := ownA (kint .i64) (Int.tmod (x22 + 1) 20) [.int .i64 (Int.tmod (x22 + 1) 20)]) (fun _ _ => ⟨rfl, trivial⟩) ?_
 refine FJ.es (goes_sch rfl rfl) rfl (es_set (j := i) rfl sz_2 (.t .z) (.t (.s .z)) rfl (.c (.s (.s (.s .z))) (.c .z .n)) (by omega)) ?_
 refine FJ.sl rfl ?_
 refine FJ.schN ?_
 refine FJ.drawN (by kernel_rfl) ?_
 refine FJ.inBN (FJ.then_ (FJ.region (FJ.ql rfl (q_move rfl (.t (.s16 (.s4 (.s (.s (.s .z))))))) ?_)))
 refine FJ.ql rfl (q_add (c := ((k + 1 : Nat) : Int)) rfl (.t .z) .c (wr (by omega) (by omega) (by omega))) ?_
 refine FJ.er (.s16 (.s4 (.s4 (.s .z)))) (FJ.ql rfl (q_assign rfl (.t .z)) (FJ.nil ?_))
 refine FJ.again ((k + 1), List.set C i (Int.tmod (x22 + 1) 20)) ⟨by omega, ⟨by rw [List.length_set]; exact hCl, set_in hCn ⟨(tmod_in (by omega) (by omega)).1, Int.le_of_lt_add_one (tmod_in (by omega) (by omega)).2⟩⟩⟩ (by first | omega | (dsimp only; omega)) (.c .z (.c (.s16 (.s4 (.s4 (.s (.s .z))))) (.c (.s16 (.s4 (.s4 (.s (.s (.s .z)))))) (.c (.s16 (.s4 (.s4 (.s4 .z)))) (.c (.s16 (.s4 (.s4 (.s4 (.s .z))))) (.c (.s16 (.s4 (.s4 (.s4 (.s (.s .z)))))) (.c (.s16 (.s4 (.s4 (.s4 (.s (.s (.s .z))))))) .n))))))) (fun _ h => h.sel (.c (.s .z) (.c (.s .z) (.c .z (.c .z (.c .z (.c .z .n)))))))
 refine FJ.exit (FJ.thenE (FJ.thenE (FJ.inB (FJ.inBN ?_))))
 refine FJ.then_ (FJ.region (FJ.ql rfl (q_move rfl (.t (.s4 (.s4 (.s4 (.s .z)))))) ?_))
 refine FJ.ql rfl (q_add (c := ((i + 1 : Nat) : Int)) rfl (.t .z) .c (wr (by omega) (by omega) (by omega))) ?_
 refine FJ.er (.s4 (.s4 (.s4 (.s (.s (.s .z)))))) (FJ.ql rfl (q_assign rfl (.t .z)) (FJ.nil ?_))
 refine FJ.again ((i + 1), (y + 1), C) ⟨by omega, ⟨by omega, by assumption, by assumption⟩⟩ (by first | omega | (dsimp only; omega)) (.c .z (.c (.s16 .z) (.c (.s16 (.s .z)) (.c (.s16 (.s (.s .z))) (.c (.s16 (.s (.s (.s .z)))) (.c (.s16 (.s4 .z)) .n)))))) (fun _ h => h.sel (.c (.s .z) (.c (.s .z) (.c (.s .z) (.c .z (.c .z (.c .z .n)))))))
 refine FJ.skipl rfl rfl .z rfl rfl (by decide) rfl ?_
 refine FJ.skipl rfl rfl (.s .z) rfl rfl (by decide) rfl ?_
 refine FJ.skipl rfl rfl (.s (.s .z)) rfl rfl (by decide) rfl ?_
 refine FJ.skipl rfl rfl (.s (.s (.s .z))) rfl rfl (by decide) rfl ?_
 refine FJ.skipl rfl rfl (.s4 .z) rfl rfl (by decide) rfl ?_
 refine FJ.skipl rfl rfl (.s4 (.s .z)) rfl rfl (by decide) rfl ?_
 refine FJ.skipl rfl rfl (.s4 (.s (.s .z))) rfl rfl (by decide) rfl ?_
 refine FJ.skipl rfl rfl (.s4 (.s (.s (.s .z)))) rfl rfl (by decide) rfl ?_
 refine FJ.ql rfl (q_pickF rfl (.t (.s4 (.s4 .z))) .c) (FJ.nil (FJ.then_ ?_))
 refine FJ.condF (.t .z) ?_
 refine FJ.exit (FJ.thenE (FJ.thenE (FJ.inB (FJ.inBN ?_))))
 refine FJ.then_ (FJ.region (FJ.ql rfl (q_move rfl (.t (.s4 (.s4 (.s4 (.s .z)))))) ?_))
 refine FJ.ql rfl (q_add (c := ((i + 1 : Nat) : Int)) rfl (.t .z) .c (wr (by omega) (by omega) (by omega))) ?_
 refine FJ.er (.s4 (.s4 (.s4 (.s (.s (.s .z)))))) (FJ.ql rfl (q_assign rfl (.t .z)) (FJ.nil ?_))
 refine FJ.again ((i + 1), (y + 1), C) ⟨by omega, ⟨by omega, by assumption, by assumption⟩⟩ (by first | omega | (dsimp only; omega)) (.c .z (.c (.s16 .z) (.c (.s16 (.s .z)) (.c (.s16 (.s (.s .z))) (.c (.s16 (.s (.s (.s .z)))) (.c (.s16 (.s4 .z)) .n)))))) (fun _ h => h.sel (.c (.s .z) (.c (.s .z) (.c (.s .z) (.c .z (.c .z (.c .z .n)))))))
 refine FJ.exit (FJ.thenE (FJ.thenE (FJ.inB (FJ.then_ ?_))))
 refine FJ.seq (FJ.region ?_)
 refine FJ.call (goes_list rfl) rfl (by decide) rfl (c_call rfl Try.func69 rfl rfl (args1 (.t (.s4 (.s4 (.s (.s (.s .z)))))))) .n (fun w1 S1 hs tr => c_69 (tr.ptr (.s .z) (kT_30_mk (⟨nd6.kind, nd6.links, nd6.size, B, nd6.ents⟩ : DInode) (tr.own (.s (.s .z))) (tr.own (.s (.s (.s .z))))))) ?_
 rintro _ _ ⟨rfl, rfl⟩
 refine FJ.cat .n ?_
 refine FJ.ql rfl (q_eql rfl (.t .z) .c) (FJ.nil (FJ.then_ ?_))
 refine FJ.condP (.t .z) (fun b24 => ?_) (fun b24 => ?_)
 refine FJ.region (FJ.ql rfl (q_move rfl (.t (.s4 (.s4 (.s4 (.s (.s (.s .z)))))))) ?_)
 refine FJ.ql rfl (q_loadA (cs := [.int .i64 nd6.kind, .int .i64 nd6.links, .int .i64 nd6.size, .slice Ao12 nd6.blocks.length co12, .slice Ao13 nd6.ents.length co13]) rfl ag_30 sz_30 (.t (.s4 (.s4 (.s4 (.s (.s .z)))))) (WS.rows0 (.s .z) (fun i u h => by exact h))) ?_
 refine FJ.e (goes_list rfl) rfl (by decide) rfl (e_buildSliceL (ps := [(0, .agg #[.int .i64 nd6.kind, .int .i64 nd6.links, .int .i64 nd6.size, .slice Ao12 nd6.blocks.length co12, .slice Ao13 nd6.ents.length co13])]) (cs := [.int .i64 nd6.kind, .int .i64 nd6.links, .int .i64 nd6.size, .slice Ao12 nd6.blocks.length co12, .slice Ao13 nd6.ents.length co13]) rfl u_41 (inz inf_30) (by decide) (by intro act hact; simp only [List.map_toArray, List.map_cons, List.map_nil, (show Val _ _ _ from (.t .z)) act hact]) rfl rfl (by decide) rfl rfl) ?_
 rintro _ _ ⟨g25, rfl, rfl⟩
 refine FJ.turns (c := ownA kT_30 (⟨nd6.kind, nd6.links, nd6.size, B, nd6.ents⟩ : DInode) [.int .i64 nd6.kind, .int .i64 nd6.links, .int .i64 nd6.size, .slice Ao12 nd6.blocks.length co12, .slice Ao13 nd6.ents.length co13]) (.c (.s (.s (.s .z))) (.c (.s (.s (.s .z))) .n)) (fun w S h => kT_30_omk (⟨nd6.kind, nd6.links, nd6.size, B, nd6.ents⟩ : DInode) h) ?_
 refine FJ.e (goes_list rfl) rfl (by decide) rfl (e_append1 rfl u_41 inf_30 rfl (.t (.s (.s .z))) (.t .z) (.c (.s4 .z) (.c (.s .z) (.c .z .n))) (by first | omega | (simp only [List.length_append, List.length_cons, List.length_nil, List.length_replicate]; omega)) (by first | omega | (simp only [List.length_append, List.length_cons, List.length_nil, List.length_replicate]; omega))) ?_
 rintro _ _ rfl
 refine FJ.know (WS.oform .z) ?_
 rintro ⟨Ao27, co27, rfl, hlo27, hmo27, hbo27⟩
 refine FJ.er (.s16 (.s (.s (.s .z)))) (FJ.ql rfl (q_assign rfl (.t .z)) (FJ.nil (FJ.inBN (FJ.then_ ?_))))
 refine FJ.region (FJ.ql rfl (q_move rfl (.t (.s16 (.s (.s (.s .z)))))) ?_)
 refine FJ.ql rfl (q_sub (c := n - 1) rfl (.t .z) .c (wr (by omega) (by omega) (by omega))) ?_
 refine FJ.er (.s16 (.s4 (.s .z))) (FJ.ql rfl (q_assign rfl (.t .z)) (FJ.nil ?_))
 refine FJ.again (Ao27, co27, n - 1, (y + 1), O ++ [(⟨nd6.kind, nd6.links, nd6.size, B, nd6.ents⟩ : DInode)]) ⟨by omega, by omega, (by first | exact hO | exact inodes_snoc hO (by assumption) (by omega)), (by first | omega | (simp only [List.length_append, List.length_cons, List.length_nil]; omega))⟩ (by first | omega | (dsimp only; omega)) (.c .z (.c (.s (.s (.s .z))) (.c (.s16 (.s4 (.s (.s .z)))) (.c (.s16 (.s4 (.s (.s (.s .z))))) .n)))) (fun _ h => h.sel (.c .z (.c .z (.c (.s .z) .n))))
 refine FJ.skip (FJ.inBN (FJ.then_ (FJ.region (FJ.ql rfl (q_move rfl (.t (.s4 (.s4 (.s4 (.s (.s .z))))))) ?_))))
 refine FJ.ql rfl (q_sub (c := n - 1) rfl (.t .z) .c (wr (by omega) (by omega) (by omega))) ?_
 refine FJ.er (.s16 .z) (FJ.ql rfl (q_assign rfl (.t .z)) (FJ.nil ?_))
 refine FJ.again (Agq0, cgq0, n - 1, (y + 1), O) ⟨by omega, by omega, (by first | exact hO | exact inodes_snoc hO (by assumption) (by omega)), (by first | omega | (simp only [List.length_append, List.length_cons, List.length_nil]; omega))⟩ (by first | omega | (dsimp only; omega)) (.c .z (.c (.s16 (.s .z)) (.c (.s16 (.s (.s .z))) (.c (.s16 (.s (.s (.s .z)))) .n)))) (fun _ h => h.sel (.c (.s4 .z) (.c .z (.c (.s (.s (.s .z))) .n))))
 refine FJ.skipl rfl rfl .z rfl rfl (by decide) rfl ?_
 refine FJ.skipl rfl rfl (.s .z) rfl rfl (by decide) rfl ?_
 refine FJ.skipl rfl rfl (.s (.s .z)) rfl rfl (by decide) rfl ?_
 refine FJ.ql rfl (q_pickF rfl (.t (.s (.s (.s .z)))) .c) (FJ.nil (FJ.then_ ?_))
 refine FJ.condF (.t .z) ?_
 refine FJ.exit (FJ.thenE (FJ.thenE (FJ.inB (FJ.then_ ?_))))
 refine FJ.seq (FJ.region ?_)
 refine FJ.call (goes_list rfl) rfl (by decide) rfl (c_call rfl Try.func69 rfl rfl (args1 (.t (.s4 (.s4 (.s (.s (.s .z)))))))) .n (fun w1 S1 hs tr => c_69 (tr.ptr .z (kT_30_mk (⟨nd6.kind, nd6.links, nd6.size, B, nd6.ents⟩ : DInode) (tr.own (.s .z)) (tr.own (.s (.s .z)))))) ?_
 rintro _ _ ⟨rfl, rfl⟩
 refine FJ.cat .n ?_
 refine FJ.ql rfl (q_eql rfl (.t .z) .c) (FJ.nil (FJ.then_ ?_))
 refine FJ.condP (.t .z) (fun b28 => ?_) (fun b28 => ?_)
 refine FJ.region (FJ.ql rfl (q_move rfl (.t (.s4 (.s4 (.s4 (.s (.s (.s .z)))))))) ?_)
 refine FJ.ql rfl (q_loadA (cs := [.int .i64 nd6.kind, .int .i64 nd6.links, .int .i64 nd6.size, .slice Ao12 nd6.blocks.length co12, .slice Ao13 nd6.ents.length co13]) rfl ag_30 sz_30 (.t (.s4 (.s4 (.s4 (.s (.s .z)))))) (WS.rows0 .z (fun i u h => by exact h))) ?_
 refine FJ.e (goes_list rfl) rfl (by decide) rfl (e_buildSliceL (ps := [(0, .agg #[.int .i64 nd6.kind, .int .i64 nd6.links, .int .i64 nd6.size, .slice Ao12 nd6.blocks.length co12, .slice Ao13 nd6.ents.length co13])]) (cs := [.int .i64 nd6.kind, .int .i64 nd6.links, .int .i64 nd6.size, .slice Ao12 nd6.blocks.length co12, .slice Ao13 nd6.ents.length co13]) rfl u_41 (inz inf_30) (by decide) (by intro act hact; simp only [List.map_toArray, List.map_cons, List.map_nil, (show Val _ _ _ from (.t .z)) act hact]) rfl rfl (by decide) rfl rfl) ?_
 rintro _ _ ⟨g29, rfl, rfl⟩
 refine FJ.turns (c := ownA kT_30 (⟨nd6.kind, nd6.links, nd6.size, B, nd6.ents⟩ : DInode) [.int .i64 nd6.kind, .int .i64 nd6.links, .int .i64 nd6.size, .slice Ao12 nd6.blocks.length co12, .slice Ao13 nd6.ents.length co13]) (.c (.s (.s .z)) (.c (.s (.s .z)) .n)) (fun w S h => kT_30_omk (⟨nd6.kind, nd6.links, nd6.size, B, nd6.ents⟩ : DInode) h) ?_
 refine FJ.e (goes_list rfl) rfl (by decide) rfl (e_append1 rfl u_41 inf_30 rfl (.t (.s (.s .z))) (.t .z) (.c (.s4 .z) (.c (.s .z) (.c .z .n))) (by first | omega | (simp only [List.length_append, List.length_cons, List.length_nil, List.length_replicate]; omega)) (by first | omega | (simp only [List.length_append, List.length_cons, List.length_nil, List.length_replicate]; omega))) ?_
 rintro _ _ rfl
 refine FJ.know (WS.oform .z) ?_
 rintro ⟨Ao31, co31, rfl, hlo31, hmo31, hbo31⟩
 refine FJ.er (.s16 (.s (.s (.s .z)))) (FJ.ql rfl (q_assign rfl (.t .z)) (FJ.nil (FJ.inBN (FJ.then_ ?_))))
 refine FJ.region (FJ.ql rfl (q_move rfl (.t (.s16 (.s (.s (.s .z)))))) ?_)
 refine FJ.ql rfl (q_sub (c := n - 1) rfl (.t .z) .c (wr (by omega) (by omega) (by omega))) ?_
 refine FJ.er (.s16 (.s4 (.s .z))) (FJ.ql rfl (q_assign rfl (.t .z)) (FJ.nil ?_))
 refine FJ.again (Ao31, co31, n - 1, y, O ++ [(⟨nd6.kind, nd6.links, nd6.size, B, nd6.ents⟩ : DInode)]) ⟨by omega, by omega, (by first | exact hO | exact inodes_snoc hO (by assumption) (by omega)), (by first | omega | (simp only [List.length_append, List.length_cons, List.length_nil]; omega))⟩ (by first | omega | (dsimp only; omega)) (.c .z (.c (.s (.s (.s .z))) (.c (.s16 (.s4 (.s (.s .z)))) (.c (.s16 (.s4 (.s (.s (.s .z))))) .n)))) (fun _ h => h.sel (.c .z (.c (.s .z) (.c (.s .z) .n))))
 refine FJ.skip (FJ.inBN (FJ.then_ (FJ.region (FJ.ql rfl (q_move rfl (.t (.s4 (.s4 (.s4 (.s (.s .z))))))) ?_))))
 refine FJ.ql rfl (q_sub (c := n - 1) rfl (.t .z) .c (wr (by omega) (by omega) (by omega))) ?_
 refine FJ.er (.s16 .z) (FJ.ql rfl (q_assign rfl (.t .z)) (FJ.nil ?_))
 refine FJ.again (Agq0, cgq0, n - 1, y, O) ⟨by omega, by omega, (by first | exact hO | exact inodes_snoc hO (by assumption) (by omega)), (by first | omega | (simp only [List.length_append, List.length_cons, List.length_nil]; omega))⟩ (by first | omega | (dsimp only; omega)) (.c .z (.c (.s16 (.s .z)) (.c (.s16 (.s (.s .z))) (.c (.s16 (.s (.s (.s .z)))) .n)))) (fun _ h => h.sel (.c (.s4 .z) (.c (.s (.s (.s .z))) (.c (.s (.s (.s .z))) .n))))
 refine FJ.exit (FJ.thenE (FJ.thenE (FJ.inB (FJ.then_ ?_))))
 refine FJ.seq (FJ.seq (FJ.region (FJ.ql rfl (q_move rfl (.t (.s4 (.s .z)))) ?_)))
 refine FJ.call (goes_list rfl) rfl (by decide) rfl (c_call rfl Try.func93 rfl rfl (args2 (.t .z) .c)) (.c (.s .z) .n) (fun w1 S1 hs tr => c_93 (tr.ctx hcd) _ hs (by omega) (by omega)) ?_
 rintro _ _ ⟨m32, h0m32, h1m32, rfl, rfl⟩
 refine FJ.cat (.c .n) ?_
 refine FJ.nil (FJ.then_ (FJ.block (FJ.seq (FJ.region ?_))))
 refine FJ.ql rfl (q_eql rfl (.t .z) .c) (FJ.ql rfl (q_assign rfl (.t .z)) (FJ.nil (FJ.then_ ?_)))
 refine FJ.condP (.t .z) (fun b33 => ?_) (fun b33 => ?_)
 refine FJ.region (FJ.ql rfl (q_move rfl (.t (.s4 (.s (.s (.s .z)))))) (FJ.ql rfl (q_move rfl (.t (.s4 (.s4 (.s (.s .z)))))) ?_))
 refine FJ.call (goes_list rfl) rfl (by decide) rfl (c_call rfl Try.func99 rfl rfl (args1 (.t .z))) (.c .z .n) (fun w1 S1 hs tr => c_99 (tr.ctx hcd) hs (by omega)) ?_
 rintro _ _ ⟨nd34, v36, v38, u35, hznd34, rfl, rfl⟩
 refine FJ.cat (.c (.c (.c .n))) ?_
 refine FJ.know (WS.oform .z) ?_
 rintro ⟨Ao40, co40, rfl, hlo40, hmo40, hbo40⟩
 refine FJ.know (WS.oform (.s .z)) ?_
 rintro ⟨Ao41, co41, rfl, hlo41, hmo41, hbo41⟩
 refine FJ.e (goes_list rfl) rfl (by decide) rfl (e_buildSliceL (ps := [(0, .agg #[.int .i64 nd34.kind, .int .i64 nd34.links, .int .i64 nd34.size, .slice Ao40 nd34.blocks.length co40, .slice Ao41 nd34.ents.length co41])]) (cs := [.int .i64 nd34.kind, .int .i64 nd34.links, .int .i64 nd34.size, .slice Ao40 nd34.blocks.length co40, .slice Ao41 nd34.ents.length co41]) rfl u_41 (inz inf_30) (by decide) (by intro act hact; simp only [List.map_toArray, List.map_cons, List.map_nil, (show Val _ _ _ from (.t .z)) act hact]) rfl rfl (by decide) rfl rfl) ?_
 rintro _ _ ⟨g42, rfl, rfl⟩
 refine FJ.turns (c := ownA kT_30 (⟨nd34.kind, nd34.links, nd34.size, nd34.blocks, nd34.ents⟩ : DInode) [.int .i64 nd34.kind, .int .i64 nd34.links, .int .i64 nd34.size, .slice Ao40 nd34.blocks.length co40, .slice Ao41 nd34.ents.length co41]) (.c (.s .z) (.c (.s .z) .n)) (fun w S h => kT_30_omk (⟨nd34.kind, nd34.links, nd34.size, nd34.blocks, nd34.ents⟩ : DInode) h) ?_
 refine FJ.e (goes_list rfl) rfl (by decide) rfl (e_append1 rfl u_41 inf_30 rfl (.t (.s (.s (.s .z)))) (.t .z) (.c (.s (.s (.s .z))) (.c (.s .z) (.c .z .n))) (by first | omega | (simp only [List.length_append, List.length_cons, List.length_nil, List.length_replicate]; omega)) (by first | omega | (simp only [List.length_append, List.length_cons, List.length_nil, List.length_replicate]; omega))) ?_
 rintro _ _ rfl
 refine FJ.know (WS.oform .z) ?_
 rintro ⟨Ao44, co44, rfl, hlo44, hmo44, hbo44⟩
 refine FJ.er (.s4 (.s4 (.s4 .z))) (FJ.ql rfl (q_assign rfl (.t .z)) (FJ.nil (FJ.inBN (FJ.then_ ?_))))
 refine FJ.seq (FJ.region (FJ.ql rfl (q_move rfl (.t .z)) (FJ.er (.s4 (.s4 (.s4 (.s (.s .z))))) (FJ.ql rfl (q_assign rfl (.t .z)) ?_))))
 refine FJ.nil (FJ.then_ (FJ.ret ?_))
 refine FJ.doneS (res1 rfl .z) (.c .z (.c .z .n)) ?_
 exact ⟨_, _, ⟨by first | omega | (simp only [List.length_append, List.length_cons, List.length_nil, List.length_replicate]; omega), by omega, by omega⟩, rfl⟩
 refine FJ.seq (FJ.region (FJ.ql rfl (q_eql rfl (.t (.s (.s .z))) .c) (FJ.ql rfl (q_assign rfl (.t .z)) (FJ.nil ?_))))
 refine FJ.then_ ?_
 refine FJ.condP (.t .z) (fun b45 => ?_) (fun b45 => ?_)
 refine FJ.region (FJ.ql rfl (q_move rfl (.t (.s4 (.s4 (.s (.s (.s .z))))))) ?_)
 refine FJ.call (goes_list rfl) rfl (by decide) rfl (c_call rfl Try.func93 rfl rfl (args2 (.t .z) .c)) (.c .z .n) (fun w1 S1 hs tr => c_93 (tr.ctx hcd) _ hs (by omega) (by omega)) ?_
 rintro _ _ ⟨m46, h0m46, h1m46, rfl, rfl⟩
 refine FJ.cat (.c .n) ?_
 refine FJ.ql rfl (q_add (c := 10 + m46) rfl .c (.t .z) (wr (by omega) (by omega) (by omega))) ?_
 refine FJ.eq .z (congrArg (Value.int .i64) (show 10 + m46 = ((Int.toNat (10 + m46) : Nat) : Int) by omega)) ?_
 refine FJ.e (goes_list rfl) rfl (by decide) rfl (e_makeSlice (n := Int.toNat (10 + m46)) (x0 := (⟨0, 0, 0, [], []⟩ : DInode)) rfl u_41 inf_30 rfl (fun w S => zero_30 w S) (.t .z) (.t .z) (by omega) (by omega)) ?_
 rintro _ _ rfl
 refine FJ.know (WS.oform .z) ?_
 rintro ⟨Ao48, co48, rfl, hlo48, hmo48, hbo48⟩
 refine FJ.er (.s4 (.s4 (.s4 (.s .z)))) (FJ.ql rfl (q_assign rfl (.t .z)) (FJ.nil (FJ.inBN (FJ.then_ ?_))))
 refine FJ.seq (FJ.region (FJ.ql rfl (q_move rfl (.t .z)) (FJ.er (.s4 (.s4 (.s4 (.s (.s (.s .z)))))) (FJ.ql rfl (q_assign rfl (.t .z)) ?_))))
 refine FJ.nil (FJ.then_ (FJ.ret ?_))
 refine FJ.doneS (res1 rfl .z) (.c .z (.c .z .n)) ?_
 exact ⟨_, _, ⟨by first | omega | (simp only [List.length_append, List.length_cons, List.length_nil, List.length_replicate]; omega), by omega, by omega⟩, rfl⟩
 refine FJ.skip (FJ.inBN (FJ.then_ (FJ.seq (FJ.region ?_))))
 refine FJ.ql rfl (q_move rfl (.t (.s4 (.s4 (.s .z))))) (FJ.er (.s4 (.s4 (.s (.s (.s .z))))) (FJ.ql rfl (q_assign rfl (.t .z)) (FJ.nil (FJ.then_ ?_))))
 refine FJ.ret ?_
 refine FJ.doneS (res1 rfl .z) (.c (.s .z) (.c .z .n)) ?_
 exact ⟨_, _, ⟨by first | omega | (simp only [List.length_append, List.length_cons, List.length_nil, List.length_replicate]; omega), by omega, by omega⟩, rfl⟩

end Go.Proofs.Ytoaebcjjfojfeaa

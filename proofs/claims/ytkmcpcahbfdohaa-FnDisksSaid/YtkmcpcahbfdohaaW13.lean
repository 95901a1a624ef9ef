/- What is proved: contracts of functions, one a function. No condition. -/
import Derived.Test.YtkmcpcahbfdohaaW11
namespace Go.Proofs.Ytkmcpcahbfdohaa
open Go Go.RowKit
set_option linter.unusedVariables false
set_option linter.unusedSimpArgs false
set_option maxHeartbeats 1000000 in
set_option maxRecDepth 20000 in
theorem c_98 {w0 : World} {S0 : Bs} {d : DDisk} {g0 e0 s0 : Nat} {post0 : List Value} {v0_0 : Value} {v0_1 : Value} (hs : Star [rowA g0 e0 s0 1 (v0_0 :: v0_1 :: post0), ownA kSl_40 d.blocks [v0_0], ownA kSl_57 d.cache [v0_1]] w0 S0) (hd : diskFault d = 0) :
    Calls Try.prog 98 #[.pointer (some ⟨g0, 0, none⟩)] w0 (TriPost w0 S0 (PA_25 g0 e0 s0 post0 ⟨keepN true [] d.cache d.blocks d.cache.length, []⟩)) := by
 refine FJ.enter (N := 26) Try.func98 rfl rfl (by simp) [(0, .pointer (some ⟨g0, 0, none⟩))] (by simp) hs ?_
 refine FJ.know (WS.oform (.s .z)) ?_
 rintro ⟨Ao1, co1, rfl, hlo1, hmo1, hbo1⟩
 refine FJ.know (WS.oform (.s (.s .z))) ?_
 rintro ⟨Ao2, co2, rfl, hlo2, hmo2, hbo2⟩
 refine FJ.seq (FJ.seq (FJ.region (FJ.ql rfl (q_move rfl (.t .z)) (FJ.ql rfl (q_nilCheck rfl (.t .z)) ?_))))
 refine FJ.ql rfl (q_fieldAddr rfl (.t .z) (fun _ => fa_25_1 _ _)) (FJ.ql rfl (q_load rfl ag_23 (.t .z) (WS.row .z rfl)) (FJ.ql rfl (q_len rfl u_23 (.t .z)) (FJ.ql rfl (q_move rfl .c) (FJ.nil ?_))))
 refine FJ.then_ (FJ.block ?_)
 refine FJ.open (.c (.s (.s .z)) .n) own_raw ?_
 rintro css hlcss
 refine FJ.loopi (γ := Nat) (fun k => [(9, .int .i64 (k : Int)), (8, .int .i64 (d.cache.length : Int)), (7, .slice Ao2 d.cache.length co2), (0, .pointer (some ⟨g0, 0, none⟩))]) (fun k => [ownA (kslice 57 32 (kraw kT_57.sz kT_57.pos)) css [.slice Ao2 d.cache.length co2], seqC kT_57 (List.drop k d.cache) (List.drop k css), rowA g0 e0 s0 1 ((.slice Ao1 d.blocks.length co1) :: (.slice Ao2 d.cache.length co2) :: post0), ownA kSl_40 (keepN true [] d.cache d.blocks k) [.slice Ao1 d.blocks.length co1]]) (fun k => k ≤ d.cache.length) (fun k => d.cache.length - k) 0 (Nat.zero_le _) (.c .z (.c (.s .z) (.c (.s (.s .z)) (.c (.s4 (.s (.s .z))) .n)))) (fun _ h => h.sel (.c .z (.c .z (.c .z (.c .z .n))))) ?_
 rintro k hk
 refine FJ.seq (FJ.region (FJ.ql rfl (q_lss rfl (.t .z) (.t (.s .z))) (FJ.nil (FJ.then_ ?_))))
 refine FJ.seq ?_
 refine FJ.condP (.t .z) (fun b3 => ?_) (fun b3 => ?_)
 refine FJ.skip (FJ.then_ (FJ.seq (FJ.block (FJ.seq ?_))))
 refine FJ.region ?_
 refine FJ.know (WS.oad .z (by first | omega | (rw [keepN_len]; omega))) ?_
 rintro ⟨ad4, rfl⟩
 obtain ⟨c5, hc5⟩ := get_ex (xs := css) (j := k) (by first | omega | (rw [keepN_len]; omega))
 obtain ⟨y6, hy6⟩ := get_ex (xs := d.cache) (j := k) (by first | omega | (rw [keepN_len]; omega))
 refine FJ.turn (.s .z) (seq_pop hy6 hc5) ?_
 refine FJ.open (.c .z .n) kT_57_op ?_
 rintro v7 rfl
 refine FJ.know (WS.oform .z) ?_
 rintro ⟨Ao9, co9, rfl, hlo9, hmo9, hbo9⟩
 have py6 := putAt_ok hd hy6
 refine FJ.ql rfl (q_indexAddr (j := k) rfl u_23 sz_57 (.t (.s (.s (.s .z)))) (.t (.s .z)) rfl (by first | omega | (rw [keepN_len]; omega))) ?_
 refine FJ.ql rfl (q_loadA (cs := [.int .i64 y6.at_, .slice Ao9 y6.words.length co9]) rfl ag_57 sz_57 (.t .z) (WS.raws (.s (.s .z)) hc5)) ?_
 refine FJ.e (goes_list rfl) rfl (by decide) rfl (e_alloc rfl z_57 rfl rfl) ?_
 rintro _ _ ⟨g11, rfl, rfl⟩
 refine FJ.es (goes_list rfl) rfl (es_store (off := 0) (cs := [.int .i64 y6.at_, .slice Ao9 y6.words.length co9]) rfl sz_57 (.t .z) (.t (.s .z)) rfl (ones rfl) .z (Nat.le_of_ble_eq_true rfl) (.c .z (.c (.s .z) .n))) ?_
 refine FJ.nil (FJ.then_ ?_)
 refine FJ.draw [rowA g11 57 2 1 [.int .i64 y6.at_, .slice Ao9 y6.words.length co9], ownA kSl_2 y6.words [.slice Ao9 y6.words.length co9], seqC kT_57 (List.drop (k + 1) d.cache) (List.drop (k + 1) css), ownA (kslice 57 32 (kraw kT_57.sz kT_57.pos)) css [.slice (some ad4) d.cache.length co2], rowA g0 e0 s0 1 ((.slice Ao1 d.blocks.length co1) :: (.slice (some ad4) d.cache.length co2) :: post0), ownA kSl_40 (keepN true [] d.cache d.blocks k) [.slice Ao1 d.blocks.length co1]] 9 (by kernel_rfl) ?_
 refine FJ.sch [(0, true), (1, true), (2, true), (3, true), (4, true), (5, true), (6, true), (7, true), (8, true), (9, false)] 0 #[true, true, true, true, true, true, true, true, true, true] (by rfl) (by kernel_rfl) ?_
 refine FJ.dq rfl rfl rfl (by decide) rfl .z (q_move rfl (.t (.s4 (.s (.s (.s .z)))))) (FJ.dq rfl rfl rfl (by decide) rfl .z (q_nilCheck rfl (.t .z)) (FJ.dq rfl rfl rfl (by decide) rfl .z (q_fieldAddr rfl (.t .z) (fun _ => fa_25_0 _ _)) (FJ.dq rfl rfl rfl (by decide) rfl .z (q_load rfl ag_22 (.t .z) (WS.row (.s4 .z) rfl)) (FJ.dq rfl rfl rfl (by decide) rfl .z (q_fieldAddr rfl (.t (.s4 .z)) (fun _ => fa_57_0 _ _)) ?_))))
 refine FJ.dq rfl rfl rfl (by decide) rfl .z (q_load rfl ag_2 (.t .z) (WS.row .z rfl)) (FJ.dq rfl rfl rfl (by decide) rfl .z (q_fieldAddr rfl (.t (.s4 (.s (.s .z)))) (fun _ => fa_57_1 _ _)) (FJ.dq rfl rfl rfl (by decide) rfl .z (q_load rfl ag_40 (.t .z) (WS.row .z rfl)) ?_))
 refine FJ.know (WS.oad (.s4 (.s .z)) (by first | omega | (rw [keepN_len]; omega))) ?_
 rintro ⟨ad12, rfl⟩
 refine FJ.dq rfl rfl rfl (by decide) rfl .z (q_indexAddr (j := Int.toNat y6.at_) rfl u_22 sz_40 (.t (.s4 .z)) (.t (.s (.s .z))) (by omega) (by first | omega | (rw [keepN_len]; omega))) ?_
 refine FJ.es (goes_sch rfl rfl) rfl (es_set (j := Int.toNat y6.at_) rfl sz_40 (.t .z) (.t (.s .z)) rfl (.c (.s4 (.s .z)) (.c (.s .z) .n)) (by first | omega | (rw [keepN_len]; omega))) ?_
 refine FJ.ceq .z (keepN_on hy6 (by first | rfl)) ?_
 refine FJ.sl rfl ?_
 refine FJ.schN ?_
 refine FJ.drawN (by kernel_rfl) ?_
 refine FJ.inBN (FJ.then_ (FJ.region ?_))
 refine FJ.ql rfl (q_add (c := ((k + 1 : Nat) : Int)) rfl (.t (.s4 (.s4 (.s4 (.s .z))))) .c (wr (by omega) (by omega) (by omega))) ?_
 refine FJ.er (.s4 (.s4 (.s4 (.s (.s .z))))) (FJ.ql rfl (q_move rfl (.t .z)) (FJ.nil ?_))
 refine FJ.again (k + 1) (by omega) (by first | omega | (dsimp only; omega)) (.c .z (.c (.s4 (.s4 (.s4 (.s (.s (.s .z)))))) (.c (.s16 .z) (.c (.s16 (.s .z)) .n)))) (fun _ h => h.sel (.c (.s (.s (.s .z))) (.c (.s (.s .z)) (.c (.s (.s .z)) (.c .z .n)))))
 refine FJ.exit (FJ.thenE (FJ.thenE (FJ.inB (FJ.then_ ?_))))
 refine FJ.region (FJ.ql rfl (q_move rfl (.t (.s4 .z))) (FJ.ql rfl (q_nilCheck rfl (.t .z)) (FJ.ql rfl (q_fieldAddr rfl (.t .z) (fun _ => fa_25_1 _ _)) ?_)))
 refine FJ.es (goes_list rfl) rfl (es_store (off := 1) (cs := [.slice none 0 0]) rfl sz_23 (.t .z) .c rfl (ones rfl) (.s (.s .z)) (by simp only [List.length_cons, List.length_nil]; omega) (.c (.s .z) .n)) ?_
 refine FJ.nil ?_
 refine FJ.ceq (.s (.s (.s .z))) (congrArg (keepN true [] d.cache d.blocks) (show k = d.cache.length by omega)) ?_
 refine FJ.add (c := ownA kSl_57 [] [.slice none 0 0]) (fun w S => own_nil w S none) ?_
 refine FJ.doneSN (res0 rfl) (.c (.s (.s .z)) (.c (.s .z) (.c .z .n))) ?_
 exact ⟨_, _, rfl, rfl⟩

set_option maxHeartbeats 1000000 in
set_option maxRecDepth 20000 in
theorem c_97 {w0 : World} {S0 : Bs} {d : DDisk} {g0 e0 s0 : Nat} {post0 : List Value} {v0_0 : Value} {v0_1 : Value} {ks : (List Bool)} {v1 : Value} (h1 : kSl_4.ro w0 (FF w0 S0) ks [v1]) (hs : Star [rowA g0 e0 s0 1 (v0_0 :: v0_1 :: post0), ownA kSl_40 d.blocks [v0_0], ownA kSl_57 d.cache [v0_1]] w0 S0) (hd : diskFault d = 0) :
    Calls Try.prog 97 #[.pointer (some ⟨g0, 0, none⟩), v1] w0 (TriPost w0 S0 (PA_25 g0 e0 s0 post0 ⟨keepN false ks d.cache d.blocks d.cache.length, []⟩)) := by
 obtain ⟨A1, c1, rfl, hl1, hm1, hb1, he1⟩ := ro_form h1
 refine FJ.enter (N := 39) Try.func97 rfl rfl (by simp) [(0, .pointer (some ⟨g0, 0, none⟩)), (1, .slice A1 ks.length c1)] (by simp) hs ?_
 refine FJ.know (WS.oform (.s .z)) ?_
 rintro ⟨Ao2, co2, rfl, hlo2, hmo2, hbo2⟩
 refine FJ.know (WS.oform (.s (.s .z))) ?_
 rintro ⟨Ao3, co3, rfl, hlo3, hmo3, hbo3⟩
 refine FJ.seq (FJ.seq (FJ.region (FJ.ql rfl (q_move rfl (.t .z)) (FJ.ql rfl (q_nilCheck rfl (.t .z)) ?_))))
 refine FJ.ql rfl (q_fieldAddr rfl (.t .z) (fun _ => fa_25_1 _ _)) (FJ.ql rfl (q_load rfl ag_23 (.t .z) (WS.row .z rfl)) (FJ.ql rfl (q_len rfl u_23 (.t .z)) (FJ.ql rfl (q_move rfl .c) (FJ.nil ?_))))
 refine FJ.then_ (FJ.block ?_)
 refine FJ.open (.c (.s (.s .z)) .n) own_raw ?_
 rintro css hlcss
 refine FJ.loopi (γ := Nat) (fun k => [(11, .int .i64 (k : Int)), (10, .int .i64 (d.cache.length : Int)), (9, .slice Ao3 d.cache.length co3), (0, .pointer (some ⟨g0, 0, none⟩)), (1, .slice A1 ks.length c1)]) (fun k => [ownA (kslice 57 32 (kraw kT_57.sz kT_57.pos)) css [.slice Ao3 d.cache.length co3], seqC kT_57 (List.drop k d.cache) (List.drop k css), rowA g0 e0 s0 1 ((.slice Ao2 d.blocks.length co2) :: (.slice Ao3 d.cache.length co3) :: post0), ownA kSl_40 (keepN false ks d.cache d.blocks k) [.slice Ao2 d.blocks.length co2]]) (fun k => k ≤ d.cache.length) (fun k => d.cache.length - k) 0 (Nat.zero_le _) (.c .z (.c (.s .z) (.c (.s (.s .z)) (.c (.s4 (.s (.s .z))) (.c (.s4 (.s (.s (.s .z)))) .n))))) (fun _ h => h.sel (.c .z (.c .z (.c .z (.c .z .n))))) ?_
 rintro k hk
 refine FJ.seq (FJ.region (FJ.ql rfl (q_lss rfl (.t .z) (.t (.s .z))) (FJ.nil (FJ.then_ ?_))))
 refine FJ.seq ?_
 refine FJ.condP (.t .z) (fun b4 => ?_) (fun b4 => ?_)
 refine FJ.skip (FJ.then_ (FJ.seq (FJ.block (FJ.seq ?_))))
 refine FJ.region (FJ.ql rfl (q_move rfl (.t (.s .z))) ?_)
 refine FJ.know (WS.oad .z (by first | omega | (rw [keepN_len]; omega))) ?_
 rintro ⟨ad5, rfl⟩
 obtain ⟨c6, hc6⟩ := get_ex (xs := css) (j := k) (by first | omega | (rw [keepN_len]; omega))
 obtain ⟨y7, hy7⟩ := get_ex (xs := d.cache) (j := k) (by first | omega | (rw [keepN_len]; omega))
 refine FJ.turn (.s .z) (seq_pop hy7 hc6) ?_
 refine FJ.open (.c .z .n) kT_57_op ?_
 rintro v8 rfl
 refine FJ.know (WS.oform .z) ?_
 rintro ⟨Ao10, co10, rfl, hlo10, hmo10, hbo10⟩
 have py7 := putAt_ok hd hy7
 refine FJ.ql rfl (q_indexAddr (j := k) rfl u_23 sz_57 (.t (.s4 .z)) (.t (.s (.s .z))) rfl (by first | omega | (rw [keepN_len]; omega))) ?_
 refine FJ.ql rfl (q_loadA (cs := [.int .i64 y7.at_, .slice Ao10 y7.words.length co10]) rfl ag_57 sz_57 (.t .z) (WS.raws (.s (.s .z)) hc6)) ?_
 refine FJ.e (goes_list rfl) rfl (by decide) rfl (e_alloc rfl z_57 rfl rfl) ?_
 rintro _ _ ⟨g12, rfl, rfl⟩
 refine FJ.ql rfl (q_assign rfl (.t (.s (.s (.s .z))))) ?_
 refine FJ.es (goes_list rfl) rfl (es_store (off := 0) (cs := [.int .i64 y7.at_, .slice Ao10 y7.words.length co10]) rfl sz_57 (.t (.s .z)) (.t (.s (.s .z))) rfl (ones rfl) .z (Nat.le_of_ble_eq_true rfl) (.c .z (.c (.s .z) .n))) ?_
 refine FJ.nil (FJ.then_ (FJ.seq (FJ.region (FJ.ql rfl (q_move rfl (.t .z)) ?_))))
 refine FJ.ql rfl (q_move rfl (.t (.s4 (.s4 (.s (.s (.s .z))))))) (FJ.ql rfl (q_len rfl u_51 (.t .z)) (FJ.ql rfl (q_lss rfl (.t (.s (.s .z))) (.t .z)) (FJ.ql rfl (q_move rfl (.t .z)) ?_)))
 refine FJ.caseP .z (fun g13 => ?_) (fun g13 => ?_)
 refine FJ.q (goes_listg rfl rfl .z) rfl (by decide) rfl (q_move rfl (.t (.s4 (.s4 (.s4 (.s (.s (.s .z)))))))) ?_
 refine FJ.q (goes_listg rfl rfl (.s .z)) rfl (by decide) rfl (q_move rfl (.t (.s4 (.s (.s .z))))) ?_
 obtain ⟨ad14, hAad14, hrad14⟩ := he1 (by omega)
 subst hAad14
 obtain ⟨x15, hx15⟩ := get_ex (xs := ks) (j := k) (by first | omega | (rw [keepN_len]; omega))
 obtain ⟨ece16, hre16, hFe16, hce16⟩ := hrad14.elem hx15
 obtain ⟨rfl, se16⟩ := hre16
 refine FJ.q (goes_listg rfl rfl (.s (.s .z))) rfl (by decide) rfl (q_indexAddr (j := k) rfl u_51 sz_4 (.t (.s .z)) (.t .z) rfl (by first | omega | (rw [keepN_len]; omega))) ?_
 refine FJ.q (goes_listg rfl rfl (.s (.s (.s .z)))) rfl (by decide) rfl (q_load rfl ag_4 (.t .z) (WS.el0 hFe16 hce16 rfl)) ?_
 refine FJ.ql rfl (q_pickT rfl (.t (.s4 .z)) (.t .z)) (FJ.nil (FJ.then_ ?_))
 refine FJ.cond (.t .z) (fun b17 => ?_) (fun b17 => ?_)
 refine FJ.draw [rowA g12 57 2 1 [.int .i64 y7.at_, .slice Ao10 y7.words.length co10], ownA kSl_2 y7.words [.slice Ao10 y7.words.length co10], seqC kT_57 (List.drop (k + 1) d.cache) (List.drop (k + 1) css), ownA (kslice 57 32 (kraw kT_57.sz kT_57.pos)) css [.slice (some ad5) d.cache.length co3], rowA g0 e0 s0 1 ((.slice Ao2 d.blocks.length co2) :: (.slice (some ad5) d.cache.length co3) :: post0), ownA kSl_40 (keepN false ks d.cache d.blocks k) [.slice Ao2 d.blocks.length co2]] 9 (by kernel_rfl) ?_
 refine FJ.sch [(0, true), (1, true), (2, true), (3, true), (4, true), (5, true), (6, true), (7, true), (8, true), (9, false)] 0 #[true, true, true, true, true, true, true, true, true, true] (by rfl) (by kernel_rfl) ?_
 refine FJ.dq rfl rfl rfl (by decide) rfl .z (q_move rfl (.t (.s16 (.s (.s (.s .z)))))) (FJ.dq rfl rfl rfl (by decide) rfl .z (q_nilCheck rfl (.t .z)) (FJ.dq rfl rfl rfl (by decide) rfl .z (q_fieldAddr rfl (.t .z) (fun _ => fa_25_0 _ _)) (FJ.dq rfl rfl rfl (by decide) rfl .z (q_load rfl ag_22 (.t .z) (WS.row (.s4 .z) rfl)) (FJ.dq rfl rfl rfl (by decide) rfl .z (q_fieldAddr rfl (.t (.s4 (.s4 (.s4 (.s (.s (.s .z))))))) (fun _ => fa_57_0 _ _)) ?_))))
 refine FJ.dq rfl rfl rfl (by decide) rfl .z (q_load rfl ag_2 (.t .z) (WS.row .z rfl)) (FJ.dq rfl rfl rfl (by decide) rfl .z (q_fieldAddr rfl (.t (.s16 (.s .z))) (fun _ => fa_57_1 _ _)) (FJ.dq rfl rfl rfl (by decide) rfl .z (q_load rfl ag_40 (.t .z) (WS.row .z rfl)) ?_))
 refine FJ.know (WS.oad (.s4 (.s .z)) (by first | omega | (rw [keepN_len]; omega))) ?_
 rintro ⟨ad18, rfl⟩
 refine FJ.dq rfl rfl rfl (by decide) rfl .z (q_indexAddr (j := Int.toNat y7.at_) rfl u_22 sz_40 (.t (.s4 .z)) (.t (.s (.s .z))) (by omega) (by first | omega | (rw [keepN_len]; omega))) ?_
 refine FJ.es (goes_sch rfl rfl) rfl (es_set (j := Int.toNat y7.at_) rfl sz_40 (.t .z) (.t (.s .z)) rfl (.c (.s4 (.s .z)) (.c (.s .z) .n)) (by first | omega | (rw [keepN_len]; omega))) ?_
 refine FJ.ceq .z (keepN_on hy7 (by first | (rw [getD_in hx15, show x15 = true by assumption]; rfl))) ?_
 refine FJ.sl rfl ?_
 refine FJ.schN ?_
 refine FJ.drawN (by kernel_rfl) ?_
 refine FJ.inBN (FJ.then_ (FJ.region ?_))
 refine FJ.ql rfl (q_add (c := ((k + 1 : Nat) : Int)) rfl (.t (.s16 (.s4 (.s4 (.s .z))))) .c (wr (by omega) (by omega) (by omega))) ?_
 refine FJ.er (.s16 (.s4 (.s4 (.s (.s .z))))) (FJ.ql rfl (q_move rfl (.t .z)) (FJ.nil ?_))
 refine FJ.again (k + 1) (by omega) (by first | omega | (dsimp only; omega)) (.c .z (.c (.s16 (.s4 (.s4 (.s (.s (.s .z)))))) (.c (.s16 (.s4 (.s4 (.s4 .z)))) (.c (.s16 (.s4 (.s4 (.s4 (.s .z))))) (.c (.s16 (.s4 (.s4 (.s4 (.s (.s .z)))))) .n))))) (fun _ h => h.sel (.c (.s (.s (.s .z))) (.c (.s (.s .z)) (.c (.s (.s .z)) (.c .z .n)))))
 refine FJ.skip (FJ.inBN (FJ.then_ (FJ.region ?_)))
 refine FJ.ql rfl (q_add (c := ((k + 1 : Nat) : Int)) rfl (.t (.s16 .z)) .c (wr (by omega) (by omega) (by omega))) ?_
 refine FJ.er (.s16 (.s .z)) (FJ.ql rfl (q_move rfl (.t .z)) (FJ.nil ?_))
 refine FJ.ceq (l' := _) (.s4 (.s .z)) (keepN_off hy7 (by first | (rw [getD_out (by assumption)]; rfl) | (rw [getD_in hx15, show x15 = false by assumption]; rfl))) ?_
 refine FJ.again (k + 1) (by omega) (by first | omega | (dsimp only; omega)) (.c .z (.c (.s16 (.s (.s .z))) (.c (.s16 (.s (.s (.s .z)))) (.c (.s16 (.s4 .z)) (.c (.s16 (.s4 (.s .z))) .n))))) (fun _ h => h.sel (.c (.s4 .z) (.c (.s (.s (.s .z))) (.c (.s (.s (.s .z))) (.c .z .n)))))
 refine FJ.skipl rfl rfl .z rfl rfl (by decide) rfl ?_
 refine FJ.skipl rfl rfl (.s .z) rfl rfl (by decide) rfl ?_
 refine FJ.skipl rfl rfl (.s (.s .z)) rfl rfl (by decide) rfl ?_
 refine FJ.skipl rfl rfl (.s (.s (.s .z))) rfl rfl (by decide) rfl ?_
 refine FJ.ql rfl (q_pickF rfl (.t (.s4 .z)) .c) (FJ.nil (FJ.then_ ?_))
 refine FJ.condF (.t .z) ?_
 refine FJ.skip (FJ.inBN (FJ.then_ (FJ.region ?_)))
 refine FJ.ql rfl (q_add (c := ((k + 1 : Nat) : Int)) rfl (.t (.s16 .z)) .c (wr (by omega) (by omega) (by omega))) ?_
 refine FJ.er (.s16 (.s .z)) (FJ.ql rfl (q_move rfl (.t .z)) (FJ.nil ?_))
 refine FJ.ceq (l' := _) (.s4 (.s .z)) (keepN_off hy7 (by first | (rw [getD_out (by assumption)]; rfl))) ?_
 refine FJ.again (k + 1) (by omega) (by first | omega | (dsimp only; omega)) (.c .z (.c (.s16 (.s (.s .z))) (.c (.s16 (.s (.s (.s .z)))) (.c (.s16 (.s4 .z)) (.c (.s16 (.s4 (.s .z))) .n))))) (fun _ h => h.sel (.c (.s4 .z) (.c (.s (.s (.s .z))) (.c (.s (.s (.s .z))) (.c .z .n)))))
 refine FJ.exit (FJ.thenE (FJ.thenE (FJ.inB (FJ.then_ ?_))))
 refine FJ.region (FJ.ql rfl (q_move rfl (.t (.s4 .z))) (FJ.ql rfl (q_nilCheck rfl (.t .z)) (FJ.ql rfl (q_fieldAddr rfl (.t .z) (fun _ => fa_25_1 _ _)) ?_)))
 refine FJ.es (goes_list rfl) rfl (es_store (off := 1) (cs := [.slice none 0 0]) rfl sz_23 (.t .z) .c rfl (ones rfl) (.s (.s .z)) (by simp only [List.length_cons, List.length_nil]; omega) (.c (.s .z) .n)) ?_
 refine FJ.nil ?_
 refine FJ.ceq (.s (.s (.s .z))) (congrArg (keepN false ks d.cache d.blocks) (show k = d.cache.length by omega)) ?_
 refine FJ.add (c := ownA kSl_57 [] [.slice none 0 0]) (fun w S => own_nil w S none) ?_
 refine FJ.doneSN (res0 rfl) (.c (.s (.s .z)) (.c (.s .z) (.c .z .n))) ?_
 exact ⟨_, _, rfl, rfl⟩

set_option maxHeartbeats 1000000 in
set_option maxRecDepth 20000 in
theorem c_38 {w0 : World} {S0 : Bs} {d : DDisk} {cs0 : List Value} (h0 : kT_25.ro w0 (FF w0 S0) d cs0)  :
    Calls Try.prog 38 #[.agg cs0.toArray] w0 (TriPost w0 S0 (RA_27 (flushDisk d))) := by
 obtain ⟨u0_0, u0_1, rfl, h0_0, h0_1⟩ := kT_25_ro h0
 obtain ⟨A0_0, c0_0, rfl, hl0_0, hm0_0, hb0_0, he0_0⟩ := ro_form h0_0
 obtain ⟨A0_1, c0_1, rfl, hl0_1, hm0_1, hb0_1, he0_1⟩ := ro_form h0_1
 refine FJ.enter (N := 16) Try.func38 rfl rfl (by simp) [(0, .agg #[.slice A0_0 d.blocks.length c0_0, .slice A0_1 d.cache.length c0_1])] (by simp) (l0 := []) trivial ?_
 refine FJ.seq (FJ.region ?_)
 refine FJ.e (goes_list rfl) rfl (by decide) rfl (e_box (cs := [.slice A0_0 d.blocks.length c0_0, .slice A0_1 d.cache.length c0_1]) (n := 2) rfl (.t .z) rfl rfl) ?_
 rintro _ _ ⟨g3, rfl, rfl⟩
 refine FJ.e (goes_list rfl) rfl (by decide) rfl (e_alloc rfl z_27 rfl rfl) ?_
 rintro _ _ ⟨g4, rfl, rfl⟩
 refine FJ.nil (FJ.then_ (FJ.seq (FJ.seq (FJ.region ?_))))
 refine FJ.ql rfl (q_loadA (cs := [.slice A0_0 d.blocks.length c0_0, .slice A0_1 d.cache.length c0_1]) rfl ag_25 sz_25 (.t (.s .z)) (WS.rows0 (.s .z) (fun i u h => by exact h))) ?_
 refine FJ.call (goes_list rfl) rfl (by decide) rfl (c_call rfl Try.func86 rfl rfl (args1 (.t .z))) .n (fun w1 S1 hs tr => c_86 (kT_25_mk d (tr.ctx h0_0) (tr.ctx h0_1))) ?_
 rintro _ _ ⟨rfl, rfl⟩
 refine FJ.cat .n ?_
 refine FJ.ql rfl (q_assign rfl (.t .z)) (FJ.nil (FJ.then_ (FJ.seq (FJ.region ?_))))
 refine FJ.ql rfl (q_move rfl (.t .z)) (FJ.ql rfl (q_neq rfl (.t .z) .c) (FJ.nil (FJ.then_ ?_)))
 refine FJ.condN (.t .z) (fun b5 => ?_) (fun b5 => ?_)
 refine FJ.seq (FJ.region (FJ.ql rfl (q_move rfl (.t (.s (.s .z)))) ?_))
 refine FJ.ql rfl (q_build (ps := [(0, .int .i64 (diskFault d))]) (cs := [.int .i64 (diskFault d), .slice none 0 0, .slice none 0 0]) rfl bl_27 (by intro act hact; simp only [List.map_toArray, List.map_cons, List.map_nil, (show Val _ _ _ from (.t .z)) act hact]) rfl) ?_
 refine FJ.es (goes_list rfl) rfl (es_store (off := 0) (cs := [.int .i64 (diskFault d), .slice none 0 0, .slice none 0 0]) rfl sz_27 (.t (.s4 (.s (.s (.s .z))))) (.t .z) rfl (ones rfl) .z (Nat.le_of_ble_eq_true rfl) (.c .z (.c (.s .z) (.c (.s (.s .z)) .n)))) ?_
 refine FJ.nil (FJ.then_ (FJ.ret (FJ.thenR ?_)))
 refine FJ.add (c := ownA kSl_40 [] [.slice none 0 0]) (fun w S => own_nil w S none) ?_
 refine FJ.add (c := ownA kSl_57 [] [.slice none 0 0]) (fun w S => own_nil w S none) ?_
 refine FJ.doneS (resC (cs := [.int .i64 (diskFault d), .slice none 0 0, .slice none 0 0]) rfl (.s4 (.s (.s (.s .z)))) ag_27 sz_27 (WS.rows0 (cs := [.int .i64 (diskFault d), .slice none 0 0, .slice none 0 0]) (.s (.s .z)) (fun _ _ h => h))) (.c (.s .z) (.c .z .n)) ?_
 rw [flushDisk_f (by assumption)]
 exact ⟨_, _, rfl, rfl⟩
 refine FJ.skip (FJ.then_ (FJ.seq (FJ.region ?_)))
 refine FJ.ql rfl (q_loadA (cs := [.slice A0_0 d.blocks.length c0_0, .slice A0_1 d.cache.length c0_1]) rfl ag_25 sz_25 (.t (.s4 (.s (.s .z)))) (WS.rows0 (.s .z) (fun i u h => by exact h))) ?_
 refine FJ.call (goes_list rfl) rfl (by decide) rfl (c_call rfl Try.func96 rfl rfl (args1 (.t .z))) .n (fun w1 S1 hs tr => c_96 (kT_25_mk d (tr.ctx h0_0) (tr.ctx h0_1))) ?_
 rintro _ _ ⟨v8, v10, rfl, rfl⟩
 refine FJ.cat (.c (.c .n)) ?_
 refine FJ.know (WS.oform .z) ?_
 rintro ⟨Ao12, co12, rfl, hlo12, hmo12, hbo12⟩
 refine FJ.know (WS.oform (.s .z)) ?_
 rintro ⟨Ao13, co13, rfl, hlo13, hmo13, hbo13⟩
 refine FJ.e (goes_list rfl) rfl (by decide) rfl (e_alloc rfl z_25 rfl rfl) ?_
 rintro _ _ ⟨g14, rfl, rfl⟩
 refine FJ.es (goes_list rfl) rfl (es_store (off := 0) (cs := [.slice Ao12 d.blocks.length co12, .slice Ao13 d.cache.length co13]) rfl sz_25 (.t .z) (.t (.s .z)) rfl (ones rfl) .z (Nat.le_of_ble_eq_true rfl) (.c .z (.c (.s .z) .n))) ?_
 refine FJ.nil (FJ.then_ (FJ.seq (FJ.region ?_)))
 refine FJ.call (goes_list rfl) rfl (by decide) rfl (c_call rfl Try.func98 rfl rfl (args1 (.t .z))) (.c .z (.c .z (.c .z .n))) (fun w1 S1 hs tr => c_98 (d := d) hs (by assumption)) ?_
 rintro _ _ ⟨v15, v17, rfl, rfl⟩
 refine FJ.cat (.c (.c (.c .n))) ?_
 refine FJ.ceq (x' := (⟨keepN true [] (d).cache (d).blocks (d).cache.length, []⟩ : DDisk).blocks) (.s .z) rfl ?_
 refine FJ.know (WS.oform .z) ?_
 rintro ⟨Ao19, co19, rfl, hlo19, hmo19, hbo19⟩
 refine FJ.ceq (x' := (⟨keepN true [] (d).cache (d).blocks (d).cache.length, []⟩ : DDisk).cache) (.s (.s .z)) rfl ?_
 refine FJ.know (WS.oform .z) ?_
 rintro ⟨Ao20, co20, rfl, hlo20, hmo20, hbo20⟩
 refine FJ.nil (FJ.then_ (FJ.seq (FJ.region ?_)))
 refine FJ.ql rfl (q_loadA (cs := [.slice Ao19 ((⟨keepN true [] (d).cache (d).blocks (d).cache.length, []⟩ : DDisk).blocks).length co19, .slice Ao20 ((⟨keepN true [] (d).cache (d).blocks (d).cache.length, []⟩ : DDisk).cache).length co20]) rfl ag_25 sz_25 (.t (.s .z)) (WS.rows0 (.s (.s .z)) (fun i u h => by exact h))) ?_
 refine FJ.ql rfl (q_build (ps := [(1, .agg #[.slice Ao19 ((⟨keepN true [] (d).cache (d).blocks (d).cache.length, []⟩ : DDisk).blocks).length co19, .slice Ao20 ((⟨keepN true [] (d).cache (d).blocks (d).cache.length, []⟩ : DDisk).cache).length co20])]) (cs := [.int .i64 0, .slice Ao19 ((⟨keepN true [] (d).cache (d).blocks (d).cache.length, []⟩ : DDisk).blocks).length co19, .slice Ao20 ((⟨keepN true [] (d).cache (d).blocks (d).cache.length, []⟩ : DDisk).cache).length co20]) rfl bl_27 (by intro act hact; simp only [List.map_toArray, List.map_cons, List.map_nil, (show Val _ _ _ from (.t .z)) act hact]) rfl) ?_
 refine FJ.es (goes_list rfl) rfl (es_store (off := 0) (cs := [.int .i64 0, .slice Ao19 ((⟨keepN true [] (d).cache (d).blocks (d).cache.length, []⟩ : DDisk).blocks).length co19, .slice Ao20 ((⟨keepN true [] (d).cache (d).blocks (d).cache.length, []⟩ : DDisk).cache).length co20]) rfl sz_27 (.t (.s4 (.s4 (.s (.s (.s .z)))))) (.t .z) rfl (ones rfl) (.s (.s (.s .z))) (Nat.le_of_ble_eq_true rfl) (.c .z (.c (.s .z) (.c (.s (.s .z)) .n)))) ?_
 refine FJ.nil (FJ.then_ (FJ.ret ?_))
 refine FJ.doneS (resC (cs := [.int .i64 0, .slice Ao19 ((⟨keepN true [] (d).cache (d).blocks (d).cache.length, []⟩ : DDisk).blocks).length co19, .slice Ao20 ((⟨keepN true [] (d).cache (d).blocks (d).cache.length, []⟩ : DDisk).cache).length co20]) rfl (.s4 (.s4 (.s (.s (.s .z))))) ag_27 sz_27 (WS.rows0 (cs := [.int .i64 0, .slice Ao19 ((⟨keepN true [] (d).cache (d).blocks (d).cache.length, []⟩ : DDisk).blocks).length co19, .slice Ao20 ((⟨keepN true [] (d).cache (d).blocks (d).cache.length, []⟩ : DDisk).cache).length co20]) .z (fun _ _ h => h))) (.c (.s (.s .z)) (.c (.s .z) .n)) ?_
 rw [flushDisk_0 (by assumption)]
 exact ⟨_, _, rfl, rfl⟩

set_option maxHeartbeats 1000000 in
set_option maxRecDepth 20000 in
theorem c_37 {w0 : World} {S0 : Bs} {d : DDisk} {cs0 : List Value} (h0 : kT_25.ro w0 (FF w0 S0) d cs0) {ks : (List Bool)} {v1 : Value} (h1 : kSl_4.ro w0 (FF w0 S0) ks [v1])  :
    Calls Try.prog 37 #[.agg cs0.toArray, v1] w0 (TriPost w0 S0 (RA_27 (crashDisk d ks))) := by
 obtain ⟨u0_0, u0_1, rfl, h0_0, h0_1⟩ := kT_25_ro h0
 obtain ⟨A0_0, c0_0, rfl, hl0_0, hm0_0, hb0_0, he0_0⟩ := ro_form h0_0
 obtain ⟨A0_1, c0_1, rfl, hl0_1, hm0_1, hb0_1, he0_1⟩ := ro_form h0_1
 obtain ⟨A1, c1, rfl, hl1, hm1, hb1, he1⟩ := ro_form h1
 refine FJ.enter (N := 19) Try.func37 rfl rfl (by simp) [(0, .agg #[.slice A0_0 d.blocks.length c0_0, .slice A0_1 d.cache.length c0_1]), (1, .slice A1 ks.length c1)] (by simp) (l0 := []) trivial ?_
 refine FJ.seq (FJ.region ?_)
 refine FJ.e (goes_list rfl) rfl (by decide) rfl (e_box (cs := [.slice A0_0 d.blocks.length c0_0, .slice A0_1 d.cache.length c0_1]) (n := 2) rfl (.t .z) rfl rfl) ?_
 rintro _ _ ⟨g4, rfl, rfl⟩
 refine FJ.e (goes_list rfl) rfl (by decide) rfl (e_alloc rfl z_27 rfl rfl) ?_
 rintro _ _ ⟨g5, rfl, rfl⟩
 refine FJ.nil (FJ.then_ (FJ.seq (FJ.seq (FJ.region ?_))))
 refine FJ.ql rfl (q_loadA (cs := [.slice A0_0 d.blocks.length c0_0, .slice A0_1 d.cache.length c0_1]) rfl ag_25 sz_25 (.t (.s .z)) (WS.rows0 (.s .z) (fun i u h => by exact h))) ?_
 refine FJ.call (goes_list rfl) rfl (by decide) rfl (c_call rfl Try.func86 rfl rfl (args1 (.t .z))) .n (fun w1 S1 hs tr => c_86 (kT_25_mk d (tr.ctx h0_0) (tr.ctx h0_1))) ?_
 rintro _ _ ⟨rfl, rfl⟩
 refine FJ.cat .n ?_
 refine FJ.ql rfl (q_assign rfl (.t .z)) (FJ.nil (FJ.then_ (FJ.seq (FJ.region ?_))))
 refine FJ.ql rfl (q_move rfl (.t .z)) (FJ.ql rfl (q_neq rfl (.t .z) .c) (FJ.nil (FJ.then_ ?_)))
 refine FJ.condN (.t .z) (fun b6 => ?_) (fun b6 => ?_)
 refine FJ.seq (FJ.region (FJ.ql rfl (q_move rfl (.t (.s (.s .z)))) ?_))
 refine FJ.ql rfl (q_build (ps := [(0, .int .i64 (diskFault d))]) (cs := [.int .i64 (diskFault d), .slice none 0 0, .slice none 0 0]) rfl bl_27 (by intro act hact; simp only [List.map_toArray, List.map_cons, List.map_nil, (show Val _ _ _ from (.t .z)) act hact]) rfl) ?_
 refine FJ.es (goes_list rfl) rfl (es_store (off := 0) (cs := [.int .i64 (diskFault d), .slice none 0 0, .slice none 0 0]) rfl sz_27 (.t (.s4 (.s (.s (.s .z))))) (.t .z) rfl (ones rfl) .z (Nat.le_of_ble_eq_true rfl) (.c .z (.c (.s .z) (.c (.s (.s .z)) .n)))) ?_
 refine FJ.nil (FJ.then_ (FJ.ret (FJ.thenR ?_)))
 refine FJ.add (c := ownA kSl_40 [] [.slice none 0 0]) (fun w S => own_nil w S none) ?_
 refine FJ.add (c := ownA kSl_57 [] [.slice none 0 0]) (fun w S => own_nil w S none) ?_
 refine FJ.doneS (resC (cs := [.int .i64 (diskFault d), .slice none 0 0, .slice none 0 0]) rfl (.s4 (.s (.s (.s .z)))) ag_27 sz_27 (WS.rows0 (cs := [.int .i64 (diskFault d), .slice none 0 0, .slice none 0 0]) (.s (.s .z)) (fun _ _ h => h))) (.c (.s .z) (.c .z .n)) ?_
 rw [crashDisk_f (by assumption)]
 exact ⟨_, _, rfl, rfl⟩
 refine FJ.skip (FJ.then_ (FJ.seq (FJ.region ?_)))
 refine FJ.ql rfl (q_loadA (cs := [.slice A0_0 d.blocks.length c0_0, .slice A0_1 d.cache.length c0_1]) rfl ag_25 sz_25 (.t (.s4 (.s (.s .z)))) (WS.rows0 (.s .z) (fun i u h => by exact h))) ?_
 refine FJ.call (goes_list rfl) rfl (by decide) rfl (c_call rfl Try.func96 rfl rfl (args1 (.t .z))) .n (fun w1 S1 hs tr => c_96 (kT_25_mk d (tr.ctx h0_0) (tr.ctx h0_1))) ?_
 rintro _ _ ⟨v9, v11, rfl, rfl⟩
 refine FJ.cat (.c (.c .n)) ?_
 refine FJ.know (WS.oform .z) ?_
 rintro ⟨Ao13, co13, rfl, hlo13, hmo13, hbo13⟩
 refine FJ.know (WS.oform (.s .z)) ?_
 rintro ⟨Ao14, co14, rfl, hlo14, hmo14, hbo14⟩
 refine FJ.e (goes_list rfl) rfl (by decide) rfl (e_alloc rfl z_25 rfl rfl) ?_
 rintro _ _ ⟨g15, rfl, rfl⟩
 refine FJ.es (goes_list rfl) rfl (es_store (off := 0) (cs := [.slice Ao13 d.blocks.length co13, .slice Ao14 d.cache.length co14]) rfl sz_25 (.t .z) (.t (.s .z)) rfl (ones rfl) .z (Nat.le_of_ble_eq_true rfl) (.c .z (.c (.s .z) .n))) ?_
 refine FJ.nil (FJ.then_ (FJ.seq (FJ.region (FJ.ql rfl (q_move rfl (.t (.s4 (.s4 (.s (.s (.s .z))))))) ?_))))
 refine FJ.call (goes_list rfl) rfl (by decide) rfl (c_call rfl Try.func97 rfl rfl (args2 (.t (.s .z)) (.t .z))) (.c .z (.c .z (.c .z .n))) (fun w1 S1 hs tr => c_97 (d := d) (tr.ctx h1) hs (by assumption)) ?_
 rintro _ _ ⟨v16, v18, rfl, rfl⟩
 refine FJ.cat (.c (.c (.c .n))) ?_
 refine FJ.ceq (x' := (⟨keepN false ks (d).cache (d).blocks (d).cache.length, []⟩ : DDisk).blocks) (.s .z) rfl ?_
 refine FJ.know (WS.oform .z) ?_
 rintro ⟨Ao20, co20, rfl, hlo20, hmo20, hbo20⟩
 refine FJ.ceq (x' := (⟨keepN false ks (d).cache (d).blocks (d).cache.length, []⟩ : DDisk).cache) (.s (.s .z)) rfl ?_
 refine FJ.know (WS.oform .z) ?_
 rintro ⟨Ao21, co21, rfl, hlo21, hmo21, hbo21⟩
 refine FJ.nil (FJ.then_ (FJ.seq (FJ.region ?_)))
 refine FJ.ql rfl (q_loadA (cs := [.slice Ao20 ((⟨keepN false ks (d).cache (d).blocks (d).cache.length, []⟩ : DDisk).blocks).length co20, .slice Ao21 ((⟨keepN false ks (d).cache (d).blocks (d).cache.length, []⟩ : DDisk).cache).length co21]) rfl ag_25 sz_25 (.t (.s (.s .z))) (WS.rows0 (.s (.s .z)) (fun i u h => by exact h))) ?_
 refine FJ.ql rfl (q_build (ps := [(1, .agg #[.slice Ao20 ((⟨keepN false ks (d).cache (d).blocks (d).cache.length, []⟩ : DDisk).blocks).length co20, .slice Ao21 ((⟨keepN false ks (d).cache (d).blocks (d).cache.length, []⟩ : DDisk).cache).length co21])]) (cs := [.int .i64 0, .slice Ao20 ((⟨keepN false ks (d).cache (d).blocks (d).cache.length, []⟩ : DDisk).blocks).length co20, .slice Ao21 ((⟨keepN false ks (d).cache (d).blocks (d).cache.length, []⟩ : DDisk).cache).length co21]) rfl bl_27 (by intro act hact; simp only [List.map_toArray, List.map_cons, List.map_nil, (show Val _ _ _ from (.t .z)) act hact]) rfl) ?_
 refine FJ.es (goes_list rfl) rfl (es_store (off := 0) (cs := [.int .i64 0, .slice Ao20 ((⟨keepN false ks (d).cache (d).blocks (d).cache.length, []⟩ : DDisk).blocks).length co20, .slice Ao21 ((⟨keepN false ks (d).cache (d).blocks (d).cache.length, []⟩ : DDisk).cache).length co21]) rfl sz_27 (.t (.s4 (.s4 (.s4 .z)))) (.t .z) rfl (ones rfl) (.s (.s (.s .z))) (Nat.le_of_ble_eq_true rfl) (.c .z (.c (.s .z) (.c (.s (.s .z)) .n)))) ?_
 refine FJ.nil (FJ.then_ (FJ.ret ?_))
 refine FJ.doneS (resC (cs := [.int .i64 0, .slice Ao20 ((⟨keepN false ks (d).cache (d).blocks (d).cache.length, []⟩ : DDisk).blocks).length co20, .slice Ao21 ((⟨keepN false ks (d).cache (d).blocks (d).cache.length, []⟩ : DDisk).cache).length co21]) rfl (.s4 (.s4 (.s4 .z))) ag_27 sz_27 (WS.rows0 (cs := [.int .i64 0, .slice Ao20 ((⟨keepN false ks (d).cache (d).blocks (d).cache.length, []⟩ : DDisk).blocks).length co20, .slice Ao21 ((⟨keepN false ks (d).cache (d).blocks (d).cache.length, []⟩ : DDisk).cache).length co21]) .z (fun _ _ h => h))) (.c (.s (.s .z)) (.c (.s .z) .n)) ?_
 rw [crashDisk_0 (by assumption)]
 exact ⟨_, _, rfl, rfl⟩

end Go.Proofs.Ytkmcpcahbfdohaa

/- What is proved: contracts of functions, one a function. No condition. -/
import Derived.Test.YtkmcpcahbfdohaaW11
namespace Go.Proofs.Ytkmcpcahbfdohaa
open Go Go.RowKit
set_option linter.unusedVariables false
set_option linter.unusedSimpArgs false
set_option maxHeartbeats 1000000 in
set_option maxRecDepth 20000 in
theorem c_98 {w0 : World} {S0 : Bs} {d : DDisk} {g0 e0 s0 : Nat} {post0 : List Value} {v0_0 : Value} {v0_1 : Value} (hs : Star [rowA g0 e0 s0 1 (v0_0 :: v0_1 :: post0), ownA kSl_40 d.blocks [v0_0], ownA kSl_57 d.cache [v0_1]] w0 S0) (hd : diskFault d = 0) :
    Calls Try.prog 98 #[.pointer (some ⟨g0, 0, none⟩)] w0 (TriPost w0 S0 (PA_25 g0 e0 s0 post0 ⟨keepN true [] d.cache d.blocks d.cache.length, []⟩)) := by
 refine FJ.enter (N := 26) Try.func98 rfl rfl (by simp) [(0, .pointer (some ⟨g0, 0, none⟩))] (by simp) hs ?_
 refine FJ.know (WS.oform (.s .z)) ?_
 rintro ⟨Ao1, co1, rfl, hlo1, hmo1, hbo1⟩
 refine FJ.know (WS.oform (.s (.s .z))) ?_
 rintro ⟨Ao2, co2, rfl, hlo2, hmo2, hbo2⟩
 refine FJ.seq (FJ.seq (FJ.region (FJ.ql rfl (q_move rfl (.t .z)) (FJ.ql rfl (q_nilCheck rfl (.t .z)) ?_))))
 refine FJ.ql rfl (q_fieldAddr rfl (.t .z) (fun _ => fa_25_1 _ _)) (FJ.ql rfl (q_load rfl ag_23 (.t .z) (WS.row .z rfl)) (FJ.ql rfl (q_len rfl u_23 (.t .z)) (FJ.ql rfl (q_move rfl .c) (FJ.nil ?_))))
 refine FJ.then_ (FJ.block ?_)
 refine FJ.open (.c (.s (.s .z)) .n) own_raw ?_
 rintro css hlcss
 refine FJ.loopi (γ := Nat) (fun k => [(9, .int .i64 (k : Int)), (8, .int .i64 (d.cache.length : Int)), (7, .slice Ao2 d.cache.length co2), (0, .pointer (some ⟨g0, 0, none⟩))]) (fun k => [ownA (kslice 57 32 (kraw kT_57.sz kT_57.pos)) css [.slice Ao2 d.cache.length co2], seqC kT_57 (List.drop k d.cache) (List.drop k css), rowA g0 e0 s0 1 ((.slice Ao1 d.blocks.length co1) :: (.slice Ao2 d.cache.length co2) :: post0), ownA kSl_40 (keepN true [] d.cache d.blocks k) [.slice Ao1 d.blocks.length co1]]) (fun k => k ≤ d.cache.length) (fun k => d.cache.length - k) 0 (Nat.zero_le _) (.c .z (.c (.s .z) (.c (.s (.s .z)) (.c (.s4 (.s (.s .z))) .n)))) (fun _ h => h.sel (.c .z (.c .z (.c .z (.c .z .n))))) ?_
 rintro k hk
 refine FJ.seq (FJ.region (FJ.ql rfl (q_lss rfl (.t .z) (.t (.s .z))) (FJ.nil (FJ.then_ ?_))))
 refine FJ.seq ?_
 refine FJ.condP (.t .z) (fun b3 => ?_) (fun b3 => ?_)
 refine FJ.skip (FJ.then_ (FJ.seq (FJ.block (FJ.seq ?_))))
 refine FJ.region ?_
 refine FJ.know (WS.oad .z (by first | omega | (rw [keepN_len]; omega))) ?_
 rintro ⟨ad4, rfl⟩
 obtain ⟨c5, hc5⟩ := get_ex (xs := css) (j := k) (by first | omega | (rw [keepN_len]; omega))
 obtain ⟨y6, hy6⟩ := get_ex (xs := d.cache) (j := k) (by first | omega | (rw [keepN_len]; omega))
 refine FJ.turn (.s .z) (seq_pop hy6 hc5) ?_
 refine FJ.open (.c .z .n) kT_57_op ?_
 rintro v7 rfl
 refine FJ.know (WS.oform .z) ?_
 rintro ⟨Ao9, co9, rfl, hlo9, hmo9, hbo9⟩
 have py6 := putAt_ok hd hy6
 refine FJ.ql rfl (q_indexAddr (j := k) rfl u_23 sz_57 (.t (.s (.s (.s .z)))) (.t (.s .z)) rfl (by first | omega | (rw [keepN_len]; omega))) ?_
 refine FJ.ql rfl (q_loadA (cs := [.int .i64 y6.at_, .slice Ao9 y6.words.length co9]) rfl ag_57 sz_57 (.t .z) (WS.raws (.s (.s .z)) hc5)) ?_
 refine FJ.e (goes_list rfl) rfl (by decide) rfl (e_alloc rfl z_57 rfl rfl) ?_
 rintro _ _ ⟨g11, rfl, rfl⟩
 refine FJ.es (goes_list rfl) rfl (es_store (off := 0) (cs := [.int .i64 y6.at_, .slice Ao9 y6.words.length co9]) rfl sz_57 (.t .z) (.t (.s .z)) rfl (ones rfl) .z (Nat.le_of_ble_eq_true rfl) (.c .z (.c (.s .z) .n))) ?_
 refine FJ.nil (FJ.then_ ?_)
 refine FJ.draw [rowA g11 57 2 1 [.int .i64 y6.at_, .slice Ao9 y6.words.length co9], ownA kSl_2 y6.words [.slice Ao9 y6.words.length co9], seqC kT_57 (List.drop (k + 1) d.cache) (List.drop (k + 1) css), ownA (kslice 57 32 (kraw kT_57.sz kT_57.pos)) css [.slice (some ad4) d.cache.length co2], rowA g0 e0 s0 1 ((.slice Ao1 d.blocks.length co1) :: (.slice (some ad4) d.cache.length co2) :: post0), ownA kSl_40 (keepN true [] d.cache d.blocks k) [.slice Ao1 d.blocks.length co1]] 9 (by kernel_rfl) ?_
 refine FJ.sch [(0, true), (1, true), (2, true), (3, true), (4, true), (5, true), (6, true), (7, true), (8, true), (9, false)] 0 #[true, true, true, true, true, true, true, true, true, true] (by rfl) (by kernel_rfl) ?_
 refine FJ.dq rfl rfl rfl (by decide) rfl .z (q_move rfl (.t (.s4 (.s (.s (.s .z)))))) (FJ.dq rfl rfl rfl (by decide) rfl .z (q_nilCheck rfl (.t .z)) (FJ.dq rfl rfl rfl (by decide) rfl .z (q_fieldAddr rfl (.t .z) (fun _ => fa_25_0 _ _)) (FJ.dq rfl rfl rfl (by decide) rfl .z (q_load rfl ag_22 (.t .z) (WS.row (.s4 .z) rfl)) (FJ.dq rfl rfl rfl (by decide) rfl .z (q_fieldAddr rfl (.t (.s4 .z)) (fun _ => fa_57_0 _ _)) ?_))))
 refine FJ.dq rfl rfl rfl (by decide) rfl .z (q_load rfl ag_2 (.t .z) (WS.row .z rfl)) (FJ.dq rfl rfl rfl (by decide) rfl .z (q_fieldAddr rfl (.t (.s4 (.s (.s .z)))) (fun _ => fa_57_1 _ _)) (FJ.dq rfl rfl rfl (by decide) rfl .z (q_load rfl ag_40 (.t .z) (WS.row .z rfl)) ?_))
 refine FJ.know (WS.oad (.s4 (.s .z)) (by first | omega | (rw [keepN_len]; omega))) ?_
 rintro ⟨ad12, rfl⟩
 refine FJ.dq rfl rfl rfl (by decide) rfl .z (q_indexAddr (j := Int.toNat y6.at_) rfl u_22 sz_40 (.t (.s4 .z)) (.t (.s (.s .z))) (by omega) (by first | omega | (rw [keepN_len]; omega))) ?_
 refine FJ.es (goes_sch rfl rfl) rfl (es_set (j := Int.toNat y6.at_) rfl sz_40 (.t .z) (.t (.s .z)) rfl (.c (.s4 (.s .z)) (.c (.s .z) .n)) (by first | omega | (rw [keepN_len]; omega))) ?_
 refine FJ.ceq .z (keepN_on hy6 (by first | rfl)) ?_
 refine FJ.sl rfl ?_
 refine FJ.schN ?_
 refine FJ.drawN (by kernel_rfl) ?_
 refine FJ.inBN (FJ.then_ (FJ.region ?_))
 refine FJ.ql rfl (q_add (c := ((k + 1 : Nat) : Int)) rfl (.t (.s4 (.s4 (.s4 (.s .z))))) .c (wr (by omega) (by omega) (by omega))) ?_
 refine FJ.er (.s4 (.s4 (.s4 (.s (.s .z))))) (FJ.ql rfl (q_move rfl (.t .z)) (FJ.nil ?_))
 refine FJ.again (k + 1) (by omega) (by first | omega | (dsimp only; omega)) (.c .z (.c (.s4 (.s4 (.s4 (.s (.s (.s .z)))))) (.c (.s16 .z) (.c (.s16 (.s .z)) .n)))) (fun _ h => h.sel (.c (.s (.s (.s .z))) (.c (.s (.s .z)) (.c (.s (.s .z)) (.c .z .n)))))
 refine FJ.exit (FJ.thenE (FJ.thenE (FJ.inB (FJ.then_ ?_))))
 refine FJ.region (FJ.ql rfl (q_move rfl (.t (.s4 .z))) (FJ.ql rfl (q_nilCheck rfl (.t .z)) (FJ.ql rfl (q_fieldAddr rfl (.t .z) (fun _ => fa_25_1 _ _)) ?_)))
 refine FJ.es (goes_list rfl) rfl (es_store (off := 1) (cs := [.slice none 0 0]) rfl sz_23 (.t .z) .c rfl (ones rfl) (.s (.s .z)) (by simp only [List.length_cons, List.length_nil]; omega) (.c (.s .z) .n)) ?_
 refine FJ.nil ?_
 refine FJ.ceq (.s (.s (.s .z))) (congrArg (keepN true [] d.cache d.blocks) (show k = d.cache.length by omega)) ?_
 refine FJ.add (c := ownA kSl_57 [] [.slice none 0 0]) (fun w S => own_nil w S none) ?_
 refine FJ.doneSN (res0 rfl) (.c (.s (.s .z)) (.c (.s .z) (.c .z .n))) ?_
 exact ⟨_, _, rfl, rfl⟩
end Go.Proofs.Ytkmcpcahbfdohaa

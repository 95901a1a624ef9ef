/- What is proved: contracts of functions, one a function. No condition. -/
import Derived.Test.YtbcdcakcmdcafaaW20
namespace Go.Proofs.Ytbcdcakcmdcafaa
open Go Go.RowKit
set_option linter.unusedVariables false
set_option linter.unusedSimpArgs false
set_option maxHeartbeats 1000000 in
set_option maxRecDepth 20000 in
theorem c_34 {w0 : World} {S0 : Bs} {f : DFs} {cs0 : List Value} (h0 : kT_30.ro w0 (FF w0 S0) f cs0) (a : Int)  :
    Calls Try.prog 34 #[.agg cs0.toArray, .int .i64 a] w0 (TriPost w0 S0 (fun r l => r = .int .i64 (dirCode f a) ∧ l = [])) := by
  obtain ⟨u0_0, u0_1, rfl, h0_0, h0_1⟩ := kT_30_ro h0
  obtain ⟨A0_0, c0_0, rfl, hl0_0, hm0_0, hb0_0, he0_0⟩ := ro_form h0_0
  obtain ⟨A0_1, c0_1, rfl, hl0_1, hm0_1, hb0_1, he0_1⟩ := ro_form h0_1
  refine FJ.enter (N := 28) Try.func34 rfl rfl (by simp) [(0, .agg #[.slice A0_0 f.inodes.length c0_0, .slice A0_1 f.data.length c0_1]), (1, .int .i64 a)] (by simp) (l0 := []) trivial ?_
  refine FJ.seq ?_
  refine FJ.region ?_
  refine FJ.e (goes_list rfl) rfl (by decide) rfl (e_box (cs := [.slice A0_0 f.inodes.length c0_0, .slice A0_1 f.data.length c0_1]) (n := 2) rfl (.t .z) rfl rfl) ?_
  rintro _ _ ⟨g3, rfl, rfl⟩
  refine FJ.q (goes_list rfl) rfl (by decide) rfl (q_assign rfl .c) ?_
  refine FJ.nil ?_
  refine FJ.then_ ?_
  refine FJ.seq ?_
  refine FJ.region ?_
  refine FJ.q (goes_list rfl) rfl (by decide) rfl (q_loadA (cs := [.slice A0_0 f.inodes.length c0_0, .slice A0_1 f.data.length c0_1]) rfl ag_30 sz_30 (.t (.s .z)) (WS.rows0 .z (fun i u h => by exact h))) ?_
  refine FJ.call (goes_list rfl) rfl (by decide) rfl (c_call rfl Try.func43 rfl rfl (args1 (.t .z))) .n (fun w1 S1 hs tr => c_43 (kT_30_mk f (tr.ctx h0_0) (tr.ctx h0_1))) ?_
  rintro _ _ ⟨rfl, rfl⟩
  refine FJ.cat .n ?_
  refine FJ.q (goes_list rfl) rfl (by decide) rfl (q_assign rfl (.t .z)) ?_
  refine FJ.nil ?_
  refine FJ.then_ ?_
  refine FJ.seq ?_
  refine FJ.block ?_
  refine FJ.seq ?_
  refine FJ.region ?_
  refine FJ.q (goes_list rfl) rfl (by decide) rfl (q_move rfl (.t .z)) ?_
  refine FJ.q (goes_list rfl) rfl (by decide) rfl (q_neq rfl (.t .z) .c) ?_
  refine FJ.q (goes_list rfl) rfl (by decide) rfl (q_assign rfl (.t .z)) ?_
  refine FJ.nil ?_
  refine FJ.then_ ?_
  refine FJ.condN (.t .z) (fun b4 => ?_) (fun b4 => ?_)
  · -- b4: True
    refine FJ.seq ?_
    refine FJ.region ?_
    refine FJ.q (goes_list rfl) rfl (by decide) rfl (q_move rfl (.t (.s (.s (.s .z))))) ?_
    refine FJ.er (.s (.s (.s (.s (.s (.s (.s .z))))))) ?_
    refine FJ.q (goes_list rfl) rfl (by decide) rfl (q_assign rfl (.t .z)) ?_
    refine FJ.nil ?_
    refine FJ.then_ ?_
    refine FJ.ret ?_
    refine FJ.inBR ?_
    refine FJ.thenR ?_
    refine FJ.doneS (res1 rfl .z) .n ?_
    exact ⟨by first | (rw [dirCode_f (by assumption)]; done) | (rw [dirCode_3 (by assumption) (by assumption)]; done) | (rw [dirCode_9 (by assumption) (by assumption) (by omega)]; done) | (rw [dirCode_0 (by assumption) (by assumption) (by omega)]; done), rfl⟩
  · -- b4: False
    have hId5 := treeI b4
    refine FJ.seq ?_
    refine FJ.region ?_
    refine FJ.q (goes_list rfl) rfl (by decide) rfl (q_move rfl (.t (.s (.s (.s (.s (.s (.s (.s (.s (.s .z))))))))))) ?_
    refine FJ.q (goes_list rfl) rfl (by decide) rfl (q_fieldAddr rfl (.t (.s (.s (.s (.s (.s (.s (.s (.s .z))))))))) (fun _ => fa_30_0 _ _)) ?_
    refine FJ.q (goes_list rfl) rfl (by decide) rfl (q_load rfl ag_28 (.t .z) (WS.row .z rfl)) ?_
    refine FJ.call (goes_list rfl) rfl (by decide) rfl (c_call rfl Try.func62 rfl rfl (args1 (.t .z))) .n (fun w1 S1 hs tr => c_62 (tr.ctx h0_0)) ?_
    rintro _ _ ⟨rfl, rfl⟩
    refine FJ.cat .n ?_
    refine FJ.q (goes_list rfl) rfl (by decide) rfl (q_sub (c := (f.inodes.length : Int) - 1) rfl (.t .z) .c (wr (by omega) (by omega) (by omega))) ?_
    refine FJ.call (goes_list rfl) rfl (by decide) rfl (c_call rfl Try.func61 rfl rfl (args3 (.t (.s (.s (.s (.s .z))))) .c (.t .z))) .n (fun w1 S1 hs tr => c_61 _ _ _) ?_
    rintro _ _ ⟨rfl, rfl⟩
    refine FJ.cat .n ?_
    refine FJ.q (goes_list rfl) rfl (by decide) rfl (q_not rfl (.t .z)) ?_
    refine FJ.q (goes_list rfl) rfl (by decide) rfl (q_assign rfl (.t .z)) ?_
    refine FJ.nil ?_
    refine FJ.then_ ?_
    refine FJ.condN (.t .z) (fun b6 => ?_) (fun b6 => ?_)
    · -- b6: True
      refine FJ.seq ?_
      refine FJ.region ?_
      refine FJ.er (.s (.s (.s (.s (.s (.s (.s (.s (.s (.s (.s (.s (.s (.s .z)))))))))))))) ?_
      refine FJ.q (goes_list rfl) rfl (by decide) rfl (q_assign rfl .c) ?_
      refine FJ.nil ?_
      refine FJ.then_ ?_
      refine FJ.ret ?_
      refine FJ.inBR ?_
      refine FJ.thenR ?_
      refine FJ.doneS (res1 rfl .z) .n ?_
      exact ⟨by first | (rw [dirCode_f (by assumption)]; done) | (rw [dirCode_3 (by assumption) (by assumption)]; done) | (rw [dirCode_9 (by assumption) (by assumption) (by omega)]; done) | (rw [dirCode_0 (by assumption) (by assumption) (by omega)]; done), rfl⟩
    · -- b6: False
      refine FJ.seq ?_
      refine FJ.region ?_
      refine FJ.q (goes_list rfl) rfl (by decide) rfl (q_fieldAddr rfl (.t (.s (.s (.s (.s (.s (.s (.s (.s (.s (.s (.s (.s (.s (.s (.s .z)))))))))))))))) (fun _ => fa_30_0 _ _)) ?_
      refine FJ.q (goes_list rfl) rfl (by decide) rfl (q_load rfl ag_28 (.t .z) (WS.row .z rfl)) ?_
      refine FJ.q (goes_list rfl) rfl (by decide) rfl (q_move rfl (.t (.s (.s (.s (.s (.s (.s (.s (.s (.s (.s (.s (.s (.s (.s (.s (.s (.s (.s (.s .z))))))))))))))))))))) ?_
      obtain ⟨ad7, hAad7, hrad7⟩ := he0_0 (by omega)
      subst hAad7
      obtain ⟨x8, hx8⟩ := get_ex (xs := f.inodes) (j := Int.toNat a) (by omega)
      obtain ⟨ece9, hre9, hFe9, hce9⟩ := hrad7.elem hx8
      obtain ⟨ue9_3, ue9_4, rfl, he9_3, he9_4⟩ := kT_60_ro hre9
      obtain ⟨Ae9_3, ce9_3, rfl, hle9_3, hme9_3, hbe9_3, hee9_3⟩ := ro_form he9_3
      obtain ⟨Ae9_4, ce9_4, rfl, hle9_4, hme9_4, hbe9_4, hee9_4⟩ := ro_form he9_4
      have kx8 := kind_at (i := a) hx8 (by omega)
      have nx8 := ents_at (a := a) hx8 (by omega)
      have iox8 := inodes_all hId5 _ (List.mem_of_getElem? hx8)
      refine FJ.q (goes_list rfl) rfl (by decide) rfl (q_indexAddr (j := Int.toNat a) rfl u_28 sz_60 (.t (.s .z)) (.t .z) (by omega) (by omega)) ?_
      refine FJ.q (goes_list rfl) rfl (by decide) rfl (q_fieldAddr rfl (.t .z) (fun _ => fa_60_0 _ _)) ?_
      refine FJ.q (goes_list rfl) rfl (by decide) rfl (q_load rfl ag_2 (.t .z) (WS.el hFe9 hce9 rfl)) ?_
      refine FJ.q (goes_list rfl) rfl (by decide) rfl (q_neq rfl (.t .z) .c) ?_
      refine FJ.q (goes_list rfl) rfl (by decide) rfl (q_assign rfl (.t .z)) ?_
      refine FJ.nil ?_
      refine FJ.then_ ?_
      refine FJ.condN (.t .z) (fun b12 => ?_) (fun b12 => ?_)
      · -- b12: True
        refine FJ.seq ?_
        refine FJ.region ?_
        refine FJ.er (.s (.s (.s (.s (.s (.s (.s (.s (.s (.s (.s (.s (.s (.s (.s (.s (.s (.s (.s (.s (.s (.s .z)))))))))))))))))))))) ?_
        refine FJ.q (goes_list rfl) rfl (by decide) rfl (q_assign rfl .c) ?_
        refine FJ.nil ?_
        refine FJ.then_ ?_
        refine FJ.ret ?_
        refine FJ.inBR ?_
        refine FJ.thenR ?_
        refine FJ.doneS (res1 rfl .z) .n ?_
        exact ⟨by first | (rw [dirCode_f (by assumption)]; done) | (rw [dirCode_3 (by assumption) (by assumption)]; done) | (rw [dirCode_9 (by assumption) (by assumption) (by omega)]; done) | (rw [dirCode_0 (by assumption) (by assumption) (by omega)]; done), rfl⟩
      · -- b12: False
        refine FJ.skip ?_
        refine FJ.inBN ?_
        refine FJ.then_ ?_
        refine FJ.seq ?_
        refine FJ.region ?_
        refine FJ.er (.s (.s (.s (.s (.s (.s (.s (.s (.s (.s (.s (.s (.s (.s (.s (.s (.s (.s (.s (.s (.s (.s .z)))))))))))))))))))))) ?_
        refine FJ.q (goes_list rfl) rfl (by decide) rfl (q_assign rfl .c) ?_
        refine FJ.nil ?_
        refine FJ.then_ ?_
        refine FJ.ret ?_
        refine FJ.doneS (res1 rfl .z) .n ?_
        exact ⟨by first | (rw [dirCode_f (by assumption)]; done) | (rw [dirCode_3 (by assumption) (by assumption)]; done) | (rw [dirCode_9 (by assumption) (by assumption) (by omega)]; done) | (rw [dirCode_0 (by assumption) (by assumption) (by omega)]; done), rfl⟩

set_option maxHeartbeats 1000000 in
set_option maxRecDepth 20000 in
theorem c_58 {w0 : World} {S0 : Bs} {f : DFs} {ad0 : Addr} (h0 : PtrRo kT_30 w0 (FF w0 S0) ad0 f) (a : Int)  :
    Calls Try.prog 58 #[.pointer (some ad0), .int .i64 a] w0 (TriPost w0 S0 (fun r l => r = .bool (decide (placeIn f.inodes.length a)) ∧ l = [])) := by
  obtain ⟨ec0, hF0, hr0, hc0⟩ := id h0
  obtain ⟨u0_0, u0_1, rfl, h0_0, h0_1⟩ := kT_30_ro hr0
  obtain ⟨A0_0, c0_0, rfl, hl0_0, hm0_0, hb0_0, he0_0⟩ := ro_form h0_0
  obtain ⟨A0_1, c0_1, rfl, hl0_1, hm0_1, hb0_1, he0_1⟩ := ro_form h0_1
  refine FJ.enter (N := 13) Try.func58 rfl rfl (by simp) [(0, .pointer (some ad0)), (1, .int .i64 a)] (by simp) (l0 := []) trivial ?_
  refine FJ.seq ?_
  refine FJ.region ?_
  refine FJ.q (goes_list rfl) rfl (by decide) rfl (q_assign rfl .c) ?_
  refine FJ.nil ?_
  refine FJ.then_ ?_
  refine FJ.seq ?_
  refine FJ.region ?_
  refine FJ.q (goes_list rfl) rfl (by decide) rfl (q_move rfl (.t (.s (.s .z)))) ?_
  refine FJ.q (goes_list rfl) rfl (by decide) rfl (q_move rfl (.t (.s (.s .z)))) ?_
  refine FJ.q (goes_list rfl) rfl (by decide) rfl (q_nilCheck rfl (.t .z)) ?_
  refine FJ.q (goes_list rfl) rfl (by decide) rfl (q_fieldAddr rfl (.t .z) (fun _ => fa_30_0 _ _)) ?_
  refine FJ.q (goes_list rfl) rfl (by decide) rfl (q_load rfl ag_28 (.t .z) (WS.el hF0 hc0 rfl)) ?_
  refine FJ.q (goes_list rfl) rfl (by decide) rfl (q_len rfl u_28 (.t .z)) ?_
  refine FJ.q (goes_list rfl) rfl (by decide) rfl (q_sub (c := (f.inodes.length : Int) - 1) rfl (.t .z) .c (wr (by omega) (by omega) (by omega))) ?_
  refine FJ.call (goes_list rfl) rfl (by decide) rfl (c_call rfl Try.func82 rfl rfl (args3 (.t (.s (.s (.s (.s (.s (.s .z))))))) .c (.t .z))) .n (fun w1 S1 hs tr => c_82 _ _ _) ?_
  rintro _ _ ⟨rfl, rfl⟩
  refine FJ.cat .n ?_
  refine FJ.er (.s (.s (.s (.s (.s (.s (.s (.s .z)))))))) ?_
  refine FJ.q (goes_list rfl) rfl (by decide) rfl (q_assign rfl (.t .z)) ?_
  refine FJ.nil ?_
  refine FJ.then_ ?_
  refine FJ.ret ?_
  refine FJ.doneS (res1 rfl .z) .n ?_
  exact ⟨rfl, rfl⟩

set_option maxHeartbeats 1000000 in
set_option maxRecDepth 20000 in
theorem c_31 {w0 : World} {S0 : Bs} {f : DFs} {ad0 : Addr} (h0 : PtrRo kT_30 w0 (FF w0 S0) ad0 f) (a : Int)  :
    Calls Try.prog 31 #[.pointer (some ad0), .int .i64 a] w0 (TriPost w0 S0 (fun r l => r = .int .i64 (dirCode f a) ∧ l = [])) := by
  obtain ⟨ec0, hF0, hr0, hc0⟩ := id h0
  obtain ⟨u0_0, u0_1, rfl, h0_0, h0_1⟩ := kT_30_ro hr0
  obtain ⟨A0_0, c0_0, rfl, hl0_0, hm0_0, hb0_0, he0_0⟩ := ro_form h0_0
  obtain ⟨A0_1, c0_1, rfl, hl0_1, hm0_1, hb0_1, he0_1⟩ := ro_form h0_1
  refine FJ.enter (N := 24) Try.func31 rfl rfl (by simp) [(0, .pointer (some ad0)), (1, .int .i64 a)] (by simp) (l0 := []) trivial ?_
  refine FJ.seq ?_
  refine FJ.region ?_
  refine FJ.q (goes_list rfl) rfl (by decide) rfl (q_assign rfl .c) ?_
  refine FJ.nil ?_
  refine FJ.then_ ?_
  refine FJ.seq ?_
  refine FJ.seq ?_
  refine FJ.region ?_
  refine FJ.q (goes_list rfl) rfl (by decide) rfl (q_move rfl (.t (.s .z))) ?_
  refine FJ.call (goes_list rfl) rfl (by decide) rfl (c_call rfl Try.func41 rfl rfl (args1 (.t .z))) .n (fun w1 S1 hs tr => c_41 (tr.ctxP h0)) ?_
  rintro _ _ ⟨rfl, rfl⟩
  refine FJ.cat .n ?_
  refine FJ.q (goes_list rfl) rfl (by decide) rfl (q_assign rfl (.t .z)) ?_
  refine FJ.nil ?_
  refine FJ.then_ ?_
  refine FJ.seq ?_
  refine FJ.region ?_
  refine FJ.q (goes_list rfl) rfl (by decide) rfl (q_move rfl (.t .z)) ?_
  refine FJ.q (goes_list rfl) rfl (by decide) rfl (q_neq rfl (.t .z) .c) ?_
  refine FJ.nil ?_
  refine FJ.then_ ?_
  refine FJ.condN (.t .z) (fun b3 => ?_) (fun b3 => ?_)
  · -- b3: True
    refine FJ.seq ?_
    refine FJ.region ?_
    refine FJ.q (goes_list rfl) rfl (by decide) rfl (q_move rfl (.t (.s (.s .z)))) ?_
    refine FJ.er (.s (.s (.s (.s (.s (.s .z)))))) ?_
    refine FJ.q (goes_list rfl) rfl (by decide) rfl (q_assign rfl (.t .z)) ?_
    refine FJ.nil ?_
    refine FJ.then_ ?_
    refine FJ.ret ?_
    refine FJ.thenR ?_
    refine FJ.doneS (res1 rfl .z) .n ?_
    exact ⟨by first | (rw [dirCode_f (by assumption)]; done) | (rw [dirCode_3 (by assumption) (by assumption)]; done) | (rw [dirCode_9 (by assumption) (by assumption) (by omega)]; done) | (rw [dirCode_0 (by assumption) (by assumption) (by omega)]; done), rfl⟩
  · -- b3: False
    have hId4 := treeI b3
    refine FJ.skip ?_
    refine FJ.then_ ?_
    refine FJ.seq ?_
    refine FJ.seq ?_
    refine FJ.region ?_
    refine FJ.q (goes_list rfl) rfl (by decide) rfl (q_move rfl (.t (.s (.s (.s (.s (.s (.s .z)))))))) ?_
    refine FJ.q (goes_list rfl) rfl (by decide) rfl (q_move rfl (.t (.s (.s (.s (.s (.s (.s (.s (.s .z)))))))))) ?_
    refine FJ.call (goes_list rfl) rfl (by decide) rfl (c_call rfl Try.func58 rfl rfl (args2 (.t (.s .z)) (.t .z))) .n (fun w1 S1 hs tr => c_58 (tr.ctxP h0) _) ?_
    rintro _ _ ⟨rfl, rfl⟩
    refine FJ.cat .n ?_
    refine FJ.q (goes_list rfl) rfl (by decide) rfl (q_not rfl (.t .z)) ?_
    refine FJ.nil ?_
    refine FJ.then_ ?_
    refine FJ.condN (.t .z) (fun b5 => ?_) (fun b5 => ?_)
    · -- b5: True
      refine FJ.seq ?_
      refine FJ.region ?_
      refine FJ.er (.s (.s (.s (.s (.s (.s (.s (.s (.s .z))))))))) ?_
      refine FJ.q (goes_list rfl) rfl (by decide) rfl (q_assign rfl .c) ?_
      refine FJ.nil ?_
      refine FJ.then_ ?_
      refine FJ.ret ?_
      refine FJ.thenR ?_
      refine FJ.doneS (res1 rfl .z) .n ?_
      exact ⟨by first | (rw [dirCode_f (by assumption)]; done) | (rw [dirCode_3 (by assumption) (by assumption)]; done) | (rw [dirCode_9 (by assumption) (by assumption) (by omega)]; done) | (rw [dirCode_0 (by assumption) (by assumption) (by omega)]; done), rfl⟩
    · -- b5: False
      refine FJ.skip ?_
      refine FJ.then_ ?_
      refine FJ.seq ?_
      refine FJ.seq ?_
      refine FJ.region ?_
      refine FJ.q (goes_list rfl) rfl (by decide) rfl (q_move rfl (.t (.s (.s (.s (.s (.s (.s (.s (.s (.s (.s .z)))))))))))) ?_
      refine FJ.q (goes_list rfl) rfl (by decide) rfl (q_nilCheck rfl (.t .z)) ?_
      refine FJ.q (goes_list rfl) rfl (by decide) rfl (q_fieldAddr rfl (.t .z) (fun _ => fa_30_0 _ _)) ?_
      refine FJ.q (goes_list rfl) rfl (by decide) rfl (q_load rfl ag_28 (.t .z) (WS.el hF0 hc0 rfl)) ?_
      refine FJ.q (goes_list rfl) rfl (by decide) rfl (q_move rfl (.t (.s (.s (.s (.s (.s (.s (.s (.s (.s (.s (.s (.s (.s (.s (.s .z))))))))))))))))) ?_
      obtain ⟨ad6, hAad6, hrad6⟩ := he0_0 (by omega)
      subst hAad6
      obtain ⟨x7, hx7⟩ := get_ex (xs := f.inodes) (j := Int.toNat a) (by omega)
      obtain ⟨ece8, hre8, hFe8, hce8⟩ := hrad6.elem hx7
      obtain ⟨ue8_3, ue8_4, rfl, he8_3, he8_4⟩ := kT_60_ro hre8
      obtain ⟨Ae8_3, ce8_3, rfl, hle8_3, hme8_3, hbe8_3, hee8_3⟩ := ro_form he8_3
      obtain ⟨Ae8_4, ce8_4, rfl, hle8_4, hme8_4, hbe8_4, hee8_4⟩ := ro_form he8_4
      have kx7 := kind_at (i := a) hx7 (by omega)
      have nx7 := ents_at (a := a) hx7 (by omega)
      have iox7 := inodes_all hId4 _ (List.mem_of_getElem? hx7)
      refine FJ.q (goes_list rfl) rfl (by decide) rfl (q_indexAddr (j := Int.toNat a) rfl u_28 sz_60 (.t (.s .z)) (.t .z) (by omega) (by omega)) ?_
      refine FJ.q (goes_list rfl) rfl (by decide) rfl (q_fieldAddr rfl (.t .z) (fun _ => fa_60_0 _ _)) ?_
      refine FJ.q (goes_list rfl) rfl (by decide) rfl (q_load rfl ag_2 (.t .z) (WS.el hFe8 hce8 rfl)) ?_
      refine FJ.q (goes_list rfl) rfl (by decide) rfl (q_neq rfl (.t .z) .c) ?_
      refine FJ.nil ?_
      refine FJ.then_ ?_
      refine FJ.condN (.t .z) (fun b11 => ?_) (fun b11 => ?_)
      · -- b11: True
        refine FJ.seq ?_
        refine FJ.region ?_
        refine FJ.er (.s (.s (.s (.s (.s (.s (.s (.s (.s (.s (.s (.s (.s (.s (.s (.s (.s (.s .z)))))))))))))))))) ?_
        refine FJ.q (goes_list rfl) rfl (by decide) rfl (q_assign rfl .c) ?_
        refine FJ.nil ?_
        refine FJ.then_ ?_
        refine FJ.ret ?_
        refine FJ.thenR ?_
        refine FJ.doneS (res1 rfl .z) .n ?_
        exact ⟨by first | (rw [dirCode_f (by assumption)]; done) | (rw [dirCode_3 (by assumption) (by assumption)]; done) | (rw [dirCode_9 (by assumption) (by assumption) (by omega)]; done) | (rw [dirCode_0 (by assumption) (by assumption) (by omega)]; done), rfl⟩
      · -- b11: False
        refine FJ.skip ?_
        refine FJ.then_ ?_
        refine FJ.seq ?_
        refine FJ.region ?_
        refine FJ.er (.s (.s (.s (.s (.s (.s (.s (.s (.s (.s (.s (.s (.s (.s (.s (.s (.s (.s .z)))))))))))))))))) ?_
        refine FJ.q (goes_list rfl) rfl (by decide) rfl (q_assign rfl .c) ?_
        refine FJ.nil ?_
        refine FJ.then_ ?_
        refine FJ.ret ?_
        refine FJ.doneS (res1 rfl .z) .n ?_
        exact ⟨by first | (rw [dirCode_f (by assumption)]; done) | (rw [dirCode_3 (by assumption) (by assumption)]; done) | (rw [dirCode_9 (by assumption) (by assumption) (by omega)]; done) | (rw [dirCode_0 (by assumption) (by assumption) (by omega)]; done), rfl⟩

set_option maxHeartbeats 1000000 in
set_option maxRecDepth 20000 in
theorem c_39 {w0 : World} {S0 : Bs} {f : DFs} {cs0 : List Value} (h0 : kT_30.ro w0 (FF w0 S0) f cs0) (a : Int) (s : ByteArray) (hz2 : s.size ≤ 140737488351232)  :
    Calls Try.prog 39 #[.agg cs0.toArray, .int .i64 a, .string s] w0 (TriPost w0 S0 (fun r l => r = .int .i64 (nameCode f a s) ∧ l = [])) := by
  obtain ⟨u0_0, u0_1, rfl, h0_0, h0_1⟩ := kT_30_ro h0
  obtain ⟨A0_0, c0_0, rfl, hl0_0, hm0_0, hb0_0, he0_0⟩ := ro_form h0_0
  obtain ⟨A0_1, c0_1, rfl, hl0_1, hm0_1, hb0_1, he0_1⟩ := ro_form h0_1
  refine FJ.enter (N := 16) Try.func39 rfl rfl (by simp) [(0, .agg #[.slice A0_0 f.inodes.length c0_0, .slice A0_1 f.data.length c0_1]), (1, .int .i64 a), (2, .string s)] (by simp) (l0 := []) trivial ?_
  refine FJ.seq ?_
  refine FJ.region ?_
  refine FJ.e (goes_list rfl) rfl (by decide) rfl (e_box (cs := [.slice A0_0 f.inodes.length c0_0, .slice A0_1 f.data.length c0_1]) (n := 2) rfl (.t .z) rfl rfl) ?_
  rintro _ _ ⟨g3, rfl, rfl⟩
  refine FJ.q (goes_list rfl) rfl (by decide) rfl (q_assign rfl .c) ?_
  refine FJ.nil ?_
  refine FJ.then_ ?_
  refine FJ.seq ?_
  refine FJ.seq ?_
  refine FJ.region ?_
  refine FJ.q (goes_list rfl) rfl (by decide) rfl (q_loadA (cs := [.slice A0_0 f.inodes.length c0_0, .slice A0_1 f.data.length c0_1]) rfl ag_30 sz_30 (.t (.s .z)) (WS.rows0 .z (fun i u h => by exact h))) ?_
  refine FJ.q (goes_list rfl) rfl (by decide) rfl (q_move rfl (.t (.s (.s (.s (.s .z)))))) ?_
  refine FJ.call (goes_list rfl) rfl (by decide) rfl (c_call rfl Try.func34 rfl rfl (args2 (.t (.s .z)) (.t .z))) .n (fun w1 S1 hs tr => c_34 (kT_30_mk f (tr.ctx h0_0) (tr.ctx h0_1)) _) ?_
  rintro _ _ ⟨rfl, rfl⟩
  refine FJ.cat .n ?_
  refine FJ.q (goes_list rfl) rfl (by decide) rfl (q_assign rfl (.t .z)) ?_
  refine FJ.nil ?_
  refine FJ.then_ ?_
  refine FJ.seq ?_
  refine FJ.region ?_
  refine FJ.q (goes_list rfl) rfl (by decide) rfl (q_move rfl (.t .z)) ?_
  refine FJ.q (goes_list rfl) rfl (by decide) rfl (q_neq rfl (.t .z) .c) ?_
  refine FJ.nil ?_
  refine FJ.then_ ?_
  refine FJ.condN (.t .z) (fun b4 => ?_) (fun b4 => ?_)
  · -- b4: True
    refine FJ.seq ?_
    refine FJ.region ?_
    refine FJ.q (goes_list rfl) rfl (by decide) rfl (q_move rfl (.t (.s (.s .z)))) ?_
    refine FJ.er (.s (.s (.s (.s (.s (.s (.s .z))))))) ?_
    refine FJ.q (goes_list rfl) rfl (by decide) rfl (q_assign rfl (.t .z)) ?_
    refine FJ.nil ?_
    refine FJ.then_ ?_
    refine FJ.ret ?_
    refine FJ.thenR ?_
    refine FJ.doneS (res1 rfl .z) .n ?_
    exact ⟨by first | (rw [nameCode_f (by assumption)]; done) | (rw [nameCode_n (by assumption)]; done), rfl⟩
  · -- b4: False
    have hdd5 := dirOk b4
    have hId5 := treeI hdd5.1
    obtain ⟨had5, hzd5⟩ := hdd5.2.1
    refine FJ.skip ?_
    refine FJ.then_ ?_
    refine FJ.seq ?_
    refine FJ.region ?_
    refine FJ.q (goes_list rfl) rfl (by decide) rfl (q_move rfl (.t (.s (.s (.s (.s (.s (.s (.s (.s (.s (.s .z)))))))))))) ?_
    refine FJ.call (goes_list rfl) rfl (by decide) rfl (c_call rfl Try.func66 rfl rfl (args1 (.t .z))) .n (fun w1 S1 hs tr => c_66 _ (by first | assumption | omega)) ?_
    rintro _ _ ⟨rfl, rfl⟩
    refine FJ.cat .n ?_
    refine FJ.er (.s (.s (.s (.s (.s (.s (.s (.s .z)))))))) ?_
    refine FJ.q (goes_list rfl) rfl (by decide) rfl (q_assign rfl (.t .z)) ?_
    refine FJ.nil ?_
    refine FJ.then_ ?_
    refine FJ.ret ?_
    refine FJ.doneS (res1 rfl .z) .n ?_
    exact ⟨by first | (rw [nameCode_f (by assumption)]; done) | (rw [nameCode_n (by assumption)]; done), rfl⟩

set_option maxHeartbeats 1000000 in
set_option maxRecDepth 20000 in
theorem c_37 {w0 : World} {S0 : Bs} {f : DFs} {ad0 : Addr} (h0 : PtrRo kT_30 w0 (FF w0 S0) ad0 f) (a : Int) (s : ByteArray) (hz2 : s.size ≤ 140737488351232)  :
    Calls Try.prog 37 #[.pointer (some ad0), .int .i64 a, .string s] w0 (TriPost w0 S0 (fun r l => r = .int .i64 (nameCode f a s) ∧ l = [])) := by
  obtain ⟨ec0, hF0, hr0, hc0⟩ := id h0
  obtain ⟨u0_0, u0_1, rfl, h0_0, h0_1⟩ := kT_30_ro hr0
  obtain ⟨A0_0, c0_0, rfl, hl0_0, hm0_0, hb0_0, he0_0⟩ := ro_form h0_0
  obtain ⟨A0_1, c0_1, rfl, hl0_1, hm0_1, hb0_1, he0_1⟩ := ro_form h0_1
  refine FJ.enter (N := 16) Try.func37 rfl rfl (by simp) [(0, .pointer (some ad0)), (1, .int .i64 a), (2, .string s)] (by simp) (l0 := []) trivial ?_
  refine FJ.seq ?_
  refine FJ.region ?_
  refine FJ.q (goes_list rfl) rfl (by decide) rfl (q_assign rfl .c) ?_
  refine FJ.nil ?_
  refine FJ.then_ ?_
  refine FJ.seq ?_
  refine FJ.seq ?_
  refine FJ.region ?_
  refine FJ.q (goes_list rfl) rfl (by decide) rfl (q_move rfl (.t (.s .z))) ?_
  refine FJ.q (goes_list rfl) rfl (by decide) rfl (q_move rfl (.t (.s (.s (.s .z))))) ?_
  refine FJ.call (goes_list rfl) rfl (by decide) rfl (c_call rfl Try.func31 rfl rfl (args2 (.t (.s .z)) (.t .z))) .n (fun w1 S1 hs tr => c_31 (tr.ctxP h0) _) ?_
  rintro _ _ ⟨rfl, rfl⟩
  refine FJ.cat .n ?_
  refine FJ.q (goes_list rfl) rfl (by decide) rfl (q_assign rfl (.t .z)) ?_
  refine FJ.nil ?_
  refine FJ.then_ ?_
  refine FJ.seq ?_
  refine FJ.region ?_
  refine FJ.q (goes_list rfl) rfl (by decide) rfl (q_move rfl (.t .z)) ?_
  refine FJ.q (goes_list rfl) rfl (by decide) rfl (q_neq rfl (.t .z) .c) ?_
  refine FJ.nil ?_
  refine FJ.then_ ?_
  refine FJ.condN (.t .z) (fun b3 => ?_) (fun b3 => ?_)
  · -- b3: True
    refine FJ.seq ?_
    refine FJ.region ?_
    refine FJ.q (goes_list rfl) rfl (by decide) rfl (q_move rfl (.t (.s (.s .z)))) ?_
    refine FJ.er (.s (.s (.s (.s (.s (.s (.s .z))))))) ?_
    refine FJ.q (goes_list rfl) rfl (by decide) rfl (q_assign rfl (.t .z)) ?_
    refine FJ.nil ?_
    refine FJ.then_ ?_
    refine FJ.ret ?_
    refine FJ.thenR ?_
    refine FJ.doneS (res1 rfl .z) .n ?_
    exact ⟨by first | (rw [nameCode_f (by assumption)]; done) | (rw [nameCode_n (by assumption)]; done), rfl⟩
  · -- b3: False
    have hdd4 := dirOk b3
    have hId4 := treeI hdd4.1
    obtain ⟨had4, hzd4⟩ := hdd4.2.1
    refine FJ.skip ?_
    refine FJ.then_ ?_
    refine FJ.seq ?_
    refine FJ.region ?_
    refine FJ.q (goes_list rfl) rfl (by decide) rfl (q_move rfl (.t (.s (.s (.s (.s (.s (.s (.s (.s (.s .z))))))))))) ?_
    refine FJ.call (goes_list rfl) rfl (by decide) rfl (c_call rfl Try.func65 rfl rfl (args1 (.t .z))) .n (fun w1 S1 hs tr => c_65 _ (by first | assumption | omega)) ?_
    rintro _ _ ⟨rfl, rfl⟩
    refine FJ.cat .n ?_
    refine FJ.er (.s (.s (.s (.s (.s (.s (.s (.s .z)))))))) ?_
    refine FJ.q (goes_list rfl) rfl (by decide) rfl (q_assign rfl (.t .z)) ?_
    refine FJ.nil ?_
    refine FJ.then_ ?_
    refine FJ.ret ?_
    refine FJ.doneS (res1 rfl .z) .n ?_
    exact ⟨by first | (rw [nameCode_f (by assumption)]; done) | (rw [nameCode_n (by assumption)]; done), rfl⟩

set_option maxHeartbeats 1000000 in
set_option maxRecDepth 20000 in
theorem c_40 {w0 : World} {S0 : Bs} {f : DFs} {ad0 : Addr} (h0 : PtrRo kT_30 w0 (FF w0 S0) ad0 f) (a : Int) (s : ByteArray) (hz2 : s.size ≤ 140737488351232) (hp : placeIn f.inodes.length a) :
    Calls Try.prog 40 #[.pointer (some ad0), .int .i64 a, .string s] w0 (TriPost w0 S0 (fun r l => r = .int .i64 (lookI (entsAt f.inodes a) s) ∧ l = [])) := by
  obtain ⟨ec0, hF0, hr0, hc0⟩ := id h0
  obtain ⟨u0_0, u0_1, rfl, h0_0, h0_1⟩ := kT_30_ro hr0
  obtain ⟨A0_0, c0_0, rfl, hl0_0, hm0_0, hb0_0, he0_0⟩ := ro_form h0_0
  obtain ⟨A0_1, c0_1, rfl, hl0_1, hm0_1, hb0_1, he0_1⟩ := ro_form h0_1
  obtain ⟨hp1, hp2⟩ := hp
  refine FJ.enter (N := 29) Try.func40 rfl rfl (by simp) [(0, .pointer (some ad0)), (1, .int .i64 a), (2, .string s)] (by simp) (l0 := []) trivial ?_
  refine FJ.seq ?_
  refine FJ.region ?_
  refine FJ.q (goes_list rfl) rfl (by decide) rfl (q_assign rfl .c) ?_
  refine FJ.nil ?_
  refine FJ.then_ ?_
  refine FJ.seq ?_
  refine FJ.seq ?_
  refine FJ.region ?_
  refine FJ.q (goes_list rfl) rfl (by decide) rfl (q_move rfl (.t (.s .z))) ?_
  refine FJ.q (goes_list rfl) rfl (by decide) rfl (q_nilCheck rfl (.t .z)) ?_
  refine FJ.q (goes_list rfl) rfl (by decide) rfl (q_fieldAddr rfl (.t .z) (fun _ => fa_30_0 _ _)) ?_
  refine FJ.q (goes_list rfl) rfl (by decide) rfl (q_load rfl ag_28 (.t .z) (WS.el hF0 hc0 rfl)) ?_
  refine FJ.q (goes_list rfl) rfl (by decide) rfl (q_move rfl (.t (.s (.s (.s (.s (.s (.s .z)))))))) ?_
  obtain ⟨ad3, hAad3, hrad3⟩ := he0_0 (by omega)
  subst hAad3
  obtain ⟨x4, hx4⟩ := get_ex (xs := f.inodes) (j := Int.toNat a) (by omega)
  obtain ⟨ece5, hre5, hFe5, hce5⟩ := hrad3.elem hx4
  obtain ⟨ue5_3, ue5_4, rfl, he5_3, he5_4⟩ := kT_60_ro hre5
  obtain ⟨Ae5_3, ce5_3, rfl, hle5_3, hme5_3, hbe5_3, hee5_3⟩ := ro_form he5_3
  obtain ⟨Ae5_4, ce5_4, rfl, hle5_4, hme5_4, hbe5_4, hee5_4⟩ := ro_form he5_4
  have kx4 := kind_at (i := a) hx4 (by omega)
  have nx4 := ents_at (a := a) hx4 (by omega)
  refine FJ.q (goes_list rfl) rfl (by decide) rfl (q_indexAddr (j := Int.toNat a) rfl u_28 sz_60 (.t (.s .z)) (.t .z) (by omega) (by omega)) ?_
  refine FJ.q (goes_list rfl) rfl (by decide) rfl (q_fieldAddr rfl (.t .z) (fun _ => fa_60_4 _ _)) ?_
  refine FJ.q (goes_list rfl) rfl (by decide) rfl (q_load rfl ag_58 (.t .z) (WS.el hFe5 hce5 rfl)) ?_
  refine FJ.q (goes_list rfl) rfl (by decide) rfl (q_len rfl u_58 (.t .z)) ?_
  refine FJ.q (goes_list rfl) rfl (by decide) rfl (q_move rfl .c) ?_
  refine FJ.nil ?_
  refine FJ.then_ ?_
  refine FJ.block ?_
  refine FJ.loopi (γ := Nat) (fun k => [(18, .int .i64 (k : Int)), (17, .int .i64 (x4.ents.length : Int)), (16, .slice Ae5_4 x4.ents.length ce5_4), (2, .string s)]) (fun k => []) (fun k => k ≤ x4.ents.length ∧ ∀ j e, j < k → x4.ents[j]? = some e → ¬ e.name = s) (fun k => x4.ents.length - k) 0 ⟨Nat.zero_le _, all_zero (q := fun _ e => ¬ DEnt.name e = s)⟩ (.c .z (.c (.s .z) (.c (.s (.s .z)) (.c (.s (.s (.s (.s (.s (.s (.s (.s (.s (.s (.s (.s (.s .z))))))))))))) .n)))) (fun _ h => h) ?_
  rintro k ⟨hk, hallk⟩
  refine FJ.seq ?_
  refine FJ.region ?_
  refine FJ.q (goes_list rfl) rfl (by decide) rfl (q_lss rfl (.t .z) (.t (.s .z))) ?_
  refine FJ.nil ?_
  refine FJ.then_ ?_
  refine FJ.seq ?_
  refine FJ.condP (.t .z) (fun b8 => ?_) (fun b8 => ?_)
  · -- b8: True
    refine FJ.skip ?_
    refine FJ.then_ ?_
    refine FJ.seq ?_
    refine FJ.block ?_
    refine FJ.seq ?_
    refine FJ.region ?_
    obtain ⟨ad9, hAad9, hrad9⟩ := hee5_4 (by omega)
    subst hAad9
    obtain ⟨x10, hx10⟩ := get_ex (xs := x4.ents) (j := k) (by omega)
    obtain ⟨ece11, hre11, hFe11, hce11⟩ := hrad9.elem hx10
    obtain ⟨rfl, se11_0⟩ := kT_69_ro hre11
    refine FJ.q (goes_list rfl) rfl (by decide) rfl (q_indexAddr (j := k) rfl u_58 sz_69 (.t (.s (.s (.s .z)))) (.t (.s .z)) rfl (by omega)) ?_
    refine FJ.q (goes_list rfl) rfl (by decide) rfl (q_loadA (cs := [.string x10.name, .int .i64 x10.ino]) rfl ag_69 sz_69 (.t .z) (WS.els hFe11 hce11)) ?_
    refine FJ.e (goes_list rfl) rfl (by decide) rfl (e_alloc rfl z_69 rfl rfl) ?_
    rintro _ _ ⟨g12, rfl, rfl⟩
    refine FJ.es (goes_list rfl) rfl (es_store (off := 0) (cs := [.string x10.name, .int .i64 x10.ino]) rfl sz_69 (.t .z) (.t (.s .z)) rfl (ones rfl) .z (Nat.le_of_ble_eq_true rfl) (.c .z (.c (.s .z) .n))) ?_
    refine FJ.nil ?_
    refine FJ.then_ ?_
    refine FJ.seq ?_
    refine FJ.region ?_
    refine FJ.q (goes_list rfl) rfl (by decide) rfl (q_fieldAddr rfl (.t .z) (fun _ => fa_69_0 _ _)) ?_
    refine FJ.q (goes_list rfl) rfl (by decide) rfl (q_load rfl ag_9 (.t .z) (WS.row .z rfl)) ?_
    refine FJ.q (goes_list rfl) rfl (by decide) rfl (q_move rfl (.t (.s (.s (.s (.s (.s (.s (.s (.s (.s .z))))))))))) ?_
    refine FJ.q (goes_list rfl) rfl (by decide) rfl (q_seql rfl (.t (.s .z)) (.t .z)) ?_
    refine FJ.nil ?_
    refine FJ.then_ ?_
    refine FJ.condP (.t .z) (fun b13 => ?_) (fun b13 => ?_)
    · -- b13: True
      refine FJ.seq ?_
      refine FJ.region ?_
      refine FJ.q (goes_list rfl) rfl (by decide) rfl (q_fieldAddr rfl (.t (.s (.s (.s (.s .z))))) (fun _ => fa_69_1 _ _)) ?_
      refine FJ.q (goes_list rfl) rfl (by decide) rfl (q_load rfl ag_2 (.t .z) (WS.row .z rfl)) ?_
      refine FJ.q (goes_list rfl) rfl (by decide) rfl (q_assign rfl (.t .z)) ?_
      refine FJ.nil ?_
      refine FJ.then_ ?_
      refine FJ.ret ?_
      refine FJ.inBR ?_
      refine FJ.thenR ?_
      refine FJ.thenR ?_
      refine FJ.inBR ?_
      refine FJ.thenR ?_
      refine FJ.doneS (res1 rfl .z) .n ?_
      exact ⟨by rw [nx4, lookI_hit hx10 (by assumption) hallk], rfl⟩
    · -- b13: False
      refine FJ.skip ?_
      refine FJ.inBN ?_
      refine FJ.then_ ?_
      refine FJ.region ?_
      refine FJ.q (goes_list rfl) rfl (by decide) rfl (q_add (c := ((k + 1 : Nat) : Int)) rfl (.t (.s (.s (.s (.s (.s (.s (.s (.s .z))))))))) .c (wr (by omega) (by omega) (by omega))) ?_
      refine FJ.er (.s (.s (.s (.s (.s (.s (.s (.s (.s .z))))))))) ?_
      refine FJ.q (goes_list rfl) rfl (by decide) rfl (q_move rfl (.t .z)) ?_
      refine FJ.nil ?_
      refine FJ.again (k + 1) ⟨by omega, all_succ (q := fun _ e => ¬ DEnt.name e = s) hallk hx10 (by assumption)⟩ (by first | omega | (dsimp only; omega)) (.c .z (.c (.s (.s (.s (.s (.s (.s (.s (.s (.s (.s .z)))))))))) (.c (.s (.s (.s (.s (.s (.s (.s (.s (.s (.s (.s .z))))))))))) (.c (.s (.s (.s (.s (.s (.s (.s (.s (.s (.s (.s (.s .z)))))))))))) .n)))) (fun _ h => h.sel .n)
  · -- b8: False
    refine FJ.exit ?_
    refine FJ.thenE ?_
    refine FJ.thenE ?_
    refine FJ.inB ?_
    refine FJ.then_ ?_
    refine FJ.seq ?_
    refine FJ.region ?_
    refine FJ.q (goes_list rfl) rfl (by decide) rfl (q_assign rfl .c) ?_
    refine FJ.nil ?_
    refine FJ.then_ ?_
    refine FJ.ret ?_
    refine FJ.doneS (res1 rfl .z) .n ?_
    exact ⟨by rw [nx4, lookI_no (k := k) (by omega) hallk], rfl⟩

set_option maxHeartbeats 1000000 in
set_option maxRecDepth 20000 in
theorem c_38 {w0 : World} {S0 : Bs} {es : (List DEnt)} {v0 : Value} (h0 : kSl_69.ro w0 (FF w0 S0) es [v0]) (s : ByteArray) (hz1 : s.size ≤ 140737488351232)  :
    Calls Try.prog 38 #[v0, .string s] w0 (TriPost w0 S0 (fun r l => r = .int .i64 (idxF (nameP s) es) ∧ l = [])) := by
  obtain ⟨A0, c0, rfl, hl0, hm0, hb0, he0⟩ := ro_form h0
  refine FJ.enter (N := 20) Try.func38 rfl rfl (by simp) [(0, .slice A0 es.length c0), (1, .string s)] (by simp) (l0 := []) trivial ?_
  refine FJ.seq ?_
  refine FJ.region ?_
  refine FJ.q (goes_list rfl) rfl (by decide) rfl (q_assign rfl .c) ?_
  refine FJ.nil ?_
  refine FJ.then_ ?_
  refine FJ.seq ?_
  refine FJ.seq ?_
  refine FJ.region ?_
  refine FJ.q (goes_list rfl) rfl (by decide) rfl (q_assign rfl .c) ?_
  refine FJ.nil ?_
  refine FJ.then_ ?_
  refine FJ.block ?_
  refine FJ.loopi (γ := Nat) (fun k => [(5, .int .i64 (k : Int)), (0, .slice A0 es.length c0), (1, .string s)]) (fun k => []) (fun k => k ≤ es.length ∧ ∀ j e, j < k → es[j]? = some e → nameP s e = false) (fun k => es.length - k) 0 ⟨Nat.zero_le _, all_zero (q := fun _ e => nameP s e = false)⟩ (.c .z (.c (.s (.s .z)) (.c (.s (.s (.s .z))) .n))) (fun _ h => h) ?_
  rintro k ⟨hk, hallk⟩
  refine FJ.seq ?_
  refine FJ.seq ?_
  refine FJ.region ?_
  refine FJ.q (goes_list rfl) rfl (by decide) rfl (q_move rfl (.t .z)) ?_
  refine FJ.q (goes_list rfl) rfl (by decide) rfl (q_move rfl (.t (.s (.s .z)))) ?_
  refine FJ.q (goes_list rfl) rfl (by decide) rfl (q_len rfl u_58 (.t .z)) ?_
  refine FJ.q (goes_list rfl) rfl (by decide) rfl (q_lss rfl (.t (.s (.s .z))) (.t .z)) ?_
  refine FJ.nil ?_
  refine FJ.then_ ?_
  refine FJ.condP (.t .z) (fun b2 => ?_) (fun b2 => ?_)
  · -- b2: True
    refine FJ.skip ?_
    refine FJ.then_ ?_
    refine FJ.seq ?_
    refine FJ.block ?_
    refine FJ.seq ?_
    refine FJ.region ?_
    refine FJ.q (goes_list rfl) rfl (by decide) rfl (q_move rfl (.t (.s (.s (.s (.s (.s .z))))))) ?_
    refine FJ.q (goes_list rfl) rfl (by decide) rfl (q_move rfl (.t (.s (.s (.s (.s (.s .z))))))) ?_
    obtain ⟨ad3, hAad3, hrad3⟩ := he0 (by omega)
    subst hAad3
    obtain ⟨x4, hx4⟩ := get_ex (xs := es) (j := k) (by omega)
    obtain ⟨ece5, hre5, hFe5, hce5⟩ := hrad3.elem hx4
    obtain ⟨rfl, se5_0⟩ := kT_69_ro hre5
    refine FJ.q (goes_list rfl) rfl (by decide) rfl (q_indexAddr (j := k) rfl u_58 sz_69 (.t (.s .z)) (.t .z) rfl (by omega)) ?_
    refine FJ.q (goes_list rfl) rfl (by decide) rfl (q_fieldAddr rfl (.t .z) (fun _ => fa_69_0 _ _)) ?_
    refine FJ.q (goes_list rfl) rfl (by decide) rfl (q_load rfl ag_9 (.t .z) (WS.el hFe5 hce5 rfl)) ?_
    refine FJ.q (goes_list rfl) rfl (by decide) rfl (q_move rfl (.t (.s (.s (.s (.s (.s (.s (.s (.s (.s (.s (.s .z))))))))))))) ?_
    refine FJ.q (goes_list rfl) rfl (by decide) rfl (q_seql rfl (.t (.s .z)) (.t .z)) ?_
    refine FJ.nil ?_
    refine FJ.then_ ?_
    refine FJ.condP (.t .z) (fun b6 => ?_) (fun b6 => ?_)
    · -- b6: True
      refine FJ.seq ?_
      refine FJ.region ?_
      refine FJ.q (goes_list rfl) rfl (by decide) rfl (q_move rfl (.t (.s (.s (.s (.s (.s (.s (.s (.s (.s (.s (.s .z))))))))))))) ?_
      refine FJ.q (goes_list rfl) rfl (by decide) rfl (q_assign rfl (.t .z)) ?_
      refine FJ.nil ?_
      refine FJ.then_ ?_
      refine FJ.ret ?_
      refine FJ.inBR ?_
      refine FJ.thenR ?_
      refine FJ.thenR ?_
      refine FJ.inBR ?_
      refine FJ.thenR ?_
      refine FJ.doneS (res1 rfl .z) .n ?_
      exact ⟨by rw [idxF_some hx4 (decide_eq_true (by assumption)) hallk], rfl⟩
    · -- b6: False
      refine FJ.skip ?_
      refine FJ.inBN ?_
      refine FJ.then_ ?_
      refine FJ.region ?_
      refine FJ.q (goes_list rfl) rfl (by decide) rfl (q_move rfl (.t (.s (.s (.s (.s (.s (.s (.s (.s (.s (.s (.s .z))))))))))))) ?_
      refine FJ.q (goes_list rfl) rfl (by decide) rfl (q_add (c := ((k + 1 : Nat) : Int)) rfl (.t .z) .c (wr (by omega) (by omega) (by omega))) ?_
      refine FJ.er (.s (.s (.s (.s (.s (.s (.s (.s (.s (.s (.s (.s (.s .z))))))))))))) ?_
      refine FJ.q (goes_list rfl) rfl (by decide) rfl (q_assign rfl (.t .z)) ?_
      refine FJ.nil ?_
      refine FJ.again (k + 1) ⟨by omega, all_succ (q := fun _ e => nameP s e = false) hallk hx4 (decide_eq_false (by assumption))⟩ (by first | omega | (dsimp only; omega)) (.c .z (.c (.s (.s (.s (.s (.s (.s (.s (.s (.s (.s (.s (.s (.s (.s .z)))))))))))))) (.c (.s (.s (.s (.s (.s (.s (.s (.s (.s (.s (.s (.s (.s (.s (.s .z))))))))))))))) .n))) (fun _ h => h)
  · -- b2: False
    refine FJ.exit ?_
    refine FJ.thenE ?_
    refine FJ.thenE ?_
    refine FJ.inB ?_
    refine FJ.then_ ?_
    refine FJ.seq ?_
    refine FJ.region ?_
    refine FJ.q (goes_list rfl) rfl (by decide) rfl (q_assign rfl .c) ?_
    refine FJ.nil ?_
    refine FJ.then_ ?_
    refine FJ.ret ?_
    refine FJ.doneS (res1 rfl .z) .n ?_
    exact ⟨by rw [idxF_none (fun j x hx => hallk j x (by have := (List.getElem?_eq_some_iff.1 hx).1; omega) hx)], rfl⟩

set_option maxHeartbeats 1000000 in
set_option maxRecDepth 20000 in
theorem c_14 {w0 : World} {S0 : Bs} {f : DFs} {cs0 : List Value} (h0 : kT_30.ro w0 (FF w0 S0) f cs0) (a : Int) (s : ByteArray) (hz2 : s.size ≤ 140737488351232)  :
    Calls Try.prog 14 #[.agg cs0.toArray, .int .i64 a, .string s] w0 (TriPost w0 S0 (RA_35 (lookR f a s))) := by
  obtain ⟨u0_0, u0_1, rfl, h0_0, h0_1⟩ := kT_30_ro h0
  obtain ⟨A0_0, c0_0, rfl, hl0_0, hm0_0, hb0_0, he0_0⟩ := ro_form h0_0
  obtain ⟨A0_1, c0_1, rfl, hl0_1, hm0_1, hb0_1, he0_1⟩ := ro_form h0_1
  refine FJ.enter (N := 25) Try.func14 rfl rfl (by simp) [(0, .agg #[.slice A0_0 f.inodes.length c0_0, .slice A0_1 f.data.length c0_1]), (1, .int .i64 a), (2, .string s)] (by simp) (l0 := []) trivial ?_
  refine FJ.seq ?_
  refine FJ.region ?_
  refine FJ.e (goes_list rfl) rfl (by decide) rfl (e_box (cs := [.slice A0_0 f.inodes.length c0_0, .slice A0_1 f.data.length c0_1]) (n := 2) rfl (.t .z) rfl rfl) ?_
  rintro _ _ ⟨g3, rfl, rfl⟩
  refine FJ.e (goes_list rfl) rfl (by decide) rfl (e_alloc rfl z_35 rfl rfl) ?_
  rintro _ _ ⟨g4, rfl, rfl⟩
  refine FJ.nil ?_
  refine FJ.then_ ?_
  refine FJ.seq ?_
  refine FJ.seq ?_
  refine FJ.region ?_
  refine FJ.q (goes_list rfl) rfl (by decide) rfl (q_loadA (cs := [.slice A0_0 f.inodes.length c0_0, .slice A0_1 f.data.length c0_1]) rfl ag_30 sz_30 (.t (.s .z)) (WS.rows0 (.s .z) (fun i u h => by exact h))) ?_
  refine FJ.q (goes_list rfl) rfl (by decide) rfl (q_move rfl (.t (.s (.s (.s (.s .z)))))) ?_
  refine FJ.q (goes_list rfl) rfl (by decide) rfl (q_move rfl (.t (.s (.s (.s (.s (.s (.s .z)))))))) ?_
  refine FJ.call (goes_list rfl) rfl (by decide) rfl (c_call rfl Try.func39 rfl rfl (args3 (.t (.s (.s .z))) (.t (.s .z)) (.t .z))) .n (fun w1 S1 hs tr => c_39 (kT_30_mk f (tr.ctx h0_0) (tr.ctx h0_1)) _ _ (by first | assumption | omega)) ?_
  rintro _ _ ⟨rfl, rfl⟩
  refine FJ.cat .n ?_
  refine FJ.q (goes_list rfl) rfl (by decide) rfl (q_assign rfl (.t .z)) ?_
  refine FJ.nil ?_
  refine FJ.then_ ?_
  refine FJ.seq ?_
  refine FJ.region ?_
  refine FJ.q (goes_list rfl) rfl (by decide) rfl (q_move rfl (.t .z)) ?_
  refine FJ.q (goes_list rfl) rfl (by decide) rfl (q_neq rfl (.t .z) .c) ?_
  refine FJ.nil ?_
  refine FJ.then_ ?_
  refine FJ.condN (.t .z) (fun b5 => ?_) (fun b5 => ?_)
  · -- b5: True
    refine FJ.seq ?_
    refine FJ.region ?_
    refine FJ.q (goes_list rfl) rfl (by decide) rfl (q_move rfl (.t (.s (.s .z)))) ?_
    refine FJ.q (goes_list rfl) rfl (by decide) rfl (q_build (ps := [(0, .int .i64 (nameCode f a s))]) (cs := [.int .i64 (nameCode f a s), .int .i64 0]) rfl bl_35 (by intro act hact; simp only [List.map_toArray, List.map_cons, List.map_nil, (show Val _ _ _ from (.t .z)) act hact]) rfl) ?_
    refine FJ.es (goes_list rfl) rfl (es_store (off := 0) (cs := [.int .i64 (nameCode f a s), .int .i64 0]) rfl sz_35 (.t (.s (.s (.s (.s (.s (.s (.s (.s (.s .z)))))))))) (.t .z) rfl (ones rfl) .z (Nat.le_of_ble_eq_true rfl) (.c .z (.c (.s .z) .n))) ?_
    refine FJ.nil ?_
    refine FJ.then_ ?_
    refine FJ.ret ?_
    refine FJ.thenR ?_
    refine FJ.doneS (resC (cs := [.int .i64 (nameCode f a s), .int .i64 0]) rfl (.s (.s (.s (.s (.s (.s (.s (.s (.s .z))))))))) ag_35 sz_35 (WS.rows0 (cs := [.int .i64 (nameCode f a s), .int .i64 0]) .z (fun _ _ h => h))) .n ?_
    first | (rw [lookR_f (by assumption)]; exact ⟨rfl, rfl⟩) | (rw [lookR_4 (by assumption) (by assumption)]; exact ⟨rfl, rfl⟩) | (rw [lookR_0 (by assumption) (by assumption)]; exact ⟨rfl, rfl⟩)
  · -- b5: False
    have hnd6 := nameOk b5
    have hdd6 := dirOk hnd6
    have hId6 := treeI hdd6.1
    obtain ⟨had6, hzd6⟩ := hdd6.2.1
    refine FJ.skip ?_
    refine FJ.then_ ?_
    refine FJ.seq ?_
    refine FJ.region ?_
    refine FJ.q (goes_list rfl) rfl (by decide) rfl (q_move rfl (.t (.s (.s (.s (.s (.s (.s (.s (.s (.s (.s .z)))))))))))) ?_
    refine FJ.q (goes_list rfl) rfl (by decide) rfl (q_move rfl (.t (.s (.s (.s (.s (.s (.s (.s (.s (.s (.s (.s (.s .z)))))))))))))) ?_
    refine FJ.call (goes_list rfl) rfl (by decide) rfl (c_call rfl Try.func40 rfl rfl (args3 (.t (.s (.s (.s (.s (.s (.s (.s (.s (.s (.s .z))))))))))) (.t (.s .z)) (.t .z))) .n (fun w1 S1 hs tr => c_40 (tr.ptr (.s .z) (kT_30_mk f (tr.ctx h0_0) (tr.ctx h0_1))) _ _ (by first | assumption | omega) (by first | assumption | (constructor <;> omega))) ?_
    rintro _ _ ⟨rfl, rfl⟩
    refine FJ.cat .n ?_
    refine FJ.q (goes_list rfl) rfl (by decide) rfl (q_assign rfl (.t .z)) ?_
    refine FJ.nil ?_
    refine FJ.then_ ?_
    refine FJ.seq ?_
    refine FJ.seq ?_
    refine FJ.region ?_
    refine FJ.q (goes_list rfl) rfl (by decide) rfl (q_move rfl (.t .z)) ?_
    refine FJ.q (goes_list rfl) rfl (by decide) rfl (q_lss rfl (.t .z) .c) ?_
    refine FJ.nil ?_
    refine FJ.then_ ?_
    refine FJ.condP (.t .z) (fun b7 => ?_) (fun b7 => ?_)
    · -- b7: True
      refine FJ.seq ?_
      refine FJ.region ?_
      refine FJ.q (goes_list rfl) rfl (by decide) rfl (q_build (ps := [(0, .int .i64 4)]) (cs := [.int .i64 4, .int .i64 0]) rfl bl_35 (by intro act hact; simp only [List.map_toArray, List.map_cons, List.map_nil, (show Val _ _ _ from .c) act hact]) rfl) ?_
      refine FJ.es (goes_list rfl) rfl (es_store (off := 0) (cs := [.int .i64 4, .int .i64 0]) rfl sz_35 (.t (.s (.s (.s (.s (.s (.s (.s (.s (.s (.s (.s (.s (.s (.s .z))))))))))))))) (.t .z) rfl (ones rfl) .z (Nat.le_of_ble_eq_true rfl) (.c .z (.c (.s .z) .n))) ?_
      refine FJ.nil ?_
      refine FJ.then_ ?_
      refine FJ.ret ?_
      refine FJ.thenR ?_
      refine FJ.doneS (resC (cs := [.int .i64 4, .int .i64 0]) rfl (.s (.s (.s (.s (.s (.s (.s (.s (.s (.s (.s (.s (.s (.s .z)))))))))))))) ag_35 sz_35 (WS.rows0 (cs := [.int .i64 4, .int .i64 0]) .z (fun _ _ h => h))) .n ?_
      first | (rw [lookR_f (by assumption)]; exact ⟨rfl, rfl⟩) | (rw [lookR_4 (by assumption) (by assumption)]; exact ⟨rfl, rfl⟩) | (rw [lookR_0 (by assumption) (by assumption)]; exact ⟨rfl, rfl⟩)
    · -- b7: False
      refine FJ.skip ?_
      refine FJ.then_ ?_
      refine FJ.seq ?_
      refine FJ.region ?_
      refine FJ.q (goes_list rfl) rfl (by decide) rfl (q_move rfl (.t (.s (.s .z)))) ?_
      refine FJ.q (goes_list rfl) rfl (by decide) rfl (q_build (ps := [(1, .int .i64 (lookI (entsAt (f).inodes a) s))]) (cs := [.int .i64 0, .int .i64 (lookI (entsAt (f).inodes a) s)]) rfl bl_35 (by intro act hact; simp only [List.map_toArray, List.map_cons, List.map_nil, (show Val _ _ _ from (.t .z)) act hact]) rfl) ?_
      refine FJ.es (goes_list rfl) rfl (es_store (off := 0) (cs := [.int .i64 0, .int .i64 (lookI (entsAt (f).inodes a) s)]) rfl sz_35 (.t (.s (.s (.s (.s (.s (.s (.s (.s (.s (.s (.s (.s (.s (.s (.s .z)))))))))))))))) (.t .z) rfl (ones rfl) .z (Nat.le_of_ble_eq_true rfl) (.c .z (.c (.s .z) .n))) ?_
      refine FJ.nil ?_
      refine FJ.then_ ?_
      refine FJ.ret ?_
      refine FJ.doneS (resC (cs := [.int .i64 0, .int .i64 (lookI (entsAt (f).inodes a) s)]) rfl (.s (.s (.s (.s (.s (.s (.s (.s (.s (.s (.s (.s (.s (.s (.s .z))))))))))))))) ag_35 sz_35 (WS.rows0 (cs := [.int .i64 0, .int .i64 (lookI (entsAt (f).inodes a) s)]) .z (fun _ _ h => h))) .n ?_
      first | (rw [lookR_f (by assumption)]; exact ⟨rfl, rfl⟩) | (rw [lookR_4 (by assumption) (by assumption)]; exact ⟨rfl, rfl⟩) | (rw [lookR_0 (by assumption) (by assumption)]; exact ⟨rfl, rfl⟩)

set_option maxHeartbeats 1000000 in
set_option maxRecDepth 20000 in
theorem c_13 {w0 : World} {S0 : Bs} {f : DFs} {cs0 : List Value} (h0 : kT_30.ro w0 (FF w0 S0) f cs0) (a : Int) (s : ByteArray) (hz2 : s.size ≤ 140737488351232)  :
    Calls Try.prog 13 #[.agg cs0.toArray, .int .i64 a, .string s] w0 (TriPost w0 S0 (RA_35 (lookR f a s))) := by
  obtain ⟨u0_0, u0_1, rfl, h0_0, h0_1⟩ := kT_30_ro h0
  obtain ⟨A0_0, c0_0, rfl, hl0_0, hm0_0, hb0_0, he0_0⟩ := ro_form h0_0
  obtain ⟨A0_1, c0_1, rfl, hl0_1, hm0_1, hb0_1, he0_1⟩ := ro_form h0_1
  refine FJ.enter (N := 38) Try.func13 rfl rfl (by simp) [(0, .agg #[.slice A0_0 f.inodes.length c0_0, .slice A0_1 f.data.length c0_1]), (1, .int .i64 a), (2, .string s)] (by simp) (l0 := []) trivial ?_
  refine FJ.seq ?_
  refine FJ.region ?_
  refine FJ.e (goes_list rfl) rfl (by decide) rfl (e_box (cs := [.slice A0_0 f.inodes.length c0_0, .slice A0_1 f.data.length c0_1]) (n := 2) rfl (.t .z) rfl rfl) ?_
  rintro _ _ ⟨g3, rfl, rfl⟩
  refine FJ.e (goes_list rfl) rfl (by decide) rfl (e_alloc rfl z_35 rfl rfl) ?_
  rintro _ _ ⟨g4, rfl, rfl⟩
  refine FJ.nil ?_
  refine FJ.then_ ?_
  refine FJ.seq ?_
  refine FJ.seq ?_
  refine FJ.region ?_
  refine FJ.q (goes_list rfl) rfl (by decide) rfl (q_move rfl (.t (.s (.s (.s .z))))) ?_
  refine FJ.q (goes_list rfl) rfl (by decide) rfl (q_move rfl (.t (.s (.s (.s (.s (.s .z))))))) ?_
  refine FJ.call (goes_list rfl) rfl (by decide) rfl (c_call rfl Try.func37 rfl rfl (args3 (.t (.s (.s (.s .z)))) (.t (.s .z)) (.t .z))) .n (fun w1 S1 hs tr => c_37 (tr.ptr (.s .z) (kT_30_mk f (tr.ctx h0_0) (tr.ctx h0_1))) _ _ (by first | assumption | omega)) ?_
  rintro _ _ ⟨rfl, rfl⟩
  refine FJ.cat .n ?_
  refine FJ.q (goes_list rfl) rfl (by decide) rfl (q_assign rfl (.t .z)) ?_
  refine FJ.nil ?_
  refine FJ.then_ ?_
  refine FJ.seq ?_
  refine FJ.region ?_
  refine FJ.q (goes_list rfl) rfl (by decide) rfl (q_move rfl (.t .z)) ?_
  refine FJ.q (goes_list rfl) rfl (by decide) rfl (q_neq rfl (.t .z) .c) ?_
  refine FJ.nil ?_
  refine FJ.then_ ?_
  refine FJ.condN (.t .z) (fun b5 => ?_) (fun b5 => ?_)
  · -- b5: True
    refine FJ.seq ?_
    refine FJ.region ?_
    refine FJ.q (goes_list rfl) rfl (by decide) rfl (q_move rfl (.t (.s (.s .z)))) ?_
    refine FJ.q (goes_list rfl) rfl (by decide) rfl (q_build (ps := [(0, .int .i64 (nameCode f a s))]) (cs := [.int .i64 (nameCode f a s), .int .i64 0]) rfl bl_35 (by intro act hact; simp only [List.map_toArray, List.map_cons, List.map_nil, (show Val _ _ _ from (.t .z)) act hact]) rfl) ?_
    refine FJ.es (goes_list rfl) rfl (es_store (off := 0) (cs := [.int .i64 (nameCode f a s), .int .i64 0]) rfl sz_35 (.t (.s (.s (.s (.s (.s (.s (.s (.s .z))))))))) (.t .z) rfl (ones rfl) .z (Nat.le_of_ble_eq_true rfl) (.c .z (.c (.s .z) .n))) ?_
    refine FJ.nil ?_
    refine FJ.then_ ?_
    refine FJ.ret ?_
    refine FJ.thenR ?_
    refine FJ.doneS (resC (cs := [.int .i64 (nameCode f a s), .int .i64 0]) rfl (.s (.s (.s (.s (.s (.s (.s (.s .z)))))))) ag_35 sz_35 (WS.rows0 (cs := [.int .i64 (nameCode f a s), .int .i64 0]) .z (fun _ _ h => h))) .n ?_
    first | (rw [lookR_f (by assumption)]; exact ⟨rfl, rfl⟩) | (rw [lookR_4 (by assumption) (by assumption)]; exact ⟨rfl, rfl⟩) | (rw [lookR_0 (by assumption) (by assumption)]; exact ⟨rfl, rfl⟩)
  · -- b5: False
    have hnd6 := nameOk b5
    have hdd6 := dirOk hnd6
    have hId6 := treeI hdd6.1
    obtain ⟨had6, hzd6⟩ := hdd6.2.1
    refine FJ.skip ?_
    refine FJ.then_ ?_
    refine FJ.seq ?_
    refine FJ.region ?_
    refine FJ.q (goes_list rfl) rfl (by decide) rfl (q_fieldAddr rfl (.t (.s (.s (.s (.s (.s (.s (.s .z)))))))) (fun _ => fa_30_0 _ _)) ?_
    refine FJ.q (goes_list rfl) rfl (by decide) rfl (q_load rfl ag_28 (.t .z) (WS.row (.s .z) rfl)) ?_
    refine FJ.q (goes_list rfl) rfl (by decide) rfl (q_move rfl (.t (.s (.s (.s (.s (.s (.s (.s (.s (.s (.s (.s .z))))))))))))) ?_
    obtain ⟨ad7, hAad7, hrad7⟩ := he0_0 (by omega)
    subst hAad7
    obtain ⟨x8, hx8⟩ := get_ex (xs := f.inodes) (j := Int.toNat a) (by omega)
    obtain ⟨ece9, hre9, hFe9, hce9⟩ := hrad7.elem hx8
    obtain ⟨ue9_3, ue9_4, rfl, he9_3, he9_4⟩ := kT_60_ro hre9
    obtain ⟨Ae9_3, ce9_3, rfl, hle9_3, hme9_3, hbe9_3, hee9_3⟩ := ro_form he9_3
    obtain ⟨Ae9_4, ce9_4, rfl, hle9_4, hme9_4, hbe9_4, hee9_4⟩ := ro_form he9_4
    have kx8 := kind_at (i := a) hx8 (by omega)
    have nx8 := ents_at (a := a) hx8 (by omega)
    have iox8 := inodes_all hId6 _ (List.mem_of_getElem? hx8)
    refine FJ.q (goes_list rfl) rfl (by decide) rfl (q_indexAddr (j := Int.toNat a) rfl u_28 sz_60 (.t (.s .z)) (.t .z) (by omega) (by omega)) ?_
    refine FJ.q (goes_list rfl) rfl (by decide) rfl (q_fieldAddr rfl (.t .z) (fun _ => fa_60_4 _ _)) ?_
    refine FJ.q (goes_list rfl) rfl (by decide) rfl (q_load rfl ag_58 (.t .z) (WS.el hFe9 hce9 rfl)) ?_
    refine FJ.q (goes_list rfl) rfl (by decide) rfl (q_move rfl (.t (.s (.s (.s (.s (.s (.s (.s (.s (.s (.s (.s (.s (.s (.s (.s (.s .z)))))))))))))))))) ?_
    refine FJ.call (goes_list rfl) rfl (by decide) rfl (c_call rfl Try.func38 rfl rfl (args2 (.t (.s .z)) (.t .z))) .n (fun w1 S1 hs tr => c_38 (tr.ctx he9_4) _ (by first | assumption | omega)) ?_
    rintro _ _ ⟨rfl, rfl⟩
    refine FJ.cat .n ?_
    refine FJ.q (goes_list rfl) rfl (by decide) rfl (q_assign rfl (.t .z)) ?_
    refine FJ.nil ?_
    refine FJ.then_ ?_
    refine FJ.seq ?_
    refine FJ.seq ?_
    refine FJ.region ?_
    refine FJ.q (goes_list rfl) rfl (by decide) rfl (q_move rfl (.t .z)) ?_
    refine FJ.q (goes_list rfl) rfl (by decide) rfl (q_lss rfl (.t .z) .c) ?_
    refine FJ.nil ?_
    refine FJ.then_ ?_
    refine FJ.condP (.t .z) (fun b12 => ?_) (fun b12 => ?_)
    · -- b12: True
      refine FJ.seq ?_
      refine FJ.region ?_
      refine FJ.q (goes_list rfl) rfl (by decide) rfl (q_build (ps := [(0, .int .i64 4)]) (cs := [.int .i64 4, .int .i64 0]) rfl bl_35 (by intro act hact; simp only [List.map_toArray, List.map_cons, List.map_nil, (show Val _ _ _ from .c) act hact]) rfl) ?_
      refine FJ.es (goes_list rfl) rfl (es_store (off := 0) (cs := [.int .i64 4, .int .i64 0]) rfl sz_35 (.t (.s (.s (.s (.s (.s (.s (.s (.s (.s (.s (.s (.s (.s (.s (.s (.s (.s (.s .z))))))))))))))))))) (.t .z) rfl (ones rfl) .z (Nat.le_of_ble_eq_true rfl) (.c .z (.c (.s .z) .n))) ?_
      refine FJ.nil ?_
      refine FJ.then_ ?_
      refine FJ.ret ?_
      refine FJ.thenR ?_
      refine FJ.doneS (resC (cs := [.int .i64 4, .int .i64 0]) rfl (.s (.s (.s (.s (.s (.s (.s (.s (.s (.s (.s (.s (.s (.s (.s (.s (.s (.s .z)))))))))))))))))) ag_35 sz_35 (WS.rows0 (cs := [.int .i64 4, .int .i64 0]) .z (fun _ _ h => h))) .n ?_
      first | (rw [lookR_f (by assumption)]; exact ⟨rfl, rfl⟩) | (rw [lookR_4 (by assumption) (by assumption)]; exact ⟨rfl, rfl⟩) | (rw [lookR_0 (by assumption) (by assumption)]; exact ⟨rfl, rfl⟩) | (rw [lookR_4 (by assumption) (by rw [nx8, look_none (by assumption)]; decide)]; exact ⟨rfl, rfl⟩)
    · -- b12: False
      have hrb12 := idxF_rng (nameP s) x8.ents
      refine FJ.skip ?_
      refine FJ.then_ ?_
      refine FJ.seq ?_
      refine FJ.region ?_
      refine FJ.q (goes_list rfl) rfl (by decide) rfl (q_fieldAddr rfl (.t (.s (.s (.s (.s (.s (.s (.s (.s (.s (.s (.s (.s (.s (.s (.s (.s (.s (.s .z))))))))))))))))))) (fun _ => fa_30_0 _ _)) ?_
      refine FJ.q (goes_list rfl) rfl (by decide) rfl (q_load rfl ag_28 (.t .z) (WS.row (.s .z) rfl)) ?_
      refine FJ.q (goes_list rfl) rfl (by decide) rfl (q_move rfl (.t (.s (.s (.s (.s (.s (.s (.s (.s (.s (.s (.s (.s (.s (.s (.s (.s (.s (.s (.s (.s (.s (.s .z)))))))))))))))))))))))) ?_
      refine FJ.q (goes_list rfl) rfl (by decide) rfl (q_indexAddr (j := Int.toNat a) rfl u_28 sz_60 (.t (.s .z)) (.t .z) (by omega) (by omega)) ?_
      refine FJ.q (goes_list rfl) rfl (by decide) rfl (q_fieldAddr rfl (.t .z) (fun _ => fa_60_4 _ _)) ?_
      refine FJ.q (goes_list rfl) rfl (by decide) rfl (q_load rfl ag_58 (.t .z) (WS.el hFe9 hce9 rfl)) ?_
      refine FJ.q (goes_list rfl) rfl (by decide) rfl (q_move rfl (.t (.s (.s (.s (.s (.s (.s (.s (.s .z)))))))))) ?_
      obtain ⟨ad13, hAad13, hrad13⟩ := hee9_4 (by omega)
      subst hAad13
      obtain ⟨x14, hx14⟩ := get_ex (xs := x8.ents) (j := Int.toNat (idxF (nameP s) x8.ents)) (by omega)
      obtain ⟨ece15, hre15, hFe15, hce15⟩ := hrad13.elem hx14
      obtain ⟨rfl, se15_0⟩ := kT_69_ro hre15
      have pox14 := ents_ok iox8 _ _ hx14
      refine FJ.q (goes_list rfl) rfl (by decide) rfl (q_indexAddr (j := Int.toNat (idxF (nameP s) x8.ents)) rfl u_58 sz_69 (.t (.s .z)) (.t .z) (by omega) (by omega)) ?_
      refine FJ.q (goes_list rfl) rfl (by decide) rfl (q_fieldAddr rfl (.t .z) (fun _ => fa_69_1 _ _)) ?_
      refine FJ.q (goes_list rfl) rfl (by decide) rfl (q_load rfl ag_2 (.t .z) (WS.el hFe15 hce15 rfl)) ?_
      refine FJ.q (goes_list rfl) rfl (by decide) rfl (q_build (ps := [(1, .int .i64 x14.ino)]) (cs := [.int .i64 0, .int .i64 x14.ino]) rfl bl_35 (by intro act hact; simp only [List.map_toArray, List.map_cons, List.map_nil, (show Val _ _ _ from (.t .z)) act hact]) rfl) ?_
      refine FJ.es (goes_list rfl) rfl (es_store (off := 0) (cs := [.int .i64 0, .int .i64 x14.ino]) rfl sz_35 (.t (.s (.s (.s (.s (.s (.s (.s (.s (.s (.s (.s (.s (.s (.s (.s (.s (.s (.s (.s (.s (.s (.s (.s (.s (.s (.s (.s (.s .z))))))))))))))))))))))))))))) (.t .z) rfl (ones rfl) .z (Nat.le_of_ble_eq_true rfl) (.c .z (.c (.s .z) .n))) ?_
      refine FJ.nil ?_
      refine FJ.then_ ?_
      refine FJ.ret ?_
      refine FJ.doneS (resC (cs := [.int .i64 0, .int .i64 x14.ino]) rfl (.s (.s (.s (.s (.s (.s (.s (.s (.s (.s (.s (.s (.s (.s (.s (.s (.s (.s (.s (.s (.s (.s (.s (.s (.s (.s (.s (.s .z)))))))))))))))))))))))))))) ag_35 sz_35 (WS.rows0 (cs := [.int .i64 0, .int .i64 x14.ino]) .z (fun _ _ h => h))) .n ?_
      first | (rw [lookR_f (by assumption)]; exact ⟨rfl, rfl⟩) | (rw [lookR_4 (by assumption) (by assumption)]; exact ⟨rfl, rfl⟩) | (rw [lookR_0 (by assumption) (by assumption)]; exact ⟨rfl, rfl⟩) | (rw [lookR_4 (by assumption) (by rw [nx8, look_none (by assumption)]; decide)]; exact ⟨rfl, rfl⟩) | (have hq := look_at (by assumption) hx14; rw [lookR_0 (by assumption) (by rw [nx8, hq]; omega), nx8, hq]; exact ⟨rfl, rfl⟩)

set_option maxHeartbeats 1000000 in
set_option maxRecDepth 20000 in
theorem c_11 {w0 : World} {S0 : Bs} {f : DFs} {cs0 : List Value} (h0 : kT_30.ro w0 (FF w0 S0) f cs0) (a : Int)  :
    Calls Try.prog 11 #[.agg cs0.toArray, .int .i64 a] w0 (TriPost w0 S0 (fun r l => r = .bool (decide (emptyDir f a)) ∧ l = [])) := by
  obtain ⟨u0_0, u0_1, rfl, h0_0, h0_1⟩ := kT_30_ro h0
  obtain ⟨A0_0, c0_0, rfl, hl0_0, hm0_0, hb0_0, he0_0⟩ := ro_form h0_0
  obtain ⟨A0_1, c0_1, rfl, hl0_1, hm0_1, hb0_1, he0_1⟩ := ro_form h0_1
  refine FJ.enter (N := 19) Try.func11 rfl rfl (by simp) [(0, .agg #[.slice A0_0 f.inodes.length c0_0, .slice A0_1 f.data.length c0_1]), (1, .int .i64 a)] (by simp) (l0 := []) trivial ?_
  refine FJ.seq ?_
  refine FJ.region ?_
  refine FJ.e (goes_list rfl) rfl (by decide) rfl (e_box (cs := [.slice A0_0 f.inodes.length c0_0, .slice A0_1 f.data.length c0_1]) (n := 2) rfl (.t .z) rfl rfl) ?_
  rintro _ _ ⟨g3, rfl, rfl⟩
  refine FJ.q (goes_list rfl) rfl (by decide) rfl (q_assign rfl .c) ?_
  refine FJ.nil ?_
  refine FJ.then_ ?_
  refine FJ.seq ?_
  refine FJ.region ?_
  refine FJ.q (goes_list rfl) rfl (by decide) rfl (q_loadA (cs := [.slice A0_0 f.inodes.length c0_0, .slice A0_1 f.data.length c0_1]) rfl ag_30 sz_30 (.t (.s .z)) (WS.rows0 .z (fun i u h => by exact h))) ?_
  refine FJ.q (goes_list rfl) rfl (by decide) rfl (q_move rfl (.t (.s (.s (.s (.s .z)))))) ?_
  refine FJ.call (goes_list rfl) rfl (by decide) rfl (c_call rfl Try.func34 rfl rfl (args2 (.t (.s .z)) (.t .z))) .n (fun w1 S1 hs tr => c_34 (kT_30_mk f (tr.ctx h0_0) (tr.ctx h0_1)) _) ?_
  rintro _ _ ⟨rfl, rfl⟩
  refine FJ.cat .n ?_
  refine FJ.q (goes_list rfl) rfl (by decide) rfl (q_eql rfl (.t .z) .c) ?_
  refine FJ.q (goes_list rfl) rfl (by decide) rfl (q_move rfl (.t .z)) ?_
  refine FJ.caseP .z (fun g4 => ?_) (fun g4 => ?_)
  · -- g4: True
    have hdd5 := dirOk g4
    have hId5 := treeI hdd5.1
    obtain ⟨had5, hzd5⟩ := hdd5.2.1
    refine FJ.q (goes_listg rfl rfl .z) rfl (by decide) rfl (q_fieldAddr rfl (.t (.s (.s (.s (.s (.s (.s .z))))))) (fun _ => fa_30_0 _ _)) ?_
    refine FJ.q (goes_listg rfl rfl (.s .z)) rfl (by decide) rfl (q_load rfl ag_28 (.t .z) (WS.row .z rfl)) ?_
    refine FJ.q (goes_listg rfl rfl (.s (.s .z))) rfl (by decide) rfl (q_move rfl (.t (.s (.s (.s (.s (.s (.s (.s (.s (.s (.s .z)))))))))))) ?_
    obtain ⟨ad6, hAad6, hrad6⟩ := he0_0 (by omega)
    subst hAad6
    obtain ⟨x7, hx7⟩ := get_ex (xs := f.inodes) (j := Int.toNat a) (by omega)
    obtain ⟨ece8, hre8, hFe8, hce8⟩ := hrad6.elem hx7
    obtain ⟨ue8_3, ue8_4, rfl, he8_3, he8_4⟩ := kT_60_ro hre8
    obtain ⟨Ae8_3, ce8_3, rfl, hle8_3, hme8_3, hbe8_3, hee8_3⟩ := ro_form he8_3
    obtain ⟨Ae8_4, ce8_4, rfl, hle8_4, hme8_4, hbe8_4, hee8_4⟩ := ro_form he8_4
    have kx7 := kind_at (i := a) hx7 (by omega)
    have nx7 := ents_at (a := a) hx7 (by omega)
    have iox7 := inodes_all hId5 _ (List.mem_of_getElem? hx7)
    refine FJ.q (goes_listg rfl rfl (.s (.s (.s .z)))) rfl (by decide) rfl (q_indexAddr (j := Int.toNat a) rfl u_28 sz_60 (.t (.s .z)) (.t .z) (by omega) (by omega)) ?_
    refine FJ.q (goes_listg rfl rfl (.s (.s (.s (.s .z))))) rfl (by decide) rfl (q_fieldAddr rfl (.t .z) (fun _ => fa_60_4 _ _)) ?_
    refine FJ.q (goes_listg rfl rfl (.s (.s (.s (.s (.s .z)))))) rfl (by decide) rfl (q_load rfl ag_58 (.t .z) (WS.el hFe8 hce8 rfl)) ?_
    refine FJ.q (goes_listg rfl rfl (.s (.s (.s (.s (.s (.s .z))))))) rfl (by decide) rfl (q_len rfl u_58 (.t .z)) ?_
    refine FJ.q (goes_listg rfl rfl (.s (.s (.s (.s (.s (.s (.s .z)))))))) rfl (by decide) rfl (q_eql rfl (.t .z) .c) ?_
    refine FJ.q (goes_list rfl) rfl (by decide) rfl (q_pickT rfl (.t (.s (.s (.s (.s (.s (.s (.s (.s .z))))))))) (.t .z)) ?_
    refine FJ.er (.s (.s (.s (.s (.s (.s (.s (.s (.s (.s (.s (.s (.s (.s .z)))))))))))))) ?_
    refine FJ.q (goes_list rfl) rfl (by decide) rfl (q_assign rfl (.t .z)) ?_
    refine FJ.nil ?_
    refine FJ.then_ ?_
    refine FJ.ret ?_
    refine FJ.doneS (res1 rfl .z) .n ?_
    exact ⟨by first | (rw [decide_eq_false (fun hh => absurd hh.1 (by assumption))]; done) | (exact congrArg Value.bool (decide_eq_decide.2 ⟨fun hh => ⟨by assumption, by rw [nx7]; omega⟩, fun hh => by have h2 := hh.2; rw [nx7] at h2; omega⟩)), rfl⟩
  · -- g4: False
    refine FJ.skipl rfl rfl .z rfl rfl (by decide) rfl ?_
    refine FJ.skipl rfl rfl (.s .z) rfl rfl (by decide) rfl ?_
    refine FJ.skipl rfl rfl (.s (.s .z)) rfl rfl (by decide) rfl ?_
    refine FJ.skipl rfl rfl (.s (.s (.s .z))) rfl rfl (by decide) rfl ?_
    refine FJ.skipl rfl rfl (.s (.s (.s (.s .z)))) rfl rfl (by decide) rfl ?_
    refine FJ.skipl rfl rfl (.s (.s (.s (.s (.s .z))))) rfl rfl (by decide) rfl ?_
    refine FJ.skipl rfl rfl (.s (.s (.s (.s (.s (.s .z)))))) rfl rfl (by decide) rfl ?_
    refine FJ.skipl rfl rfl (.s (.s (.s (.s (.s (.s (.s .z))))))) rfl rfl (by decide) rfl ?_
    refine FJ.q (goes_list rfl) rfl (by decide) rfl (q_pickF rfl (.t (.s (.s (.s (.s (.s (.s (.s (.s .z))))))))) .c) ?_
    refine FJ.er (.s (.s (.s (.s (.s (.s (.s (.s (.s (.s (.s (.s (.s (.s .z)))))))))))))) ?_
    refine FJ.q (goes_list rfl) rfl (by decide) rfl (q_assign rfl (.t .z)) ?_
    refine FJ.nil ?_
    refine FJ.then_ ?_
    refine FJ.ret ?_
    refine FJ.doneS (res1 rfl .z) .n ?_
    exact ⟨by first | (rw [decide_eq_false (fun hh => absurd hh.1 (by assumption))]; done), rfl⟩

set_option maxHeartbeats 1000000 in
set_option maxRecDepth 20000 in
theorem c_9 {w0 : World} {S0 : Bs} {f : DFs} {cs0 : List Value} (h0 : kT_30.ro w0 (FF w0 S0) f cs0) (a : Int)  :
    Calls Try.prog 9 #[.agg cs0.toArray, .int .i64 a] w0 (TriPost w0 S0 (fun r l => r = .bool (decide (emptyDir f a)) ∧ l = [])) := by
  obtain ⟨u0_0, u0_1, rfl, h0_0, h0_1⟩ := kT_30_ro h0
  obtain ⟨A0_0, c0_0, rfl, hl0_0, hm0_0, hb0_0, he0_0⟩ := ro_form h0_0
  obtain ⟨A0_1, c0_1, rfl, hl0_1, hm0_1, hb0_1, he0_1⟩ := ro_form h0_1
  refine FJ.enter (N := 18) Try.func9 rfl rfl (by simp) [(0, .agg #[.slice A0_0 f.inodes.length c0_0, .slice A0_1 f.data.length c0_1]), (1, .int .i64 a)] (by simp) (l0 := []) trivial ?_
  refine FJ.seq ?_
  refine FJ.region ?_
  refine FJ.e (goes_list rfl) rfl (by decide) rfl (e_box (cs := [.slice A0_0 f.inodes.length c0_0, .slice A0_1 f.data.length c0_1]) (n := 2) rfl (.t .z) rfl rfl) ?_
  rintro _ _ ⟨g3, rfl, rfl⟩
  refine FJ.q (goes_list rfl) rfl (by decide) rfl (q_assign rfl .c) ?_
  refine FJ.nil ?_
  refine FJ.then_ ?_
  refine FJ.seq ?_
  refine FJ.region ?_
  refine FJ.q (goes_list rfl) rfl (by decide) rfl (q_move rfl (.t (.s (.s (.s .z))))) ?_
  refine FJ.call (goes_list rfl) rfl (by decide) rfl (c_call rfl Try.func31 rfl rfl (args2 (.t (.s (.s .z))) (.t .z))) .n (fun w1 S1 hs tr => c_31 (tr.ptr .z (kT_30_mk f (tr.ctx h0_0) (tr.ctx h0_1))) _) ?_
  rintro _ _ ⟨rfl, rfl⟩
  refine FJ.cat .n ?_
  refine FJ.q (goes_list rfl) rfl (by decide) rfl (q_eql rfl (.t .z) .c) ?_
  refine FJ.q (goes_list rfl) rfl (by decide) rfl (q_move rfl (.t .z)) ?_
  refine FJ.caseP .z (fun g4 => ?_) (fun g4 => ?_)
  · -- g4: True
    have hdd5 := dirOk g4
    have hId5 := treeI hdd5.1
    obtain ⟨had5, hzd5⟩ := hdd5.2.1
    refine FJ.q (goes_listg rfl rfl .z) rfl (by decide) rfl (q_fieldAddr rfl (.t (.s (.s (.s (.s (.s .z)))))) (fun _ => fa_30_0 _ _)) ?_
    refine FJ.q (goes_listg rfl rfl (.s .z)) rfl (by decide) rfl (q_load rfl ag_28 (.t .z) (WS.row .z rfl)) ?_
    refine FJ.q (goes_listg rfl rfl (.s (.s .z))) rfl (by decide) rfl (q_move rfl (.t (.s (.s (.s (.s (.s (.s (.s (.s (.s .z))))))))))) ?_
    obtain ⟨ad6, hAad6, hrad6⟩ := he0_0 (by omega)
    subst hAad6
    obtain ⟨x7, hx7⟩ := get_ex (xs := f.inodes) (j := Int.toNat a) (by omega)
    obtain ⟨ece8, hre8, hFe8, hce8⟩ := hrad6.elem hx7
    obtain ⟨ue8_3, ue8_4, rfl, he8_3, he8_4⟩ := kT_60_ro hre8
    obtain ⟨Ae8_3, ce8_3, rfl, hle8_3, hme8_3, hbe8_3, hee8_3⟩ := ro_form he8_3
    obtain ⟨Ae8_4, ce8_4, rfl, hle8_4, hme8_4, hbe8_4, hee8_4⟩ := ro_form he8_4
    have kx7 := kind_at (i := a) hx7 (by omega)
    have nx7 := ents_at (a := a) hx7 (by omega)
    have iox7 := inodes_all hId5 _ (List.mem_of_getElem? hx7)
    refine FJ.q (goes_listg rfl rfl (.s (.s (.s .z)))) rfl (by decide) rfl (q_indexAddr (j := Int.toNat a) rfl u_28 sz_60 (.t (.s .z)) (.t .z) (by omega) (by omega)) ?_
    refine FJ.q (goes_listg rfl rfl (.s (.s (.s (.s .z))))) rfl (by decide) rfl (q_fieldAddr rfl (.t .z) (fun _ => fa_60_4 _ _)) ?_
    refine FJ.q (goes_listg rfl rfl (.s (.s (.s (.s (.s .z)))))) rfl (by decide) rfl (q_load rfl ag_58 (.t .z) (WS.el hFe8 hce8 rfl)) ?_
    refine FJ.q (goes_listg rfl rfl (.s (.s (.s (.s (.s (.s .z))))))) rfl (by decide) rfl (q_len rfl u_58 (.t .z)) ?_
    refine FJ.q (goes_listg rfl rfl (.s (.s (.s (.s (.s (.s (.s .z)))))))) rfl (by decide) rfl (q_eql rfl (.t .z) .c) ?_
    refine FJ.q (goes_list rfl) rfl (by decide) rfl (q_pickT rfl (.t (.s (.s (.s (.s (.s (.s (.s (.s .z))))))))) (.t .z)) ?_
    refine FJ.er (.s (.s (.s (.s (.s (.s (.s (.s (.s (.s (.s (.s (.s .z))))))))))))) ?_
    refine FJ.q (goes_list rfl) rfl (by decide) rfl (q_assign rfl (.t .z)) ?_
    refine FJ.nil ?_
    refine FJ.then_ ?_
    refine FJ.ret ?_
    refine FJ.doneS (res1 rfl .z) .n ?_
    exact ⟨by first | (rw [decide_eq_false (fun hh => absurd hh.1 (by assumption))]; done) | (exact congrArg Value.bool (decide_eq_decide.2 ⟨fun hh => ⟨by assumption, by rw [nx7]; omega⟩, fun hh => by have h2 := hh.2; rw [nx7] at h2; omega⟩)), rfl⟩
  · -- g4: False
    refine FJ.skipl rfl rfl .z rfl rfl (by decide) rfl ?_
    refine FJ.skipl rfl rfl (.s .z) rfl rfl (by decide) rfl ?_
    refine FJ.skipl rfl rfl (.s (.s .z)) rfl rfl (by decide) rfl ?_
    refine FJ.skipl rfl rfl (.s (.s (.s .z))) rfl rfl (by decide) rfl ?_
    refine FJ.skipl rfl rfl (.s (.s (.s (.s .z)))) rfl rfl (by decide) rfl ?_
    refine FJ.skipl rfl rfl (.s (.s (.s (.s (.s .z))))) rfl rfl (by decide) rfl ?_
    refine FJ.skipl rfl rfl (.s (.s (.s (.s (.s (.s .z)))))) rfl rfl (by decide) rfl ?_
    refine FJ.skipl rfl rfl (.s (.s (.s (.s (.s (.s (.s .z))))))) rfl rfl (by decide) rfl ?_
    refine FJ.q (goes_list rfl) rfl (by decide) rfl (q_pickF rfl (.t (.s (.s (.s (.s (.s (.s (.s (.s .z))))))))) .c) ?_
    refine FJ.er (.s (.s (.s (.s (.s (.s (.s (.s (.s (.s (.s (.s (.s .z))))))))))))) ?_
    refine FJ.q (goes_list rfl) rfl (by decide) rfl (q_assign rfl (.t .z)) ?_
    refine FJ.nil ?_
    refine FJ.then_ ?_
    refine FJ.ret ?_
    refine FJ.doneS (res1 rfl .z) .n ?_
    exact ⟨by first | (rw [decide_eq_false (fun hh => absurd hh.1 (by assumption))]; done), rfl⟩

set_option maxHeartbeats 1000000 in
set_option maxRecDepth 20000 in
theorem c_50 {w0 : World} {S0 : Bs} {f : DFs} {ad0 : Addr} (h0 : PtrRo kT_30 w0 (FF w0 S0) ad0 f) (a : Int) (hp : placeIn f.inodes.length a) :
    Calls Try.prog 50 #[.pointer (some ad0), .int .i64 a] w0 (TriPost w0 S0 (fun r l => l = [ownA kSl_9 (namesOf (entsAt f.inodes a)) [r]])) := by
  obtain ⟨ec0, hF0, hr0, hc0⟩ := id h0
  obtain ⟨u0_0, u0_1, rfl, h0_0, h0_1⟩ := kT_30_ro hr0
  obtain ⟨A0_0, c0_0, rfl, hl0_0, hm0_0, hb0_0, he0_0⟩ := ro_form h0_0
  obtain ⟨A0_1, c0_1, rfl, hl0_1, hm0_1, hb0_1, he0_1⟩ := ro_form h0_1
  obtain ⟨hp1, hp2⟩ := hp
  refine FJ.enter (N := 28) Try.func50 rfl rfl (by simp) [(0, .pointer (some ad0)), (1, .int .i64 a)] (by simp) (l0 := []) trivial ?_
  refine FJ.seq ?_
  refine FJ.region ?_
  refine FJ.q (goes_list rfl) rfl (by decide) rfl (q_assign rfl .c) ?_
  refine FJ.nil ?_
  refine FJ.then_ ?_
  refine FJ.seq ?_
  refine FJ.region ?_
  refine FJ.q (goes_list rfl) rfl (by decide) rfl (q_assign rfl .c) ?_
  refine FJ.nil ?_
  refine FJ.then_ ?_
  refine FJ.seq ?_
  refine FJ.seq ?_
  refine FJ.region ?_
  refine FJ.q (goes_list rfl) rfl (by decide) rfl (q_move rfl (.t (.s (.s .z)))) ?_
  refine FJ.q (goes_list rfl) rfl (by decide) rfl (q_nilCheck rfl (.t .z)) ?_
  refine FJ.q (goes_list rfl) rfl (by decide) rfl (q_fieldAddr rfl (.t .z) (fun _ => fa_30_0 _ _)) ?_
  refine FJ.q (goes_list rfl) rfl (by decide) rfl (q_load rfl ag_28 (.t .z) (WS.el hF0 hc0 rfl)) ?_
  refine FJ.q (goes_list rfl) rfl (by decide) rfl (q_move rfl (.t (.s (.s (.s (.s (.s (.s (.s .z))))))))) ?_
  obtain ⟨ad3, hAad3, hrad3⟩ := he0_0 (by omega)
  subst hAad3
  obtain ⟨x4, hx4⟩ := get_ex (xs := f.inodes) (j := Int.toNat a) (by omega)
  obtain ⟨ece5, hre5, hFe5, hce5⟩ := hrad3.elem hx4
  obtain ⟨ue5_3, ue5_4, rfl, he5_3, he5_4⟩ := kT_60_ro hre5
  obtain ⟨Ae5_3, ce5_3, rfl, hle5_3, hme5_3, hbe5_3, hee5_3⟩ := ro_form he5_3
  obtain ⟨Ae5_4, ce5_4, rfl, hle5_4, hme5_4, hbe5_4, hee5_4⟩ := ro_form he5_4
  have kx4 := kind_at (i := a) hx4 (by omega)
  have nx4 := ents_at (a := a) hx4 (by omega)
  refine FJ.q (goes_list rfl) rfl (by decide) rfl (q_indexAddr (j := Int.toNat a) rfl u_28 sz_60 (.t (.s .z)) (.t .z) (by omega) (by omega)) ?_
  refine FJ.q (goes_list rfl) rfl (by decide) rfl (q_fieldAddr rfl (.t .z) (fun _ => fa_60_4 _ _)) ?_
  refine FJ.q (goes_list rfl) rfl (by decide) rfl (q_load rfl ag_58 (.t .z) (WS.el hFe5 hce5 rfl)) ?_
  refine FJ.q (goes_list rfl) rfl (by decide) rfl (q_len rfl u_58 (.t .z)) ?_
  refine FJ.q (goes_list rfl) rfl (by decide) rfl (q_move rfl .c) ?_
  refine FJ.nil ?_
  refine FJ.then_ ?_
  refine FJ.block ?_
  refine FJ.add (c := ownA kSl_9 [] [.slice none 0 0]) (fun w S => own_nil w S none) ?_
  refine FJ.loopi (γ := Nat × (Option Addr) × Nat) (fun ⟨k, Agk0, cgk0⟩ => [(17, .int .i64 (k : Int)), (16, .int .i64 (x4.ents.length : Int)), (15, .slice Ae5_4 x4.ents.length ce5_4), (5, .slice Agk0 (namesTo x4.ents k).length cgk0), (4, .slice none 0 0)]) (fun ⟨k, Agk0, cgk0⟩ => [ownA kSl_9 (namesTo x4.ents k) [.slice Agk0 (namesTo x4.ents k).length cgk0]]) (fun ⟨k, Agk0, cgk0⟩ => k ≤ x4.ents.length) (fun ⟨k, Agk0, cgk0⟩ => x4.ents.length - k) (0, none, 0) (Nat.zero_le _) (.c .z (.c (.s .z) (.c (.s (.s .z)) (.c (.s (.s (.s (.s (.s (.s (.s (.s (.s (.s .z)))))))))) (.c (.s (.s (.s (.s (.s (.s (.s (.s (.s (.s (.s .z))))))))))) .n))))) (fun _ h => h.sel (.c .z .n)) ?_
  rintro ⟨k, Agk0, cgk0⟩ hk
  have hnl := namesTo_len (es := x4.ents) (k := k)
  refine FJ.seq ?_
  refine FJ.region ?_
  refine FJ.q (goes_list rfl) rfl (by decide) rfl (q_lss rfl (.t .z) (.t (.s .z))) ?_
  refine FJ.nil ?_
  refine FJ.then_ ?_
  refine FJ.seq ?_
  refine FJ.condP (.t .z) (fun b9 => ?_) (fun b9 => ?_)
  · -- b9: True
    refine FJ.skip ?_
    refine FJ.then_ ?_
    refine FJ.seq ?_
    refine FJ.block ?_
    refine FJ.seq ?_
    refine FJ.region ?_
    obtain ⟨ad10, hAad10, hrad10⟩ := hee5_4 (by omega)
    subst hAad10
    obtain ⟨x11, hx11⟩ := get_ex (xs := x4.ents) (j := k) (by omega)
    obtain ⟨ece12, hre12, hFe12, hce12⟩ := hrad10.elem hx11
    obtain ⟨rfl, se12_0⟩ := kT_69_ro hre12
    refine FJ.q (goes_list rfl) rfl (by decide) rfl (q_indexAddr (j := k) rfl u_58 sz_69 (.t (.s (.s (.s .z)))) (.t (.s .z)) rfl (by omega)) ?_
    refine FJ.q (goes_list rfl) rfl (by decide) rfl (q_loadA (cs := [.string x11.name, .int .i64 x11.ino]) rfl ag_69 sz_69 (.t .z) (WS.els hFe12 hce12)) ?_
    refine FJ.e (goes_list rfl) rfl (by decide) rfl (e_alloc rfl z_69 rfl rfl) ?_
    rintro _ _ ⟨g13, rfl, rfl⟩
    refine FJ.es (goes_list rfl) rfl (es_store (off := 0) (cs := [.string x11.name, .int .i64 x11.ino]) rfl sz_69 (.t .z) (.t (.s .z)) rfl (ones rfl) .z (Nat.le_of_ble_eq_true rfl) (.c .z (.c (.s .z) .n))) ?_
    refine FJ.nil ?_
    refine FJ.then_ ?_
    refine FJ.region ?_
    refine FJ.q (goes_list rfl) rfl (by decide) rfl (q_move rfl (.t (.s (.s (.s (.s (.s (.s (.s .z))))))))) ?_
    refine FJ.q (goes_list rfl) rfl (by decide) rfl (q_fieldAddr rfl (.t (.s .z)) (fun _ => fa_69_0 _ _)) ?_
    refine FJ.q (goes_list rfl) rfl (by decide) rfl (q_load rfl ag_9 (.t .z) (WS.row .z rfl)) ?_
    refine FJ.e (goes_list rfl) rfl (by decide) rfl (e_buildSliceL (ps := [(0, .string x11.name)]) (cs := [.string x11.name]) rfl u_47 (inz inf_9) (by decide) (by intro act hact; simp only [List.map_toArray, List.map_cons, List.map_nil, (show Val _ _ _ from (.t .z)) act hact]) rfl rfl (by decide) rfl rfl) ?_
    rintro _ _ ⟨g14, rfl, rfl⟩
    refine FJ.add (c := ownA kstr x11.name [.string x11.name]) (fun _ _ => ⟨rfl, by assumption⟩) ?_
    refine FJ.e (goes_list rfl) rfl (by decide) rfl (e_append1 rfl u_47 inf_9 rfl (.t (.s (.s (.s .z)))) (.t .z) (.c (.s (.s (.s .z))) (.c (.s .z) (.c .z .n))) (by first | omega | (simp only [List.length_append, List.length_take, List.length_nil, List.length_cons]; omega)) (by first | omega | (simp only [List.length_append, List.length_take, List.length_nil, List.length_cons]; omega))) ?_
    rintro _ _ rfl
    refine FJ.ceq .z (namesTo_s hx11) ?_
    refine FJ.know (WS.oform .z) ?_
    rintro ⟨Ao16, co16, rfl, hlo16, hmo16, hbo16⟩
    refine FJ.er (.s (.s (.s (.s (.s (.s (.s (.s (.s (.s (.s (.s .z)))))))))))) ?_
    refine FJ.q (goes_list rfl) rfl (by decide) rfl (q_assign rfl (.t .z)) ?_
    refine FJ.nil ?_
    refine FJ.inBN ?_
    refine FJ.then_ ?_
    refine FJ.region ?_
    refine FJ.q (goes_list rfl) rfl (by decide) rfl (q_add (c := ((k + 1 : Nat) : Int)) rfl (.t (.s (.s (.s (.s (.s (.s (.s (.s (.s (.s .z))))))))))) .c (wr (by omega) (by omega) (by omega))) ?_
    refine FJ.er (.s (.s (.s (.s (.s (.s (.s (.s (.s (.s (.s .z))))))))))) ?_
    refine FJ.q (goes_list rfl) rfl (by decide) rfl (q_move rfl (.t .z)) ?_
    refine FJ.nil ?_
    refine FJ.again ((k + 1), Ao16, co16) (by omega) (by first | omega | (dsimp only; omega)) (.c .z (.c (.s (.s (.s (.s (.s (.s (.s (.s (.s (.s (.s (.s .z)))))))))))) (.c (.s (.s (.s (.s (.s (.s (.s (.s (.s (.s (.s (.s (.s .z))))))))))))) (.c (.s (.s .z)) (.c (.s (.s (.s (.s (.s (.s (.s (.s (.s (.s (.s (.s (.s (.s .z)))))))))))))) .n))))) (fun _ h => h.sel (.c .z .n))
  · -- b9: False
    refine FJ.exit ?_
    refine FJ.thenE ?_
    refine FJ.thenE ?_
    refine FJ.inB ?_
    refine FJ.then_ ?_
    refine FJ.seq ?_
    refine FJ.region ?_
    refine FJ.q (goes_list rfl) rfl (by decide) rfl (q_move rfl (.t (.s (.s (.s (.s .z)))))) ?_
    refine FJ.er (.s (.s (.s (.s (.s (.s .z)))))) ?_
    refine FJ.q (goes_list rfl) rfl (by decide) rfl (q_assign rfl (.t .z)) ?_
    refine FJ.nil ?_
    refine FJ.then_ ?_
    refine FJ.ret ?_
    refine FJ.ceq (x' := namesOf (entsAt f.inodes a)) .z (by rw [nx4]; exact namesTo_all (by omega)) ?_
    refine FJ.doneS (res1 rfl .z) (.c .z .n) ?_
    rfl

set_option maxHeartbeats 1000000 in
set_option maxRecDepth 20000 in
theorem c_23 {w0 : World} {S0 : Bs} {f : DFs} {cs0 : List Value} (h0 : kT_30.ro w0 (FF w0 S0) f cs0) (a : Int)  :
    Calls Try.prog 23 #[.agg cs0.toArray, .int .i64 a] w0 (TriPost w0 S0 (RA_49 (namesR f a))) := by
  obtain ⟨u0_0, u0_1, rfl, h0_0, h0_1⟩ := kT_30_ro h0
  obtain ⟨A0_0, c0_0, rfl, hl0_0, hm0_0, hb0_0, he0_0⟩ := ro_form h0_0
  obtain ⟨A0_1, c0_1, rfl, hl0_1, hm0_1, hb0_1, he0_1⟩ := ro_form h0_1
  refine FJ.enter (N := 16) Try.func23 rfl rfl (by simp) [(0, .agg #[.slice A0_0 f.inodes.length c0_0, .slice A0_1 f.data.length c0_1]), (1, .int .i64 a)] (by simp) (l0 := []) trivial ?_
  refine FJ.seq ?_
  refine FJ.region ?_
  refine FJ.e (goes_list rfl) rfl (by decide) rfl (e_box (cs := [.slice A0_0 f.inodes.length c0_0, .slice A0_1 f.data.length c0_1]) (n := 2) rfl (.t .z) rfl rfl) ?_
  rintro _ _ ⟨g3, rfl, rfl⟩
  refine FJ.e (goes_list rfl) rfl (by decide) rfl (e_alloc rfl z_49 rfl rfl) ?_
  rintro _ _ ⟨g4, rfl, rfl⟩
  refine FJ.nil ?_
  refine FJ.then_ ?_
  refine FJ.seq ?_
  refine FJ.seq ?_
  refine FJ.region ?_
  refine FJ.q (goes_list rfl) rfl (by decide) rfl (q_loadA (cs := [.slice A0_0 f.inodes.length c0_0, .slice A0_1 f.data.length c0_1]) rfl ag_30 sz_30 (.t (.s .z)) (WS.rows0 (.s .z) (fun i u h => by exact h))) ?_
  refine FJ.q (goes_list rfl) rfl (by decide) rfl (q_move rfl (.t (.s (.s (.s (.s .z)))))) ?_
  refine FJ.call (goes_list rfl) rfl (by decide) rfl (c_call rfl Try.func34 rfl rfl (args2 (.t (.s .z)) (.t .z))) .n (fun w1 S1 hs tr => c_34 (kT_30_mk f (tr.ctx h0_0) (tr.ctx h0_1)) _) ?_
  rintro _ _ ⟨rfl, rfl⟩
  refine FJ.cat .n ?_
  refine FJ.q (goes_list rfl) rfl (by decide) rfl (q_assign rfl (.t .z)) ?_
  refine FJ.nil ?_
  refine FJ.then_ ?_
  refine FJ.seq ?_
  refine FJ.region ?_
  refine FJ.q (goes_list rfl) rfl (by decide) rfl (q_move rfl (.t .z)) ?_
  refine FJ.q (goes_list rfl) rfl (by decide) rfl (q_neq rfl (.t .z) .c) ?_
  refine FJ.nil ?_
  refine FJ.then_ ?_
  refine FJ.condN (.t .z) (fun b5 => ?_) (fun b5 => ?_)
  · -- b5: True
    refine FJ.seq ?_
    refine FJ.region ?_
    refine FJ.q (goes_list rfl) rfl (by decide) rfl (q_move rfl (.t (.s (.s .z)))) ?_
    refine FJ.q (goes_list rfl) rfl (by decide) rfl (q_build (ps := [(0, .int .i64 (dirCode f a))]) (cs := [.int .i64 (dirCode f a), .slice none 0 0]) rfl bl_49 (by intro act hact; simp only [List.map_toArray, List.map_cons, List.map_nil, (show Val _ _ _ from (.t .z)) act hact]) rfl) ?_
    refine FJ.es (goes_list rfl) rfl (es_store (off := 0) (cs := [.int .i64 (dirCode f a), .slice none 0 0]) rfl sz_49 (.t (.s (.s (.s (.s (.s (.s (.s (.s .z))))))))) (.t .z) rfl (ones rfl) .z (Nat.le_of_ble_eq_true rfl) (.c .z (.c (.s .z) .n))) ?_
    refine FJ.nil ?_
    refine FJ.then_ ?_
    refine FJ.ret ?_
    refine FJ.thenR ?_
    refine FJ.add (c := ownA kSl_9 [] [.slice none 0 0]) (fun w S => own_nil w S none) ?_
    refine FJ.doneS (resC (cs := [.int .i64 (dirCode f a), .slice none 0 0]) rfl (.s (.s (.s (.s (.s (.s (.s (.s .z)))))))) ag_49 sz_49 (WS.rows0 (cs := [.int .i64 (dirCode f a), .slice none 0 0]) (.s .z) (fun _ _ h => h))) (.c .z .n) ?_
    first | (rw [namesR_f (by assumption)]; exact ⟨_, rfl, rfl⟩) | (rw [namesR_0 (by assumption)]; exact ⟨_, rfl, rfl⟩)
  · -- b5: False
    have hdd7 := dirOk b5
    have hId7 := treeI hdd7.1
    obtain ⟨had7, hzd7⟩ := hdd7.2.1
    refine FJ.skip ?_
    refine FJ.then_ ?_
    refine FJ.seq ?_
    refine FJ.region ?_
    refine FJ.q (goes_list rfl) rfl (by decide) rfl (q_move rfl (.t (.s (.s (.s (.s (.s (.s (.s (.s (.s .z))))))))))) ?_
    refine FJ.call (goes_list rfl) rfl (by decide) rfl (c_call rfl Try.func50 rfl rfl (args2 (.t (.s (.s (.s (.s (.s (.s (.s (.s .z))))))))) (.t .z))) .n (fun w1 S1 hs tr => c_50 (tr.ptr (.s .z) (kT_30_mk f (tr.ctx h0_0) (tr.ctx h0_1))) _ (by first | assumption | (constructor <;> omega))) ?_
    rintro _ _ rfl
    refine FJ.cat (.c .n) ?_
    refine FJ.know (WS.oform .z) ?_
    rintro ⟨Ao9, co9, rfl, hlo9, hmo9, hbo9⟩
    refine FJ.q (goes_list rfl) rfl (by decide) rfl (q_build (ps := [(1, .slice Ao9 (namesOf (entsAt (f).inodes a)).length co9)]) (cs := [.int .i64 0, .slice Ao9 (namesOf (entsAt (f).inodes a)).length co9]) rfl bl_49 (by intro act hact; simp only [List.map_toArray, List.map_cons, List.map_nil, (show Val _ _ _ from (.t .z)) act hact]) rfl) ?_
    refine FJ.es (goes_list rfl) rfl (es_store (off := 0) (cs := [.int .i64 0, .slice Ao9 (namesOf (entsAt (f).inodes a)).length co9]) rfl sz_49 (.t (.s (.s (.s (.s (.s (.s (.s (.s (.s .z)))))))))) (.t .z) rfl (ones rfl) (.s .z) (Nat.le_of_ble_eq_true rfl) (.c .z (.c (.s .z) .n))) ?_
    refine FJ.nil ?_
    refine FJ.then_ ?_
    refine FJ.ret ?_
    refine FJ.doneS (resC (cs := [.int .i64 0, .slice Ao9 (namesOf (entsAt (f).inodes a)).length co9]) rfl (.s (.s (.s (.s (.s (.s (.s (.s (.s .z))))))))) ag_49 sz_49 (WS.rows0 (cs := [.int .i64 0, .slice Ao9 (namesOf (entsAt (f).inodes a)).length co9]) .z (fun _ _ h => h))) (.c (.s .z) .n) ?_
    first | (rw [namesR_f (by assumption)]; exact ⟨_, rfl, rfl⟩) | (rw [namesR_0 (by assumption)]; exact ⟨_, rfl, rfl⟩)

set_option maxHeartbeats 1000000 in
set_option maxRecDepth 20000 in
theorem c_22 {w0 : World} {S0 : Bs} {f : DFs} {cs0 : List Value} (h0 : kT_30.ro w0 (FF w0 S0) f cs0) (a : Int)  :
    Calls Try.prog 22 #[.agg cs0.toArray, .int .i64 a] w0 (TriPost w0 S0 (RA_49 (namesR f a))) := by
  obtain ⟨u0_0, u0_1, rfl, h0_0, h0_1⟩ := kT_30_ro h0
  obtain ⟨A0_0, c0_0, rfl, hl0_0, hm0_0, hb0_0, he0_0⟩ := ro_form h0_0
  obtain ⟨A0_1, c0_1, rfl, hl0_1, hm0_1, hb0_1, he0_1⟩ := ro_form h0_1
  refine FJ.enter (N := 42) Try.func22 rfl rfl (by simp) [(0, .agg #[.slice A0_0 f.inodes.length c0_0, .slice A0_1 f.data.length c0_1]), (1, .int .i64 a)] (by simp) (l0 := []) trivial ?_
  refine FJ.seq ?_
  refine FJ.region ?_
  refine FJ.e (goes_list rfl) rfl (by decide) rfl (e_box (cs := [.slice A0_0 f.inodes.length c0_0, .slice A0_1 f.data.length c0_1]) (n := 2) rfl (.t .z) rfl rfl) ?_
  rintro _ _ ⟨g3, rfl, rfl⟩
  refine FJ.e (goes_list rfl) rfl (by decide) rfl (e_alloc rfl z_49 rfl rfl) ?_
  rintro _ _ ⟨g4, rfl, rfl⟩
  refine FJ.nil ?_
  refine FJ.then_ ?_
  refine FJ.seq ?_
  refine FJ.seq ?_
  refine FJ.region ?_
  refine FJ.q (goes_list rfl) rfl (by decide) rfl (q_move rfl (.t (.s (.s (.s .z))))) ?_
  refine FJ.call (goes_list rfl) rfl (by decide) rfl (c_call rfl Try.func31 rfl rfl (args2 (.t (.s (.s .z))) (.t .z))) .n (fun w1 S1 hs tr => c_31 (tr.ptr (.s .z) (kT_30_mk f (tr.ctx h0_0) (tr.ctx h0_1))) _) ?_
  rintro _ _ ⟨rfl, rfl⟩
  refine FJ.cat .n ?_
  refine FJ.q (goes_list rfl) rfl (by decide) rfl (q_assign rfl (.t .z)) ?_
  refine FJ.nil ?_
  refine FJ.then_ ?_
  refine FJ.seq ?_
  refine FJ.region ?_
  refine FJ.q (goes_list rfl) rfl (by decide) rfl (q_move rfl (.t .z)) ?_
  refine FJ.q (goes_list rfl) rfl (by decide) rfl (q_neq rfl (.t .z) .c) ?_
  refine FJ.nil ?_
  refine FJ.then_ ?_
  refine FJ.condN (.t .z) (fun b5 => ?_) (fun b5 => ?_)
  · -- b5: True
    refine FJ.seq ?_
    refine FJ.region ?_
    refine FJ.q (goes_list rfl) rfl (by decide) rfl (q_move rfl (.t (.s (.s .z)))) ?_
    refine FJ.q (goes_list rfl) rfl (by decide) rfl (q_build (ps := [(0, .int .i64 (dirCode f a))]) (cs := [.int .i64 (dirCode f a), .slice none 0 0]) rfl bl_49 (by intro act hact; simp only [List.map_toArray, List.map_cons, List.map_nil, (show Val _ _ _ from (.t .z)) act hact]) rfl) ?_
    refine FJ.es (goes_list rfl) rfl (es_store (off := 0) (cs := [.int .i64 (dirCode f a), .slice none 0 0]) rfl sz_49 (.t (.s (.s (.s (.s (.s (.s (.s .z)))))))) (.t .z) rfl (ones rfl) .z (Nat.le_of_ble_eq_true rfl) (.c .z (.c (.s .z) .n))) ?_
    refine FJ.nil ?_
    refine FJ.then_ ?_
    refine FJ.ret ?_
    refine FJ.thenR ?_
    refine FJ.add (c := ownA kSl_9 [] [.slice none 0 0]) (fun w S => own_nil w S none) ?_
    refine FJ.doneS (resC (cs := [.int .i64 (dirCode f a), .slice none 0 0]) rfl (.s (.s (.s (.s (.s (.s (.s .z))))))) ag_49 sz_49 (WS.rows0 (cs := [.int .i64 (dirCode f a), .slice none 0 0]) (.s .z) (fun _ _ h => h))) (.c .z .n) ?_
    first | (rw [namesR_f (by assumption)]; exact ⟨_, rfl, rfl⟩) | (rw [namesR_0 (by assumption)]; exact ⟨_, rfl, rfl⟩)
  · -- b5: False
    have hdd7 := dirOk b5
    have hId7 := treeI hdd7.1
    obtain ⟨had7, hzd7⟩ := hdd7.2.1
    refine FJ.skip ?_
    refine FJ.then_ ?_
    refine FJ.seq ?_
    refine FJ.region ?_
    refine FJ.q (goes_list rfl) rfl (by decide) rfl (q_build (ps := []) (cs := [.int .i64 0, .slice none 0 0]) rfl bl_49 (by intro act hact; simp only [List.map_toArray, List.map_cons, List.map_nil]) rfl) ?_
    refine FJ.e (goes_list rfl) rfl (by decide) rfl (e_alloc rfl z_49 rfl rfl) ?_
    rintro _ _ ⟨g8, rfl, rfl⟩
    refine FJ.es (goes_list rfl) rfl (es_store (off := 0) (cs := [.int .i64 0, .slice none 0 0]) rfl sz_49 (.t .z) (.t (.s .z)) rfl (ones rfl) .z (Nat.le_of_ble_eq_true rfl) (.c .z (.c (.s .z) .n))) ?_
    refine FJ.nil ?_
    refine FJ.then_ ?_
    refine FJ.seq ?_
    refine FJ.seq ?_
    refine FJ.region ?_
    refine FJ.q (goes_list rfl) rfl (by decide) rfl (q_assign rfl .c) ?_
    refine FJ.nil ?_
    refine FJ.then_ ?_
    refine FJ.block ?_
    refine FJ.add (c := ownA kSl_9 [] [.slice none 0 0]) (fun w S => own_nil w S none) ?_
    obtain ⟨ad10, hAad10, hrad10⟩ := he0_0 (by omega)
    subst hAad10
    obtain ⟨x11, hx11⟩ := get_ex (xs := f.inodes) (j := Int.toNat a) (by omega)
    obtain ⟨ece12, hre12, hFe12, hce12⟩ := hrad10.elem hx11
    obtain ⟨ue12_3, ue12_4, rfl, he12_3, he12_4⟩ := kT_60_ro hre12
    obtain ⟨Ae12_3, ce12_3, rfl, hle12_3, hme12_3, hbe12_3, hee12_3⟩ := ro_form he12_3
    obtain ⟨Ae12_4, ce12_4, rfl, hle12_4, hme12_4, hbe12_4, hee12_4⟩ := ro_form he12_4
    have kx11 := kind_at (i := a) hx11 (by omega)
    have nx11 := ents_at (a := a) hx11 (by omega)
    have iox11 := inodes_all hId7 _ (List.mem_of_getElem? hx11)
    refine FJ.loopi (γ := Nat × (Option Addr) × Nat) (fun ⟨k, Agk0, cgk0⟩ => [(7, .int .i64 (k : Int)), (6, .pointer (some ⟨g8, 0, none⟩)), (4, .pointer (some ⟨g4, 0, none⟩)), (2, .pointer (some ⟨g3, 0, none⟩)), (1, .int .i64 a)]) (fun ⟨k, Agk0, cgk0⟩ => [ownA kSl_9 (namesTo x11.ents k) [.slice Agk0 (namesTo x11.ents k).length cgk0], rowA g8 49 2 1 [.int .i64 0, .slice Agk0 (namesTo x11.ents k).length cgk0], rowA g4 49 2 1 [.int .i64 0, .slice none 0 0], rowA g3 30 2 1 [.slice (some ad10) f.inodes.length c0_0, .slice A0_1 f.data.length c0_1]]) (fun ⟨k, Agk0, cgk0⟩ => k ≤ x11.ents.length) (fun ⟨k, Agk0, cgk0⟩ => x11.ents.length - k) (0, none, 0) (Nat.zero_le _) (.c .z (.c (.s .z) (.c (.s (.s (.s (.s (.s (.s (.s (.s .z)))))))) (.c (.s (.s (.s (.s (.s (.s (.s (.s (.s .z))))))))) (.c (.s (.s (.s (.s (.s (.s (.s (.s (.s (.s (.s .z))))))))))) .n))))) (fun _ h => h.sel (.c .z (.c .z (.c .z (.c .z .n))))) ?_
    rintro ⟨k, Agk0, cgk0⟩ hk
    have hnl := namesTo_len (es := x11.ents) (k := k)
    refine FJ.seq ?_
    refine FJ.seq ?_
    refine FJ.region ?_
    refine FJ.q (goes_list rfl) rfl (by decide) rfl (q_move rfl (.t .z)) ?_
    refine FJ.q (goes_list rfl) rfl (by decide) rfl (q_fieldAddr rfl (.t (.s (.s (.s (.s .z))))) (fun _ => fa_30_0 _ _)) ?_
    refine FJ.q (goes_list rfl) rfl (by decide) rfl (q_load rfl ag_28 (.t .z) (WS.row (.s (.s (.s .z))) rfl)) ?_
    refine FJ.q (goes_list rfl) rfl (by decide) rfl (q_move rfl (.t (.s (.s (.s (.s (.s (.s (.s .z))))))))) ?_
    refine FJ.q (goes_list rfl) rfl (by decide) rfl (q_indexAddr (j := Int.toNat a) rfl u_28 sz_60 (.t (.s .z)) (.t .z) (by omega) (by omega)) ?_
    refine FJ.q (goes_list rfl) rfl (by decide) rfl (q_fieldAddr rfl (.t .z) (fun _ => fa_60_4 _ _)) ?_
    refine FJ.q (goes_list rfl) rfl (by decide) rfl (q_load rfl ag_58 (.t .z) (WS.el hFe12 hce12 rfl)) ?_
    refine FJ.q (goes_list rfl) rfl (by decide) rfl (q_len rfl u_58 (.t .z)) ?_
    refine FJ.q (goes_list rfl) rfl (by decide) rfl (q_lss rfl (.t (.s (.s (.s (.s (.s (.s (.s .z)))))))) (.t .z)) ?_
    refine FJ.nil ?_
    refine FJ.then_ ?_
    refine FJ.condP (.t .z) (fun b15 => ?_) (fun b15 => ?_)
    · -- b15: True
      refine FJ.skip ?_
      refine FJ.then_ ?_
      refine FJ.seq ?_
      refine FJ.block ?_
      refine FJ.draw [rowA g8 49 2 1 [.int .i64 0, .slice Agk0 (namesTo x11.ents k).length cgk0], rowA g4 49 2 1 [.int .i64 0, .slice none 0 0], rowA g3 30 2 1 [.slice (some ad10) f.inodes.length c0_0, .slice A0_1 f.data.length c0_1]] 15 (by kernel_rfl) ?_
      refine FJ.sch [(0, true), (1, true), (2, true), (3, true), (4, true), (5, true), (6, true), (7, true), (8, true), (9, true), (10, true), (11, true), (12, false), (13, false), (14, true), (15, false)] 0 #[true, true, true, true, true, true, true, true, true, true, true, true, true, true, true, true] (by rfl) (by kernel_rfl) ?_
      refine FJ.dq rfl rfl rfl (by decide) rfl (.s .z) (q_fieldAddr rfl (.t (.s (.s (.s (.s (.s (.s (.s (.s (.s (.s .z))))))))))) (fun _ => fa_49_1 _ _)) ?_
      refine FJ.dq rfl rfl rfl (by decide) rfl (.s .z) (q_load rfl ag_47 (.t .z) (WS.row .z rfl)) ?_
      refine FJ.dq rfl rfl rfl (by decide) rfl (.s .z) (q_fieldAddr rfl (.t (.s (.s (.s (.s (.s (.s (.s (.s (.s (.s (.s (.s (.s (.s .z))))))))))))))) (fun _ => fa_30_0 _ _)) ?_
      refine FJ.dq rfl rfl rfl (by decide) rfl (.s .z) (q_load rfl ag_28 (.t .z) (WS.row (.s (.s .z)) rfl)) ?_
      refine FJ.dq rfl rfl rfl (by decide) rfl (.s .z) (q_move rfl (.t (.s (.s (.s (.s (.s (.s (.s (.s (.s (.s (.s (.s (.s (.s (.s (.s (.s .z))))))))))))))))))) ?_
      refine FJ.dq rfl rfl rfl (by decide) rfl (.s .z) (q_indexAddr (j := Int.toNat a) rfl u_28 sz_60 (.t (.s .z)) (.t .z) (by omega) (by omega)) ?_
      refine FJ.dq rfl rfl rfl (by decide) rfl (.s .z) (q_fieldAddr rfl (.t .z) (fun _ => fa_60_4 _ _)) ?_
      refine FJ.dq rfl rfl rfl (by decide) rfl (.s .z) (q_load rfl ag_58 (.t .z) (WS.el hFe12 hce12 rfl)) ?_
      refine FJ.dq rfl rfl rfl (by decide) rfl (.s .z) (q_move rfl (.t (.s (.s (.s (.s (.s (.s (.s (.s (.s (.s (.s (.s (.s (.s (.s (.s (.s .z))))))))))))))))))) ?_
      obtain ⟨ad16, hAad16, hrad16⟩ := hee12_4 (by omega)
      subst hAad16
      obtain ⟨x17, hx17⟩ := get_ex (xs := x11.ents) (j := k) (by omega)
      obtain ⟨ece18, hre18, hFe18, hce18⟩ := hrad16.elem hx17
      obtain ⟨rfl, se18_0⟩ := kT_69_ro hre18
      have pox17 := ents_ok iox11 _ _ hx17
      refine FJ.dq rfl rfl rfl (by decide) rfl (.s .z) (q_indexAddr (j := k) rfl u_58 sz_69 (.t (.s .z)) (.t .z) rfl (by omega)) ?_
      refine FJ.dq rfl rfl rfl (by decide) rfl (.s .z) (q_fieldAddr rfl (.t .z) (fun _ => fa_69_0 _ _)) ?_
      refine FJ.dq rfl rfl rfl (by decide) rfl (.s .z) (q_load rfl ag_9 (.t .z) (WS.el hFe18 hce18 rfl)) ?_
      refine FJ.e (goes_sch rfl rfl) rfl (by decide) rfl (e_buildSliceL (ps := [(0, .string x17.name)]) (cs := [.string x17.name]) rfl u_47 (inz inf_9) (by decide) (by intro act hact; simp only [List.map_toArray, List.map_cons, List.map_nil, (show Val _ _ _ from (.t .z)) act hact]) rfl rfl (by decide) rfl rfl) ?_
      rintro _ _ ⟨g19, rfl, rfl⟩
      refine FJ.sk (.s (.s .z)) ?_
      refine FJ.add (c := ownA kstr x17.name [.string x17.name]) (fun _ _ => ⟨rfl, by assumption⟩) ?_
      refine FJ.e (goes_sch rfl rfl) rfl (by decide) rfl (e_append1 rfl u_47 inf_9 rfl (.t (.s (.s (.s (.s (.s (.s (.s (.s (.s (.s (.s .z)))))))))))) (.t .z) (.c (.s (.s .z)) (.c (.s .z) (.c .z .n))) (by first | omega | (simp only [List.length_append, List.length_take, List.length_nil, List.length_cons]; omega)) (by first | omega | (simp only [List.length_append, List.length_take, List.length_nil, List.length_cons]; omega))) ?_
      rintro _ _ rfl
      refine FJ.ceq .z (namesTo_s hx17) ?_
      refine FJ.know (WS.oform .z) ?_
      rintro ⟨Ao21, co21, rfl, hlo21, hmo21, hbo21⟩
      refine FJ.sk (.s .z) ?_
      refine FJ.dq rfl rfl rfl (by decide) rfl (.s .z) (q_fieldAddr rfl (.t (.s (.s (.s (.s (.s (.s (.s (.s (.s (.s (.s (.s (.s (.s (.s (.s (.s (.s (.s (.s (.s (.s (.s (.s .z))))))))))))))))))))))))) (fun _ => fa_49_1 _ _)) ?_
      refine FJ.es (goes_sch rfl rfl) rfl (es_store (off := 1) (cs := [.slice Ao21 (namesTo x11.ents (k + 1)).length co21]) rfl sz_47 (.t .z) (.t (.s .z)) rfl (ones rfl) (.s .z) (Nat.le_of_ble_eq_true rfl) (.c (.s .z) .n)) ?_
      refine FJ.sl rfl ?_
      refine FJ.schN ?_
      refine FJ.drawN (by kernel_rfl) ?_
      refine FJ.inBN ?_
      refine FJ.then_ ?_
      refine FJ.region ?_
      refine FJ.q (goes_list rfl) rfl (by decide) rfl (q_move rfl (.t (.s (.s (.s (.s (.s (.s (.s (.s (.s (.s (.s (.s (.s (.s (.s (.s (.s (.s (.s (.s (.s (.s (.s (.s .z)))))))))))))))))))))))))) ?_
      refine FJ.q (goes_list rfl) rfl (by decide) rfl (q_add (c := ((k + 1 : Nat) : Int)) rfl (.t .z) .c (wr (by omega) (by omega) (by omega))) ?_
      refine FJ.er (.s (.s (.s (.s (.s (.s (.s (.s (.s (.s (.s (.s (.s (.s (.s (.s (.s (.s (.s (.s (.s (.s (.s (.s (.s (.s .z)))))))))))))))))))))))))) ?_
      refine FJ.q (goes_list rfl) rfl (by decide) rfl (q_assign rfl (.t .z)) ?_
      refine FJ.nil ?_
      refine FJ.again ((k + 1), Ao21, co21) (by omega) (by first | omega | (dsimp only; omega)) (.c .z (.c (.s (.s (.s (.s (.s (.s (.s (.s (.s (.s (.s (.s (.s (.s (.s (.s (.s (.s (.s (.s (.s (.s (.s (.s (.s (.s (.s .z))))))))))))))))))))))))))) (.c (.s (.s (.s (.s (.s (.s (.s (.s (.s (.s (.s (.s (.s (.s (.s (.s (.s (.s (.s (.s (.s (.s (.s (.s (.s (.s (.s (.s .z)))))))))))))))))))))))))))) (.c (.s (.s (.s (.s (.s (.s (.s (.s (.s (.s (.s (.s (.s (.s (.s (.s (.s (.s (.s (.s (.s (.s (.s (.s (.s (.s (.s (.s (.s .z))))))))))))))))))))))))))))) (.c (.s (.s (.s (.s (.s (.s (.s (.s (.s (.s (.s (.s (.s (.s (.s (.s (.s (.s (.s (.s (.s (.s (.s (.s (.s (.s (.s (.s (.s (.s .z)))))))))))))))))))))))))))))) .n))))) (fun _ h => h.sel (.c (.s .z) (.c .z (.c .z (.c .z .n)))))
    · -- b15: False
      refine FJ.exit ?_
      refine FJ.thenE ?_
      refine FJ.thenE ?_
      refine FJ.inB ?_
      refine FJ.then_ ?_
      refine FJ.seq ?_
      refine FJ.region ?_
      refine FJ.q (goes_list rfl) rfl (by decide) rfl (q_loadA (cs := [.int .i64 0, .slice Agk0 (namesTo x11.ents k).length cgk0]) rfl ag_49 sz_49 (.t (.s (.s (.s (.s (.s (.s (.s (.s (.s (.s .z))))))))))) (WS.rows0 (.s .z) (fun i u h => by exact h))) ?_
      refine FJ.es (goes_list rfl) rfl (es_store (off := 0) (cs := [.int .i64 0, .slice Agk0 (namesTo x11.ents k).length cgk0]) rfl sz_49 (.t (.s (.s (.s (.s (.s (.s (.s (.s (.s (.s (.s (.s .z))))))))))))) (.t .z) rfl (ones rfl) (.s (.s .z)) (Nat.le_of_ble_eq_true rfl) (.c .z (.c (.s .z) .n))) ?_
      refine FJ.nil ?_
      refine FJ.then_ ?_
      refine FJ.ret ?_
      refine FJ.ceq (x' := namesOf (entsAt f.inodes a)) (.s .z) (by rw [nx11]; exact namesTo_all (by omega)) ?_
      refine FJ.doneS (resC (cs := [.int .i64 0, .slice Agk0 (namesTo x11.ents k).length cgk0]) rfl (.s (.s (.s (.s (.s (.s (.s (.s (.s (.s (.s (.s .z)))))))))))) ag_49 sz_49 (WS.rows0 (cs := [.int .i64 0, .slice Agk0 (namesTo x11.ents k).length cgk0]) (.s .z) (fun _ _ h => h))) (.c .z .n) ?_
      first | (rw [namesR_f (by assumption)]; exact ⟨_, rfl, rfl⟩) | (rw [namesR_0 (by assumption)]; exact ⟨_, rfl, rfl⟩)

end Go.Proofs.Ytbcdcakcmdcafaa

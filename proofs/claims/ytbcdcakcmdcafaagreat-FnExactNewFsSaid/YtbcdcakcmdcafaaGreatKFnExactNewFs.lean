/- What is proved: contracts of functions, one a function. No condition. -/
import Derived.Test.YtbcdcakcmdcafaaGreatW30
import Derived.Test.YtbcdcakcmdcafaaGreatW7
import Derived.Test.YtbcdcakcmdcafaaGreatMCount4
namespace Go.Proofs.YtbcdcakcmdcafaaGreat
open Go Go.RowKit
set_option linter.unusedVariables false
set_option linter.unusedSimpArgs false
set_option maxHeartbeats 1000000 in
set_option maxRecDepth 20000 in
theorem c_3 {w0 : World} {S0 : Bs} {x : (List (List UInt8))} {v0 : Value} (h0 : kSl_39.ro w0 (FF w0 S0) x [v0])  :
    Calls Tryz.prog 3 #[v0] w0 (TriPost w0 S0 (fun r l => r = .bool true ∧ l = [])) := by
 obtain ⟨A0, c0, rfl, hl0, hm0, hb0, he0⟩ := ro_form h0
 have hb := newR_cnt x
 refine FJ.enter (N := 69) Tryz.func3 rfl rfl (by simp) [(0, .slice A0 x.length c0)] (by simp) (l0 := []) trivial ?_
 refine FJ.seq ?_
 refine FJ.region ?_
 refine FJ.q (goes_list rfl) rfl (by decide) rfl (q_assign rfl .c) ?_
 refine FJ.nil ?_
 refine FJ.then_ ?_
 refine FJ.seq ?_
 refine FJ.region ?_
 refine FJ.q (goes_list rfl) rfl (by decide) rfl (q_assign rfl .c) ?_
 refine FJ.nil ?_
 refine FJ.then_ ?_
 refine FJ.seq ?_
 refine FJ.region ?_
 refine FJ.q (goes_list rfl) rfl (by decide) rfl (q_move rfl (.t (.s (.s .z)))) ?_
 refine FJ.q (goes_list rfl) rfl (by decide) rfl (q_move rfl (.t (.s .z))) ?_
 refine FJ.call (goes_list rfl) rfl (by decide) rfl (c_call rfl Tryz.func10 rfl rfl (args2 (.t (.s .z)) (.t .z))) .n (fun w1 S1 hs tr => c_10 (tr.ctx h0) _ (by omega) (by omega)) ?_
 rintro _ _ ⟨c2, rfl, hc2, wc2, rfl⟩
 refine FJ.cat .n ?_
 refine FJ.er (.s (.s (.s .z))) ?_
 refine FJ.q (goes_list rfl) rfl (by decide) rfl (q_assign rfl (.t .z)) ?_
 refine FJ.nil ?_
 refine FJ.then_ ?_
 refine FJ.seq ?_
 refine FJ.seq ?_
 refine FJ.region ?_
 refine FJ.q (goes_list rfl) rfl (by decide) rfl (q_move rfl (.t .z)) ?_
 refine FJ.q (goes_list rfl) rfl (by decide) rfl (q_lss rfl (.t .z) .c) ?_
 refine FJ.nil ?_
 refine FJ.then_ ?_
 refine FJ.condP (.t .z) (fun b3 => ?_) (fun b3 => ?_)
 · --
  refine FJ.seq ?_
  refine FJ.region ?_
  refine FJ.er (.s4 (.s (.s .z))) ?_
  refine FJ.q (goes_list rfl) rfl (by decide) rfl (q_assign rfl .c) ?_
  refine FJ.nil ?_
  refine FJ.then_ ?_
  refine FJ.ret ?_
  refine FJ.thenR ?_
  refine FJ.doneS (res1 rfl .z) .n ?_
  exact ⟨rfl, rfl⟩
 · --
  refine FJ.skip ?_
  refine FJ.then_ ?_
  refine FJ.seq ?_
  refine FJ.region ?_
  refine FJ.q (goes_list rfl) rfl (by decide) rfl (q_move rfl (.t (.s4 (.s (.s (.s .z)))))) ?_
  refine FJ.call (goes_list rfl) rfl (by decide) rfl (c_call rfl Tryz.func12 rfl rfl (args1 (.t .z))) .n (fun w1 S1 hs tr => c_12 (tr.ctx h0)) ?_
  rintro _ _ rfl
  refine FJ.cat (.c .n) ?_
  refine FJ.know (WS.oform .z) ?_
  rintro ⟨Ao5, co5, rfl, hlo5, hmo5, hbo5⟩
  refine FJ.call (goes_list rfl) rfl (by decide) rfl (c_call rfl Tryz.func11 rfl rfl (args1 (.t .z))) .n (fun w1 S1 hs tr => c_11 (tr.own .z)) ?_
  rintro _ _ ⟨v6, v8, rfl, rfl⟩
  refine FJ.cat (.c (.c .n)) ?_
  refine FJ.know (WS.oform .z) ?_
  rintro ⟨Ao10, co10, rfl, hlo10, hmo10, hbo10⟩
  refine FJ.know (WS.oform (.s .z)) ?_
  rintro ⟨Ao11, co11, rfl, hlo11, hmo11, hbo11⟩
  refine FJ.e (goes_list rfl) rfl (by decide) rfl (e_alloc rfl z_28 rfl rfl) ?_
  rintro _ _ ⟨g12, rfl, rfl⟩
  refine FJ.es (goes_list rfl) rfl (es_store (off := 0) (cs := [.int .i64 ((newR x).code), .slice Ao10 ((newR x).fs.inodes).length co10, .slice Ao11 ((newR x).fs.data).length co11]) rfl sz_28 (.t .z) (.t (.s .z)) rfl (ones rfl) .z (Nat.le_of_ble_eq_true rfl) (.c .z (.c (.s .z) (.c (.s (.s .z)) .n)))) ?_
  refine FJ.nil ?_
  refine FJ.then_ ?_
  refine FJ.seq ?_
  refine FJ.region ?_
  refine FJ.q (goes_list rfl) rfl (by decide) rfl (q_move rfl (.t (.s4 (.s4 (.s (.s (.s .z))))))) ?_
  refine FJ.call (goes_list rfl) rfl (by decide) rfl (c_call rfl Tryz.func12 rfl rfl (args1 (.t .z))) .n (fun w1 S1 hs tr => c_12 (tr.ctx h0)) ?_
  rintro _ _ rfl
  refine FJ.cat (.c .n) ?_
  refine FJ.know (WS.oform .z) ?_
  rintro ⟨Ao14, co14, rfl, hlo14, hmo14, hbo14⟩
  refine FJ.q (goes_list rfl) rfl (by decide) rfl (q_assign rfl (.t .z)) ?_
  refine FJ.nil ?_
  refine FJ.then_ ?_
  refine FJ.seq ?_
  refine FJ.region ?_
  refine FJ.q (goes_list rfl) rfl (by decide) rfl (q_move rfl (.t .z)) ?_
  refine FJ.call (goes_list rfl) rfl (by decide) rfl (c_call rfl Tryz.func13 rfl rfl (args1 (.t .z))) .n (fun w1 S1 hs tr => c_13 (tr.own .z)) ?_
  rintro _ _ ⟨v15, v17, rfl, rfl⟩
  refine FJ.cat (.c (.c .n)) ?_
  refine FJ.know (WS.oform .z) ?_
  rintro ⟨Ao19, co19, rfl, hlo19, hmo19, hbo19⟩
  refine FJ.know (WS.oform (.s .z)) ?_
  rintro ⟨Ao20, co20, rfl, hlo20, hmo20, hbo20⟩
  refine FJ.e (goes_list rfl) rfl (by decide) rfl (e_alloc rfl z_28 rfl rfl) ?_
  rintro _ _ ⟨g21, rfl, rfl⟩
  refine FJ.es (goes_list rfl) rfl (es_store (off := 0) (cs := [.int .i64 ((newR x).code), .slice Ao19 ((newR x).fs.inodes).length co19, .slice Ao20 ((newR x).fs.data).length co20]) rfl sz_28 (.t .z) (.t (.s .z)) rfl (ones rfl) .z (Nat.le_of_ble_eq_true rfl) (.c .z (.c (.s .z) (.c (.s (.s .z)) .n)))) ?_
  refine FJ.nil ?_
  refine FJ.then_ ?_
  refine FJ.seq ?_
  refine FJ.seq ?_
  refine FJ.region ?_
  refine FJ.q (goes_list rfl) rfl (by decide) rfl (q_loadA (cs := [.int .i64 ((newR x).code), .slice Ao19 ((newR x).fs.inodes).length co19, .slice Ao20 ((newR x).fs.data).length co20]) rfl ag_28 sz_28 (.t .z) (WS.rows0 .z (fun i u h => by exact h))) ?_
  refine FJ.q (goes_list rfl) rfl (by decide) rfl (q_loadA (cs := [.int .i64 ((newR x).code), .slice Ao10 ((newR x).fs.inodes).length co10, .slice Ao11 ((newR x).fs.data).length co11]) rfl ag_28 sz_28 (.t (.s4 (.s (.s (.s .z))))) (WS.rows0 (.s4 .z) (fun i u h => by exact h))) ?_
  refine FJ.call (goes_list rfl) rfl (by decide) rfl (c_call rfl Tryz.func14 rfl rfl (args2 (.t (.s .z)) (.t .z))) .n (fun w1 S1 hs tr => c_14 (kT_28_mk (newR x) (tr.own (.s .z)) (tr.own (.s (.s .z)))) (kT_28_mk (newR x) (tr.own (.s4 (.s .z))) (tr.own (.s4 (.s (.s .z)))))) ?_
  rintro _ _ ⟨rfl, rfl⟩
  refine FJ.cat .n ?_
  refine FJ.q (goes_list rfl) rfl (by decide) rfl (q_not rfl (.t .z)) ?_
  refine FJ.nil ?_
  refine FJ.then_ ?_
  refine FJ.condN (.t .z) (fun b22 => ?_) (fun b22 => ?_)
  · --
   refine FJ.seq ?_
   refine FJ.region ?_
   refine FJ.er (.s16 (.s4 .z)) ?_
   refine FJ.q (goes_list rfl) rfl (by decide) rfl (q_assign rfl .c) ?_
   refine FJ.nil ?_
   refine FJ.then_ ?_
   refine FJ.ret ?_
   refine FJ.thenR ?_
   refine FJ.doneS (res1 rfl .z) .n ?_
   exfalso; first | exact absurd rfl (by assumption) | omega | (simp_all; done)
  · --
   refine FJ.skip ?_
   refine FJ.then_ ?_
   refine FJ.seq ?_
   refine FJ.seq ?_
   refine FJ.region ?_
   refine FJ.q (goes_list rfl) rfl (by decide) rfl (q_move rfl (.t (.s4 (.s (.s (.s .z)))))) ?_
   refine FJ.q (goes_list rfl) rfl (by decide) rfl (q_move rfl (.t (.s16 (.s4 (.s (.s .z)))))) ?_
   refine FJ.call (goes_list rfl) rfl (by decide) rfl (c_call rfl Tryz.func12 rfl rfl (args1 (.t .z))) .n (fun w1 S1 hs tr => c_12 (tr.ctx h0)) ?_
   rintro _ _ rfl
   refine FJ.cat (.c .n) ?_
   refine FJ.know (WS.oform .z) ?_
   rintro ⟨Ao24, co24, rfl, hlo24, hmo24, hbo24⟩
   refine FJ.call (goes_list rfl) rfl (by decide) rfl (c_call rfl Tryz.func15 rfl rfl (args2 (.t (.s (.s .z))) (.t .z))) .n (fun w1 S1 hs tr => c_15 (tr.own (.s4 .z)) (tr.own .z)) ?_
   rintro _ _ ⟨rfl, rfl⟩
   refine FJ.cat .n ?_
   refine FJ.q (goes_list rfl) rfl (by decide) rfl (q_not rfl (.t .z)) ?_
   refine FJ.nil ?_
   refine FJ.then_ ?_
   refine FJ.condN (.t .z) (fun b25 => ?_) (fun b25 => ?_)
   · --
    refine FJ.seq ?_
    refine FJ.region ?_
    refine FJ.er (.s16 (.s4 (.s4 (.s .z)))) ?_
    refine FJ.q (goes_list rfl) rfl (by decide) rfl (q_assign rfl .c) ?_
    refine FJ.nil ?_
    refine FJ.then_ ?_
    refine FJ.ret ?_
    refine FJ.thenR ?_
    refine FJ.doneS (res1 rfl .z) .n ?_
    exfalso; first | exact absurd rfl (by assumption) | omega | (simp_all; done)
   · --
    refine FJ.skip ?_
    refine FJ.then_ ?_
    refine FJ.seq ?_
    refine FJ.region ?_
    refine FJ.q (goes_list rfl) rfl (by decide) rfl (q_assign rfl .c) ?_
    refine FJ.nil ?_
    refine FJ.then_ ?_
    refine FJ.seq ?_
    refine FJ.region ?_
    refine FJ.q (goes_list rfl) rfl (by decide) rfl (q_move rfl (.t (.s4 (.s4 (.s4 (.s .z)))))) ?_
    refine FJ.q (goes_list rfl) rfl (by decide) rfl (q_move rfl (.t (.s .z))) ?_
    refine FJ.call (goes_list rfl) rfl (by decide) rfl (c_call rfl Tryz.func16 rfl rfl (args2 (.t (.s .z)) (.t .z))) (.c (.s4 .z) .n) (fun w1 S1 hs tr => c_16 _ hs (by omega) (by first | omega | (omega))) ?_
    rintro _ _ ⟨rfl, rfl⟩
    refine FJ.cat (.c .n) ?_
    refine FJ.er (.s (.s (.s .z))) ?_
    refine FJ.q (goes_list rfl) rfl (by decide) rfl (q_assign rfl (.t .z)) ?_
    refine FJ.nil ?_
    refine FJ.then_ ?_
    refine FJ.seq ?_
    refine FJ.seq ?_
    refine FJ.region ?_
    refine FJ.q (goes_list rfl) rfl (by decide) rfl (q_move rfl (.t .z)) ?_
    refine FJ.q (goes_list rfl) rfl (by decide) rfl (q_lss rfl (.t .z) .c) ?_
    refine FJ.q (goes_list rfl) rfl (by decide) rfl (q_move rfl (.t .z)) ?_
    refine FJ.caseP .z (fun g26 => ?_) (fun g26 => ?_)
    · --
     refine FJ.skipl rfl rfl .z rfl rfl (by decide) rfl ?_
     refine FJ.skipl rfl rfl (.s .z) rfl rfl (by decide) rfl ?_
     refine FJ.skipl rfl rfl (.s (.s .z)) rfl rfl (by decide) rfl ?_
     refine FJ.skipl rfl rfl (.s (.s (.s .z))) rfl rfl (by decide) rfl ?_
     refine FJ.q (goes_list rfl) rfl (by decide) rfl (q_pickT rfl (.t (.s4 .z)) .c) ?_
     refine FJ.nil ?_
     refine FJ.then_ ?_
     refine FJ.condT (.t .z) ?_
     refine FJ.seq ?_
     refine FJ.region ?_
     refine FJ.er (.s16 (.s16 (.s4 (.s .z)))) ?_
     refine FJ.q (goes_list rfl) rfl (by decide) rfl (q_assign rfl .c) ?_
     refine FJ.nil ?_
     refine FJ.then_ ?_
     refine FJ.ret ?_
     refine FJ.thenR ?_
     refine FJ.doneS (res1 rfl .z) .n ?_
     exfalso; first | exact absurd rfl (by assumption) | omega | (simp_all; done)
    · --
     refine FJ.q (goes_listg rfl rfl .z) rfl (by decide) rfl (q_loadA (cs := [.int .i64 ((newR x).code), .slice Ao19 ((newR x).fs.inodes).length co19, .slice Ao20 ((newR x).fs.data).length co20]) rfl ag_28 sz_28 (.t (.s16 .z)) (WS.rows0 (.s (.s .z)) (fun i u h => by exact h))) ?_
     refine FJ.q (goes_listg rfl rfl (.s .z)) rfl (by decide) rfl (q_loadA (cs := [.int .i64 ((newR x).code), .slice Ao10 ((newR x).fs.inodes).length co10, .slice Ao11 ((newR x).fs.data).length co11]) rfl ag_28 sz_28 (.t (.s16 (.s4 (.s (.s (.s .z)))))) (WS.rows0 (.s4 (.s .z)) (fun i u h => by exact h))) ?_
     refine FJ.call (goes_listg rfl rfl (.s (.s .z))) rfl (by decide) rfl (c_call rfl Tryz.func14 rfl rfl (args2 (.t (.s .z)) (.t .z))) .n (fun w1 S1 hs tr => c_14 (kT_28_mk (newR x) (tr.own (.s (.s (.s .z)))) (tr.own (.s4 .z))) (kT_28_mk (newR x) (tr.own (.s4 (.s (.s .z)))) (tr.own (.s4 (.s (.s (.s .z))))))) ?_
     rintro _ _ ⟨rfl, rfl⟩
     refine FJ.cat .n ?_
     refine FJ.q (goes_listg rfl rfl (.s (.s (.s .z)))) rfl (by decide) rfl (q_not rfl (.t .z)) ?_
     refine FJ.q (goes_list rfl) rfl (by decide) rfl (q_pickF rfl (.t (.s4 .z)) (.t .z)) ?_
     refine FJ.nil ?_
     refine FJ.then_ ?_
     refine FJ.condN (.t .z) (fun b27 => ?_) (fun b27 => ?_)
     · --
      refine FJ.seq ?_
      refine FJ.region ?_
      refine FJ.er (.s16 (.s16 (.s4 (.s .z)))) ?_
      refine FJ.q (goes_list rfl) rfl (by decide) rfl (q_assign rfl .c) ?_
      refine FJ.nil ?_
      refine FJ.then_ ?_
      refine FJ.ret ?_
      refine FJ.thenR ?_
      refine FJ.doneS (res1 rfl .z) .n ?_
      exfalso; first | exact absurd rfl (by assumption) | omega | (simp_all; done)
     · --
      refine FJ.skip ?_
      refine FJ.then_ ?_
      refine FJ.seq ?_
      refine FJ.region ?_
      refine FJ.q (goes_list rfl) rfl (by decide) rfl (q_assign rfl .c) ?_
      refine FJ.nil ?_
      refine FJ.then_ ?_
      refine FJ.seq ?_
      refine FJ.region ?_
      refine FJ.q (goes_list rfl) rfl (by decide) rfl (q_loadA (cs := [.int .i64 ((newR x).code), .slice Ao19 ((newR x).fs.inodes).length co19, .slice Ao20 ((newR x).fs.data).length co20]) rfl ag_28 sz_28 (.t (.s16 (.s4 (.s (.s .z))))) (WS.rows0 (.s (.s .z)) (fun i u h => by exact h))) ?_
      refine FJ.q (goes_list rfl) rfl (by decide) rfl (q_move rfl (.t (.s .z))) ?_
      refine FJ.call (goes_list rfl) rfl (by decide) rfl (c_call rfl Tryz.func17 rfl rfl (args2 (.t (.s .z)) (.t .z))) (.c (.s (.s (.s .z))) (.c (.s (.s (.s .z))) .n)) (fun w1 S1 hs tr => c_17 _ hs (by omega) (by first | omega | (omega))) ?_
      rintro _ _ ⟨rfl, rfl⟩
      refine FJ.cat (.c (.c .n)) ?_
      refine FJ.er (.s (.s (.s .z))) ?_
      refine FJ.q (goes_list rfl) rfl (by decide) rfl (q_assign rfl (.t .z)) ?_
      refine FJ.nil ?_
      refine FJ.then_ ?_
      refine FJ.seq ?_
      refine FJ.region ?_
      refine FJ.q (goes_list rfl) rfl (by decide) rfl (q_assign rfl .c) ?_
      refine FJ.nil ?_
      refine FJ.then_ ?_
      refine FJ.seq ?_
      refine FJ.region ?_
      refine FJ.q (goes_list rfl) rfl (by decide) rfl (q_loadA (cs := [.int .i64 ((newR x).code), .slice Ao19 ((newR x).fs.inodes).length co19, .slice Ao20 ((newR x).fs.data).length co20]) rfl ag_28 sz_28 (.t (.s16 (.s4 (.s4 (.s (.s .z)))))) (WS.rows0 (.s4 .z) (fun i u h => by exact h))) ?_
      refine FJ.q (goes_list rfl) rfl (by decide) rfl (q_move rfl (.t (.s .z))) ?_
      refine FJ.call (goes_list rfl) rfl (by decide) rfl (c_call rfl Tryz.func18 rfl rfl (args2 (.t (.s .z)) (.t .z))) .n (fun w1 S1 hs tr => c_18 (kT_28_mk (⟨(newR x).code, (⟨(vmark_RFs 1 (newR x)).fs.inodes, (vmark_RFs 1 (newR x)).fs.data⟩ : DFs)⟩ : RFs) (tr.own .z) (tr.own (.s .z))) _ (newR x) rfl (by omega) (by first | omega | (omega))) ?_
      rintro _ _ ⟨rfl, rfl⟩
      refine FJ.cat .n ?_
      refine FJ.er (.s (.s (.s .z))) ?_
      refine FJ.q (goes_list rfl) rfl (by decide) rfl (q_assign rfl (.t .z)) ?_
      refine FJ.nil ?_
      refine FJ.then_ ?_
      refine FJ.seq ?_
      refine FJ.seq ?_
      refine FJ.region ?_
      refine FJ.q (goes_list rfl) rfl (by decide) rfl (q_move rfl (.t .z)) ?_
      refine FJ.q (goes_list rfl) rfl (by decide) rfl (q_lss rfl (.t .z) .c) ?_
      refine FJ.nil ?_
      refine FJ.then_ ?_
      refine FJ.condP (.t .z) (fun b28 => ?_) (fun b28 => ?_)
      · --
       refine FJ.seq ?_
       refine FJ.region ?_
       refine FJ.er (.s16 (.s16 (.s4 (.s4 (.s4 (.s (.s (.s .z)))))))) ?_
       refine FJ.q (goes_list rfl) rfl (by decide) rfl (q_assign rfl .c) ?_
       refine FJ.nil ?_
       refine FJ.then_ ?_
       refine FJ.ret ?_
       refine FJ.thenR ?_
       refine FJ.doneS (res1 rfl .z) .n ?_
       exfalso; first | exact absurd rfl (by assumption) | omega | (simp_all; done)
      · --
       refine FJ.skip ?_
       refine FJ.then_ ?_
       refine FJ.seq ?_
       refine FJ.seq ?_
       refine FJ.region ?_
       refine FJ.q (goes_list rfl) rfl (by decide) rfl (q_move rfl (.t (.s (.s .z)))) ?_
       refine FJ.q (goes_list rfl) rfl (by decide) rfl (q_move rfl (.t (.s4 (.s (.s (.s .z)))))) ?_
       refine FJ.q (goes_list rfl) rfl (by decide) rfl (q_neq rfl (.t (.s .z)) (.t .z)) ?_
       refine FJ.nil ?_
       refine FJ.then_ ?_
       refine FJ.condN (.t .z) (fun b29 => ?_) (fun b29 => ?_)
       · --
        refine FJ.seq ?_
        refine FJ.region ?_
        refine FJ.er (.s16 (.s16 (.s16 (.s (.s .z))))) ?_
        refine FJ.q (goes_list rfl) rfl (by decide) rfl (q_assign rfl .c) ?_
        refine FJ.nil ?_
        refine FJ.then_ ?_
        refine FJ.ret ?_
        refine FJ.thenR ?_
        refine FJ.doneS (res1 rfl .z) .n ?_
        exfalso; first | exact absurd rfl (by assumption) | omega | (simp_all; done)
       · --
        refine FJ.skip ?_
        refine FJ.then_ ?_
        refine FJ.seq ?_
        refine FJ.region ?_
        refine FJ.q (goes_list rfl) rfl (by decide) rfl (q_move rfl (.t (.s16 (.s16 (.s16 (.s (.s (.s .z)))))))) ?_
        refine FJ.call (goes_list rfl) rfl (by decide) rfl (c_call rfl Tryz.func12 rfl rfl (args1 (.t .z))) .n (fun w1 S1 hs tr => c_12 (tr.ctx h0)) ?_
        rintro _ _ rfl
        refine FJ.cat (.c .n) ?_
        refine FJ.know (WS.oform .z) ?_
        rintro ⟨Ao31, co31, rfl, hlo31, hmo31, hbo31⟩
        refine FJ.call (goes_list rfl) rfl (by decide) rfl (c_call rfl Tryz.func13 rfl rfl (args1 (.t .z))) .n (fun w1 S1 hs tr => c_13 (tr.own .z)) ?_
        rintro _ _ ⟨v32, v34, rfl, rfl⟩
        refine FJ.cat (.c (.c .n)) ?_
        refine FJ.know (WS.oform .z) ?_
        rintro ⟨Ao36, co36, rfl, hlo36, hmo36, hbo36⟩
        refine FJ.know (WS.oform (.s .z)) ?_
        rintro ⟨Ao37, co37, rfl, hlo37, hmo37, hbo37⟩
        refine FJ.e (goes_list rfl) rfl (by decide) rfl (e_alloc rfl z_28 rfl rfl) ?_
        rintro _ _ ⟨g38, rfl, rfl⟩
        refine FJ.es (goes_list rfl) rfl (es_store (off := 0) (cs := [.int .i64 ((newR x).code), .slice Ao36 ((newR x).fs.inodes).length co36, .slice Ao37 ((newR x).fs.data).length co37]) rfl sz_28 (.t .z) (.t (.s .z)) rfl (ones rfl) .z (Nat.le_of_ble_eq_true rfl) (.c .z (.c (.s .z) (.c (.s (.s .z)) .n)))) ?_
        refine FJ.nil ?_
        refine FJ.then_ ?_
        refine FJ.seq ?_
        refine FJ.seq ?_
        refine FJ.region ?_
        refine FJ.q (goes_list rfl) rfl (by decide) rfl (q_loadA (cs := [.int .i64 ((newR x).code), .slice Ao36 ((newR x).fs.inodes).length co36, .slice Ao37 ((newR x).fs.data).length co37]) rfl ag_28 sz_28 (.t .z) (WS.rows0 .z (fun i u h => by exact h))) ?_
        refine FJ.q (goes_list rfl) rfl (by decide) rfl (q_loadA (cs := [.int .i64 ((newR x).code), .slice Ao10 ((newR x).fs.inodes).length co10, .slice Ao11 ((newR x).fs.data).length co11]) rfl ag_28 sz_28 (.t (.s16 (.s16 (.s4 (.s4 (.s4 (.s .z))))))) (WS.rows0 (.s4 (.s4 (.s .z))) (fun i u h => by exact h))) ?_
        refine FJ.call (goes_list rfl) rfl (by decide) rfl (c_call rfl Tryz.func14 rfl rfl (args2 (.t (.s .z)) (.t .z))) .n (fun w1 S1 hs tr => c_14 (kT_28_mk (newR x) (tr.own (.s .z)) (tr.own (.s (.s .z)))) (kT_28_mk (newR x) (tr.own (.s4 (.s4 (.s (.s .z))))) (tr.own (.s4 (.s4 (.s (.s (.s .z)))))))) ?_
        rintro _ _ ⟨rfl, rfl⟩
        refine FJ.cat .n ?_
        refine FJ.q (goes_list rfl) rfl (by decide) rfl (q_not rfl (.t .z)) ?_
        refine FJ.nil ?_
        refine FJ.then_ ?_
        refine FJ.condN (.t .z) (fun b39 => ?_) (fun b39 => ?_)
        · --
         refine FJ.seq ?_
         refine FJ.region ?_
         refine FJ.er (.s16 (.s16 (.s16 (.s4 (.s4 (.s (.s .z))))))) ?_
         refine FJ.q (goes_list rfl) rfl (by decide) rfl (q_assign rfl .c) ?_
         refine FJ.nil ?_
         refine FJ.then_ ?_
         refine FJ.ret ?_
         refine FJ.thenR ?_
         refine FJ.doneS (res1 rfl .z) .n ?_
         exfalso; first | exact absurd rfl (by assumption) | omega | (simp_all; done)
        · --
         refine FJ.skip ?_
         refine FJ.then_ ?_
         refine FJ.seq ?_
         refine FJ.region ?_
         refine FJ.er (.s4 (.s4 (.s4 (.s .z)))) ?_
         refine FJ.q (goes_list rfl) rfl (by decide) rfl (q_assign rfl .c) ?_
         refine FJ.nil ?_
         refine FJ.then_ ?_
         refine FJ.seq ?_
         refine FJ.region ?_
         refine FJ.q (goes_list rfl) rfl (by decide) rfl (q_loadA (cs := [.int .i64 ((newR x).code), .slice Ao19 ((newR x).fs.inodes).length co19, .slice Ao20 ((newR x).fs.data).length co20]) rfl ag_28 sz_28 (.t (.s16 (.s16 (.s4 (.s4 (.s (.s .z))))))) (WS.rows0 (.s4 (.s4 .z)) (fun i u h => by exact h))) ?_
         refine FJ.q (goes_list rfl) rfl (by decide) rfl (q_move rfl (.t (.s .z))) ?_
         refine FJ.call (goes_list rfl) rfl (by decide) rfl (c_call rfl Tryz.func18 rfl rfl (args2 (.t (.s .z)) (.t .z))) .n (fun w1 S1 hs tr => c_18 (kT_28_mk (⟨(newR x).code, (⟨(vmark_RFs 1 (newR x)).fs.inodes, (vmark_RFs 1 (newR x)).fs.data⟩ : DFs)⟩ : RFs) (tr.own (.s4 .z)) (tr.own (.s4 (.s .z)))) _ (newR x) rfl (by omega) (by first | omega | (omega))) ?_
         rintro _ _ ⟨rfl, rfl⟩
         refine FJ.cat .n ?_
         refine FJ.er (.s (.s (.s .z))) ?_
         refine FJ.q (goes_list rfl) rfl (by decide) rfl (q_assign rfl (.t .z)) ?_
         refine FJ.nil ?_
         refine FJ.then_ ?_
         refine FJ.seq ?_
         refine FJ.seq ?_
         refine FJ.region ?_
         refine FJ.q (goes_list rfl) rfl (by decide) rfl (q_move rfl (.t .z)) ?_
         refine FJ.q (goes_list rfl) rfl (by decide) rfl (q_lss rfl (.t .z) .c) ?_
         refine FJ.nil ?_
         refine FJ.then_ ?_
         refine FJ.condP (.t .z) (fun b40 => ?_) (fun b40 => ?_)
         · --
          refine FJ.seq ?_
          refine FJ.region ?_
          refine FJ.er (.s16 (.s16 (.s16 (.s4 (.s4 (.s4 (.s (.s (.s .z))))))))) ?_
          refine FJ.q (goes_list rfl) rfl (by decide) rfl (q_assign rfl .c) ?_
          refine FJ.nil ?_
          refine FJ.then_ ?_
          refine FJ.ret ?_
          refine FJ.thenR ?_
          refine FJ.doneS (res1 rfl .z) .n ?_
          exfalso; first | exact absurd rfl (by assumption) | omega | (simp_all; done)
         · --
          refine FJ.skip ?_
          refine FJ.then_ ?_
          refine FJ.seq ?_
          refine FJ.seq ?_
          refine FJ.region ?_
          refine FJ.q (goes_list rfl) rfl (by decide) rfl (q_move rfl (.t (.s (.s .z)))) ?_
          refine FJ.q (goes_list rfl) rfl (by decide) rfl (q_move rfl (.t (.s16 (.s4 (.s (.s (.s .z))))))) ?_
          refine FJ.q (goes_list rfl) rfl (by decide) rfl (q_neq rfl (.t (.s .z)) (.t .z)) ?_
          refine FJ.nil ?_
          refine FJ.then_ ?_
          refine FJ.condN (.t .z) (fun b41 => ?_) (fun b41 => ?_)
          · --
           refine FJ.seq ?_
           refine FJ.region ?_
           refine FJ.er (.s16 (.s16 (.s16 (.s16 (.s (.s .z)))))) ?_
           refine FJ.q (goes_list rfl) rfl (by decide) rfl (q_assign rfl .c) ?_
           refine FJ.nil ?_
           refine FJ.then_ ?_
           refine FJ.ret ?_
           refine FJ.thenR ?_
           refine FJ.doneS (res1 rfl .z) .n ?_
           exfalso; first | exact absurd rfl (by assumption) | omega | (simp_all; done)
          · --
           refine FJ.skip ?_
           refine FJ.then_ ?_
           refine FJ.seq ?_
           refine FJ.region ?_
           refine FJ.er (.s16 (.s16 (.s16 (.s16 (.s (.s .z)))))) ?_
           refine FJ.q (goes_list rfl) rfl (by decide) rfl (q_assign rfl .c) ?_
           refine FJ.nil ?_
           refine FJ.then_ ?_
           refine FJ.ret ?_
           refine FJ.doneS (res1 rfl .z) .n ?_
           exact ⟨rfl, rfl⟩

end Go.Proofs.YtbcdcakcmdcafaaGreat

/- What is proved: contracts of functions, one a function. No condition. -/
import Derived.Test.YtbfcpfmhmhklnaaDoorW62
import Derived.Test.YtbfcpfmhmhklnaaDoorW4
import Derived.Test.YtbfcpfmhmhklnaaDoorBase2
namespace Go.Proofs.YtbfcpfmhmhklnaaDoor
open Go Go.RowKit
set_option linter.unusedVariables false
set_option linter.unusedSimpArgs false
set_option maxHeartbeats 1000000 in
set_option maxRecDepth 20000 in
theorem c_5 {w0 : World} {S0 : Bs} (s : ByteArray) (hz0 : s.size ≤ 140737488351232) (hG : MaxL gmax w0 (FF w0 S0)) :
    Calls Tryd.prog 5 #[.string s] w0 (TriPost w0 S0 (fun r l => r = .bool true ∧ l = [])) := by
 have hb := splitR_cnt s
 refine FJ.enter (N := 44) Tryd.func5 rfl rfl (by simp) [(0, .string s)] (by simp) (l0 := []) trivial ?_
 refine FJ.seq (FJ.region (FJ.ql rfl (q_assign rfl .c) (FJ.nil (FJ.then_ ?_))))
 refine FJ.seq (FJ.seq (FJ.region (FJ.ql rfl (q_move rfl (.t (.s .z))) (FJ.ql rfl (q_len_s rfl u_9 (.t .z)) ?_))))
 refine FJ.ql rfl (q_gtr rfl (.t .z) .c) (FJ.nil (FJ.then_ ?_))
 refine FJ.condP (.t .z) (fun b1 => ?_) (fun b1 => ?_)
 refine FJ.seq (FJ.region (FJ.er (.s (.s (.s .z))) (FJ.ql rfl (q_assign rfl .c) (FJ.nil ?_))))
 refine FJ.then_ (FJ.ret (FJ.thenR ?_))
 refine FJ.doneS (res1 rfl .z) .n ?_
 exact ⟨rfl, rfl⟩
 refine FJ.skip (FJ.then_ (FJ.seq (FJ.region (FJ.ql rfl (q_move rfl (.t (.s4 .z))) ?_))))
 refine FJ.call (goes_list rfl) rfl (by decide) rfl (c_call rfl Tryd.func13 rfl rfl (args1 (.t .z))) .n (fun w1 S1 hs tr => c_13 _ (by first | assumption | omega)) ?_
 rintro _ _ ⟨v2, rfl, rfl⟩
 refine FJ.cat (.c .n) ?_
 refine FJ.know (WS.oform .z) ?_
 rintro ⟨Ao4, co4, rfl, hlo4, hmo4, hbo4⟩
 refine FJ.e (goes_list rfl) rfl (by decide) rfl (e_alloc rfl z_30 rfl rfl) ?_
 rintro _ _ ⟨g5, rfl, rfl⟩
 refine FJ.es (goes_list rfl) rfl (es_store (off := 0) (cs := [.int .i64 ((splitR s).code), .slice Ao4 ((splitR s).names).length co4]) rfl sz_30 (.t .z) (.t (.s .z)) rfl (ones rfl) .z (Nat.le_of_ble_eq_true rfl) (.c .z (.c (.s .z) .n))) ?_
 refine FJ.nil (FJ.then_ (FJ.seq (FJ.region (FJ.ql rfl (q_move rfl (.t (.s4 (.s (.s (.s .z)))))) ?_))))
 refine FJ.call (goes_list rfl) rfl (by decide) rfl (c_call rfl Tryd.func14 rfl rfl (args1 (.t .z))) .n (fun w1 S1 hs tr => c_14 _ (by first | assumption | omega) (MaxL.tr tr hG)) ?_
 rintro _ _ ⟨v6, rfl, rfl⟩
 refine FJ.cat (.c .n) ?_
 refine FJ.know (WS.oform .z) ?_
 rintro ⟨Ao8, co8, rfl, hlo8, hmo8, hbo8⟩
 refine FJ.e (goes_list rfl) rfl (by decide) rfl (e_alloc rfl z_30 rfl rfl) ?_
 rintro _ _ ⟨g9, rfl, rfl⟩
 refine FJ.es (goes_list rfl) rfl (es_store (off := 0) (cs := [.int .i64 ((splitR s).code), .slice Ao8 ((splitR s).names).length co8]) rfl sz_30 (.t .z) (.t (.s .z)) rfl (ones rfl) .z (Nat.le_of_ble_eq_true rfl) (.c .z (.c (.s .z) .n))) ?_
 refine FJ.nil (FJ.then_ (FJ.seq (FJ.seq (FJ.region ?_))))
 refine FJ.ql rfl (q_loadA (cs := [.int .i64 ((splitR s).code), .slice Ao8 ((splitR s).names).length co8]) rfl ag_30 sz_30 (.t .z) (WS.rows0 .z (fun i u h => by exact h))) ?_
 refine FJ.ql rfl (q_loadA (cs := [.int .i64 ((splitR s).code), .slice Ao4 ((splitR s).names).length co4]) rfl ag_30 sz_30 (.t (.s4 .z)) (WS.rows0 (.s (.s .z)) (fun i u h => by exact h))) ?_
 refine FJ.call (goes_list rfl) rfl (by decide) rfl (c_call rfl Tryd.func15 rfl rfl (args2 (.t (.s .z)) (.t .z))) .n (fun w1 S1 hs tr => c_15 (kT_30_mk (splitR s) (tr.own (.s .z))) (kT_30_mk (splitR s) (tr.own (.s (.s (.s .z)))))) ?_
 rintro _ _ ⟨rfl, rfl⟩
 refine FJ.cat .n ?_
 refine FJ.ql rfl (q_not rfl (.t .z)) (FJ.nil (FJ.then_ ?_))
 refine FJ.condN (.t .z) (fun b10 => ?_) (fun b10 => ?_)
 refine FJ.seq (FJ.region (FJ.er (.s4 (.s4 (.s4 (.s .z)))) (FJ.ql rfl (q_assign rfl .c) (FJ.nil ?_))))
 refine FJ.then_ (FJ.ret (FJ.thenR ?_))
 refine FJ.doneS (res1 rfl .z) .n ?_
 exfalso; first | exact absurd rfl (by assumption) | omega | focus (simp_all; done)
 refine FJ.skip (FJ.then_ (FJ.seq (FJ.region (FJ.ql rfl (q_assign rfl .c) ?_))))
 refine FJ.nil (FJ.then_ (FJ.seq (FJ.region ?_)))
 refine FJ.ql rfl (q_loadA (cs := [.int .i64 ((splitR s).code), .slice Ao8 ((splitR s).names).length co8]) rfl ag_30 sz_30 (.t (.s4 (.s .z))) (WS.rows0 .z (fun i u h => by exact h))) ?_
 refine FJ.ql rfl (q_move rfl (.t (.s .z))) ?_
 refine FJ.call (goes_list rfl) rfl (by decide) rfl (c_call rfl Tryd.func16 rfl rfl (args2 (.t (.s .z)) (.t .z))) (.c (.s .z) .n) (fun w1 S1 hs tr => c_16 _ hs (by omega) (by first | omega | (omega))) ?_
 rintro _ _ ⟨rfl, rfl⟩
 refine FJ.cat (.c .n) ?_
 refine FJ.er (.s (.s (.s .z))) (FJ.ql rfl (q_assign rfl (.t .z)) (FJ.nil (FJ.then_ (FJ.seq ?_))))
 refine FJ.region (FJ.ql rfl (q_assign rfl .c) (FJ.nil (FJ.then_ (FJ.seq ?_))))
 refine FJ.region ?_
 refine FJ.ql rfl (q_loadA (cs := [.int .i64 ((splitR s).code), .slice Ao8 ((splitR s).names).length co8]) rfl ag_30 sz_30 (.t (.s4 (.s4 (.s .z)))) (WS.rows0 (.s .z) (fun i u h => by exact h))) ?_
 refine FJ.ql rfl (q_move rfl (.t (.s .z))) ?_
 refine FJ.call (goes_list rfl) rfl (by decide) rfl (c_call rfl Tryd.func17 rfl rfl (args2 (.t (.s .z)) (.t .z))) .n (fun w1 S1 hs tr => c_17 (kT_30_mk (⟨(splitR s).code, (vmark_RNames 1 (splitR s)).names⟩ : RNames) (tr.own .z)) _ (splitR s) rfl (by omega) (by first | omega | (omega))) ?_
 rintro _ _ ⟨rfl, rfl⟩
 refine FJ.cat .n ?_
 refine FJ.er (.s (.s (.s .z))) (FJ.ql rfl (q_assign rfl (.t .z)) (FJ.nil (FJ.then_ (FJ.seq ?_))))
 refine FJ.seq (FJ.region (FJ.ql rfl (q_move rfl (.t .z)) (FJ.ql rfl (q_lss rfl (.t .z) .c) (FJ.nil ?_))))
 refine FJ.then_ ?_
 refine FJ.condP (.t .z) (fun b11 => ?_) (fun b11 => ?_)
 refine FJ.seq (FJ.region (FJ.er (.s16 (.s4 (.s (.s (.s .z))))) (FJ.ql rfl (q_assign rfl .c) (FJ.nil ?_))))
 refine FJ.then_ (FJ.ret (FJ.thenR ?_))
 refine FJ.doneS (res1 rfl .z) .n ?_
 exfalso; first | exact absurd rfl (by assumption) | omega | focus (simp_all; done)
 refine FJ.skip (FJ.then_ (FJ.seq (FJ.seq (FJ.region ?_))))
 refine FJ.ql rfl (q_move rfl (.t (.s (.s .z)))) (FJ.ql rfl (q_move rfl (.t (.s4 (.s (.s (.s .z)))))) (FJ.ql rfl (q_neq rfl (.t (.s .z)) (.t .z)) (FJ.nil (FJ.then_ ?_))))
 refine FJ.condN (.t .z) (fun b12 => ?_) (fun b12 => ?_)
 refine FJ.seq (FJ.region (FJ.er (.s16 (.s4 (.s4 (.s (.s .z))))) (FJ.ql rfl (q_assign rfl .c) (FJ.nil ?_))))
 refine FJ.then_ (FJ.ret (FJ.thenR ?_))
 refine FJ.doneS (res1 rfl .z) .n ?_
 exfalso; first | exact absurd rfl (by assumption) | omega | focus (simp_all; done)
 refine FJ.skip (FJ.then_ (FJ.seq (FJ.region (FJ.ql rfl (q_move rfl (.t (.s16 (.s4 (.s4 (.s (.s (.s .z)))))))) ?_))))
 refine FJ.call (goes_list rfl) rfl (by decide) rfl (c_call rfl Tryd.func14 rfl rfl (args1 (.t .z))) .n (fun w1 S1 hs tr => c_14 _ (by first | assumption | omega) (MaxL.tr tr hG)) ?_
 rintro _ _ ⟨v13, rfl, rfl⟩
 refine FJ.cat (.c .n) ?_
 refine FJ.know (WS.oform .z) ?_
 rintro ⟨Ao15, co15, rfl, hlo15, hmo15, hbo15⟩
 refine FJ.e (goes_list rfl) rfl (by decide) rfl (e_alloc rfl z_30 rfl rfl) ?_
 rintro _ _ ⟨g16, rfl, rfl⟩
 refine FJ.es (goes_list rfl) rfl (es_store (off := 0) (cs := [.int .i64 ((splitR s).code), .slice Ao15 ((splitR s).names).length co15]) rfl sz_30 (.t .z) (.t (.s .z)) rfl (ones rfl) .z (Nat.le_of_ble_eq_true rfl) (.c .z (.c (.s .z) .n))) ?_
 refine FJ.nil (FJ.then_ (FJ.seq (FJ.seq (FJ.region ?_))))
 refine FJ.ql rfl (q_loadA (cs := [.int .i64 ((splitR s).code), .slice Ao15 ((splitR s).names).length co15]) rfl ag_30 sz_30 (.t .z) (WS.rows0 .z (fun i u h => by exact h))) ?_
 refine FJ.ql rfl (q_loadA (cs := [.int .i64 ((splitR s).code), .slice Ao4 ((splitR s).names).length co4]) rfl ag_30 sz_30 (.t (.s16 (.s4 (.s4 .z)))) (WS.rows0 (.s4 .z) (fun i u h => by exact h))) ?_
 refine FJ.call (goes_list rfl) rfl (by decide) rfl (c_call rfl Tryd.func15 rfl rfl (args2 (.t (.s .z)) (.t .z))) .n (fun w1 S1 hs tr => c_15 (kT_30_mk (splitR s) (tr.own (.s .z))) (kT_30_mk (splitR s) (tr.own (.s4 (.s .z))))) ?_
 rintro _ _ ⟨rfl, rfl⟩
 refine FJ.cat .n ?_
 refine FJ.ql rfl (q_not rfl (.t .z)) (FJ.nil (FJ.then_ ?_))
 refine FJ.condN (.t .z) (fun b17 => ?_) (fun b17 => ?_)
 exfalso; first | omega | contradiction
 refine FJ.skip (FJ.then_ (FJ.seq (FJ.region (FJ.er (.s4 (.s4 (.s4 .z))) ?_))))
 refine FJ.ql rfl (q_assign rfl .c) (FJ.nil (FJ.then_ (FJ.seq (FJ.region ?_))))
 refine FJ.ql rfl (q_loadA (cs := [.int .i64 ((splitR s).code), .slice Ao8 ((splitR s).names).length co8]) rfl ag_30 sz_30 (.t (.s16 (.s4 (.s4 .z)))) (WS.rows0 (.s (.s (.s .z))) (fun i u h => by exact h))) ?_
 refine FJ.ql rfl (q_move rfl (.t (.s .z))) ?_
 refine FJ.call (goes_list rfl) rfl (by decide) rfl (c_call rfl Tryd.func17 rfl rfl (args2 (.t (.s .z)) (.t .z))) .n (fun w1 S1 hs tr => c_17 (kT_30_mk (⟨(splitR s).code, (vmark_RNames 1 (splitR s)).names⟩ : RNames) (tr.own (.s (.s .z)))) _ (splitR s) rfl (by omega) (by first | omega | (omega))) ?_
 rintro _ _ ⟨rfl, rfl⟩
 refine FJ.cat .n ?_
 refine FJ.er (.s (.s (.s .z))) (FJ.ql rfl (q_assign rfl (.t .z)) (FJ.nil (FJ.then_ (FJ.seq ?_))))
 refine FJ.seq (FJ.region (FJ.ql rfl (q_move rfl (.t .z)) (FJ.ql rfl (q_lss rfl (.t .z) .c) (FJ.nil ?_))))
 refine FJ.then_ ?_
 refine FJ.condP (.t .z) (fun b18 => ?_) (fun b18 => ?_)
 exfalso; first | omega | contradiction
 refine FJ.skip (FJ.then_ (FJ.seq (FJ.seq (FJ.region ?_))))
 refine FJ.ql rfl (q_move rfl (.t (.s (.s .z)))) (FJ.ql rfl (q_move rfl (.t (.s16 (.s4 (.s (.s .z)))))) (FJ.ql rfl (q_neq rfl (.t (.s .z)) (.t .z)) (FJ.nil (FJ.then_ ?_))))
 refine FJ.condN (.t .z) (fun b19 => ?_) (fun b19 => ?_)
 exfalso; first | omega | contradiction
 refine FJ.skip (FJ.then_ (FJ.seq (FJ.region (FJ.er (.s16 (.s16 (.s4 (.s4 (.s .z))))) ?_))))
 refine FJ.ql rfl (q_assign rfl .c) (FJ.nil (FJ.then_ (FJ.ret ?_)))
 refine FJ.doneS (res1 rfl .z) .n ?_
 exact ⟨rfl, rfl⟩

end Go.Proofs.YtbfcpfmhmhklnaaDoor

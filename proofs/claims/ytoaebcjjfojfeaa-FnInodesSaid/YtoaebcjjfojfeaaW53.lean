/- What is proved: contracts of functions, one a function. No condition. -/
import Derived.Test.YtoaebcjjfojfeaaW52
import Derived.Test.YtoaebcjjfojfeaaBase2
namespace Go.Proofs.Ytoaebcjjfojfeaa
open Go Go.RowKit
set_option linter.unusedVariables false
set_option linter.unusedSimpArgs false
set_option maxHeartbeats 1000000 in
set_option maxRecDepth 20000 in
theorem c_47 {w0 : World} {S0 : Bs} (n : Int)  :
    Calls Try.prog 47 #[.int .i64 n] w0 (TriPost w0 S0 (RA_48 (forR n))) := by
 refine FJ.enter (N := 10) Try.func47 rfl rfl (by simp) [(0, .int .i64 n)] (by simp) (l0 := []) trivial ?_
 refine FJ.seq (FJ.region ?_)
 refine FJ.e (goes_list rfl) rfl (by decide) rfl (e_alloc rfl z_48 rfl rfl) ?_
 rintro _ _ ⟨g1, rfl, rfl⟩
 refine FJ.nil (FJ.then_ (FJ.seq (FJ.seq (FJ.region ?_))))
 refine FJ.ql rfl (q_move rfl (.t (.s .z))) ?_
 refine FJ.call (goes_list rfl) rfl (by decide) rfl (c_call rfl Try.func84 rfl rfl (args3 (.t .z) .c .c)) .n (fun w1 S1 hs tr => c_84 _ _ _) ?_
 rintro _ _ ⟨rfl, rfl⟩
 refine FJ.cat .n ?_
 refine FJ.ql rfl (q_not rfl (.t .z)) (FJ.nil (FJ.then_ ?_))
 refine FJ.condN (.t .z) (fun b2 => ?_) (fun b2 => ?_)
 refine FJ.seq (FJ.region ?_)
 refine FJ.ql rfl (q_build (ps := [(0, .int .i64 3)]) (cs := [.int .i64 3, .int .i64 0]) rfl bl_48 (by intro act hact; simp only [List.map_toArray, List.map_cons, List.map_nil, (show Val _ _ _ from .c) act hact]) rfl) ?_
 refine FJ.es (goes_list rfl) rfl (es_store (off := 0) (cs := [.int .i64 3, .int .i64 0]) rfl sz_48 (.t (.s4 .z)) (.t .z) rfl (ones rfl) .z (Nat.le_of_ble_eq_true rfl) (.c .z (.c (.s .z) .n))) ?_
 refine FJ.nil (FJ.then_ (FJ.ret (FJ.thenR ?_)))
 refine FJ.doneS (resC (cs := [.int .i64 3, .int .i64 0]) rfl (.s4 .z) ag_48 sz_48 (WS.rows0 (cs := [.int .i64 3, .int .i64 0]) .z (fun _ _ h => h))) .n ?_
 first | rw [forR_3 (by assumption)] | rw [forR_0 (by assumption)]
 exact ⟨rfl, rfl⟩
 refine FJ.skip (FJ.then_ (FJ.seq (FJ.region (FJ.ql rfl (q_move rfl (.t (.s4 .z))) ?_))))
 refine FJ.call (goes_list rfl) rfl (by decide) rfl (c_call rfl Try.func100 rfl rfl (args1 (.t .z))) .n (fun w1 S1 hs tr => c_100 _ (by omega) (by omega)) ?_
 rintro _ _ ⟨rfl, rfl⟩
 refine FJ.cat .n ?_
 refine FJ.ql rfl (q_build (ps := [(1, .int .i64 ((n + 7) / 8))]) (cs := [.int .i64 0, .int .i64 ((n + 7) / 8)]) rfl bl_48 (by intro act hact; simp only [List.map_toArray, List.map_cons, List.map_nil, (show Val _ _ _ from (.t .z)) act hact]) rfl) ?_
 refine FJ.es (goes_list rfl) rfl (es_store (off := 0) (cs := [.int .i64 0, .int .i64 ((n + 7) / 8)]) rfl sz_48 (.t (.s4 (.s (.s .z)))) (.t .z) rfl (ones rfl) .z (Nat.le_of_ble_eq_true rfl) (.c .z (.c (.s .z) .n))) ?_
 refine FJ.nil (FJ.then_ (FJ.ret ?_))
 refine FJ.doneS (resC (cs := [.int .i64 0, .int .i64 ((n + 7) / 8)]) rfl (.s4 (.s (.s .z))) ag_48 sz_48 (WS.rows0 (cs := [.int .i64 0, .int .i64 ((n + 7) / 8)]) .z (fun _ _ h => h))) .n ?_
 first | rw [forR_3 (by assumption)] | rw [forR_0 (by assumption)]
 exact ⟨rfl, rfl⟩

end Go.Proofs.Ytoaebcjjfojfeaa

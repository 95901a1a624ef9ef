/- What is proved: contracts of functions, one a function. No condition. -/
import Derived.Test.YtkmcpcahbfdohaaW1
import Derived.Test.YtkmcpcahbfdohaaW4
namespace Go.Proofs.Ytkmcpcahbfdohaa
open Go Go.RowKit
set_option linter.unusedVariables false
set_option linter.unusedSimpArgs false
set_option maxHeartbeats 1000000 in
set_option maxRecDepth 20000 in
theorem c_78 {w0 : World} {S0 : Bs} (n : Int) (hn : 0 ≤ n ∧ n ≤ 60) :
    Calls Try.prog 78 #[.int .i64 n] w0 (TriPost w0 S0 (RA_25 ⟨List.replicate n.toNat [], []⟩)) := by
 refine FJ.enter (N := 6) Try.func78 rfl rfl (by simp) [(0, .int .i64 n)] (by simp) (l0 := []) trivial ?_
 refine FJ.seq (FJ.region ?_)
 refine FJ.e (goes_list rfl) rfl (by decide) rfl (e_alloc rfl z_25 rfl rfl) ?_
 rintro _ _ ⟨g1, rfl, rfl⟩
 refine FJ.nil (FJ.then_ (FJ.seq (FJ.region (FJ.ql rfl (q_move rfl (.t (.s .z))) ?_))))
 refine FJ.eq .z (congrArg (Value.int .i64) (show n = ((Int.toNat n : Nat) : Int) by omega)) ?_
 refine FJ.e (goes_list rfl) rfl (by decide) rfl (e_makeSlice (n := Int.toNat n) (x0 := ([] : (List Int))) rfl u_22 inf_40 rfl (fun w S => own_nil w S none) (.t .z) (.t .z) (by omega) (by omega)) ?_
 rintro _ _ rfl
 refine FJ.know (WS.oform .z) ?_
 rintro ⟨Ao3, co3, rfl, hlo3, hmo3, hbo3⟩
 refine FJ.ql rfl (q_build (ps := [(0, .slice Ao3 (List.replicate (Int.toNat n) ([] : (List Int))).length co3)]) (cs := [.slice Ao3 (List.replicate (Int.toNat n) ([] : (List Int))).length co3, .slice none 0 0]) rfl bl_25 (by intro act hact; simp only [List.map_toArray, List.map_cons, List.map_nil, (show Val _ _ _ from (.t .z)) act hact]) rfl) ?_
 refine FJ.es (goes_list rfl) rfl (es_store (off := 0) (cs := [.slice Ao3 (List.replicate (Int.toNat n) ([] : (List Int))).length co3, .slice none 0 0]) rfl sz_25 (.t (.s (.s (.s .z)))) (.t .z) rfl (ones rfl) (.s .z) (Nat.le_of_ble_eq_true rfl) (.c .z (.c (.s .z) .n))) ?_
 refine FJ.nil (FJ.then_ (FJ.ret ?_))
 refine FJ.add (c := ownA kSl_57 [] [.slice none 0 0]) (fun w S => own_nil w S none) ?_
 refine FJ.doneS (resC (cs := [.slice Ao3 (List.replicate (Int.toNat n) ([] : (List Int))).length co3, .slice none 0 0]) rfl (.s (.s (.s .z))) ag_25 sz_25 (WS.rows0 (cs := [.slice Ao3 (List.replicate (Int.toNat n) ([] : (List Int))).length co3, .slice none 0 0]) (.s .z) (fun _ _ h => h))) (.c (.s (.s .z)) (.c .z .n)) ?_
 skip
 exact ⟨_, _, rfl, rfl⟩
end Go.Proofs.Ytkmcpcahbfdohaa

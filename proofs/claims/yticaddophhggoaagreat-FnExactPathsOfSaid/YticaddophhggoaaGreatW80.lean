/- What is proved: contracts of functions, one a function. No condition. -/
import Derived.Test.YticaddophhggoaaGreatW1
import Derived.Test.YticaddophhggoaaGreatBase2
import Derived.Test.YticaddophhggoaaGreatStrL
namespace Go.Proofs.YticaddophhggoaaGreat
open Go Go.RowKit
set_option linter.unusedVariables false
set_option linter.unusedSimpArgs false
set_option maxHeartbeats 1000000 in
set_option maxRecDepth 20000 in
theorem c_186 {w0 : World} {S0 : Bs} {x : (List ByteArray)} {v0 : Value} (h0 : kSl_9.ro w0 (FF w0 S0) x [v0]) (hok : ∀ s, s ∈ x → nameFault s = 0) (hl : x.length ≤ 6) :
    Calls Tryz.prog 186 #[v0] w0 (TriPost w0 S0 (fun r l => r = .string (joinB x) ∧ l = [])) := by
 obtain ⟨A0, c0, rfl, hl0, hm0, hb0, he0⟩ := ro_form h0
 have hjs := join_sz hok hl
 have h47 : (⟨#[47]⟩ : ByteArray).size = 1 := rfl
 refine FJ.enter (N := 6) Tryz.func186 rfl rfl (by simp) [(0, .slice A0 x.length c0)] (by simp) (l0 := []) trivial ?_
 refine FJ.seq (FJ.region (FJ.ql rfl (q_assign rfl .c) (FJ.nil (FJ.then_ ?_))))
 refine FJ.seq (FJ.region (FJ.ql rfl (q_move rfl (.t (.s .z))) ?_))
 refine FJ.call (goes_list rfl) rfl (by decide) rfl (c_call rfl Tryz.func205 rfl rfl (args2 (.t .z) .c)) .n (fun w1 S1 hs tr => c_205 (tr.ctx h0) (by assumption) (by assumption)) ?_
 rintro _ _ ⟨rfl, rfl⟩
 refine FJ.cat .n ?_
 refine FJ.ql rfl (q_sadd rfl .c (.t .z) (by omega)) ?_
 refine FJ.er (.s (.s (.s .z))) (FJ.ql rfl (q_assign rfl (.t .z)) (FJ.nil (FJ.then_ (FJ.ret ?_))))
 refine FJ.doneS (res1 rfl .z) .n ?_
 exact ⟨congrArg Value.string (join_eq x), rfl⟩

end Go.Proofs.YticaddophhggoaaGreat

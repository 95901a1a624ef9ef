/- What is proved: how many cells the results have at most. No condition. -/
import Derived.Test.YtkmcpcahbfdohaaMDisk
import Derived.Test.YtkmcpcahbfdohaaLawData
namespace Go.Proofs.Ytkmcpcahbfdohaa
theorem sumF_rep {α : Type} (f : α → Nat) (x : α) : ∀ n, sumF f (List.replicate n x) = n * f x
  | 0 => by simp [sumF]
  | n + 1 => by rw [List.replicate_succ, sumF, sumF_rep f x n, Nat.succ_mul]; omega
theorem newDisk_cnt (n : Int) : vcnt_RDisk (newDisk n) ≤ 1048576 := by
  unfold newDisk
  split <;> simp [vcnt_RDisk, vcnt_DDisk, sumF, sumF_rep]
theorem newKern_cnt (n : Int) : vcnt_RKern (newKern n) ≤ 1048577 := by
  have h := newDisk_cnt n
  unfold vcnt_RDisk at h
  unfold newKern
  split <;> simp [vcnt_RKern, vcnt_DKern, vcnt_DDisk, sumF, badKern] at h ⊢ <;> omega
end Go.Proofs.Ytkmcpcahbfdohaa

/- What is proved: how much there is to mark, of inodes and of lists of blocks. No condition. -/
import Derived.Test.YtbcdcakcmdcafaaGreatLawData
import Derived.Test.YtbcdcakcmdcafaaGreatMPack
namespace Go.Proofs.YtbcdcakcmdcafaaGreat
set_option linter.unusedVariables false
set_option linter.unusedSimpArgs false
theorem sumF_mul {α : Type} {f g : α → Nat} {m : Nat} (h : ∀ x, f x ≤ m * g x) : ∀ xs : List α, sumF f xs ≤ m * sumF g xs
  | [] => Nat.zero_le _
  | x :: xs => by
    have h1 := h x
    have h2 := sumF_mul h xs
    simp only [sumF, Nat.mul_add]
    omega
theorem sumF_const {α : Type} (c : Nat) : ∀ xs : List α, sumF (fun _ => c) xs = xs.length * c
  | [] => by simp [sumF]
  | x :: xs => by simp only [sumF, sumF_const c xs, List.length_cons, Nat.succ_mul]; omega
theorem inode_cnt_wt (x : DInode) : cnt_DInode x ≤ 3 + 2 * wt_DInode x := by
  unfold cnt_DInode wt_DInode
  have h : sumF cnt_DEnt x.ents = x.ents.length * 2 := by
    have e : cnt_DEnt = fun _ => 2 := by funext e; rfl
    rw [e, sumF_const]
  omega
theorem inodes_cnt_wt (xs : List DInode) : sumF cnt_DInode xs ≤ 3 * (xs.length + sumF wt_DInode xs) := by
  have : ∀ ys : List DInode, sumF cnt_DInode ys ≤ 3 * (ys.length + sumF wt_DInode ys) := by
    intro ys
    induction ys with
    | nil => simp [sumF]
    | cons y ys ih =>
      have h := inode_cnt_wt y
      simp only [sumF, List.length_cons]
      omega
  exact this xs
theorem used_len_20 {xs : List DInode} (h : inodesFault xs = 0) : (sortI (usedL xs)).length ≤ 40 := by
  rw [sortI_len]
  have := usedL_40 h xs.length
  rwa [List.take_length] at this
theorem usedR_cnt (xs : List DInode) : vcnt_RInts (usedR xs) ≤ 40 := by
  unfold vcnt_RInts usedR
  split
  · rename_i h
    split
    · have := used_len_20 h; simp only; omega
    · simp
  · simp
theorem freeR_cnt (xs : List DInode) (b : List Int) : vcnt_RInts (freeR xs b) ≤ 40 := by
  unfold vcnt_RInts freeR
  split
  · have : (freeTo xs b).length ≤ 20 := placesTo_len
    simp only; omega
  · simp
theorem pickR_cnt (xs : List DInode) (b : List Int) (n : Int) : vcnt_RInts (pickR xs b n) ≤ 40 := by
  unfold vcnt_RInts pickR pickOf
  split
  · split
    · split
      · simp
      · have : (freeTo xs b).length ≤ 20 := placesTo_len
        simp only [List.length_take]; omega
    · simp
  · simp
theorem packR_cnt (x : DInode) : vcnt_RInts (packR x) ≤ 44 := by
  unfold vcnt_RInts packR
  split
  · rename_i h; have := packI_len h; simp only; omega
  · simp
theorem inode_vcnt_wt (x : DInode) : vcnt_DInode x ≤ 3 + 2 * wt_DInode x := by
  have := inode_cnt_wt x
  unfold cnt_DInode at this
  unfold vcnt_DInode
  omega
end Go.Proofs.YtbcdcakcmdcafaaGreat

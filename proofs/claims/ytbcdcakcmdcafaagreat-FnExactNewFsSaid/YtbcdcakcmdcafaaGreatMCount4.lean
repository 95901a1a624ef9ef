/- What is proved: how much there is to mark, of files. No condition. -/
import Derived.Test.YtbcdcakcmdcafaaGreatMCount3
import Derived.Test.YtbcdcakcmdcafaaGreatMFile
namespace Go.Proofs.YtbcdcakcmdcafaaGreat
set_option linter.unusedVariables false
set_option linter.unusedSimpArgs false
theorem sumF_rep0 {α : Type} (f : α → Nat) (x : α) (h : f x = 0) : ∀ n, sumF f (List.replicate n x) = 0
  | 0 => rfl
  | n + 1 => by rw [List.replicate_succ, sumF, h, sumF_rep0 f x h n]
theorem sumF_set {α : Type} (f : α → Nat) (y : α) : ∀ (xs : List α) (i : Nat), sumF f (xs.set i y) ≤ sumF f xs + f y
  | [], _ => by simp [sumF]
  | x :: xs, 0 => by simp only [List.set_cons_zero, sumF]; omega
  | x :: xs, i + 1 => by simp only [List.set_cons_succ, sumF]; have := sumF_set f y xs i; omega
theorem newR_cnt (data : List (List UInt8)) : vcnt_RFs (newR data) ≤ 3 + sumF (fun x => x.length) data := by
  unfold newR
  split
  · simp only [vcnt_RFs, vcnt_DFs, newF, padD, sumF_app, sumF, cnt_DInode, List.length_nil]
    rw [sumF_rep0 (fun x : List UInt8 => x.length) [] rfl]
    omega
  · simp [vcnt_RFs, vcnt_DFs, sumF]
theorem bytesR_cnt (f : DFs) (a : Int) : vcnt_RBytes (bytesR f a) ≤ 40 := by
  unfold bytesR
  split
  · rename_i h
    have := fileB_len (fsTree (bytesOk h).1) a
    simp only [vcnt_RBytes]; omega
  · simp [vcnt_RBytes]
theorem part_len {L : List UInt8} {i n : Int} : (partB L i n).length ≤ L.length := by
  unfold partB subL
  rw [List.length_drop, List.length_take]
  omega
theorem readR_cnt (f : DFs) (a i n : Int) : vcnt_RBytes (readR f a i n) ≤ 40 := by
  unfold readR
  split
  · rename_i h
    have h1 := fileB_len (fsTree (bytesOk h).1) a
    have h2 := part_len (L := fileB f a) (i := i) (n := n)
    split
    · simp only [vcnt_RBytes]; omega
    · simp [vcnt_RBytes]
  · simp [vcnt_RBytes]
theorem dropB_cnt (data : List (List UInt8)) (bs : List Int) : ∀ k, sumF (fun x => x.length) (dropB data bs k) ≤ sumF (fun x => x.length) data
  | 0 => Nat.le_refl _
  | k + 1 => by
    simp only [dropB]
    split
    · have h1 := sumF_set (fun x : List UInt8 => x.length) [] (dropB data bs k) (Int.toNat ‹Int›)
      have h2 := dropB_cnt data bs k
      simp only [List.length_nil] at h1
      omega
    · exact dropB_cnt data bs k
theorem dropF_cnt (f : DFs) (a : Int) : vcnt_DFs (dropF f a) ≤ vcnt_DFs f + 3 := by
  have h1 := sumF_set cnt_DInode ⟨0, 0, 0, [], []⟩ f.inodes a.toNat
  have h2 := dropB_cnt f.data (blocksAt f.inodes a) (blocksAt f.inodes a).length
  have h3 : cnt_DInode ⟨0, 0, 0, [], []⟩ = 3 := rfl
  unfold vcnt_DFs
  simp only [dropF, dropAll]
  omega
theorem dropR_cnt (f : DFs) (a : Int) : vcnt_RFs (dropR f a) ≤ 3 * wt_DFs f + 3 := by
  have h1 := dropF_cnt f a
  have h2 := fs_cnt_wt f
  unfold dropR
  split
  · simp only [vcnt_RFs]; omega
  · simp [vcnt_RFs, vcnt_DFs, sumF]
end Go.Proofs.YtbcdcakcmdcafaaGreat

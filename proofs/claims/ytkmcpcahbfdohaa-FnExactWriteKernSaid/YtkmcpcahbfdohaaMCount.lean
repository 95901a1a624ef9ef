/- What is proved: how many cells the results have at most. No condition. -/
import Derived.Test.YtkmcpcahbfdohaaMDisk
import Derived.Test.YtkmcpcahbfdohaaLawData
namespace Go.Proofs.Ytkmcpcahbfdohaa
set_option linter.unusedVariables false
set_option linter.unusedSimpArgs false
theorem sumF_rep {α : Type} (f : α → Nat) (x : α) : ∀ n, sumF f (List.replicate n x) = n * f x
  | 0 => by simp [sumF]
  | n + 1 => by rw [List.replicate_succ, sumF, sumF_rep f x n, Nat.succ_mul]; omega
theorem newDisk_cnt (n : Int) : vcnt_RDisk (newDisk n) ≤ 1048576 := by
  unfold newDisk
  split <;> simp [vcnt_RDisk, vcnt_DDisk, sumF, sumF_rep]
theorem newKern_cnt (n : Int) : vcnt_RKern (newKern n) ≤ 1048577 := by
  have h := newDisk_cnt n
  unfold vcnt_RDisk at h
  unfold newKern
  split <;> simp [vcnt_RKern, vcnt_DKern, vcnt_DDisk, sumF, badKern] at h ⊢ <;> omega
theorem sumF_bound {α : Type} {f : α → Nat} {B : Nat} : ∀ {xs : List α}, (∀ x, x ∈ xs → f x ≤ B) → sumF f xs ≤ xs.length * B
  | [], _ => by simp [sumF]
  | x :: xs, h => by
    have h1 := h x List.mem_cons_self
    have h2 := sumF_bound (xs := xs) (fun y hy => h y (List.mem_cons_of_mem _ hy))
    simp only [sumF, List.length_cons, Nat.succ_mul]; omega
theorem sumF_addf {α : Type} {f g : α → Nat} (h : ∀ x, f x = 1 + g x) : ∀ xs : List α, sumF f xs = xs.length + sumF g xs
  | [] => rfl
  | x :: xs => by simp only [sumF, List.length_cons, sumF_addf h xs, h x]; omega
theorem disk_cnt_wt (d : DDisk) : vcnt_DDisk d ≤ wt_DDisk d := by
  have h := sumF_addf (f := cnt_DPut) (g := wt_DPut) (fun x => by simp only [cnt_DPut, wt_DPut]; omega) d.cache
  simp only [vcnt_DDisk, wt_DDisk]; omega
theorem blocks_cnt {bs : List (List Int)} (h1 : bs.length ≤ 60) (h2 : ∀ b, b ∈ bs → b.length ≤ 64) : sumF (fun x => x.length) bs ≤ 4000 := by
  have := sumF_bound (f := fun x : List Int => x.length) h2
  have h3 : bs.length * 64 ≤ 60 * 64 := Nat.mul_le_mul_right _ h1
  omega
theorem puts_cnt {ps : List DPut} (h1 : ps.length ≤ 200) (h2 : ∀ p, p ∈ ps → p.words.length ≤ 64) : sumF cnt_DPut ps ≤ 13000 := by
  have := sumF_bound (f := cnt_DPut) (B := 65) (xs := ps) (fun p hp => by have := h2 p hp; simp only [cnt_DPut]; omega)
  have h3 : ps.length * 65 ≤ 200 * 65 := Nat.mul_le_mul_right _ h1
  omega
theorem badDisk_cnt (c : Int) : vcnt_RDisk (badDisk c) = 0 := by simp [vcnt_RDisk, vcnt_DDisk, badDisk, sumF]
theorem putBlock_cnt (d : DDisk) (a : Int) (ws : List Int) : vcnt_RDisk (putBlock d a ws) ≤ 1048576 := by
  unfold putBlock
  split
  · rename_i hd
    obtain ⟨h1, h2, h3, h4⟩ := diskOk hd
    split
    · split
      · rename_i hw
        split
        · rw [badDisk_cnt]; omega
        · have e1 := blocks_cnt h1 (fun b hb => words_64 (h3 b hb))
          have e2 := puts_cnt h2 (fun p hp => words_64 (h4 p hp).2)
          have e3 := words_64 hw
          simp only [vcnt_RDisk, vcnt_DDisk, sumF_snoc]
          have : cnt_DPut ⟨a, ws⟩ = 1 + ws.length := rfl
          omega
      · rw [badDisk_cnt]; omega
    · rw [badDisk_cnt]; omega
  · rw [badDisk_cnt]; omega
theorem kept_cnt {d : DDisk} (h : diskFault d = 0) (all : Bool) (ks : List Bool) : sumF (fun x => x.length) (keepN all ks d.cache d.blocks d.cache.length) ≤ 4000 := by
  obtain ⟨h1, h2, h3, h4⟩ := diskOk h
  exact blocks_cnt (by rw [keepN_len]; exact h1) (keepN_64 (fun b hb => words_64 (h3 b hb)) (fun p hp => words_64 (h4 p hp).2) _)
theorem flushDisk_cnt (d : DDisk) : vcnt_RDisk (flushDisk d) ≤ 1048576 := by
  by_cases h : diskFault d = 0
  · have := kept_cnt h true []
    rw [flushDisk_0 h]; simp only [vcnt_RDisk, vcnt_DDisk, sumF]; omega
  · rw [flushDisk_f h, badDisk_cnt]; omega
theorem crashDisk_cnt (d : DDisk) (ks : List Bool) : vcnt_RDisk (crashDisk d ks) ≤ 1048576 := by
  by_cases h : diskFault d = 0
  · have := kept_cnt h false ks
    rw [crashDisk_0 h]; simp only [vcnt_RDisk, vcnt_DDisk, sumF]; omega
  · rw [crashDisk_f h, badDisk_cnt]; omega
theorem badKern_cnt (c : Int) : vcnt_RKern (badKern c) = 0 := by simp [vcnt_RKern, vcnt_DKern, vcnt_DDisk, badKern, sumF]
theorem exts_cnt {es : List DExt} (h : es.length ≤ 9) : sumF cnt_DExt es ≤ 27 := by
  have := sumF_bound (f := cnt_DExt) (B := 3) (xs := es) (fun p _ => by simp [cnt_DExt])
  omega
theorem kern_cnt_wt (k : DKern) : vcnt_DKern k ≤ 3 * wt_DKern k := by
  have h := disk_cnt_wt k.disk
  have := sumF_bound (f := cnt_DExt) (B := 3) (xs := k.exts) (fun p _ => by simp [cnt_DExt])
  simp only [vcnt_DKern, wt_DKern]; omega
theorem flushKern_cnt (k : DKern) (key : Int) : vcnt_RKern (flushKern k key) ≤ 1048576 := by
  by_cases h : kernFault k = 0
  · obtain ⟨hd, h8, _, _⟩ := kernOk h
    cases hh : hasKey key k.exts with
    | true =>
      have h1 := kept_cnt hd true []
      have h2 := exts_cnt (es := k.exts) (by omega)
      rw [flushKern_0 h hh]; simp only [vcnt_RKern, vcnt_DKern, vcnt_DDisk, sumF, List.length_nil]; omega
    | false => rw [flushKern_6 h hh, badKern_cnt]; omega
  · rw [flushKern_f h, badKern_cnt]; omega
theorem exts_cnt_wt (k : DKern) : sumF cnt_DExt k.exts ≤ 3 * wt_DKern k := by
  have := sumF_bound (f := cnt_DExt) (B := 3) (xs := k.exts) (fun p _ => by simp [cnt_DExt])
  simp only [wt_DKern]; omega
theorem writeKern_cnt (k : DKern) (key a : Int) (ws : List Int) : vcnt_RKern (writeKern k key a ws) ≤ 1048576 + 3 * wt_DKern k := by
  have h1 := putBlock_cnt k.disk a ws
  have h2 := exts_cnt_wt k
  unfold vcnt_RDisk at h1
  unfold writeKern
  split
  · split
    · simp only [vcnt_RKern, vcnt_DKern, List.length_nil]; omega
    · rw [badKern_cnt]; omega
  · rw [badKern_cnt]; omega
theorem sumF_erase {α : Type} (f : α → Nat) : ∀ (xs : List α) (i : Nat), sumF f (xs.eraseIdx i) ≤ sumF f xs
  | [], _ => by simp [sumF]
  | x :: xs, 0 => by simp only [List.eraseIdx_cons_zero, sumF]; omega
  | x :: xs, i + 1 => by simp only [List.eraseIdx_cons_succ, sumF]; have := sumF_erase f xs i; omega
theorem revoke_cnt (k : DKern) (a key : Int) : vcnt_RKern (revoke k a key) ≤ 3 * wt_DKern k := by
  have hw := kern_cnt_wt k
  unfold vcnt_DKern at hw
  unfold revoke
  split
  · split
    · rw [badKern_cnt]; omega
    · rename_i i _
      split
      · split
        · have := sumF_erase cnt_DExt k.exts i
          simp only [vcnt_RKern, vcnt_DKern, List.length_nil]; omega
        · rw [badKern_cnt]; omega
      · rw [badKern_cnt]; omega
  · rw [badKern_cnt]; omega
end Go.Proofs.Ytkmcpcahbfdohaa

/- What is proved: blocks that are used, free and picked, in plain Lean. No condition. -/
import Derived.Test.YtbcdcakcmdcafaaGreatMIno
import Derived.Lib.SlicesCompact
namespace Go.Proofs.YtbcdcakcmdcafaaGreat
open Go Go.RowKit
set_option linter.unusedVariables false
set_option linter.unusedSimpArgs false
def usedL (xs : List DInode) : List Int := (xs.map (·.blocks)).flatten
def sortI (l : List Int) : List Int := l.mergeSort (fun x y => decide (x ≤ y))
theorem sortI_perm (l : List Int) : (sortI l).Perm l := List.mergeSort_perm ..
theorem sortI_len (l : List Int) : (sortI l).length = l.length := (sortI_perm l).length_eq
theorem sortI_mem {l : List Int} {a : Int} : a ∈ sortI l ↔ a ∈ l := (sortI_perm l).mem_iff
theorem sortI_sorted (l : List Int) : (sortI l).Pairwise (· ≤ ·) := by
  have := List.pairwise_mergeSort (le := fun (x y : Int) => decide (x ≤ y)) (fun a b c h k => by simp at *; omega) (fun a b => by simp; omega) l
  exact this.imp (fun h => by simpa using h)
theorem usedL_take {xs : List DInode} {k : Nat} {x : DInode} (h : xs[k]? = some x) : usedL (xs.take k) ++ x.blocks = usedL (xs.take (k + 1)) := by
  unfold usedL
  rw [← take_snoc h]
  simp
/-- No two neighbours are equal: in a sorted list, no two at all. -/
theorem compact_len (zs : List Int) : (Lib.compact zs).length ≤ zs.length := by
  unfold Lib.compact Lib.compactUpTo
  rw [List.length_map]
  exact Nat.le_trans (List.length_filter_le _ _) (by simp)
theorem compact_nodup {zs : List Int} (h : zs.Nodup) : (Lib.compact zs).length = zs.length := by
  rw [Lib.compact_all zs]
  intro j hj
  by_cases h0 : j = 0
  · simp [Lib.keeps, h0]
  · refine Lib.keeps_pos ?_
    rw [getElem!_pos zs.toArray j (by simpa using hj), getElem!_pos zs.toArray (j - 1) (by simp; omega)]
    intro e
    have := List.pairwise_iff_getElem.1 (List.nodup_iff_pairwise_ne.1 h) (j - 1) j (by omega) hj (by omega)
    exact this (by simpa using e.symm)
theorem compact_dup {zs : List Int} (hs : zs.Pairwise (· ≤ ·)) (h : ¬ zs.Nodup) : (Lib.compact zs).length < zs.length := by
  -- a place whose left neighbour holds the same
  have hex : ∃ j, 0 < j ∧ ∃ h1 : j < zs.length, zs[j] = zs[j - 1] := by
    apply Classical.byContradiction
    intro hno
    apply h
    have hlt : ∀ (d i : Nat) (h1 : i + d + 1 < zs.length), zs[i] < zs[i + d + 1] := by
      intro d
      induction d with
      | zero =>
        intro i h1
        have h2 : zs[i] ≤ zs[i + 1] := List.pairwise_iff_getElem.1 hs i (i + 1) (by omega) h1 (by omega)
        have h3 : zs[i + 1] ≠ zs[i] := fun e => hno ⟨i + 1, by omega, h1, by simpa using e⟩
        simp only [Nat.add_zero]
        omega
      | succ d ih =>
        intro i h1
        have h2 := ih i (by omega)
        have h4 : zs[i + d + 1] ≤ zs[i + d + 1 + 1] := List.pairwise_iff_getElem.1 hs (i + d + 1) (i + d + 1 + 1) (by omega) (by omega) (by omega)
        have e : i + (d + 1) + 1 = i + d + 1 + 1 := by omega
        simp only [e]
        omega
    rw [List.nodup_iff_pairwise_ne, List.pairwise_iff_getElem]
    intro i j hi hj hij
    have := hlt (j - i - 1) i (by omega)
    have e : i + (j - i - 1) + 1 = j := by omega
    simp only [e] at this
    omega
  obtain ⟨j, hj0, hj, he⟩ := hex
  have hk : Lib.keeps zs.toArray j = false := by
    refine Lib.keeps_neg hj0 ?_
    rw [getElem!_pos zs.toArray j (by simpa using hj), getElem!_pos zs.toArray (j - 1) (by simp; omega)]
    simpa using he
  unfold Lib.compact Lib.compactUpTo
  rw [List.length_map]
  have := List.length_filter_lt_length_iff_exists (l := List.range zs.length) (p := Lib.keeps zs.toArray)
  rw [List.length_range] at this
  exact this.2 ⟨j, List.mem_range.2 hj, by rw [hk]; exact Bool.false_ne_true⟩
theorem compact_iff (l : List Int) : ((Lib.compact (sortI l)).length = (sortI l).length) ↔ l.Nodup := by
  constructor
  · intro h
    apply Classical.byContradiction
    intro hn
    have := compact_dup (sortI_sorted l) (fun h2 => hn ((sortI_perm l).nodup_iff.1 h2))
    omega
  · intro h
    exact compact_nodup ((sortI_perm l).nodup_iff.2 h)
/-! ### how often -/
def oneB (a b : Int) : Nat := if b = a then 1 else 0
def cntB (a : Int) (x : DInode) : Nat := sumF (oneB a) x.blocks
def countB (xs : List DInode) (a : Int) : Nat := sumF (cntB a) xs
theorem sumF_app {α : Type} (f : α → Nat) : ∀ xs ys : List α, sumF f (xs ++ ys) = sumF f xs + sumF f ys
  | [], ys => by simp [sumF]
  | x :: xs, ys => by simp only [List.cons_append, sumF, sumF_app f xs ys]; omega
theorem sum_count (a : Int) : ∀ l : List Int, sumF (oneB a) l = l.count a
  | [] => rfl
  | b :: l => by
    simp only [sumF, sum_count a l, List.count_cons, oneB, beq_iff_eq]
    omega
theorem countB_eq (a : Int) : ∀ xs : List DInode, countB xs a = (usedL xs).count a
  | [] => rfl
  | x :: xs => by
    have ih := countB_eq a xs
    unfold countB usedL at ih ⊢
    simp only [sumF, List.map_cons, List.flatten_cons, List.count_append, ← ih, cntB, sum_count]
theorem blocks_4 {x : DInode} (h : inodeFault x = 0) : x.blocks.length ≤ 4 ∧ ∀ b, b ∈ x.blocks → 0 ≤ b ∧ b ≤ 19 := by
  unfold inodeFault at h
  split at h
  · split at h
    · exact absurd h (by decide)
    · rename_i h1 h2
      split at h
      · unfold fileFault at h
        split at h
        · split at h
          · split at h
            · exact absurd h (by decide)
            · rename_i h3 h4 h5
              refine ⟨by omega, fun b hb => ?_⟩
              simp only [List.any_eq_true, not_exists, not_and] at h5
              have := h5 b hb
              simpa using this
          · exact absurd h (by decide)
        · exact absurd h (by decide)
      · have h0 : x.blocks.length = 0 := by omega
        exact ⟨by omega, fun b hb => by rw [List.length_eq_zero_iff.1 h0] at hb; cases hb⟩
  · exact absurd h (by decide)
theorem usedL_mem {xs : List DInode} (h : inodesFault xs = 0) {b : Int} (hb : b ∈ usedL xs) : 0 ≤ b ∧ b ≤ 19 := by
  unfold usedL at hb
  obtain ⟨l, hl, hb⟩ := List.mem_flatten.1 hb
  obtain ⟨x, hx, rfl⟩ := List.mem_map.1 hl
  exact (blocks_4 (inodes_all h x hx)).2 b hb
theorem usedL_len {xs : List DInode} (h : ∀ x, x ∈ xs → inodeFault x = 0) : (usedL xs).length ≤ xs.length * 4 := by
  induction xs with
  | nil => simp [usedL]
  | cons x xs ih =>
    have h1 := (blocks_4 (h x List.mem_cons_self)).1
    have h2 := ih (fun y hy => h y (List.mem_cons_of_mem _ hy))
    unfold usedL at h2 ⊢
    simp only [List.map_cons, List.flatten_cons, List.length_append, List.length_cons]
    omega
theorem usedL_40 {xs : List DInode} (h : inodesFault xs = 0) (k : Nat) : (usedL (xs.take k)).length ≤ 40 := by
  have h1 := usedL_len (xs := xs.take k) (fun x hx => inodes_all h x (List.mem_of_mem_take hx))
  have h2 := inodes_10 h
  rw [List.length_take] at h1
  omega
theorem count_40 {xs : List DInode} (h : inodesFault xs = 0) (a : Int) : countB xs a ≤ 40 := by
  rw [countB_eq]
  have := usedL_40 h xs.length
  rw [List.take_length] at this
  exact Nat.le_trans List.count_le_length this
/-! ### the places 0 .. k - 1 that are so -/
def placesTo (p : Int → Bool) (k : Nat) : List Int := ((List.range k).map (fun i : Nat => (i : Int))).filter p
theorem placesTo_on {p : Int → Bool} {k : Nat} (h : p (k : Int) = true) : placesTo p k ++ [(k : Int)] = placesTo p (k + 1) := by
  unfold placesTo
  rw [List.range_succ]
  simp [h]
theorem placesTo_off {p : Int → Bool} {k : Nat} (h : p (k : Int) = false) : placesTo p k = placesTo p (k + 1) := by
  unfold placesTo
  rw [List.range_succ]
  simp [h]
theorem placesTo_len {p : Int → Bool} {k : Nat} : (placesTo p k).length ≤ k := by
  unfold placesTo
  exact Nat.le_trans (List.length_filter_le _ _) (by simp)
theorem placesTo_mem {p : Int → Bool} {k : Nat} {a : Int} : a ∈ placesTo p k ↔ (0 ≤ a ∧ a < k) ∧ p a = true := by
  unfold placesTo
  rw [List.mem_filter, List.mem_map]
  constructor
  · rintro ⟨⟨i, hi, rfl⟩, hp⟩
    have := List.mem_range.1 hi
    exact ⟨⟨by omega, by omega⟩, hp⟩
  · rintro ⟨⟨h1, h2⟩, hp⟩
    exact ⟨⟨a.toNat, List.mem_range.2 (by omega), by omega⟩, hp⟩
theorem placesTo_lt {p : Int → Bool} {k : Nat} : (placesTo p k).Pairwise (· < ·) := by
  unfold placesTo
  refine List.Pairwise.filter _ ?_
  rw [List.pairwise_map]
  exact List.pairwise_lt_range.imp (fun h => by omega)
theorem placesTo_congr {p q : Int → Bool} {k : Nat} (h : ∀ a : Int, 0 ≤ a → a < k → p a = q a) : placesTo p k = placesTo q k := by
  unfold placesTo
  refine List.filter_congr fun a ha => ?_
  obtain ⟨i, hi, rfl⟩ := List.mem_map.1 ha
  have := List.mem_range.1 hi
  exact h _ (by omega) (by omega)
def onceTo (xs : List DInode) (k : Nat) : Prop := ∀ j, j < k → countB xs (j : Int) ≤ 1
instance (xs : List DInode) (k : Nat) : Decidable (onceTo xs k) := by unfold onceTo; infer_instance
theorem onceTo_s {xs : List DInode} {k : Nat} : onceTo xs (k + 1) ↔ onceTo xs k ∧ countB xs (k : Int) ≤ 1 := by
  unfold onceTo
  constructor
  · intro h
    exact ⟨fun j hj => h j (by omega), h k (by omega)⟩
  · rintro ⟨h1, h2⟩ j hj
    by_cases hk : j = k
    · subst hk; exact h2
    · exact h1 j (by omega)
theorem onceTo_20 {xs : List DInode} (h : inodesFault xs = 0) : onceTo xs 20 ↔ (usedL xs).Nodup := by
  rw [List.nodup_iff_count]
  constructor
  · intro ho a
    by_cases ha : a ∈ usedL xs
    · have hb := usedL_mem h ha
      have := ho a.toNat (by omega)
      rw [show ((a.toNat : Nat) : Int) = a by omega, countB_eq] at this
      exact this
    · rw [List.count_eq_zero_of_not_mem ha]; omega
  · intro hn j _
    rw [countB_eq]
    exact hn _
abbrev usedP (xs : List DInode) : Int → Bool := fun a => decide (0 < countB xs a)
theorem used_sorted {xs : List DInode} (h : inodesFault xs = 0) (hn : (usedL xs).Nodup) : placesTo (usedP xs) 20 = sortI (usedL xs) := by
  refine List.Perm.eq_of_pairwise (le := (· ≤ ·)) (fun a b _ _ h1 h2 => Int.le_antisymm h1 h2) (placesTo_lt.imp (fun h => Int.le_of_lt h)) (sortI_sorted _) ?_
  refine (List.perm_ext_iff_of_nodup (placesTo_lt.imp (fun h => Int.ne_of_lt h)) ((sortI_perm _).nodup_iff.2 hn)).2 fun a => ?_
  rw [placesTo_mem, sortI_mem, decide_eq_true_iff, countB_eq, List.count_pos_iff]
  exact ⟨fun h => h.2, fun ha => ⟨by have := usedL_mem h ha; omega, ha⟩⟩
def usedR (xs : List DInode) : RInts := if inodesFault xs = 0 then if (usedL xs).Nodup then ⟨0, sortI (usedL xs)⟩ else ⟨7, []⟩ else ⟨inodesFault xs, []⟩
theorem usedR_f {xs : List DInode} (h : ¬ inodesFault xs = 0) : usedR xs = ⟨inodesFault xs, []⟩ := if_neg h
theorem usedR_7 {xs : List DInode} (h : inodesFault xs = 0) (h2 : ¬ (usedL xs).Nodup) : usedR xs = ⟨7, []⟩ := by unfold usedR; rw [if_pos h, if_neg h2]
theorem usedR_0 {xs : List DInode} (h : inodesFault xs = 0) (h2 : (usedL xs).Nodup) : usedR xs = ⟨0, sortI (usedL xs)⟩ := by unfold usedR; rw [if_pos h, if_pos h2]
theorem usedR_s {xs : List DInode} (h : inodesFault xs = 0) (h2 : (usedL xs).Nodup) : usedR xs = ⟨0, placesTo (usedP xs) 20⟩ := by rw [usedR_0 h h2, used_sorted h h2]
abbrev freeP (xs : List DInode) (busy : List Int) : Int → Bool := fun b => decide (¬ b ∈ usedL xs ∧ ¬ b ∈ busy)
theorem count_0 {xs : List DInode} {a : Int} : (countB xs a : Int) = 0 ↔ ¬ a ∈ usedL xs := by
  rw [countB_eq]
  constructor
  · intro h ha
    have := List.count_pos_iff.2 ha
    omega
  · intro h
    rw [List.count_eq_zero_of_not_mem h]
    rfl
def freeTo (xs : List DInode) (busy : List Int) : List Int := placesTo (freeP xs busy) 20
def askFault (xs : List DInode) (busy : List Int) : Int := if inodesFault xs = 0 then busyFault busy else inodesFault xs
theorem ask_ok {xs : List DInode} {busy : List Int} (h : askFault xs busy = 0) : inodesFault xs = 0 := by
  unfold askFault at h
  split at h
  · assumption
  · exact h
def freeR (xs : List DInode) (busy : List Int) : RInts := if askFault xs busy = 0 then ⟨0, freeTo xs busy⟩ else ⟨askFault xs busy, []⟩
theorem freeR_f {xs : List DInode} {busy : List Int} (h : ¬ askFault xs busy = 0) : freeR xs busy = ⟨askFault xs busy, []⟩ := if_neg h
theorem freeR_0 {xs : List DInode} {busy : List Int} (h : askFault xs busy = 0) : freeR xs busy = ⟨0, freeTo xs busy⟩ := if_pos h
def pickOf (xs : List DInode) (busy : List Int) (n : Int) : RInts := if 0 ≤ n ∧ n ≤ 4 then if ((freeTo xs busy).length : Int) < n then ⟨8, []⟩ else ⟨0, (freeTo xs busy).take n.toNat⟩ else ⟨3, []⟩
theorem pickOf_3 {xs : List DInode} {busy : List Int} {n : Int} (h : ¬ (0 ≤ n ∧ n ≤ 4)) : pickOf xs busy n = ⟨3, []⟩ := if_neg h
theorem pickOf_8 {xs : List DInode} {busy : List Int} {n : Int} (h : 0 ≤ n ∧ n ≤ 4) (h2 : ((freeTo xs busy).length : Int) < n) : pickOf xs busy n = ⟨8, []⟩ := by unfold pickOf; rw [if_pos h, if_pos h2]
theorem pickOf_0 {xs : List DInode} {busy : List Int} {n : Int} (h : 0 ≤ n ∧ n ≤ 4) (h2 : ¬ ((freeTo xs busy).length : Int) < n) : pickOf xs busy n = ⟨0, (freeTo xs busy).take n.toNat⟩ := by unfold pickOf; rw [if_pos h, if_neg h2]
def pickR (xs : List DInode) (busy : List Int) (n : Int) : RInts := if askFault xs busy = 0 then pickOf xs busy n else ⟨askFault xs busy, []⟩
theorem pickR_f {xs : List DInode} {busy : List Int} {n : Int} (h : ¬ askFault xs busy = 0) : pickR xs busy n = ⟨askFault xs busy, []⟩ := if_neg h
theorem pickR_0 {xs : List DInode} {busy : List Int} {n : Int} (h : askFault xs busy = 0) : pickR xs busy n = pickOf xs busy n := if_pos h
end Go.Proofs.YtbcdcakcmdcafaaGreat

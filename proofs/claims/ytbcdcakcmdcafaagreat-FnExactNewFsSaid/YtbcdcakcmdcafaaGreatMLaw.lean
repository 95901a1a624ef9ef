/- What is proved: plain facts for the laws' own helpers: weights, copies, equality, marks. No condition. -/
import Derived.Test.YtbcdcakcmdcafaaGreatPlain
namespace Go.Proofs.YtbcdcakcmdcafaaGreat
set_option linter.unusedVariables false
set_option linter.unusedSimpArgs false
def sumF {α : Type} (f : α → Nat) : List α → Nat
  | [] => 0
  | x :: xs => f x + sumF f xs
theorem sumF_snoc {α : Type} (f : α → Nat) : ∀ (xs : List α) (x : α), sumF f (xs ++ [x]) = sumF f xs + f x
  | [], x => by simp [sumF]
  | y :: xs, x => by simp only [List.cons_append, sumF, sumF_snoc f xs x]; omega
theorem sumF_take {α : Type} (f : α → Nat) {xs : List α} {k : Nat} {x : α} (h : xs[k]? = some x) : sumF f (xs.take (k + 1)) = sumF f (xs.take k) + f x := by
  rw [List.take_add_one, h]; exact sumF_snoc f _ _
theorem sumF_all {α : Type} (f : α → Nat) {xs : List α} {k : Nat} (h : xs.length ≤ k) : sumF f (xs.take k) = sumF f xs := by rw [List.take_of_length_le h]
theorem sumF_le {α : Type} (f : α → Nat) : ∀ {xs : List α} {k : Nat}, sumF f (xs.take k) ≤ sumF f xs
  | [], k => by simp [sumF]
  | x :: xs, 0 => by simp [sumF]
  | x :: xs, k + 1 => by simp only [List.take_succ_cons, sumF]; have := sumF_le f (xs := xs) (k := k); omega
theorem sumF_one {α : Type} : ∀ xs : List α, sumF (fun _ => 1) xs = xs.length
  | [] => rfl
  | x :: xs => by simp only [sumF, sumF_one xs, List.length_cons]; omega
theorem sumF_get {α : Type} (f : α → Nat) {xs : List α} {k : Nat} {x : α} (h : xs[k]? = some x) : sumF f (xs.take k) + f x ≤ sumF f xs := by
  rw [← sumF_take f h]; exact sumF_le f
/-- A copy that grows. -/
def fillC {α : Type} (xs : List α) (z : α) (k : Nat) : List α := xs.take k ++ List.replicate (xs.length - k) z
theorem fillC_zero {α : Type} (xs : List α) (z : α) : List.replicate xs.length z = fillC xs z 0 := by simp [fillC]
theorem fillC_len {α : Type} {xs : List α} {z : α} {k : Nat} (h : k ≤ xs.length) : (fillC xs z k).length = xs.length := by simp [fillC]; omega
theorem fillC_set {α : Type} {xs : List α} {z : α} {k : Nat} {x : α} (h : xs[k]? = some x) : (fillC xs z k).set k x = fillC xs z (k + 1) := by
  have hk := (List.getElem?_eq_some_iff.1 h).1
  unfold fillC
  rw [List.take_add_one, h, List.set_append_right _ _ (by simp; omega)]
  have e : xs.length - k = (xs.length - (k + 1)) + 1 := by omega
  rw [e, List.replicate_succ]
  simp [Nat.min_eq_left (Nat.le_of_lt hk)]
theorem fillC_all {α : Type} {xs : List α} {z : α} {k : Nat} (h : xs.length ≤ k) : fillC xs z k = xs := by
  unfold fillC
  rw [List.take_of_length_le h, Nat.sub_eq_zero_of_le h]; simp
/-- Equality, element by element. -/
theorem eq_of_all {α : Type} {xs ys : List α} {k : Nat} (hl : (xs.length : Int) = (ys.length : Int)) (hk : xs.length ≤ k) (h : ∀ j, j < k → xs[j]? = ys[j]?) : xs = ys := by
  apply List.ext_getElem?
  intro j
  by_cases hj : j < k
  · exact h j hj
  · rw [List.getElem?_eq_none (by omega), List.getElem?_eq_none (by omega)]
theorem all_eq_zero {α : Type} {xs ys : List α} : ∀ j, j < 0 → xs[j]? = ys[j]? := fun j h => absurd h (Nat.not_lt_zero j)
theorem all_eq_succ {α : Type} {xs ys : List α} {k : Nat} {x y : α} (h : ∀ j, j < k → xs[j]? = ys[j]?) (hx : xs[k]? = some x) (hy : ys[k]? = some y) (e : x = y) : ∀ j, j < k + 1 → xs[j]? = ys[j]? := fun j hj => by
  by_cases hk : j = k
  · subst hk; rw [hx, hy, e]
  · exact h j (by omega)
theorem ne_of_get {α : Type} {xs ys : List α} {k : Nat} {x y : α} (hx : xs[k]? = some x) (hy : ys[k]? = some y) (e : ¬ x = y) : ¬ xs = ys := fun h => by
  subst h; rw [hx] at hy; exact e (Option.some.inj hy)
/-- Marks. -/
def markL {α : Type} (cnt : α → Nat) (mk : Int → α → α) : Int → List α → List α
  | _, [] => []
  | n, x :: xs => mk n x :: markL cnt mk (n + (cnt x : Int)) xs
theorem markL_len {α : Type} {cnt : α → Nat} {mk : Int → α → α} : ∀ (n : Int) (xs : List α), (markL cnt mk n xs).length = xs.length
  | _, [] => rfl
  | n, x :: xs => by simp [markL, markL_len]
theorem markL_snoc {α : Type} {cnt : α → Nat} {mk : Int → α → α} : ∀ (n : Int) (xs : List α) (x : α), markL cnt mk n (xs ++ [x]) = markL cnt mk n xs ++ [mk (n + (sumF cnt xs : Int)) x]
  | n, [], x => by simp [markL, sumF]
  | n, y :: xs, x => by
    simp only [List.cons_append, markL, markL_snoc (n + (cnt y : Int)) xs x, sumF]
    rw [show n + (cnt y : Int) + (sumF cnt xs : Int) = n + ((cnt y + sumF cnt xs : Nat) : Int) by omega]
theorem markL_take {α : Type} {cnt : α → Nat} {mk : Int → α → α} (n : Int) {xs : List α} {k : Nat} {x : α} (h : xs[k]? = some x) : markL cnt mk n (xs.take (k + 1)) = markL cnt mk n (xs.take k) ++ [mk (n + (sumF cnt (xs.take k) : Int)) x] := by
  rw [List.take_add_one, h]; exact markL_snoc n _ _
theorem markL_get {α : Type} {cnt : α → Nat} {mk : Int → α → α} : ∀ {n : Int} {xs : List α} {k : Nat} {y : α}, (markL cnt mk n xs)[k]? = some y → ∃ x, xs[k]? = some x ∧ y = mk (n + (sumF cnt (xs.take k) : Int)) x
  | n, [], k, y, h => by simp [markL] at h
  | n, x :: xs, 0, y, h => by
    simp [markL] at h
    exact ⟨x, rfl, by rw [← h]; simp [sumF]⟩
  | n, x :: xs, k + 1, y, h => by
    simp only [markL, List.getElem?_cons_succ] at h
    obtain ⟨z, h1, h2⟩ := markL_get h
    refine ⟨z, by simpa using h1, ?_⟩
    rw [h2]
    simp only [List.take_succ_cons, sumF]
    congr 1; omega
theorem markS_get {α : Type} {mk : Int → α → α} {n : Int} {xs ys : List α} {k : Nat} {y : α} (e : ys = markL (fun _ => 1) mk n xs) (h : ys[k]? = some y) : ∃ x, y = mk (n + (k : Int)) x := by
  subst e
  obtain ⟨x, hx, rfl⟩ := markL_get h
  have hk := (List.getElem?_eq_some_iff.1 hx).1
  exact ⟨x, by rw [sumF_one, List.length_take, Nat.min_eq_left (Nat.le_of_lt hk)]⟩
theorem markE_get {α : Type} {cnt : α → Nat} {mk : Int → α → α} {n : Int} {xs ys : List α} {k : Nat} {y : α} (e : ys = markL cnt mk n xs) (h : ys[k]? = some y) : ∃ x, xs[k]? = some x ∧ y = mk (n + (sumF cnt (xs.take k) : Int)) x := by
  subst e; exact markL_get h
theorem markE_len {α : Type} {cnt : α → Nat} {mk : Int → α → α} {n : Int} {xs ys : List α} (e : ys = markL cnt mk n xs) : ys.length = xs.length := by rw [e, markL_len]
/-- A slice of scalars, marked up to k. -/
def markS {α : Type} (mk : Int → α → α) (n : Int) (xs : List α) (k : Nat) : List α := markL (fun _ => 1) mk n (xs.take k) ++ xs.drop k
theorem markS_zero {α : Type} (mk : Int → α → α) (n : Int) (xs : List α) : xs = markS mk n xs 0 := by simp [markS, markL]
theorem markS_len {α : Type} {mk : Int → α → α} {n : Int} {xs : List α} {k : Nat} (h : k ≤ xs.length) : (markS mk n xs k).length = xs.length := by simp [markS, markL_len]; omega
theorem markS_set {α : Type} {mk : Int → α → α} {n : Int} {xs : List α} {k : Nat} {x : α} (hx : xs[k]? = some x) : (markS mk n xs k).set k (mk (n + (k : Int)) x) = markS mk n xs (k + 1) := by
  obtain ⟨h, rfl⟩ := List.getElem?_eq_some_iff.1 hx
  unfold markS
  rw [markL_take n hx, sumF_one, List.drop_eq_getElem_cons h, List.set_append_right _ _ (by rw [markL_len, List.length_take]; omega), markL_len, List.length_take, Nat.min_eq_left (Nat.le_of_lt h), Nat.sub_self, List.set_cons_zero]
  simp
theorem markS_all {α : Type} {mk : Int → α → α} {n : Int} {xs : List α} {k : Nat} (h : xs.length ≤ k) : markS mk n xs k = markL (fun _ => 1) mk n xs := by simp [markS, List.take_of_length_le h, List.drop_of_length_le h]
end Go.Proofs.YtbcdcakcmdcafaaGreat

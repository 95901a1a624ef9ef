/- What is proved: plain words on lists. No condition. -/
import Derived.Test.YtbcdcakcmdcafaaGreatData
namespace Go.Proofs.YtbcdcakcmdcafaaGreat
set_option linter.unusedVariables false
set_option linter.unusedSimpArgs false
def idxF {α : Type} (p : α → Bool) (xs : List α) : Int := match xs.findIdx? p with | some i => (i : Int) | none => -1
theorem idxF_some {α : Type} {p : α → Bool} {xs : List α} {k : Nat} {x : α} (hx : xs[k]? = some x) (hp : p x = true) (h : ∀ j x, j < k → xs[j]? = some x → p x = false) : idxF p xs = (k : Int) := by
  have : xs.findIdx? p = some k := by
    obtain ⟨hk, hxk⟩ := List.getElem?_eq_some_iff.1 hx
    rw [List.findIdx?_eq_some_iff_getElem]
    refine ⟨hk, by rw [hxk]; exact hp, fun j hj => ?_⟩
    have := h j xs[j] hj (List.getElem?_eq_getElem (by omega))
    simp [this]
  simp [idxF, this]
theorem all_succ {α : Type} {xs : List α} {q : Nat → α → Prop} {k : Nat} {y : α} (h : ∀ j x, j < k → xs[j]? = some x → q j x) (hy : xs[k]? = some y) (hq : q k y) : ∀ j x, j < k + 1 → xs[j]? = some x → q j x := fun j x hj hx => by
  rcases Nat.lt_succ_iff_lt_or_eq.1 hj with h1 | rfl
  · exact h j x h1 hx
  · rw [hy] at hx; obtain rfl := Option.some.inj hx; exact hq
theorem all_zero {α : Type} {xs : List α} {q : Nat → α → Prop} : ∀ j x, j < 0 → xs[j]? = some x → q j x := fun j _ h => absurd h (Nat.not_lt_zero j)
theorem idxF_none {α : Type} {p : α → Bool} {xs : List α} (h : ∀ (j : Nat) x, xs[j]? = some x → p x = false) : idxF p xs = -1 := by
  have : xs.findIdx? p = none := by
    rw [List.findIdx?_eq_none_iff]
    intro x hx
    obtain ⟨j, hj, rfl⟩ := List.mem_iff_getElem.1 hx
    exact h j _ (List.getElem?_eq_getElem hj)
  simp [idxF, this]
end Go.Proofs.YtbcdcakcmdcafaaGreat

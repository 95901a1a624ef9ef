/- What is proved: plain facts for the laws' own helpers: weights, copies, equality, marks. No condition. -/
import Derived.Test.YtoaebcjjfojfeaaBase0
import Derived.Laws.BytesArg
import Derived.Laws.StructEq
import Derived.ChangeArms
import Derived.SizedLaws
import Derived.OpenShut
import Derived.ChangeMaps5
import Derived.Lib.SlicesCompact
import Derived.Sort.Row
import Derived.Sort.Grow
namespace Go.Proofs.Ytoaebcjjfojfeaa
set_option linter.unusedVariables false
set_option linter.unusedSimpArgs false
def sumF {α : Type} (f : α → Nat) : List α → Nat
  | [] => 0
  | x :: xs => f x + sumF f xs
theorem sumF_snoc {α : Type} (f : α → Nat) : ∀ (xs : List α) (x : α), sumF f (xs ++ [x]) = sumF f xs + f x
  | [], x => by simp [sumF]
  | y :: xs, x => by simp only [List.cons_append, sumF, sumF_snoc f xs x]; omega
theorem sumF_take {α : Type} (f : α → Nat) {xs : List α} {k : Nat} {x : α} (h : xs[k]? = some x) : sumF f (xs.take (k + 1)) = sumF f (xs.take k) + f x := by
  rw [List.take_add_one, h]; exact sumF_snoc f _ _
theorem sumF_all {α : Type} (f : α → Nat) {xs : List α} {k : Nat} (h : xs.length ≤ k) : sumF f (xs.take k) = sumF f xs := by rw [List.take_of_length_le h]
theorem sumF_le {α : Type} (f : α → Nat) : ∀ {xs : List α} {k : Nat}, sumF f (xs.take k) ≤ sumF f xs
  | [], k => by simp [sumF]
  | x :: xs, 0 => by simp [sumF]
  | x :: xs, k + 1 => by simp only [List.take_succ_cons, sumF]; have := sumF_le f (xs := xs) (k := k); omega
theorem sumF_one {α : Type} : ∀ xs : List α, sumF (fun _ => 1) xs = xs.length
  | [] => rfl
  | x :: xs => by simp only [sumF, sumF_one xs, List.length_cons]; omega
theorem sumF_get {α : Type} (f : α → Nat) {xs : List α} {k : Nat} {x : α} (h : xs[k]? = some x) : sumF f (xs.take k) + f x ≤ sumF f xs := by
  rw [← sumF_take f h]; exact sumF_le f
/-- A copy that grows. -/
def fillC {α : Type} (xs : List α) (z : α) (k : Nat) : List α := xs.take k ++ List.replicate (xs.length - k) z
theorem fillC_zero {α : Type} (xs : List α) (z : α) : List.replicate xs.length z = fillC xs z 0 := by simp [fillC]
theorem fillC_len {α : Type} {xs : List α} {z : α} {k : Nat} (h : k ≤ xs.length) : (fillC xs z k).length = xs.length := by simp [fillC]; omega
theorem fillC_set {α : Type} {xs : List α} {z : α} {k : Nat} {x : α} (h : xs[k]? = some x) : (fillC xs z k).set k x = fillC xs z (k + 1) := by
  have hk := (List.getElem?_eq_some_iff.1 h).1
  unfold fillC
  rw [List.take_add_one, h, List.set_append_right _ _ (by simp; omega)]
  have e : xs.length - k = (xs.length - (k + 1)) + 1 := by omega
  rw [e, List.replicate_succ]
  simp [Nat.min_eq_left (Nat.le_of_lt hk)]
theorem fillC_all {α : Type} {xs : List α} {z : α} {k : Nat} (h : xs.length ≤ k) : fillC xs z k = xs := by
  unfold fillC
  rw [List.take_of_length_le h, Nat.sub_eq_zero_of_le h]; simp
/-- Equality, element by element. -/
theorem eq_of_all {α : Type} {xs ys : List α} {k : Nat} (hl : (xs.length : Int) = (ys.length : Int)) (hk : xs.length ≤ k) (h : ∀ j, j < k → xs[j]? = ys[j]?) : xs = ys := by
  apply List.ext_getElem?
  intro j
  by_cases hj : j < k
  · exact h j hj
  · rw [List.getElem?_eq_none (by omega), List.getElem?_eq_none (by omega)]
theorem all_eq_zero {α : Type} {xs ys : List α} : ∀ j, j < 0 → xs[j]? = ys[j]? := fun j h => absurd h (Nat.not_lt_zero j)
theorem all_eq_succ {α : Type} {xs ys : List α} {k : Nat} {x y : α} (h : ∀ j, j < k → xs[j]? = ys[j]?) (hx : xs[k]? = some x) (hy : ys[k]? = some y) (e : x = y) : ∀ j, j < k + 1 → xs[j]? = ys[j]? := fun j hj => by
  by_cases hk : j = k
  · subst hk; rw [hx, hy, e]
  · exact h j (by omega)
theorem ne_of_get {α : Type} {xs ys : List α} {k : Nat} {x y : α} (hx : xs[k]? = some x) (hy : ys[k]? = some y) (e : ¬ x = y) : ¬ xs = ys := fun h => by
  subst h; rw [hx] at hy; exact e (Option.some.inj hy)
/-- Marks. -/
def markL {α : Type} (cnt : α → Nat) (mk : Int → α → α) : Int → List α → List α
  | _, [] => []
  | n, x :: xs => mk n x :: markL cnt mk (n + (cnt x : Int)) xs
theorem markL_len {α : Type} {cnt : α → Nat} {mk : Int → α → α} : ∀ (n : Int) (xs : List α), (markL cnt mk n xs).length = xs.length
  | _, [] => rfl
  | n, x :: xs => by simp [markL, markL_len]
theorem markL_snoc {α : Type} {cnt : α → Nat} {mk : Int → α → α} : ∀ (n : Int) (xs : List α) (x : α), markL cnt mk n (xs ++ [x]) = markL cnt mk n xs ++ [mk (n + (sumF cnt xs : Int)) x]
  | n, [], x => by simp [markL, sumF]
  | n, y :: xs, x => by
    simp only [List.cons_append, markL, markL_snoc (n + (cnt y : Int)) xs x, sumF]
    rw [show n + (cnt y : Int) + (sumF cnt xs : Int) = n + ((cnt y + sumF cnt xs : Nat) : Int) by omega]
theorem markL_take {α : Type} {cnt : α → Nat} {mk : Int → α → α} (n : Int) {xs : List α} {k : Nat} {x : α} (h : xs[k]? = some x) : markL cnt mk n (xs.take (k + 1)) = markL cnt mk n (xs.take k) ++ [mk (n + (sumF cnt (xs.take k) : Int)) x] := by
  rw [List.take_add_one, h]; exact markL_snoc n _ _
theorem markL_get {α : Type} {cnt : α → Nat} {mk : Int → α → α} : ∀ {n : Int} {xs : List α} {k : Nat} {y : α}, (markL cnt mk n xs)[k]? = some y → ∃ x, xs[k]? = some x ∧ y = mk (n + (sumF cnt (xs.take k) : Int)) x
  | n, [], k, y, h => by simp [markL] at h
  | n, x :: xs, 0, y, h => by
    simp [markL] at h
    exact ⟨x, rfl, by rw [← h]; simp [sumF]⟩
  | n, x :: xs, k + 1, y, h => by
    simp only [markL, List.getElem?_cons_succ] at h
    obtain ⟨z, h1, h2⟩ := markL_get h
    refine ⟨z, by simpa using h1, ?_⟩
    rw [h2]
    simp only [List.take_succ_cons, sumF]
    congr 1; omega
theorem markS_get {α : Type} {mk : Int → α → α} {n : Int} {xs ys : List α} {k : Nat} {y : α} (e : ys = markL (fun _ => 1) mk n xs) (h : ys[k]? = some y) : ∃ x, y = mk (n + (k : Int)) x := by
  subst e
  obtain ⟨x, hx, rfl⟩ := markL_get h
  have hk := (List.getElem?_eq_some_iff.1 hx).1
  exact ⟨x, by rw [sumF_one, List.length_take, Nat.min_eq_left (Nat.le_of_lt hk)]⟩
theorem markE_get {α : Type} {cnt : α → Nat} {mk : Int → α → α} {n : Int} {xs ys : List α} {k : Nat} {y : α} (e : ys = markL cnt mk n xs) (h : ys[k]? = some y) : ∃ x, xs[k]? = some x ∧ y = mk (n + (sumF cnt (xs.take k) : Int)) x := by
  subst e; exact markL_get h
theorem markE_len {α : Type} {cnt : α → Nat} {mk : Int → α → α} {n : Int} {xs ys : List α} (e : ys = markL cnt mk n xs) : ys.length = xs.length := by rw [e, markL_len]
/-- A slice of scalars, marked up to k. -/
def markS {α : Type} (mk : Int → α → α) (n : Int) (xs : List α) (k : Nat) : List α := markL (fun _ => 1) mk n (xs.take k) ++ xs.drop k
theorem markS_zero {α : Type} (mk : Int → α → α) (n : Int) (xs : List α) : xs = markS mk n xs 0 := by simp [markS, markL]
theorem markS_len {α : Type} {mk : Int → α → α} {n : Int} {xs : List α} {k : Nat} (h : k ≤ xs.length) : (markS mk n xs k).length = xs.length := by simp [markS, markL_len]; omega
theorem markS_set {α : Type} {mk : Int → α → α} {n : Int} {xs : List α} {k : Nat} {x : α} (hx : xs[k]? = some x) : (markS mk n xs k).set k (mk (n + (k : Int)) x) = markS mk n xs (k + 1) := by
  obtain ⟨h, rfl⟩ := List.getElem?_eq_some_iff.1 hx
  unfold markS
  rw [markL_take n hx, sumF_one, List.drop_eq_getElem_cons h, List.set_append_right _ _ (by rw [markL_len, List.length_take]; omega), markL_len, List.length_take, Nat.min_eq_left (Nat.le_of_lt h), Nat.sub_self, List.set_cons_zero]
  simp
theorem markS_all {α : Type} {mk : Int → α → α} {n : Int} {xs : List α} {k : Nat} (h : xs.length ≤ k) : markS mk n xs k = markL (fun _ => 1) mk n xs := by simp [markS, List.take_of_length_le h, List.drop_of_length_le h]
end Go.Proofs.Ytoaebcjjfojfeaa
/- What is proved: rows of one's own taken apart into bare cells and what the elements own, and put together again. No condition. -/
namespace Go.Proofs.Ytoaebcjjfojfeaa
open Go Go.RowKit
set_option linter.unusedVariables false
set_option linter.unusedSimpArgs false

/-- Bare cells. -/
def kraw (n : Nat) (hn : 0 < n) : Kd (List Value) where
  sz := n
  pos := hn
  ro _ _ x cs := cs = x ∧ x.length = n ∧ ∀ u, u ∈ x → u.oneCell' = true
  own _ _ x cs := cs = x ∧ x.length = n ∧ ∀ u, u ∈ x → u.oneCell' = true
  ro_len h := by rw [h.1]; exact h.2.1
  ro_one h u hu := by rw [h.1] at hu; exact h.2.2 u hu
  ro_up h _ := h
  ro_loc h _ := h
  own_ro h := h
  own_up h _ := h
  own_loc h _ := h
  own_lt h := h
/-- What the elements own. -/
def seqC {α : Type} (K : Kd α) (xs : List α) (css : List (List Value)) : Asn := ⟨Star (seqA K xs css), Star.up, Star.loc, Star.lt⟩
theorem seqC_nil {α : Type} {K : Kd α} (w : World) (S : Bs) : (seqC K [] []).p w S := trivial
theorem seqA_cons {α : Type} (K : Kd α) (x : α) (xs : List α) (c : List Value) (css : List (List Value)) : seqA K (x :: xs) (c :: css) = ownA K x c :: seqA K xs css := rfl
theorem drop_get {α : Type} {xs : List α} {k : Nat} {x : α} (h : xs[k]? = some x) : xs.drop k = x :: xs.drop (k + 1) := by
  obtain ⟨hk, rfl⟩ := List.getElem?_eq_some_iff.1 h
  exact List.drop_eq_getElem_cons hk
theorem take_get {α : Type} {xs : List α} {k : Nat} {x : α} (h : xs[k]? = some x) : xs.take (k + 1) = xs.take k ++ [x] := by
  rw [List.take_add_one, h]; rfl
theorem seq_pop {α : Type} {K : Kd α} {xs : List α} {css : List (List Value)} {k : Nat} {x : α} {c : List Value} (hx : xs[k]? = some x) (hc : css[k]? = some c) (w : World) (S : Bs) (h : (seqC K (xs.drop k) (css.drop k)).p w S) : Star [ownA K x c, seqC K (xs.drop (k + 1)) (css.drop (k + 1))] w S := by
  have h' : Star (seqA K (xs.drop k) (css.drop k)) w S := h
  rw [drop_get hx, drop_get hc, seqA_cons] at h'
  obtain ⟨A, B, h1, h2, a, b, d⟩ := h'
  exact ⟨A, B, h1, Star.one (c := seqC K _ _) h2, a, b, d⟩
theorem seq_snoc {α : Type} {K : Kd α} {xs : List α} {css : List (List Value)} {x : α} {c : List Value} (hl : css.length = xs.length) (w : World) (S : Bs) (h : Star [seqC K xs css, ownA K x c] w S) : (seqC K (xs ++ [x]) (css ++ [c])).p w S := by
  obtain ⟨A, B, h1, h2, a, b, d⟩ := h
  exact seq_app hl h1 (show Star (seqA K [x] [c]) w B from h2) a b d
theorem seq_same {α : Type} {K : Kd α} {xs xs' : List α} {css css' : List (List Value)} (h : xs = xs') (h2 : css = css') (w : World) (S : Bs) (hp : (seqC K xs css).p w S) : (seqC K xs' css').p w S := by subst h; subst h2; exact hp
theorem seq_snoc' {α : Type} {K : Kd α} {xs xs' : List α} {css css' : List (List Value)} {x : α} {c : List Value} (hl : css.length = xs.length) (h1 : xs ++ [x] = xs') (h2 : css ++ [c] = css') (w : World) (S : Bs) (h : Star [seqC K xs css, ownA K x c] w S) : (seqC K xs' css').p w S := by subst h1; subst h2; exact seq_snoc hl w S h
theorem take_set {css : List (List Value)} {k : Nat} {c c' : List Value} (h : css[k]? = some c) : css.take k ++ [c'] = (css.set k c').take (k + 1) := by
  obtain ⟨hk, _⟩ := List.getElem?_eq_some_iff.1 h
  rw [List.take_add_one, List.getElem?_set_self hk, List.take_set_of_le (Nat.le_refl k)]; rfl
theorem drop_set {css : List (List Value)} {k : Nat} {c' : List Value} : css.drop (k + 1) = (css.set k c').drop (k + 1) := by rw [List.drop_set_of_lt (Nat.lt_succ_self k)]
theorem set_get {css : List (List Value)} {k : Nat} {c c' : List Value} (h : css[k]? = some c) : (css.set k c')[k]? = some c' := by
  obtain ⟨hk, _⟩ := List.getElem?_eq_some_iff.1 h
  exact List.getElem?_set_self hk
theorem raw_seq {n : Nat} {hn : 0 < n} : ∀ {css : List (List Value)}, (∀ c, c ∈ css → c.length = n ∧ ∀ u, u ∈ c → u.oneCell' = true) → ∀ (w : World) (S : Bs), Star (seqA (kraw n hn) css css) w S
  | [], _, _, _ => trivial
  | c :: css, h, w, S => ⟨fun _ => False, fun _ => False, ⟨rfl, h c List.mem_cons_self⟩, raw_seq (fun d hd => h d (List.mem_cons_of_mem _ hd)) w _, fun _ h => h.elim, fun _ h => h.elim, fun _ h => h.elim⟩
theorem raw_eq {n : Nat} {hn : 0 < n} : ∀ {xs css : List (List Value)} {w : World} {S : Bs}, css.length = xs.length → Star (seqA (kraw n hn) xs css) w S → css = xs
  | [], [], _, _, _, _ => rfl
  | [], _ :: _, _, _, h, _ => by simp at h
  | _ :: _, [], _, _, h, _ => by simp at h
  | x :: xs, c :: css, w, S, hl, h => by
    have h1 : (kraw n hn).own w S x c := Star.head (c := ownA (kraw n hn) x c) h
    rw [h1.1, raw_eq (by simpa using hl) (Star.drop (c := ownA (kraw n hn) x c) h)]
theorem raw_lens {n : Nat} {hn : 0 < n} {css : List (List Value)} {w : World} {S : Bs} (h : Star (seqA (kraw n hn) css css) w S) : ∀ c, c ∈ css → c.length = n ∧ ∀ u, u ∈ c → u.oneCell' = true := fun c hc => by
  obtain ⟨j, hj, rfl⟩ := List.mem_iff_getElem.1 hc
  exact (seq_at h (List.getElem?_eq_getElem hj) (List.getElem?_eq_getElem hj)).2
theorem seq_ones {α : Type} {K : Kd α} {xs : List α} {css : List (List Value)} {w : World} {S : Bs} (hl : css.length = xs.length) (h : Star (seqA K xs css) w S) : ∀ c, c ∈ css → c.length = K.sz ∧ ∀ u, u ∈ c → u.oneCell' = true := fun c hc => by
  obtain ⟨j, hj, rfl⟩ := List.mem_iff_getElem.1 hc
  obtain ⟨y, hy⟩ := get_ex (xs := xs) (j := j) (by omega)
  have ho := seq_at h hy (List.getElem?_eq_getElem hj)
  exact ⟨own_len ho, K.ro_one (K.own_ro ho)⟩
/-- A slice of one's own, apart. -/
theorem own_raw {α : Type} {K : Kd α} {e by_ : Nat} {xs : List α} {v : Value} (w : World) (S : Bs) (h : Star [ownA (kslice e by_ K) xs [v]] w S) : ∃ css : List (List Value), css.length = xs.length ∧ Star [ownA (kslice e by_ (kraw K.sz K.pos)) css [v], seqC K xs css] w S := by
  rcases (show (kslice e by_ K).own w S xs [v] from h.head (c := ownA _ _ _)) with ⟨A, hv, rfl⟩ | ⟨g, c, css, hv, h1, h2, h3, h4, h5⟩
  · exact ⟨[], rfl, fun _ => False, fun _ => False, .inl ⟨A, hv, rfl⟩, Star.one (c := seqC K _ _) trivial, fun _ h => h.elim, fun _ h => h.elim, fun _ h => h.elim⟩
  · obtain ⟨A, B, hA, hB, a, b, d⟩ := h5
    refine ⟨css, h4, A, B, .inr ⟨g, c, css, by rw [h4]; exact hv, by rw [h4]; exact h1, h2, by rw [h4]; exact h3, rfl, A, fun _ => False, hA, raw_seq (seq_ones h4 hB) w _, fun _ h => h, fun _ h => h.elim, fun _ _ h => h⟩, Star.one (c := seqC K _ _) hB, a, b, d⟩
/-- Put together. -/
theorem raw_own {α : Type} {K : Kd α} {e by_ : Nat} {xs : List α} {css : List (List Value)} {v : Value} (hl : css.length = xs.length) (w : World) (S : Bs) (h : Star [ownA (kslice e by_ (kraw K.sz K.pos)) css [v], seqC K xs css] w S) : (ownA (kslice e by_ K) xs [v]).p w S := by
  obtain ⟨A, B, hA, hB, a, b, d⟩ := h
  have hB' : Star (seqA K xs css) w B := hB.head (c := seqC K xs css)
  rcases (show (kslice e by_ (kraw K.sz K.pos)).own w A css [v] from hA) with ⟨A0, hv, rfl⟩ | ⟨g, c, cs2, hv, h1, h2, h3, h4, h5⟩
  · obtain rfl := List.eq_nil_of_length_eq_zero (show xs.length = 0 from hl.symm)
    exact .inl ⟨A0, hv, rfl⟩
  · obtain ⟨C, D, hC, hD, i, j, dd⟩ := h5
    obtain rfl := raw_eq h4 hD
    exact .inr ⟨g, c, _, by rw [hl] at hv; exact hv, by rw [hl] at h1; exact h1, h2, by rw [hl] at h3; exact h3, hl, C, B, hC, hB', fun x hx => a x (i x hx), b, fun x hx => d x (i x hx)⟩
theorem raw_own' {α : Type} {K : Kd α} {e by_ : Nat} {xs xs' : List α} {css css2 : List (List Value)} {v : Value} (hl : css.length = xs'.length) (h1 : xs = xs') (h2 : css2 = css) (w : World) (S : Bs) (h : Star [ownA (kslice e by_ (kraw K.sz K.pos)) css [v], seqC K xs css2] w S) : (ownA (kslice e by_ K) xs' [v]).p w S := by
  subst h1; subst h2; exact raw_own hl w S h
/-- A part of a slice. -/
def subL {α : Type} (xs : List α) (a b : Nat) : List α := (xs.take b).drop a
theorem subL_len {α : Type} {xs : List α} {a b : Nat} (hb : b ≤ xs.length) : (subL xs a b).length = b - a := by simp [subL, Nat.min_eq_left hb]
theorem subL_get {α : Type} {xs : List α} {a b j : Nat} {x : α} (h : (subL xs a b)[j]? = some x) : xs[a + j]? = some x := by
  unfold subL at h
  rw [List.getElem?_drop, List.getElem?_take] at h
  split at h
  · exact h
  · cases h
theorem subL_erase {α : Type} (xs : List α) (q : Nat) : subL xs 0 q ++ subL xs (q + 1) xs.length = xs.eraseIdx q := by
  rw [List.eraseIdx_eq_take_drop_succ]; simp [subL]
theorem ro_he {α : Type} {K : Kd α} {e by_ : Nat} {w : World} {F : Bs} {xs : List α} {A : Option Addr} {n c : Nat} (h : (kslice e by_ K).ro w F xs [.slice A n c]) : 0 < xs.length → ∃ ad, A = some ad ∧ RoAt K w F ad xs := fun hp => by
  obtain ⟨A', c', hv, _, _, _, h4⟩ := ro_form h
  obtain ⟨ad, ha, hr⟩ := h4 hp
  injection hv with h1 _ _
  exact ⟨ad, h1.trans ha, hr⟩
theorem ro_sub {α : Type} {K : Kd α} {e by_ : Nat} {w : World} {F : Bs} {xs : List α} {A A' : Option Addr} {c a b : Nat} (hA : A' = (if c = a then A else A.map (·.add (a * K.sz)))) (h : (kslice e by_ K).ro w F xs [.slice A xs.length c]) (hab : a ≤ b) (hb : b ≤ xs.length) : (kslice e by_ K).ro w F (subL xs a b) [.slice A' (subL xs a b).length (c - a)] := by
  obtain ⟨A0, c0, hv, h1, h2, h3, h4⟩ := ro_form h
  injection hv with e1 e2 e3
  subst e1; subst e3
  have hl := subL_len (a := a) hb
  refine ⟨A', c - a, rfl, by rw [hl]; omega, by omega, by rw [hl]; have : (b - a) * by_ ≤ xs.length * by_ := Nat.mul_le_mul_right _ (by omega); omega, fun hp => ?_⟩
  rw [hl] at hp
  obtain ⟨ad, rfl, hF, hr⟩ := h4 (by omega)
  rw [if_neg (by omega)] at hA
  refine ⟨ad.add (a * K.sz), hA, by rw [add_block]; exact hF, fun j x hx => ?_⟩
  obtain ⟨ecs, k1, k2⟩ := hr (a + j) x (subL_get hx)
  refine ⟨ecs, k1, fun i u hu => ?_⟩
  rw [add_add, show a * K.sz + (j * K.sz + i) = (a + j) * K.sz + i by rw [Nat.add_mul]; omega]
  exact k2 i u hu
theorem PtrRo.wide {α : Type} {K : Kd α} {w w' : World} {F F' : Bs} {ad : Addr} {x : α} (h : PtrRo K w F ad x) (hw : ∀ b, F b → F' b ∧ w'.heap[b]? = w.heap[b]?) : PtrRo K w' F' ad x := by
  obtain ⟨ecs, h1, h2, h3⟩ := h
  exact ⟨ecs, (hw _ h1).1, K.ro_up (K.ro_loc h2 (fun b hb => (hw b hb).2)) (fun b hb => (hw b hb).1), fun i u hu => (cell_loc (by rw [add_block]; exact (hw _ h1).2)).trans (h3 i u hu)⟩
section
variable {P : Program} {T : Slots} {Wd : World → Prop} {o : Oper} {N : Nat} {w0 : World} {S0 : Bs} {l l' lk : List Asn}
/-- A struct that lies in another. -/
theorem Tr.elsub {α : Type} {K : Kd α} {w : World} {S1 : Bs} {lr : List Asn} {B : Addr} {ecs cs : List Value} {k : Nat} {x : α} (tr : Tr w0 S0 w S1 lr) (hF : FF w0 S0 B.block) (hr : K.ro w0 (FF w0 S0) x cs) (hc : ∀ (i : Nat) (u : Value), ecs[i]? = some u → w0.cell? (B.add i) = some u) (hs : ∀ (i : Nat) (u : Value), cs[i]? = some u → ecs[k + i]? = some u) : PtrRo K w (FF w S1) (B.add k) x :=
  tr.ctxP ⟨cs, by rw [add_block]; exact hF, hr, fun i u hu => by rw [add_add]; exact hc _ _ (hs i u hu)⟩
theorem Tr.ptrsub {α : Type} {K : Kd α} {w : World} {S1 : Bs} {lr : List Asn} {g e sz c k : Nat} {ecs cs : List Value} {x : α} (tr : Tr w0 S0 w S1 lr) (tk : Take lr (rowA g e sz c ecs) l') (hr : K.ro w (FF w S1) x cs) (hs : ∀ (i : Nat) (u : Value), cs[i]? = some u → ecs[k + i]? = some u) : PtrRo K w (FF w S1) ((⟨g, 0, none⟩ : Addr).add k) x := by
  obtain ⟨S2, hst, hsub⟩ := tr.all
  have h := (hst.take tk).head
  refine ⟨cs, by rw [add_block]; exact hsub _ h.1, hr, fun i u hu => ?_⟩
  rw [add_add, add_plain']
  exact row_cell h (hs i u hu)
/-- An element that is a slice: one cell. -/
theorem WS.osl1 {α : Type} {K : Kd α} {e by_ : Nat} {xs : List α} {cs : List Value} (ht : Take l (ownA (kslice e by_ K) xs cs) l') : ∀ w, WS w0 S0 l w → ∃ v, cs = [v] := fun w hw => by
  obtain ⟨S, hs, _, _⟩ := hw.take ht
  exact osl_one (show (kslice e by_ K).own w S xs cs from hs.head)
theorem q_sliceL {α : Type} {xs : List α} {x : Operand} {t e : TypeId} {sz : Nat} {lo hi : Option Operand} {a b c : Nat} {A A' : Option Addr} (ho : o.op = .slice t x lo hi none) (ht : P.underlying t = some (.slice e)) (he : (P.info? e).map (·.size) = some sz) (hx : Val T x (.slice A xs.length c)) (hA : A' = (if c = a then A else A.map (·.add (a * sz))))
    (hlo : (lo = none ∧ a = 0) ∨ ∃ z k, lo = some z ∧ Val T z (.int k (a : Int))) (hhi : (hi = none ∧ b = xs.length) ∨ ∃ z k, hi = some z ∧ Val T z (.int k (b : Int))) (h1 : a ≤ b) (h2 : b ≤ xs.length) (h3 : xs.length ≤ c) :
    Quiet P o T Wd (.slice A' (subL xs a b).length (c - a)) := by
  rw [subL_len h2, hA]
  exact q_slice ho ht he hx hlo hhi h1 (Nat.le_trans h2 h3)
/-- A bare cell. -/
theorem WS.raw {n : Nat} {hn : 0 < n} {e by_ : Nat} {css : List (List Value)} {ad : Addr} {m c j i : Nat} {cs : List Value} {u : Value} (ht : Take l (ownA (kslice e by_ (kraw n hn)) css [.slice (some ad) m c]) l') (hc : css[j]? = some cs) (hu : cs[i]? = some u) : ∀ w, WS w0 S0 l w → w.cell? ((ad.add (j * n)).add i) = some u := fun w hw => by
  obtain ⟨S, hs, _, _⟩ := hw.take ht
  obtain ⟨A', c', h, _, _, _, h4⟩ := ro_form ((kslice e by_ (kraw n hn)).own_ro (show (kslice e by_ (kraw n hn)).own w S css _ from hs.head))
  obtain ⟨ad', ha, hr⟩ := h4 (by have := (List.getElem?_eq_some_iff.1 hc).1; omega)
  injection h with g1 g2 g3
  rw [ha] at g1
  obtain rfl := Option.some.inj g1
  obtain ⟨ecs, ⟨rfl, _⟩, _, hcc⟩ := hr.elem hc
  exact hcc i _ hu
theorem WS.raw0 {n : Nat} {hn : 0 < n} {e by_ : Nat} {css : List (List Value)} {ad : Addr} {m c j : Nat} {cs : List Value} {u : Value} (ht : Take l (ownA (kslice e by_ (kraw n hn)) css [.slice (some ad) m c]) l') (hc : css[j]? = some cs) (hu : cs[0]? = some u) : ∀ w, WS w0 S0 l w → w.cell? (ad.add (j * n)) = some u := fun w hw => by
  have := WS.raw ht hc hu w hw
  rwa [add_add, Nat.add_zero] at this
theorem WS.raws {n : Nat} {hn : 0 < n} {e by_ : Nat} {css : List (List Value)} {ad : Addr} {m c j : Nat} {cs : List Value} (ht : Take l (ownA (kslice e by_ (kraw n hn)) css [.slice (some ad) m c]) l') (hc : css[j]? = some cs) : ∀ w, WS w0 S0 l w → ∀ (i : Nat) (u : Value), cs[i]? = some u → w.cell? ((ad.add (j * n)).add i) = some u := fun w hw i u hu => WS.raw ht hc hu w hw
theorem WS.rawsub {n : Nat} {hn : 0 < n} {e by_ : Nat} {css : List (List Value)} {ad : Addr} {m c j k : Nat} {cs ds : List Value} (ht : Take l (ownA (kslice e by_ (kraw n hn)) css [.slice (some ad) m c]) l') (hc : css[j]? = some cs) (hs : ∀ (i : Nat) (u : Value), ds[i]? = some u → cs[k + i]? = some u) : ∀ w, WS w0 S0 l w → ∀ (i : Nat) (u : Value), ds[i]? = some u → w.cell? (((ad.add (j * n)).add k).add i) = some u := fun w hw i u hu => by
  rw [add_add]; exact WS.raw ht hc (hs i u hu) w hw
/-- The lengths of bare elements. -/
theorem WS.rawlen {n : Nat} {hn : 0 < n} {e by_ : Nat} {css : List (List Value)} {v : Value} {j : Nat} {cs : List Value} (ht : Take l (ownA (kslice e by_ (kraw n hn)) css [v]) l') (hc : css[j]? = some cs) : ∀ w, WS w0 S0 l w → cs.length = n := fun w hw => by
  obtain ⟨S, hs, _, _⟩ := hw.take ht
  have h : (kslice e by_ (kraw n hn)).own w S css [v] := hs.head
  obtain ⟨A', c', rfl, _, _, _, h4⟩ := ro_form ((kslice e by_ (kraw n hn)).own_ro h)
  obtain ⟨ad', ha, hr⟩ := h4 (by have := (List.getElem?_eq_some_iff.1 hc).1; omega)
  obtain ⟨ecs, ⟨rfl, h, _⟩, _⟩ := hr.elem hc
  exact h
theorem putAt_ones {fl cs : List Value} {off : Nat} (h : ∀ u, u ∈ fl → u.oneCell' = true) (h2 : ∀ u, u ∈ cs → u.oneCell' = true) : ∀ u, u ∈ putAt fl off cs → u.oneCell' = true := fun u hu => by
  unfold putAt at hu
  rcases List.mem_append.1 hu with hu | hu
  · rcases List.mem_append.1 hu with hu | hu
    · exact h u (List.mem_of_mem_take hu)
    · exact h2 u hu
  · exact h u (List.mem_of_mem_drop hu)
theorem flatten_put {css : List (List Value)} {n : Nat} {c cs : List Value} {off : Nat} (hl : ∀ c, c ∈ css → c.length = n) (hb : off + cs.length ≤ n) : ∀ {j : Nat}, css[j]? = some c → putAt css.flatten (j * n + off) cs = (css.set j (putAt c off cs)).flatten := by
  induction css with
  | nil => intro j hj; simp at hj
  | cons d css ih =>
    intro j hj
    have hd := hl d List.mem_cons_self
    cases j with
    | zero =>
      simp at hj; subst hj
      simp only [List.set_cons_zero, List.flatten_cons, putAt, Nat.zero_mul, Nat.zero_add]
      rw [List.take_append_of_le_length (by omega), List.drop_append_of_le_length (by omega)]
      simp only [List.append_assoc]
    | succ j =>
      simp only [List.set_cons_succ, List.flatten_cons]
      rw [← ih (fun c hc => hl c (List.mem_cons_of_mem _ hc)) (by simpa using hj)]
      have e1 : (j + 1) * n + off = d.length + (j * n + off) := by rw [Nat.succ_mul, hd]; omega
      have e2 : (d ++ css.flatten).take (d.length + (j * n + off)) = d ++ css.flatten.take (j * n + off) := by
        rw [List.take_append, List.take_of_length_le (by omega), Nat.add_sub_cancel_left]
      have e3 : (d ++ css.flatten).drop (d.length + (j * n + off) + cs.length) = css.flatten.drop (j * n + off + cs.length) := by
        rw [List.drop_append, List.drop_of_length_le (by omega), List.nil_append]
        congr 1; omega
      simp only [putAt, e1, e2, e3, List.append_assoc]
/-- A store into a bare element. -/
theorem es_raw {n : Nat} {hn : 0 < n} {e by_ : Nat} {css : List (List Value)} {c0 cs : List Value} {ad : Addr} {m c j off : Nat} {p x : Operand} {t : TypeId} {v : Value} {B : Addr} (ho : o.op = .store t p x) (hi : (P.info? t).map (·.size) = some cs.length) (hp : Val T p (.pointer (some B))) (hB : B = ad.add (j * n + off)) (hx : Val T x v) (hv : v.cells.toList = cs)
    (h1 : ∀ u, u ∈ cs → u.oneCell' = true) (hT : Take l (ownA (kslice e by_ (kraw n hn)) css [.slice (some ad) m c]) l') (hj : css[j]? = some c0) (hb : off + cs.length ≤ n) : EffS P o T w0 S0 l (ownA (kslice e by_ (kraw n hn)) (css.set j (putAt c0 off cs)) [.slice (some ad) m c] :: l') := by
  intro a w ha hw
  subst hB
  obtain ⟨S1, hA, _, hk⟩ := (hw.takes (.c hT .n)).eff
  have hA' : (kslice e by_ (kraw n hn)).own w S1 css [.slice (some ad) m c] := hA.head (c := ownA _ _ _)
  obtain ⟨i0, k1, k2⟩ := Option.map_eq_some_iff.1 hi
  rcases hA' with ⟨A, h, rfl⟩ | ⟨g, c', css', h, h1', h2, h3, h4, h5⟩
  · simp at hj
  have h' := List.singleton_inj.1 h
  injection h' with g1 g2 g3
  obtain rfl := Option.some.inj g1
  subst g2; subst g3
  obtain ⟨B1, B2, ⟨hg, cur, q1, q2, q3, q4⟩, hseq, i1, i2, dd⟩ := h5
  have he := raw_eq h4 hseq
  rw [he] at hseq q3 q4
  have hraw := raw_lens hseq
  have hlen : ∀ d, d ∈ css → d.length = n := fun d hd => (hraw d hd).1
  have hfl : css.flatten.length = css.length * n := flatten_len hlen
  have hjl := (List.getElem?_eq_some_iff.1 hj).1
  have hc0 := hlen c0 (List.mem_of_getElem? hj)
  have hmul : (j + 1) * n ≤ css.length * n := Nat.mul_le_mul_right _ hjl
  rw [Nat.succ_mul] at hmul
  have hbd : j * n + off + cs.length ≤ css.flatten.length := by rw [hfl]; omega
  have hsz : (kraw n hn).sz = n := rfl
  rw [hsz] at q2
  have hst := run_storeCells_at P g (j * n + off) e cs 0 cur w q1 (by omega) h1
  simp only [Nat.add_zero] at hst
  have hne : ∀ b, b ≠ g → (w.setRow g (cur.toList.take (j * n + off) ++ cs ++ cur.toList.drop (j * n + off + cs.length)).toArray).heap[b]? = w.heap[b]? := fun b hb => setRow_other w g b _ hb
  refine ⟨w.setRow g (cur.toList.take (j * n + off) ++ cs ++ cur.toList.drop (j * n + off + cs.length)).toArray, ?_, hk _ [ownA (kslice e by_ (kraw n hn)) (css.set j (putAt c0 off cs)) [.slice (some ⟨g, 0, none⟩) css.length c]] S1 (Star.one (c := ownA (kslice e by_ (kraw n hn)) _ _) ?_) (fun b hb => .inl hb) ?_⟩
  · have hsz : v.cells.size = i0.size := by rw [k2, ← hv, Array.length_toList]
    simp only [execOp, ho, hp a ha, hx a ha]
    rw [add_plain']
    simp [Instr.storeAt, Instr.sureAddr, storeVar, sizeOf, typeInfo, k1, hsz, hv, hst]
  · refine .inr ⟨g, c, css.set j (putAt c0 off cs), by rw [List.length_set], by rw [List.length_set]; exact h1', h2, by rw [List.length_set]; exact h3, rfl, ?_⟩
    refine ⟨fun b => b = g, fun b => False, ⟨rfl, _, setRow_heap w g cur _ e _ q1, ?_, ?_, ?_⟩, raw_seq (fun d hd => ?_) _ _, fun b hb => hb ▸ i1 g hg, fun b hb => hb.elim, fun b hb hb' => hb'⟩
    · simp only [List.size_toArray, List.length_append, List.length_take, List.length_drop, Array.length_toList, hsz]; omega
    · rw [← flatten_put hlen hb hj, putAt_len hbd]; simp only [List.size_toArray, List.length_append, List.length_take, List.length_drop, Array.length_toList]; omega
    · rw [← flatten_put hlen hb hj, putAt_len hbd]
      have := take_put (L := cur.toList) (cs := cs) (off := j * n + off) (n := css.flatten.length) hbd (by rw [Array.length_toList]; exact q3)
      rw [q4] at this
      exact this
    · rcases List.mem_or_eq_of_mem_set hd with hd | rfl
      · exact hraw d hd
      · exact ⟨by rw [putAt_len (by omega)]; exact hc0, putAt_ones (hraw c0 (List.mem_of_getElem? hj)).2 h1⟩
  · exact ⟨rfl, rfl, rfl, by simp, fun b hb hn' => hne b (fun e => hn' (e ▸ i1 g hg))⟩
/-- Elements that are read, copied bare. -/
theorem e_appendRaw {α : Type} {K : Kd α} {F : Bs} {wF : World} {e by_ e2 by2 : Nat} {ys : List α} {z v xv : Value} {s x : Operand} {t : TypeId} (ho : o.op = .call { callee := .builtin .append, args := #[s, x], argTypes := #[t, t] }) (ht : P.underlying t = some (.slice e))
    (hi : (P.info? e).map (fun i => (i.size, i.bytes, i.zero)) = some (K.sz, by_, some z)) (hz : z.cells.size = K.sz) (hs : Val T s v) (hx : Val T x xv)
    (hT : Takes l [ownA (kslice e by_ (kraw K.sz K.pos)) [] [v]] l') (hF : ∀ b, F b → FF w0 S0 b ∧ w0.heap[b]? = wF.heap[b]?) (hsrc : (kslice e2 by2 K).ro wF F ys [xv]) (hb : ys.length * by_ ≤ 140737488355328) (h63 : ys.length ≤ 9223372036854775807) :
    Eff P o T w0 S0 l (fun r l2 => ∃ css : List (List Value), css.length = ys.length ∧ (∀ (j : Nat) (y : α) (c : List Value), ys[j]? = some y → css[j]? = some c → K.ro wF F y c) ∧ l2 = ownA (kslice e by_ (kraw K.sz K.pos)) css [r] :: l') := by
  intro a w ha hw
  have hfr : ∀ b, F b → w.heap[b]? = wF.heap[b]? := fun b hb => by obtain ⟨_, _, _, hf⟩ := hw; exact (hf.block b (hF b hb).1.1 (hF b hb).1.2).trans (hF b hb).2
  obtain ⟨S1, hA, tr, hk⟩ := (hw.takes hT).eff
  obtain ⟨css, h1, h2, h3⟩ := src_flat ((kslice e2 by2 K).ro_loc hsrc hfr)
  have hro : ∀ (j : Nat) (y : α) (c : List Value), ys[j]? = some y → css[j]? = some c → K.ro wF F y c := fun j y c h k => K.ro_loc (h3 j y c h k) (fun b hb => (hfr b hb).symm)
  have hones : ∀ c, c ∈ css → c.length = K.sz ∧ ∀ u, u ∈ c → u.oneCell' = true := fun c hc => by
    obtain ⟨j, hj, rfl⟩ := List.mem_iff_getElem.1 hc
    obtain ⟨y, hy⟩ := get_ex (xs := ys) (j := j) (by omega)
    have := hro j y _ hy (List.getElem?_eq_getElem hj)
    exact ⟨K.ro_len this, K.ro_one this⟩
  have hseq := raw_seq (n := K.sz) (hn := K.pos) hones w (fun _ => False)
  obtain ⟨v', w', S'', hr, hown, hsub, hfr2⟩ := own_append (P := P) (t := t) (ty := o.type) (K := kraw K.sz K.pos) (xs := []) (ys := css) (css := css) (xv := xv) (S := S1) (S' := fun _ => False) ht hi hz (show (kslice e by_ (kraw K.sz K.pos)).own w S1 [] [v] from hA.head) (by rw [h1]; exact h2) rfl hseq (fun _ _ h => h) (by simp only [List.length_nil, Nat.zero_add, h1]; exact hb) (by simp only [List.length_nil, Nat.zero_add, h1]; exact h63)
  refine ⟨v', w', _, ?_, ⟨css, h1, hro, rfl⟩, hk w' [ownA (kslice e by_ (kraw K.sz K.pos)) css [v']] S'' (Star.one hown) (fun b hb => ?_) hfr2⟩
  · rw [exec_append ho (hs a ha) (hx a ha), hr]; rfl
  · rcases hsub b hb with h | h | h
    · exact .inl h
    · exact h.elim
    · exact .inr h
/-- A literal without elements. -/
theorem e_buildNil {t e : TypeId} {sz : Nat} {z : Value} (ho : o.op = .buildSlice t 0 #[]) (ht : P.underlying t = some (.slice e)) (he : (P.info? e).map (fun i => (i.size, i.zero)) = some (sz, some z)) : Eff P o T w0 S0 l (fun r l' => ∃ g, r = .slice (some ⟨g, 0, none⟩) 0 0 ∧ l' = rowA g e sz 0 [] :: l) := by
  intro a w ha hw
  obtain ⟨i0, h1, h2⟩ := Option.map_eq_some_iff.1 he
  obtain ⟨h2, h3⟩ := Prod.mk.inj h2
  refine ⟨.slice (some ⟨w.heap.size, 0, none⟩) 0 0, w.alloc (.cells #[] e), _, ?_, ⟨_, rfl, rfl⟩, hw.new #[] e sz 0 (by simp)⟩
  simp only [execOp, ho]
  simp [Instr.buildSlice, run_underlying ht, sizeOf, typeInfo, h1, h2, h3, newRow, Instr.fill]
  have h0 : Array.range 0 = #[] := by apply Array.ext <;> simp
  rw [h0, Array.map_empty]
theorem e_buildSliceL {t e : TypeId} {len sz : Nat} {parts : Array (Nat × Operand)} {ps : List (Nat × Value)} {z : Value} {zc cs : List Value} (ho : o.op = .buildSlice t len parts) (ht : P.underlying t = some (.slice e)) (he : (P.info? e).map (fun i => (i.size, i.zero)) = some (sz, some z)) (hlen : len * sz ≤ 16777216)
    (hps : ∀ a : Act, Holds T a → (parts.map fun (i, x) => (i, a.eval x)) = ps.toArray) (hz : z.cells.toList = zc) (hzl : zc.length = sz) (hpos : 0 < sz) (hfill : Instr.fill (fun i => some (i * sz, sz)) (List.replicate len zc).flatten.toArray ps = some cs.toArray) (hcs : cs.length = len * sz) :
    Eff P o T w0 S0 l (fun r l' => ∃ g, r = .slice (some ⟨g, 0, none⟩) len len ∧ l' = rowA g e sz len cs :: l) := by
  subst hz
  refine e_buildSlice ho ht he hlen hps ?_ hcs
  rw [← hfill]
  congr 1
  have hzs : z.cells.size = sz := by rw [← hzl, Array.length_toList]
  by_cases h0 : len * sz = 0
  · have hl : len = 0 := by rcases Nat.mul_eq_zero.1 h0 with h | h <;> omega
    subst hl
    apply Array.ext <;> simp
  · simp only [if_neg h0]
    apply Array.toList_inj.1
    have := madeCells_flat z.cells len (by omega)
    rw [hzs] at this
    rw [← this]
    rfl
/-- A literal's row as a slice of one's own: scalars. -/
theorem lit_own {α : Type} {enc : α → Value} {ok : α → Prop} {h1 : ∀ x, (enc x).oneCell' = true} {e by_ g n : Nat} {xs : List α} {w : World} {S : Bs} (h : Star [rowA g e 1 n (xs.map enc)] w S) (hn : xs.length = n) (hok : ∀ x, x ∈ xs → ok x) (hb : n * by_ ≤ 140737488355328) (h63 : n ≤ 9223372036854775807) : (ownA (kslice e by_ (kscalar enc ok h1)) xs [.slice (some ⟨g, 0, none⟩) n n]).p w S := by
  subst hn
  have hfl : ∀ ys : List α, (ys.map fun x => [enc x]).flatten = ys.map enc := fun ys => by
    induction ys with
    | nil => rfl
    | cons x ys ih => simp only [List.map_cons, List.flatten_cons, ih]; rfl
  refine .inr ⟨g, xs.length, xs.map (fun x => [enc x]), rfl, Nat.le_refl _, h63, hb, by simp, S, fun _ => False, by rw [hfl]; exact h.head (c := rowA g e 1 xs.length (xs.map enc)), ?_, fun _ h => h, fun _ h => h.elim, fun _ _ h => h⟩
  clear hfl hb h63 h
  induction xs with
  | nil => trivial
  | cons x xs ih => exact ⟨fun _ => False, fun _ => False, ⟨rfl, hok x List.mem_cons_self⟩, ih (fun y hy => hok y (List.mem_cons_of_mem _ hy)), fun _ h => h.elim, fun _ h => h.elim, fun _ h => h.elim⟩
theorem nil_of {α : Type} {xs : List α} {A : Option Addr} {p : Addr → Prop} (h : 0 < xs.length → ∃ ad, A = some ad ∧ p ad) (hA : Option.isNone A = true) : ([] : List α) = xs := by
  cases xs with
  | nil => rfl
  | cons x xs => obtain ⟨ad, rfl, _⟩ := h (by simp); cases hA
theorem pre_at {fl cs : List Value} {k : Nat} (hk : cs.length = k) (h : fl.take k = cs) : ∀ (i : Nat) (u : Value), cs[i]? = some u → fl[i]? = some u := fun i u hu => by
  rw [← h, List.getElem?_take] at hu
  split at hu
  · exact hu
  · cases hu
end
end Go.Proofs.Ytoaebcjjfojfeaa
/- What is proved: marks as texts and bytes. No condition. -/
namespace Go.Proofs.Ytoaebcjjfojfeaa
open Go Go.RowKit
set_option linter.unusedVariables false
def mbyte (n : Int) : UInt8 := UInt8.ofNat (n % 256).toNat
theorem mbyte_wrap (n : Int) : IntKind.u8.wrap n = ((mbyte n).toNat : Int) := by
  rw [IntKind.wrap_u8]
  unfold mbyte
  rw [UInt8.toNat_ofNat']
  omega
theorem byte_eq {a b : UInt8} (h : (a.toNat : Int) = (b.toNat : Int)) : a = b := UInt8.toNat_inj.1 (Int.ofNat.inj h)
def bstr (xs : List UInt8) : ByteArray := ⟨xs.toArray⟩
theorem bstr_size (xs : List UInt8) : (bstr xs).size = xs.length := by simp [bstr, ByteArray.size]
/-- The digits of a number ahead of a text, 'm' ahead of all. -/
def mfin (k : Nat) (out : ByteArray) : ByteArray :=
  if h : k = 0 then bstr [109] ++ out else mfin (k / 10) (bstr [mbyte ((48 + k % 10 : Nat) : Int)] ++ out)
termination_by k
decreasing_by omega
theorem mfin_0 (out : ByteArray) : mfin 0 out = bstr [109] ++ out := by rw [mfin]; simp
theorem mfin_s {k : Nat} (out : ByteArray) (h : 0 < k) : mfin k out = mfin (k / 10) (bstr [mbyte ((48 + k % 10 : Nat) : Int)] ++ out) := by rw [mfin, dif_neg (by omega)]
theorem mfin_size : ∀ (d k : Nat) (out : ByteArray), k < 10 ^ d → (mfin k out).size ≤ 1 + d + out.size
  | 0, k, out, h => by
    have : k = 0 := by simpa using h
    subst this
    rw [mfin_0, ByteArray.size_append, bstr_size]
    simp
  | d + 1, k, out, h => by
    by_cases hk : k = 0
    · subst hk
      rw [mfin_0, ByteArray.size_append, bstr_size]
      simp
    · rw [mfin_s out (by omega)]
      have := mfin_size d (k / 10) (bstr [mbyte ((48 + k % 10 : Nat) : Int)] ++ out) (by rw [Nat.pow_succ] at h; omega)
      rw [ByteArray.size_append, bstr_size] at this
      simp only [List.length_cons, List.length_nil] at this
      omega
theorem mfin_d {k d : Nat} (h : 0 < k) (hd : k < 10 ^ d) : k / 10 < 10 ^ (d - 1) := by
  cases d with
  | zero => simp at hd; omega
  | succ d => rw [Nat.pow_succ] at hd; simp only [Nat.add_sub_cancel]; omega
theorem mfin_o {k d n : Nat} {o : ByteArray} (h : 0 < k) (hd : k < 10 ^ d) (ho : o.size + d ≤ n) {b : UInt8} : (bstr [b] ++ o).size + (d - 1) ≤ n := by
  rw [ByteArray.size_append, bstr_size]
  cases d with
  | zero => simp at hd; omega
  | succ d => simp only [List.length_cons, List.length_nil]; omega
def mtext (n : Int) : ByteArray := if n ≤ 0 then bstr [109, 48] else mfin n.toNat ⟨#[]⟩
theorem mtext_size {n : Int} (h : n ≤ 4611686018427387905) : (mtext n).size ≤ 140737488351232 := by
  unfold mtext
  split
  · rw [bstr_size]; simp
  · have := mfin_size 19 n.toNat ⟨#[]⟩ (by omega)
    have e : (⟨#[]⟩ : ByteArray).size = 0 := rfl
    omega
end Go.Proofs.Ytoaebcjjfojfeaa
/- What is proved: bytes turned to a string; what is read, of a world behind. No condition. -/
namespace Go.Proofs.Ytoaebcjjfojfeaa
open Go Go.RowKit
set_option linter.unusedVariables false
set_option linter.unusedSimpArgs false
section
variable {P : Program} {T : Slots} {Wd : World → Prop} {o : Oper} {N : Nat} {w0 : World} {S0 : Bs} {l l' : List Asn}
theorem WS.roctx {α : Type} {K : Kd α} {x : α} {cs : List Value} (h : K.ro w0 (FF w0 S0) x cs) : ∀ w, WS w0 S0 l w → ∃ F : Bs, K.ro w F x cs := fun w hw => by
  obtain ⟨S, _, _, hf⟩ := hw
  exact ⟨_, K.ro_loc h (fun b hb => hf.block b hb.1 hb.2)⟩
theorem WS.roown {α : Type} {K : Kd α} {x : α} {cs : List Value} (ht : Take l (ownA K x cs) l') : ∀ w, WS w0 S0 l w → ∃ F : Bs, K.ro w F x cs := fun w hw => by
  obtain ⟨S, hs, _, _⟩ := hw.take ht
  exact ⟨_, K.own_ro (show K.own w S x cs from hs.head)⟩
theorem WS.ronil {α : Type} {K : Kd α} {e by_ : Nat} : ∀ w, WS w0 S0 l w → ∃ F : Bs, (kslice e by_ K).ro w F [] [.slice none 0 0] := fun w _ => ⟨fun _ => False, ro_nil⟩
theorem quo_nn {a b : Int} (ha : 0 ≤ a) (h : a ≤ 9223372036854775807) (hb : 0 < b) : IntKind.i64.wrap (a.tdiv b) = a / b := by
  rw [Int.tdiv_eq_ediv_of_nonneg ha]
  have h1 : 0 ≤ a / b := Int.ediv_nonneg ha (by omega)
  have h2 : a / b ≤ a := Int.ediv_le_self b ha
  exact wr rfl (by omega) (by omega)
theorem quo_nat {q d : Nat} {b : Int} (h : q ≤ 9223372036854775807) (hb : b = (d : Int)) : IntKind.i64.wrap ((q : Int).tdiv b) = ((q / d : Nat) : Int) := by
  subst hb
  rw [Int.tdiv_eq_ediv_of_nonneg (by omega)]
  have h2 : q / d ≤ q := Nat.div_le_self q d
  have e : ((q / d : Nat) : Int) = (q : Int) / (d : Int) := by simp
  rw [e]
  rw [← e]
  generalize q / d = m at h2 ⊢
  exact wr rfl (by omega) (by omega)
theorem rem_nat {q d : Nat} {b : Int} (hb : b = (d : Int)) : Int.tmod (q : Int) b = ((q % d : Nat) : Int) := by
  subst hb
  rw [Int.tmod_eq_emod_of_nonneg (by omega)]
  simp
theorem any_dec {α : Type} [DecidableEq α] (xs : List α) (v : α) : xs.any (fun x => decide (x = v)) = decide (v ∈ xs) := by
  rw [Bool.eq_iff_iff, List.any_eq_true, decide_eq_true_iff]
  exact ⟨fun ⟨x, hx, h⟩ => of_decide_eq_true h ▸ hx, fun h => ⟨v, h, decide_eq_true rfl⟩⟩
theorem bstr_inj {x y : List UInt8} : bstr x = bstr y ↔ x = y := ⟨fun h => by
  have := congrArg (fun s => s.data.toList) h
  simpa [bstr] using this, fun h => congrArg bstr h⟩
theorem bstr_of (xs : List UInt8) : ((xs.map fun b => (b.toNat : Int)).foldl (fun r n => r.push (UInt8.ofNat n.toNat)) ByteArray.empty) = bstr xs := by
  rw [foldl_push_bytes]
  simp only [List.map_map, bstr]
  congr 1
  simp only [ByteArray.empty, ByteArray.emptyWithCapacity]
  rw [show (Array.empty : Array UInt8) = #[] from rfl]
  simp [Function.comp_def]
theorem q_convBS {xs : List UInt8} {by_ : Nat} {s e d : TypeId} {x : Operand} {v : Value} (ho : o.op = .convert s d x) (hs : P.underlying s = some (.slice e)) (he : P.underlying e = some (.int .u8)) (hd : P.underlying d = some .string) (hx : Val T x v)
    (hr : ∀ w, Wd w → ∃ F : Bs, (kslice e by_ kbyte).ro w F xs [v]) : Quiet P o T Wd (.string (bstr xs)) := fun a w ha hw => by
  obtain ⟨F, hr⟩ := hr w hw
  obtain ⟨A, c, rfl, h1, h2, h3, h4⟩ := ro_form hr
  simp only [execOp, ho, hx a ha]
  have key : (convert s d (.slice A xs.length c)).run P w = .ok (.string (bstr xs)) w := by
    rw [run_convert_bytes_string w s d e _ _ c hs he hd]
    cases A with
    | none =>
      have : xs = [] := by
        cases xs with
        | nil => rfl
        | cons y ys => obtain ⟨ad, h, _⟩ := h4 (by simp); cases h
      subst this
      simp [Conv.bytesToString, bstr]
      rfl
    | some ad =>
      have hl : (loadCells ad xs.length).run P w = .ok ((xs.map fun b => (b.toNat : Int)).map (Value.int .u8)).toArray w := by
        have := run_loadCells_list (P := P) w ad ((xs.map fun b => (b.toNat : Int)).map (Value.int .u8)) (fun i u hu => by
          simp only [List.map_map, List.getElem?_map, Option.map_eq_some_iff, Function.comp] at hu
          obtain ⟨b, hb, rfl⟩ := hu
          have hp : 0 < xs.length := by have := (List.getElem?_eq_some_iff.1 hb).1; omega
          obtain ⟨ad', ha', hro⟩ := h4 hp
          obtain rfl := Option.some.inj ha'
          obtain ⟨ecs, ⟨rfl, _⟩, h6⟩ := hro.2 i b hb
          have := h6 0 _ rfl
          simpa [kbyte, kscalar] using this)
        simpa using this
      rw [run_bytesToString w ad _ c _ hl, bstr_of]
  simp [key]
/-! ### structs of scalars, compared -/
theorem eqFs_nil {d : Nat} {xs ys : Array Value} (w : World) : (Op.eqFields d xs ys []).run P w = .ok true w := by simp [Op.eqFields]
theorem eqFs_cons {d : Nat} {xs ys : Array Value} {f : Field} {fs : List Field} {a b : Value} {r q : Bool} (hn : (f.name != "_") = true) (ha : ∀ w, (part f.type xs f.offset).run P w = .ok a w) (hb : ∀ w, (part f.type ys f.offset).run P w = .ok b w)
    (he : ∀ w, (Op.equalIn d f.type a b).run P w = .ok r w) (hr : ∀ w, (Op.eqFields d xs ys fs).run P w = .ok q w) (w : World) : (Op.eqFields d xs ys (f :: fs)).run P w = .ok (r && q) w := by
  have hn' : f.name ≠ "_" := by simpa using hn
  simp only [Op.eqFields]
  rw [if_pos hn']
  simp only [Sem.run_bind, ha, hb, he, Result.andThen_ok]
  cases r <;> simp [hr]
theorem beq_str (a b : ByteArray) : (a.toList == b.toList) = decide (a = b) := by
  rw [ByteArray.toList_eq, ByteArray.toList_eq, Bool.eq_iff_iff, beq_iff_eq, decide_eq_true_iff]
  constructor
  · intro h
    cases a
    cases b
    simp only [Array.toList_inj] at h
    rw [h]
  · rintro rfl; rfl
theorem beq_int (a b : Int) : (a == b) = decide (a = b) := beq_dec a b
theorem q_enteql {x y : Operand} {t t' : TypeId} {xs ys : Array Value} {b : Bool} (ho : o.op = .binOp .eql t x y t') (he : ∀ w, (Op.equalIn 10000 t (.agg xs) (.agg ys)).run P w = .ok b w) (hg : P.eqGuardType P.depth t = false) (hx : Val T x (.agg xs)) (hy : Val T y (.agg ys)) : Quiet P o T Wd (.bool b) := fun a w ha _ => by
  simp only [execOp, ho, hx a ha, hy a ha]
  simp [run_eqGuard_agg w .eql t x y xs ys hg, run_eql_struct w, he w]
theorem q_entneq {x y : Operand} {t t' : TypeId} {xs ys : Array Value} {b : Bool} (ho : o.op = .binOp .neq t x y t') (he : ∀ w, (Op.equalIn 10000 t (.agg xs) (.agg ys)).run P w = .ok b w) (hg : P.eqGuardType P.depth t = false) (hx : Val T x (.agg xs)) (hy : Val T y (.agg ys)) : Quiet P o T Wd (.bool (!b)) := fun a w ha _ => by
  simp only [execOp, ho, hx a ha, hy a ha]
  simp [run_eqGuard_agg w .neq t x y xs ys hg, run_neq_struct w, he w]
end
end Go.Proofs.Ytoaebcjjfojfeaa
/- What is proved: an argument that was read out of memory, of a kind: what the kind says holds of its cells. No condition. -/
namespace Go.Proofs.Ytoaebcjjfojfeaa
open Go Go.RowKit
set_option linter.unusedVariables false
set_option linter.unusedSimpArgs false
def InW (W : World) : Bs := fun b => b < W.heap.size
section
variable {H : Type} (enc : TypeId × Value → H) (P : Program) (W : World)
def Ko {α : Type} (t : TypeId) (K : Kd α) : Prop := ∀ (fuel : Nat) (cs : List Value) (x : DataW H × List MemPlace), DataW.trod enc P W 0 (fun _ => true) true fuel t cs = some x → (x.1.weights P t).all (· ≤ reachBytes) = true → ∃ y, K.ro W (InW W) y cs
def KoF {α : Type} (ps : List (TypeId × Nat)) (off : Nat) (K : Kd α) : Prop := ∀ (n : Nat) (cs : List Value) (xs : List (DataW H × List MemPlace)), off + K.sz ≤ cs.length → xs.length = ps.length →
  (∀ (i : Nat) (t : TypeId) (o : Nat), ps[i]? = some (t, o) → DataW.trod enc P W 0 (fun _ => true) true n t ((cs.drop o).take (P.cellsOf t)) = xs[i]?) → (DataW.weightsEach P (ps.map (·.1)) (xs.map (·.1))).all (· ≤ reachBytes) = true → ∃ y, K.ro W (InW W) y ((cs.drop off).take K.sz)
end
section
variable {H : Type} {enc : TypeId × Value → H} {P : Program} {W : World}
theorem Ko.int {t : TypeId} {k : IntKind} (ht : P.underlying t = some (.int k)) : Ko enc P W t (kint k) := fun fuel cs x h _ => by
  obtain ⟨n, rfl, _, _⟩ := DataW.trod_int ht h
  exact ⟨n, rfl, trivial⟩
theorem Ko.bool {t : TypeId} (ht : P.underlying t = some .bool) : Ko enc P W t kbool := fun fuel cs x h _ => by
  obtain ⟨n, rfl, _⟩ := DataW.trod_bool ht h
  exact ⟨n, rfl, trivial⟩
theorem Ko.byte {t : TypeId} (ht : P.underlying t = some (.int .u8)) : Ko enc P W t kbyte := fun fuel cs x h _ => by
  obtain ⟨n, rfl, _, hw⟩ := DataW.trod_int ht h
  have hn : 0 ≤ n ∧ n < 256 := by
    have h1 := of_decide_eq_true (Bool.and_eq_true_iff.1 (show (decide (IntKind.min .u8 ≤ n) && decide (n ≤ IntKind.max .u8)) = true from hw)).1
    have h2 := of_decide_eq_true (Bool.and_eq_true_iff.1 (show (decide (IntKind.min .u8 ≤ n) && decide (n ≤ IntKind.max .u8)) = true from hw)).2
    have e1 : IntKind.min .u8 = 0 := by decide
    have e2 : IntKind.max .u8 = 255 := by decide
    omega
  refine ⟨UInt8.ofNat n.toNat, ?_, trivial⟩
  have : ((UInt8.ofNat n.toNat).toNat : Int) = n := by
    rw [UInt8.toNat_ofNat']; omega
  show [Value.int .u8 n] = [Value.int .u8 ((UInt8.ofNat n.toNat).toNat : Int)]
  rw [this]
theorem Ko.str {t : TypeId} (ht : P.underlying t = some .string) : Ko enc P W t kstr := fun fuel cs x h hw => by
  obtain ⟨s, rfl, rfl, _⟩ := DataW.trod_string ht h
  refine ⟨s, rfl, ?_⟩
  have h1 := List.all_eq_true.1 hw s.data.toList.length (by simp [DataW.weights])
  have h2 : s.data.toList.length ≤ 140737488351232 := of_decide_eq_true h1
  rw [Array.length_toList] at h2
  exact h2
theorem list_ofG {β : Type} {p : Nat → β → Prop} : ∀ n, (∀ j, j < n → ∃ c, p j c) → ∃ css : List β, css.length = n ∧ ∀ j c, css[j]? = some c → p j c
  | 0, _ => ⟨[], rfl, by simp⟩
  | n + 1, h => by
    obtain ⟨css, h1, h2⟩ := list_ofG n (fun j hj => h j (by omega))
    obtain ⟨c, hc⟩ := h n (by omega)
    refine ⟨css ++ [c], by simp [h1], fun j d hd => ?_⟩
    rw [List.getElem?_append] at hd
    split at hd
    · exact h2 j d hd
    · rename_i hj
      have : j - css.length = 0 := by
        have := (List.getElem?_eq_some_iff.1 hd).1
        simp at this; omega
      have e : j = n := by omega
      subst e
      rw [h1] at hd
      simp at hd
      subst hd
      exact hc
theorem weightsAll_mem {e : TypeId} : ∀ {ds : List (DataW H)} {d : DataW H}, d ∈ ds → (DataW.weightsAll P e ds).all (· ≤ reachBytes) = true → (d.weights P e).all (· ≤ reachBytes) = true
  | d0 :: ds, d, hd, h => by
    simp only [DataW.weightsAll, List.all_append, Bool.and_eq_true] at h
    rcases List.mem_cons.1 hd with rfl | hd
    · exact h.1
    · exact weightsAll_mem hd h.2
  | [], d, hd, _ => by cases hd
theorem Ko.slice {α : Type} {K : Kd α} {t e : TypeId} {by_ : Nat} (ht : P.underlying t = some (.slice e)) (hc : P.cellsOf e = K.sz) (hb : P.bytesOf e = by_) (hK : Ko enc P W e K) : Ko enc P W t (kslice e by_ K) := fun fuel cs x h hw => by
  rcases DataW.trod_slice ht h with ⟨rfl, rfl⟩ | ⟨a, len, cap, elems, rest, n, rfl, rfl, rfl, hb0, hl, hm, hlen, hel, hsp, _⟩
  · exact ⟨[], ro_nil⟩
  · simp only [DataW.weights, ht, List.all_cons, List.all_append, Bool.and_eq_true, decide_eq_true_eq, List.length_map] at hw
    obtain ⟨hw1, hw2, _⟩ := hw
    rw [hb] at hw1
    have each : ∀ j, j < len → ∃ y, ∃ ecs, K.ro W (InW W) y ecs ∧ InW W a.block ∧ ∀ i u, ecs[i]? = some u → W.cell? (a.add (j * K.sz + i)) = some u := by
      intro j hj
      have h1 := hel j hj
      rw [List.getElem?_eq_getElem (by omega), Option.bind_eq_some_iff] at h1
      obtain ⟨ecs, h2, h3⟩ := h1
      obtain ⟨y, hy⟩ := hK n ecs _ h3 (weightsAll_mem (List.mem_map.2 ⟨_, List.getElem_mem _, rfl⟩) hw2)
      obtain ⟨_, hlen2, hcells⟩ := World.cells?_some h2
      have hsz := K.ro_len hy
      have hcell : ∀ i u, ecs[i]? = some u → W.cell? (a.add (j * K.sz + i)) = some u := fun i u hu => by
        have hi : i < P.cellsOf e := by have := (List.getElem?_eq_some_iff.1 hu).1; omega
        have := hcells i hi
        rw [add_add, hc] at this
        rw [this, hu]
      refine ⟨y, ecs, hy, ?_, hcell⟩
      have hpos := K.pos
      have h0 := hcell 0 ecs[0] (List.getElem?_eq_getElem (by omega))
      unfold World.cell? at h0
      rw [add_block] at h0
      unfold InW
      cases hh : W.heap[a.block]? with
      | none => rw [hh] at h0; simp at h0
      | some b => exact (Array.getElem?_eq_some_iff.1 hh).1
    obtain ⟨xs, hxl, hxs⟩ := list_ofG len each
    refine ⟨xs, some a, cap, by rw [hxl], by rw [hxl]; exact hl, hm, ?_, fun hp => ⟨a, rfl, ?_, fun j y hy => ?_⟩⟩
    · have : xs.length * by_ ≤ (elems.length + rest.length) * by_ := Nat.mul_le_mul_right _ (by omega)
      unfold reachBytes at hw1
      omega
    · obtain ⟨ecs, _, h, _⟩ := hxs 0 _ (List.getElem?_eq_getElem hp)
      exact h
    · obtain ⟨ecs, h1, _, h2⟩ := hxs j y hy
      exact ⟨ecs, h1, h2⟩
theorem KoF.one {α : Type} {K : Kd α} {t : TypeId} {off : Nat} (hc : P.cellsOf t = K.sz) (h : Ko enc P W t K) : KoF enc P W [(t, off)] off K := fun n cs xs hl hx hf hw => by
  have h0 := hf 0 t off rfl
  rw [List.getElem?_eq_getElem (by simp at hx; omega), hc] at h0
  refine h n _ _ h0 ?_
  match xs, hx with
  | [x], _ =>
    simp only [List.map_cons, List.map_nil, DataW.weightsEach, List.append_nil] at hw
    exact hw
theorem KoF.cons {α β : Type} {A : Kd α} {B : Kd β} {t : TypeId} {ps : List (TypeId × Nat)} {off off' : Nat} (hc : P.cellsOf t = A.sz) (ho : off + A.sz = off') (h : Ko enc P W t A) (hs : KoF enc P W ps off' B) : KoF enc P W ((t, off) :: ps) off (kpair A B) := fun n cs xs hl hx hf hw => by
  subst ho
  have hsz : (kpair A B).sz = A.sz + B.sz := rfl
  match xs, hx with
  | x :: xs, hx =>
    simp only [List.map_cons, DataW.weightsEach, List.all_append, Bool.and_eq_true] at hw
    have h0 := hf 0 t off rfl
    rw [List.getElem?_cons_zero, hc] at h0
    obtain ⟨y1, hy1⟩ := h n _ _ h0 hw.1
    obtain ⟨y2, hy2⟩ := hs n cs xs (by rw [hsz] at hl; omega) (by simpa using hx) (fun i t' o' hi => by have := hf (i + 1) t' o' (by simpa using hi); simpa using this) hw.2
    refine ⟨(y1, y2), _, _, ?_, hy1, hy2⟩
    rw [hsz, List.take_add, List.drop_drop]
theorem Ko.struct {α β : Type} {K : Kd α} {t : TypeId} {fs : Array Field} {ps : List (TypeId × Nat)} {g : β → α} (ht : P.underlying t = some (.struct fs)) (hps : fs.toList.map (fun f => (f.type, f.offset)) = ps) (hc : P.cellsOf t = K.sz) (hF : KoF enc P W ps 0 K) (inv : α → β) (hg : ∀ y, g (inv y) = y) : Ko enc P W t (kiso K g) := fun fuel cs x h hw => by
  obtain ⟨xs, n, rfl, rfl, hl, hx, hf⟩ := DataW.trod_struct ht h
  subst hps
  have hw' : (DataW.weightsEach P ((fs.toList.map (fun f => (f.type, f.offset))).map (·.1)) (xs.map (·.1))).all (· ≤ reachBytes) = true := by
    simp only [DataW.weights, ht] at hw
    rw [List.map_map]
    exact hw
  obtain ⟨y, hy⟩ := hF n cs xs (by omega) (by simp [hx]) (fun i t' o hi => by
    simp only [List.getElem?_map, Option.map_eq_some_iff] at hi
    obtain ⟨f, h1, h2⟩ := hi
    obtain ⟨rfl, rfl⟩ := Prod.mk.inj h2
    exact hf i f (by simpa using h1)) hw'
  refine ⟨inv y, ?_⟩
  show K.ro W (InW W) (g (inv y)) cs
  rw [hg]
  have : (cs.drop 0).take K.sz = cs := by rw [List.drop_zero, List.take_of_length_le (by omega)]
  rwa [this] at hy
/-- An argument. -/
theorem Ko.arg {α : Type} {K : Kd α} {t : TypeId} {v : Value} {d : DataW H} {p : List MemPlace} (h : Ko enc P W t K) (hd : DataW.Trod enc P W 0 (fun _ => true) true t v d p) (hw : (d.weights P t).all (· ≤ reachBytes) = true) : ∃ y, K.ro W (FF W (fun _ => False)) y v.cells.toList := by
  obtain ⟨fuel, hf⟩ := hd
  obtain ⟨y, hy⟩ := h fuel _ (d, p) hf hw
  exact ⟨y, K.ro_up hy (fun b hb => ⟨hb, fun h => h⟩)⟩
theorem Ko.argS {α : Type} {K : Kd α} {t : TypeId} {v : Value} {d : DataW H} {p : List MemPlace} {n : Nat} (h : Ko enc P W t K) (hd : DataW.Trod enc P W 0 (fun _ => true) true t v d p) (hw : (d.weights P t).all (· ≤ reachBytes) = true) (ho : ∃ cs, v = .agg cs ∧ cs.size = n) : ∃ y cs, v = .agg (List.toArray cs) ∧ K.ro W (FF W (fun _ => False)) y cs := by
  obtain ⟨cs, rfl, _⟩ := ho
  obtain ⟨y, hy⟩ := h.arg hd hw
  exact ⟨y, cs.toList, by simp, hy⟩
theorem Ko.argV {α : Type} {K : Kd α} {t : TypeId} {v : Value} {d : DataW H} {p : List MemPlace} (h : Ko enc P W t K) (hd : DataW.Trod enc P W 0 (fun _ => true) true t v d p) (hw : (d.weights P t).all (· ≤ reachBytes) = true) (ho : ∃ A n c, v = .slice A n c) : ∃ y, K.ro W (FF W (fun _ => False)) y [v] := by
  obtain ⟨A, n, c, rfl⟩ := ho
  exact h.arg hd hw
theorem Ko.argI {t : TypeId} {k : IntKind} {v : Value} {d : DataW H} {p : List MemPlace} {r : Reach} {b0 : Nat} (ht : P.underlying t = some (.int k)) (ho : Value.okWide P W r b0 t v) (hd : DataW.Trod enc P W 0 (fun _ => true) true t v d p) : ∃ n, v = .int k n ∧ k.min ≤ n ∧ n ≤ k.max := by
  obtain ⟨n, rfl, _, _, hw⟩ := ChangeShapes.open_int ht ho hd
  have h := Bool.and_eq_true_iff.1 (show (decide (k.min ≤ n) && decide (n ≤ k.max)) = true from hw)
  exact ⟨n, rfl, of_decide_eq_true h.1, of_decide_eq_true h.2⟩
theorem Ko.argB {t : TypeId} {v : Value} {d : DataW H} {p : List MemPlace} {r : Reach} {b0 : Nat} (ht : P.underlying t = some .bool) (ho : Value.okWide P W r b0 t v) (hd : DataW.Trod enc P W 0 (fun _ => true) true t v d p) : ∃ b, v = .bool b := by
  obtain ⟨n, rfl, _⟩ := open_bool ht ho hd
  exact ⟨n, rfl⟩
theorem Ko.argT {t : TypeId} {v : Value} {d : DataW H} {p : List MemPlace} {r : Reach} {b0 : Nat} (ht : P.underlying t = some .string) (ho : Value.okWide P W r b0 t v) (hd : DataW.Trod enc P W 0 (fun _ => true) true t v d p) (hw : (d.weights P t).all (· ≤ reachBytes) = true) : ∃ s : ByteArray, v = .string s ∧ s.size ≤ 140737488351232 := by
  obtain ⟨s, rfl, rfl, _, _⟩ := ChangeMaps.open_string ht ho hd
  refine ⟨s, rfl, ?_⟩
  have h1 := List.all_eq_true.1 hw s.data.toList.length (by simp [DataW.weights])
  have h2 : s.data.toList.length ≤ 140737488351232 := of_decide_eq_true h1
  rw [Array.length_toList] at h2
  exact h2
theorem each_cons {t : TypeId} {ts : List TypeId} {d : DataW H} {ds : List (DataW H)} (h : (DataW.weightsEach P (t :: ts) (d :: ds)).all (· ≤ reachBytes) = true) : (d.weights P t).all (· ≤ reachBytes) = true ∧ (DataW.weightsEach P ts ds).all (· ≤ reachBytes) = true := by
  simp only [DataW.weightsEach, List.all_append, Bool.and_eq_true] at h
  exact h
end
/-- What a law's walk says, as its row asks. -/
theorem law_end {P : Program} {f : FuncId} {args : Array Value} {W : World} (h : Calls P f args W (TriPost W (fun _ => False) (fun r l => r = .bool true ∧ l = []))) : Calls P f args W (fun e W' => e = .returned (.bool true) ∧ Below W.heap.size W W') :=
  h.mono fun e W' ⟨r, l, he, ⟨hr, _⟩, ⟨S, _, _, hf⟩⟩ => by
    subst hr
    exact ⟨he, hf.below⟩
end Go.Proofs.Ytoaebcjjfojfeaa
/- What is proved: the disk, as plain functions on data, and when each answer comes. No condition. -/
namespace Go.Proofs.Ytoaebcjjfojfeaa
set_option linter.unusedVariables false
set_option linter.unusedSimpArgs false
def firstF {α : Type} (f : α → Int) : List α → Int
  | [] => 0
  | x :: xs => if f x = 0 then firstF f xs else f x
theorem firstF_none {α : Type} {f : α → Int} {xs : List α} (h : ∀ (j : Nat) x, xs[j]? = some x → f x = 0) : firstF f xs = 0 := by
  induction xs with
  | nil => rfl
  | cons x xs ih =>
    simp only [firstF, h 0 x rfl, if_true]
    exact ih (fun j y hy => h (j + 1) y hy)
theorem firstF_some {α : Type} {f : α → Int} : ∀ {xs : List α} {k : Nat} {x : α}, xs[k]? = some x → f x ≠ 0 → (∀ j y, j < k → xs[j]? = some y → f y = 0) → firstF f xs = f x
  | [], k, x, h, _, _ => by simp at h
  | y :: xs, 0, x, h, hn, _ => by
    simp at h; subst h
    simp only [firstF, if_neg hn]
  | y :: xs, k + 1, x, h, hn, ha => by
    simp only [firstF, ha 0 y (by omega) rfl, if_true]
    exact firstF_some (by simpa using h) hn (fun j z hj hz => ha (j + 1) z (by omega) (by simpa using hz))
def wordsFault (ws : List Int) : Int := if 64 < ws.length then 2 else if ws.any (fun w => !decide (0 ≤ w ∧ w ≤ 65535)) then 3 else 0
theorem wordsFault_2 {ws : List Int} (h : (64 : Int) < (ws.length : Int)) : wordsFault ws = 2 := by unfold wordsFault; rw [if_pos (by omega)]
theorem wordsFault_3 {ws : List Int} {k : Nat} {x : Int} (h : ¬ (64 : Int) < (ws.length : Int)) (hx : ws[k]? = some x) (hb : ¬ (0 ≤ x ∧ x ≤ 65535)) : wordsFault ws = 3 := by
  unfold wordsFault; rw [if_neg (by omega), if_pos]
  rw [List.any_eq_true]
  exact ⟨x, List.mem_of_getElem? hx, by simp only [hb, decide_false, Bool.not_false]⟩
theorem wordsFault_0 {ws : List Int} (h : ¬ (64 : Int) < (ws.length : Int)) (ha : ∀ (j : Nat) x, j < ws.length → ws[j]? = some x → 0 ≤ x ∧ x ≤ 65535) : wordsFault ws = 0 := by
  unfold wordsFault; rw [if_neg (by omega), if_neg]
  rw [List.any_eq_true]
  rintro ⟨x, hx, hb⟩
  obtain ⟨j, hj, rfl⟩ := List.mem_iff_getElem.1 hx
  have := ha j _ hj (List.getElem?_eq_getElem hj)
  simp [this] at hb
theorem wordsFault_3' {ws : List Int} (h : ¬ (64 : Int) < (ws.length : Int)) (hb : ws.any (fun w => !decide (0 ≤ w ∧ w ≤ 65535)) = true) : wordsFault ws = 3 := by
  unfold wordsFault; rw [if_neg (by omega), if_pos hb]
theorem wordsFault_0' {ws : List Int} (h : ¬ (64 : Int) < (ws.length : Int)) (hb : ws.any (fun w => !decide (0 ≤ w ∧ w ≤ 65535)) = false) : wordsFault ws = 0 := by
  unfold wordsFault; rw [if_neg (by omega), if_neg (by rw [hb]; exact Bool.false_ne_true)]
theorem idxF_any {α : Type} (p : α → Bool) (xs : List α) : decide (0 ≤ idxF p xs) = xs.any p := by
  unfold idxF
  cases h : xs.findIdx? p with
  | none =>
    have : xs.any p = false := by rw [List.any_eq_false]; intro x hx; have := List.findIdx?_eq_none_iff.1 h x hx; simp [this]
    rw [this]; rfl
  | some i =>
    have : xs.any p = true := by
      rw [List.any_eq_true]
      obtain ⟨hi, hp, _⟩ := List.findIdx?_eq_some_iff_getElem.1 h
      exact ⟨_, List.getElem_mem hi, hp⟩
    rw [this]; simp
abbrev placeIn (n : Nat) (at_ : Int) : Prop := 0 ≤ at_ ∧ at_ ≤ (n : Int) - 1
def putFault (n : Nat) (p : DPut) : Int := if placeIn n p.at_ then wordsFault p.words else 3
def diskFault (d : DDisk) : Int := if 60 < d.blocks.length ∨ 200 < d.cache.length then 2 else if firstF wordsFault d.blocks = 0 then firstF (putFault d.blocks.length) d.cache else firstF wordsFault d.blocks
theorem diskFault_2 {d : DDisk} (h : (60 : Int) < (d.blocks.length : Int)) : diskFault d = 2 := by unfold diskFault; rw [if_pos (by omega)]
theorem diskFault_2' {d : DDisk} (h : (200 : Int) < (d.cache.length : Int)) : diskFault d = 2 := by unfold diskFault; rw [if_pos (by omega)]
theorem diskFault_w {d : DDisk} {k : Nat} {x : List Int} (h : ¬ (60 : Int) < (d.blocks.length : Int)) (h' : ¬ (200 : Int) < (d.cache.length : Int)) (hx : d.blocks[k]? = some x) (hn : ¬ wordsFault x = 0) (ha : ∀ j y, j < k → d.blocks[j]? = some y → wordsFault y = 0) : diskFault d = wordsFault x := by
  unfold diskFault; rw [if_neg (by omega), firstF_some hx hn ha, if_neg hn]
theorem diskFault_p {d : DDisk} {k : Nat} {x : DPut} (h : ¬ (60 : Int) < (d.blocks.length : Int)) (h' : ¬ (200 : Int) < (d.cache.length : Int)) (hb : ∀ j y, j < d.blocks.length → d.blocks[j]? = some y → wordsFault y = 0) (hx : d.cache[k]? = some x) (hn : ¬ putFault d.blocks.length x = 0) (ha : ∀ j y, j < k → d.cache[j]? = some y → putFault d.blocks.length y = 0) : diskFault d = putFault d.blocks.length x := by
  unfold diskFault; rw [if_neg (by omega), firstF_none (fun j y hy => hb j y (List.getElem?_eq_some_iff.1 hy).1 hy), if_pos rfl, firstF_some hx hn ha]
theorem diskFault_0 {d : DDisk} (h : ¬ (60 : Int) < (d.blocks.length : Int)) (h' : ¬ (200 : Int) < (d.cache.length : Int)) (hb : ∀ j y, j < d.blocks.length → d.blocks[j]? = some y → wordsFault y = 0) (ha : ∀ j y, j < d.cache.length → d.cache[j]? = some y → putFault d.blocks.length y = 0) : diskFault d = 0 := by
  unfold diskFault; rw [if_neg (by omega), firstF_none (fun j y hy => hb j y (List.getElem?_eq_some_iff.1 hy).1 hy), if_pos rfl, firstF_none (fun j y hy => ha j y (List.getElem?_eq_some_iff.1 hy).1 hy)]
theorem putFault_3 {n : Nat} {p : DPut} (h : ¬ (0 ≤ p.at_ ∧ p.at_ ≤ (n : Int) - 1)) : putFault n p = 3 := by unfold putFault; rw [if_neg h]
theorem putFault_w {n : Nat} {p : DPut} (h : 0 ≤ p.at_ ∧ p.at_ ≤ (n : Int) - 1) : putFault n p = wordsFault p.words := by unfold putFault; rw [if_pos h]
theorem take_snoc {α : Type} {xs : List α} {k : Nat} {x : α} (h : xs[k]? = some x) : xs.take k ++ [x] = xs.take (k + 1) := by
  rw [List.take_add_one, h]; rfl
theorem diskFault_60 {d : DDisk} (h : diskFault d = 0) : d.blocks.length ≤ 60 ∧ d.cache.length ≤ 200 := by
  by_cases hc : 60 < d.blocks.length ∨ 200 < d.cache.length
  · unfold diskFault at h; rw [if_pos hc] at h; cases h
  · omega
/-! ### new disks, new kernels -/
def newDisk (n : Int) : RDisk := if 0 ≤ n ∧ n ≤ 60 then ⟨0, ⟨List.replicate n.toNat [], []⟩⟩ else ⟨3, ⟨[], []⟩⟩
theorem newDisk_ok {n : Int} (h : 0 ≤ n ∧ n ≤ 60) : newDisk n = ⟨0, ⟨List.replicate n.toNat [], []⟩⟩ := if_pos h
theorem newDisk_no {n : Int} (h : ¬ (0 ≤ n ∧ n ≤ 60)) : newDisk n = ⟨3, ⟨[], []⟩⟩ := if_neg h
def badKern (c : Int) : RKern := ⟨c, [], ⟨⟨[], []⟩, []⟩⟩
def newKern (n : Int) : RKern := if (newDisk n).code = 0 then ⟨0, [], ⟨(newDisk n).disk, []⟩⟩ else badKern (newDisk n).code
theorem newKern_ok {n : Int} (h : (newDisk n).code = 0) : newKern n = ⟨0, [], ⟨(newDisk n).disk, []⟩⟩ := if_pos h
theorem newKern_no {n : Int} (h : ¬ (newDisk n).code = 0) : newKern n = ⟨(newDisk n).code, [], ⟨⟨[], []⟩, []⟩⟩ := if_neg h
/-! ### extents -/
def isExt (n : Nat) (e : DExt) : Prop := (1 ≤ e.key ∧ e.key ≤ 9999) ∧ (0 ≤ e.frm ∧ e.frm ≤ n) ∧ (1 ≤ e.cnt ∧ e.cnt ≤ n) ∧ e.frm + e.cnt ≤ n
instance (n : Nat) (e : DExt) : Decidable (isExt n e) := by unfold isExt; infer_instance
def extsFault (n : Nat) : Int → List DExt → Int
  | _, [] => 0
  | lo, e :: es => if isExt n e then if e.frm < lo then 1 else extsFault n (e.frm + e.cnt) es else 3
def kernFault (k : DKern) : Int := if diskFault k.disk = 0 then if 8 < k.exts.length then 2 else extsFault k.disk.blocks.length 0 k.exts else diskFault k.disk
theorem kernFault_d {k : DKern} (h : ¬ diskFault k.disk = 0) : kernFault k = diskFault k.disk := if_neg h
theorem kernFault_2 {k : DKern} (h : diskFault k.disk = 0) (h2 : (8 : Int) < (k.exts.length : Int)) : kernFault k = 2 := by unfold kernFault; rw [if_pos h, if_pos (by omega)]
theorem kernFault_e {k : DKern} (h : diskFault k.disk = 0) (h2 : ¬ (8 : Int) < (k.exts.length : Int)) : kernFault k = extsFault k.disk.blocks.length 0 k.exts := by unfold kernFault; rw [if_pos h, if_neg (by omega)]
theorem extsFault_3 {n : Nat} {lo : Int} {es : List DExt} {k : Nat} {e : DExt} (he : es[k]? = some e) (h : ¬ isExt n e) : extsFault n lo (es.drop k) = 3 := by
  obtain ⟨hk, rfl⟩ := List.getElem?_eq_some_iff.1 he
  rw [List.drop_eq_getElem_cons hk, extsFault, if_neg h]
theorem extsFault_1 {n : Nat} {lo : Int} {es : List DExt} {k : Nat} {e : DExt} (he : es[k]? = some e) (h : isExt n e) (h2 : e.frm < lo) : extsFault n lo (es.drop k) = 1 := by
  obtain ⟨hk, rfl⟩ := List.getElem?_eq_some_iff.1 he
  rw [List.drop_eq_getElem_cons hk, extsFault, if_pos h, if_pos h2]
theorem extsFault_s {n : Nat} {lo : Int} {es : List DExt} {k : Nat} {e : DExt} (he : es[k]? = some e) (h : isExt n e) (h2 : ¬ e.frm < lo) : extsFault n lo (es.drop k) = extsFault n (e.frm + e.cnt) (es.drop (k + 1)) := by
  obtain ⟨hk, rfl⟩ := List.getElem?_eq_some_iff.1 he
  rw [List.drop_eq_getElem_cons hk, extsFault, if_pos h, if_neg h2]
theorem extsFault_0 {n : Nat} {lo : Int} {es : List DExt} {k : Nat} (h : es.length ≤ k) : extsFault n lo (es.drop k) = 0 := by rw [List.drop_of_length_le h]; rfl
theorem ext_at {n : Nat} {es : List DExt} {q j : Nat} {x e : DExt} (hx : es[q]? = some x) (h : isExt n x) (he : es[j]? = some e) (hj : j = q) : x.frm + x.cnt = e.frm + e.cnt ∧ isExt n e := by
  subst hj; rw [hx] at he; obtain rfl := Option.some.inj he; exact ⟨rfl, h⟩
theorem extsFault_ok {n : Nat} : ∀ {es : List DExt} {lo : Int}, extsFault n lo es = 0 → ∀ (j : Nat) e, es[j]? = some e → isExt n e
  | [], _, _, j, e, h => by simp at h
  | x :: es, lo, h, j, e, he => by
    unfold extsFault at h
    by_cases hx : isExt n x
    · rw [if_pos hx] at h
      split at h
      · cases h
      · cases j with
        | zero => simp at he; subst he; exact hx
        | succ j => exact extsFault_ok h j e (by simpa using he)
    · rw [if_neg hx] at h; cases h
theorem kernOk {k : DKern} (h : kernFault k = 0) : diskFault k.disk = 0 ∧ k.exts.length ≤ 8 ∧ (∀ (j : Nat) e, k.exts[j]? = some e → isExt k.disk.blocks.length e) ∧ k.disk.blocks.length ≤ 60 := by
  unfold kernFault at h
  by_cases hd : diskFault k.disk = 0
  · rw [if_pos hd] at h
    split at h
    · cases h
    · exact ⟨hd, by omega, extsFault_ok h, (diskFault_60 hd).1⟩
  · rw [if_neg hd] at h; exact absurd h hd
/-! ### owners -/
abbrev owns (a : Int) (e : DExt) : Prop := e.frm ≤ a ∧ a ≤ e.frm + e.cnt - 1
def ownKey (a : Int) (es : List DExt) : Int := match es.find? (fun e => decide (owns a e)) with | some e => e.key | none => 0
theorem ownKey_some {a : Int} {es : List DExt} {k : Nat} {e : DExt} (he : es[k]? = some e) (h : owns a e) (ha : ∀ j x, j < k → es[j]? = some x → ¬ owns a x) : ownKey a es = e.key := by
  have : es.find? (fun e => decide (owns a e)) = some e := by
    obtain ⟨hk, rfl⟩ := List.getElem?_eq_some_iff.1 he
    rw [List.find?_eq_some_iff_getElem]
    exact ⟨decide_eq_true h, k, hk, rfl, fun j hj => by simp only [Bool.not_eq_true', decide_eq_false_iff_not]; exact ha j _ hj (List.getElem?_eq_getElem (by omega))⟩
  unfold ownKey; rw [this]
theorem ownKey_none {a : Int} {es : List DExt} (ha : ∀ (j : Nat) x, es[j]? = some x → ¬ owns a x) : ownKey a es = 0 := by
  have : es.find? (fun e => decide (owns a e)) = none := by
    rw [List.find?_eq_none]
    intro x hx
    obtain ⟨j, hj, rfl⟩ := List.mem_iff_getElem.1 hx
    simp only [decide_eq_true_eq]
    exact ha j _ (List.getElem?_eq_getElem hj)
  unfold ownKey; rw [this]
def ownerOf (k : DKern) (a : Int) : RInt := if kernFault k = 0 then if placeIn k.disk.blocks.length a then if ownKey a k.exts = 0 then ⟨4, 0⟩ else ⟨0, ownKey a k.exts⟩ else ⟨3, 0⟩ else ⟨kernFault k, 0⟩
theorem ownerOf_f {k : DKern} {a : Int} (h : ¬ kernFault k = 0) : ownerOf k a = ⟨kernFault k, 0⟩ := if_neg h
theorem ownerOf_3 {k : DKern} {a : Int} (h : kernFault k = 0) (h2 : ¬ placeIn k.disk.blocks.length a) : ownerOf k a = ⟨3, 0⟩ := by unfold ownerOf; rw [if_pos h, if_neg h2]
theorem ownerOf_4 {k : DKern} {a : Int} (h : kernFault k = 0) (h2 : placeIn k.disk.blocks.length a) (h3 : ownKey a k.exts = 0) : ownerOf k a = ⟨4, 0⟩ := by unfold ownerOf; rw [if_pos h, if_pos h2, if_pos h3]
theorem ownerOf_0 {k : DKern} {a : Int} (h : kernFault k = 0) (h2 : placeIn k.disk.blocks.length a) (h3 : ¬ ownKey a k.exts = 0) : ownerOf k a = ⟨0, ownKey a k.exts⟩ := by unfold ownerOf; rw [if_pos h, if_pos h2, if_neg h3]
theorem ownerOf_hit {k : DKern} {a : Int} {q : Nat} {e : DExt} (h : kernFault k = 0) (h2 : placeIn k.disk.blocks.length a) (he : k.exts[q]? = some e) (ho : owns a e) (ha : ∀ j x, j < q → k.exts[j]? = some x → ¬ owns a x) : ownerOf k a = ⟨0, e.key⟩ := by
  have hk := ownKey_some he ho ha
  have hx : isExt _ e := (kernOk h).2.2.1 q e he
  unfold isExt at hx
  rw [ownerOf_0 h h2 (by rw [hk]; omega), hk]
theorem ownerOf_none {k : DKern} {a : Int} {q : Nat} (h : kernFault k = 0) (h2 : placeIn k.disk.blocks.length a) (hq : k.exts.length ≤ q) (ha : ∀ j x, j < q → k.exts[j]? = some x → ¬ owns a x) : ownerOf k a = ⟨4, 0⟩ :=
  ownerOf_4 h h2 (ownKey_none fun j x hx => ha j x (by have := (List.getElem?_eq_some_iff.1 hx).1; omega) hx)
/-! ### puts -/
def keepN (all : Bool) (ks : List Bool) (ps : List DPut) (bs : List (List Int)) : Nat → List (List Int)
  | 0 => bs
  | k + 1 => match ps[k]? with
    | some p => if all || ks.getD k false then (keepN all ks ps bs k).set p.at_.toNat p.words else keepN all ks ps bs k
    | none => keepN all ks ps bs k
theorem keepN_len {all : Bool} {ks : List Bool} {ps : List DPut} {bs : List (List Int)} : ∀ k, (keepN all ks ps bs k).length = bs.length
  | 0 => rfl
  | k + 1 => by
    unfold keepN
    split
    · split
      · rw [List.length_set, keepN_len k]
      · exact keepN_len k
    · exact keepN_len k
theorem keepN_on {all : Bool} {ks : List Bool} {ps : List DPut} {bs : List (List Int)} {k : Nat} {p : DPut} (hp : ps[k]? = some p) (h : (all || ks.getD k false) = true) : (keepN all ks ps bs k).set p.at_.toNat p.words = keepN all ks ps bs (k + 1) := by
  conv => rhs; unfold keepN
  simp only [hp, h, if_true]
theorem keepN_off {all : Bool} {ks : List Bool} {ps : List DPut} {bs : List (List Int)} {k : Nat} {p : DPut} (hp : ps[k]? = some p) (h : (all || ks.getD k false) = false) : keepN all ks ps bs k = keepN all ks ps bs (k + 1) := by
  conv => rhs; unfold keepN
  simp only [hp, h, Bool.false_eq_true, if_false]
theorem firstF_all {α : Type} {f : α → Int} : ∀ {xs : List α}, firstF f xs = 0 → ∀ x, x ∈ xs → f x = 0
  | [], _, x, hx => by cases hx
  | y :: xs, h, x, hx => by
    unfold firstF at h
    by_cases hy : f y = 0
    · rw [if_pos hy] at h
      rcases List.mem_cons.1 hx with rfl | hx
      · exact hy
      · exact firstF_all h x hx
    · rw [if_neg hy] at h; exact absurd h hy
theorem diskOk {d : DDisk} (h : diskFault d = 0) : d.blocks.length ≤ 60 ∧ d.cache.length ≤ 200 ∧ (∀ b, b ∈ d.blocks → wordsFault b = 0) ∧ ∀ p, p ∈ d.cache → placeIn d.blocks.length p.at_ ∧ wordsFault p.words = 0 := by
  have h1 := diskFault_60 h
  unfold diskFault at h
  rw [if_neg (by omega)] at h
  by_cases hb : firstF wordsFault d.blocks = 0
  · rw [if_pos hb] at h
    refine ⟨h1.1, h1.2, firstF_all hb, fun p hp => ?_⟩
    have := firstF_all h p hp
    unfold putFault at this
    by_cases hpl : placeIn d.blocks.length p.at_
    · rw [if_pos hpl] at this; exact ⟨hpl, this⟩
    · rw [if_neg hpl] at this; cases this
  · rw [if_neg hb] at h; exact absurd h hb
theorem words_64 {ws : List Int} (h : wordsFault ws = 0) : ws.length ≤ 64 := by
  by_cases hc : 64 < ws.length
  · unfold wordsFault at h; rw [if_pos hc] at h; cases h
  · omega
theorem putAt_ok {d : DDisk} (h : diskFault d = 0) {k : Nat} {p : DPut} (hp : d.cache[k]? = some p) : 0 ≤ p.at_ ∧ p.at_ ≤ (d.blocks.length : Int) - 1 := ((diskOk h).2.2.2 p (List.mem_of_getElem? hp)).1
def badDisk (c : Int) : RDisk := ⟨c, ⟨[], []⟩⟩
def putBlock (d : DDisk) (a : Int) (ws : List Int) : RDisk :=
  if diskFault d = 0 then if placeIn d.blocks.length a then if wordsFault ws = 0 then if 200 ≤ d.cache.length then badDisk 2 else ⟨0, ⟨d.blocks, d.cache ++ [⟨a, ws⟩]⟩⟩ else badDisk (wordsFault ws) else badDisk 3 else badDisk (diskFault d)
def flushDisk (d : DDisk) : RDisk := if diskFault d = 0 then ⟨0, ⟨keepN true [] d.cache d.blocks d.cache.length, []⟩⟩ else badDisk (diskFault d)
def crashDisk (d : DDisk) (ks : List Bool) : RDisk := if diskFault d = 0 then ⟨0, ⟨keepN false ks d.cache d.blocks d.cache.length, []⟩⟩ else badDisk (diskFault d)
theorem putBlock_f {d : DDisk} {a : Int} {ws : List Int} (h : ¬ diskFault d = 0) : putBlock d a ws = badDisk (diskFault d) := if_neg h
theorem putBlock_3 {d : DDisk} {a : Int} {ws : List Int} (h : diskFault d = 0) (h2 : ¬ placeIn d.blocks.length a) : putBlock d a ws = badDisk 3 := by unfold putBlock; rw [if_pos h, if_neg h2]
theorem putBlock_w {d : DDisk} {a : Int} {ws : List Int} (h : diskFault d = 0) (h2 : placeIn d.blocks.length a) (h3 : ¬ wordsFault ws = 0) : putBlock d a ws = badDisk (wordsFault ws) := by unfold putBlock; rw [if_pos h, if_pos h2, if_neg h3]
theorem putBlock_2 {d : DDisk} {a : Int} {ws : List Int} (h : diskFault d = 0) (h2 : placeIn d.blocks.length a) (h3 : wordsFault ws = 0) (h4 : 200 ≤ d.cache.length) : putBlock d a ws = badDisk 2 := by unfold putBlock; rw [if_pos h, if_pos h2, if_pos h3, if_pos h4]
theorem putBlock_0 {d : DDisk} {a : Int} {ws : List Int} (h : diskFault d = 0) (h2 : placeIn d.blocks.length a) (h3 : wordsFault ws = 0) (h4 : ¬ 200 ≤ d.cache.length) : putBlock d a ws = ⟨0, ⟨d.blocks, d.cache ++ [⟨a, ws⟩]⟩⟩ := by unfold putBlock; rw [if_pos h, if_pos h2, if_pos h3, if_neg h4]
def blockFault (d : DDisk) (a : Int) : Int := if diskFault d = 0 then if placeIn d.blocks.length a then 0 else 3 else diskFault d
theorem blockFault_f {d : DDisk} {a : Int} (h : ¬ diskFault d = 0) : blockFault d a = diskFault d := if_neg h
theorem blockFault_3 {d : DDisk} {a : Int} (h : diskFault d = 0) (h2 : ¬ placeIn d.blocks.length a) : blockFault d a = 3 := by unfold blockFault; rw [if_pos h, if_neg h2]
theorem blockFault_0 {d : DDisk} {a : Int} (h : diskFault d = 0) (h2 : placeIn d.blocks.length a) : blockFault d a = 0 := by unfold blockFault; rw [if_pos h, if_pos h2]
theorem blockFault_ok {d : DDisk} {a : Int} (h : blockFault d a = 0) : diskFault d = 0 ∧ placeIn d.blocks.length a := by
  unfold blockFault at h
  by_cases h1 : diskFault d = 0
  · rw [if_pos h1] at h
    by_cases h2 : placeIn d.blocks.length a
    · exact ⟨h1, h2⟩
    · rw [if_neg h2] at h; cases h
  · rw [if_neg h1] at h; exact absurd h h1
theorem putBlock_b {d : DDisk} {a : Int} {ws : List Int} (h : ¬ blockFault d a = 0) : putBlock d a ws = badDisk (blockFault d a) := by
  by_cases h1 : diskFault d = 0
  · by_cases h2 : placeIn d.blocks.length a
    · exact absurd (blockFault_0 h1 h2) h
    · rw [putBlock_3 h1 h2, blockFault_3 h1 h2]
  · rw [putBlock_f h1, blockFault_f h1]
theorem flushDisk_f {d : DDisk} (h : ¬ diskFault d = 0) : flushDisk d = badDisk (diskFault d) := if_neg h
theorem flushDisk_0 {d : DDisk} (h : diskFault d = 0) : flushDisk d = ⟨0, ⟨keepN true [] d.cache d.blocks d.cache.length, []⟩⟩ := if_pos h
theorem crashDisk_f {d : DDisk} {ks : List Bool} (h : ¬ diskFault d = 0) : crashDisk d ks = badDisk (diskFault d) := if_neg h
theorem crashDisk_0 {d : DDisk} {ks : List Bool} (h : diskFault d = 0) : crashDisk d ks = ⟨0, ⟨keepN false ks d.cache d.blocks d.cache.length, []⟩⟩ := if_pos h
theorem getD_out {ks : List Bool} {k : Nat} (h : ¬ (k : Int) < (ks.length : Int)) : ks.getD k false = false := by
  rw [List.getD_eq_getElem?_getD, List.getElem?_eq_none (by omega)]; rfl
theorem getD_in {ks : List Bool} {k : Nat} {b : Bool} (h : ks[k]? = some b) : ks.getD k false = b := by
  rw [List.getD_eq_getElem?_getD, h]; rfl
theorem keepN_nil {ps : List DPut} {bs : List (List Int)} {ks : List Bool} {all : Bool} : bs = keepN all ks ps bs 0 := rfl
theorem keepN_64 {all : Bool} {ks : List Bool} {ps : List DPut} {bs : List (List Int)} (hb : ∀ b, b ∈ bs → b.length ≤ 64) (hp : ∀ p, p ∈ ps → p.words.length ≤ 64) : ∀ k b, b ∈ keepN all ks ps bs k → b.length ≤ 64
  | 0, b, h => hb b h
  | k + 1, b, h => by
    unfold keepN at h
    split at h
    · rename_i p hpk
      split at h
      · rcases List.mem_or_eq_of_mem_set h with h | rfl
        · exact keepN_64 hb hp k b h
        · exact hp p (List.mem_of_getElem? hpk)
      · exact keepN_64 hb hp k b h
    · exact keepN_64 hb hp k b h
def hasKey (key : Int) (es : List DExt) : Bool := es.any (fun e => decide (e.key = key))
theorem hasKey_some {key : Int} {es : List DExt} {q : Nat} {e : DExt} (he : es[q]? = some e) (h : e.key = key) : hasKey key es = true := by
  unfold hasKey; rw [List.any_eq_true]; exact ⟨e, List.mem_of_getElem? he, decide_eq_true h⟩
theorem hasKey_none {key : Int} {es : List DExt} {q : Nat} (hq : es.length ≤ q) (h : ∀ j e, j < q → es[j]? = some e → ¬ e.key = key) : hasKey key es = false := by
  unfold hasKey; rw [List.any_eq_false]
  intro e he
  obtain ⟨j, hj, rfl⟩ := List.mem_iff_getElem.1 he
  simp only [decide_eq_true_eq]
  exact h j _ (by omega) (List.getElem?_eq_getElem hj)
theorem hasKey_not {key : Int} {es : List DExt} (h : (!es.any fun x => decide (x.key = key)) = true) : hasKey key es = false := by unfold hasKey; simpa using h
theorem hasKey_yes {key : Int} {es : List DExt} (h : (!es.any fun x => decide (x.key = key)) = false) : hasKey key es = true := by unfold hasKey; simpa using h
def flushKern (k : DKern) (key : Int) : RKern := if kernFault k = 0 then if hasKey key k.exts = true then ⟨0, [], ⟨⟨keepN true [] k.disk.cache k.disk.blocks k.disk.cache.length, []⟩, k.exts⟩⟩ else badKern 6 else badKern (kernFault k)
theorem flushKern_f {k : DKern} {key : Int} (h : ¬ kernFault k = 0) : flushKern k key = badKern (kernFault k) := if_neg h
theorem flushKern_6 {k : DKern} {key : Int} (h : kernFault k = 0) (h2 : hasKey key k.exts = false) : flushKern k key = badKern 6 := by unfold flushKern; rw [if_pos h, if_neg (by rw [h2]; exact Bool.false_ne_true)]
theorem flushKern_0 {k : DKern} {key : Int} (h : kernFault k = 0) (h2 : hasKey key k.exts = true) : flushKern k key = ⟨0, [], ⟨⟨keepN true [] k.disk.cache k.disk.blocks k.disk.cache.length, []⟩, k.exts⟩⟩ := by unfold flushKern; rw [if_pos h, if_pos h2]
/-! ### writing by a key -/
def mayFault (k : DKern) (key a : Int) : Int := if (ownerOf k a).code = 0 then if (ownerOf k a).val = key then 0 else 6 else (ownerOf k a).code
theorem mayFault_n {k : DKern} {key a : Int} (h : ¬ (ownerOf k a).code = 0) : mayFault k key a = (ownerOf k a).code := if_neg h
theorem mayFault_6 {k : DKern} {key a : Int} (h : (ownerOf k a).code = 0) (h2 : ¬ (ownerOf k a).val = key) : mayFault k key a = 6 := by unfold mayFault; rw [if_pos h, if_neg h2]
theorem mayFault_0 {k : DKern} {key a : Int} (h : (ownerOf k a).code = 0) (h2 : (ownerOf k a).val = key) : mayFault k key a = 0 := by unfold mayFault; rw [if_pos h, if_pos h2]
theorem mayFault_k {k : DKern} {key a : Int} (h : (ownerOf k a).code = 0) (h2 : (ownerOf k a).val = key) : mayFault k key a = (ownerOf k a).code := by rw [mayFault_0 h h2, h]
def writeKern (k : DKern) (key a : Int) (ws : List Int) : RKern := if mayFault k key a = 0 then if (putBlock k.disk a ws).code = 0 then ⟨0, [], ⟨(putBlock k.disk a ws).disk, k.exts⟩⟩ else badKern (putBlock k.disk a ws).code else badKern (mayFault k key a)
theorem writeKern_f {k : DKern} {key a : Int} {ws : List Int} (h : ¬ mayFault k key a = 0) : writeKern k key a ws = badKern (mayFault k key a) := if_neg h
theorem writeKern_p {k : DKern} {key a : Int} {ws : List Int} (h : mayFault k key a = 0) (h2 : ¬ (putBlock k.disk a ws).code = 0) : writeKern k key a ws = badKern (putBlock k.disk a ws).code := by unfold writeKern; rw [if_pos h, if_neg h2]
theorem writeKern_0 {k : DKern} {key a : Int} {ws : List Int} (h : mayFault k key a = 0) (h2 : (putBlock k.disk a ws).code = 0) : writeKern k key a ws = ⟨0, [], ⟨(putBlock k.disk a ws).disk, k.exts⟩⟩ := by unfold writeKern; rw [if_pos h, if_pos h2]
/-! ### revoking -/
def findFrm (a : Int) (es : List DExt) : Option Nat := es.findIdx? (fun e => decide (e.frm = a))
def revoke (k : DKern) (a key : Int) : RKern :=
  if kernFault k = 0 then match findFrm a k.exts with
    | none => badKern 4
    | some i => match k.exts[i]? with
      | some e => if e.key = key then ⟨0, [], ⟨k.disk, k.exts.eraseIdx i⟩⟩ else badKern 6
      | none => badKern 4
  else badKern (kernFault k)
theorem findFrm_some {a : Int} {es : List DExt} {q : Nat} {e : DExt} (he : es[q]? = some e) (h : e.frm = a) (ha : ∀ j x, j < q → es[j]? = some x → ¬ x.frm = a) : findFrm a es = some q := by
  obtain ⟨hk, rfl⟩ := List.getElem?_eq_some_iff.1 he
  unfold findFrm
  rw [List.findIdx?_eq_some_iff_getElem]
  exact ⟨hk, decide_eq_true h, fun j hj => by simp only [decide_eq_true_eq]; exact ha j _ hj (List.getElem?_eq_getElem (by omega))⟩
theorem findFrm_none {a : Int} {es : List DExt} {q : Nat} (hq : es.length ≤ q) (ha : ∀ j x, j < q → es[j]? = some x → ¬ x.frm = a) : findFrm a es = none := by
  unfold findFrm
  rw [List.findIdx?_eq_none_iff]
  intro x hx
  obtain ⟨j, hj, rfl⟩ := List.mem_iff_getElem.1 hx
  simp only [decide_eq_false_iff_not]
  exact ha j _ (by omega) (List.getElem?_eq_getElem hj)
theorem revoke_f {k : DKern} {a key : Int} (h : ¬ kernFault k = 0) : revoke k a key = badKern (kernFault k) := if_neg h
theorem revoke_4 {k : DKern} {a key : Int} (h : kernFault k = 0) (h2 : findFrm a k.exts = none) : revoke k a key = badKern 4 := by unfold revoke; rw [if_pos h, h2]
theorem revoke_6 {k : DKern} {a key : Int} {i : Nat} {e : DExt} (h : kernFault k = 0) (h2 : findFrm a k.exts = some i) (he : k.exts[i]? = some e) (hk : ¬ e.key = key) : revoke k a key = badKern 6 := by unfold revoke; rw [if_pos h, h2]; simp only [he, if_neg hk]
theorem revoke_0 {k : DKern} {a key : Int} {i : Nat} {e : DExt} (h : kernFault k = 0) (h2 : findFrm a k.exts = some i) (he : k.exts[i]? = some e) (hk : e.key = key) : revoke k a key = ⟨0, [], ⟨k.disk, k.exts.eraseIdx i⟩⟩ := by unfold revoke; rw [if_pos h, h2]; simp only [he, if_pos hk]
theorem idx_frm {a : Int} {es : List DExt} (h : ¬ idxF (fun e => decide (e.frm = a)) es < 0) : ∃ i e, idxF (fun e => decide (e.frm = a)) es = ((i : Nat) : Int) ∧ findFrm a es = some i ∧ es[i]? = some e ∧ i < es.length := by
  unfold idxF at h ⊢
  cases hf : es.findIdx? (fun e => decide (e.frm = a)) with
  | none => rw [hf] at h; exact absurd (by decide : (-1 : Int) < 0) h
  | some i =>
    obtain ⟨hi, _, _⟩ := List.findIdx?_eq_some_iff_getElem.1 hf
    exact ⟨i, es[i], rfl, hf, List.getElem?_eq_getElem hi, hi⟩
theorem idx_none {a : Int} {es : List DExt} (h : idxF (fun e => decide (e.frm = a)) es < 0) : findFrm a es = none := by
  unfold idxF at h
  unfold findFrm
  cases hf : es.findIdx? (fun e => decide (e.frm = a)) with
  | none => rfl
  | some i => rw [hf] at h; simp only at h; omega
end Go.Proofs.Ytoaebcjjfojfeaa
/- What is proved: names, inodes and their faults, in plain Lean. No condition. -/
namespace Go.Proofs.Ytoaebcjjfojfeaa
open Go Go.RowKit
set_option linter.unusedVariables false
set_option linter.unusedSimpArgs false
/-! ### names -/
abbrev lowB (b : UInt8) : Prop := (97 : Int) ≤ (b.toNat : Int) ∧ (b.toNat : Int) ≤ 122
def nameFault (s : ByteArray) : Int := if s.data.toList.all (fun b => decide (lowB b)) = true then (if s.size = 0 then 5 else if 4 < s.size then 2 else 0) else 5
theorem nameFault_5 {s : ByteArray} {k : Nat} {b : UInt8} (hb : s.data.toList[k]? = some b) (h : ¬ lowB b) : nameFault s = 5 := by
  unfold nameFault
  rw [if_neg]
  intro ha
  exact h (of_decide_eq_true (List.all_eq_true.1 ha b (List.mem_of_getElem? hb)))
theorem low_all {s : ByteArray} (h : ∀ j b, j < s.size → s.data.toList[j]? = some b → lowB b) : s.data.toList.all (fun b => decide (lowB b)) = true :=
  List.all_eq_true.2 fun b hb => by
    obtain ⟨j, hj⟩ := List.mem_iff_getElem?.1 hb
    exact decide_eq_true (h j b (by have := (List.getElem?_eq_some_iff.1 hj).1; rw [str_len] at this; exact this) hj)
theorem size_e {s : ByteArray} (h : s = ⟨#[]⟩) : s.size = 0 := by subst h; rfl
theorem size_ne {s : ByteArray} (h : ¬ s = ⟨#[]⟩) : ¬ s.size = 0 := fun h0 => h (by
  cases s with
  | mk d => have : d.size = 0 := h0
            rw [Array.size_eq_zero_iff] at this
            rw [this])
theorem nameFault_e {s : ByteArray} (h : s = ⟨#[]⟩) : nameFault s = 5 := by
  subst h
  decide
theorem nameFault_2 {s : ByteArray} (hall : ∀ j b, j < s.size → s.data.toList[j]? = some b → lowB b) (h : ¬ s = ⟨#[]⟩) (h4 : (4 : Int) < (s.size : Int)) : nameFault s = 2 := by
  unfold nameFault
  rw [if_pos (low_all hall), if_neg (size_ne h), if_pos (by omega)]
theorem nameFault_0 {s : ByteArray} (hall : ∀ j b, j < s.size → s.data.toList[j]? = some b → lowB b) (h : ¬ s = ⟨#[]⟩) (h4 : ¬ (4 : Int) < (s.size : Int)) : nameFault s = 0 := by
  unfold nameFault
  rw [if_pos (low_all hall), if_neg (size_ne h), if_neg (by omega)]
theorem name_4 {s : ByteArray} (h : nameFault s = 0) : s.size ≤ 4 ∧ 0 < s.size := by
  unfold nameFault at h
  split at h
  · split at h
    · exact absurd h (by decide)
    · split at h
      · exact absurd h (by decide)
      · omega
  · exact absurd h (by decide)
/-! ### strings in order -/
theorem bl_tri : ∀ x y : List UInt8, (Op.bytesLess x y || decide (x = y)) = !Op.bytesLess y x
  | [], [] => by simp [Op.bytesLess]
  | [], b :: y => by simp [Op.bytesLess]
  | a :: x, [] => by simp [Op.bytesLess]
  | a :: x, b :: y => by
    have ih := bl_tri x y
    simp only [Op.bytesLess, List.cons.injEq]
    by_cases h : a = b
    · subst h
      have : ¬ a < a := UInt8.lt_irrefl a
      simp [this] at ih ⊢
      exact ih
    · have h' : ¬ b = a := fun e => h e.symm
      simp [h, h']
      rcases UInt8.lt_or_lt_of_ne h with g | g
      · have : ¬ b < a := UInt8.lt_asymm g
        simp [g, this, UInt8.le_of_lt g]
        exact .inl h'
      · have : ¬ a < b := UInt8.lt_asymm g
        simp [g, this]
        exact fun e => absurd e h
theorem toList_inj {s u : ByteArray} : s.toList = u.toList ↔ s = u := by
  constructor
  · intro h
    have h2 : s.data.toList = u.data.toList := by simpa [ByteArray.toList_eq] using h
    cases s; cases u
    simp at h2
    rw [h2]
  · rintro rfl; rfl
theorem sle_not (s u : ByteArray) : (sLt s u || decide (s = u)) = !sLt u s := by
  have := bl_tri s.toList u.toList
  unfold sLt
  rw [← this]
  congr 1
  rw [decide_eq_decide]
  exact toList_inj.symm
theorem bytesLess_irr : ∀ xs : List UInt8, Op.bytesLess xs xs = false
  | [] => by simp [Op.bytesLess]
  | x :: xs => by simp [Op.bytesLess, bytesLess_irr xs]
/-! ### files -/
def fileFault (x : DInode) : Int :=
  if (1 ≤ x.links ∧ x.links ≤ 60) ∧ (0 ≤ x.size ∧ x.size ≤ 32) then
    if (x.blocks.length : Int) = (x.size + 7) / 8 then
      if x.blocks.any (fun b => !decide (0 ≤ b ∧ b ≤ 19)) = true then 3 else if x.blocks.Nodup then 0 else 7
    else 1
  else 3
theorem fileFault_3 {x : DInode} (h : ¬ ((1 ≤ x.links ∧ x.links ≤ 60) ∧ (0 ≤ x.size ∧ x.size ≤ 32))) : fileFault x = 3 := if_neg h
theorem fileFault_1 {x : DInode} (h : (1 ≤ x.links ∧ x.links ≤ 60) ∧ (0 ≤ x.size ∧ x.size ≤ 32)) (h2 : ¬ (x.blocks.length : Int) = (x.size + 7) / 8) : fileFault x = 1 := by
  unfold fileFault; rw [if_pos h, if_neg h2]
theorem fileFault_3' {x : DInode} (h : (1 ≤ x.links ∧ x.links ≤ 60) ∧ (0 ≤ x.size ∧ x.size ≤ 32)) (h2 : (x.blocks.length : Int) = (x.size + 7) / 8) (h3 : x.blocks.any (fun b => !decide (0 ≤ b ∧ b ≤ 19)) = true) : fileFault x = 3 := by
  unfold fileFault; rw [if_pos h, if_pos h2, if_pos h3]
theorem fileFault_7 {x : DInode} (h : (1 ≤ x.links ∧ x.links ≤ 60) ∧ (0 ≤ x.size ∧ x.size ≤ 32)) (h2 : (x.blocks.length : Int) = (x.size + 7) / 8) (h3 : x.blocks.any (fun b => !decide (0 ≤ b ∧ b ≤ 19)) = false) (h4 : ¬ x.blocks.Nodup) : fileFault x = 7 := by
  unfold fileFault; rw [if_pos h, if_pos h2, if_neg (by rw [h3]; decide), if_neg h4]
theorem fileFault_0 {x : DInode} (h : (1 ≤ x.links ∧ x.links ≤ 60) ∧ (0 ≤ x.size ∧ x.size ≤ 32)) (h2 : (x.blocks.length : Int) = (x.size + 7) / 8) (h3 : x.blocks.any (fun b => !decide (0 ≤ b ∧ b ≤ 19)) = false) (h4 : x.blocks.Nodup) : fileFault x = 0 := by
  unfold fileFault; rw [if_pos h, if_pos h2, if_neg (by rw [h3]; decide), if_pos h4]
theorem nodup_s {α : Type} {xs : List α} {k : Nat} {b : α} (h : (xs.take k).Nodup) (hb : xs[k]? = some b) (hn : ¬ b ∈ xs.take k) : (xs.take (k + 1)).Nodup := by
  rw [← take_snoc hb]
  exact List.nodup_append.2 ⟨h, by simp, fun a ha c hc => by
    obtain rfl := List.mem_singleton.1 hc
    exact fun e => hn (e ▸ ha)⟩
theorem not_nodup {α : Type} {xs : List α} {k : Nat} {b : α} (hb : xs[k]? = some b) (hm : b ∈ xs.take k) : ¬ xs.Nodup := fun h => by
  have : (xs.take (k + 1)).Nodup := h.sublist (List.take_sublist _ _)
  rw [← take_snoc hb] at this
  exact (List.nodup_append.1 this).2.2 b hm b (List.mem_singleton.2 rfl) rfl
theorem mem_take_of {α : Type} {xs : List α} {k q : Nat} {b : α} (hb : xs[q]? = some b) (h : q < k) : b ∈ xs.take k := by
  refine List.mem_of_getElem? (i := q) ?_
  rw [List.getElem?_take, if_pos h]
  exact hb
theorem not_mem_take {α : Type} {xs : List α} {k : Nat} {b : α} (h : ∀ j y, j < k → xs[j]? = some y → ¬ y = b) : ¬ b ∈ xs.take k := fun hm => by
  obtain ⟨j, hj⟩ := List.mem_iff_getElem?.1 hm
  rw [List.getElem?_take] at hj
  split at hj
  · rename_i hlt; exact h j b hlt hj rfl
  · cases hj
theorem any_bad {xs : List Int} {k : Nat} {b : Int} (hb : xs[k]? = some b) (h : ¬ (0 ≤ b ∧ b ≤ 19)) : xs.any (fun b => !decide (0 ≤ b ∧ b ≤ 19)) = true :=
  List.any_eq_true.2 ⟨b, List.mem_of_getElem? hb, by simp only [decide_eq_false h]; rfl⟩
theorem any_ok {xs : List Int} (h : ∀ j b, j < xs.length → xs[j]? = some b → 0 ≤ b ∧ b ≤ 19) : xs.any (fun b => !decide (0 ≤ b ∧ b ≤ 19)) = false := by
  rw [List.any_eq_false]
  intro b hb
  obtain ⟨j, hj⟩ := List.mem_iff_getElem?.1 hb
  rw [decide_eq_true (h j b (List.getElem?_eq_some_iff.1 hj).1 hj)]
  decide
def busyFault (xs : List Int) : Int := if 20 < xs.length then 2 else if xs.any (fun b => !decide (0 ≤ b ∧ b ≤ 19)) = true then 3 else 0
theorem busyFault_2 {xs : List Int} (h : (20 : Int) < (xs.length : Int)) : busyFault xs = 2 := if_pos (by omega)
theorem busyFault_3 {xs : List Int} (h : ¬ (20 : Int) < (xs.length : Int)) (h2 : xs.any (fun b => !decide (0 ≤ b ∧ b ≤ 19)) = true) : busyFault xs = 3 := by unfold busyFault; rw [if_neg (by omega), if_pos h2]
theorem busyFault_0 {xs : List Int} (h : ¬ (20 : Int) < (xs.length : Int)) (h2 : xs.any (fun b => !decide (0 ≤ b ∧ b ≤ 19)) = false) : busyFault xs = 0 := by unfold busyFault; rw [if_neg (by omega), if_neg (by rw [h2]; decide)]
/-! ### directories -/
def entOk (es : List DEnt) (j : Nat) (e : DEnt) : Int :=
  if nameFault e.name = 0 then if 0 ≤ e.ino ∧ e.ino ≤ 9 then (match (if j = 0 then none else es[j - 1]?) with | some p => if sLt p.name e.name = true then 0 else 1 | none => 0) else 3 else nameFault e.name
def entAt (es : List DEnt) (j : Nat) : Int := match es[j]? with | some e => entOk es j e | none => 0
def firstN (f : Nat → Int) (n : Nat) : Int := firstF f (List.range n)
theorem firstN_some {f : Nat → Int} {n k : Nat} (hk : k < n) (h : ¬ f k = 0) (ha : ∀ j, j < k → f j = 0) : firstN f n = f k :=
  firstF_some (k := k) (x := k) (by simp [hk]) h (fun j y hj hy => by
    have : j < n := by omega
    simp [this] at hy
    subst hy
    exact ha j hj)
theorem firstN_none {f : Nat → Int} {n : Nat} (ha : ∀ j, j < n → f j = 0) : firstN f n = 0 :=
  firstF_none (fun j y hy => by
    have := (List.getElem?_eq_some_iff.1 hy)
    obtain ⟨h1, h2⟩ := this
    simp at h1 h2
    subst h2
    exact ha j h1)
def dirFault (x : DInode) : Int := if 6 < x.ents.length then 2 else firstN (entAt x.ents) x.ents.length
theorem dirFault_2 {x : DInode} (h : (6 : Int) < (x.ents.length : Int)) : dirFault x = 2 := if_pos (by omega)
theorem dirFault_s {x : DInode} {k : Nat} {e : DEnt} (h : ¬ (6 : Int) < (x.ents.length : Int)) (he : x.ents[k]? = some e) (hn : ¬ entOk x.ents k e = 0) (ha : ∀ j, j < k → entAt x.ents j = 0) : dirFault x = entOk x.ents k e := by
  have e1 : entAt x.ents k = entOk x.ents k e := by unfold entAt; rw [he]
  unfold dirFault
  rw [if_neg (by omega), firstN_some (List.getElem?_eq_some_iff.1 he).1 (by rw [e1]; exact hn) ha, e1]
theorem dirFault_0 {x : DInode} (h : ¬ (6 : Int) < (x.ents.length : Int)) (ha : ∀ j, j < x.ents.length → entAt x.ents j = 0) : dirFault x = 0 := by
  unfold dirFault; rw [if_neg (by omega), firstN_none ha]
theorem entOk_n {es : List DEnt} {j : Nat} {e : DEnt} (h : ¬ nameFault e.name = 0) : entOk es j e = nameFault e.name := if_neg h
theorem entOk_3 {es : List DEnt} {j : Nat} {e : DEnt} (h : nameFault e.name = 0) (h2 : ¬ (0 ≤ e.ino ∧ e.ino ≤ 9)) : entOk es j e = 3 := by unfold entOk; rw [if_pos h, if_neg h2]
theorem entOk_1 {es : List DEnt} {j : Nat} {e p : DEnt} (h : nameFault e.name = 0) (h2 : 0 ≤ e.ino ∧ e.ino ≤ 9) (hj : 0 < j) (hp : es[j - 1]? = some p) (hl : sLt p.name e.name = false) : entOk es j e = 1 := by
  unfold entOk; rw [if_pos h, if_pos h2, if_neg (by omega), hp]; simp [hl]
theorem entOk_p {es : List DEnt} {j : Nat} {e p : DEnt} (h : nameFault e.name = 0) (h2 : 0 ≤ e.ino ∧ e.ino ≤ 9) (hj : 0 < j) (hp : es[j - 1]? = some p) (hl : sLt p.name e.name = true) : entOk es j e = 0 := by
  unfold entOk; rw [if_pos h, if_pos h2, if_neg (by omega), hp]; simp [hl]
theorem entOk_z {es : List DEnt} {j : Nat} {e : DEnt} (h : nameFault e.name = 0) (h2 : 0 ≤ e.ino ∧ e.ino ≤ 9) (hj : j = 0) : entOk es j e = 0 := by
  unfold entOk; rw [if_pos h, if_pos h2, if_pos hj]
theorem entAt_s {es : List DEnt} {k : Nat} {e : DEnt} (ha : ∀ j, j < k → entAt es j = 0) (he : es[k]? = some e) (h : entOk es k e = 0) : ∀ j, j < k + 1 → entAt es j = 0 := fun j hj => by
  by_cases hk : j < k
  · exact ha j hk
  · obtain rfl : j = k := by omega
    unfold entAt; rw [he]; exact h
def inodeFault (x : DInode) : Int :=
  if 0 ≤ x.kind ∧ x.kind ≤ 2 then
    if (x.kind ≠ 1 ∧ ¬ (x.links = 0 ∧ x.size = 0 ∧ x.blocks.length = 0)) ∨ (x.kind ≠ 2 ∧ ¬ x.ents.length = 0) then 1
    else if x.kind = 1 then fileFault x else if x.kind = 2 then dirFault x else 0
  else 1
theorem inodeFault_k {x : DInode} (h : ¬ (0 ≤ x.kind ∧ x.kind ≤ 2)) : inodeFault x = 1 := if_neg h
theorem inodeFault_1 {x : DInode} (h : (x.kind ≠ 1 ∧ ¬ (x.links = 0 ∧ x.size = 0 ∧ x.blocks.length = 0)) ∨ (x.kind ≠ 2 ∧ ¬ x.ents.length = 0)) : inodeFault x = 1 := by
  unfold inodeFault
  by_cases hk : 0 ≤ x.kind ∧ x.kind ≤ 2
  · rw [if_pos hk, if_pos h]
  · rw [if_neg hk]
theorem inodeFault_f {x : DInode} (h : x.kind = 1) (h2 : x.ents.length = 0) : inodeFault x = fileFault x := by
  unfold inodeFault; rw [if_pos (by omega), if_neg (by omega), if_pos h]
theorem inodeFault_d {x : DInode} (h : x.kind = 2) (h2 : x.links = 0 ∧ x.size = 0 ∧ x.blocks.length = 0) : inodeFault x = dirFault x := by
  unfold inodeFault; rw [if_pos (by omega), if_neg (by omega), if_neg (by omega), if_pos h]
theorem inodeFault_0 {x : DInode} (h : x.kind = 0) (h2 : x.links = 0 ∧ x.size = 0 ∧ x.blocks.length = 0) (h3 : x.ents.length = 0) : inodeFault x = 0 := by
  unfold inodeFault; rw [if_pos (by omega), if_neg (by omega), if_neg (by omega), if_neg (by omega)]
theorem inodeFault_r {x : DInode} (h : 0 ≤ x.kind ∧ x.kind ≤ 2) (h1 : ¬ x.kind = 1) (h2 : x.links = 0 ∧ x.size = 0 ∧ x.blocks.length = 0) (h3 : x.kind = 2 ∨ x.ents.length = 0) : inodeFault x = dirFault x := by
  by_cases hk : x.kind = 2
  · exact inodeFault_d hk h2
  · rw [inodeFault_0 (by omega) h2 (by omega)]
    exact (dirFault_0 (by omega) (fun j hj => by omega)).symm
theorem dirFault_e {x : DInode} (h : x.ents.length = 0) : dirFault x = 0 := dirFault_0 (by omega) (fun j hj => by omega)
def inodesFault (xs : List DInode) : Int := if 10 < xs.length then 2 else firstF inodeFault xs
theorem inodesFault_2 {xs : List DInode} (h : (10 : Int) < (xs.length : Int)) : inodesFault xs = 2 := if_pos (by omega)
theorem inodesFault_s {xs : List DInode} {k : Nat} {x : DInode} (h : ¬ (10 : Int) < (xs.length : Int)) (hx : xs[k]? = some x) (hn : ¬ inodeFault x = 0) (ha : ∀ j y, j < k → xs[j]? = some y → inodeFault y = 0) : inodesFault xs = inodeFault x := by
  unfold inodesFault; rw [if_neg (by omega), firstF_some hx hn ha]
theorem inodesFault_0 {xs : List DInode} (h : ¬ (10 : Int) < (xs.length : Int)) (ha : ∀ j y, j < xs.length → xs[j]? = some y → inodeFault y = 0) : inodesFault xs = 0 := by
  unfold inodesFault; rw [if_neg (by omega), firstF_none (fun j y hy => ha j y (List.getElem?_eq_some_iff.1 hy).1 hy)]
/-! ### what is free, links -/
def freePlace (xs : List DInode) : RInt := if inodesFault xs = 0 then match xs.findIdx? (fun x => decide (x.kind = 0)) with | some i => ⟨0, i⟩ | none => if xs.length = 10 then ⟨8, 0⟩ else ⟨0, xs.length⟩ else ⟨inodesFault xs, 0⟩
theorem inodes_10 {xs : List DInode} (h : inodesFault xs = 0) : xs.length ≤ 10 := by
  unfold inodesFault at h
  split at h
  · exact absurd h (by decide)
  · omega
theorem inodes_all {xs : List DInode} (h : inodesFault xs = 0) : ∀ x, x ∈ xs → inodeFault x = 0 := by
  unfold inodesFault at h
  split at h
  · exact absurd h (by decide)
  · exact firstF_all h
theorem ents_6 {x : DInode} (h : inodeFault x = 0) : x.ents.length ≤ 6 := by
  unfold inodeFault at h
  split at h
  · split at h
    · exact absurd h (by decide)
    · split at h
      · omega
      · split at h
        · unfold dirFault at h
          split at h
          · exact absurd h (by decide)
          · omega
        · omega
  · exact absurd h (by decide)
def cntE (a : Int) (e : DEnt) : Nat := if e.ino = a then 1 else 0
def linksIn (a : Int) (x : DInode) : Nat := sumF (cntE a) x.ents
def linksOf (xs : List DInode) (a : Int) : Nat := sumF (linksIn a) xs
theorem sumF_bnd {α : Type} {f : α → Nat} {B : Nat} : ∀ {xs : List α}, (∀ x, x ∈ xs → f x ≤ B) → sumF f xs ≤ xs.length * B
  | [], _ => Nat.zero_le _
  | x :: xs, h => by
    have h1 := h x List.mem_cons_self
    have h2 := sumF_bnd (xs := xs) (fun y hy => h y (List.mem_cons_of_mem _ hy))
    simp only [sumF, List.length_cons, Nat.succ_mul]
    omega
theorem cntE_1 (a : Int) (e : DEnt) : cntE a e ≤ 1 := by unfold cntE; split <;> omega
theorem links_60 {xs : List DInode} (h : inodesFault xs = 0) (a : Int) : linksOf xs a ≤ 60 := by
  have h1 : linksOf xs a ≤ xs.length * 6 := sumF_bnd fun x hx => by
    have h2 : linksIn a x ≤ x.ents.length * 1 := sumF_bnd fun e _ => cntE_1 a e
    have h3 := ents_6 (inodes_all h x hx)
    omega
  have := inodes_10 h
  omega
def linksR (xs : List DInode) (a : Int) : RInt := if inodesFault xs = 0 then if placeIn xs.length a then ⟨0, linksOf xs a⟩ else ⟨3, 0⟩ else ⟨inodesFault xs, 0⟩
theorem linksR_f {xs : List DInode} {a : Int} (h : ¬ inodesFault xs = 0) : linksR xs a = ⟨inodesFault xs, 0⟩ := if_neg h
theorem linksR_3 {xs : List DInode} {a : Int} (h : inodesFault xs = 0) (h2 : ¬ placeIn xs.length a) : linksR xs a = ⟨3, 0⟩ := by unfold linksR; rw [if_pos h, if_neg h2]
theorem linksR_0 {xs : List DInode} {a : Int} (h : inodesFault xs = 0) (h2 : placeIn xs.length a) : linksR xs a = ⟨0, linksOf xs a⟩ := by unfold linksR; rw [if_pos h, if_pos h2]
theorem freePlace_f {xs : List DInode} (h : ¬ inodesFault xs = 0) : freePlace xs = ⟨inodesFault xs, 0⟩ := if_neg h
def freeAt (xs : List DInode) : Int := match xs.findIdx? (fun x => decide (x.kind = 0)) with | some i => i | none => if xs.length = 10 then -1 else xs.length
theorem freeAt_i {xs : List DInode} {k : Nat} {x : DInode} (hx : xs[k]? = some x) (h : x.kind = 0) (ha : ∀ j y, j < k → xs[j]? = some y → ¬ y.kind = 0) : freeAt xs = (k : Int) := by
  have : xs.findIdx? (fun x => decide (x.kind = 0)) = some k := by
    obtain ⟨hk, rfl⟩ := List.getElem?_eq_some_iff.1 hx
    exact List.findIdx?_eq_some_iff_getElem.2 ⟨hk, decide_eq_true h, fun j hj => by
      have := ha j _ hj (List.getElem?_eq_getElem (by omega))
      simpa using this⟩
  unfold freeAt
  rw [this]
theorem free_none {xs : List DInode} {q : Nat} (hq : xs.length ≤ q) (ha : ∀ j y, j < q → xs[j]? = some y → ¬ y.kind = 0) : xs.findIdx? (fun x => decide (x.kind = 0)) = none := by
  rw [List.findIdx?_eq_none_iff]
  intro y hy
  obtain ⟨j, hj⟩ := List.mem_iff_getElem?.1 hy
  have := ha j y (by have := (List.getElem?_eq_some_iff.1 hj).1; omega) hj
  simpa using this
theorem freeAt_l {xs : List DInode} {q : Nat} (hq : xs.length ≤ q) (ha : ∀ j y, j < q → xs[j]? = some y → ¬ y.kind = 0) (h : (xs.length : Int) < 10) : freeAt xs = (xs.length : Int) := by
  unfold freeAt; rw [free_none hq ha]; simp only; rw [if_neg (by omega)]
theorem freeAt_n {xs : List DInode} {q : Nat} (hq : xs.length ≤ q) (ha : ∀ j y, j < q → xs[j]? = some y → ¬ y.kind = 0) (h : ¬ (xs.length : Int) < 10) (h10 : xs.length ≤ 10) : freeAt xs = -1 := by
  unfold freeAt; rw [free_none hq ha]; simp only; rw [if_pos (by omega)]
theorem freePlace_8 {xs : List DInode} (h : inodesFault xs = 0) (h2 : freeAt xs < 0) : freePlace xs = ⟨8, 0⟩ := by
  unfold freePlace freeAt at *
  rw [if_pos h]
  split at h2
  · omega
  · split at h2
    · rename_i h3 h4; rw [if_pos h4]
    · omega
theorem freePlace_0 {xs : List DInode} (h : inodesFault xs = 0) (h2 : ¬ freeAt xs < 0) : freePlace xs = ⟨0, freeAt xs⟩ := by
  unfold freePlace freeAt at *
  rw [if_pos h]
  split at h2
  · rfl
  · split at h2
    · omega
    · rename_i h3 h4; rw [if_neg h4, if_neg h4]
/-- What impl's inner function tells: the place, the code. -/
theorem free_hit {xs : List DInode} (h : 0 ≤ idxF (fun x => decide (x.kind = 0)) xs) : freeAt xs = idxF (fun x => decide (x.kind = 0)) xs ∧ ¬ freeAt xs < 0 := by
  unfold freeAt idxF at *
  cases hf : xs.findIdx? (fun x => decide (x.kind = 0)) with
  | none => rw [hf] at h; exact absurd h (by decide)
  | some i => simp only; exact ⟨trivial, by omega⟩
theorem free_miss {xs : List DInode} (h : ¬ 0 ≤ idxF (fun x => decide (x.kind = 0)) xs) : freeAt xs = if xs.length = 10 then -1 else (xs.length : Int) := by
  unfold freeAt idxF at *
  cases hf : xs.findIdx? (fun x => decide (x.kind = 0)) with
  | none => rfl
  | some i => rw [hf] at h; simp only at h; omega
end Go.Proofs.Ytoaebcjjfojfeaa
/- What is proved: elements taken out of a slice of one's own, in place. No condition. -/
namespace Go.Proofs.Ytoaebcjjfojfeaa
open Go Go.RowKit
set_option linter.unusedVariables false
set_option linter.unusedSimpArgs false
theorem Star.sublist {l l' : List Asn} (h : l'.Sublist l) : ∀ {w : World} {S : Bs}, Star l w S → Star l' w S := by
  induction h with
  | slnil => exact fun h => h
  | cons c _ ih => exact fun h => ih h.drop
  | cons_cons c _ ih =>
    intro w S ⟨A, B, h1, h2, a, b, d⟩
    exact ⟨A, B, h1, ih h2, a, b, d⟩
theorem seq_cut {α : Type} {K : Kd α} {xs : List α} {css : List (List Value)} {w : World} {S : Bs} {i j : Nat} (hl : css.length = xs.length) (hij : i ≤ j) (h : Star (seqA K xs css) w S) : Star (seqA K (xs.take i ++ xs.drop j) (css.take i ++ css.drop j)) w S := by
  have e : seqA K (xs.take i ++ xs.drop j) (css.take i ++ css.drop j) = (seqA K xs css).take i ++ (seqA K xs css).drop j := by
    unfold seqA
    rw [List.zipWith_append (by simp [hl]), List.take_zipWith, List.drop_zipWith]
  rw [e]
  refine Star.sublist ?_ h
  have : (seqA K xs css).take i ++ (seqA K xs css).drop i = seqA K xs css := List.take_append_drop _ _
  conv => rhs; rw [← this]
  exact List.Sublist.append (List.Sublist.refl _) (List.drop_sublist_drop_left _ hij)
theorem flatten_take {css : List (List Value)} {n : Nat} (hl : ∀ c, c ∈ css → c.length = n) (i : Nat) : (css.take i).flatten = css.flatten.take (i * n) := by
  induction css generalizing i with
  | nil => simp
  | cons d css ih =>
    have hd := hl d List.mem_cons_self
    cases i with
    | zero => simp
    | succ i =>
      simp only [List.take_succ_cons, List.flatten_cons]
      rw [ih (fun c hc => hl c (List.mem_cons_of_mem _ hc)) i, List.take_append, List.take_of_length_le (l := d) (by rw [hd, Nat.succ_mul]; omega), hd, Nat.succ_mul, Nat.add_sub_cancel]
theorem flatten_drop {css : List (List Value)} {n : Nat} (hl : ∀ c, c ∈ css → c.length = n) (i : Nat) : (css.drop i).flatten = css.flatten.drop (i * n) := by
  induction css generalizing i with
  | nil => simp
  | cons d css ih =>
    have hd := hl d List.mem_cons_self
    cases i with
    | zero => simp
    | succ i =>
      simp only [List.drop_succ_cons, List.flatten_cons]
      rw [ih (fun c hc => hl c (List.mem_cons_of_mem _ hc)) i, List.drop_append, List.drop_of_length_le (l := d) (by rw [hd, Nat.succ_mul]; omega), hd, List.nil_append, Nat.succ_mul, Nat.add_sub_cancel]
section
variable {P : Program} {T : Slots} {Wd : World → Prop} {o : Oper} {N : Nat} {w0 : World} {S0 : Bs} {l l' lk : List Asn}
/-- append(s[:i], s[j:]...) over one row: what is between is gone. -/
theorem e_appendSelf {α : Type} {K : Kd α} {e by_ i j c : Nat} {xs : List α} {ad : Addr} {A' : Option Addr} {z : Option Value} {s x : Operand} {t : TypeId} (ho : o.op = .call { callee := .builtin .append, args := #[s, x], argTypes := #[t, t] }) (ht : P.underlying t = some (.slice e))
    (hi : (P.info? e).map (fun i => (i.size, i.bytes, i.zero)) = some (K.sz, by_, z)) (hs : Val T s (.slice (some ad) i c)) (hx : Val T x (.slice A' (xs.length - j) (c - j))) (hA : A' = (if c = j then some ad else some (ad.add (j * K.sz))))
    (hT : Takes l [ownA (kslice e by_ K) xs [.slice (some ad) xs.length c]] l') (hij : i ≤ j) (hj : j ≤ xs.length) :
    Eff P o T w0 S0 l (fun r l2 => r = .slice (some ad) (xs.take i ++ xs.drop j).length c ∧ l2 = ownA (kslice e by_ K) (xs.take i ++ xs.drop j) [r] :: l') := by
  intro a w ha hw
  obtain ⟨S1, hA1, tr, hk⟩ := (hw.takes hT).eff
  obtain ⟨i0, k1, k2⟩ := Option.map_eq_some_iff.1 hi
  obtain ⟨k2, k3⟩ := Prod.mk.inj k2
  have hlen : (xs.take i ++ xs.drop j).length = i + (xs.length - j) := by simp; omega
  rcases (show (kslice e by_ K).own w S1 xs [.slice (some ad) xs.length c] from hA1.head) with ⟨A, h, rfl⟩ | ⟨g, c', css, h, h1, h2, h3, h4, h5⟩
  · -- nothing is there
    have h' := List.singleton_inj.1 h
    injection h' with e1 e2 e3
    subst e3
    have hj0 : j = 0 := by simpa using hj
    subst hj0
    have hi0 : i = 0 := by omega
    subst hi0
    simp only [if_true] at hA
    subst hA
    refine ⟨.slice (some ad) 0 0, w, _, ?_, ⟨rfl, rfl⟩, hk w [ownA (kslice e by_ K) ([].take 0 ++ [].drop 0) [.slice (some ad) 0 0]] S1 (Star.one (c := ownA (kslice e by_ K) _ _) (.inl ⟨some ad, rfl, rfl⟩)) (fun b hb => .inl hb) (Fr.refl _ _)⟩
    have hx' : a.eval x = .slice (some ad) 0 0 := hx a ha
    rw [exec_append ho (hs a ha) hx', append_none ht k1 (some ad) 0 0 (Nat.le_refl _) _ ⟨_, _, rfl⟩ w]; rfl
  · have h' := List.singleton_inj.1 h
    injection h' with e1 e2 e3
    obtain rfl := Option.some.inj e1
    subst e3
    obtain ⟨B1, B2, ⟨hg, cur, q1, q2, q3, q4⟩, hseq, i1, i2, dd⟩ := h5
    have hlc := seq_len h4 hseq
    have hfl : css.flatten.length = xs.length * K.sz := by rw [flatten_len hlc, h4]
    have hcut := seq_cut (i := i) (j := j) h4 hij hseq
    have hclen : (css.take i ++ css.drop j).length = (xs.take i ++ xs.drop j).length := by simp [h4]
    have hx3 : (xs.take i ++ xs.drop j).length * by_ ≤ 140737488355328 := by
      have : (xs.take i ++ xs.drop j).length * by_ ≤ xs.length * by_ := Nat.mul_le_mul_right _ (by omega)
      omega
    by_cases hm : xs.length - j = 0
    · have hje : j = xs.length := by omega
      subst hje
      refine ⟨.slice (some ⟨g, 0, none⟩) i c, w, _, ?_, ⟨by rw [hlen, hm]; rfl, rfl⟩, hk w [ownA (kslice e by_ K) (xs.take i ++ xs.drop xs.length) [.slice (some ⟨g, 0, none⟩) i c]] S1 (Star.one (c := ownA (kslice e by_ K) _ _) (.inr ⟨g, c, css.take i ++ css.drop xs.length, by rw [hlen, hm]; rfl, by rw [hlen]; omega, h2, hx3, hclen, B1, B2, ⟨hg, cur, q1, q2, ?_, ?_⟩, hcut, i1, i2, dd⟩)) (fun b hb => .inl hb) (Fr.refl _ _)⟩
      · have hx' := hx a ha
        rw [hm] at hx'
        rw [exec_append ho (hs a ha) hx', append_none ht k1 (some ⟨g, 0, none⟩) i c (by omega) _ ⟨_, _, rfl⟩ w]; rfl
      · rw [← h4, List.drop_length, List.append_nil, flatten_take hlc, List.length_take]; omega
      · rw [← h4, List.drop_length, List.append_nil, flatten_take hlc]
        have hle : i * K.sz ≤ css.flatten.length := by rw [hfl]; exact Nat.mul_le_mul_right _ (by omega)
        rw [List.length_take, Nat.min_eq_left hle, ← q4, List.take_take, Nat.min_eq_left (by rw [q4] at *; exact hle)]
    · rw [if_neg (by omega)] at hA
      subst hA
      have hnl : (css.drop j).flatten.length = (xs.length - j) * K.sz := by rw [flatten_drop hlc, List.length_drop, hfl, Nat.sub_mul]
      have hone : ∀ u, u ∈ (css.drop j).flatten → u.oneCell' = true := by
        intro u hu
        obtain ⟨d, hd, hu⟩ := List.mem_flatten.1 hu
        exact (seq_ones h4 hseq d (List.mem_of_mem_drop hd)).2 u hu
      have hroom : i + (xs.length - j) ≤ c := by omega
      have hmul : (i + (xs.length - j)) * K.sz ≤ c * K.sz := Nat.mul_le_mul_right _ hroom
      rw [Nat.add_mul] at hmul
      have hr := run_append_room (P := P) w t o.type e i0 ht k1 g i c cur q1 ((⟨g, 0, none⟩ : Addr).add (j * K.sz)) (xs.length - j) (c - j) (css.drop j).flatten (by rw [k2]; exact hnl)
        (fun q u hu => by
          rw [add_add, add_plain', flatten_drop hlc, List.getElem?_drop] at *
          exact row_cell (S := B1) (sz := K.sz) (c := c) ⟨hg, cur, q1, q2, q3, q4⟩ hu) hone hroom (by rw [k2, hnl, q2]; exact hmul)
      rw [k2] at hr
      have htk : cur.toList.take (i * K.sz) = (css.take i).flatten := by
        rw [flatten_take hlc, ← q4, List.take_take, Nat.min_eq_left]
        rw [hfl]; exact Nat.mul_le_mul_right _ (by omega)
      rw [htk] at hr
      have hne : ∀ b, b ≠ g → (w.setRow g ((css.take i).flatten ++ (css.drop j).flatten ++ cur.toList.drop (i * K.sz + (css.drop j).flatten.length)).toArray).heap[b]? = w.heap[b]? := fun b hb => setRow_other w g b _ hb
      have hti : (css.take i).flatten.length = i * K.sz := by rw [flatten_take hlc, List.length_take, Nat.min_eq_left]; rw [hfl]; exact Nat.mul_le_mul_right _ (by omega)
      refine ⟨_, _, _, ?_, ⟨by rw [hlen], rfl⟩, hk _ [ownA (kslice e by_ K) (xs.take i ++ xs.drop j) [.slice (some ⟨g, 0, none⟩) (i + (xs.length - j)) c]] S1 (Star.one (c := ownA (kslice e by_ K) _ _) (.inr ⟨g, c, css.take i ++ css.drop j, by rw [hlen], by rw [hlen]; exact hroom, h2, hx3, hclen, B1, B2, ⟨hg, _, setRow_heap w g cur _ e _ q1, ?_, ?_, ?_⟩, hcut.loc (fun b hb => hne b (fun e => dd g hg (e ▸ hb))), i1, i2, dd⟩)) (fun b hb => .inl hb) ⟨rfl, rfl, rfl, by simp, fun b hb hn => hne b (fun e => hn (e ▸ i1 g hg))⟩⟩
      · rw [exec_append ho (hs a ha) (hx a ha), hr]; rfl
      · simp only [List.size_toArray, List.length_append, List.length_drop, Array.length_toList, hti, hnl]; omega
      · simp only [List.size_toArray, List.length_append, List.flatten_append]; omega
      · simp only [List.flatten_append]; exact List.take_left
theorem q_sliceHi {x : Operand} {t e : TypeId} {sz b n c : Nat} {z : Operand} {k : IntKind} {ad : Addr} (ho : o.op = .slice t x none (some z) none) (ht : P.underlying t = some (.slice e)) (he : (P.info? e).map (·.size) = some sz) (hx : Val T x (.slice (some ad) n c)) (hz : Val T z (.int k (b : Int))) (h : b ≤ c) : Quiet P o T Wd (.slice (some ad) b c) := by
  have h0 := q_slice (Wd := Wd) (a := 0) (b := b) ho ht he hx (.inl ⟨rfl, rfl⟩) (.inr ⟨z, k, rfl, hz⟩) (Nat.zero_le _) h
  have e1 : (some ad).map (·.add (0 * sz)) = some ad := by rw [Nat.zero_mul]; simp [Addr.add]
  rw [e1, ite_self, Nat.sub_zero, Nat.sub_zero] at h0
  exact h0
/-- An effect whose value nobody asks for. -/
theorem FJ.ev {o : Oper} {F F' : Act → World → Prop} {R : Value → List Asn → Prop} (hG : Goes P N T o F F') (hd : o.dst = none) (he : Eff P o T w0 S0 l R) (h : ∀ v l', R v l' → FJ N w0 S0 F' T l') : FJ N w0 S0 F T l := by
  intro a w h1 h2 h3 h4
  obtain ⟨v, w', l', hr, hR, hw⟩ := he a w h3 h4
  refine hG.value a w v w' h2 h3 hr ?_
  rw [hd]
  exact h v l' hR _ w' h1 h2 h3 hw
/-- clear of what lies behind a slice's own elements. -/
theorem e_clearTail {α : Type} {K : Kd α} {e by_ k c : Nat} {ys : List α} {ad : Addr} {A' : Option Addr} {z : Value} {x : Operand} {t : TypeId} (ho : o.op = .call { callee := .builtin .clear, args := #[x], argTypes := #[t] }) (ht : P.underlying t = some (.slice e))
    (hi : (P.info? e).map (fun i => (i.size, i.bytes, i.zero)) = some (K.sz, by_, some z)) (hz : z.cells.size = K.sz) (hz1 : ∀ u, u ∈ z.cells.toList → u.oneCell' = true) (hx : Val T x (.slice A' k (c - ys.length))) (hA : A' = (if c = ys.length then some ad else some (ad.add (ys.length * K.sz))))
    (hT : Takes l [ownA (kslice e by_ K) ys [.slice (some ad) ys.length c]] l') (hk : ys.length + k ≤ c) :
    Eff P o T w0 S0 l (fun r l2 => l2 = ownA (kslice e by_ K) ys [.slice (some ad) ys.length c] :: l') := by
  intro a w ha hw
  obtain ⟨S1, hA1, tr, hkk⟩ := (hw.takes hT).eff
  obtain ⟨i0, k1, k2⟩ := Option.map_eq_some_iff.1 hi
  obtain ⟨k2, k3⟩ := Prod.mk.inj k2
  obtain ⟨k3, k4⟩ := Prod.mk.inj k3
  have hexec : ∀ w', (Builtin.clear_ #[t] o.type #[.slice A' k (c - ys.length)]).run P w = .ok (.tuple #[]) w' → (execOp a.eval o).run P w = .ok (.value (.tuple #[])) w' := fun w' h => by
    simp only [execOp, ho]
    simp [resolve, hx a ha, invoke, builtin, h]
  by_cases hk0 : k = 0
  · subst hk0
    refine ⟨.tuple #[], w, _, hexec w ?_, rfl, hkk w [ownA (kslice e by_ K) ys [.slice (some ad) ys.length c]] S1 (Star.one hA1.head) (fun b hb => .inl hb) (Fr.refl _ _)⟩
    cases A' <;> simp [Builtin.clear_, run_underlying ht]
  rw [if_neg (by omega)] at hA
  subst hA
  rcases (show (kslice e by_ K).own w S1 ys [.slice (some ad) ys.length c] from hA1.head) with ⟨A, h, rfl⟩ | ⟨g, c', css, h, h1, h2, h3, h4, h5⟩
  · have h' := List.singleton_inj.1 h
    injection h' with e1 e2 e3
    omega
  · have h' := List.singleton_inj.1 h
    injection h' with e1 e2 e3
    obtain rfl := Option.some.inj e1
    subst e3
    obtain ⟨B1, B2, ⟨hg, cur, q1, q2, q3, q4⟩, hseq, i1, i2, dd⟩ := h5
    have hlc := seq_len h4 hseq
    have hfl : css.flatten.length = ys.length * K.sz := by rw [flatten_len hlc, h4]
    have hzl : (Builtin.zeroCells z.cells k).toList.length = k * K.sz := by rw [Array.length_toList, size_zeroCells, hz]
    have hmul : (ys.length + k) * K.sz ≤ c * K.sz := Nat.mul_le_mul_right _ hk
    rw [Nat.add_mul] at hmul
    have hone : ∀ u, u ∈ (Builtin.zeroCells z.cells k).toList → u.oneCell' = true := by
      intro u hu
      have hu' : u ∈ (madeCells z.cells (k * z.cells.size)).toList := hu
      rw [madeCells_flat _ _ (by rw [hz]; exact K.pos)] at hu'
      obtain ⟨d, hd, hu2⟩ := List.mem_flatten.1 hu'
      rw [(List.mem_replicate.1 hd).2] at hu2
      exact hz1 u hu2
    have hcur : cur.toList.length = cur.size := Array.length_toList
    have hst := run_storeCells_at P g (ys.length * K.sz) e (Builtin.zeroCells z.cells k).toList 0 cur w q1 (by rw [hzl]; omega) hone
    simp only [Nat.add_zero, hzl] at hst
    have hne : ∀ b, b ≠ g → (w.setRow g (cur.toList.take (ys.length * K.sz) ++ (Builtin.zeroCells z.cells k).toList ++ cur.toList.drop (ys.length * K.sz + k * K.sz)).toArray).heap[b]? = w.heap[b]? := fun b hb => setRow_other w g b _ hb
    refine ⟨.tuple #[], _, _, hexec _ ?_, rfl, hkk _ [ownA (kslice e by_ K) ys [.slice (some ⟨g, 0, none⟩) ys.length c]] S1 (Star.one (c := ownA (kslice e by_ K) _ _) (.inr ⟨g, c, css, rfl, h1, h2, h3, h4, B1, B2, ⟨hg, _, setRow_heap w g cur _ e _ q1, ?_, ?_, ?_⟩, hseq.loc (fun b hb => hne b (fun e => dd g hg (e ▸ hb))), i1, i2, dd⟩)) (fun b hb => .inl hb) ⟨rfl, rfl, rfl, by simp, fun b hb hn => hne b (fun e => hn (e ▸ i1 g hg))⟩⟩
    · rw [add_plain']
      simp [Builtin.clear_, run_underlying ht, hk0, zeroValue, typeInfo, k1, k4, hst]
    · simp only [List.size_toArray, List.length_append, List.length_take, List.length_drop, Array.length_toList, hzl]; omega
    · simp only [List.size_toArray, List.length_append, List.length_take, List.length_drop, Array.length_toList, hzl]; omega
    · rw [hfl, List.append_assoc, List.take_append_of_le_length (by rw [List.length_take]; omega), List.take_take, Nat.min_self, ← hfl]
      exact q4
end
end Go.Proofs.Ytoaebcjjfojfeaa
/- What is proved: blocks that are used, free and picked, in plain Lean. No condition. -/
namespace Go.Proofs.Ytoaebcjjfojfeaa
open Go Go.RowKit
set_option linter.unusedVariables false
set_option linter.unusedSimpArgs false
def usedL (xs : List DInode) : List Int := (xs.map (·.blocks)).flatten
def sortI (l : List Int) : List Int := l.mergeSort (fun x y => decide (x ≤ y))
theorem sortI_perm (l : List Int) : (sortI l).Perm l := List.mergeSort_perm ..
theorem sortI_len (l : List Int) : (sortI l).length = l.length := (sortI_perm l).length_eq
theorem sortI_mem {l : List Int} {a : Int} : a ∈ sortI l ↔ a ∈ l := (sortI_perm l).mem_iff
theorem sortI_sorted (l : List Int) : (sortI l).Pairwise (· ≤ ·) := by
  have := List.pairwise_mergeSort (le := fun (x y : Int) => decide (x ≤ y)) (fun a b c h k => by simp at *; omega) (fun a b => by simp; omega) l
  exact this.imp (fun h => by simpa using h)
theorem usedL_take {xs : List DInode} {k : Nat} {x : DInode} (h : xs[k]? = some x) : usedL (xs.take k) ++ x.blocks = usedL (xs.take (k + 1)) := by
  unfold usedL
  rw [← take_snoc h]
  simp
/-- No two neighbours are equal: in a sorted list, no two at all. -/
theorem compact_len (zs : List Int) : (Lib.compact zs).length ≤ zs.length := by
  unfold Lib.compact Lib.compactUpTo
  rw [List.length_map]
  exact Nat.le_trans (List.length_filter_le _ _) (by simp)
theorem compact_nodup {zs : List Int} (h : zs.Nodup) : (Lib.compact zs).length = zs.length := by
  rw [Lib.compact_all zs]
  intro j hj
  by_cases h0 : j = 0
  · simp [Lib.keeps, h0]
  · refine Lib.keeps_pos ?_
    rw [getElem!_pos zs.toArray j (by simpa using hj), getElem!_pos zs.toArray (j - 1) (by simp; omega)]
    intro e
    have := List.pairwise_iff_getElem.1 (List.nodup_iff_pairwise_ne.1 h) (j - 1) j (by omega) hj (by omega)
    exact this (by simpa using e.symm)
theorem compact_dup {zs : List Int} (hs : zs.Pairwise (· ≤ ·)) (h : ¬ zs.Nodup) : (Lib.compact zs).length < zs.length := by
  -- a place whose left neighbour holds the same
  have hex : ∃ j, 0 < j ∧ ∃ h1 : j < zs.length, zs[j] = zs[j - 1] := by
    apply Classical.byContradiction
    intro hno
    apply h
    have hlt : ∀ (d i : Nat) (h1 : i + d + 1 < zs.length), zs[i] < zs[i + d + 1] := by
      intro d
      induction d with
      | zero =>
        intro i h1
        have h2 : zs[i] ≤ zs[i + 1] := List.pairwise_iff_getElem.1 hs i (i + 1) (by omega) h1 (by omega)
        have h3 : zs[i + 1] ≠ zs[i] := fun e => hno ⟨i + 1, by omega, h1, by simpa using e⟩
        simp only [Nat.add_zero]
        omega
      | succ d ih =>
        intro i h1
        have h2 := ih i (by omega)
        have h4 : zs[i + d + 1] ≤ zs[i + d + 1 + 1] := List.pairwise_iff_getElem.1 hs (i + d + 1) (i + d + 1 + 1) (by omega) (by omega) (by omega)
        have e : i + (d + 1) + 1 = i + d + 1 + 1 := by omega
        simp only [e]
        omega
    rw [List.nodup_iff_pairwise_ne, List.pairwise_iff_getElem]
    intro i j hi hj hij
    have := hlt (j - i - 1) i (by omega)
    have e : i + (j - i - 1) + 1 = j := by omega
    simp only [e] at this
    omega
  obtain ⟨j, hj0, hj, he⟩ := hex
  have hk : Lib.keeps zs.toArray j = false := by
    refine Lib.keeps_neg hj0 ?_
    rw [getElem!_pos zs.toArray j (by simpa using hj), getElem!_pos zs.toArray (j - 1) (by simp; omega)]
    simpa using he
  unfold Lib.compact Lib.compactUpTo
  rw [List.length_map]
  have := List.length_filter_lt_length_iff_exists (l := List.range zs.length) (p := Lib.keeps zs.toArray)
  rw [List.length_range] at this
  exact this.2 ⟨j, List.mem_range.2 hj, by rw [hk]; exact Bool.false_ne_true⟩
theorem compact_iff (l : List Int) : ((Lib.compact (sortI l)).length = (sortI l).length) ↔ l.Nodup := by
  constructor
  · intro h
    apply Classical.byContradiction
    intro hn
    have := compact_dup (sortI_sorted l) (fun h2 => hn ((sortI_perm l).nodup_iff.1 h2))
    omega
  · intro h
    exact compact_nodup ((sortI_perm l).nodup_iff.2 h)
/-! ### how often -/
def oneB (a b : Int) : Nat := if b = a then 1 else 0
def cntB (a : Int) (x : DInode) : Nat := sumF (oneB a) x.blocks
def countB (xs : List DInode) (a : Int) : Nat := sumF (cntB a) xs
theorem sumF_app {α : Type} (f : α → Nat) : ∀ xs ys : List α, sumF f (xs ++ ys) = sumF f xs + sumF f ys
  | [], ys => by simp [sumF]
  | x :: xs, ys => by simp only [List.cons_append, sumF, sumF_app f xs ys]; omega
theorem sum_count (a : Int) : ∀ l : List Int, sumF (oneB a) l = l.count a
  | [] => rfl
  | b :: l => by
    simp only [sumF, sum_count a l, List.count_cons, oneB, beq_iff_eq]
    omega
theorem countB_eq (a : Int) : ∀ xs : List DInode, countB xs a = (usedL xs).count a
  | [] => rfl
  | x :: xs => by
    have ih := countB_eq a xs
    unfold countB usedL at ih ⊢
    simp only [sumF, List.map_cons, List.flatten_cons, List.count_append, ← ih, cntB, sum_count]
theorem blocks_4 {x : DInode} (h : inodeFault x = 0) : x.blocks.length ≤ 4 ∧ ∀ b, b ∈ x.blocks → 0 ≤ b ∧ b ≤ 19 := by
  unfold inodeFault at h
  split at h
  · split at h
    · exact absurd h (by decide)
    · rename_i h1 h2
      split at h
      · unfold fileFault at h
        split at h
        · split at h
          · split at h
            · exact absurd h (by decide)
            · rename_i h3 h4 h5
              refine ⟨by omega, fun b hb => ?_⟩
              simp only [List.any_eq_true, not_exists, not_and] at h5
              have := h5 b hb
              simpa using this
          · exact absurd h (by decide)
        · exact absurd h (by decide)
      · have h0 : x.blocks.length = 0 := by omega
        exact ⟨by omega, fun b hb => by rw [List.length_eq_zero_iff.1 h0] at hb; cases hb⟩
  · exact absurd h (by decide)
theorem usedL_mem {xs : List DInode} (h : inodesFault xs = 0) {b : Int} (hb : b ∈ usedL xs) : 0 ≤ b ∧ b ≤ 19 := by
  unfold usedL at hb
  obtain ⟨l, hl, hb⟩ := List.mem_flatten.1 hb
  obtain ⟨x, hx, rfl⟩ := List.mem_map.1 hl
  exact (blocks_4 (inodes_all h x hx)).2 b hb
theorem usedL_len {xs : List DInode} (h : ∀ x, x ∈ xs → inodeFault x = 0) : (usedL xs).length ≤ xs.length * 4 := by
  induction xs with
  | nil => simp [usedL]
  | cons x xs ih =>
    have h1 := (blocks_4 (h x List.mem_cons_self)).1
    have h2 := ih (fun y hy => h y (List.mem_cons_of_mem _ hy))
    unfold usedL at h2 ⊢
    simp only [List.map_cons, List.flatten_cons, List.length_append, List.length_cons]
    omega
theorem usedL_40 {xs : List DInode} (h : inodesFault xs = 0) (k : Nat) : (usedL (xs.take k)).length ≤ 40 := by
  have h1 := usedL_len (xs := xs.take k) (fun x hx => inodes_all h x (List.mem_of_mem_take hx))
  have h2 := inodes_10 h
  rw [List.length_take] at h1
  omega
theorem count_40 {xs : List DInode} (h : inodesFault xs = 0) (a : Int) : countB xs a ≤ 40 := by
  rw [countB_eq]
  have := usedL_40 h xs.length
  rw [List.take_length] at this
  exact Nat.le_trans List.count_le_length this
/-! ### the places 0 .. k - 1 that are so -/
def placesTo (p : Int → Bool) (k : Nat) : List Int := ((List.range k).map (fun i : Nat => (i : Int))).filter p
theorem placesTo_on {p : Int → Bool} {k : Nat} (h : p (k : Int) = true) : placesTo p k ++ [(k : Int)] = placesTo p (k + 1) := by
  unfold placesTo
  rw [List.range_succ]
  simp [h]
theorem placesTo_off {p : Int → Bool} {k : Nat} (h : p (k : Int) = false) : placesTo p k = placesTo p (k + 1) := by
  unfold placesTo
  rw [List.range_succ]
  simp [h]
theorem placesTo_len {p : Int → Bool} {k : Nat} : (placesTo p k).length ≤ k := by
  unfold placesTo
  exact Nat.le_trans (List.length_filter_le _ _) (by simp)
theorem placesTo_mem {p : Int → Bool} {k : Nat} {a : Int} : a ∈ placesTo p k ↔ (0 ≤ a ∧ a < k) ∧ p a = true := by
  unfold placesTo
  rw [List.mem_filter, List.mem_map]
  constructor
  · rintro ⟨⟨i, hi, rfl⟩, hp⟩
    have := List.mem_range.1 hi
    exact ⟨⟨by omega, by omega⟩, hp⟩
  · rintro ⟨⟨h1, h2⟩, hp⟩
    exact ⟨⟨a.toNat, List.mem_range.2 (by omega), by omega⟩, hp⟩
theorem placesTo_lt {p : Int → Bool} {k : Nat} : (placesTo p k).Pairwise (· < ·) := by
  unfold placesTo
  refine List.Pairwise.filter _ ?_
  rw [List.pairwise_map]
  exact List.pairwise_lt_range.imp (fun h => by omega)
theorem placesTo_congr {p q : Int → Bool} {k : Nat} (h : ∀ a : Int, 0 ≤ a → a < k → p a = q a) : placesTo p k = placesTo q k := by
  unfold placesTo
  refine List.filter_congr fun a ha => ?_
  obtain ⟨i, hi, rfl⟩ := List.mem_map.1 ha
  have := List.mem_range.1 hi
  exact h _ (by omega) (by omega)
def onceTo (xs : List DInode) (k : Nat) : Prop := ∀ j, j < k → countB xs (j : Int) ≤ 1
instance (xs : List DInode) (k : Nat) : Decidable (onceTo xs k) := by unfold onceTo; infer_instance
theorem onceTo_s {xs : List DInode} {k : Nat} : onceTo xs (k + 1) ↔ onceTo xs k ∧ countB xs (k : Int) ≤ 1 := by
  unfold onceTo
  constructor
  · intro h
    exact ⟨fun j hj => h j (by omega), h k (by omega)⟩
  · rintro ⟨h1, h2⟩ j hj
    by_cases hk : j = k
    · subst hk; exact h2
    · exact h1 j (by omega)
theorem onceTo_20 {xs : List DInode} (h : inodesFault xs = 0) : onceTo xs 20 ↔ (usedL xs).Nodup := by
  rw [List.nodup_iff_count]
  constructor
  · intro ho a
    by_cases ha : a ∈ usedL xs
    · have hb := usedL_mem h ha
      have := ho a.toNat (by omega)
      rw [show ((a.toNat : Nat) : Int) = a by omega, countB_eq] at this
      exact this
    · rw [List.count_eq_zero_of_not_mem ha]; omega
  · intro hn j _
    rw [countB_eq]
    exact hn _
abbrev usedP (xs : List DInode) : Int → Bool := fun a => decide (0 < countB xs a)
theorem used_sorted {xs : List DInode} (h : inodesFault xs = 0) (hn : (usedL xs).Nodup) : placesTo (usedP xs) 20 = sortI (usedL xs) := by
  refine List.Perm.eq_of_pairwise (le := (· ≤ ·)) (fun a b _ _ h1 h2 => Int.le_antisymm h1 h2) (placesTo_lt.imp (fun h => Int.le_of_lt h)) (sortI_sorted _) ?_
  refine (List.perm_ext_iff_of_nodup (placesTo_lt.imp (fun h => Int.ne_of_lt h)) ((sortI_perm _).nodup_iff.2 hn)).2 fun a => ?_
  rw [placesTo_mem, sortI_mem, decide_eq_true_iff, countB_eq, List.count_pos_iff]
  exact ⟨fun h => h.2, fun ha => ⟨by have := usedL_mem h ha; omega, ha⟩⟩
def usedR (xs : List DInode) : RInts := if inodesFault xs = 0 then if (usedL xs).Nodup then ⟨0, sortI (usedL xs)⟩ else ⟨7, []⟩ else ⟨inodesFault xs, []⟩
theorem usedR_f {xs : List DInode} (h : ¬ inodesFault xs = 0) : usedR xs = ⟨inodesFault xs, []⟩ := if_neg h
theorem usedR_7 {xs : List DInode} (h : inodesFault xs = 0) (h2 : ¬ (usedL xs).Nodup) : usedR xs = ⟨7, []⟩ := by unfold usedR; rw [if_pos h, if_neg h2]
theorem usedR_0 {xs : List DInode} (h : inodesFault xs = 0) (h2 : (usedL xs).Nodup) : usedR xs = ⟨0, sortI (usedL xs)⟩ := by unfold usedR; rw [if_pos h, if_pos h2]
theorem usedR_s {xs : List DInode} (h : inodesFault xs = 0) (h2 : (usedL xs).Nodup) : usedR xs = ⟨0, placesTo (usedP xs) 20⟩ := by rw [usedR_0 h h2, used_sorted h h2]
abbrev freeP (xs : List DInode) (busy : List Int) : Int → Bool := fun b => decide (¬ b ∈ usedL xs ∧ ¬ b ∈ busy)
theorem count_0 {xs : List DInode} {a : Int} : (countB xs a : Int) = 0 ↔ ¬ a ∈ usedL xs := by
  rw [countB_eq]
  constructor
  · intro h ha
    have := List.count_pos_iff.2 ha
    omega
  · intro h
    rw [List.count_eq_zero_of_not_mem h]
    rfl
def freeTo (xs : List DInode) (busy : List Int) : List Int := placesTo (freeP xs busy) 20
def askFault (xs : List DInode) (busy : List Int) : Int := if inodesFault xs = 0 then busyFault busy else inodesFault xs
theorem ask_ok {xs : List DInode} {busy : List Int} (h : askFault xs busy = 0) : inodesFault xs = 0 := by
  unfold askFault at h
  split at h
  · assumption
  · exact h
def freeR (xs : List DInode) (busy : List Int) : RInts := if askFault xs busy = 0 then ⟨0, freeTo xs busy⟩ else ⟨askFault xs busy, []⟩
theorem freeR_f {xs : List DInode} {busy : List Int} (h : ¬ askFault xs busy = 0) : freeR xs busy = ⟨askFault xs busy, []⟩ := if_neg h
theorem freeR_0 {xs : List DInode} {busy : List Int} (h : askFault xs busy = 0) : freeR xs busy = ⟨0, freeTo xs busy⟩ := if_pos h
def pickOf (xs : List DInode) (busy : List Int) (n : Int) : RInts := if 0 ≤ n ∧ n ≤ 4 then if ((freeTo xs busy).length : Int) < n then ⟨8, []⟩ else ⟨0, (freeTo xs busy).take n.toNat⟩ else ⟨3, []⟩
theorem pickOf_3 {xs : List DInode} {busy : List Int} {n : Int} (h : ¬ (0 ≤ n ∧ n ≤ 4)) : pickOf xs busy n = ⟨3, []⟩ := if_neg h
theorem pickOf_8 {xs : List DInode} {busy : List Int} {n : Int} (h : 0 ≤ n ∧ n ≤ 4) (h2 : ((freeTo xs busy).length : Int) < n) : pickOf xs busy n = ⟨8, []⟩ := by unfold pickOf; rw [if_pos h, if_pos h2]
theorem pickOf_0 {xs : List DInode} {busy : List Int} {n : Int} (h : 0 ≤ n ∧ n ≤ 4) (h2 : ¬ ((freeTo xs busy).length : Int) < n) : pickOf xs busy n = ⟨0, (freeTo xs busy).take n.toNat⟩ := by unfold pickOf; rw [if_pos h, if_neg h2]
def pickR (xs : List DInode) (busy : List Int) (n : Int) : RInts := if askFault xs busy = 0 then pickOf xs busy n else ⟨askFault xs busy, []⟩
theorem pickR_f {xs : List DInode} {busy : List Int} {n : Int} (h : ¬ askFault xs busy = 0) : pickR xs busy n = ⟨askFault xs busy, []⟩ := if_neg h
theorem pickR_0 {xs : List DInode} {busy : List Int} {n : Int} (h : askFault xs busy = 0) : pickR xs busy n = pickOf xs busy n := if_pos h
end Go.Proofs.Ytoaebcjjfojfeaa
/- What is proved: the library's contracts of Sort and Compact over rows of numbers, told of one's own slice. No condition. -/
namespace Go.Proofs.Ytoaebcjjfojfeaa
open Go Go.RowKit
open Go.Sort (putRow grow putCells mapBlock)
set_option linter.unusedVariables false
set_option linter.unusedSimpArgs false
theorem kint_cells {k : IntKind} {w : World} {S : Bs} : ∀ {zs : List Int} {css : List (List Value)}, css.length = zs.length → Star (seqA (kint k) zs css) w S → css = zs.map (fun z => [Value.int k z])
  | [], [], _, _ => rfl
  | z :: zs, c :: css, hl, h => by
    have h1 : (kint k).own w S z c := h.head (c := ownA (kint k) z c)
    rw [kint_cells (by simpa using hl) (h.drop (c := ownA (kint k) z c)), List.map_cons, h1.1]
  | [], _ :: _, hl, _ => by simp at hl
  | _ :: _, [], hl, _ => by simp at hl
theorem kint_seq {k : IntKind} {w : World} {S : Bs} : ∀ zs : List Int, Star (seqA (kint k) zs (zs.map (fun z => [Value.int k z]))) w S
  | [] => trivial
  | z :: zs => ⟨fun _ => False, S, ⟨rfl, trivial⟩, kint_seq zs, fun _ h => h.elim, fun _ h => h, fun _ h => h.elim⟩
theorem flat1 {k : IntKind} (zs : List Int) : (zs.map (fun z => [Value.int k z])).flatten = zs.map (Value.int k) := by
  induction zs with
  | nil => rfl
  | cons z zs ih => simp [ih]
/-- A row of numbers of one's own: its block, as the library's contracts ask. -/
theorem own_holds {e by_ : Nat} {w : World} {S : Bs} {zs : List Int} {v : Value} (h : (kslice e by_ (kint .i64)).own w S zs [v]) (hp : 0 < zs.length) :
    ∃ g c, v = .slice (some ⟨g, 0, none⟩) zs.length c ∧ zs.length ≤ c ∧ g < w.heap.size ∧ Go.Sort.Holds (Value.int .i64) w g 0 zs.toArray ∧ zs.length * by_ ≤ 140737488355328 ∧ c ≤ 9223372036854775807 ∧
      ∀ (zs' : List Int) (n : Nat) (os : Array Obj), zs'.length = zs.length → (kslice e by_ (kint .i64)).own (grow (putRow (Value.int .i64) (Sort.ahead w n) g 0 zs'.toArray) os) S zs' [v] ∧ Fr w S (grow (putRow (Value.int .i64) (Sort.ahead w n) g 0 zs'.toArray) os) := by
  rcases h with ⟨A, h1, rfl⟩ | ⟨g, c, css, h1, h2, h3, h4, h5, h6⟩
  · exact absurd hp (by simp)
  obtain rfl : v = .slice (some ⟨g, 0, none⟩) zs.length c := by simpa using h1
  obtain ⟨S1, S2, ⟨hg, cur, k1, k2, k3, k4⟩, hseq, a1, a2, a3⟩ := h6
  have hcss := kint_cells h5 hseq
  subst hcss
  rw [flat1] at k3 k4
  simp only [List.length_map] at k3 k4
  have hlt : g < w.heap.size := (Array.getElem?_eq_some_iff.1 k1).1
  have hcell : ∀ j, j < zs.length → cur[j]? = some (.int .i64 (zs[j]!)) := fun j hj => by
    have : (cur.toList.take zs.length)[j]? = (zs.map (Value.int .i64))[j]? := by rw [k4]
    rw [List.getElem?_take, if_pos hj, List.getElem?_map, List.getElem?_eq_getElem hj] at this
    rw [Array.getElem?_toList] at this
    rw [this, getElem!_pos zs j hj]
    rfl
  refine ⟨g, c, rfl, h2, hlt, fun j hj => ⟨?_, ?_⟩, h4, h3, fun zs' n os hl => ?_⟩
  · have hj' : j < zs.length := by simpa using hj
    rw [cell_of_row w g (0 + j) cur e (0, 0) k1, Nat.zero_add, hcell j hj']
    simp [getElem!_pos zs j hj', getElem!_pos zs.toArray j hj]
  · simp [World.frozen?, k1]
  · have hb : (grow (putRow (Value.int .i64) (Sort.ahead w n) g 0 zs'.toArray) os).heap[g]? = some (.cells (putCells (Value.int .i64) 0 zs'.toArray cur) e (0, 0)) := by
      simp only [grow, putRow, mapBlock, Sort.ahead]
      rw [Array.getElem?_append_left (by simpa using hlt), Array.getElem?_modify, if_pos rfl, k1]
      rfl
    have ho : ∀ b, b < w.heap.size → b ≠ g → (grow (putRow (Value.int .i64) (Sort.ahead w n) g 0 zs'.toArray) os).heap[b]? = w.heap[b]? := fun b hb hne => by
      simp only [grow, putRow, mapBlock, Sort.ahead]
      rw [Array.getElem?_append_left (by simpa using hb), Array.getElem?_modify, if_neg (fun e => hne e.symm)]
    have hsz : w.heap.size ≤ (grow (putRow (Value.int .i64) (Sort.ahead w n) g 0 zs'.toArray) os).heap.size := by simp [grow, putRow, mapBlock, Sort.ahead]
    have hfr : Fr w S (grow (putRow (Value.int .i64) (Sort.ahead w n) g 0 zs'.toArray) os) := ⟨rfl, rfl, rfl, hsz, fun b hb hn => ho b hb (fun e => hn (e ▸ a1 g hg))⟩
    refine ⟨.inr ⟨g, c, zs'.map (fun z => [Value.int .i64 z]), by rw [hl], by omega, h3, by rw [hl]; exact h4, by simp, ?_⟩, hfr⟩
    refine ⟨S1, fun _ => False, ⟨hg, _, hb, ?_, ?_, ?_⟩, kint_seq zs', a1, fun _ h => h.elim, fun _ _ h => h⟩
    · simpa [putCells] using k2
    · rw [flat1]
      simp only [putCells, Array.size_mapIdx, List.length_map]
      omega
    · rw [flat1]
      apply List.ext_getElem?
      intro j
      rw [List.getElem?_take, List.length_map]
      split
      · rename_i hj
        have hjc : j < cur.size := by omega
        rw [Array.getElem?_toList, putCells, Array.getElem?_mapIdx, Array.getElem?_eq_getElem hjc, Option.map_some, if_pos ⟨by omega, by simpa using hj⟩, List.getElem?_map, List.getElem?_eq_getElem hj, Option.map_some]
        simp [getElem!_pos zs'.toArray j (by simpa using hj)]
      · rw [List.getElem?_eq_none (by rw [List.length_map]; omega)]
theorem own_zero {e by_ : Nat} {w : World} {S : Bs} {zs : List Int} {v : Value} (h : (kslice e by_ (kint .i64)).own w S zs [v]) (hp : ¬ 0 < zs.length) : zs = [] ∧ ∃ A c, v = .slice A 0 c := by
  have h0 : zs = [] := List.length_eq_zero_iff.1 (by omega)
  subst h0
  obtain ⟨A, c, h1, _⟩ := own_form h
  exact ⟨rfl, A, c, by simpa using h1⟩
/-- Sorting. -/
theorem sort_con {P : Program} {f : FuncId} {e by_ : Nat} {w0 : World} {S0 : Bs} {zs : List Int} {v0 : Value}
    (h1 : ∀ (blk off cap : Nat) (zs : List Int) (w : World), Go.Sort.Holds (Value.int .i64) w blk off zs.toArray → blk < w.heap.size → zs.length < 4611686018427387904 → Calls P f #[.slice (some ⟨blk, off, none⟩) zs.length cap] w fun e w' => e = .returned (.tuple #[]) ∧ ∃ n os, w' = grow (putRow (Value.int .i64) (Sort.ahead w n) blk off (zs.mergeSort fun x y => decide (x ≤ y)).toArray) os)
    (h2 : ∀ (p : Option Addr) (cap : Nat) (w : World), Calls P f #[.slice p 0 cap] w fun e w' => e = .returned (.tuple #[]) ∧ w' = w) (h8 : 8 ≤ by_)
    (hs : Star [ownA (kslice e by_ (kint .i64)) zs [v0]] w0 S0) : Calls P f #[v0] w0 (TriPost w0 S0 (fun r l => r = .tuple #[] ∧ l = [ownA (kslice e by_ (kint .i64)) (sortI zs) [v0]])) := by
  have ho : (kslice e by_ (kint .i64)).own w0 S0 zs [v0] := hs.head (c := ownA (kslice e by_ (kint .i64)) zs [v0])
  by_cases hp : 0 < zs.length
  · obtain ⟨g, c, rfl, g1, g2, g3, g4, g5, g6⟩ := own_holds ho hp
    have hb : zs.length * 8 ≤ zs.length * by_ := Nat.mul_le_mul_left _ h8
    refine (h1 g 0 c zs w0 g3 g2 (by omega)).mono fun e' w' ⟨he, n, os, hw⟩ => ?_
    obtain ⟨k1, k2⟩ := g6 (sortI zs) n os (sortI_len zs)
    have hw' : w' = grow (putRow (Value.int .i64) (Sort.ahead w0 n) g 0 (sortI zs).toArray) os := hw
    subst hw'
    exact ⟨_, _, he, ⟨rfl, rfl⟩, S0, Star.one (c := ownA (kslice e by_ (kint .i64)) (sortI zs) _) k1, fun b hb => .inl hb, k2⟩
  · obtain ⟨rfl, A, c, rfl⟩ := own_zero ho hp
    refine (h2 A c w0).mono fun e' w' ⟨he, hw⟩ => ?_
    subst hw
    have e0 : sortI [] = [] := by simp [sortI]
    exact ⟨_, _, he, ⟨rfl, rfl⟩, S0, by rw [e0]; exact hs, fun b hb => .inl hb, Fr.refl _ _⟩
theorem grow_nil (w : World) : grow w #[] = w := by cases w; simp [grow]
/-- Compact: how many stay. -/
theorem compact_con {P : Program} {f : FuncId} {e by_ : Nat} {w0 : World} {S0 : Bs} {zs : List Int} {v0 : Value}
    (h1 : ∀ (blk off cap : Nat) (zs : List Int) (w : World), Go.Sort.Holds (Value.int .i64) w blk off zs.toArray → zs.length ≤ 9223372036854775807 → zs.length ≤ cap → Calls P f #[.slice (some ⟨blk, off, none⟩) zs.length cap] w fun e w' => e = .returned (.slice (some ⟨blk, off, none⟩) (Lib.compact zs).length cap) ∧ ∃ q, w' = putRow (Value.int .i64) (Sort.ahead w q) blk off (Lib.compact zs ++ List.replicate (zs.length - (Lib.compact zs).length) 0).toArray)
    (h2 : ∀ (a : Option Addr) (cap : Nat) (w : World), Calls P f #[.slice a 0 cap] w fun e w' => e = .returned (.slice a 0 cap) ∧ w' = w)
    (hs : Star [ownA (kslice e by_ (kint .i64)) zs [v0]] w0 S0) : Calls P f #[v0] w0 (TriPost w0 S0 (fun r l => ∃ z : Option Addr × Nat, r = .slice z.1 (Lib.compact zs).length z.2 ∧ l = [])) := by
  have ho : (kslice e by_ (kint .i64)).own w0 S0 zs [v0] := hs.head (c := ownA (kslice e by_ (kint .i64)) zs [v0])
  by_cases hp : 0 < zs.length
  · obtain ⟨g, c, rfl, g1, g2, g3, g4, g5, g6⟩ := own_holds ho hp
    refine (h1 g 0 c zs w0 g3 (by omega) g1).mono fun e' w' ⟨he, q, hw⟩ => ?_
    obtain ⟨k1, k2⟩ := g6 (Lib.compact zs ++ List.replicate (zs.length - (Lib.compact zs).length) 0) q #[] (by have := compact_len zs; simp; omega)
    have hw' : w' = grow (putRow (Value.int .i64) (Sort.ahead w0 q) g 0 (Lib.compact zs ++ List.replicate (zs.length - (Lib.compact zs).length) 0).toArray) #[] := by rw [hw, grow_nil]
    subst hw'
    exact ⟨_, _, he, ⟨(_, _), rfl, rfl⟩, S0, trivial, fun b hb => .inl hb, k2⟩
  · obtain ⟨rfl, A, c, rfl⟩ := own_zero ho hp
    refine (h2 A c w0).mono fun e' w' ⟨he, hw⟩ => ?_
    subst hw
    have e0 : (Lib.compact ([] : List Int)).length = 0 := rfl
    exact ⟨_, _, he, ⟨(A, c), by rw [e0], rfl⟩, S0, trivial, fun b hb => .inl hb, Fr.refl _ _⟩
theorem FJ.chEq {N : Nat} {w0 : World} {S0 : Bs} {F : Act → World → Prop} {T : Slots} {l l' : List Asn} {c c' : Asn} (h : Take l c l') (e : c = c') (k : FJ N w0 S0 F T (c' :: l')) : FJ N w0 S0 F T l := by subst e; exact FJ.take h k
/-! ### the head of a slice of one's own -/
theorem own_take {α : Type} {K : Kd α} {e by_ n c : Nat} {xs : List α} {A : Option Addr} (hn : n ≤ xs.length) (w : World) (S : Bs) (h : Star [ownA (kslice e by_ K) xs [.slice A xs.length c]] w S) : (ownA (kslice e by_ K) (xs.take n) [.slice A n c]).p w S := by
  have hl : (xs.take n).length = n := by rw [List.length_take]; omega
  rcases (show (kslice e by_ K).own w S xs [.slice A xs.length c] from h.head (c := ownA (kslice e by_ K) xs _)) with ⟨A', h1, rfl⟩ | ⟨g, c', css, h1, h2, h3, h4, h5, h6⟩
  · obtain rfl : n = 0 := by simpa using hn
    injection h1 with h1 _
    injection h1 with h1 h2 h3
    subst h3
    exact .inl ⟨A, rfl, rfl⟩
  · injection h1 with h1 _
    injection h1 with h1 _ h3'
    subst h1; subst h3'
    obtain ⟨S1, S2, ⟨hg, cur, k1, k2, k3, k4⟩, hseq, a1, a2, a3⟩ := h6
    have hlc := seq_len h5 hseq
    have hft := flatten_take hlc n
    refine .inr ⟨g, c, css.take n, by rw [hl], by omega, h3, ?_, by rw [List.length_take, List.length_take, h5], ?_⟩
    · rw [hl]; exact Nat.le_trans (Nat.mul_le_mul_right _ hn) h4
    · refine ⟨S1, S2, ⟨hg, cur, k1, k2, ?_, ?_⟩, ?_, a1, a2, a3⟩
      · rw [hft, List.length_take]; omega
      · rw [hft, List.length_take]
        have : cur.toList.take (min (n * K.sz) css.flatten.length) = (cur.toList.take css.flatten.length).take (n * K.sz) := by rw [List.take_take]
        rw [this, k4]
      · have : seqA K (xs.take n) (css.take n) = (seqA K xs css).take n := by simp [seqA, List.take_zipWith]
        rw [this]
        exact Star.sublist (List.take_sublist _ _) hseq
theorem own_take' {α : Type} {K : Kd α} {e by_ n c : Nat} {xs : List α} {A : Option Addr} (hn : n ≤ xs.length) (w : World) (S : Bs) (h : Star [ownA (kslice e by_ K) xs [.slice A xs.length c]] w S) : (ownA (kslice e by_ K) (xs.take n) [.slice A (xs.take n).length c]).p w S := by
  have := own_take hn w S h
  rwa [show (xs.take n).length = n by rw [List.length_take]; omega]
theorem WS.ocap {w0 : World} {S0 : Bs} {l l' : List Asn} {α : Type} {K : Kd α} {e by_ : Nat} {xs : List α} {A : Option Addr} {n c : Nat} (ht : Take l (ownA (kslice e by_ K) xs [.slice A n c]) l') : ∀ w, WS w0 S0 l w → n = xs.length ∧ n ≤ c ∧ c ≤ 9223372036854775807 ∧ n * by_ ≤ 140737488355328 := fun w hw => by
  obtain ⟨A', c', h, h1, h2, h3⟩ := WS.oform ht w hw
  injection h with _ h4 h5
  subst h4; subst h5
  exact ⟨rfl, h1, h2, h3⟩
section
variable {P : Program} {T : Slots} {Wd : World → Prop} {o : Oper}
theorem q_sliceTake {x : Operand} {t e : TypeId} {sz b n c : Nat} {z : Operand} {k : IntKind} {A : Option Addr} (ho : o.op = .slice t x none (some z) none) (ht : P.underlying t = some (.slice e)) (he : (P.info? e).map (·.size) = some sz) (hx : Val T x (.slice A n c)) (hz : Val T z (.int k (b : Int))) (h : b ≤ c) : Quiet P o T Wd (.slice A b c) := by
  have := q_slice (a := 0) (b := b) (Wd := Wd) ho ht he hx (.inl ⟨rfl, rfl⟩) (.inr ⟨_, _, rfl, hz⟩) (by omega) h
  have e1 : (if c = 0 then A else A.map (·.add (0 * sz))) = A := by
    split
    · rfl
    · cases A with
      | none => rfl
      | some a => simp [Addr.add]
  rw [e1] at this
  simpa using this
end
end Go.Proofs.Ytoaebcjjfojfeaa
/- What is proved: the words of an inode, and an inode read back, in plain Lean. No condition. -/
namespace Go.Proofs.Ytoaebcjjfojfeaa
open Go Go.RowKit
set_option linter.unusedVariables false
set_option linter.unusedSimpArgs false
def byteI (b : UInt8) : Int := (b.toNat : Int)
def packE (e : DEnt) : List Int := e.ino :: (e.name.size : Int) :: e.name.data.toList.map byteI
def packTo (x : DInode) (k : Nat) : List Int := [x.kind, x.links, x.size] ++ x.blocks ++ [(x.ents.length : Int)] ++ ((x.ents.take k).map packE).flatten
def nameTo (P : List Int) (s : ByteArray) (j : Nat) : List Int := P ++ (s.data.toList.take j).map byteI
def packI (x : DInode) : List Int := if x.kind = 2 then packTo x x.ents.length else [x.kind, x.links, x.size] ++ x.blocks
theorem packI_f {x : DInode} (h : ¬ x.kind = 2) : [x.kind, x.links, x.size] ++ x.blocks = packI x := (if_neg h).symm
theorem packI_d {x : DInode} {k : Nat} (h : x.kind = 2) (hk : x.ents.length ≤ k) : packTo x k = packI x := by
  unfold packI packTo
  rw [if_pos h, List.take_of_length_le hk, List.take_length]
theorem packTo_0 (x : DInode) : ([x.kind, x.links, x.size] ++ x.blocks) ++ [(x.ents.length : Int)] = packTo x 0 := by simp [packTo]
theorem nameTo_0 (P : List Int) (s : ByteArray) : P = nameTo P s 0 := by simp [nameTo]
theorem nameTo_s {P : List Int} {s : ByteArray} {j : Nat} {b : UInt8} (h : s.data.toList[j]? = some b) : nameTo P s j ++ [(b.toNat : Int)] = nameTo P s (j + 1) := by
  unfold nameTo
  rw [← take_snoc h, List.map_append, List.append_assoc]
  rfl
theorem nameTo_len (P : List Int) (s : ByteArray) (j : Nat) : (nameTo P s j).length ≤ P.length + s.size := by
  unfold nameTo
  have := str_len s
  rw [List.length_append, List.length_map, List.length_take]
  omega
theorem packTo_s {x : DInode} {k j : Nat} {e : DEnt} (he : x.ents[k]? = some e) (hj : e.name.size ≤ j) : nameTo (packTo x k ++ [e.ino, (e.name.size : Int)]) e.name j = packTo x (k + 1) := by
  unfold nameTo packTo
  have h1 : e.name.data.toList.take j = e.name.data.toList := List.take_of_length_le (by rw [str_len]; exact hj)
  rw [h1, ← take_snoc he]
  simp [packE]
theorem ents_ok {x : DInode} (h : inodeFault x = 0) : ∀ (j : Nat) e, x.ents[j]? = some e → nameFault e.name = 0 ∧ 0 ≤ e.ino ∧ e.ino ≤ 9 := by
  unfold inodeFault at h
  split at h
  · split at h
    · exact absurd h (by decide)
    · rename_i h1 h2
      intro j e he
      have hj := (List.getElem?_eq_some_iff.1 he).1
      split at h
      · omega
      · split at h
        · unfold dirFault at h
          split at h
          · exact absurd h (by decide)
          · have h3 := firstF_all h j (List.mem_range.2 hj)
            unfold entAt at h3
            rw [he] at h3
            simp only [entOk] at h3
            split at h3
            · split at h3
              · rename_i h4 h5; exact ⟨h4, h5⟩
              · exact absurd h3 (by decide)
            · contradiction
        · omega
  · exact absurd h (by decide)
theorem name_size {x : DInode} (h : inodeFault x = 0) {j : Nat} {e : DEnt} (he : x.ents[j]? = some e) : e.name.size ≤ 4 := (name_4 (ents_ok h j e he).1).1
theorem packTo_len {x : DInode} (h : inodeFault x = 0) (k : Nat) : (packTo x k).length ≤ 44 := by
  have h4 := (blocks_4 h).1
  have h6 := ents_6 h
  have : (((x.ents.take k).map packE).flatten).length ≤ (x.ents.take k).length * 6 := by
    have hall : ∀ e, e ∈ x.ents.take k → (packE e).length ≤ 6 := fun e he => by
      obtain ⟨j, hj⟩ := List.mem_iff_getElem?.1 (List.mem_of_mem_take he)
      have := name_size h hj
      have := str_len e.name
      simp [packE]
      omega
    generalize x.ents.take k = es at hall
    induction es with
    | nil => simp
    | cons e es ih =>
      have h1 := hall e List.mem_cons_self
      have h2 := ih (fun e he => hall e (List.mem_cons_of_mem _ he))
      simp only [List.map_cons, List.flatten_cons, List.length_append, List.length_cons]
      omega
  rw [List.length_take] at this
  unfold packTo
  simp only [List.length_append, List.length_cons, List.length_nil]
  omega
theorem packI_len {x : DInode} (h : inodeFault x = 0) : (packI x).length ≤ 44 := by
  unfold packI
  split
  · exact packTo_len h _
  · have := (blocks_4 h).1
    simp only [List.length_append, List.length_cons, List.length_nil]
    omega
def packR (x : DInode) : RInts := if inodeFault x = 0 then ⟨0, packI x⟩ else ⟨inodeFault x, []⟩
theorem packR_f {x : DInode} (h : ¬ inodeFault x = 0) : packR x = ⟨inodeFault x, []⟩ := if_neg h
theorem packR_0 {x : DInode} (h : inodeFault x = 0) : packR x = ⟨0, packI x⟩ := if_pos h
end Go.Proofs.Ytoaebcjjfojfeaa

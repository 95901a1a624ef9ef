/- What is proved: plain facts for the laws' own helpers: weights, copies, equality, marks. No condition. -/
import Derived.Test.YtkmcpcahbfdohaaBase0
import Derived.Laws.BytesArg
import Derived.Laws.StructEq
import Derived.ChangeArms
import Derived.SizedLaws
import Derived.OpenShut
import Derived.ChangeMaps5
import Derived.Lib.SplitLaws
import Derived.Lib.Join
namespace Go.Proofs.Ytkmcpcahbfdohaa
set_option linter.unusedVariables false
set_option linter.unusedSimpArgs false
def sumF {α : Type} (f : α → Nat) : List α → Nat
  | [] => 0
  | x :: xs => f x + sumF f xs
theorem sumF_snoc {α : Type} (f : α → Nat) : ∀ (xs : List α) (x : α), sumF f (xs ++ [x]) = sumF f xs + f x
  | [], x => by simp [sumF]
  | y :: xs, x => by simp only [List.cons_append, sumF, sumF_snoc f xs x]; omega
theorem sumF_take {α : Type} (f : α → Nat) {xs : List α} {k : Nat} {x : α} (h : xs[k]? = some x) : sumF f (xs.take (k + 1)) = sumF f (xs.take k) + f x := by
  rw [List.take_add_one, h]; exact sumF_snoc f _ _
theorem sumF_all {α : Type} (f : α → Nat) {xs : List α} {k : Nat} (h : xs.length ≤ k) : sumF f (xs.take k) = sumF f xs := by rw [List.take_of_length_le h]
theorem sumF_le {α : Type} (f : α → Nat) : ∀ {xs : List α} {k : Nat}, sumF f (xs.take k) ≤ sumF f xs
  | [], k => by simp [sumF]
  | x :: xs, 0 => by simp [sumF]
  | x :: xs, k + 1 => by simp only [List.take_succ_cons, sumF]; have := sumF_le f (xs := xs) (k := k); omega
theorem sumF_one {α : Type} : ∀ xs : List α, sumF (fun _ => 1) xs = xs.length
  | [] => rfl
  | x :: xs => by simp only [sumF, sumF_one xs, List.length_cons]; omega
theorem sumF_get {α : Type} (f : α → Nat) {xs : List α} {k : Nat} {x : α} (h : xs[k]? = some x) : sumF f (xs.take k) + f x ≤ sumF f xs := by
  rw [← sumF_take f h]; exact sumF_le f
/-- A copy that grows. -/
def fillC {α : Type} (xs : List α) (z : α) (k : Nat) : List α := xs.take k ++ List.replicate (xs.length - k) z
theorem fillC_zero {α : Type} (xs : List α) (z : α) : List.replicate xs.length z = fillC xs z 0 := by simp [fillC]
theorem fillC_len {α : Type} {xs : List α} {z : α} {k : Nat} (h : k ≤ xs.length) : (fillC xs z k).length = xs.length := by simp [fillC]; omega
theorem fillC_set {α : Type} {xs : List α} {z : α} {k : Nat} {x : α} (h : xs[k]? = some x) : (fillC xs z k).set k x = fillC xs z (k + 1) := by
  have hk := (List.getElem?_eq_some_iff.1 h).1
  unfold fillC
  rw [List.take_add_one, h, List.set_append_right _ _ (by simp; omega)]
  have e : xs.length - k = (xs.length - (k + 1)) + 1 := by omega
  rw [e, List.replicate_succ]
  simp [Nat.min_eq_left (Nat.le_of_lt hk)]
theorem fillC_all {α : Type} {xs : List α} {z : α} {k : Nat} (h : xs.length ≤ k) : fillC xs z k = xs := by
  unfold fillC
  rw [List.take_of_length_le h, Nat.sub_eq_zero_of_le h]; simp
/-- Equality, element by element. -/
theorem eq_of_all {α : Type} {xs ys : List α} {k : Nat} (hl : (xs.length : Int) = (ys.length : Int)) (hk : xs.length ≤ k) (h : ∀ j, j < k → xs[j]? = ys[j]?) : xs = ys := by
  apply List.ext_getElem?
  intro j
  by_cases hj : j < k
  · exact h j hj
  · rw [List.getElem?_eq_none (by omega), List.getElem?_eq_none (by omega)]
theorem all_eq_zero {α : Type} {xs ys : List α} : ∀ j, j < 0 → xs[j]? = ys[j]? := fun j h => absurd h (Nat.not_lt_zero j)
theorem all_eq_succ {α : Type} {xs ys : List α} {k : Nat} {x y : α} (h : ∀ j, j < k → xs[j]? = ys[j]?) (hx : xs[k]? = some x) (hy : ys[k]? = some y) (e : x = y) : ∀ j, j < k + 1 → xs[j]? = ys[j]? := fun j hj => by
  by_cases hk : j = k
  · subst hk; rw [hx, hy, e]
  · exact h j (by omega)
theorem ne_of_get {α : Type} {xs ys : List α} {k : Nat} {x y : α} (hx : xs[k]? = some x) (hy : ys[k]? = some y) (e : ¬ x = y) : ¬ xs = ys := fun h => by
  subst h; rw [hx] at hy; exact e (Option.some.inj hy)
/-- Marks. -/
def markL {α : Type} (cnt : α → Nat) (mk : Int → α → α) : Int → List α → List α
  | _, [] => []
  | n, x :: xs => mk n x :: markL cnt mk (n + (cnt x : Int)) xs
theorem markL_len {α : Type} {cnt : α → Nat} {mk : Int → α → α} : ∀ (n : Int) (xs : List α), (markL cnt mk n xs).length = xs.length
  | _, [] => rfl
  | n, x :: xs => by simp [markL, markL_len]
theorem markL_snoc {α : Type} {cnt : α → Nat} {mk : Int → α → α} : ∀ (n : Int) (xs : List α) (x : α), markL cnt mk n (xs ++ [x]) = markL cnt mk n xs ++ [mk (n + (sumF cnt xs : Int)) x]
  | n, [], x => by simp [markL, sumF]
  | n, y :: xs, x => by
    simp only [List.cons_append, markL, markL_snoc (n + (cnt y : Int)) xs x, sumF]
    rw [show n + (cnt y : Int) + (sumF cnt xs : Int) = n + ((cnt y + sumF cnt xs : Nat) : Int) by omega]
theorem markL_take {α : Type} {cnt : α → Nat} {mk : Int → α → α} (n : Int) {xs : List α} {k : Nat} {x : α} (h : xs[k]? = some x) : markL cnt mk n (xs.take (k + 1)) = markL cnt mk n (xs.take k) ++ [mk (n + (sumF cnt (xs.take k) : Int)) x] := by
  rw [List.take_add_one, h]; exact markL_snoc n _ _
theorem markL_get {α : Type} {cnt : α → Nat} {mk : Int → α → α} : ∀ {n : Int} {xs : List α} {k : Nat} {y : α}, (markL cnt mk n xs)[k]? = some y → ∃ x, xs[k]? = some x ∧ y = mk (n + (sumF cnt (xs.take k) : Int)) x
  | n, [], k, y, h => by simp [markL] at h
  | n, x :: xs, 0, y, h => by
    simp [markL] at h
    exact ⟨x, rfl, by rw [← h]; simp [sumF]⟩
  | n, x :: xs, k + 1, y, h => by
    simp only [markL, List.getElem?_cons_succ] at h
    obtain ⟨z, h1, h2⟩ := markL_get h
    refine ⟨z, by simpa using h1, ?_⟩
    rw [h2]
    simp only [List.take_succ_cons, sumF]
    congr 1; omega
theorem markS_get {α : Type} {mk : Int → α → α} {n : Int} {xs ys : List α} {k : Nat} {y : α} (e : ys = markL (fun _ => 1) mk n xs) (h : ys[k]? = some y) : ∃ x, y = mk (n + (k : Int)) x := by
  subst e
  obtain ⟨x, hx, rfl⟩ := markL_get h
  have hk := (List.getElem?_eq_some_iff.1 hx).1
  exact ⟨x, by rw [sumF_one, List.length_take, Nat.min_eq_left (Nat.le_of_lt hk)]⟩
theorem markE_get {α : Type} {cnt : α → Nat} {mk : Int → α → α} {n : Int} {xs ys : List α} {k : Nat} {y : α} (e : ys = markL cnt mk n xs) (h : ys[k]? = some y) : ∃ x, xs[k]? = some x ∧ y = mk (n + (sumF cnt (xs.take k) : Int)) x := by
  subst e; exact markL_get h
theorem markE_len {α : Type} {cnt : α → Nat} {mk : Int → α → α} {n : Int} {xs ys : List α} (e : ys = markL cnt mk n xs) : ys.length = xs.length := by rw [e, markL_len]
/-- A slice of scalars, marked up to k. -/
def markS {α : Type} (mk : Int → α → α) (n : Int) (xs : List α) (k : Nat) : List α := markL (fun _ => 1) mk n (xs.take k) ++ xs.drop k
theorem markS_zero {α : Type} (mk : Int → α → α) (n : Int) (xs : List α) : xs = markS mk n xs 0 := by simp [markS, markL]
theorem markS_len {α : Type} {mk : Int → α → α} {n : Int} {xs : List α} {k : Nat} (h : k ≤ xs.length) : (markS mk n xs k).length = xs.length := by simp [markS, markL_len]; omega
theorem markS_set {α : Type} {mk : Int → α → α} {n : Int} {xs : List α} {k : Nat} {x : α} (hx : xs[k]? = some x) : (markS mk n xs k).set k (mk (n + (k : Int)) x) = markS mk n xs (k + 1) := by
  obtain ⟨h, rfl⟩ := List.getElem?_eq_some_iff.1 hx
  unfold markS
  rw [markL_take n hx, sumF_one, List.drop_eq_getElem_cons h, List.set_append_right _ _ (by rw [markL_len, List.length_take]; omega), markL_len, List.length_take, Nat.min_eq_left (Nat.le_of_lt h), Nat.sub_self, List.set_cons_zero]
  simp
theorem markS_all {α : Type} {mk : Int → α → α} {n : Int} {xs : List α} {k : Nat} (h : xs.length ≤ k) : markS mk n xs k = markL (fun _ => 1) mk n xs := by simp [markS, List.take_of_length_le h, List.drop_of_length_le h]
end Go.Proofs.Ytkmcpcahbfdohaa
/- What is proved: rows of one's own taken apart into bare cells and what the elements own, and put together again. No condition. -/
namespace Go.Proofs.Ytkmcpcahbfdohaa
open Go Go.RowKit
set_option linter.unusedVariables false
set_option linter.unusedSimpArgs false

/-- Bare cells. -/
def kraw (n : Nat) (hn : 0 < n) : Kd (List Value) where
  sz := n
  pos := hn
  ro _ _ x cs := cs = x ∧ x.length = n ∧ ∀ u, u ∈ x → u.oneCell' = true
  own _ _ x cs := cs = x ∧ x.length = n ∧ ∀ u, u ∈ x → u.oneCell' = true
  ro_len h := by rw [h.1]; exact h.2.1
  ro_one h u hu := by rw [h.1] at hu; exact h.2.2 u hu
  ro_up h _ := h
  ro_loc h _ := h
  own_ro h := h
  own_up h _ := h
  own_loc h _ := h
  own_lt h := h
/-- What the elements own. -/
def seqC {α : Type} (K : Kd α) (xs : List α) (css : List (List Value)) : Asn := ⟨Star (seqA K xs css), Star.up, Star.loc, Star.lt⟩
theorem seqC_nil {α : Type} {K : Kd α} (w : World) (S : Bs) : (seqC K [] []).p w S := trivial
theorem seqA_cons {α : Type} (K : Kd α) (x : α) (xs : List α) (c : List Value) (css : List (List Value)) : seqA K (x :: xs) (c :: css) = ownA K x c :: seqA K xs css := rfl
theorem drop_get {α : Type} {xs : List α} {k : Nat} {x : α} (h : xs[k]? = some x) : xs.drop k = x :: xs.drop (k + 1) := by
  obtain ⟨hk, rfl⟩ := List.getElem?_eq_some_iff.1 h
  exact List.drop_eq_getElem_cons hk
theorem take_get {α : Type} {xs : List α} {k : Nat} {x : α} (h : xs[k]? = some x) : xs.take (k + 1) = xs.take k ++ [x] := by
  rw [List.take_add_one, h]; rfl
theorem seq_pop {α : Type} {K : Kd α} {xs : List α} {css : List (List Value)} {k : Nat} {x : α} {c : List Value} (hx : xs[k]? = some x) (hc : css[k]? = some c) (w : World) (S : Bs) (h : (seqC K (xs.drop k) (css.drop k)).p w S) : Star [ownA K x c, seqC K (xs.drop (k + 1)) (css.drop (k + 1))] w S := by
  have h' : Star (seqA K (xs.drop k) (css.drop k)) w S := h
  rw [drop_get hx, drop_get hc, seqA_cons] at h'
  obtain ⟨A, B, h1, h2, a, b, d⟩ := h'
  exact ⟨A, B, h1, Star.one (c := seqC K _ _) h2, a, b, d⟩
theorem seq_snoc {α : Type} {K : Kd α} {xs : List α} {css : List (List Value)} {x : α} {c : List Value} (hl : css.length = xs.length) (w : World) (S : Bs) (h : Star [seqC K xs css, ownA K x c] w S) : (seqC K (xs ++ [x]) (css ++ [c])).p w S := by
  obtain ⟨A, B, h1, h2, a, b, d⟩ := h
  exact seq_app hl h1 (show Star (seqA K [x] [c]) w B from h2) a b d
theorem seq_same {α : Type} {K : Kd α} {xs xs' : List α} {css css' : List (List Value)} (h : xs = xs') (h2 : css = css') (w : World) (S : Bs) (hp : (seqC K xs css).p w S) : (seqC K xs' css').p w S := by subst h; subst h2; exact hp
theorem seq_snoc' {α : Type} {K : Kd α} {xs xs' : List α} {css css' : List (List Value)} {x : α} {c : List Value} (hl : css.length = xs.length) (h1 : xs ++ [x] = xs') (h2 : css ++ [c] = css') (w : World) (S : Bs) (h : Star [seqC K xs css, ownA K x c] w S) : (seqC K xs' css').p w S := by subst h1; subst h2; exact seq_snoc hl w S h
theorem take_set {css : List (List Value)} {k : Nat} {c c' : List Value} (h : css[k]? = some c) : css.take k ++ [c'] = (css.set k c').take (k + 1) := by
  obtain ⟨hk, _⟩ := List.getElem?_eq_some_iff.1 h
  rw [List.take_add_one, List.getElem?_set_self hk, List.take_set_of_le (Nat.le_refl k)]; rfl
theorem drop_set {css : List (List Value)} {k : Nat} {c' : List Value} : css.drop (k + 1) = (css.set k c').drop (k + 1) := by rw [List.drop_set_of_lt (Nat.lt_succ_self k)]
theorem set_get {css : List (List Value)} {k : Nat} {c c' : List Value} (h : css[k]? = some c) : (css.set k c')[k]? = some c' := by
  obtain ⟨hk, _⟩ := List.getElem?_eq_some_iff.1 h
  exact List.getElem?_set_self hk
theorem raw_seq {n : Nat} {hn : 0 < n} : ∀ {css : List (List Value)}, (∀ c, c ∈ css → c.length = n ∧ ∀ u, u ∈ c → u.oneCell' = true) → ∀ (w : World) (S : Bs), Star (seqA (kraw n hn) css css) w S
  | [], _, _, _ => trivial
  | c :: css, h, w, S => ⟨fun _ => False, fun _ => False, ⟨rfl, h c List.mem_cons_self⟩, raw_seq (fun d hd => h d (List.mem_cons_of_mem _ hd)) w _, fun _ h => h.elim, fun _ h => h.elim, fun _ h => h.elim⟩
theorem raw_eq {n : Nat} {hn : 0 < n} : ∀ {xs css : List (List Value)} {w : World} {S : Bs}, css.length = xs.length → Star (seqA (kraw n hn) xs css) w S → css = xs
  | [], [], _, _, _, _ => rfl
  | [], _ :: _, _, _, h, _ => by simp at h
  | _ :: _, [], _, _, h, _ => by simp at h
  | x :: xs, c :: css, w, S, hl, h => by
    have h1 : (kraw n hn).own w S x c := Star.head (c := ownA (kraw n hn) x c) h
    rw [h1.1, raw_eq (by simpa using hl) (Star.drop (c := ownA (kraw n hn) x c) h)]
theorem raw_lens {n : Nat} {hn : 0 < n} {css : List (List Value)} {w : World} {S : Bs} (h : Star (seqA (kraw n hn) css css) w S) : ∀ c, c ∈ css → c.length = n ∧ ∀ u, u ∈ c → u.oneCell' = true := fun c hc => by
  obtain ⟨j, hj, rfl⟩ := List.mem_iff_getElem.1 hc
  exact (seq_at h (List.getElem?_eq_getElem hj) (List.getElem?_eq_getElem hj)).2
theorem seq_ones {α : Type} {K : Kd α} {xs : List α} {css : List (List Value)} {w : World} {S : Bs} (hl : css.length = xs.length) (h : Star (seqA K xs css) w S) : ∀ c, c ∈ css → c.length = K.sz ∧ ∀ u, u ∈ c → u.oneCell' = true := fun c hc => by
  obtain ⟨j, hj, rfl⟩ := List.mem_iff_getElem.1 hc
  obtain ⟨y, hy⟩ := get_ex (xs := xs) (j := j) (by omega)
  have ho := seq_at h hy (List.getElem?_eq_getElem hj)
  exact ⟨own_len ho, K.ro_one (K.own_ro ho)⟩
/-- A slice of one's own, apart. -/
theorem own_raw {α : Type} {K : Kd α} {e by_ : Nat} {xs : List α} {v : Value} (w : World) (S : Bs) (h : Star [ownA (kslice e by_ K) xs [v]] w S) : ∃ css : List (List Value), css.length = xs.length ∧ Star [ownA (kslice e by_ (kraw K.sz K.pos)) css [v], seqC K xs css] w S := by
  rcases (show (kslice e by_ K).own w S xs [v] from h.head (c := ownA _ _ _)) with ⟨A, hv, rfl⟩ | ⟨g, c, css, hv, h1, h2, h3, h4, h5⟩
  · exact ⟨[], rfl, fun _ => False, fun _ => False, .inl ⟨A, hv, rfl⟩, Star.one (c := seqC K _ _) trivial, fun _ h => h.elim, fun _ h => h.elim, fun _ h => h.elim⟩
  · obtain ⟨A, B, hA, hB, a, b, d⟩ := h5
    refine ⟨css, h4, A, B, .inr ⟨g, c, css, by rw [h4]; exact hv, by rw [h4]; exact h1, h2, by rw [h4]; exact h3, rfl, A, fun _ => False, hA, raw_seq (seq_ones h4 hB) w _, fun _ h => h, fun _ h => h.elim, fun _ _ h => h⟩, Star.one (c := seqC K _ _) hB, a, b, d⟩
/-- Put together. -/
theorem raw_own {α : Type} {K : Kd α} {e by_ : Nat} {xs : List α} {css : List (List Value)} {v : Value} (hl : css.length = xs.length) (w : World) (S : Bs) (h : Star [ownA (kslice e by_ (kraw K.sz K.pos)) css [v], seqC K xs css] w S) : (ownA (kslice e by_ K) xs [v]).p w S := by
  obtain ⟨A, B, hA, hB, a, b, d⟩ := h
  have hB' : Star (seqA K xs css) w B := hB.head (c := seqC K xs css)
  rcases (show (kslice e by_ (kraw K.sz K.pos)).own w A css [v] from hA) with ⟨A0, hv, rfl⟩ | ⟨g, c, cs2, hv, h1, h2, h3, h4, h5⟩
  · obtain rfl := List.eq_nil_of_length_eq_zero (show xs.length = 0 from hl.symm)
    exact .inl ⟨A0, hv, rfl⟩
  · obtain ⟨C, D, hC, hD, i, j, dd⟩ := h5
    obtain rfl := raw_eq h4 hD
    exact .inr ⟨g, c, _, by rw [hl] at hv; exact hv, by rw [hl] at h1; exact h1, h2, by rw [hl] at h3; exact h3, hl, C, B, hC, hB', fun x hx => a x (i x hx), b, fun x hx => d x (i x hx)⟩
theorem raw_own' {α : Type} {K : Kd α} {e by_ : Nat} {xs xs' : List α} {css css2 : List (List Value)} {v : Value} (hl : css.length = xs'.length) (h1 : xs = xs') (h2 : css2 = css) (w : World) (S : Bs) (h : Star [ownA (kslice e by_ (kraw K.sz K.pos)) css [v], seqC K xs css2] w S) : (ownA (kslice e by_ K) xs' [v]).p w S := by
  subst h1; subst h2; exact raw_own hl w S h
/-- A part of a slice. -/
def subL {α : Type} (xs : List α) (a b : Nat) : List α := (xs.take b).drop a
theorem subL_len {α : Type} {xs : List α} {a b : Nat} (hb : b ≤ xs.length) : (subL xs a b).length = b - a := by simp [subL, Nat.min_eq_left hb]
theorem subL_get {α : Type} {xs : List α} {a b j : Nat} {x : α} (h : (subL xs a b)[j]? = some x) : xs[a + j]? = some x := by
  unfold subL at h
  rw [List.getElem?_drop, List.getElem?_take] at h
  split at h
  · exact h
  · cases h
theorem subL_erase {α : Type} (xs : List α) (q : Nat) : subL xs 0 q ++ subL xs (q + 1) xs.length = xs.eraseIdx q := by
  rw [List.eraseIdx_eq_take_drop_succ]; simp [subL]
theorem ro_he {α : Type} {K : Kd α} {e by_ : Nat} {w : World} {F : Bs} {xs : List α} {A : Option Addr} {n c : Nat} (h : (kslice e by_ K).ro w F xs [.slice A n c]) : 0 < xs.length → ∃ ad, A = some ad ∧ RoAt K w F ad xs := fun hp => by
  obtain ⟨A', c', hv, _, _, _, h4⟩ := ro_form h
  obtain ⟨ad, ha, hr⟩ := h4 hp
  injection hv with h1 _ _
  exact ⟨ad, h1.trans ha, hr⟩
theorem ro_sub {α : Type} {K : Kd α} {e by_ : Nat} {w : World} {F : Bs} {xs : List α} {A A' : Option Addr} {c a b : Nat} (hA : A' = (if c = a then A else A.map (·.add (a * K.sz)))) (h : (kslice e by_ K).ro w F xs [.slice A xs.length c]) (hab : a ≤ b) (hb : b ≤ xs.length) : (kslice e by_ K).ro w F (subL xs a b) [.slice A' (subL xs a b).length (c - a)] := by
  obtain ⟨A0, c0, hv, h1, h2, h3, h4⟩ := ro_form h
  injection hv with e1 e2 e3
  subst e1; subst e3
  have hl := subL_len (a := a) hb
  refine ⟨A', c - a, rfl, by rw [hl]; omega, by omega, by rw [hl]; have : (b - a) * by_ ≤ xs.length * by_ := Nat.mul_le_mul_right _ (by omega); omega, fun hp => ?_⟩
  rw [hl] at hp
  obtain ⟨ad, rfl, hF, hr⟩ := h4 (by omega)
  rw [if_neg (by omega)] at hA
  refine ⟨ad.add (a * K.sz), hA, by rw [add_block]; exact hF, fun j x hx => ?_⟩
  obtain ⟨ecs, k1, k2⟩ := hr (a + j) x (subL_get hx)
  refine ⟨ecs, k1, fun i u hu => ?_⟩
  rw [add_add, show a * K.sz + (j * K.sz + i) = (a + j) * K.sz + i by rw [Nat.add_mul]; omega]
  exact k2 i u hu
theorem PtrRo.wide {α : Type} {K : Kd α} {w w' : World} {F F' : Bs} {ad : Addr} {x : α} (h : PtrRo K w F ad x) (hw : ∀ b, F b → F' b ∧ w'.heap[b]? = w.heap[b]?) : PtrRo K w' F' ad x := by
  obtain ⟨ecs, h1, h2, h3⟩ := h
  exact ⟨ecs, (hw _ h1).1, K.ro_up (K.ro_loc h2 (fun b hb => (hw b hb).2)) (fun b hb => (hw b hb).1), fun i u hu => (cell_loc (by rw [add_block]; exact (hw _ h1).2)).trans (h3 i u hu)⟩
section
variable {P : Program} {T : Slots} {Wd : World → Prop} {o : Oper} {N : Nat} {w0 : World} {S0 : Bs} {l l' lk : List Asn}
/-- A struct that lies in another. -/
theorem Tr.elsub {α : Type} {K : Kd α} {w : World} {S1 : Bs} {lr : List Asn} {B : Addr} {ecs cs : List Value} {k : Nat} {x : α} (tr : Tr w0 S0 w S1 lr) (hF : FF w0 S0 B.block) (hr : K.ro w0 (FF w0 S0) x cs) (hc : ∀ (i : Nat) (u : Value), ecs[i]? = some u → w0.cell? (B.add i) = some u) (hs : ∀ (i : Nat) (u : Value), cs[i]? = some u → ecs[k + i]? = some u) : PtrRo K w (FF w S1) (B.add k) x :=
  tr.ctxP ⟨cs, by rw [add_block]; exact hF, hr, fun i u hu => by rw [add_add]; exact hc _ _ (hs i u hu)⟩
theorem Tr.ptrsub {α : Type} {K : Kd α} {w : World} {S1 : Bs} {lr : List Asn} {g e sz c k : Nat} {ecs cs : List Value} {x : α} (tr : Tr w0 S0 w S1 lr) (tk : Take lr (rowA g e sz c ecs) l') (hr : K.ro w (FF w S1) x cs) (hs : ∀ (i : Nat) (u : Value), cs[i]? = some u → ecs[k + i]? = some u) : PtrRo K w (FF w S1) ((⟨g, 0, none⟩ : Addr).add k) x := by
  obtain ⟨S2, hst, hsub⟩ := tr.all
  have h := (hst.take tk).head
  refine ⟨cs, by rw [add_block]; exact hsub _ h.1, hr, fun i u hu => ?_⟩
  rw [add_add, add_plain']
  exact row_cell h (hs i u hu)
/-- An element that is a slice: one cell. -/
theorem WS.osl1 {α : Type} {K : Kd α} {e by_ : Nat} {xs : List α} {cs : List Value} (ht : Take l (ownA (kslice e by_ K) xs cs) l') : ∀ w, WS w0 S0 l w → ∃ v, cs = [v] := fun w hw => by
  obtain ⟨S, hs, _, _⟩ := hw.take ht
  exact osl_one (show (kslice e by_ K).own w S xs cs from hs.head)
theorem q_sliceL {α : Type} {xs : List α} {x : Operand} {t e : TypeId} {sz : Nat} {lo hi : Option Operand} {a b c : Nat} {A A' : Option Addr} (ho : o.op = .slice t x lo hi none) (ht : P.underlying t = some (.slice e)) (he : (P.info? e).map (·.size) = some sz) (hx : Val T x (.slice A xs.length c)) (hA : A' = (if c = a then A else A.map (·.add (a * sz))))
    (hlo : (lo = none ∧ a = 0) ∨ ∃ z k, lo = some z ∧ Val T z (.int k (a : Int))) (hhi : (hi = none ∧ b = xs.length) ∨ ∃ z k, hi = some z ∧ Val T z (.int k (b : Int))) (h1 : a ≤ b) (h2 : b ≤ xs.length) (h3 : xs.length ≤ c) :
    Quiet P o T Wd (.slice A' (subL xs a b).length (c - a)) := by
  rw [subL_len h2, hA]
  exact q_slice ho ht he hx hlo hhi h1 (Nat.le_trans h2 h3)
/-- A bare cell. -/
theorem WS.raw {n : Nat} {hn : 0 < n} {e by_ : Nat} {css : List (List Value)} {ad : Addr} {m c j i : Nat} {cs : List Value} {u : Value} (ht : Take l (ownA (kslice e by_ (kraw n hn)) css [.slice (some ad) m c]) l') (hc : css[j]? = some cs) (hu : cs[i]? = some u) : ∀ w, WS w0 S0 l w → w.cell? ((ad.add (j * n)).add i) = some u := fun w hw => by
  obtain ⟨S, hs, _, _⟩ := hw.take ht
  obtain ⟨A', c', h, _, _, _, h4⟩ := ro_form ((kslice e by_ (kraw n hn)).own_ro (show (kslice e by_ (kraw n hn)).own w S css _ from hs.head))
  obtain ⟨ad', ha, hr⟩ := h4 (by have := (List.getElem?_eq_some_iff.1 hc).1; omega)
  injection h with g1 g2 g3
  rw [ha] at g1
  obtain rfl := Option.some.inj g1
  obtain ⟨ecs, ⟨rfl, _⟩, _, hcc⟩ := hr.elem hc
  exact hcc i _ hu
theorem WS.raw0 {n : Nat} {hn : 0 < n} {e by_ : Nat} {css : List (List Value)} {ad : Addr} {m c j : Nat} {cs : List Value} {u : Value} (ht : Take l (ownA (kslice e by_ (kraw n hn)) css [.slice (some ad) m c]) l') (hc : css[j]? = some cs) (hu : cs[0]? = some u) : ∀ w, WS w0 S0 l w → w.cell? (ad.add (j * n)) = some u := fun w hw => by
  have := WS.raw ht hc hu w hw
  rwa [add_add, Nat.add_zero] at this
theorem WS.raws {n : Nat} {hn : 0 < n} {e by_ : Nat} {css : List (List Value)} {ad : Addr} {m c j : Nat} {cs : List Value} (ht : Take l (ownA (kslice e by_ (kraw n hn)) css [.slice (some ad) m c]) l') (hc : css[j]? = some cs) : ∀ w, WS w0 S0 l w → ∀ (i : Nat) (u : Value), cs[i]? = some u → w.cell? ((ad.add (j * n)).add i) = some u := fun w hw i u hu => WS.raw ht hc hu w hw
theorem WS.rawsub {n : Nat} {hn : 0 < n} {e by_ : Nat} {css : List (List Value)} {ad : Addr} {m c j k : Nat} {cs ds : List Value} (ht : Take l (ownA (kslice e by_ (kraw n hn)) css [.slice (some ad) m c]) l') (hc : css[j]? = some cs) (hs : ∀ (i : Nat) (u : Value), ds[i]? = some u → cs[k + i]? = some u) : ∀ w, WS w0 S0 l w → ∀ (i : Nat) (u : Value), ds[i]? = some u → w.cell? (((ad.add (j * n)).add k).add i) = some u := fun w hw i u hu => by
  rw [add_add]; exact WS.raw ht hc (hs i u hu) w hw
/-- The lengths of bare elements. -/
theorem WS.rawlen {n : Nat} {hn : 0 < n} {e by_ : Nat} {css : List (List Value)} {v : Value} {j : Nat} {cs : List Value} (ht : Take l (ownA (kslice e by_ (kraw n hn)) css [v]) l') (hc : css[j]? = some cs) : ∀ w, WS w0 S0 l w → cs.length = n := fun w hw => by
  obtain ⟨S, hs, _, _⟩ := hw.take ht
  have h : (kslice e by_ (kraw n hn)).own w S css [v] := hs.head
  obtain ⟨A', c', rfl, _, _, _, h4⟩ := ro_form ((kslice e by_ (kraw n hn)).own_ro h)
  obtain ⟨ad', ha, hr⟩ := h4 (by have := (List.getElem?_eq_some_iff.1 hc).1; omega)
  obtain ⟨ecs, ⟨rfl, h, _⟩, _⟩ := hr.elem hc
  exact h
theorem putAt_ones {fl cs : List Value} {off : Nat} (h : ∀ u, u ∈ fl → u.oneCell' = true) (h2 : ∀ u, u ∈ cs → u.oneCell' = true) : ∀ u, u ∈ putAt fl off cs → u.oneCell' = true := fun u hu => by
  unfold putAt at hu
  rcases List.mem_append.1 hu with hu | hu
  · rcases List.mem_append.1 hu with hu | hu
    · exact h u (List.mem_of_mem_take hu)
    · exact h2 u hu
  · exact h u (List.mem_of_mem_drop hu)
theorem flatten_put {css : List (List Value)} {n : Nat} {c cs : List Value} {off : Nat} (hl : ∀ c, c ∈ css → c.length = n) (hb : off + cs.length ≤ n) : ∀ {j : Nat}, css[j]? = some c → putAt css.flatten (j * n + off) cs = (css.set j (putAt c off cs)).flatten := by
  induction css with
  | nil => intro j hj; simp at hj
  | cons d css ih =>
    intro j hj
    have hd := hl d List.mem_cons_self
    cases j with
    | zero =>
      simp at hj; subst hj
      simp only [List.set_cons_zero, List.flatten_cons, putAt, Nat.zero_mul, Nat.zero_add]
      rw [List.take_append_of_le_length (by omega), List.drop_append_of_le_length (by omega)]
      simp only [List.append_assoc]
    | succ j =>
      simp only [List.set_cons_succ, List.flatten_cons]
      rw [← ih (fun c hc => hl c (List.mem_cons_of_mem _ hc)) (by simpa using hj)]
      have e1 : (j + 1) * n + off = d.length + (j * n + off) := by rw [Nat.succ_mul, hd]; omega
      have e2 : (d ++ css.flatten).take (d.length + (j * n + off)) = d ++ css.flatten.take (j * n + off) := by
        rw [List.take_append, List.take_of_length_le (by omega), Nat.add_sub_cancel_left]
      have e3 : (d ++ css.flatten).drop (d.length + (j * n + off) + cs.length) = css.flatten.drop (j * n + off + cs.length) := by
        rw [List.drop_append, List.drop_of_length_le (by omega), List.nil_append]
        congr 1; omega
      simp only [putAt, e1, e2, e3, List.append_assoc]
/-- A store into a bare element. -/
theorem es_raw {n : Nat} {hn : 0 < n} {e by_ : Nat} {css : List (List Value)} {c0 cs : List Value} {ad : Addr} {m c j off : Nat} {p x : Operand} {t : TypeId} {v : Value} {B : Addr} (ho : o.op = .store t p x) (hi : (P.info? t).map (·.size) = some cs.length) (hp : Val T p (.pointer (some B))) (hB : B = ad.add (j * n + off)) (hx : Val T x v) (hv : v.cells.toList = cs)
    (h1 : ∀ u, u ∈ cs → u.oneCell' = true) (hT : Take l (ownA (kslice e by_ (kraw n hn)) css [.slice (some ad) m c]) l') (hj : css[j]? = some c0) (hb : off + cs.length ≤ n) : EffS P o T w0 S0 l (ownA (kslice e by_ (kraw n hn)) (css.set j (putAt c0 off cs)) [.slice (some ad) m c] :: l') := by
  intro a w ha hw
  subst hB
  obtain ⟨S1, hA, _, hk⟩ := (hw.takes (.c hT .n)).eff
  have hA' : (kslice e by_ (kraw n hn)).own w S1 css [.slice (some ad) m c] := hA.head (c := ownA _ _ _)
  obtain ⟨i0, k1, k2⟩ := Option.map_eq_some_iff.1 hi
  rcases hA' with ⟨A, h, rfl⟩ | ⟨g, c', css', h, h1', h2, h3, h4, h5⟩
  · simp at hj
  have h' := List.singleton_inj.1 h
  injection h' with g1 g2 g3
  obtain rfl := Option.some.inj g1
  subst g2; subst g3
  obtain ⟨B1, B2, ⟨hg, cur, q1, q2, q3, q4⟩, hseq, i1, i2, dd⟩ := h5
  have he := raw_eq h4 hseq
  rw [he] at hseq q3 q4
  have hraw := raw_lens hseq
  have hlen : ∀ d, d ∈ css → d.length = n := fun d hd => (hraw d hd).1
  have hfl : css.flatten.length = css.length * n := flatten_len hlen
  have hjl := (List.getElem?_eq_some_iff.1 hj).1
  have hc0 := hlen c0 (List.mem_of_getElem? hj)
  have hmul : (j + 1) * n ≤ css.length * n := Nat.mul_le_mul_right _ hjl
  rw [Nat.succ_mul] at hmul
  have hbd : j * n + off + cs.length ≤ css.flatten.length := by rw [hfl]; omega
  have hsz : (kraw n hn).sz = n := rfl
  rw [hsz] at q2
  have hst := run_storeCells_at P g (j * n + off) e cs 0 cur w q1 (by omega) h1
  simp only [Nat.add_zero] at hst
  have hne : ∀ b, b ≠ g → (w.setRow g (cur.toList.take (j * n + off) ++ cs ++ cur.toList.drop (j * n + off + cs.length)).toArray).heap[b]? = w.heap[b]? := fun b hb => setRow_other w g b _ hb
  refine ⟨w.setRow g (cur.toList.take (j * n + off) ++ cs ++ cur.toList.drop (j * n + off + cs.length)).toArray, ?_, hk _ [ownA (kslice e by_ (kraw n hn)) (css.set j (putAt c0 off cs)) [.slice (some ⟨g, 0, none⟩) css.length c]] S1 (Star.one (c := ownA (kslice e by_ (kraw n hn)) _ _) ?_) (fun b hb => .inl hb) ?_⟩
  · have hsz : v.cells.size = i0.size := by rw [k2, ← hv, Array.length_toList]
    simp only [execOp, ho, hp a ha, hx a ha]
    rw [add_plain']
    simp [Instr.storeAt, Instr.sureAddr, storeVar, sizeOf, typeInfo, k1, hsz, hv, hst]
  · refine .inr ⟨g, c, css.set j (putAt c0 off cs), by rw [List.length_set], by rw [List.length_set]; exact h1', h2, by rw [List.length_set]; exact h3, rfl, ?_⟩
    refine ⟨fun b => b = g, fun b => False, ⟨rfl, _, setRow_heap w g cur _ e _ q1, ?_, ?_, ?_⟩, raw_seq (fun d hd => ?_) _ _, fun b hb => hb ▸ i1 g hg, fun b hb => hb.elim, fun b hb hb' => hb'⟩
    · simp only [List.size_toArray, List.length_append, List.length_take, List.length_drop, Array.length_toList, hsz]; omega
    · rw [← flatten_put hlen hb hj, putAt_len hbd]; simp only [List.size_toArray, List.length_append, List.length_take, List.length_drop, Array.length_toList]; omega
    · rw [← flatten_put hlen hb hj, putAt_len hbd]
      have := take_put (L := cur.toList) (cs := cs) (off := j * n + off) (n := css.flatten.length) hbd (by rw [Array.length_toList]; exact q3)
      rw [q4] at this
      exact this
    · rcases List.mem_or_eq_of_mem_set hd with hd | rfl
      · exact hraw d hd
      · exact ⟨by rw [putAt_len (by omega)]; exact hc0, putAt_ones (hraw c0 (List.mem_of_getElem? hj)).2 h1⟩
  · exact ⟨rfl, rfl, rfl, by simp, fun b hb hn' => hne b (fun e => hn' (e ▸ i1 g hg))⟩
/-- Elements that are read, copied bare. -/
theorem e_appendRaw {α : Type} {K : Kd α} {F : Bs} {wF : World} {e by_ e2 by2 : Nat} {ys : List α} {z v xv : Value} {s x : Operand} {t : TypeId} (ho : o.op = .call { callee := .builtin .append, args := #[s, x], argTypes := #[t, t] }) (ht : P.underlying t = some (.slice e))
    (hi : (P.info? e).map (fun i => (i.size, i.bytes, i.zero)) = some (K.sz, by_, some z)) (hz : z.cells.size = K.sz) (hs : Val T s v) (hx : Val T x xv)
    (hT : Takes l [ownA (kslice e by_ (kraw K.sz K.pos)) [] [v]] l') (hF : ∀ b, F b → FF w0 S0 b ∧ w0.heap[b]? = wF.heap[b]?) (hsrc : (kslice e2 by2 K).ro wF F ys [xv]) (hb : ys.length * by_ ≤ 140737488355328) (h63 : ys.length ≤ 9223372036854775807) :
    Eff P o T w0 S0 l (fun r l2 => ∃ css : List (List Value), css.length = ys.length ∧ (∀ (j : Nat) (y : α) (c : List Value), ys[j]? = some y → css[j]? = some c → K.ro wF F y c) ∧ l2 = ownA (kslice e by_ (kraw K.sz K.pos)) css [r] :: l') := by
  intro a w ha hw
  have hfr : ∀ b, F b → w.heap[b]? = wF.heap[b]? := fun b hb => by obtain ⟨_, _, _, hf⟩ := hw; exact (hf.block b (hF b hb).1.1 (hF b hb).1.2).trans (hF b hb).2
  obtain ⟨S1, hA, tr, hk⟩ := (hw.takes hT).eff
  obtain ⟨css, h1, h2, h3⟩ := src_flat ((kslice e2 by2 K).ro_loc hsrc hfr)
  have hro : ∀ (j : Nat) (y : α) (c : List Value), ys[j]? = some y → css[j]? = some c → K.ro wF F y c := fun j y c h k => K.ro_loc (h3 j y c h k) (fun b hb => (hfr b hb).symm)
  have hones : ∀ c, c ∈ css → c.length = K.sz ∧ ∀ u, u ∈ c → u.oneCell' = true := fun c hc => by
    obtain ⟨j, hj, rfl⟩ := List.mem_iff_getElem.1 hc
    obtain ⟨y, hy⟩ := get_ex (xs := ys) (j := j) (by omega)
    have := hro j y _ hy (List.getElem?_eq_getElem hj)
    exact ⟨K.ro_len this, K.ro_one this⟩
  have hseq := raw_seq (n := K.sz) (hn := K.pos) hones w (fun _ => False)
  obtain ⟨v', w', S'', hr, hown, hsub, hfr2⟩ := own_append (P := P) (t := t) (ty := o.type) (K := kraw K.sz K.pos) (xs := []) (ys := css) (css := css) (xv := xv) (S := S1) (S' := fun _ => False) ht hi hz (show (kslice e by_ (kraw K.sz K.pos)).own w S1 [] [v] from hA.head) (by rw [h1]; exact h2) rfl hseq (fun _ _ h => h) (by simp only [List.length_nil, Nat.zero_add, h1]; exact hb) (by simp only [List.length_nil, Nat.zero_add, h1]; exact h63)
  refine ⟨v', w', _, ?_, ⟨css, h1, hro, rfl⟩, hk w' [ownA (kslice e by_ (kraw K.sz K.pos)) css [v']] S'' (Star.one hown) (fun b hb => ?_) hfr2⟩
  · rw [exec_append ho (hs a ha) (hx a ha), hr]; rfl
  · rcases hsub b hb with h | h | h
    · exact .inl h
    · exact h.elim
    · exact .inr h
/-- A literal without elements. -/
theorem e_buildNil {t e : TypeId} {sz : Nat} {z : Value} (ho : o.op = .buildSlice t 0 #[]) (ht : P.underlying t = some (.slice e)) (he : (P.info? e).map (fun i => (i.size, i.zero)) = some (sz, some z)) : Eff P o T w0 S0 l (fun r l' => ∃ g, r = .slice (some ⟨g, 0, none⟩) 0 0 ∧ l' = rowA g e sz 0 [] :: l) := by
  intro a w ha hw
  obtain ⟨i0, h1, h2⟩ := Option.map_eq_some_iff.1 he
  obtain ⟨h2, h3⟩ := Prod.mk.inj h2
  refine ⟨.slice (some ⟨w.heap.size, 0, none⟩) 0 0, w.alloc (.cells #[] e), _, ?_, ⟨_, rfl, rfl⟩, hw.new #[] e sz 0 (by simp)⟩
  simp only [execOp, ho]
  simp [Instr.buildSlice, run_underlying ht, sizeOf, typeInfo, h1, h2, h3, newRow, Instr.fill]
  have h0 : Array.range 0 = #[] := by apply Array.ext <;> simp
  rw [h0, Array.map_empty]
theorem e_buildSliceL {t e : TypeId} {len sz : Nat} {parts : Array (Nat × Operand)} {ps : List (Nat × Value)} {z : Value} {zc cs : List Value} (ho : o.op = .buildSlice t len parts) (ht : P.underlying t = some (.slice e)) (he : (P.info? e).map (fun i => (i.size, i.zero)) = some (sz, some z)) (hlen : len * sz ≤ 16777216)
    (hps : ∀ a : Act, Holds T a → (parts.map fun (i, x) => (i, a.eval x)) = ps.toArray) (hz : z.cells.toList = zc) (hzl : zc.length = sz) (hpos : 0 < sz) (hfill : Instr.fill (fun i => some (i * sz, sz)) (List.replicate len zc).flatten.toArray ps = some cs.toArray) (hcs : cs.length = len * sz) :
    Eff P o T w0 S0 l (fun r l' => ∃ g, r = .slice (some ⟨g, 0, none⟩) len len ∧ l' = rowA g e sz len cs :: l) := by
  subst hz
  refine e_buildSlice ho ht he hlen hps ?_ hcs
  rw [← hfill]
  congr 1
  have hzs : z.cells.size = sz := by rw [← hzl, Array.length_toList]
  by_cases h0 : len * sz = 0
  · have hl : len = 0 := by rcases Nat.mul_eq_zero.1 h0 with h | h <;> omega
    subst hl
    apply Array.ext <;> simp
  · simp only [if_neg h0]
    apply Array.toList_inj.1
    have := madeCells_flat z.cells len (by omega)
    rw [hzs] at this
    rw [← this]
    rfl
/-- A literal's row as a slice of one's own: scalars. -/
theorem lit_own {α : Type} {enc : α → Value} {ok : α → Prop} {h1 : ∀ x, (enc x).oneCell' = true} {e by_ g n : Nat} {xs : List α} {w : World} {S : Bs} (h : Star [rowA g e 1 n (xs.map enc)] w S) (hn : xs.length = n) (hok : ∀ x, x ∈ xs → ok x) (hb : n * by_ ≤ 140737488355328) (h63 : n ≤ 9223372036854775807) : (ownA (kslice e by_ (kscalar enc ok h1)) xs [.slice (some ⟨g, 0, none⟩) n n]).p w S := by
  subst hn
  have hfl : ∀ ys : List α, (ys.map fun x => [enc x]).flatten = ys.map enc := fun ys => by
    induction ys with
    | nil => rfl
    | cons x ys ih => simp only [List.map_cons, List.flatten_cons, ih]; rfl
  refine .inr ⟨g, xs.length, xs.map (fun x => [enc x]), rfl, Nat.le_refl _, h63, hb, by simp, S, fun _ => False, by rw [hfl]; exact h.head (c := rowA g e 1 xs.length (xs.map enc)), ?_, fun _ h => h, fun _ h => h.elim, fun _ _ h => h⟩
  clear hfl hb h63 h
  induction xs with
  | nil => trivial
  | cons x xs ih => exact ⟨fun _ => False, fun _ => False, ⟨rfl, hok x List.mem_cons_self⟩, ih (fun y hy => hok y (List.mem_cons_of_mem _ hy)), fun _ h => h.elim, fun _ h => h.elim, fun _ h => h.elim⟩
theorem nil_of {α : Type} {xs : List α} {A : Option Addr} {p : Addr → Prop} (h : 0 < xs.length → ∃ ad, A = some ad ∧ p ad) (hA : Option.isNone A = true) : ([] : List α) = xs := by
  cases xs with
  | nil => rfl
  | cons x xs => obtain ⟨ad, rfl, _⟩ := h (by simp); cases hA
theorem pre_at {fl cs : List Value} {k : Nat} (hk : cs.length = k) (h : fl.take k = cs) : ∀ (i : Nat) (u : Value), cs[i]? = some u → fl[i]? = some u := fun i u hu => by
  rw [← h, List.getElem?_take] at hu
  split at hu
  · exact hu
  · cases hu
end
end Go.Proofs.Ytkmcpcahbfdohaa
/- What is proved: marks as texts and bytes. No condition. -/
namespace Go.Proofs.Ytkmcpcahbfdohaa
open Go Go.RowKit
set_option linter.unusedVariables false
def mbyte (n : Int) : UInt8 := UInt8.ofNat (n % 256).toNat
theorem mbyte_wrap (n : Int) : IntKind.u8.wrap n = ((mbyte n).toNat : Int) := by
  rw [IntKind.wrap_u8]
  unfold mbyte
  rw [UInt8.toNat_ofNat']
  omega
theorem byte_eq {a b : UInt8} (h : (a.toNat : Int) = (b.toNat : Int)) : a = b := UInt8.toNat_inj.1 (Int.ofNat.inj h)
def bstr (xs : List UInt8) : ByteArray := ⟨xs.toArray⟩
theorem bstr_size (xs : List UInt8) : (bstr xs).size = xs.length := by simp [bstr, ByteArray.size]
/-- The digits of a number ahead of a text, 'm' ahead of all. -/
def mfin (k : Nat) (out : ByteArray) : ByteArray :=
  if h : k = 0 then bstr [109] ++ out else mfin (k / 10) (bstr [mbyte ((48 + k % 10 : Nat) : Int)] ++ out)
termination_by k
decreasing_by omega
theorem mfin_0 (out : ByteArray) : mfin 0 out = bstr [109] ++ out := by rw [mfin]; simp
theorem mfin_s {k : Nat} (out : ByteArray) (h : 0 < k) : mfin k out = mfin (k / 10) (bstr [mbyte ((48 + k % 10 : Nat) : Int)] ++ out) := by rw [mfin, dif_neg (by omega)]
theorem mfin_size : ∀ (d k : Nat) (out : ByteArray), k < 10 ^ d → (mfin k out).size ≤ 1 + d + out.size
  | 0, k, out, h => by
    have : k = 0 := by simpa using h
    subst this
    rw [mfin_0, ByteArray.size_append, bstr_size]
    simp
  | d + 1, k, out, h => by
    by_cases hk : k = 0
    · subst hk
      rw [mfin_0, ByteArray.size_append, bstr_size]
      simp
    · rw [mfin_s out (by omega)]
      have := mfin_size d (k / 10) (bstr [mbyte ((48 + k % 10 : Nat) : Int)] ++ out) (by rw [Nat.pow_succ] at h; omega)
      rw [ByteArray.size_append, bstr_size] at this
      simp only [List.length_cons, List.length_nil] at this
      omega
theorem mfin_d {k d : Nat} (h : 0 < k) (hd : k < 10 ^ d) : k / 10 < 10 ^ (d - 1) := by
  cases d with
  | zero => simp at hd; omega
  | succ d => rw [Nat.pow_succ] at hd; simp only [Nat.add_sub_cancel]; omega
theorem mfin_o {k d n : Nat} {o : ByteArray} (h : 0 < k) (hd : k < 10 ^ d) (ho : o.size + d ≤ n) {b : UInt8} : (bstr [b] ++ o).size + (d - 1) ≤ n := by
  rw [ByteArray.size_append, bstr_size]
  cases d with
  | zero => simp at hd; omega
  | succ d => simp only [List.length_cons, List.length_nil]; omega
def mtext (n : Int) : ByteArray := if n ≤ 0 then bstr [109, 48] else mfin n.toNat ⟨#[]⟩
theorem mtext_size {n : Int} (h : n ≤ 4611686018427387905) : (mtext n).size ≤ 140737488351232 := by
  unfold mtext
  split
  · rw [bstr_size]; simp
  · have := mfin_size 19 n.toNat ⟨#[]⟩ (by omega)
    have e : (⟨#[]⟩ : ByteArray).size = 0 := rfl
    omega
end Go.Proofs.Ytkmcpcahbfdohaa
/- What is proved: bytes turned to a string; what is read, of a world behind. No condition. -/
namespace Go.Proofs.Ytkmcpcahbfdohaa
open Go Go.RowKit
set_option linter.unusedVariables false
set_option linter.unusedSimpArgs false
section
variable {P : Program} {T : Slots} {Wd : World → Prop} {o : Oper} {N : Nat} {w0 : World} {S0 : Bs} {l l' : List Asn}
theorem WS.roctx {α : Type} {K : Kd α} {x : α} {cs : List Value} (h : K.ro w0 (FF w0 S0) x cs) : ∀ w, WS w0 S0 l w → ∃ F : Bs, K.ro w F x cs := fun w hw => by
  obtain ⟨S, _, _, hf⟩ := hw
  exact ⟨_, K.ro_loc h (fun b hb => hf.block b hb.1 hb.2)⟩
theorem WS.roown {α : Type} {K : Kd α} {x : α} {cs : List Value} (ht : Take l (ownA K x cs) l') : ∀ w, WS w0 S0 l w → ∃ F : Bs, K.ro w F x cs := fun w hw => by
  obtain ⟨S, hs, _, _⟩ := hw.take ht
  exact ⟨_, K.own_ro (show K.own w S x cs from hs.head)⟩
theorem WS.ronil {α : Type} {K : Kd α} {e by_ : Nat} : ∀ w, WS w0 S0 l w → ∃ F : Bs, (kslice e by_ K).ro w F [] [.slice none 0 0] := fun w _ => ⟨fun _ => False, ro_nil⟩
theorem quo_nn {a b : Int} (ha : 0 ≤ a) (h : a ≤ 9223372036854775807) (hb : 0 < b) : IntKind.i64.wrap (a.tdiv b) = a / b := by
  rw [Int.tdiv_eq_ediv_of_nonneg ha]
  have h1 : 0 ≤ a / b := Int.ediv_nonneg ha (by omega)
  have h2 : a / b ≤ a := Int.ediv_le_self b ha
  exact wr rfl (by omega) (by omega)
theorem quo_nat {q d : Nat} {b : Int} (h : q ≤ 9223372036854775807) (hb : b = (d : Int)) : IntKind.i64.wrap ((q : Int).tdiv b) = ((q / d : Nat) : Int) := by
  subst hb
  rw [Int.tdiv_eq_ediv_of_nonneg (by omega)]
  have h2 : q / d ≤ q := Nat.div_le_self q d
  have e : ((q / d : Nat) : Int) = (q : Int) / (d : Int) := by simp
  rw [e]
  rw [← e]
  generalize q / d = m at h2 ⊢
  exact wr rfl (by omega) (by omega)
theorem rem_nat {q d : Nat} {b : Int} (hb : b = (d : Int)) : Int.tmod (q : Int) b = ((q % d : Nat) : Int) := by
  subst hb
  rw [Int.tmod_eq_emod_of_nonneg (by omega)]
  simp
theorem any_dec {α : Type} [DecidableEq α] (xs : List α) (v : α) : xs.any (fun x => decide (x = v)) = decide (v ∈ xs) := by
  rw [Bool.eq_iff_iff, List.any_eq_true, decide_eq_true_iff]
  exact ⟨fun ⟨x, hx, h⟩ => of_decide_eq_true h ▸ hx, fun h => ⟨v, h, decide_eq_true rfl⟩⟩
theorem bstr_inj {x y : List UInt8} : bstr x = bstr y ↔ x = y := ⟨fun h => by
  have := congrArg (fun s => s.data.toList) h
  simpa [bstr] using this, fun h => congrArg bstr h⟩
theorem bstr_of (xs : List UInt8) : ((xs.map fun b => (b.toNat : Int)).foldl (fun r n => r.push (UInt8.ofNat n.toNat)) ByteArray.empty) = bstr xs := by
  rw [foldl_push_bytes]
  simp only [List.map_map, bstr]
  congr 1
  simp only [ByteArray.empty, ByteArray.emptyWithCapacity]
  rw [show (Array.empty : Array UInt8) = #[] from rfl]
  simp [Function.comp_def]
theorem q_convBS {xs : List UInt8} {by_ : Nat} {s e d : TypeId} {x : Operand} {v : Value} (ho : o.op = .convert s d x) (hs : P.underlying s = some (.slice e)) (he : P.underlying e = some (.int .u8)) (hd : P.underlying d = some .string) (hx : Val T x v)
    (hr : ∀ w, Wd w → ∃ F : Bs, (kslice e by_ kbyte).ro w F xs [v]) : Quiet P o T Wd (.string (bstr xs)) := fun a w ha hw => by
  obtain ⟨F, hr⟩ := hr w hw
  obtain ⟨A, c, rfl, h1, h2, h3, h4⟩ := ro_form hr
  simp only [execOp, ho, hx a ha]
  have key : (convert s d (.slice A xs.length c)).run P w = .ok (.string (bstr xs)) w := by
    rw [run_convert_bytes_string w s d e _ _ c hs he hd]
    cases A with
    | none =>
      have : xs = [] := by
        cases xs with
        | nil => rfl
        | cons y ys => obtain ⟨ad, h, _⟩ := h4 (by simp); cases h
      subst this
      simp [Conv.bytesToString, bstr]
      rfl
    | some ad =>
      have hl : (loadCells ad xs.length).run P w = .ok ((xs.map fun b => (b.toNat : Int)).map (Value.int .u8)).toArray w := by
        have := run_loadCells_list (P := P) w ad ((xs.map fun b => (b.toNat : Int)).map (Value.int .u8)) (fun i u hu => by
          simp only [List.map_map, List.getElem?_map, Option.map_eq_some_iff, Function.comp] at hu
          obtain ⟨b, hb, rfl⟩ := hu
          have hp : 0 < xs.length := by have := (List.getElem?_eq_some_iff.1 hb).1; omega
          obtain ⟨ad', ha', hro⟩ := h4 hp
          obtain rfl := Option.some.inj ha'
          obtain ⟨ecs, ⟨rfl, _⟩, h6⟩ := hro.2 i b hb
          have := h6 0 _ rfl
          simpa [kbyte, kscalar] using this)
        simpa using this
      rw [run_bytesToString w ad _ c _ hl, bstr_of]
  simp [key]
/-! ### structs of scalars, compared -/
theorem eqFs_nil {d : Nat} {xs ys : Array Value} (w : World) : (Op.eqFields d xs ys []).run P w = .ok true w := by simp [Op.eqFields]
theorem eqFs_cons {d : Nat} {xs ys : Array Value} {f : Field} {fs : List Field} {a b : Value} {r q : Bool} (hn : (f.name != "_") = true) (ha : ∀ w, (part f.type xs f.offset).run P w = .ok a w) (hb : ∀ w, (part f.type ys f.offset).run P w = .ok b w)
    (he : ∀ w, (Op.equalIn d f.type a b).run P w = .ok r w) (hr : ∀ w, (Op.eqFields d xs ys fs).run P w = .ok q w) (w : World) : (Op.eqFields d xs ys (f :: fs)).run P w = .ok (r && q) w := by
  have hn' : f.name ≠ "_" := by simpa using hn
  simp only [Op.eqFields]
  rw [if_pos hn']
  simp only [Sem.run_bind, ha, hb, he, Result.andThen_ok]
  cases r <;> simp [hr]
theorem beq_str (a b : ByteArray) : (a.toList == b.toList) = decide (a = b) := by
  rw [ByteArray.toList_eq, ByteArray.toList_eq, Bool.eq_iff_iff, beq_iff_eq, decide_eq_true_iff]
  constructor
  · intro h
    cases a
    cases b
    simp only [Array.toList_inj] at h
    rw [h]
  · rintro rfl; rfl
theorem beq_int (a b : Int) : (a == b) = decide (a = b) := beq_dec a b
theorem q_enteql {x y : Operand} {t t' : TypeId} {xs ys : Array Value} {b : Bool} (ho : o.op = .binOp .eql t x y t') (he : ∀ w, (Op.equalIn 10000 t (.agg xs) (.agg ys)).run P w = .ok b w) (hg : P.eqGuardType P.depth t = false) (hx : Val T x (.agg xs)) (hy : Val T y (.agg ys)) : Quiet P o T Wd (.bool b) := fun a w ha _ => by
  simp only [execOp, ho, hx a ha, hy a ha]
  simp [run_eqGuard_agg w .eql t x y xs ys hg, run_eql_struct w, he w]
theorem q_entneq {x y : Operand} {t t' : TypeId} {xs ys : Array Value} {b : Bool} (ho : o.op = .binOp .neq t x y t') (he : ∀ w, (Op.equalIn 10000 t (.agg xs) (.agg ys)).run P w = .ok b w) (hg : P.eqGuardType P.depth t = false) (hx : Val T x (.agg xs)) (hy : Val T y (.agg ys)) : Quiet P o T Wd (.bool (!b)) := fun a w ha _ => by
  simp only [execOp, ho, hx a ha, hy a ha]
  simp [run_eqGuard_agg w .neq t x y xs ys hg, run_neq_struct w, he w]
end
end Go.Proofs.Ytkmcpcahbfdohaa
/- What is proved: an argument that was read out of memory, of a kind: what the kind says holds of its cells. No condition. -/
namespace Go.Proofs.Ytkmcpcahbfdohaa
open Go Go.RowKit
set_option linter.unusedVariables false
set_option linter.unusedSimpArgs false
def InW (W : World) : Bs := fun b => b < W.heap.size
section
variable {H : Type} (enc : TypeId × Value → H) (P : Program) (W : World)
def Ko {α : Type} (t : TypeId) (K : Kd α) : Prop := ∀ (fuel : Nat) (cs : List Value) (x : DataW H × List MemPlace), DataW.trod enc P W 0 (fun _ => true) true fuel t cs = some x → (x.1.weights P t).all (· ≤ reachBytes) = true → ∃ y, K.ro W (InW W) y cs
def KoF {α : Type} (ps : List (TypeId × Nat)) (off : Nat) (K : Kd α) : Prop := ∀ (n : Nat) (cs : List Value) (xs : List (DataW H × List MemPlace)), off + K.sz ≤ cs.length → xs.length = ps.length →
  (∀ (i : Nat) (t : TypeId) (o : Nat), ps[i]? = some (t, o) → DataW.trod enc P W 0 (fun _ => true) true n t ((cs.drop o).take (P.cellsOf t)) = xs[i]?) → (DataW.weightsEach P (ps.map (·.1)) (xs.map (·.1))).all (· ≤ reachBytes) = true → ∃ y, K.ro W (InW W) y ((cs.drop off).take K.sz)
end
section
variable {H : Type} {enc : TypeId × Value → H} {P : Program} {W : World}
theorem Ko.int {t : TypeId} {k : IntKind} (ht : P.underlying t = some (.int k)) : Ko enc P W t (kint k) := fun fuel cs x h _ => by
  obtain ⟨n, rfl, _, _⟩ := DataW.trod_int ht h
  exact ⟨n, rfl, trivial⟩
theorem Ko.bool {t : TypeId} (ht : P.underlying t = some .bool) : Ko enc P W t kbool := fun fuel cs x h _ => by
  obtain ⟨n, rfl, _⟩ := DataW.trod_bool ht h
  exact ⟨n, rfl, trivial⟩
theorem Ko.byte {t : TypeId} (ht : P.underlying t = some (.int .u8)) : Ko enc P W t kbyte := fun fuel cs x h _ => by
  obtain ⟨n, rfl, _, hw⟩ := DataW.trod_int ht h
  have hn : 0 ≤ n ∧ n < 256 := by
    have h1 := of_decide_eq_true (Bool.and_eq_true_iff.1 (show (decide (IntKind.min .u8 ≤ n) && decide (n ≤ IntKind.max .u8)) = true from hw)).1
    have h2 := of_decide_eq_true (Bool.and_eq_true_iff.1 (show (decide (IntKind.min .u8 ≤ n) && decide (n ≤ IntKind.max .u8)) = true from hw)).2
    have e1 : IntKind.min .u8 = 0 := by decide
    have e2 : IntKind.max .u8 = 255 := by decide
    omega
  refine ⟨UInt8.ofNat n.toNat, ?_, trivial⟩
  have : ((UInt8.ofNat n.toNat).toNat : Int) = n := by
    rw [UInt8.toNat_ofNat']; omega
  show [Value.int .u8 n] = [Value.int .u8 ((UInt8.ofNat n.toNat).toNat : Int)]
  rw [this]
theorem Ko.str {t : TypeId} (ht : P.underlying t = some .string) : Ko enc P W t kstr := fun fuel cs x h hw => by
  obtain ⟨s, rfl, rfl, _⟩ := DataW.trod_string ht h
  refine ⟨s, rfl, ?_⟩
  have h1 := List.all_eq_true.1 hw s.data.toList.length (by simp [DataW.weights])
  have h2 : s.data.toList.length ≤ 140737488351232 := of_decide_eq_true h1
  rw [Array.length_toList] at h2
  exact h2
theorem list_ofG {β : Type} {p : Nat → β → Prop} : ∀ n, (∀ j, j < n → ∃ c, p j c) → ∃ css : List β, css.length = n ∧ ∀ j c, css[j]? = some c → p j c
  | 0, _ => ⟨[], rfl, by simp⟩
  | n + 1, h => by
    obtain ⟨css, h1, h2⟩ := list_ofG n (fun j hj => h j (by omega))
    obtain ⟨c, hc⟩ := h n (by omega)
    refine ⟨css ++ [c], by simp [h1], fun j d hd => ?_⟩
    rw [List.getElem?_append] at hd
    split at hd
    · exact h2 j d hd
    · rename_i hj
      have : j - css.length = 0 := by
        have := (List.getElem?_eq_some_iff.1 hd).1
        simp at this; omega
      have e : j = n := by omega
      subst e
      rw [h1] at hd
      simp at hd
      subst hd
      exact hc
theorem weightsAll_mem {e : TypeId} : ∀ {ds : List (DataW H)} {d : DataW H}, d ∈ ds → (DataW.weightsAll P e ds).all (· ≤ reachBytes) = true → (d.weights P e).all (· ≤ reachBytes) = true
  | d0 :: ds, d, hd, h => by
    simp only [DataW.weightsAll, List.all_append, Bool.and_eq_true] at h
    rcases List.mem_cons.1 hd with rfl | hd
    · exact h.1
    · exact weightsAll_mem hd h.2
  | [], d, hd, _ => by cases hd
theorem Ko.slice {α : Type} {K : Kd α} {t e : TypeId} {by_ : Nat} (ht : P.underlying t = some (.slice e)) (hc : P.cellsOf e = K.sz) (hb : P.bytesOf e = by_) (hK : Ko enc P W e K) : Ko enc P W t (kslice e by_ K) := fun fuel cs x h hw => by
  rcases DataW.trod_slice ht h with ⟨rfl, rfl⟩ | ⟨a, len, cap, elems, rest, n, rfl, rfl, rfl, hb0, hl, hm, hlen, hel, hsp, _⟩
  · exact ⟨[], ro_nil⟩
  · simp only [DataW.weights, ht, List.all_cons, List.all_append, Bool.and_eq_true, decide_eq_true_eq, List.length_map] at hw
    obtain ⟨hw1, hw2, _⟩ := hw
    rw [hb] at hw1
    have each : ∀ j, j < len → ∃ y, ∃ ecs, K.ro W (InW W) y ecs ∧ InW W a.block ∧ ∀ i u, ecs[i]? = some u → W.cell? (a.add (j * K.sz + i)) = some u := by
      intro j hj
      have h1 := hel j hj
      rw [List.getElem?_eq_getElem (by omega), Option.bind_eq_some_iff] at h1
      obtain ⟨ecs, h2, h3⟩ := h1
      obtain ⟨y, hy⟩ := hK n ecs _ h3 (weightsAll_mem (List.mem_map.2 ⟨_, List.getElem_mem _, rfl⟩) hw2)
      obtain ⟨_, hlen2, hcells⟩ := World.cells?_some h2
      have hsz := K.ro_len hy
      have hcell : ∀ i u, ecs[i]? = some u → W.cell? (a.add (j * K.sz + i)) = some u := fun i u hu => by
        have hi : i < P.cellsOf e := by have := (List.getElem?_eq_some_iff.1 hu).1; omega
        have := hcells i hi
        rw [add_add, hc] at this
        rw [this, hu]
      refine ⟨y, ecs, hy, ?_, hcell⟩
      have hpos := K.pos
      have h0 := hcell 0 ecs[0] (List.getElem?_eq_getElem (by omega))
      unfold World.cell? at h0
      rw [add_block] at h0
      unfold InW
      cases hh : W.heap[a.block]? with
      | none => rw [hh] at h0; simp at h0
      | some b => exact (Array.getElem?_eq_some_iff.1 hh).1
    obtain ⟨xs, hxl, hxs⟩ := list_ofG len each
    refine ⟨xs, some a, cap, by rw [hxl], by rw [hxl]; exact hl, hm, ?_, fun hp => ⟨a, rfl, ?_, fun j y hy => ?_⟩⟩
    · have : xs.length * by_ ≤ (elems.length + rest.length) * by_ := Nat.mul_le_mul_right _ (by omega)
      unfold reachBytes at hw1
      omega
    · obtain ⟨ecs, _, h, _⟩ := hxs 0 _ (List.getElem?_eq_getElem hp)
      exact h
    · obtain ⟨ecs, h1, _, h2⟩ := hxs j y hy
      exact ⟨ecs, h1, h2⟩
theorem KoF.one {α : Type} {K : Kd α} {t : TypeId} {off : Nat} (hc : P.cellsOf t = K.sz) (h : Ko enc P W t K) : KoF enc P W [(t, off)] off K := fun n cs xs hl hx hf hw => by
  have h0 := hf 0 t off rfl
  rw [List.getElem?_eq_getElem (by simp at hx; omega), hc] at h0
  refine h n _ _ h0 ?_
  match xs, hx with
  | [x], _ =>
    simp only [List.map_cons, List.map_nil, DataW.weightsEach, List.append_nil] at hw
    exact hw
theorem KoF.cons {α β : Type} {A : Kd α} {B : Kd β} {t : TypeId} {ps : List (TypeId × Nat)} {off off' : Nat} (hc : P.cellsOf t = A.sz) (ho : off + A.sz = off') (h : Ko enc P W t A) (hs : KoF enc P W ps off' B) : KoF enc P W ((t, off) :: ps) off (kpair A B) := fun n cs xs hl hx hf hw => by
  subst ho
  have hsz : (kpair A B).sz = A.sz + B.sz := rfl
  match xs, hx with
  | x :: xs, hx =>
    simp only [List.map_cons, DataW.weightsEach, List.all_append, Bool.and_eq_true] at hw
    have h0 := hf 0 t off rfl
    rw [List.getElem?_cons_zero, hc] at h0
    obtain ⟨y1, hy1⟩ := h n _ _ h0 hw.1
    obtain ⟨y2, hy2⟩ := hs n cs xs (by rw [hsz] at hl; omega) (by simpa using hx) (fun i t' o' hi => by have := hf (i + 1) t' o' (by simpa using hi); simpa using this) hw.2
    refine ⟨(y1, y2), _, _, ?_, hy1, hy2⟩
    rw [hsz, List.take_add, List.drop_drop]
theorem Ko.struct {α β : Type} {K : Kd α} {t : TypeId} {fs : Array Field} {ps : List (TypeId × Nat)} {g : β → α} (ht : P.underlying t = some (.struct fs)) (hps : fs.toList.map (fun f => (f.type, f.offset)) = ps) (hc : P.cellsOf t = K.sz) (hF : KoF enc P W ps 0 K) (inv : α → β) (hg : ∀ y, g (inv y) = y) : Ko enc P W t (kiso K g) := fun fuel cs x h hw => by
  obtain ⟨xs, n, rfl, rfl, hl, hx, hf⟩ := DataW.trod_struct ht h
  subst hps
  have hw' : (DataW.weightsEach P ((fs.toList.map (fun f => (f.type, f.offset))).map (·.1)) (xs.map (·.1))).all (· ≤ reachBytes) = true := by
    simp only [DataW.weights, ht] at hw
    rw [List.map_map]
    exact hw
  obtain ⟨y, hy⟩ := hF n cs xs (by omega) (by simp [hx]) (fun i t' o hi => by
    simp only [List.getElem?_map, Option.map_eq_some_iff] at hi
    obtain ⟨f, h1, h2⟩ := hi
    obtain ⟨rfl, rfl⟩ := Prod.mk.inj h2
    exact hf i f (by simpa using h1)) hw'
  refine ⟨inv y, ?_⟩
  show K.ro W (InW W) (g (inv y)) cs
  rw [hg]
  have : (cs.drop 0).take K.sz = cs := by rw [List.drop_zero, List.take_of_length_le (by omega)]
  rwa [this] at hy
/-- An argument. -/
theorem Ko.arg {α : Type} {K : Kd α} {t : TypeId} {v : Value} {d : DataW H} {p : List MemPlace} (h : Ko enc P W t K) (hd : DataW.Trod enc P W 0 (fun _ => true) true t v d p) (hw : (d.weights P t).all (· ≤ reachBytes) = true) : ∃ y, K.ro W (FF W (fun _ => False)) y v.cells.toList := by
  obtain ⟨fuel, hf⟩ := hd
  obtain ⟨y, hy⟩ := h fuel _ (d, p) hf hw
  exact ⟨y, K.ro_up hy (fun b hb => ⟨hb, fun h => h⟩)⟩
theorem Ko.argS {α : Type} {K : Kd α} {t : TypeId} {v : Value} {d : DataW H} {p : List MemPlace} {n : Nat} (h : Ko enc P W t K) (hd : DataW.Trod enc P W 0 (fun _ => true) true t v d p) (hw : (d.weights P t).all (· ≤ reachBytes) = true) (ho : ∃ cs, v = .agg cs ∧ cs.size = n) : ∃ y cs, v = .agg (List.toArray cs) ∧ K.ro W (FF W (fun _ => False)) y cs := by
  obtain ⟨cs, rfl, _⟩ := ho
  obtain ⟨y, hy⟩ := h.arg hd hw
  exact ⟨y, cs.toList, by simp, hy⟩
theorem Ko.argV {α : Type} {K : Kd α} {t : TypeId} {v : Value} {d : DataW H} {p : List MemPlace} (h : Ko enc P W t K) (hd : DataW.Trod enc P W 0 (fun _ => true) true t v d p) (hw : (d.weights P t).all (· ≤ reachBytes) = true) (ho : ∃ A n c, v = .slice A n c) : ∃ y, K.ro W (FF W (fun _ => False)) y [v] := by
  obtain ⟨A, n, c, rfl⟩ := ho
  exact h.arg hd hw
theorem Ko.argI {t : TypeId} {k : IntKind} {v : Value} {d : DataW H} {p : List MemPlace} {r : Reach} {b0 : Nat} (ht : P.underlying t = some (.int k)) (ho : Value.okWide P W r b0 t v) (hd : DataW.Trod enc P W 0 (fun _ => true) true t v d p) : ∃ n, v = .int k n ∧ k.min ≤ n ∧ n ≤ k.max := by
  obtain ⟨n, rfl, _, _, hw⟩ := ChangeShapes.open_int ht ho hd
  have h := Bool.and_eq_true_iff.1 (show (decide (k.min ≤ n) && decide (n ≤ k.max)) = true from hw)
  exact ⟨n, rfl, of_decide_eq_true h.1, of_decide_eq_true h.2⟩
theorem Ko.argB {t : TypeId} {v : Value} {d : DataW H} {p : List MemPlace} {r : Reach} {b0 : Nat} (ht : P.underlying t = some .bool) (ho : Value.okWide P W r b0 t v) (hd : DataW.Trod enc P W 0 (fun _ => true) true t v d p) : ∃ b, v = .bool b := by
  obtain ⟨n, rfl, _⟩ := open_bool ht ho hd
  exact ⟨n, rfl⟩
theorem Ko.argT {t : TypeId} {v : Value} {d : DataW H} {p : List MemPlace} {r : Reach} {b0 : Nat} (ht : P.underlying t = some .string) (ho : Value.okWide P W r b0 t v) (hd : DataW.Trod enc P W 0 (fun _ => true) true t v d p) (hw : (d.weights P t).all (· ≤ reachBytes) = true) : ∃ s : ByteArray, v = .string s ∧ s.size ≤ 140737488351232 := by
  obtain ⟨s, rfl, rfl, _, _⟩ := ChangeMaps.open_string ht ho hd
  refine ⟨s, rfl, ?_⟩
  have h1 := List.all_eq_true.1 hw s.data.toList.length (by simp [DataW.weights])
  have h2 : s.data.toList.length ≤ 140737488351232 := of_decide_eq_true h1
  rw [Array.length_toList] at h2
  exact h2
theorem each_cons {t : TypeId} {ts : List TypeId} {d : DataW H} {ds : List (DataW H)} (h : (DataW.weightsEach P (t :: ts) (d :: ds)).all (· ≤ reachBytes) = true) : (d.weights P t).all (· ≤ reachBytes) = true ∧ (DataW.weightsEach P ts ds).all (· ≤ reachBytes) = true := by
  simp only [DataW.weightsEach, List.all_append, Bool.and_eq_true] at h
  exact h
end
/-- What a law's walk says, as its row asks. -/
theorem law_end {P : Program} {f : FuncId} {args : Array Value} {W : World} (h : Calls P f args W (TriPost W (fun _ => False) (fun r l => r = .bool true ∧ l = []))) : Calls P f args W (fun e W' => e = .returned (.bool true) ∧ Below W.heap.size W W') :=
  h.mono fun e W' ⟨r, l, he, ⟨hr, _⟩, ⟨S, _, _, hf⟩⟩ => by
    subst hr
    exact ⟨he, hf.below⟩
end Go.Proofs.Ytkmcpcahbfdohaa
/- What is proved: the disk, as plain functions on data, and when each answer comes. No condition. -/
namespace Go.Proofs.Ytkmcpcahbfdohaa
set_option linter.unusedVariables false
set_option linter.unusedSimpArgs false
def firstF {α : Type} (f : α → Int) : List α → Int
  | [] => 0
  | x :: xs => if f x = 0 then firstF f xs else f x
theorem firstF_none {α : Type} {f : α → Int} {xs : List α} (h : ∀ (j : Nat) x, xs[j]? = some x → f x = 0) : firstF f xs = 0 := by
  induction xs with
  | nil => rfl
  | cons x xs ih =>
    simp only [firstF, h 0 x rfl, if_true]
    exact ih (fun j y hy => h (j + 1) y hy)
theorem firstF_some {α : Type} {f : α → Int} : ∀ {xs : List α} {k : Nat} {x : α}, xs[k]? = some x → f x ≠ 0 → (∀ j y, j < k → xs[j]? = some y → f y = 0) → firstF f xs = f x
  | [], k, x, h, _, _ => by simp at h
  | y :: xs, 0, x, h, hn, _ => by
    simp at h; subst h
    simp only [firstF, if_neg hn]
  | y :: xs, k + 1, x, h, hn, ha => by
    simp only [firstF, ha 0 y (by omega) rfl, if_true]
    exact firstF_some (by simpa using h) hn (fun j z hj hz => ha (j + 1) z (by omega) (by simpa using hz))
def wordsFault (ws : List Int) : Int := if 64 < ws.length then 2 else if ws.any (fun w => !decide (0 ≤ w ∧ w ≤ 65535)) then 3 else 0
theorem wordsFault_2 {ws : List Int} (h : (64 : Int) < (ws.length : Int)) : wordsFault ws = 2 := by unfold wordsFault; rw [if_pos (by omega)]
theorem wordsFault_3 {ws : List Int} {k : Nat} {x : Int} (h : ¬ (64 : Int) < (ws.length : Int)) (hx : ws[k]? = some x) (hb : ¬ (0 ≤ x ∧ x ≤ 65535)) : wordsFault ws = 3 := by
  unfold wordsFault; rw [if_neg (by omega), if_pos]
  rw [List.any_eq_true]
  exact ⟨x, List.mem_of_getElem? hx, by simp only [hb, decide_false, Bool.not_false]⟩
theorem wordsFault_0 {ws : List Int} (h : ¬ (64 : Int) < (ws.length : Int)) (ha : ∀ (j : Nat) x, j < ws.length → ws[j]? = some x → 0 ≤ x ∧ x ≤ 65535) : wordsFault ws = 0 := by
  unfold wordsFault; rw [if_neg (by omega), if_neg]
  rw [List.any_eq_true]
  rintro ⟨x, hx, hb⟩
  obtain ⟨j, hj, rfl⟩ := List.mem_iff_getElem.1 hx
  have := ha j _ hj (List.getElem?_eq_getElem hj)
  simp [this] at hb
theorem wordsFault_3' {ws : List Int} (h : ¬ (64 : Int) < (ws.length : Int)) (hb : ws.any (fun w => !decide (0 ≤ w ∧ w ≤ 65535)) = true) : wordsFault ws = 3 := by
  unfold wordsFault; rw [if_neg (by omega), if_pos hb]
theorem wordsFault_0' {ws : List Int} (h : ¬ (64 : Int) < (ws.length : Int)) (hb : ws.any (fun w => !decide (0 ≤ w ∧ w ≤ 65535)) = false) : wordsFault ws = 0 := by
  unfold wordsFault; rw [if_neg (by omega), if_neg (by rw [hb]; exact Bool.false_ne_true)]
theorem idxF_any {α : Type} (p : α → Bool) (xs : List α) : decide (0 ≤ idxF p xs) = xs.any p := by
  unfold idxF
  cases h : xs.findIdx? p with
  | none =>
    have : xs.any p = false := by rw [List.any_eq_false]; intro x hx; have := List.findIdx?_eq_none_iff.1 h x hx; simp [this]
    rw [this]; rfl
  | some i =>
    have : xs.any p = true := by
      rw [List.any_eq_true]
      obtain ⟨hi, hp, _⟩ := List.findIdx?_eq_some_iff_getElem.1 h
      exact ⟨_, List.getElem_mem hi, hp⟩
    rw [this]; simp
abbrev placeIn (n : Nat) (at_ : Int) : Prop := 0 ≤ at_ ∧ at_ ≤ (n : Int) - 1
def putFault (n : Nat) (p : DPut) : Int := if placeIn n p.at_ then wordsFault p.words else 3
def diskFault (d : DDisk) : Int := if 60 < d.blocks.length ∨ 200 < d.cache.length then 2 else if firstF wordsFault d.blocks = 0 then firstF (putFault d.blocks.length) d.cache else firstF wordsFault d.blocks
theorem diskFault_2 {d : DDisk} (h : (60 : Int) < (d.blocks.length : Int)) : diskFault d = 2 := by unfold diskFault; rw [if_pos (by omega)]
theorem diskFault_2' {d : DDisk} (h : (200 : Int) < (d.cache.length : Int)) : diskFault d = 2 := by unfold diskFault; rw [if_pos (by omega)]
theorem diskFault_w {d : DDisk} {k : Nat} {x : List Int} (h : ¬ (60 : Int) < (d.blocks.length : Int)) (h' : ¬ (200 : Int) < (d.cache.length : Int)) (hx : d.blocks[k]? = some x) (hn : ¬ wordsFault x = 0) (ha : ∀ j y, j < k → d.blocks[j]? = some y → wordsFault y = 0) : diskFault d = wordsFault x := by
  unfold diskFault; rw [if_neg (by omega), firstF_some hx hn ha, if_neg hn]
theorem diskFault_p {d : DDisk} {k : Nat} {x : DPut} (h : ¬ (60 : Int) < (d.blocks.length : Int)) (h' : ¬ (200 : Int) < (d.cache.length : Int)) (hb : ∀ j y, j < d.blocks.length → d.blocks[j]? = some y → wordsFault y = 0) (hx : d.cache[k]? = some x) (hn : ¬ putFault d.blocks.length x = 0) (ha : ∀ j y, j < k → d.cache[j]? = some y → putFault d.blocks.length y = 0) : diskFault d = putFault d.blocks.length x := by
  unfold diskFault; rw [if_neg (by omega), firstF_none (fun j y hy => hb j y (List.getElem?_eq_some_iff.1 hy).1 hy), if_pos rfl, firstF_some hx hn ha]
theorem diskFault_0 {d : DDisk} (h : ¬ (60 : Int) < (d.blocks.length : Int)) (h' : ¬ (200 : Int) < (d.cache.length : Int)) (hb : ∀ j y, j < d.blocks.length → d.blocks[j]? = some y → wordsFault y = 0) (ha : ∀ j y, j < d.cache.length → d.cache[j]? = some y → putFault d.blocks.length y = 0) : diskFault d = 0 := by
  unfold diskFault; rw [if_neg (by omega), firstF_none (fun j y hy => hb j y (List.getElem?_eq_some_iff.1 hy).1 hy), if_pos rfl, firstF_none (fun j y hy => ha j y (List.getElem?_eq_some_iff.1 hy).1 hy)]
theorem putFault_3 {n : Nat} {p : DPut} (h : ¬ (0 ≤ p.at_ ∧ p.at_ ≤ (n : Int) - 1)) : putFault n p = 3 := by unfold putFault; rw [if_neg h]
theorem putFault_w {n : Nat} {p : DPut} (h : 0 ≤ p.at_ ∧ p.at_ ≤ (n : Int) - 1) : putFault n p = wordsFault p.words := by unfold putFault; rw [if_pos h]
theorem take_snoc {α : Type} {xs : List α} {k : Nat} {x : α} (h : xs[k]? = some x) : xs.take k ++ [x] = xs.take (k + 1) := by
  rw [List.take_add_one, h]; rfl
theorem diskFault_60 {d : DDisk} (h : diskFault d = 0) : d.blocks.length ≤ 60 ∧ d.cache.length ≤ 200 := by
  by_cases hc : 60 < d.blocks.length ∨ 200 < d.cache.length
  · unfold diskFault at h; rw [if_pos hc] at h; cases h
  · omega
/-! ### new disks, new kernels -/
def newDisk (n : Int) : RDisk := if 0 ≤ n ∧ n ≤ 60 then ⟨0, ⟨List.replicate n.toNat [], []⟩⟩ else ⟨3, ⟨[], []⟩⟩
theorem newDisk_ok {n : Int} (h : 0 ≤ n ∧ n ≤ 60) : newDisk n = ⟨0, ⟨List.replicate n.toNat [], []⟩⟩ := if_pos h
theorem newDisk_no {n : Int} (h : ¬ (0 ≤ n ∧ n ≤ 60)) : newDisk n = ⟨3, ⟨[], []⟩⟩ := if_neg h
def badKern (c : Int) : RKern := ⟨c, [], ⟨⟨[], []⟩, []⟩⟩
def newKern (n : Int) : RKern := if (newDisk n).code = 0 then ⟨0, [], ⟨(newDisk n).disk, []⟩⟩ else badKern (newDisk n).code
theorem newKern_ok {n : Int} (h : (newDisk n).code = 0) : newKern n = ⟨0, [], ⟨(newDisk n).disk, []⟩⟩ := if_pos h
theorem newKern_no {n : Int} (h : ¬ (newDisk n).code = 0) : newKern n = ⟨(newDisk n).code, [], ⟨⟨[], []⟩, []⟩⟩ := if_neg h
/-! ### extents -/
def isExt (n : Nat) (e : DExt) : Prop := (1 ≤ e.key ∧ e.key ≤ 9999) ∧ (0 ≤ e.frm ∧ e.frm ≤ n) ∧ (1 ≤ e.cnt ∧ e.cnt ≤ n) ∧ e.frm + e.cnt ≤ n
instance (n : Nat) (e : DExt) : Decidable (isExt n e) := by unfold isExt; infer_instance
def extsFault (n : Nat) : Int → List DExt → Int
  | _, [] => 0
  | lo, e :: es => if isExt n e then if e.frm < lo then 1 else extsFault n (e.frm + e.cnt) es else 3
def kernFault (k : DKern) : Int := if diskFault k.disk = 0 then if 8 < k.exts.length then 2 else extsFault k.disk.blocks.length 0 k.exts else diskFault k.disk
theorem kernFault_d {k : DKern} (h : ¬ diskFault k.disk = 0) : kernFault k = diskFault k.disk := if_neg h
theorem kernFault_2 {k : DKern} (h : diskFault k.disk = 0) (h2 : (8 : Int) < (k.exts.length : Int)) : kernFault k = 2 := by unfold kernFault; rw [if_pos h, if_pos (by omega)]
theorem kernFault_e {k : DKern} (h : diskFault k.disk = 0) (h2 : ¬ (8 : Int) < (k.exts.length : Int)) : kernFault k = extsFault k.disk.blocks.length 0 k.exts := by unfold kernFault; rw [if_pos h, if_neg (by omega)]
theorem extsFault_3 {n : Nat} {lo : Int} {es : List DExt} {k : Nat} {e : DExt} (he : es[k]? = some e) (h : ¬ isExt n e) : extsFault n lo (es.drop k) = 3 := by
  obtain ⟨hk, rfl⟩ := List.getElem?_eq_some_iff.1 he
  rw [List.drop_eq_getElem_cons hk, extsFault, if_neg h]
theorem extsFault_1 {n : Nat} {lo : Int} {es : List DExt} {k : Nat} {e : DExt} (he : es[k]? = some e) (h : isExt n e) (h2 : e.frm < lo) : extsFault n lo (es.drop k) = 1 := by
  obtain ⟨hk, rfl⟩ := List.getElem?_eq_some_iff.1 he
  rw [List.drop_eq_getElem_cons hk, extsFault, if_pos h, if_pos h2]
theorem extsFault_s {n : Nat} {lo : Int} {es : List DExt} {k : Nat} {e : DExt} (he : es[k]? = some e) (h : isExt n e) (h2 : ¬ e.frm < lo) : extsFault n lo (es.drop k) = extsFault n (e.frm + e.cnt) (es.drop (k + 1)) := by
  obtain ⟨hk, rfl⟩ := List.getElem?_eq_some_iff.1 he
  rw [List.drop_eq_getElem_cons hk, extsFault, if_pos h, if_neg h2]
theorem extsFault_0 {n : Nat} {lo : Int} {es : List DExt} {k : Nat} (h : es.length ≤ k) : extsFault n lo (es.drop k) = 0 := by rw [List.drop_of_length_le h]; rfl
theorem ext_at {n : Nat} {es : List DExt} {q j : Nat} {x e : DExt} (hx : es[q]? = some x) (h : isExt n x) (he : es[j]? = some e) (hj : j = q) : x.frm + x.cnt = e.frm + e.cnt ∧ isExt n e := by
  subst hj; rw [hx] at he; obtain rfl := Option.some.inj he; exact ⟨rfl, h⟩
theorem extsFault_ok {n : Nat} : ∀ {es : List DExt} {lo : Int}, extsFault n lo es = 0 → ∀ (j : Nat) e, es[j]? = some e → isExt n e
  | [], _, _, j, e, h => by simp at h
  | x :: es, lo, h, j, e, he => by
    unfold extsFault at h
    by_cases hx : isExt n x
    · rw [if_pos hx] at h
      split at h
      · cases h
      · cases j with
        | zero => simp at he; subst he; exact hx
        | succ j => exact extsFault_ok h j e (by simpa using he)
    · rw [if_neg hx] at h; cases h
theorem kernOk {k : DKern} (h : kernFault k = 0) : diskFault k.disk = 0 ∧ k.exts.length ≤ 8 ∧ (∀ (j : Nat) e, k.exts[j]? = some e → isExt k.disk.blocks.length e) ∧ k.disk.blocks.length ≤ 60 := by
  unfold kernFault at h
  by_cases hd : diskFault k.disk = 0
  · rw [if_pos hd] at h
    split at h
    · cases h
    · exact ⟨hd, by omega, extsFault_ok h, (diskFault_60 hd).1⟩
  · rw [if_neg hd] at h; exact absurd h hd
/-! ### owners -/
abbrev owns (a : Int) (e : DExt) : Prop := e.frm ≤ a ∧ a ≤ e.frm + e.cnt - 1
def ownKey (a : Int) (es : List DExt) : Int := match es.find? (fun e => decide (owns a e)) with | some e => e.key | none => 0
theorem ownKey_some {a : Int} {es : List DExt} {k : Nat} {e : DExt} (he : es[k]? = some e) (h : owns a e) (ha : ∀ j x, j < k → es[j]? = some x → ¬ owns a x) : ownKey a es = e.key := by
  have : es.find? (fun e => decide (owns a e)) = some e := by
    obtain ⟨hk, rfl⟩ := List.getElem?_eq_some_iff.1 he
    rw [List.find?_eq_some_iff_getElem]
    exact ⟨decide_eq_true h, k, hk, rfl, fun j hj => by simp only [Bool.not_eq_true', decide_eq_false_iff_not]; exact ha j _ hj (List.getElem?_eq_getElem (by omega))⟩
  unfold ownKey; rw [this]
theorem ownKey_none {a : Int} {es : List DExt} (ha : ∀ (j : Nat) x, es[j]? = some x → ¬ owns a x) : ownKey a es = 0 := by
  have : es.find? (fun e => decide (owns a e)) = none := by
    rw [List.find?_eq_none]
    intro x hx
    obtain ⟨j, hj, rfl⟩ := List.mem_iff_getElem.1 hx
    simp only [decide_eq_true_eq]
    exact ha j _ (List.getElem?_eq_getElem hj)
  unfold ownKey; rw [this]
def ownerOf (k : DKern) (a : Int) : RInt := if kernFault k = 0 then if placeIn k.disk.blocks.length a then if ownKey a k.exts = 0 then ⟨4, 0⟩ else ⟨0, ownKey a k.exts⟩ else ⟨3, 0⟩ else ⟨kernFault k, 0⟩
theorem ownerOf_f {k : DKern} {a : Int} (h : ¬ kernFault k = 0) : ownerOf k a = ⟨kernFault k, 0⟩ := if_neg h
theorem ownerOf_3 {k : DKern} {a : Int} (h : kernFault k = 0) (h2 : ¬ placeIn k.disk.blocks.length a) : ownerOf k a = ⟨3, 0⟩ := by unfold ownerOf; rw [if_pos h, if_neg h2]
theorem ownerOf_4 {k : DKern} {a : Int} (h : kernFault k = 0) (h2 : placeIn k.disk.blocks.length a) (h3 : ownKey a k.exts = 0) : ownerOf k a = ⟨4, 0⟩ := by unfold ownerOf; rw [if_pos h, if_pos h2, if_pos h3]
theorem ownerOf_0 {k : DKern} {a : Int} (h : kernFault k = 0) (h2 : placeIn k.disk.blocks.length a) (h3 : ¬ ownKey a k.exts = 0) : ownerOf k a = ⟨0, ownKey a k.exts⟩ := by unfold ownerOf; rw [if_pos h, if_pos h2, if_neg h3]
theorem ownerOf_hit {k : DKern} {a : Int} {q : Nat} {e : DExt} (h : kernFault k = 0) (h2 : placeIn k.disk.blocks.length a) (he : k.exts[q]? = some e) (ho : owns a e) (ha : ∀ j x, j < q → k.exts[j]? = some x → ¬ owns a x) : ownerOf k a = ⟨0, e.key⟩ := by
  have hk := ownKey_some he ho ha
  have hx : isExt _ e := (kernOk h).2.2.1 q e he
  unfold isExt at hx
  rw [ownerOf_0 h h2 (by rw [hk]; omega), hk]
theorem ownerOf_none {k : DKern} {a : Int} {q : Nat} (h : kernFault k = 0) (h2 : placeIn k.disk.blocks.length a) (hq : k.exts.length ≤ q) (ha : ∀ j x, j < q → k.exts[j]? = some x → ¬ owns a x) : ownerOf k a = ⟨4, 0⟩ :=
  ownerOf_4 h h2 (ownKey_none fun j x hx => ha j x (by have := (List.getElem?_eq_some_iff.1 hx).1; omega) hx)
/-! ### puts -/
def keepN (all : Bool) (ks : List Bool) (ps : List DPut) (bs : List (List Int)) : Nat → List (List Int)
  | 0 => bs
  | k + 1 => match ps[k]? with
    | some p => if all || ks.getD k false then (keepN all ks ps bs k).set p.at_.toNat p.words else keepN all ks ps bs k
    | none => keepN all ks ps bs k
theorem keepN_len {all : Bool} {ks : List Bool} {ps : List DPut} {bs : List (List Int)} : ∀ k, (keepN all ks ps bs k).length = bs.length
  | 0 => rfl
  | k + 1 => by
    unfold keepN
    split
    · split
      · rw [List.length_set, keepN_len k]
      · exact keepN_len k
    · exact keepN_len k
theorem keepN_on {all : Bool} {ks : List Bool} {ps : List DPut} {bs : List (List Int)} {k : Nat} {p : DPut} (hp : ps[k]? = some p) (h : (all || ks.getD k false) = true) : (keepN all ks ps bs k).set p.at_.toNat p.words = keepN all ks ps bs (k + 1) := by
  conv => rhs; unfold keepN
  simp only [hp, h, if_true]
theorem keepN_off {all : Bool} {ks : List Bool} {ps : List DPut} {bs : List (List Int)} {k : Nat} {p : DPut} (hp : ps[k]? = some p) (h : (all || ks.getD k false) = false) : keepN all ks ps bs k = keepN all ks ps bs (k + 1) := by
  conv => rhs; unfold keepN
  simp only [hp, h, Bool.false_eq_true, if_false]
theorem firstF_all {α : Type} {f : α → Int} : ∀ {xs : List α}, firstF f xs = 0 → ∀ x, x ∈ xs → f x = 0
  | [], _, x, hx => by cases hx
  | y :: xs, h, x, hx => by
    unfold firstF at h
    by_cases hy : f y = 0
    · rw [if_pos hy] at h
      rcases List.mem_cons.1 hx with rfl | hx
      · exact hy
      · exact firstF_all h x hx
    · rw [if_neg hy] at h; exact absurd h hy
theorem diskOk {d : DDisk} (h : diskFault d = 0) : d.blocks.length ≤ 60 ∧ d.cache.length ≤ 200 ∧ (∀ b, b ∈ d.blocks → wordsFault b = 0) ∧ ∀ p, p ∈ d.cache → placeIn d.blocks.length p.at_ ∧ wordsFault p.words = 0 := by
  have h1 := diskFault_60 h
  unfold diskFault at h
  rw [if_neg (by omega)] at h
  by_cases hb : firstF wordsFault d.blocks = 0
  · rw [if_pos hb] at h
    refine ⟨h1.1, h1.2, firstF_all hb, fun p hp => ?_⟩
    have := firstF_all h p hp
    unfold putFault at this
    by_cases hpl : placeIn d.blocks.length p.at_
    · rw [if_pos hpl] at this; exact ⟨hpl, this⟩
    · rw [if_neg hpl] at this; cases this
  · rw [if_neg hb] at h; exact absurd h hb
theorem words_64 {ws : List Int} (h : wordsFault ws = 0) : ws.length ≤ 64 := by
  by_cases hc : 64 < ws.length
  · unfold wordsFault at h; rw [if_pos hc] at h; cases h
  · omega
theorem putAt_ok {d : DDisk} (h : diskFault d = 0) {k : Nat} {p : DPut} (hp : d.cache[k]? = some p) : 0 ≤ p.at_ ∧ p.at_ ≤ (d.blocks.length : Int) - 1 := ((diskOk h).2.2.2 p (List.mem_of_getElem? hp)).1
def badDisk (c : Int) : RDisk := ⟨c, ⟨[], []⟩⟩
def putBlock (d : DDisk) (a : Int) (ws : List Int) : RDisk :=
  if diskFault d = 0 then if placeIn d.blocks.length a then if wordsFault ws = 0 then if 200 ≤ d.cache.length then badDisk 2 else ⟨0, ⟨d.blocks, d.cache ++ [⟨a, ws⟩]⟩⟩ else badDisk (wordsFault ws) else badDisk 3 else badDisk (diskFault d)
def flushDisk (d : DDisk) : RDisk := if diskFault d = 0 then ⟨0, ⟨keepN true [] d.cache d.blocks d.cache.length, []⟩⟩ else badDisk (diskFault d)
def crashDisk (d : DDisk) (ks : List Bool) : RDisk := if diskFault d = 0 then ⟨0, ⟨keepN false ks d.cache d.blocks d.cache.length, []⟩⟩ else badDisk (diskFault d)
theorem putBlock_f {d : DDisk} {a : Int} {ws : List Int} (h : ¬ diskFault d = 0) : putBlock d a ws = badDisk (diskFault d) := if_neg h
theorem putBlock_3 {d : DDisk} {a : Int} {ws : List Int} (h : diskFault d = 0) (h2 : ¬ placeIn d.blocks.length a) : putBlock d a ws = badDisk 3 := by unfold putBlock; rw [if_pos h, if_neg h2]
theorem putBlock_w {d : DDisk} {a : Int} {ws : List Int} (h : diskFault d = 0) (h2 : placeIn d.blocks.length a) (h3 : ¬ wordsFault ws = 0) : putBlock d a ws = badDisk (wordsFault ws) := by unfold putBlock; rw [if_pos h, if_pos h2, if_neg h3]
theorem putBlock_2 {d : DDisk} {a : Int} {ws : List Int} (h : diskFault d = 0) (h2 : placeIn d.blocks.length a) (h3 : wordsFault ws = 0) (h4 : 200 ≤ d.cache.length) : putBlock d a ws = badDisk 2 := by unfold putBlock; rw [if_pos h, if_pos h2, if_pos h3, if_pos h4]
theorem putBlock_0 {d : DDisk} {a : Int} {ws : List Int} (h : diskFault d = 0) (h2 : placeIn d.blocks.length a) (h3 : wordsFault ws = 0) (h4 : ¬ 200 ≤ d.cache.length) : putBlock d a ws = ⟨0, ⟨d.blocks, d.cache ++ [⟨a, ws⟩]⟩⟩ := by unfold putBlock; rw [if_pos h, if_pos h2, if_pos h3, if_neg h4]
def blockFault (d : DDisk) (a : Int) : Int := if diskFault d = 0 then if placeIn d.blocks.length a then 0 else 3 else diskFault d
theorem blockFault_f {d : DDisk} {a : Int} (h : ¬ diskFault d = 0) : blockFault d a = diskFault d := if_neg h
theorem blockFault_3 {d : DDisk} {a : Int} (h : diskFault d = 0) (h2 : ¬ placeIn d.blocks.length a) : blockFault d a = 3 := by unfold blockFault; rw [if_pos h, if_neg h2]
theorem blockFault_0 {d : DDisk} {a : Int} (h : diskFault d = 0) (h2 : placeIn d.blocks.length a) : blockFault d a = 0 := by unfold blockFault; rw [if_pos h, if_pos h2]
theorem blockFault_ok {d : DDisk} {a : Int} (h : blockFault d a = 0) : diskFault d = 0 ∧ placeIn d.blocks.length a := by
  unfold blockFault at h
  by_cases h1 : diskFault d = 0
  · rw [if_pos h1] at h
    by_cases h2 : placeIn d.blocks.length a
    · exact ⟨h1, h2⟩
    · rw [if_neg h2] at h; cases h
  · rw [if_neg h1] at h; exact absurd h h1
theorem putBlock_b {d : DDisk} {a : Int} {ws : List Int} (h : ¬ blockFault d a = 0) : putBlock d a ws = badDisk (blockFault d a) := by
  by_cases h1 : diskFault d = 0
  · by_cases h2 : placeIn d.blocks.length a
    · exact absurd (blockFault_0 h1 h2) h
    · rw [putBlock_3 h1 h2, blockFault_3 h1 h2]
  · rw [putBlock_f h1, blockFault_f h1]
theorem flushDisk_f {d : DDisk} (h : ¬ diskFault d = 0) : flushDisk d = badDisk (diskFault d) := if_neg h
theorem flushDisk_0 {d : DDisk} (h : diskFault d = 0) : flushDisk d = ⟨0, ⟨keepN true [] d.cache d.blocks d.cache.length, []⟩⟩ := if_pos h
theorem crashDisk_f {d : DDisk} {ks : List Bool} (h : ¬ diskFault d = 0) : crashDisk d ks = badDisk (diskFault d) := if_neg h
theorem crashDisk_0 {d : DDisk} {ks : List Bool} (h : diskFault d = 0) : crashDisk d ks = ⟨0, ⟨keepN false ks d.cache d.blocks d.cache.length, []⟩⟩ := if_pos h
theorem getD_out {ks : List Bool} {k : Nat} (h : ¬ (k : Int) < (ks.length : Int)) : ks.getD k false = false := by
  rw [List.getD_eq_getElem?_getD, List.getElem?_eq_none (by omega)]; rfl
theorem getD_in {ks : List Bool} {k : Nat} {b : Bool} (h : ks[k]? = some b) : ks.getD k false = b := by
  rw [List.getD_eq_getElem?_getD, h]; rfl
theorem keepN_nil {ps : List DPut} {bs : List (List Int)} {ks : List Bool} {all : Bool} : bs = keepN all ks ps bs 0 := rfl
theorem keepN_64 {all : Bool} {ks : List Bool} {ps : List DPut} {bs : List (List Int)} (hb : ∀ b, b ∈ bs → b.length ≤ 64) (hp : ∀ p, p ∈ ps → p.words.length ≤ 64) : ∀ k b, b ∈ keepN all ks ps bs k → b.length ≤ 64
  | 0, b, h => hb b h
  | k + 1, b, h => by
    unfold keepN at h
    split at h
    · rename_i p hpk
      split at h
      · rcases List.mem_or_eq_of_mem_set h with h | rfl
        · exact keepN_64 hb hp k b h
        · exact hp p (List.mem_of_getElem? hpk)
      · exact keepN_64 hb hp k b h
    · exact keepN_64 hb hp k b h
def hasKey (key : Int) (es : List DExt) : Bool := es.any (fun e => decide (e.key = key))
theorem hasKey_some {key : Int} {es : List DExt} {q : Nat} {e : DExt} (he : es[q]? = some e) (h : e.key = key) : hasKey key es = true := by
  unfold hasKey; rw [List.any_eq_true]; exact ⟨e, List.mem_of_getElem? he, decide_eq_true h⟩
theorem hasKey_none {key : Int} {es : List DExt} {q : Nat} (hq : es.length ≤ q) (h : ∀ j e, j < q → es[j]? = some e → ¬ e.key = key) : hasKey key es = false := by
  unfold hasKey; rw [List.any_eq_false]
  intro e he
  obtain ⟨j, hj, rfl⟩ := List.mem_iff_getElem.1 he
  simp only [decide_eq_true_eq]
  exact h j _ (by omega) (List.getElem?_eq_getElem hj)
theorem hasKey_not {key : Int} {es : List DExt} (h : (!es.any fun x => decide (x.key = key)) = true) : hasKey key es = false := by unfold hasKey; simpa using h
theorem hasKey_yes {key : Int} {es : List DExt} (h : (!es.any fun x => decide (x.key = key)) = false) : hasKey key es = true := by unfold hasKey; simpa using h
def flushKern (k : DKern) (key : Int) : RKern := if kernFault k = 0 then if hasKey key k.exts = true then ⟨0, [], ⟨⟨keepN true [] k.disk.cache k.disk.blocks k.disk.cache.length, []⟩, k.exts⟩⟩ else badKern 6 else badKern (kernFault k)
theorem flushKern_f {k : DKern} {key : Int} (h : ¬ kernFault k = 0) : flushKern k key = badKern (kernFault k) := if_neg h
theorem flushKern_6 {k : DKern} {key : Int} (h : kernFault k = 0) (h2 : hasKey key k.exts = false) : flushKern k key = badKern 6 := by unfold flushKern; rw [if_pos h, if_neg (by rw [h2]; exact Bool.false_ne_true)]
theorem flushKern_0 {k : DKern} {key : Int} (h : kernFault k = 0) (h2 : hasKey key k.exts = true) : flushKern k key = ⟨0, [], ⟨⟨keepN true [] k.disk.cache k.disk.blocks k.disk.cache.length, []⟩, k.exts⟩⟩ := by unfold flushKern; rw [if_pos h, if_pos h2]
/-! ### writing by a key -/
def mayFault (k : DKern) (key a : Int) : Int := if (ownerOf k a).code = 0 then if (ownerOf k a).val = key then 0 else 6 else (ownerOf k a).code
theorem mayFault_n {k : DKern} {key a : Int} (h : ¬ (ownerOf k a).code = 0) : mayFault k key a = (ownerOf k a).code := if_neg h
theorem mayFault_6 {k : DKern} {key a : Int} (h : (ownerOf k a).code = 0) (h2 : ¬ (ownerOf k a).val = key) : mayFault k key a = 6 := by unfold mayFault; rw [if_pos h, if_neg h2]
theorem mayFault_0 {k : DKern} {key a : Int} (h : (ownerOf k a).code = 0) (h2 : (ownerOf k a).val = key) : mayFault k key a = 0 := by unfold mayFault; rw [if_pos h, if_pos h2]
theorem mayFault_k {k : DKern} {key a : Int} (h : (ownerOf k a).code = 0) (h2 : (ownerOf k a).val = key) : mayFault k key a = (ownerOf k a).code := by rw [mayFault_0 h h2, h]
def writeKern (k : DKern) (key a : Int) (ws : List Int) : RKern := if mayFault k key a = 0 then if (putBlock k.disk a ws).code = 0 then ⟨0, [], ⟨(putBlock k.disk a ws).disk, k.exts⟩⟩ else badKern (putBlock k.disk a ws).code else badKern (mayFault k key a)
theorem writeKern_f {k : DKern} {key a : Int} {ws : List Int} (h : ¬ mayFault k key a = 0) : writeKern k key a ws = badKern (mayFault k key a) := if_neg h
theorem writeKern_p {k : DKern} {key a : Int} {ws : List Int} (h : mayFault k key a = 0) (h2 : ¬ (putBlock k.disk a ws).code = 0) : writeKern k key a ws = badKern (putBlock k.disk a ws).code := by unfold writeKern; rw [if_pos h, if_neg h2]
theorem writeKern_0 {k : DKern} {key a : Int} {ws : List Int} (h : mayFault k key a = 0) (h2 : (putBlock k.disk a ws).code = 0) : writeKern k key a ws = ⟨0, [], ⟨(putBlock k.disk a ws).disk, k.exts⟩⟩ := by unfold writeKern; rw [if_pos h, if_pos h2]
/-! ### revoking -/
def findFrm (a : Int) (es : List DExt) : Option Nat := es.findIdx? (fun e => decide (e.frm = a))
def revoke (k : DKern) (a key : Int) : RKern :=
  if kernFault k = 0 then match findFrm a k.exts with
    | none => badKern 4
    | some i => match k.exts[i]? with
      | some e => if e.key = key then ⟨0, [], ⟨k.disk, k.exts.eraseIdx i⟩⟩ else badKern 6
      | none => badKern 4
  else badKern (kernFault k)
theorem findFrm_some {a : Int} {es : List DExt} {q : Nat} {e : DExt} (he : es[q]? = some e) (h : e.frm = a) (ha : ∀ j x, j < q → es[j]? = some x → ¬ x.frm = a) : findFrm a es = some q := by
  obtain ⟨hk, rfl⟩ := List.getElem?_eq_some_iff.1 he
  unfold findFrm
  rw [List.findIdx?_eq_some_iff_getElem]
  exact ⟨hk, decide_eq_true h, fun j hj => by simp only [decide_eq_true_eq]; exact ha j _ hj (List.getElem?_eq_getElem (by omega))⟩
theorem findFrm_none {a : Int} {es : List DExt} {q : Nat} (hq : es.length ≤ q) (ha : ∀ j x, j < q → es[j]? = some x → ¬ x.frm = a) : findFrm a es = none := by
  unfold findFrm
  rw [List.findIdx?_eq_none_iff]
  intro x hx
  obtain ⟨j, hj, rfl⟩ := List.mem_iff_getElem.1 hx
  simp only [decide_eq_false_iff_not]
  exact ha j _ (by omega) (List.getElem?_eq_getElem hj)
theorem revoke_f {k : DKern} {a key : Int} (h : ¬ kernFault k = 0) : revoke k a key = badKern (kernFault k) := if_neg h
theorem revoke_4 {k : DKern} {a key : Int} (h : kernFault k = 0) (h2 : findFrm a k.exts = none) : revoke k a key = badKern 4 := by unfold revoke; rw [if_pos h, h2]
theorem revoke_6 {k : DKern} {a key : Int} {i : Nat} {e : DExt} (h : kernFault k = 0) (h2 : findFrm a k.exts = some i) (he : k.exts[i]? = some e) (hk : ¬ e.key = key) : revoke k a key = badKern 6 := by unfold revoke; rw [if_pos h, h2]; simp only [he, if_neg hk]
theorem revoke_0 {k : DKern} {a key : Int} {i : Nat} {e : DExt} (h : kernFault k = 0) (h2 : findFrm a k.exts = some i) (he : k.exts[i]? = some e) (hk : e.key = key) : revoke k a key = ⟨0, [], ⟨k.disk, k.exts.eraseIdx i⟩⟩ := by unfold revoke; rw [if_pos h, h2]; simp only [he, if_pos hk]
theorem idx_frm {a : Int} {es : List DExt} (h : ¬ idxF (fun e => decide (e.frm = a)) es < 0) : ∃ i e, idxF (fun e => decide (e.frm = a)) es = ((i : Nat) : Int) ∧ findFrm a es = some i ∧ es[i]? = some e ∧ i < es.length := by
  unfold idxF at h ⊢
  cases hf : es.findIdx? (fun e => decide (e.frm = a)) with
  | none => rw [hf] at h; exact absurd (by decide : (-1 : Int) < 0) h
  | some i =>
    obtain ⟨hi, _, _⟩ := List.findIdx?_eq_some_iff_getElem.1 hf
    exact ⟨i, es[i], rfl, hf, List.getElem?_eq_getElem hi, hi⟩
theorem idx_none {a : Int} {es : List DExt} (h : idxF (fun e => decide (e.frm = a)) es < 0) : findFrm a es = none := by
  unfold idxF at h
  unfold findFrm
  cases hf : es.findIdx? (fun e => decide (e.frm = a)) with
  | none => rfl
  | some i => rw [hf] at h; simp only at h; omega
end Go.Proofs.Ytkmcpcahbfdohaa
/- What is proved: nothing: weights and marks of the data types. No condition. -/
namespace Go.Proofs.Ytkmcpcahbfdohaa
set_option linter.unusedVariables false
def wt_DPut (x : DPut) : Nat := 0 + x.words.length
def cnt_DPut (x : DPut) : Nat := 1 + x.words.length
def mark_DPut (n : Int) (x : DPut) : DPut := ⟨n, ((markL (fun _ => 1) (fun m _ => m)) (n + 1) x.words)⟩
def vcnt_DPut (x : DPut) : Nat := 0 + x.words.length
def vmark_DPut (n : Int) (x : DPut) : DPut := ⟨x.at_, ((markL (fun _ => 1) (fun m _ => m)) n x.words)⟩
def wt_DDisk (x : DDisk) : Nat := (x.blocks.length + sumF (fun x => x.length) x.blocks) + (x.cache.length + sumF wt_DPut x.cache)
def cnt_DDisk (x : DDisk) : Nat := (sumF (fun x => x.length) x.blocks) + (sumF cnt_DPut x.cache)
def mark_DDisk (n : Int) (x : DDisk) : DDisk := ⟨((markL (fun x => x.length) (markL (fun _ => 1) (fun m _ => m))) n x.blocks), ((markL cnt_DPut mark_DPut) (n + ((sumF (fun x => x.length) x.blocks) : Int)) x.cache)⟩
def vcnt_DDisk (x : DDisk) : Nat := (sumF (fun x => x.length) x.blocks) + (sumF cnt_DPut x.cache)
def vmark_DDisk (n : Int) (x : DDisk) : DDisk := ⟨((markL (fun x => x.length) (markL (fun _ => 1) (fun m _ => m))) n x.blocks), ((markL cnt_DPut mark_DPut) (n + ((sumF (fun x => x.length) x.blocks) : Int)) x.cache)⟩
def wt_RDisk (x : RDisk) : Nat := 0 + (wt_DDisk x.disk)
def cnt_RDisk (x : RDisk) : Nat := 1 + (cnt_DDisk x.disk)
def mark_RDisk (n : Int) (x : RDisk) : RDisk := ⟨n, (mark_DDisk (n + 1) x.disk)⟩
def vcnt_RDisk (x : RDisk) : Nat := 0 + (vcnt_DDisk x.disk)
def vmark_RDisk (n : Int) (x : RDisk) : RDisk := ⟨x.code, (vmark_DDisk n x.disk)⟩
def wt_DExt (x : DExt) : Nat := 0 + 0 + 0
def cnt_DExt (x : DExt) : Nat := 1 + 1 + 1
def mark_DExt (n : Int) (x : DExt) : DExt := ⟨n, (n + 1), (n + 1 + 1)⟩
def vcnt_DExt (x : DExt) : Nat := 0 + 0 + 0
def vmark_DExt (n : Int) (x : DExt) : DExt := ⟨x.frm, x.cnt, x.key⟩
def wt_DKern (x : DKern) : Nat := (wt_DDisk x.disk) + x.exts.length
def cnt_DKern (x : DKern) : Nat := (cnt_DDisk x.disk) + (sumF cnt_DExt x.exts)
def mark_DKern (n : Int) (x : DKern) : DKern := ⟨(mark_DDisk n x.disk), ((markL cnt_DExt mark_DExt) (n + ((cnt_DDisk x.disk) : Int)) x.exts)⟩
def vcnt_DKern (x : DKern) : Nat := (vcnt_DDisk x.disk) + (sumF cnt_DExt x.exts)
def vmark_DKern (n : Int) (x : DKern) : DKern := ⟨(vmark_DDisk n x.disk), ((markL cnt_DExt mark_DExt) (n + ((vcnt_DDisk x.disk) : Int)) x.exts)⟩
def wt_RKern (x : RKern) : Nat := 0 + x.words.length + (wt_DKern x.kern)
def cnt_RKern (x : RKern) : Nat := 1 + x.words.length + (cnt_DKern x.kern)
def mark_RKern (n : Int) (x : RKern) : RKern := ⟨n, ((markL (fun _ => 1) (fun m _ => m)) (n + 1) x.words), (mark_DKern (n + 1 + (x.words.length : Int)) x.kern)⟩
def vcnt_RKern (x : RKern) : Nat := 0 + x.words.length + (vcnt_DKern x.kern)
def vmark_RKern (n : Int) (x : RKern) : RKern := ⟨x.code, ((markL (fun _ => 1) (fun m _ => m)) n x.words), (vmark_DKern (n + (x.words.length : Int)) x.kern)⟩
def wt_RInts (x : RInts) : Nat := 0 + x.list.length
def cnt_RInts (x : RInts) : Nat := 1 + x.list.length
def mark_RInts (n : Int) (x : RInts) : RInts := ⟨n, ((markL (fun _ => 1) (fun m _ => m)) (n + 1) x.list)⟩
def vcnt_RInts (x : RInts) : Nat := 0 + x.list.length
def vmark_RInts (n : Int) (x : RInts) : RInts := ⟨x.code, ((markL (fun _ => 1) (fun m _ => m)) n x.list)⟩
def wt_RInt (x : RInt) : Nat := 0 + 0
def cnt_RInt (x : RInt) : Nat := 1 + 1
def mark_RInt (n : Int) (x : RInt) : RInt := ⟨n, (n + 1)⟩
def vcnt_RInt (x : RInt) : Nat := 0 + 0
def vmark_RInt (n : Int) (x : RInt) : RInt := ⟨x.code, x.val⟩
def wt_DSrc (x : DSrc) : Nat := x.code.length + 0
def cnt_DSrc (x : DSrc) : Nat := x.code.length + 1
def mark_DSrc (n : Int) (x : DSrc) : DSrc := ⟨((markL (fun _ => 1) (fun m _ => mbyte m)) n x.code), (n + (x.code.length : Int))⟩
def vcnt_DSrc (x : DSrc) : Nat := x.code.length + 0
def vmark_DSrc (n : Int) (x : DSrc) : DSrc := ⟨((markL (fun _ => 1) (fun m _ => mbyte m)) n x.code), x.at_⟩
end Go.Proofs.Ytkmcpcahbfdohaa
/- What is proved: how many cells the results have at most. No condition. -/
namespace Go.Proofs.Ytkmcpcahbfdohaa
set_option linter.unusedVariables false
set_option linter.unusedSimpArgs false
theorem sumF_rep {α : Type} (f : α → Nat) (x : α) : ∀ n, sumF f (List.replicate n x) = n * f x
  | 0 => by simp [sumF]
  | n + 1 => by rw [List.replicate_succ, sumF, sumF_rep f x n, Nat.succ_mul]; omega
theorem newDisk_cnt (n : Int) : vcnt_RDisk (newDisk n) ≤ 1048576 := by
  unfold newDisk
  split <;> simp [vcnt_RDisk, vcnt_DDisk, sumF, sumF_rep]
theorem newKern_cnt (n : Int) : vcnt_RKern (newKern n) ≤ 1048577 := by
  have h := newDisk_cnt n
  unfold vcnt_RDisk at h
  unfold newKern
  split <;> simp [vcnt_RKern, vcnt_DKern, vcnt_DDisk, sumF, badKern] at h ⊢ <;> omega
theorem sumF_bound {α : Type} {f : α → Nat} {B : Nat} : ∀ {xs : List α}, (∀ x, x ∈ xs → f x ≤ B) → sumF f xs ≤ xs.length * B
  | [], _ => by simp [sumF]
  | x :: xs, h => by
    have h1 := h x List.mem_cons_self
    have h2 := sumF_bound (xs := xs) (fun y hy => h y (List.mem_cons_of_mem _ hy))
    simp only [sumF, List.length_cons, Nat.succ_mul]; omega
theorem sumF_addf {α : Type} {f g : α → Nat} (h : ∀ x, f x = 1 + g x) : ∀ xs : List α, sumF f xs = xs.length + sumF g xs
  | [] => rfl
  | x :: xs => by simp only [sumF, List.length_cons, sumF_addf h xs, h x]; omega
theorem disk_cnt_wt (d : DDisk) : vcnt_DDisk d ≤ wt_DDisk d := by
  have h := sumF_addf (f := cnt_DPut) (g := wt_DPut) (fun x => by simp only [cnt_DPut, wt_DPut]; omega) d.cache
  simp only [vcnt_DDisk, wt_DDisk]; omega
theorem blocks_cnt {bs : List (List Int)} (h1 : bs.length ≤ 60) (h2 : ∀ b, b ∈ bs → b.length ≤ 64) : sumF (fun x => x.length) bs ≤ 4000 := by
  have := sumF_bound (f := fun x : List Int => x.length) h2
  have h3 : bs.length * 64 ≤ 60 * 64 := Nat.mul_le_mul_right _ h1
  omega
theorem puts_cnt {ps : List DPut} (h1 : ps.length ≤ 200) (h2 : ∀ p, p ∈ ps → p.words.length ≤ 64) : sumF cnt_DPut ps ≤ 13000 := by
  have := sumF_bound (f := cnt_DPut) (B := 65) (xs := ps) (fun p hp => by have := h2 p hp; simp only [cnt_DPut]; omega)
  have h3 : ps.length * 65 ≤ 200 * 65 := Nat.mul_le_mul_right _ h1
  omega
theorem badDisk_cnt (c : Int) : vcnt_RDisk (badDisk c) = 0 := by simp [vcnt_RDisk, vcnt_DDisk, badDisk, sumF]
theorem putBlock_cnt (d : DDisk) (a : Int) (ws : List Int) : vcnt_RDisk (putBlock d a ws) ≤ 1048576 := by
  unfold putBlock
  split
  · rename_i hd
    obtain ⟨h1, h2, h3, h4⟩ := diskOk hd
    split
    · split
      · rename_i hw
        split
        · rw [badDisk_cnt]; omega
        · have e1 := blocks_cnt h1 (fun b hb => words_64 (h3 b hb))
          have e2 := puts_cnt h2 (fun p hp => words_64 (h4 p hp).2)
          have e3 := words_64 hw
          simp only [vcnt_RDisk, vcnt_DDisk, sumF_snoc]
          have : cnt_DPut ⟨a, ws⟩ = 1 + ws.length := rfl
          omega
      · rw [badDisk_cnt]; omega
    · rw [badDisk_cnt]; omega
  · rw [badDisk_cnt]; omega
theorem kept_cnt {d : DDisk} (h : diskFault d = 0) (all : Bool) (ks : List Bool) : sumF (fun x => x.length) (keepN all ks d.cache d.blocks d.cache.length) ≤ 4000 := by
  obtain ⟨h1, h2, h3, h4⟩ := diskOk h
  exact blocks_cnt (by rw [keepN_len]; exact h1) (keepN_64 (fun b hb => words_64 (h3 b hb)) (fun p hp => words_64 (h4 p hp).2) _)
theorem flushDisk_cnt (d : DDisk) : vcnt_RDisk (flushDisk d) ≤ 1048576 := by
  by_cases h : diskFault d = 0
  · have := kept_cnt h true []
    rw [flushDisk_0 h]; simp only [vcnt_RDisk, vcnt_DDisk, sumF]; omega
  · rw [flushDisk_f h, badDisk_cnt]; omega
theorem crashDisk_cnt (d : DDisk) (ks : List Bool) : vcnt_RDisk (crashDisk d ks) ≤ 1048576 := by
  by_cases h : diskFault d = 0
  · have := kept_cnt h false ks
    rw [crashDisk_0 h]; simp only [vcnt_RDisk, vcnt_DDisk, sumF]; omega
  · rw [crashDisk_f h, badDisk_cnt]; omega
theorem badKern_cnt (c : Int) : vcnt_RKern (badKern c) = 0 := by simp [vcnt_RKern, vcnt_DKern, vcnt_DDisk, badKern, sumF]
theorem exts_cnt {es : List DExt} (h : es.length ≤ 9) : sumF cnt_DExt es ≤ 27 := by
  have := sumF_bound (f := cnt_DExt) (B := 3) (xs := es) (fun p _ => by simp [cnt_DExt])
  omega
theorem kern_cnt_wt (k : DKern) : vcnt_DKern k ≤ 3 * wt_DKern k := by
  have h := disk_cnt_wt k.disk
  have := sumF_bound (f := cnt_DExt) (B := 3) (xs := k.exts) (fun p _ => by simp [cnt_DExt])
  simp only [vcnt_DKern, wt_DKern]; omega
theorem flushKern_cnt (k : DKern) (key : Int) : vcnt_RKern (flushKern k key) ≤ 1048576 := by
  by_cases h : kernFault k = 0
  · obtain ⟨hd, h8, _, _⟩ := kernOk h
    cases hh : hasKey key k.exts with
    | true =>
      have h1 := kept_cnt hd true []
      have h2 := exts_cnt (es := k.exts) (by omega)
      rw [flushKern_0 h hh]; simp only [vcnt_RKern, vcnt_DKern, vcnt_DDisk, sumF, List.length_nil]; omega
    | false => rw [flushKern_6 h hh, badKern_cnt]; omega
  · rw [flushKern_f h, badKern_cnt]; omega
theorem exts_cnt_wt (k : DKern) : sumF cnt_DExt k.exts ≤ 3 * wt_DKern k := by
  have := sumF_bound (f := cnt_DExt) (B := 3) (xs := k.exts) (fun p _ => by simp [cnt_DExt])
  simp only [wt_DKern]; omega
theorem writeKern_cnt (k : DKern) (key a : Int) (ws : List Int) : vcnt_RKern (writeKern k key a ws) ≤ 1048576 + 3 * wt_DKern k := by
  have h1 := putBlock_cnt k.disk a ws
  have h2 := exts_cnt_wt k
  unfold vcnt_RDisk at h1
  unfold writeKern
  split
  · split
    · simp only [vcnt_RKern, vcnt_DKern, List.length_nil]; omega
    · rw [badKern_cnt]; omega
  · rw [badKern_cnt]; omega
theorem sumF_erase {α : Type} (f : α → Nat) : ∀ (xs : List α) (i : Nat), sumF f (xs.eraseIdx i) ≤ sumF f xs
  | [], _ => by simp [sumF]
  | x :: xs, 0 => by simp only [List.eraseIdx_cons_zero, sumF]; omega
  | x :: xs, i + 1 => by simp only [List.eraseIdx_cons_succ, sumF]; have := sumF_erase f xs i; omega
theorem revoke_cnt (k : DKern) (a key : Int) : vcnt_RKern (revoke k a key) ≤ 3 * wt_DKern k := by
  have hw := kern_cnt_wt k
  unfold vcnt_DKern at hw
  unfold revoke
  split
  · split
    · rw [badKern_cnt]; omega
    · rename_i i _
      split
      · split
        · have := sumF_erase cnt_DExt k.exts i
          simp only [vcnt_RKern, vcnt_DKern, List.length_nil]; omega
        · rw [badKern_cnt]; omega
      · rw [badKern_cnt]; omega
  · rw [badKern_cnt]; omega
end Go.Proofs.Ytkmcpcahbfdohaa
/- What is proved: the words last put at a place, in plain Lean. No condition. -/
namespace Go.Proofs.Ytkmcpcahbfdohaa
open Go
set_option linter.unusedVariables false
set_option linter.unusedSimpArgs false
def blockL (d : DDisk) (a : Int) : List Int := ((d.cache.reverse.find? fun p => p.at_ == a).map (·.words)).getD (d.blocks.getD a.toNat [])
theorem find_at {α : Type} {p : α → Bool} : ∀ {l : List α} {k : Nat} {y : α}, (∀ j z, j < k → l[j]? = some z → p z = false) → l[k]? = some y → p y = true → l.find? p = some y
  | [], _, _, _, h, _ => by simp at h
  | x :: l, 0, y, _, h, hy => by
    simp at h; subst h
    simp [List.find?, hy]
  | x :: l, k + 1, y, ha, h, hy => by
    have h0 : p x = false := ha 0 x (by omega) (by simp)
    simp only [List.find?, h0]
    exact find_at (l := l) (k := k) (fun j z hj hz => ha (j + 1) z (Nat.succ_lt_succ hj) (by simpa using hz)) (by simpa using h) hy
theorem choice_list {α β : Type} : ∀ (xs : List α) {P : Nat → α → β → Prop}, (∀ j x, xs[j]? = some x → ∃ y, P j x y) → ∃ ys : List β, ys.length = xs.length ∧ ∀ j x, xs[j]? = some x → ∃ y, ys[j]? = some y ∧ P j x y
  | [], _, _ => ⟨[], rfl, fun j x h => by simp at h⟩
  | x :: xs, P, h => by
    obtain ⟨y, hy⟩ := h 0 x (by simp)
    obtain ⟨ys, hl, hys⟩ := choice_list xs (P := fun j => P (j + 1)) fun j z hz => h (j + 1) z (by simpa using hz)
    refine ⟨y :: ys, by simp [hl], fun j z hz => ?_⟩
    cases j with
    | zero => simp at hz; subst hz; exact ⟨y, by simp, hy⟩
    | succ j => obtain ⟨u, h1, h2⟩ := hys j z (by simpa using hz); exact ⟨u, by simpa using h1, h2⟩
/-- What the program's BlockAt answers, and its ReadKern. -/
def blockAt (d : DDisk) (a : Int) : RInts := if blockFault d a = 0 then ⟨0, blockL d a⟩ else ⟨blockFault d a, []⟩
theorem blockAt_b {d : DDisk} {a : Int} (h : ¬ blockFault d a = 0) : blockAt d a = ⟨blockFault d a, []⟩ := if_neg h
theorem blockAt_0 {d : DDisk} {a : Int} (h : blockFault d a = 0) : blockAt d a = ⟨0, blockL d a⟩ := if_pos h
theorem blockAt_f {d : DDisk} {a : Int} (h : ¬ diskFault d = 0) : blockAt d a = ⟨diskFault d, []⟩ := by rw [blockAt_b (by rw [blockFault_f h]; exact h), blockFault_f h]
theorem blockAt_3 {d : DDisk} {a : Int} (h : diskFault d = 0) (h2 : ¬ placeIn d.blocks.length a) : blockAt d a = ⟨3, []⟩ := by rw [blockAt_b (by rw [blockFault_3 h h2]; decide), blockFault_3 h h2]
theorem blockAt_1 {d : DDisk} {a : Int} (h : diskFault d = 0) (h2 : placeIn d.blocks.length a) : blockAt d a = ⟨0, blockL d a⟩ := blockAt_0 (blockFault_0 h h2)
theorem blk_in_d {d : DDisk} {a : Int} (h : diskFault d = 0) (h2 : placeIn d.blocks.length a) : d.cache.length ≤ 200 ∧ (0 ≤ a ∧ a < (d.blocks.length : Int)) := ⟨(diskFault_60 h).2, by unfold placeIn at h2; omega⟩
theorem blk_in_b {d : DDisk} {a : Int} (h : blockFault d a = 0) : d.cache.length ≤ 200 ∧ (0 ≤ a ∧ a < (d.blocks.length : Int)) := blk_in_d (blockFault_ok h).1 (blockFault_ok h).2
theorem own_in {k : DKern} {a : Int} (h : (ownerOf k a).code = 0) : kernFault k = 0 ∧ placeIn k.disk.blocks.length a := by
  by_cases h1 : kernFault k = 0
  · by_cases h2 : placeIn k.disk.blocks.length a
    · exact ⟨h1, h2⟩
    · rw [ownerOf_3 h1 h2] at h; cases h
  · rw [ownerOf_f h1] at h; exact absurd h h1
theorem may_in {k : DKern} {key a : Int} (h : mayFault k key a = 0) : kernFault k = 0 ∧ placeIn k.disk.blocks.length a := by
  by_cases h1 : (ownerOf k a).code = 0
  · exact own_in h1
  · rw [mayFault_n h1] at h; exact absurd h h1
theorem blk_in_k {k : DKern} {key a : Int} (h : mayFault k key a = 0) : k.disk.cache.length ≤ 200 ∧ (0 ≤ a ∧ a < (k.disk.blocks.length : Int)) := blk_in_d (kernOk (may_in h).1).1 (may_in h).2
def readKern (k : DKern) (key a : Int) : RKern := if mayFault k key a = 0 then ⟨0, blockL k.disk a, k⟩ else badKern (mayFault k key a)
theorem readKern_f {k : DKern} {key a : Int} (h : ¬ mayFault k key a = 0) : readKern k key a = badKern (mayFault k key a) := if_neg h
theorem readKern_0 {k : DKern} {key a : Int} (h : mayFault k key a = 0) : readKern k key a = ⟨0, blockL k.disk a, k⟩ := if_pos h
theorem blockL_64 {d : DDisk} {a : Int} (h : diskFault d = 0) : (blockL d a).length ≤ 64 := by
  obtain ⟨h1, h2, h3, h4⟩ := diskOk h
  unfold blockL
  cases hf : d.cache.reverse.find? fun p => p.at_ == a with
  | some p => exact words_64 (h4 p (List.mem_reverse.1 (List.mem_of_find?_eq_some hf))).2
  | none =>
    simp only [Option.map_none, Option.getD_none, List.getD_eq_getElem?_getD]
    cases hb : d.blocks[a.toNat]? with
    | none => simp
    | some b => exact words_64 (h3 b (List.mem_of_getElem? hb))
end Go.Proofs.Ytkmcpcahbfdohaa
/- What is proved: names, inodes and their faults, in plain Lean. No condition. -/
namespace Go.Proofs.Ytkmcpcahbfdohaa
open Go Go.RowKit
set_option linter.unusedVariables false
set_option linter.unusedSimpArgs false
/-! ### names -/
abbrev lowB (b : UInt8) : Prop := (97 : Int) ≤ (b.toNat : Int) ∧ (b.toNat : Int) ≤ 122
def nameFault (s : ByteArray) : Int := if s.data.toList.all (fun b => decide (lowB b)) = true then (if s.size = 0 then 5 else if 4 < s.size then 2 else 0) else 5
theorem nameFault_5 {s : ByteArray} {k : Nat} {b : UInt8} (hb : s.data.toList[k]? = some b) (h : ¬ lowB b) : nameFault s = 5 := by
  unfold nameFault
  rw [if_neg]
  intro ha
  exact h (of_decide_eq_true (List.all_eq_true.1 ha b (List.mem_of_getElem? hb)))
theorem low_all {s : ByteArray} (h : ∀ j b, j < s.size → s.data.toList[j]? = some b → lowB b) : s.data.toList.all (fun b => decide (lowB b)) = true :=
  List.all_eq_true.2 fun b hb => by
    obtain ⟨j, hj⟩ := List.mem_iff_getElem?.1 hb
    exact decide_eq_true (h j b (by have := (List.getElem?_eq_some_iff.1 hj).1; rw [str_len] at this; exact this) hj)
theorem size_e {s : ByteArray} (h : s = ⟨#[]⟩) : s.size = 0 := by subst h; rfl
theorem size_ne {s : ByteArray} (h : ¬ s = ⟨#[]⟩) : ¬ s.size = 0 := fun h0 => h (by
  cases s with
  | mk d => have : d.size = 0 := h0
            rw [Array.size_eq_zero_iff] at this
            rw [this])
theorem nameFault_e {s : ByteArray} (h : s = ⟨#[]⟩) : nameFault s = 5 := by
  subst h
  decide
theorem nameFault_2 {s : ByteArray} (hall : ∀ j b, j < s.size → s.data.toList[j]? = some b → lowB b) (h : ¬ s = ⟨#[]⟩) (h4 : (4 : Int) < (s.size : Int)) : nameFault s = 2 := by
  unfold nameFault
  rw [if_pos (low_all hall), if_neg (size_ne h), if_pos (by omega)]
theorem nameFault_0 {s : ByteArray} (hall : ∀ j b, j < s.size → s.data.toList[j]? = some b → lowB b) (h : ¬ s = ⟨#[]⟩) (h4 : ¬ (4 : Int) < (s.size : Int)) : nameFault s = 0 := by
  unfold nameFault
  rw [if_pos (low_all hall), if_neg (size_ne h), if_neg (by omega)]
theorem name_4 {s : ByteArray} (h : nameFault s = 0) : s.size ≤ 4 ∧ 0 < s.size := by
  unfold nameFault at h
  split at h
  · split at h
    · exact absurd h (by decide)
    · split at h
      · exact absurd h (by decide)
      · omega
  · exact absurd h (by decide)
/-! ### strings in order -/
theorem bl_tri : ∀ x y : List UInt8, (Op.bytesLess x y || decide (x = y)) = !Op.bytesLess y x
  | [], [] => by simp [Op.bytesLess]
  | [], b :: y => by simp [Op.bytesLess]
  | a :: x, [] => by simp [Op.bytesLess]
  | a :: x, b :: y => by
    have ih := bl_tri x y
    simp only [Op.bytesLess, List.cons.injEq]
    by_cases h : a = b
    · subst h
      have : ¬ a < a := UInt8.lt_irrefl a
      simp [this] at ih ⊢
      exact ih
    · have h' : ¬ b = a := fun e => h e.symm
      simp [h, h']
      rcases UInt8.lt_or_lt_of_ne h with g | g
      · have : ¬ b < a := UInt8.lt_asymm g
        simp [g, this, UInt8.le_of_lt g]
        exact .inl h'
      · have : ¬ a < b := UInt8.lt_asymm g
        simp [g, this]
        exact fun e => absurd e h
theorem toList_inj {s u : ByteArray} : s.toList = u.toList ↔ s = u := by
  constructor
  · intro h
    have h2 : s.data.toList = u.data.toList := by simpa [ByteArray.toList_eq] using h
    cases s; cases u
    simp at h2
    rw [h2]
  · rintro rfl; rfl
theorem sle_not (s u : ByteArray) : (sLt s u || decide (s = u)) = !sLt u s := by
  have := bl_tri s.toList u.toList
  unfold sLt
  rw [← this]
  congr 1
  rw [decide_eq_decide]
  exact toList_inj.symm
theorem bytesLess_irr : ∀ xs : List UInt8, Op.bytesLess xs xs = false
  | [] => by simp [Op.bytesLess]
  | x :: xs => by simp [Op.bytesLess, bytesLess_irr xs]
/-! ### files -/
def fileFault (x : DInode) : Int :=
  if (1 ≤ x.links ∧ x.links ≤ 60) ∧ (0 ≤ x.size ∧ x.size ≤ 32) then
    if (x.blocks.length : Int) = (x.size + 7) / 8 then
      if x.blocks.any (fun b => !decide (0 ≤ b ∧ b ≤ 19)) = true then 3 else if x.blocks.Nodup then 0 else 7
    else 1
  else 3
theorem fileFault_3 {x : DInode} (h : ¬ ((1 ≤ x.links ∧ x.links ≤ 60) ∧ (0 ≤ x.size ∧ x.size ≤ 32))) : fileFault x = 3 := if_neg h
theorem fileFault_1 {x : DInode} (h : (1 ≤ x.links ∧ x.links ≤ 60) ∧ (0 ≤ x.size ∧ x.size ≤ 32)) (h2 : ¬ (x.blocks.length : Int) = (x.size + 7) / 8) : fileFault x = 1 := by
  unfold fileFault; rw [if_pos h, if_neg h2]
theorem fileFault_3' {x : DInode} (h : (1 ≤ x.links ∧ x.links ≤ 60) ∧ (0 ≤ x.size ∧ x.size ≤ 32)) (h2 : (x.blocks.length : Int) = (x.size + 7) / 8) (h3 : x.blocks.any (fun b => !decide (0 ≤ b ∧ b ≤ 19)) = true) : fileFault x = 3 := by
  unfold fileFault; rw [if_pos h, if_pos h2, if_pos h3]
theorem fileFault_7 {x : DInode} (h : (1 ≤ x.links ∧ x.links ≤ 60) ∧ (0 ≤ x.size ∧ x.size ≤ 32)) (h2 : (x.blocks.length : Int) = (x.size + 7) / 8) (h3 : x.blocks.any (fun b => !decide (0 ≤ b ∧ b ≤ 19)) = false) (h4 : ¬ x.blocks.Nodup) : fileFault x = 7 := by
  unfold fileFault; rw [if_pos h, if_pos h2, if_neg (by rw [h3]; decide), if_neg h4]
theorem fileFault_0 {x : DInode} (h : (1 ≤ x.links ∧ x.links ≤ 60) ∧ (0 ≤ x.size ∧ x.size ≤ 32)) (h2 : (x.blocks.length : Int) = (x.size + 7) / 8) (h3 : x.blocks.any (fun b => !decide (0 ≤ b ∧ b ≤ 19)) = false) (h4 : x.blocks.Nodup) : fileFault x = 0 := by
  unfold fileFault; rw [if_pos h, if_pos h2, if_neg (by rw [h3]; decide), if_pos h4]
theorem nodup_s {α : Type} {xs : List α} {k : Nat} {b : α} (h : (xs.take k).Nodup) (hb : xs[k]? = some b) (hn : ¬ b ∈ xs.take k) : (xs.take (k + 1)).Nodup := by
  rw [← take_snoc hb]
  exact List.nodup_append.2 ⟨h, by simp, fun a ha c hc => by
    obtain rfl := List.mem_singleton.1 hc
    exact fun e => hn (e ▸ ha)⟩
theorem not_nodup {α : Type} {xs : List α} {k : Nat} {b : α} (hb : xs[k]? = some b) (hm : b ∈ xs.take k) : ¬ xs.Nodup := fun h => by
  have : (xs.take (k + 1)).Nodup := h.sublist (List.take_sublist _ _)
  rw [← take_snoc hb] at this
  exact (List.nodup_append.1 this).2.2 b hm b (List.mem_singleton.2 rfl) rfl
theorem mem_take_of {α : Type} {xs : List α} {k q : Nat} {b : α} (hb : xs[q]? = some b) (h : q < k) : b ∈ xs.take k := by
  refine List.mem_of_getElem? (i := q) ?_
  rw [List.getElem?_take, if_pos h]
  exact hb
theorem not_mem_take {α : Type} {xs : List α} {k : Nat} {b : α} (h : ∀ j y, j < k → xs[j]? = some y → ¬ y = b) : ¬ b ∈ xs.take k := fun hm => by
  obtain ⟨j, hj⟩ := List.mem_iff_getElem?.1 hm
  rw [List.getElem?_take] at hj
  split at hj
  · rename_i hlt; exact h j b hlt hj rfl
  · cases hj
theorem any_bad {xs : List Int} {k : Nat} {b : Int} (hb : xs[k]? = some b) (h : ¬ (0 ≤ b ∧ b ≤ 19)) : xs.any (fun b => !decide (0 ≤ b ∧ b ≤ 19)) = true :=
  List.any_eq_true.2 ⟨b, List.mem_of_getElem? hb, by simp only [decide_eq_false h]; rfl⟩
theorem any_ok {xs : List Int} (h : ∀ j b, j < xs.length → xs[j]? = some b → 0 ≤ b ∧ b ≤ 19) : xs.any (fun b => !decide (0 ≤ b ∧ b ≤ 19)) = false := by
  rw [List.any_eq_false]
  intro b hb
  obtain ⟨j, hj⟩ := List.mem_iff_getElem?.1 hb
  rw [decide_eq_true (h j b (List.getElem?_eq_some_iff.1 hj).1 hj)]
  decide
def busyFault (xs : List Int) : Int := if 20 < xs.length then 2 else if xs.any (fun b => !decide (0 ≤ b ∧ b ≤ 19)) = true then 3 else 0
theorem busyFault_2 {xs : List Int} (h : (20 : Int) < (xs.length : Int)) : busyFault xs = 2 := if_pos (by omega)
theorem busyFault_3 {xs : List Int} (h : ¬ (20 : Int) < (xs.length : Int)) (h2 : xs.any (fun b => !decide (0 ≤ b ∧ b ≤ 19)) = true) : busyFault xs = 3 := by unfold busyFault; rw [if_neg (by omega), if_pos h2]
theorem busyFault_0 {xs : List Int} (h : ¬ (20 : Int) < (xs.length : Int)) (h2 : xs.any (fun b => !decide (0 ≤ b ∧ b ≤ 19)) = false) : busyFault xs = 0 := by unfold busyFault; rw [if_neg (by omega), if_neg (by rw [h2]; decide)]
/-! ### directories -/
def entOk (es : List DEnt) (j : Nat) (e : DEnt) : Int :=
  if nameFault e.name = 0 then if 0 ≤ e.ino ∧ e.ino ≤ 9 then (match (if j = 0 then none else es[j - 1]?) with | some p => if sLt p.name e.name = true then 0 else 1 | none => 0) else 3 else nameFault e.name
def entAt (es : List DEnt) (j : Nat) : Int := match es[j]? with | some e => entOk es j e | none => 0
def firstN (f : Nat → Int) (n : Nat) : Int := firstF f (List.range n)
theorem firstN_some {f : Nat → Int} {n k : Nat} (hk : k < n) (h : ¬ f k = 0) (ha : ∀ j, j < k → f j = 0) : firstN f n = f k :=
  firstF_some (k := k) (x := k) (by simp [hk]) h (fun j y hj hy => by
    have : j < n := by omega
    simp [this] at hy
    subst hy
    exact ha j hj)
theorem firstN_none {f : Nat → Int} {n : Nat} (ha : ∀ j, j < n → f j = 0) : firstN f n = 0 :=
  firstF_none (fun j y hy => by
    have := (List.getElem?_eq_some_iff.1 hy)
    obtain ⟨h1, h2⟩ := this
    simp at h1 h2
    subst h2
    exact ha j h1)
def dirFault (x : DInode) : Int := if 6 < x.ents.length then 2 else firstN (entAt x.ents) x.ents.length
theorem dirFault_2 {x : DInode} (h : (6 : Int) < (x.ents.length : Int)) : dirFault x = 2 := if_pos (by omega)
theorem dirFault_s {x : DInode} {k : Nat} {e : DEnt} (h : ¬ (6 : Int) < (x.ents.length : Int)) (he : x.ents[k]? = some e) (hn : ¬ entOk x.ents k e = 0) (ha : ∀ j, j < k → entAt x.ents j = 0) : dirFault x = entOk x.ents k e := by
  have e1 : entAt x.ents k = entOk x.ents k e := by unfold entAt; rw [he]
  unfold dirFault
  rw [if_neg (by omega), firstN_some (List.getElem?_eq_some_iff.1 he).1 (by rw [e1]; exact hn) ha, e1]
theorem dirFault_0 {x : DInode} (h : ¬ (6 : Int) < (x.ents.length : Int)) (ha : ∀ j, j < x.ents.length → entAt x.ents j = 0) : dirFault x = 0 := by
  unfold dirFault; rw [if_neg (by omega), firstN_none ha]
theorem entOk_n {es : List DEnt} {j : Nat} {e : DEnt} (h : ¬ nameFault e.name = 0) : entOk es j e = nameFault e.name := if_neg h
theorem entOk_3 {es : List DEnt} {j : Nat} {e : DEnt} (h : nameFault e.name = 0) (h2 : ¬ (0 ≤ e.ino ∧ e.ino ≤ 9)) : entOk es j e = 3 := by unfold entOk; rw [if_pos h, if_neg h2]
theorem entOk_1 {es : List DEnt} {j : Nat} {e p : DEnt} (h : nameFault e.name = 0) (h2 : 0 ≤ e.ino ∧ e.ino ≤ 9) (hj : 0 < j) (hp : es[j - 1]? = some p) (hl : sLt p.name e.name = false) : entOk es j e = 1 := by
  unfold entOk; rw [if_pos h, if_pos h2, if_neg (by omega), hp]; simp [hl]
theorem entOk_p {es : List DEnt} {j : Nat} {e p : DEnt} (h : nameFault e.name = 0) (h2 : 0 ≤ e.ino ∧ e.ino ≤ 9) (hj : 0 < j) (hp : es[j - 1]? = some p) (hl : sLt p.name e.name = true) : entOk es j e = 0 := by
  unfold entOk; rw [if_pos h, if_pos h2, if_neg (by omega), hp]; simp [hl]
theorem entOk_z {es : List DEnt} {j : Nat} {e : DEnt} (h : nameFault e.name = 0) (h2 : 0 ≤ e.ino ∧ e.ino ≤ 9) (hj : j = 0) : entOk es j e = 0 := by
  unfold entOk; rw [if_pos h, if_pos h2, if_pos hj]
theorem entAt_s {es : List DEnt} {k : Nat} {e : DEnt} (ha : ∀ j, j < k → entAt es j = 0) (he : es[k]? = some e) (h : entOk es k e = 0) : ∀ j, j < k + 1 → entAt es j = 0 := fun j hj => by
  by_cases hk : j < k
  · exact ha j hk
  · obtain rfl : j = k := by omega
    unfold entAt; rw [he]; exact h
def inodeFault (x : DInode) : Int :=
  if 0 ≤ x.kind ∧ x.kind ≤ 2 then
    if (x.kind ≠ 1 ∧ ¬ (x.links = 0 ∧ x.size = 0 ∧ x.blocks.length = 0)) ∨ (x.kind ≠ 2 ∧ ¬ x.ents.length = 0) then 1
    else if x.kind = 1 then fileFault x else if x.kind = 2 then dirFault x else 0
  else 1
theorem inodeFault_k {x : DInode} (h : ¬ (0 ≤ x.kind ∧ x.kind ≤ 2)) : inodeFault x = 1 := if_neg h
theorem inodeFault_1 {x : DInode} (h : (x.kind ≠ 1 ∧ ¬ (x.links = 0 ∧ x.size = 0 ∧ x.blocks.length = 0)) ∨ (x.kind ≠ 2 ∧ ¬ x.ents.length = 0)) : inodeFault x = 1 := by
  unfold inodeFault
  by_cases hk : 0 ≤ x.kind ∧ x.kind ≤ 2
  · rw [if_pos hk, if_pos h]
  · rw [if_neg hk]
theorem inodeFault_f {x : DInode} (h : x.kind = 1) (h2 : x.ents.length = 0) : inodeFault x = fileFault x := by
  unfold inodeFault; rw [if_pos (by omega), if_neg (by omega), if_pos h]
theorem inodeFault_d {x : DInode} (h : x.kind = 2) (h2 : x.links = 0 ∧ x.size = 0 ∧ x.blocks.length = 0) : inodeFault x = dirFault x := by
  unfold inodeFault; rw [if_pos (by omega), if_neg (by omega), if_neg (by omega), if_pos h]
theorem inodeFault_0 {x : DInode} (h : x.kind = 0) (h2 : x.links = 0 ∧ x.size = 0 ∧ x.blocks.length = 0) (h3 : x.ents.length = 0) : inodeFault x = 0 := by
  unfold inodeFault; rw [if_pos (by omega), if_neg (by omega), if_neg (by omega), if_neg (by omega)]
theorem inodeFault_r {x : DInode} (h : 0 ≤ x.kind ∧ x.kind ≤ 2) (h1 : ¬ x.kind = 1) (h2 : x.links = 0 ∧ x.size = 0 ∧ x.blocks.length = 0) (h3 : x.kind = 2 ∨ x.ents.length = 0) : inodeFault x = dirFault x := by
  by_cases hk : x.kind = 2
  · exact inodeFault_d hk h2
  · rw [inodeFault_0 (by omega) h2 (by omega)]
    exact (dirFault_0 (by omega) (fun j hj => by omega)).symm
theorem dirFault_e {x : DInode} (h : x.ents.length = 0) : dirFault x = 0 := dirFault_0 (by omega) (fun j hj => by omega)
def inodesFault (xs : List DInode) : Int := if 10 < xs.length then 2 else firstF inodeFault xs
theorem inodesFault_2 {xs : List DInode} (h : (10 : Int) < (xs.length : Int)) : inodesFault xs = 2 := if_pos (by omega)
theorem inodesFault_s {xs : List DInode} {k : Nat} {x : DInode} (h : ¬ (10 : Int) < (xs.length : Int)) (hx : xs[k]? = some x) (hn : ¬ inodeFault x = 0) (ha : ∀ j y, j < k → xs[j]? = some y → inodeFault y = 0) : inodesFault xs = inodeFault x := by
  unfold inodesFault; rw [if_neg (by omega), firstF_some hx hn ha]
theorem inodesFault_0 {xs : List DInode} (h : ¬ (10 : Int) < (xs.length : Int)) (ha : ∀ j y, j < xs.length → xs[j]? = some y → inodeFault y = 0) : inodesFault xs = 0 := by
  unfold inodesFault; rw [if_neg (by omega), firstF_none (fun j y hy => ha j y (List.getElem?_eq_some_iff.1 hy).1 hy)]
/-! ### what is free, links -/
def freePlace (xs : List DInode) : RInt := if inodesFault xs = 0 then match xs.findIdx? (fun x => decide (x.kind = 0)) with | some i => ⟨0, i⟩ | none => if xs.length = 10 then ⟨8, 0⟩ else ⟨0, xs.length⟩ else ⟨inodesFault xs, 0⟩
theorem inodes_10 {xs : List DInode} (h : inodesFault xs = 0) : xs.length ≤ 10 := by
  unfold inodesFault at h
  split at h
  · exact absurd h (by decide)
  · omega
theorem inodes_all {xs : List DInode} (h : inodesFault xs = 0) : ∀ x, x ∈ xs → inodeFault x = 0 := by
  unfold inodesFault at h
  split at h
  · exact absurd h (by decide)
  · exact firstF_all h
theorem ents_6 {x : DInode} (h : inodeFault x = 0) : x.ents.length ≤ 6 := by
  unfold inodeFault at h
  split at h
  · split at h
    · exact absurd h (by decide)
    · split at h
      · omega
      · split at h
        · unfold dirFault at h
          split at h
          · exact absurd h (by decide)
          · omega
        · omega
  · exact absurd h (by decide)
def cntE (a : Int) (e : DEnt) : Nat := if e.ino = a then 1 else 0
def linksIn (a : Int) (x : DInode) : Nat := sumF (cntE a) x.ents
def linksOf (xs : List DInode) (a : Int) : Nat := sumF (linksIn a) xs
theorem sumF_bnd {α : Type} {f : α → Nat} {B : Nat} : ∀ {xs : List α}, (∀ x, x ∈ xs → f x ≤ B) → sumF f xs ≤ xs.length * B
  | [], _ => Nat.zero_le _
  | x :: xs, h => by
    have h1 := h x List.mem_cons_self
    have h2 := sumF_bnd (xs := xs) (fun y hy => h y (List.mem_cons_of_mem _ hy))
    simp only [sumF, List.length_cons, Nat.succ_mul]
    omega
theorem cntE_1 (a : Int) (e : DEnt) : cntE a e ≤ 1 := by unfold cntE; split <;> omega
theorem links_60 {xs : List DInode} (h : inodesFault xs = 0) (a : Int) : linksOf xs a ≤ 60 := by
  have h1 : linksOf xs a ≤ xs.length * 6 := sumF_bnd fun x hx => by
    have h2 : linksIn a x ≤ x.ents.length * 1 := sumF_bnd fun e _ => cntE_1 a e
    have h3 := ents_6 (inodes_all h x hx)
    omega
  have := inodes_10 h
  omega
def linksR (xs : List DInode) (a : Int) : RInt := if inodesFault xs = 0 then if placeIn xs.length a then ⟨0, linksOf xs a⟩ else ⟨3, 0⟩ else ⟨inodesFault xs, 0⟩
theorem linksR_f {xs : List DInode} {a : Int} (h : ¬ inodesFault xs = 0) : linksR xs a = ⟨inodesFault xs, 0⟩ := if_neg h
theorem linksR_3 {xs : List DInode} {a : Int} (h : inodesFault xs = 0) (h2 : ¬ placeIn xs.length a) : linksR xs a = ⟨3, 0⟩ := by unfold linksR; rw [if_pos h, if_neg h2]
theorem linksR_0 {xs : List DInode} {a : Int} (h : inodesFault xs = 0) (h2 : placeIn xs.length a) : linksR xs a = ⟨0, linksOf xs a⟩ := by unfold linksR; rw [if_pos h, if_pos h2]
theorem freePlace_f {xs : List DInode} (h : ¬ inodesFault xs = 0) : freePlace xs = ⟨inodesFault xs, 0⟩ := if_neg h
def freeAt (xs : List DInode) : Int := match xs.findIdx? (fun x => decide (x.kind = 0)) with | some i => i | none => if xs.length = 10 then -1 else xs.length
theorem freeAt_i {xs : List DInode} {k : Nat} {x : DInode} (hx : xs[k]? = some x) (h : x.kind = 0) (ha : ∀ j y, j < k → xs[j]? = some y → ¬ y.kind = 0) : freeAt xs = (k : Int) := by
  have : xs.findIdx? (fun x => decide (x.kind = 0)) = some k := by
    obtain ⟨hk, rfl⟩ := List.getElem?_eq_some_iff.1 hx
    exact List.findIdx?_eq_some_iff_getElem.2 ⟨hk, decide_eq_true h, fun j hj => by
      have := ha j _ hj (List.getElem?_eq_getElem (by omega))
      simpa using this⟩
  unfold freeAt
  rw [this]
theorem free_none {xs : List DInode} {q : Nat} (hq : xs.length ≤ q) (ha : ∀ j y, j < q → xs[j]? = some y → ¬ y.kind = 0) : xs.findIdx? (fun x => decide (x.kind = 0)) = none := by
  rw [List.findIdx?_eq_none_iff]
  intro y hy
  obtain ⟨j, hj⟩ := List.mem_iff_getElem?.1 hy
  have := ha j y (by have := (List.getElem?_eq_some_iff.1 hj).1; omega) hj
  simpa using this
theorem freeAt_l {xs : List DInode} {q : Nat} (hq : xs.length ≤ q) (ha : ∀ j y, j < q → xs[j]? = some y → ¬ y.kind = 0) (h : (xs.length : Int) < 10) : freeAt xs = (xs.length : Int) := by
  unfold freeAt; rw [free_none hq ha]; simp only; rw [if_neg (by omega)]
theorem freeAt_n {xs : List DInode} {q : Nat} (hq : xs.length ≤ q) (ha : ∀ j y, j < q → xs[j]? = some y → ¬ y.kind = 0) (h : ¬ (xs.length : Int) < 10) (h10 : xs.length ≤ 10) : freeAt xs = -1 := by
  unfold freeAt; rw [free_none hq ha]; simp only; rw [if_pos (by omega)]
theorem freePlace_8 {xs : List DInode} (h : inodesFault xs = 0) (h2 : freeAt xs < 0) : freePlace xs = ⟨8, 0⟩ := by
  unfold freePlace freeAt at *
  rw [if_pos h]
  split at h2
  · omega
  · split at h2
    · rename_i h3 h4; rw [if_pos h4]
    · omega
theorem freePlace_0 {xs : List DInode} (h : inodesFault xs = 0) (h2 : ¬ freeAt xs < 0) : freePlace xs = ⟨0, freeAt xs⟩ := by
  unfold freePlace freeAt at *
  rw [if_pos h]
  split at h2
  · rfl
  · split at h2
    · omega
    · rename_i h3 h4; rw [if_neg h4, if_neg h4]
/-- What impl's inner function tells: the place, the code. -/
theorem free_hit {xs : List DInode} (h : 0 ≤ idxF (fun x => decide (x.kind = 0)) xs) : freeAt xs = idxF (fun x => decide (x.kind = 0)) xs ∧ ¬ freeAt xs < 0 := by
  unfold freeAt idxF at *
  cases hf : xs.findIdx? (fun x => decide (x.kind = 0)) with
  | none => rw [hf] at h; exact absurd h (by decide)
  | some i => simp only; exact ⟨trivial, by omega⟩
theorem free_miss {xs : List DInode} (h : ¬ 0 ≤ idxF (fun x => decide (x.kind = 0)) xs) : freeAt xs = if xs.length = 10 then -1 else (xs.length : Int) := by
  unfold freeAt idxF at *
  cases hf : xs.findIdx? (fun x => decide (x.kind = 0)) with
  | none => rfl
  | some i => rw [hf] at h; simp only at h; omega
end Go.Proofs.Ytkmcpcahbfdohaa
/- What is proved: paths: cut at a byte, joined again, in plain Lean. No condition. -/
namespace Go.Proofs.Ytkmcpcahbfdohaa
open Go Go.RowKit
set_option linter.unusedVariables false
set_option linter.unusedSimpArgs false
abbrev sl1 : ByteArray := ⟨#[47]⟩
/-! ### cut at a slash -/
def cutL : List UInt8 → List (List UInt8)
  | [] => [[]]
  | b :: l => if b = 47 then [] :: cutL l else match cutL l with | [] => [[b]] | p :: ps => (b :: p) :: ps
theorem cutL_ne : ∀ l, cutL l ≠ []
  | [] => by simp [cutL]
  | b :: l => by
    unfold cutL
    split
    · simp
    · split <;> simp
theorem cutL_no : ∀ {l : List UInt8}, (∀ b, b ∈ l → b ≠ 47) → cutL l = [l]
  | [], _ => rfl
  | b :: l, h => by
    unfold cutL
    rw [if_neg (h b (by simp)), cutL_no (fun c hc => h c (by simp [hc]))]
theorem cutL_at : ∀ {n : Nat} {l : List UInt8}, (∀ (j : Nat) b, j < n → l[j]? = some b → b ≠ 47) → l[n]? = some 47 → cutL l = l.take n :: cutL (l.drop (n + 1))
  | 0, [], _, h => by simp at h
  | 0, b :: l, _, h => by
    have : b = 47 := by simpa using h
    subst this
    rw [cutL, if_pos rfl]
    simp
  | n + 1, [], _, h => by simp at h
  | n + 1, b :: l, ha, h => by
    have ih := cutL_at (n := n) (l := l) (fun j c hj hc => ha (j + 1) c (by omega) (by simpa using hc)) (by simpa using h)
    have h0 : b ≠ 47 := ha 0 b (by omega) (by simp)
    rw [cutL, if_neg h0, ih]
    simp
theorem split_eq : ∀ l : List UInt8, Lib.split l [47] = cutL l
  | [] => by
    have : Lib.index [] [47] = -1 := by decide
    unfold Lib.split
    rw [Lib.count_miss this]
    rfl
  | b :: l => by
    have ih := split_eq l
    unfold Lib.split at ih ⊢
    by_cases hb : b = 47
    · subst hb
      have hix : Lib.index ((47 : UInt8) :: l) [47] = ((0 : Nat) : Int) := by rw [Lib.index]; simp [List.isPrefixOf]
      rw [Lib.count_cons_eq, Nat.add_comm, Lib.splitK, if_neg (by rw [hix]; decide), hix]
      rw [cutL, if_pos rfl, ← ih]
      simp
    · have hp : ([47] : List UInt8).isPrefixOf (b :: l) = false := by simp [List.isPrefixOf, Ne.symm hb]
      have hix : Lib.index (b :: l) [47] = if Lib.index l [47] == -1 then -1 else Lib.index l [47] + 1 := by rw [Lib.index, hp]; simp
      rw [Lib.count_cons_ne b 47 l hb, cutL, if_neg hb]
      by_cases hm : Lib.index l [47] = -1
      · rw [Lib.count_miss hm] at ih ⊢
        rw [Lib.splitK] at ih ⊢
        rw [← ih]
      · have hge := Lib.index_ge l [47]
        obtain ⟨j, hj⟩ : ∃ j : Nat, Lib.index l [47] = j := ⟨(Lib.index l [47]).toNat, by omega⟩
        have hc : Lib.count l [47] = Lib.count (l.drop (j + 1)) [47] + 1 := by rw [Lib.count_hit (by simp) hj]; simp; omega
        have hix' : Lib.index (b :: l) [47] = ((j + 1 : Nat) : Int) := by rw [hix, if_neg (fun e => hm (beq_iff_eq.1 e)), hj]; omega
        rw [hc] at ih ⊢
        rw [Lib.splitK, if_neg (by rw [hj]; simp), hj] at ih
        rw [Lib.splitK, if_neg (by rw [hix']; simp; omega), hix', ← ih]
        simp
def cutB (s : ByteArray) : List ByteArray := (cutL s.data.toList).map bstr
theorem bstr_data (s : ByteArray) : bstr s.data.toList = s := by cases s; simp [bstr]
theorem splitB_cut (s : ByteArray) : Lib.splitB sl1 0 (Lib.countB s sl1) s = cutB s := by
  have h := Lib.splitB_data sl1 0 (Lib.countB s sl1) s
  have e : Lib.splitK sl1.data.toList 0 (Lib.countB s sl1) s.data.toList = cutL s.data.toList := split_eq s.data.toList
  rw [e] at h
  unfold cutB
  rw [← h, List.map_map]
  have : (bstr ∘ fun x : ByteArray => x.data.toList) = id := funext fun x => bstr_data x
  rw [this, List.map_id]
theorem cutB_ne (s : ByteArray) : cutB s ≠ [] := by unfold cutB; simp [cutL_ne]
theorem cutB_len (s : ByteArray) : 1 ≤ (cutB s).length := by
  have := cutB_ne s
  cases h : cutB s with
  | nil => exact absurd h this
  | cons a l => simp
theorem cutL_len : ∀ l : List UInt8, (cutL l).length ≤ l.length + 1
  | [] => by simp [cutL]
  | b :: l => by
    have := cutL_len l
    unfold cutL
    split
    · simp; omega
    · split
      · simp
      · rename_i p ps h
        rw [h] at this
        simp at this ⊢
        omega
theorem cutL_size : ∀ (l : List UInt8) (p : List UInt8), p ∈ cutL l → p.length ≤ l.length
  | [], p, h => by simp [cutL] at h; subst h; simp
  | b :: l, p, h => by
    unfold cutL at h
    split at h
    · rcases List.mem_cons.1 h with rfl | h
      · simp
      · have := cutL_size l p h; simp; omega
    · split at h
      · rename_i h2; exact absurd h2 (cutL_ne l)
      · rename_i q ps h2
        rcases List.mem_cons.1 h with rfl | h
        · have := cutL_size l q (by rw [h2]; simp); simp; omega
        · have := cutL_size l p (by rw [h2]; simp [h]); simp; omega
theorem cutB_size {s p : ByteArray} (h : p ∈ cutB s) : p.size ≤ s.size := by
  unfold cutB at h
  obtain ⟨q, hq, rfl⟩ := List.mem_map.1 h
  have := cutL_size _ q hq
  have e := str_len s
  have e2 : (bstr q).size = q.length := by simp [bstr, ByteArray.size]
  omega
/-! the loop that cuts -/
def CI (l : List UInt8) (m k : Nat) (out : List ByteArray) : Prop :=
  m ≤ k ∧ (∀ (j : Nat) b, m ≤ j → j < k → l[j]? = some b → b ≠ 47) ∧ (cutL l).map bstr = out ++ (cutL (l.drop m)).map bstr
theorem CI_0 {l : List UInt8} : CI l 0 0 [] := ⟨Nat.le_refl _, fun j b h1 h2 => absurd h2 (by omega), rfl⟩
theorem CI_n {l : List UInt8} {m k : Nat} {out : List ByteArray} {b : UInt8} (h : CI l m k out) (hb : l[k]? = some b) (hn : b ≠ 47) : CI l m (k + 1) out :=
  ⟨by have := h.1; omega, fun j c h1 h2 hc => by
    rcases Nat.lt_succ_iff_lt_or_eq.1 h2 with h3 | rfl
    · exact h.2.1 j c h1 h3 hc
    · rw [hb] at hc; obtain rfl := Option.some.inj hc; exact hn, h.2.2⟩
theorem CI_y {s : ByteArray} {m k : Nat} {out : List ByteArray} {b : UInt8} (h : CI s.data.toList m k out) (hb : s.data.toList[k]? = some b) (hn : b = 47) : CI s.data.toList (k + 1) (k + 1) (out ++ [s.extract m k]) := by
  subst hn
  obtain ⟨h1, h2, h3⟩ := h
  refine ⟨Nat.le_refl _, fun j c a b => absurd a (by omega), ?_⟩
  have hk : m + (k - m) = k := by omega
  have e := cutL_at (n := k - m) (l := s.data.toList.drop m) (fun j c hj hc => h2 (m + j) c (by omega) (by omega) (by rw [List.getElem?_drop] at hc; exact hc)) (by rw [List.getElem?_drop, hk]; exact hb)
  rw [h3, e, List.drop_drop, List.map_cons, show m + (k - m + 1) = k + 1 by omega]
  have e2 : s.extract m k = bstr (List.take (k - m) (List.drop m s.data.toList)) := by
    rw [← bstr_data (s.extract m k), Lib.extract_data]
  rw [e2]
  simp
theorem CI_end {s : ByteArray} {m k : Nat} {out : List ByteArray} (h : CI s.data.toList m k out) (hk : k = s.size) : out ++ [s.extract m k] = cutB s := by
  subst hk
  obtain ⟨h1, h2, h3⟩ := h
  unfold cutB
  rw [h3, cutL_no (fun b hb => by
    obtain ⟨j, hj⟩ := List.mem_iff_getElem?.1 hb
    rw [List.getElem?_drop] at hj
    have := (List.getElem?_eq_some_iff.1 hj).1
    rw [str_len] at this
    exact h2 (m + j) b (by omega) (by omega) hj)]
  have e : List.take (s.size - m) (List.drop m s.data.toList) = List.drop m s.data.toList := List.take_of_length_le (by rw [List.length_drop, str_len]; omega)
  rw [← bstr_data (s.extract m s.size), Lib.extract_data, e]
  simp
/-! ### the faults of names -/
def firstC : List ByteArray → Int
  | [] => 0
  | s :: l => if nameFault s = 0 then firstC l else nameFault s
theorem firstC_all : ∀ {xs : List ByteArray}, (∀ (j : Nat) s, xs[j]? = some s → nameFault s = 0) → firstC xs = 0
  | [], _ => rfl
  | s :: l, h => by
    unfold firstC
    rw [if_pos (h 0 s (by simp))]
    exact firstC_all (fun j t ht => h (j + 1) t (by simpa using ht))
theorem firstC_at : ∀ {xs : List ByteArray} {k : Nat} {s : ByteArray}, (∀ (j : Nat) s, j < k → xs[j]? = some s → nameFault s = 0) → xs[k]? = some s → ¬ nameFault s = 0 → firstC xs = nameFault s
  | [], _, _, _, h, _ => by simp at h
  | t :: l, 0, s, _, h, hn => by
    have : t = s := by simpa using h
    subst this
    unfold firstC
    rw [if_neg hn]
  | t :: l, k + 1, s, ha, h, hn => by
    unfold firstC
    rw [if_pos (ha 0 t (by omega) (by simp))]
    exact firstC_at (k := k) (fun j u hj hu => ha (j + 1) u (by omega) (by simpa using hu)) (by simpa using h) hn
theorem firstC_0 : ∀ {xs : List ByteArray}, firstC xs = 0 → ∀ s, s ∈ xs → nameFault s = 0
  | [], _, _, h => by simp at h
  | t :: l, h0, s, h => by
    unfold firstC at h0
    split at h0
    · rename_i ht
      rcases List.mem_cons.1 h with rfl | h
      · exact ht
      · exact firstC_0 h0 s h
    · rename_i ht; exact absurd h0 ht
def namesC (xs : List ByteArray) : Int := if 6 < xs.length then 2 else firstC xs
theorem namesC_2 {xs : List ByteArray} (h : 6 < xs.length) : namesC xs = 2 := if_pos h
theorem namesC_n {xs : List ByteArray} (h : ¬ 6 < xs.length) {k : Nat} {s : ByteArray} (ha : ∀ (j : Nat) s, j < k → xs[j]? = some s → nameFault s = 0) (hs : xs[k]? = some s) (hn : ¬ nameFault s = 0) : namesC xs = nameFault s := by rw [namesC, if_neg h, firstC_at ha hs hn]
theorem namesC_0 {xs : List ByteArray} (h : ¬ 6 < xs.length) {k : Nat} (ha : ∀ (j : Nat) s, j < k → xs[j]? = some s → nameFault s = 0) (hk : xs.length ≤ k) : namesC xs = 0 := by
  rw [namesC, if_neg h]
  exact firstC_all fun j s hs => ha j s (Nat.lt_of_lt_of_le (List.getElem?_eq_some_iff.1 hs).1 hk) hs
theorem namesOk {xs : List ByteArray} (h : namesC xs = 0) : xs.length ≤ 6 ∧ ∀ s, s ∈ xs → nameFault s = 0 := by
  unfold namesC at h
  split at h
  · exact absurd h (by decide)
  · exact ⟨by omega, firstC_0 h⟩
/-! ### a path split -/
abbrev tailB (s : ByteArray) : ByteArray := ByteArray.extract s 1 s.size
def badP (s : ByteArray) : Prop := s.data.toList[0]? ≠ some 47 ∨ s.data.toList[s.size - 1]? = some 47
instance (s : ByteArray) : Decidable (badP s) := by unfold badP; infer_instance
def splitC (s : ByteArray) : Int := if 30 < s.size then 2 else if s = sl1 then 0 else if badP s then 5 else namesC (cutB (tailB s))
def splitN (s : ByteArray) : List ByteArray := if splitC s = 0 ∧ s ≠ sl1 then cutB (tailB s) else []
theorem split_2 {s : ByteArray} (h : 30 < s.size) : splitC s = 2 ∧ splitN s = [] := by
  have : splitC s = 2 := if_pos h
  exact ⟨this, by rw [splitN, if_neg]; rw [this]; simp⟩
theorem split_r {s : ByteArray} (h : ¬ 30 < s.size) (h2 : s = sl1) : splitC s = 0 ∧ splitN s = [] := by
  have : splitC s = 0 := by rw [splitC, if_neg h, if_pos h2]
  exact ⟨this, by rw [splitN, if_neg]; simp [h2]⟩
theorem split_5 {s : ByteArray} (h : ¬ 30 < s.size) (h2 : ¬ s = sl1) (h3 : badP s) : splitC s = 5 ∧ splitN s = [] := by
  have : splitC s = 5 := by rw [splitC, if_neg h, if_neg h2, if_pos h3]
  exact ⟨this, by rw [splitN, if_neg]; rw [this]; simp⟩
theorem split_c {s : ByteArray} (h : ¬ 30 < s.size) (h2 : ¬ s = sl1) (h3 : ¬ badP s) (h4 : ¬ namesC (cutB (tailB s)) = 0) : splitC s = namesC (cutB (tailB s)) ∧ splitN s = [] := by
  have : splitC s = namesC (cutB (tailB s)) := by rw [splitC, if_neg h, if_neg h2, if_neg h3]
  exact ⟨this, by rw [splitN, if_neg]; rw [this]; simp [h4]⟩
theorem split_0 {s : ByteArray} (h : ¬ 30 < s.size) (h2 : ¬ s = sl1) (h3 : ¬ badP s) (h4 : namesC (cutB (tailB s)) = 0) : splitC s = 0 ∧ splitN s = cutB (tailB s) := by
  have : splitC s = 0 := by rw [splitC, if_neg h, if_neg h2, if_neg h3, h4]
  exact ⟨this, by rw [splitN, if_pos ⟨this, h2⟩]⟩
theorem splitN_ok (s : ByteArray) : (splitN s).length ≤ 6 ∧ ∀ x, x ∈ splitN s → nameFault x = 0 := by
  by_cases h : splitC s = 0 ∧ s ≠ sl1
  · obtain ⟨h1, h2⟩ := h
    have h3 : splitN s = cutB (tailB s) := by rw [splitN, if_pos ⟨h1, h2⟩]
    unfold splitC at h1
    split at h1
    · exact absurd h1 (by decide)
    · split at h1
      · exact absurd h1 (by decide)
      · rw [h3]; exact namesOk h1
  · rw [splitN, if_neg h]; simp
/-! ### joined -/
def joinL (xs : List ByteArray) : List UInt8 := (xs.map (fun s => 47 :: s.data.toList)).flatten
def joinB (xs : List ByteArray) : ByteArray := if xs = [] then sl1 else bstr (joinL xs)
theorem join_eq (xs : List ByteArray) : sl1 ++ bstr (Lib.join (xs.map (·.data.toList)) [47]) = joinB xs := by
  cases xs with
  | nil => rfl
  | cons x r =>
    rw [joinB, if_neg (by simp), List.map_cons, Lib.join_cons]
    rw [← bstr_data (sl1 ++ _)]
    congr 1
    simp [joinL, Lib.joinTail, bstr, List.map_map, Function.comp_def]
theorem joinL_len {xs : List ByteArray} (h : ∀ s, s ∈ xs → nameFault s = 0) : (joinL xs).length ≤ 5 * xs.length := by
  induction xs with
  | nil => simp [joinL]
  | cons x r ih =>
    have h1 := (name_4 (h x (by simp))).1
    have h2 := ih (fun s hs => h s (by simp [hs]))
    have h3 := str_len x
    simp only [joinL, List.map_cons, List.flatten_cons, List.length_append, List.length_cons] at h2 ⊢
    omega
theorem joinL_snoc (xs : List ByteArray) (x : ByteArray) : joinL (xs ++ [x]) = joinL xs ++ 47 :: x.data.toList := by simp [joinL]
def jnB (xs : List ByteArray) : ByteArray := bstr (joinL xs)
theorem jnB_s {xs : List ByteArray} {k : Nat} {x : ByteArray} (h : xs[k]? = some x) : jnB (xs.take k) ++ sl1 ++ x = jnB (xs.take (k + 1)) := by
  rw [List.take_add_one, h]
  have e : ∀ a b : ByteArray, a = bstr b.data.toList → a = b := fun a b h => by rw [h, bstr_data]
  symm
  apply e
  unfold jnB
  congr 1
  simp [joinL, bstr]
theorem jnB_e {xs : List ByteArray} : (jnB xs = ⟨#[]⟩) ↔ xs = [] := by
  constructor
  · intro h
    cases xs with
    | nil => rfl
    | cons x r =>
      have := congrArg (fun b : ByteArray => b.data.toList) h
      simp [jnB, bstr, joinL] at this
  · rintro rfl; rfl
theorem joinB_e {xs : List ByteArray} (h : jnB xs = ⟨#[]⟩) : joinB xs = sl1 := if_pos (jnB_e.1 h)
theorem joinB_n {xs : List ByteArray} (h : ¬ jnB xs = ⟨#[]⟩) : joinB xs = jnB xs := if_neg (fun e => h (jnB_e.2 e))
theorem jnB_size {xs : List ByteArray} (h : ∀ s, s ∈ xs → nameFault s = 0) : (jnB xs).size ≤ 5 * xs.length := by
  have := joinL_len h
  simpa [jnB, bstr, ByteArray.size] using this
theorem joinB_size {xs : List ByteArray} (h : ∀ s, s ∈ xs → nameFault s = 0) : (joinB xs).size ≤ 5 * xs.length + 1 := by
  unfold joinB
  split
  · show (1 : Nat) ≤ _; omega
  · have := jnB_size h; unfold jnB at this; omega
theorem join_sz {xs : List ByteArray} (h : ∀ s, s ∈ xs → nameFault s = 0) (hl : xs.length ≤ 6) : (bstr (Lib.join (List.map (fun s : ByteArray => s.data.toList) xs) [47])).size ≤ 30 := by
  have h1 := joinB_size h
  have h2 := congrArg ByteArray.size (join_eq xs)
  rw [ByteArray.size_append] at h2
  have h3 : sl1.size = 1 := rfl
  have h4 : (bstr (Lib.join (xs.map (·.data.toList)) [47])).size = (bstr (Lib.join (List.map (fun s : ByteArray => s.data.toList) xs) [47])).size := rfl
  omega
theorem size_0 {s : ByteArray} {b : UInt8} {j : Nat} (h : s.data.toList[j]? = some b) : j < s.size := by rw [← str_len]; exact (List.getElem?_eq_some_iff.1 h).1
theorem byte_47 {b : UInt8} : (b.toNat : Int) = 47 ↔ b = 47 := ⟨fun h => UInt8.toNat_inj.1 (show b.toNat = (47 : UInt8).toNat by have : (47 : UInt8).toNat = 47 := rfl; omega), fun h => by subst h; rfl⟩
theorem bad_e {s : ByteArray} (h : (s.size : Int) = 0) : badP s := .inl (by rw [List.getElem?_eq_none (by rw [str_len]; omega)]; simp)
theorem bad_f {s : ByteArray} {b : UInt8} (hb : s.data.toList[0]? = some b) (h : ¬ (b.toNat : Int) = 47) : badP s := .inl (by rw [hb]; intro e; exact h (byte_47.2 (Option.some.inj e)))
theorem bad_l {s : ByteArray} {b : UInt8} {j : Nat} (hb : s.data.toList[j]? = some b) (hj : j = s.size - 1) (h : (b.toNat : Int) = 47) : badP s := .inr (by rw [← hj, hb, byte_47.1 h])
theorem nbad {s : ByteArray} {b c : UInt8} {j : Nat} (hb : s.data.toList[0]? = some b) (h : (b.toNat : Int) = 47) (hc : s.data.toList[j]? = some c) (hj : j = s.size - 1) (hn : ¬ (c.toNat : Int) = 47) : ¬ badP s := by
  rintro (h1 | h1)
  · exact h1 (by rw [hb, byte_47.1 h])
  · rw [← hj, hc] at h1; exact hn (byte_47.2 (Option.some.inj h1))
theorem nbad2 {s : ByteArray} (h : s.data.toList[0]? = some 47) (h2 : ¬ s.data.toList[s.size - 1]? = some 47) : ¬ badP s := by
  rintro (h1 | h1)
  · exact h1 h
  · exact h2 h1
/-! ### what is told -/
def splitR (s : ByteArray) : RNames := ⟨splitC s, splitN s⟩
def joinR (xs : List ByteArray) : RText := if namesC xs = 0 then ⟨0, joinB xs⟩ else ⟨namesC xs, ⟨#[]⟩⟩
theorem joinR_c {xs : List ByteArray} (h : ¬ namesC xs = 0) : joinR xs = ⟨namesC xs, ⟨#[]⟩⟩ := if_neg h
theorem joinR_0 {xs : List ByteArray} (h : namesC xs = 0) : joinR xs = ⟨0, joinB xs⟩ := if_pos h
def lastC (s : ByteArray) : Int := if splitC s = 0 then if splitN s = [] then 4 else 0 else splitC s
def lastN (s : ByteArray) : List ByteArray := if lastC s = 0 then (splitN s).take ((splitN s).length - 1) else []
def lastT (s : ByteArray) : ByteArray := if lastC s = 0 then ((splitN s)[(splitN s).length - 1]?).getD ⟨#[]⟩ else ⟨#[]⟩
theorem last_c {s : ByteArray} (h : ¬ splitC s = 0) : lastC s = splitC s ∧ lastN s = [] ∧ lastT s = ⟨#[]⟩ := by
  have : lastC s = splitC s := if_neg h
  exact ⟨this, by rw [lastN, this, if_neg h], by rw [lastT, this, if_neg h]⟩
theorem last_4 {s : ByteArray} (h : splitC s = 0) (h2 : splitN s = []) : lastC s = 4 ∧ lastN s = [] ∧ lastT s = ⟨#[]⟩ := by
  have : lastC s = 4 := by rw [lastC, if_pos h, if_pos h2]
  exact ⟨this, by rw [lastN, this, if_neg (by decide)], by rw [lastT, this, if_neg (by decide)]⟩
theorem last_0 {s : ByteArray} (h : splitC s = 0) (h2 : ¬ splitN s = []) : lastC s = 0 ∧ lastN s = (splitN s).take ((splitN s).length - 1) ∧ ∀ (j : Nat) x, j = (splitN s).length - 1 → (splitN s)[j]? = some x → lastT s = x := by
  have : lastC s = 0 := by rw [lastC, if_pos h, if_neg h2]
  exact ⟨this, by rw [lastN, if_pos this], fun j x hj hx => by rw [lastT, if_pos this, ← hj, hx]; rfl⟩
theorem len_nil {α : Type} {xs : List α} : (xs.length : Int) = 0 ↔ xs = [] := by rw [← List.length_eq_zero_iff]; omega
theorem lastN_ok (s : ByteArray) : (lastN s).length ≤ 6 ∧ ∀ x, x ∈ lastN s → nameFault x = 0 := by
  have h := splitN_ok s
  unfold lastN
  split
  · exact ⟨by rw [List.length_take]; omega, fun x hx => h.2 x (List.mem_of_mem_take hx)⟩
  · simp
theorem lastT_size (s : ByteArray) : (lastT s).size ≤ 4 := by
  unfold lastT
  split
  · cases hx : (splitN s)[(splitN s).length - 1]? with
    | none => exact Nat.zero_le _
    | some x => exact (name_4 ((splitN_ok s).2 x (List.mem_of_getElem? hx))).1
  · exact Nat.zero_le _
def parentR (s : ByteArray) : RText := if lastC s = 0 then ⟨0, joinB (lastN s)⟩ else ⟨lastC s, ⟨#[]⟩⟩
theorem parentR_c {s : ByteArray} (h : ¬ lastC s = 0) : parentR s = ⟨lastC s, ⟨#[]⟩⟩ := if_neg h
theorem parentR_0 {s : ByteArray} (h : lastC s = 0) : parentR s = ⟨0, joinB (lastN s)⟩ := if_pos h
def lastR (s : ByteArray) : RText := if lastC s = 0 then ⟨0, lastT s⟩ else ⟨lastC s, ⟨#[]⟩⟩
theorem lastR_c {s : ByteArray} (h : ¬ lastC s = 0) : lastR s = ⟨lastC s, ⟨#[]⟩⟩ := if_neg h
theorem lastR_0 {s : ByteArray} (h : lastC s = 0) : lastR s = ⟨0, lastT s⟩ := if_pos h
theorem parentR_size (s : ByteArray) : (parentR s).text.size ≤ 140737488351232 := by
  unfold parentR
  split
  · have h := lastN_ok s
    have := joinB_size h.2
    show (joinB (lastN s)).size ≤ _
    omega
  · exact Nat.zero_le _
theorem lastR_size (s : ByteArray) : (lastR s).text.size ≤ 140737488351232 := by
  have := lastT_size s
  unfold lastR
  split
  · show (lastT s).size ≤ _; omega
  · exact Nat.zero_le _
theorem joinR_size (xs : List ByteArray) : (joinR xs).text.size ≤ 140737488351232 := by
  unfold joinR
  split
  · rename_i h
    have := joinB_size (namesOk h).2
    have := (namesOk h).1
    show (joinB xs).size ≤ _
    omega
  · exact Nat.zero_le _
def belowB (p t : ByteArray) : Bool := decide (splitC p = 0 ∧ splitC t = 0 ∧ (splitN t).length < (splitN p).length ∧ (splitN p).take (splitN t).length = splitN t)
theorem below_n {p t : ByteArray} (h : ¬ (splitC p = 0 ∧ splitC t = 0 ∧ (splitN t).length < (splitN p).length)) : belowB p t = false := decide_eq_false fun h2 => h ⟨h2.1, h2.2.1, h2.2.2.1⟩
theorem below_t {p t : ByteArray} (h1 : splitC p = 0) (h2 : splitC t = 0) (h3 : (splitN t).length < (splitN p).length) : belowB p t = decide ((splitN p).take (splitN t).length = splitN t) := by
  unfold belowB
  rw [decide_eq_decide]
  exact ⟨fun h => h.2.2.2, fun h => ⟨h1, h2, h3, h⟩⟩
theorem below_e {p t : ByteArray} (h1 : splitC p = 0) (h2 : splitC t = 0) (h3 : (splitN t).length < (splitN p).length) {k : Nat} (hk : (splitN t).length ≤ k) (ha : ∀ (j : Nat), j < k → (splitN p)[j]? = (splitN t)[j]? ∨ (splitN t).length ≤ j) : belowB p t = true := by
  rw [below_t h1 h2 h3, decide_eq_true_iff]
  apply List.ext_getElem?
  intro j
  rw [List.getElem?_take]
  split
  · rcases ha j (by omega) with h | h
    · exact h
    · omega
  · rw [List.getElem?_eq_none (by omega)]
theorem below_ne {p t : ByteArray} {j : Nat} {x y : ByteArray} (hx : (splitN p)[j]? = some x) (hy : (splitN t)[j]? = some y) (hn : ¬ x = y) : belowB p t = false := by
  refine decide_eq_false fun h => hn ?_
  have hj := (List.getElem?_eq_some_iff.1 hy).1
  have : ((splitN p).take (splitN t).length)[j]? = (splitN t)[j]? := by rw [h.2.2.2]
  rw [List.getElem?_take, if_pos hj, hx, hy] at this
  exact Option.some.inj this
theorem ext_size {s : ByteArray} {a b B : Nat} (h : s.size ≤ B) : (ByteArray.extract s a b).size ≤ B := by rw [ByteArray.size_extract]; omega
end Go.Proofs.Ytkmcpcahbfdohaa
/- What is proved: the library's contracts on strings, told of our kinds. No condition. -/
namespace Go.Proofs.Ytkmcpcahbfdohaa
open Go Go.RowKit
set_option linter.unusedVariables false
set_option linter.unusedSimpArgs false
theorem ws_nil (w0 : World) (S0 : Bs) : WS w0 S0 [] w0 := ⟨fun _ => False, trivial, fun _ h => h.elim, Fr.refl _ _⟩
theorem cell_spot {w : World} {a : Addr} {v : Value} (h : w.cell? a = some v) : a = ⟨a.block, a.off, none⟩ := by
  unfold World.cell? at h
  split at h
  · split at h
    · cases h
    · rename_i hs
      cases a with
      | mk b o s =>
        cases s with
        | none => rfl
        | some x => exact absurd rfl hs
  · cases h
theorem pre_0 (l : List UInt8) : Lib.hasPrefix l [47] = decide (l[0]? = some 47) := by
  cases l with
  | nil => simp [Lib.hasPrefix]
  | cons b l =>
    by_cases h : b = 47
    · subst h; simp [Lib.hasPrefix, List.isPrefixOf]
    · have h' : ¬ (47 : UInt8) = b := fun e => h e.symm
      simp [Lib.hasPrefix, List.isPrefixOf, h, h']
theorem suf_0 (s : ByteArray) : Lib.hasSuffix s.data.toList [47] = decide (s.data.toList[s.size - 1]? = some 47) := by
  rw [← str_len]
  generalize s.data.toList = l
  unfold Lib.hasSuffix
  rw [List.isSuffixOf, Bool.eq_iff_iff, decide_eq_true_iff]
  have e : l[l.length - 1]? = l.reverse[0]? := by
    cases hl : l with
    | nil => rfl
    | cons b t => rw [← hl, List.getElem?_reverse (by rw [hl]; simp)]; simp
  rw [e]
  cases l.reverse with
  | nil => simp [List.isPrefixOf]
  | cons b t =>
    by_cases h : b = 47
    · subst h; simp [List.isPrefixOf]
    · have h' : ¬ (47 : UInt8) = b := fun e => h e.symm
      simp [List.isPrefixOf, h, h']
theorem prefix_con {P : Program} {f : FuncId} {w0 : World} {S0 : Bs} {s : ByteArray}
    (h1 : ∀ (s p : ByteArray) (w : World), Calls P f #[.string s, .string p] w fun e w' => e = .returned (.bool (Lib.hasPrefix s.data.toList p.data.toList)) ∧ w' = w) :
    Calls P f #[.string s, .string ⟨#[47]⟩] w0 (TriPost w0 S0 (fun r l => r = .bool (decide (s.data.toList[0]? = some 47)) ∧ l = [])) :=
  (h1 s ⟨#[47]⟩ w0).mono fun e w' ⟨he, hw⟩ => by
    subst hw
    exact ⟨_, _, he, ⟨by rw [← pre_0], rfl⟩, ws_nil _ _⟩
theorem suffix_con {P : Program} {f : FuncId} {w0 : World} {S0 : Bs} {s : ByteArray} (hs : s.size ≤ 140737488351232)
    (h1 : ∀ (s p : ByteArray) (w : World), s.size ≤ 9223372036854775807 → Calls P f #[.string s, .string p] w fun e w' => e = .returned (.bool (Lib.hasSuffix s.data.toList p.data.toList)) ∧ w' = w) :
    Calls P f #[.string s, .string ⟨#[47]⟩] w0 (TriPost w0 S0 (fun r l => r = .bool (decide (s.data.toList[s.size - 1]? = some 47)) ∧ l = [])) :=
  (h1 s ⟨#[47]⟩ w0 (by omega)).mono fun e w' ⟨he, hw⟩ => by
    subst hw
    exact ⟨_, _, he, ⟨by rw [← suf_0], rfl⟩, ws_nil _ _⟩
def MaxL (g : Nat) (w : World) (F : Bs) : Prop := ∃ m : Int, PtrRo (kint .i64) w F ⟨g, 0, none⟩ m
theorem MaxL.tr {g : Nat} {w0 w : World} {S0 S1 : Bs} {lr : List Asn} (tr : Tr w0 S0 w S1 lr) (h : MaxL g w0 (FF w0 S0)) : MaxL g w (FF w S1) := h.imp fun _ h => tr.ctxP h
theorem MaxL.cell {g : Nat} {w : World} {F : Bs} (h : MaxL g w F) : ∃ m : Int, w.cell? ⟨g, 0, none⟩ = some (.int .i64 m) := by
  obtain ⟨m, ecs, hF, ⟨rfl, -⟩, hc⟩ := h
  exact ⟨m, by simpa [Addr.add] using hc 0 _ rfl⟩
theorem MaxL.of {g : Nat} {w : World} {F : Bs} (hF : F g) (h : ∃ m : Int, w.cell? ⟨g, 0, none⟩ = some (.int .i64 m)) : MaxL g w F := by
  obtain ⟨m, hm⟩ := h
  refine ⟨m, [.int .i64 m], hF, ⟨rfl, trivial⟩, fun i u hu => ?_⟩
  cases i with
  | zero => simp at hu; subst hu; simpa [Addr.add] using hm
  | succ i => simp at hu
theorem MaxL.ofc {g : Nat} {w : World} (h : ∃ m : Int, w.cell? ⟨g, 0, none⟩ = some (.int .i64 m)) : MaxL g w (FF w (fun _ => False)) := by
  refine MaxL.of ⟨?_, fun h => h⟩ h
  obtain ⟨m, hm⟩ := h
  unfold World.cell? at hm
  split at hm
  · rename_i c _ _ hh
    exact (Array.getElem?_eq_some_iff.1 hh).1
  · cases hm
theorem split_con {P : Program} {f : FuncId} {g t by_ : Nat} {w0 : World} {S0 : Bs} {s : ByteArray} (hs : s.size ≤ 1000) (hb : by_ ≤ 1000) (hG : MaxL g w0 (FF w0 S0))
    (h1 : ∀ (s sep : ByteArray) (m : Int) (w : World), s.size < 4294967281 → w.cell? ⟨g, 0, none⟩ = some (.int .i64 m) → 1 ≤ sep.size → Calls P f #[.string s, .string sep] w fun e w' =>
      e = .returned (.slice (some ⟨w.heap.size, 0, none⟩) (Lib.countB s sep + 1) (Lib.countB s sep + 1)) ∧ w' = w.alloc (.cells ((Lib.splitB sep 0 (Lib.countB s sep) s).map Value.string).toArray t)) :
    Calls P f #[.string s, .string ⟨#[47]⟩] w0 (TriPost w0 S0 (fun r l => l = [ownA (kslice t by_ kstr) (cutB s) [r]])) := by
  obtain ⟨m, hm⟩ := hG.cell
  refine (h1 s ⟨#[47]⟩ m w0 (by omega) hm (by decide)).mono fun e w' ⟨he, hw⟩ => ?_
  have hl := Lib.splitB_all (⟨#[47]⟩ : ByteArray) (by decide) 0 _ s rfl
  have hc := splitB_cut s
  rw [hc] at hw hl
  rw [← hl] at he
  subst hw
  have h0 := (ws_nil w0 S0).new ((cutB s).map Value.string).toArray t 1 (cutB s).length (by simp)
  obtain ⟨S, hst, hbs, hf⟩ := h0
  have hlen : (cutB s).length ≤ 1001 := by
    have := cutL_len s.data.toList
    rw [str_len] at this
    unfold cutB
    rw [List.length_map]
    omega
  have hbig : (cutB s).length * by_ ≤ 1001 * 1000 := Nat.mul_le_mul hlen hb
  exact ⟨_, _, he, rfl, S, Star.one (c := ownA (kslice t by_ kstr) (cutB s) _) (lit_own (xs := cutB s) (by simpa using hst) rfl (fun x hx => by have := cutB_size hx; omega) (by omega) (by omega)), hbs, hf⟩
theorem join_con {P : Program} {f : FuncId} {t by_ : Nat} {w0 : World} {S0 : Bs} {xs : List ByteArray} {v : Value} (hx : (kslice t by_ kstr).ro w0 (FF w0 S0) xs [v]) (hok : ∀ s, s ∈ xs → nameFault s = 0) (hl : xs.length ≤ 6)
    (h0 : ∀ (a : Option Addr) (c : Nat) (sep : ByteArray) (w : World), Calls P f #[.slice a 0 c, .string sep] w fun e w' => e = .returned (.string ⟨#[]⟩) ∧ w' = w)
    (h1 : ∀ (bk o c : Nat) (xs : List ByteArray) (sep : ByteArray) (w : World), (∀ (j : Nat) x, xs[j]? = some x → w.cell? ⟨bk, o + j, none⟩ = some (.string x)) → bk < w.heap.size → xs.length ≤ 140737488355328 → xs.length ≤ c → (Lib.join (xs.map (·.data.toList)) sep.data.toList).length ≤ 140737488355328 →
      Calls P f #[.slice (some ⟨bk, o, none⟩) xs.length c, .string sep] w fun e w' => e = .returned (.string ⟨(Lib.join (xs.map (·.data.toList)) sep.data.toList).toArray⟩) ∧ Below w.heap.size w w') :
    Calls P f #[v, .string ⟨#[47]⟩] w0 (TriPost w0 S0 (fun r l => r = .string (bstr (Lib.join (xs.map (·.data.toList)) [47])) ∧ l = [])) := by
  obtain ⟨A, c, rfl, g1, g2, g3, g4⟩ := ro_form hx
  cases hxs : xs with
  | nil =>
    refine (h0 A c ⟨#[47]⟩ w0).mono fun e w' ⟨he, hw⟩ => ?_
    subst hw
    exact ⟨_, _, he, ⟨by simp [Lib.join, bstr], rfl⟩, ws_nil _ _⟩
  | cons y r =>
    rw [← hxs]
    obtain ⟨ad, rfl, hF, hc⟩ := g4 (by rw [hxs]; simp)
    have hcell : ∀ (j : Nat) x, xs[j]? = some x → w0.cell? (ad.add j) = some (.string x) := fun j x hx => by
      obtain ⟨ecs, ⟨rfl, -⟩, h⟩ := hc j x hx
      have := h 0 _ rfl
      simpa [kstr, kscalar] using this
    have h00 : w0.cell? ad = some (.string y) := by simpa [Addr.add] using hcell 0 y (by rw [hxs]; rfl)
    have e := cell_spot h00
    have hjl : (Lib.join (xs.map (·.data.toList)) [47]).length ≤ 140737488355328 := by
      have h2 := join_eq xs
      have h3 := joinB_size hok
      have h4 := congrArg ByteArray.size h2
      rw [ByteArray.size_append] at h4
      have h5 : (bstr (Lib.join (xs.map (·.data.toList)) [47])).size = (Lib.join (xs.map (·.data.toList)) [47]).length := by simp [bstr, ByteArray.size]
      omega
    have hlt : ad.block < w0.heap.size := hF.1
    have key := h1 ad.block ad.off c xs ⟨#[47]⟩ w0 (fun j x hx => by
      have := hcell j x hx
      rw [e] at this
      unfold Addr.add at this
      split at this
      · rename_i h; subst h; simpa using this
      · simpa using this) hlt (by omega) g1 hjl
    rw [e]
    refine key.mono fun e' w' ⟨he, hw⟩ => ⟨_, _, he, ⟨rfl, rfl⟩, fun _ => False, trivial, fun _ h => h.elim, Fr.of_below hw _⟩
end Go.Proofs.Ytkmcpcahbfdohaa
/- What is proved: small laws for what draws numbers from bytes. No condition. -/
namespace Go.Proofs.Ytkmcpcahbfdohaa
open Go Go.RowKit
theorem tmod_in {x n : Int} (hx : 0 ≤ x) (hn : 1 ≤ n) : 0 ≤ Int.tmod x n ∧ Int.tmod x n < n :=
  ⟨Int.tmod_nonneg _ hx, Int.tmod_lt_of_pos _ (by omega)⟩
theorem div_in {x n : Int} (hx : 0 ≤ x) (hn : 1 ≤ n) : 0 ≤ x / n ∧ x / n ≤ x :=
  ⟨Int.ediv_nonneg hx (by omega), Int.ediv_le_self _ hx⟩
theorem src_hl {α : Type} {K : Kd α} {e by_ : Nat} {w : World} {F : Bs} {xs : List α} {A : Option Addr} {c : Nat} (h : (kslice e by_ K).ro w F xs [.slice A xs.length c]) : xs.length ≤ c ∧ c ≤ 9223372036854775807 ∧ xs.length * by_ ≤ 140737488355328 := by
  obtain ⟨A', c', hv, h1, h2, h3, _⟩ := ro_form h
  cases hv
  exact ⟨h1, h2, h3⟩
end Go.Proofs.Ytkmcpcahbfdohaa

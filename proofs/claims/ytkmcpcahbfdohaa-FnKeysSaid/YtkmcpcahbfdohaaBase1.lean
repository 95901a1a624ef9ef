/- What is proved: plain facts for the laws' own helpers: weights, copies, equality, marks. No condition. -/
import Derived.Test.YtkmcpcahbfdohaaBase0
import Derived.Laws.BytesArg
import Derived.Laws.StructEq
import Derived.ChangeArms
import Derived.SizedLaws
import Derived.OpenShut
import Derived.ChangeMaps5
namespace Go.Proofs.Ytkmcpcahbfdohaa
set_option linter.unusedVariables false
set_option linter.unusedSimpArgs false
def sumF {α : Type} (f : α → Nat) : List α → Nat
  | [] => 0
  | x :: xs => f x + sumF f xs
theorem sumF_snoc {α : Type} (f : α → Nat) : ∀ (xs : List α) (x : α), sumF f (xs ++ [x]) = sumF f xs + f x
  | [], x => by simp [sumF]
  | y :: xs, x => by simp only [List.cons_append, sumF, sumF_snoc f xs x]; omega
theorem sumF_take {α : Type} (f : α → Nat) {xs : List α} {k : Nat} {x : α} (h : xs[k]? = some x) : sumF f (xs.take (k + 1)) = sumF f (xs.take k) + f x := by
  rw [List.take_add_one, h]; exact sumF_snoc f _ _
theorem sumF_all {α : Type} (f : α → Nat) {xs : List α} {k : Nat} (h : xs.length ≤ k) : sumF f (xs.take k) = sumF f xs := by rw [List.take_of_length_le h]
theorem sumF_le {α : Type} (f : α → Nat) : ∀ {xs : List α} {k : Nat}, sumF f (xs.take k) ≤ sumF f xs
  | [], k => by simp [sumF]
  | x :: xs, 0 => by simp [sumF]
  | x :: xs, k + 1 => by simp only [List.take_succ_cons, sumF]; have := sumF_le f (xs := xs) (k := k); omega
theorem sumF_one {α : Type} : ∀ xs : List α, sumF (fun _ => 1) xs = xs.length
  | [] => rfl
  | x :: xs => by simp only [sumF, sumF_one xs, List.length_cons]; omega
theorem sumF_get {α : Type} (f : α → Nat) {xs : List α} {k : Nat} {x : α} (h : xs[k]? = some x) : sumF f (xs.take k) + f x ≤ sumF f xs := by
  rw [← sumF_take f h]; exact sumF_le f
/-- A copy that grows. -/
def fillC {α : Type} (xs : List α) (z : α) (k : Nat) : List α := xs.take k ++ List.replicate (xs.length - k) z
theorem fillC_zero {α : Type} (xs : List α) (z : α) : List.replicate xs.length z = fillC xs z 0 := by simp [fillC]
theorem fillC_len {α : Type} {xs : List α} {z : α} {k : Nat} (h : k ≤ xs.length) : (fillC xs z k).length = xs.length := by simp [fillC]; omega
theorem fillC_set {α : Type} {xs : List α} {z : α} {k : Nat} {x : α} (h : xs[k]? = some x) : (fillC xs z k).set k x = fillC xs z (k + 1) := by
  have hk := (List.getElem?_eq_some_iff.1 h).1
  unfold fillC
  rw [List.take_add_one, h, List.set_append_right _ _ (by simp; omega)]
  have e : xs.length - k = (xs.length - (k + 1)) + 1 := by omega
  rw [e, List.replicate_succ]
  simp [Nat.min_eq_left (Nat.le_of_lt hk)]
theorem fillC_all {α : Type} {xs : List α} {z : α} {k : Nat} (h : xs.length ≤ k) : fillC xs z k = xs := by
  unfold fillC
  rw [List.take_of_length_le h, Nat.sub_eq_zero_of_le h]; simp
/-- Equality, element by element. -/
theorem eq_of_all {α : Type} {xs ys : List α} {k : Nat} (hl : (xs.length : Int) = (ys.length : Int)) (hk : xs.length ≤ k) (h : ∀ j, j < k → xs[j]? = ys[j]?) : xs = ys := by
  apply List.ext_getElem?
  intro j
  by_cases hj : j < k
  · exact h j hj
  · rw [List.getElem?_eq_none (by omega), List.getElem?_eq_none (by omega)]
theorem all_eq_zero {α : Type} {xs ys : List α} : ∀ j, j < 0 → xs[j]? = ys[j]? := fun j h => absurd h (Nat.not_lt_zero j)
theorem all_eq_succ {α : Type} {xs ys : List α} {k : Nat} {x y : α} (h : ∀ j, j < k → xs[j]? = ys[j]?) (hx : xs[k]? = some x) (hy : ys[k]? = some y) (e : x = y) : ∀ j, j < k + 1 → xs[j]? = ys[j]? := fun j hj => by
  by_cases hk : j = k
  · subst hk; rw [hx, hy, e]
  · exact h j (by omega)
theorem ne_of_get {α : Type} {xs ys : List α} {k : Nat} {x y : α} (hx : xs[k]? = some x) (hy : ys[k]? = some y) (e : ¬ x = y) : ¬ xs = ys := fun h => by
  subst h; rw [hx] at hy; exact e (Option.some.inj hy)
/-- Marks. -/
def markL {α : Type} (cnt : α → Nat) (mk : Int → α → α) : Int → List α → List α
  | _, [] => []
  | n, x :: xs => mk n x :: markL cnt mk (n + (cnt x : Int)) xs
theorem markL_len {α : Type} {cnt : α → Nat} {mk : Int → α → α} : ∀ (n : Int) (xs : List α), (markL cnt mk n xs).length = xs.length
  | _, [] => rfl
  | n, x :: xs => by simp [markL, markL_len]
theorem markL_snoc {α : Type} {cnt : α → Nat} {mk : Int → α → α} : ∀ (n : Int) (xs : List α) (x : α), markL cnt mk n (xs ++ [x]) = markL cnt mk n xs ++ [mk (n + (sumF cnt xs : Int)) x]
  | n, [], x => by simp [markL, sumF]
  | n, y :: xs, x => by
    simp only [List.cons_append, markL, markL_snoc (n + (cnt y : Int)) xs x, sumF]
    rw [show n + (cnt y : Int) + (sumF cnt xs : Int) = n + ((cnt y + sumF cnt xs : Nat) : Int) by omega]
theorem markL_take {α : Type} {cnt : α → Nat} {mk : Int → α → α} (n : Int) {xs : List α} {k : Nat} {x : α} (h : xs[k]? = some x) : markL cnt mk n (xs.take (k + 1)) = markL cnt mk n (xs.take k) ++ [mk (n + (sumF cnt (xs.take k) : Int)) x] := by
  rw [List.take_add_one, h]; exact markL_snoc n _ _
theorem markL_get {α : Type} {cnt : α → Nat} {mk : Int → α → α} : ∀ {n : Int} {xs : List α} {k : Nat} {y : α}, (markL cnt mk n xs)[k]? = some y → ∃ x, xs[k]? = some x ∧ y = mk (n + (sumF cnt (xs.take k) : Int)) x
  | n, [], k, y, h => by simp [markL] at h
  | n, x :: xs, 0, y, h => by
    simp [markL] at h
    exact ⟨x, rfl, by rw [← h]; simp [sumF]⟩
  | n, x :: xs, k + 1, y, h => by
    simp only [markL, List.getElem?_cons_succ] at h
    obtain ⟨z, h1, h2⟩ := markL_get h
    refine ⟨z, by simpa using h1, ?_⟩
    rw [h2]
    simp only [List.take_succ_cons, sumF]
    congr 1; omega
theorem markS_get {α : Type} {mk : Int → α → α} {n : Int} {xs ys : List α} {k : Nat} {y : α} (e : ys = markL (fun _ => 1) mk n xs) (h : ys[k]? = some y) : ∃ x, y = mk (n + (k : Int)) x := by
  subst e
  obtain ⟨x, hx, rfl⟩ := markL_get h
  have hk := (List.getElem?_eq_some_iff.1 hx).1
  exact ⟨x, by rw [sumF_one, List.length_take, Nat.min_eq_left (Nat.le_of_lt hk)]⟩
theorem markE_get {α : Type} {cnt : α → Nat} {mk : Int → α → α} {n : Int} {xs ys : List α} {k : Nat} {y : α} (e : ys = markL cnt mk n xs) (h : ys[k]? = some y) : ∃ x, xs[k]? = some x ∧ y = mk (n + (sumF cnt (xs.take k) : Int)) x := by
  subst e; exact markL_get h
theorem markE_len {α : Type} {cnt : α → Nat} {mk : Int → α → α} {n : Int} {xs ys : List α} (e : ys = markL cnt mk n xs) : ys.length = xs.length := by rw [e, markL_len]
/-- A slice of scalars, marked up to k. -/
def markS {α : Type} (mk : Int → α → α) (n : Int) (xs : List α) (k : Nat) : List α := markL (fun _ => 1) mk n (xs.take k) ++ xs.drop k
theorem markS_zero {α : Type} (mk : Int → α → α) (n : Int) (xs : List α) : xs = markS mk n xs 0 := by simp [markS, markL]
theorem markS_len {α : Type} {mk : Int → α → α} {n : Int} {xs : List α} {k : Nat} (h : k ≤ xs.length) : (markS mk n xs k).length = xs.length := by simp [markS, markL_len]; omega
theorem markS_set {α : Type} {mk : Int → α → α} {n : Int} {xs : List α} {k : Nat} {x : α} (hx : xs[k]? = some x) : (markS mk n xs k).set k (mk (n + (k : Int)) x) = markS mk n xs (k + 1) := by
  obtain ⟨h, rfl⟩ := List.getElem?_eq_some_iff.1 hx
  unfold markS
  rw [markL_take n hx, sumF_one, List.drop_eq_getElem_cons h, List.set_append_right _ _ (by rw [markL_len, List.length_take]; omega), markL_len, List.length_take, Nat.min_eq_left (Nat.le_of_lt h), Nat.sub_self, List.set_cons_zero]
  simp
theorem markS_all {α : Type} {mk : Int → α → α} {n : Int} {xs : List α} {k : Nat} (h : xs.length ≤ k) : markS mk n xs k = markL (fun _ => 1) mk n xs := by simp [markS, List.take_of_length_le h, List.drop_of_length_le h]
end Go.Proofs.Ytkmcpcahbfdohaa
/- What is proved: rows of one's own taken apart into bare cells and what the elements own, and put together again. No condition. -/
namespace Go.Proofs.Ytkmcpcahbfdohaa
open Go Go.RowKit
set_option linter.unusedVariables false
set_option linter.unusedSimpArgs false

/-- Bare cells. -/
def kraw (n : Nat) (hn : 0 < n) : Kd (List Value) where
  sz := n
  pos := hn
  ro _ _ x cs := cs = x ∧ x.length = n ∧ ∀ u, u ∈ x → u.oneCell' = true
  own _ _ x cs := cs = x ∧ x.length = n ∧ ∀ u, u ∈ x → u.oneCell' = true
  ro_len h := by rw [h.1]; exact h.2.1
  ro_one h u hu := by rw [h.1] at hu; exact h.2.2 u hu
  ro_up h _ := h
  ro_loc h _ := h
  own_ro h := h
  own_up h _ := h
  own_loc h _ := h
  own_lt h := h
/-- What the elements own. -/
def seqC {α : Type} (K : Kd α) (xs : List α) (css : List (List Value)) : Asn := ⟨Star (seqA K xs css), Star.up, Star.loc, Star.lt⟩
theorem seqC_nil {α : Type} {K : Kd α} (w : World) (S : Bs) : (seqC K [] []).p w S := trivial
theorem seqA_cons {α : Type} (K : Kd α) (x : α) (xs : List α) (c : List Value) (css : List (List Value)) : seqA K (x :: xs) (c :: css) = ownA K x c :: seqA K xs css := rfl
theorem drop_get {α : Type} {xs : List α} {k : Nat} {x : α} (h : xs[k]? = some x) : xs.drop k = x :: xs.drop (k + 1) := by
  obtain ⟨hk, rfl⟩ := List.getElem?_eq_some_iff.1 h
  exact List.drop_eq_getElem_cons hk
theorem take_get {α : Type} {xs : List α} {k : Nat} {x : α} (h : xs[k]? = some x) : xs.take (k + 1) = xs.take k ++ [x] := by
  rw [List.take_add_one, h]; rfl
theorem seq_pop {α : Type} {K : Kd α} {xs : List α} {css : List (List Value)} {k : Nat} {x : α} {c : List Value} (hx : xs[k]? = some x) (hc : css[k]? = some c) (w : World) (S : Bs) (h : (seqC K (xs.drop k) (css.drop k)).p w S) : Star [ownA K x c, seqC K (xs.drop (k + 1)) (css.drop (k + 1))] w S := by
  have h' : Star (seqA K (xs.drop k) (css.drop k)) w S := h
  rw [drop_get hx, drop_get hc, seqA_cons] at h'
  obtain ⟨A, B, h1, h2, a, b, d⟩ := h'
  exact ⟨A, B, h1, Star.one (c := seqC K _ _) h2, a, b, d⟩
theorem seq_snoc {α : Type} {K : Kd α} {xs : List α} {css : List (List Value)} {x : α} {c : List Value} (hl : css.length = xs.length) (w : World) (S : Bs) (h : Star [seqC K xs css, ownA K x c] w S) : (seqC K (xs ++ [x]) (css ++ [c])).p w S := by
  obtain ⟨A, B, h1, h2, a, b, d⟩ := h
  exact seq_app hl h1 (show Star (seqA K [x] [c]) w B from h2) a b d
theorem seq_same {α : Type} {K : Kd α} {xs xs' : List α} {css css' : List (List Value)} (h : xs = xs') (h2 : css = css') (w : World) (S : Bs) (hp : (seqC K xs css).p w S) : (seqC K xs' css').p w S := by subst h; subst h2; exact hp
theorem seq_snoc' {α : Type} {K : Kd α} {xs xs' : List α} {css css' : List (List Value)} {x : α} {c : List Value} (hl : css.length = xs.length) (h1 : xs ++ [x] = xs') (h2 : css ++ [c] = css') (w : World) (S : Bs) (h : Star [seqC K xs css, ownA K x c] w S) : (seqC K xs' css').p w S := by subst h1; subst h2; exact seq_snoc hl w S h
theorem take_set {css : List (List Value)} {k : Nat} {c c' : List Value} (h : css[k]? = some c) : css.take k ++ [c'] = (css.set k c').take (k + 1) := by
  obtain ⟨hk, _⟩ := List.getElem?_eq_some_iff.1 h
  rw [List.take_add_one, List.getElem?_set_self hk, List.take_set_of_le (Nat.le_refl k)]; rfl
theorem drop_set {css : List (List Value)} {k : Nat} {c' : List Value} : css.drop (k + 1) = (css.set k c').drop (k + 1) := by rw [List.drop_set_of_lt (Nat.lt_succ_self k)]
theorem set_get {css : List (List Value)} {k : Nat} {c c' : List Value} (h : css[k]? = some c) : (css.set k c')[k]? = some c' := by
  obtain ⟨hk, _⟩ := List.getElem?_eq_some_iff.1 h
  exact List.getElem?_set_self hk
theorem raw_seq {n : Nat} {hn : 0 < n} : ∀ {css : List (List Value)}, (∀ c, c ∈ css → c.length = n ∧ ∀ u, u ∈ c → u.oneCell' = true) → ∀ (w : World) (S : Bs), Star (seqA (kraw n hn) css css) w S
  | [], _, _, _ => trivial
  | c :: css, h, w, S => ⟨fun _ => False, fun _ => False, ⟨rfl, h c List.mem_cons_self⟩, raw_seq (fun d hd => h d (List.mem_cons_of_mem _ hd)) w _, fun _ h => h.elim, fun _ h => h.elim, fun _ h => h.elim⟩
theorem raw_eq {n : Nat} {hn : 0 < n} : ∀ {xs css : List (List Value)} {w : World} {S : Bs}, css.length = xs.length → Star (seqA (kraw n hn) xs css) w S → css = xs
  | [], [], _, _, _, _ => rfl
  | [], _ :: _, _, _, h, _ => by simp at h
  | _ :: _, [], _, _, h, _ => by simp at h
  | x :: xs, c :: css, w, S, hl, h => by
    have h1 : (kraw n hn).own w S x c := Star.head (c := ownA (kraw n hn) x c) h
    rw [h1.1, raw_eq (by simpa using hl) (Star.drop (c := ownA (kraw n hn) x c) h)]
theorem raw_lens {n : Nat} {hn : 0 < n} {css : List (List Value)} {w : World} {S : Bs} (h : Star (seqA (kraw n hn) css css) w S) : ∀ c, c ∈ css → c.length = n ∧ ∀ u, u ∈ c → u.oneCell' = true := fun c hc => by
  obtain ⟨j, hj, rfl⟩ := List.mem_iff_getElem.1 hc
  exact (seq_at h (List.getElem?_eq_getElem hj) (List.getElem?_eq_getElem hj)).2
theorem seq_ones {α : Type} {K : Kd α} {xs : List α} {css : List (List Value)} {w : World} {S : Bs} (hl : css.length = xs.length) (h : Star (seqA K xs css) w S) : ∀ c, c ∈ css → c.length = K.sz ∧ ∀ u, u ∈ c → u.oneCell' = true := fun c hc => by
  obtain ⟨j, hj, rfl⟩ := List.mem_iff_getElem.1 hc
  obtain ⟨y, hy⟩ := get_ex (xs := xs) (j := j) (by omega)
  have ho := seq_at h hy (List.getElem?_eq_getElem hj)
  exact ⟨own_len ho, K.ro_one (K.own_ro ho)⟩
/-- A slice of one's own, apart. -/
theorem own_raw {α : Type} {K : Kd α} {e by_ : Nat} {xs : List α} {v : Value} (w : World) (S : Bs) (h : Star [ownA (kslice e by_ K) xs [v]] w S) : ∃ css : List (List Value), css.length = xs.length ∧ Star [ownA (kslice e by_ (kraw K.sz K.pos)) css [v], seqC K xs css] w S := by
  rcases (show (kslice e by_ K).own w S xs [v] from h.head (c := ownA _ _ _)) with ⟨A, hv, rfl⟩ | ⟨g, c, css, hv, h1, h2, h3, h4, h5⟩
  · exact ⟨[], rfl, fun _ => False, fun _ => False, .inl ⟨A, hv, rfl⟩, Star.one (c := seqC K _ _) trivial, fun _ h => h.elim, fun _ h => h.elim, fun _ h => h.elim⟩
  · obtain ⟨A, B, hA, hB, a, b, d⟩ := h5
    refine ⟨css, h4, A, B, .inr ⟨g, c, css, by rw [h4]; exact hv, by rw [h4]; exact h1, h2, by rw [h4]; exact h3, rfl, A, fun _ => False, hA, raw_seq (seq_ones h4 hB) w _, fun _ h => h, fun _ h => h.elim, fun _ _ h => h⟩, Star.one (c := seqC K _ _) hB, a, b, d⟩
/-- Put together. -/
theorem raw_own {α : Type} {K : Kd α} {e by_ : Nat} {xs : List α} {css : List (List Value)} {v : Value} (hl : css.length = xs.length) (w : World) (S : Bs) (h : Star [ownA (kslice e by_ (kraw K.sz K.pos)) css [v], seqC K xs css] w S) : (ownA (kslice e by_ K) xs [v]).p w S := by
  obtain ⟨A, B, hA, hB, a, b, d⟩ := h
  have hB' : Star (seqA K xs css) w B := hB.head (c := seqC K xs css)
  rcases (show (kslice e by_ (kraw K.sz K.pos)).own w A css [v] from hA) with ⟨A0, hv, rfl⟩ | ⟨g, c, cs2, hv, h1, h2, h3, h4, h5⟩
  · obtain rfl := List.eq_nil_of_length_eq_zero (show xs.length = 0 from hl.symm)
    exact .inl ⟨A0, hv, rfl⟩
  · obtain ⟨C, D, hC, hD, i, j, dd⟩ := h5
    obtain rfl := raw_eq h4 hD
    exact .inr ⟨g, c, _, by rw [hl] at hv; exact hv, by rw [hl] at h1; exact h1, h2, by rw [hl] at h3; exact h3, hl, C, B, hC, hB', fun x hx => a x (i x hx), b, fun x hx => d x (i x hx)⟩
theorem raw_own' {α : Type} {K : Kd α} {e by_ : Nat} {xs xs' : List α} {css css2 : List (List Value)} {v : Value} (hl : css.length = xs'.length) (h1 : xs = xs') (h2 : css2 = css) (w : World) (S : Bs) (h : Star [ownA (kslice e by_ (kraw K.sz K.pos)) css [v], seqC K xs css2] w S) : (ownA (kslice e by_ K) xs' [v]).p w S := by
  subst h1; subst h2; exact raw_own hl w S h
/-- A part of a slice. -/
def subL {α : Type} (xs : List α) (a b : Nat) : List α := (xs.take b).drop a
theorem subL_len {α : Type} {xs : List α} {a b : Nat} (hb : b ≤ xs.length) : (subL xs a b).length = b - a := by simp [subL, Nat.min_eq_left hb]
theorem subL_get {α : Type} {xs : List α} {a b j : Nat} {x : α} (h : (subL xs a b)[j]? = some x) : xs[a + j]? = some x := by
  unfold subL at h
  rw [List.getElem?_drop, List.getElem?_take] at h
  split at h
  · exact h
  · cases h
theorem subL_erase {α : Type} (xs : List α) (q : Nat) : subL xs 0 q ++ subL xs (q + 1) xs.length = xs.eraseIdx q := by
  rw [List.eraseIdx_eq_take_drop_succ]; simp [subL]
theorem ro_he {α : Type} {K : Kd α} {e by_ : Nat} {w : World} {F : Bs} {xs : List α} {A : Option Addr} {n c : Nat} (h : (kslice e by_ K).ro w F xs [.slice A n c]) : 0 < xs.length → ∃ ad, A = some ad ∧ RoAt K w F ad xs := fun hp => by
  obtain ⟨A', c', hv, _, _, _, h4⟩ := ro_form h
  obtain ⟨ad, ha, hr⟩ := h4 hp
  injection hv with h1 _ _
  exact ⟨ad, h1.trans ha, hr⟩
theorem ro_sub {α : Type} {K : Kd α} {e by_ : Nat} {w : World} {F : Bs} {xs : List α} {A A' : Option Addr} {c a b : Nat} (hA : A' = (if c = a then A else A.map (·.add (a * K.sz)))) (h : (kslice e by_ K).ro w F xs [.slice A xs.length c]) (hab : a ≤ b) (hb : b ≤ xs.length) : (kslice e by_ K).ro w F (subL xs a b) [.slice A' (subL xs a b).length (c - a)] := by
  obtain ⟨A0, c0, hv, h1, h2, h3, h4⟩ := ro_form h
  injection hv with e1 e2 e3
  subst e1; subst e3
  have hl := subL_len (a := a) hb
  refine ⟨A', c - a, rfl, by rw [hl]; omega, by omega, by rw [hl]; have : (b - a) * by_ ≤ xs.length * by_ := Nat.mul_le_mul_right _ (by omega); omega, fun hp => ?_⟩
  rw [hl] at hp
  obtain ⟨ad, rfl, hF, hr⟩ := h4 (by omega)
  rw [if_neg (by omega)] at hA
  refine ⟨ad.add (a * K.sz), hA, by rw [add_block]; exact hF, fun j x hx => ?_⟩
  obtain ⟨ecs, k1, k2⟩ := hr (a + j) x (subL_get hx)
  refine ⟨ecs, k1, fun i u hu => ?_⟩
  rw [add_add, show a * K.sz + (j * K.sz + i) = (a + j) * K.sz + i by rw [Nat.add_mul]; omega]
  exact k2 i u hu
theorem PtrRo.wide {α : Type} {K : Kd α} {w w' : World} {F F' : Bs} {ad : Addr} {x : α} (h : PtrRo K w F ad x) (hw : ∀ b, F b → F' b ∧ w'.heap[b]? = w.heap[b]?) : PtrRo K w' F' ad x := by
  obtain ⟨ecs, h1, h2, h3⟩ := h
  exact ⟨ecs, (hw _ h1).1, K.ro_up (K.ro_loc h2 (fun b hb => (hw b hb).2)) (fun b hb => (hw b hb).1), fun i u hu => (cell_loc (by rw [add_block]; exact (hw _ h1).2)).trans (h3 i u hu)⟩
section
variable {P : Program} {T : Slots} {Wd : World → Prop} {o : Oper} {N : Nat} {w0 : World} {S0 : Bs} {l l' lk : List Asn}
/-- A struct that lies in another. -/
theorem Tr.elsub {α : Type} {K : Kd α} {w : World} {S1 : Bs} {lr : List Asn} {B : Addr} {ecs cs : List Value} {k : Nat} {x : α} (tr : Tr w0 S0 w S1 lr) (hF : FF w0 S0 B.block) (hr : K.ro w0 (FF w0 S0) x cs) (hc : ∀ (i : Nat) (u : Value), ecs[i]? = some u → w0.cell? (B.add i) = some u) (hs : ∀ (i : Nat) (u : Value), cs[i]? = some u → ecs[k + i]? = some u) : PtrRo K w (FF w S1) (B.add k) x :=
  tr.ctxP ⟨cs, by rw [add_block]; exact hF, hr, fun i u hu => by rw [add_add]; exact hc _ _ (hs i u hu)⟩
theorem Tr.ptrsub {α : Type} {K : Kd α} {w : World} {S1 : Bs} {lr : List Asn} {g e sz c k : Nat} {ecs cs : List Value} {x : α} (tr : Tr w0 S0 w S1 lr) (tk : Take lr (rowA g e sz c ecs) l') (hr : K.ro w (FF w S1) x cs) (hs : ∀ (i : Nat) (u : Value), cs[i]? = some u → ecs[k + i]? = some u) : PtrRo K w (FF w S1) ((⟨g, 0, none⟩ : Addr).add k) x := by
  obtain ⟨S2, hst, hsub⟩ := tr.all
  have h := (hst.take tk).head
  refine ⟨cs, by rw [add_block]; exact hsub _ h.1, hr, fun i u hu => ?_⟩
  rw [add_add, add_plain']
  exact row_cell h (hs i u hu)
/-- An element that is a slice: one cell. -/
theorem WS.osl1 {α : Type} {K : Kd α} {e by_ : Nat} {xs : List α} {cs : List Value} (ht : Take l (ownA (kslice e by_ K) xs cs) l') : ∀ w, WS w0 S0 l w → ∃ v, cs = [v] := fun w hw => by
  obtain ⟨S, hs, _, _⟩ := hw.take ht
  exact osl_one (show (kslice e by_ K).own w S xs cs from hs.head)
theorem q_sliceL {α : Type} {xs : List α} {x : Operand} {t e : TypeId} {sz : Nat} {lo hi : Option Operand} {a b c : Nat} {A A' : Option Addr} (ho : o.op = .slice t x lo hi none) (ht : P.underlying t = some (.slice e)) (he : (P.info? e).map (·.size) = some sz) (hx : Val T x (.slice A xs.length c)) (hA : A' = (if c = a then A else A.map (·.add (a * sz))))
    (hlo : (lo = none ∧ a = 0) ∨ ∃ z k, lo = some z ∧ Val T z (.int k (a : Int))) (hhi : (hi = none ∧ b = xs.length) ∨ ∃ z k, hi = some z ∧ Val T z (.int k (b : Int))) (h1 : a ≤ b) (h2 : b ≤ xs.length) (h3 : xs.length ≤ c) :
    Quiet P o T Wd (.slice A' (subL xs a b).length (c - a)) := by
  rw [subL_len h2, hA]
  exact q_slice ho ht he hx hlo hhi h1 (Nat.le_trans h2 h3)
/-- A bare cell. -/
theorem WS.raw {n : Nat} {hn : 0 < n} {e by_ : Nat} {css : List (List Value)} {ad : Addr} {m c j i : Nat} {cs : List Value} {u : Value} (ht : Take l (ownA (kslice e by_ (kraw n hn)) css [.slice (some ad) m c]) l') (hc : css[j]? = some cs) (hu : cs[i]? = some u) : ∀ w, WS w0 S0 l w → w.cell? ((ad.add (j * n)).add i) = some u := fun w hw => by
  obtain ⟨S, hs, _, _⟩ := hw.take ht
  obtain ⟨A', c', h, _, _, _, h4⟩ := ro_form ((kslice e by_ (kraw n hn)).own_ro (show (kslice e by_ (kraw n hn)).own w S css _ from hs.head))
  obtain ⟨ad', ha, hr⟩ := h4 (by have := (List.getElem?_eq_some_iff.1 hc).1; omega)
  injection h with g1 g2 g3
  rw [ha] at g1
  obtain rfl := Option.some.inj g1
  obtain ⟨ecs, ⟨rfl, _⟩, _, hcc⟩ := hr.elem hc
  exact hcc i _ hu
theorem WS.raw0 {n : Nat} {hn : 0 < n} {e by_ : Nat} {css : List (List Value)} {ad : Addr} {m c j : Nat} {cs : List Value} {u : Value} (ht : Take l (ownA (kslice e by_ (kraw n hn)) css [.slice (some ad) m c]) l') (hc : css[j]? = some cs) (hu : cs[0]? = some u) : ∀ w, WS w0 S0 l w → w.cell? (ad.add (j * n)) = some u := fun w hw => by
  have := WS.raw ht hc hu w hw
  rwa [add_add, Nat.add_zero] at this
theorem WS.raws {n : Nat} {hn : 0 < n} {e by_ : Nat} {css : List (List Value)} {ad : Addr} {m c j : Nat} {cs : List Value} (ht : Take l (ownA (kslice e by_ (kraw n hn)) css [.slice (some ad) m c]) l') (hc : css[j]? = some cs) : ∀ w, WS w0 S0 l w → ∀ (i : Nat) (u : Value), cs[i]? = some u → w.cell? ((ad.add (j * n)).add i) = some u := fun w hw i u hu => WS.raw ht hc hu w hw
theorem WS.rawsub {n : Nat} {hn : 0 < n} {e by_ : Nat} {css : List (List Value)} {ad : Addr} {m c j k : Nat} {cs ds : List Value} (ht : Take l (ownA (kslice e by_ (kraw n hn)) css [.slice (some ad) m c]) l') (hc : css[j]? = some cs) (hs : ∀ (i : Nat) (u : Value), ds[i]? = some u → cs[k + i]? = some u) : ∀ w, WS w0 S0 l w → ∀ (i : Nat) (u : Value), ds[i]? = some u → w.cell? (((ad.add (j * n)).add k).add i) = some u := fun w hw i u hu => by
  rw [add_add]; exact WS.raw ht hc (hs i u hu) w hw
/-- The lengths of bare elements. -/
theorem WS.rawlen {n : Nat} {hn : 0 < n} {e by_ : Nat} {css : List (List Value)} {v : Value} {j : Nat} {cs : List Value} (ht : Take l (ownA (kslice e by_ (kraw n hn)) css [v]) l') (hc : css[j]? = some cs) : ∀ w, WS w0 S0 l w → cs.length = n := fun w hw => by
  obtain ⟨S, hs, _, _⟩ := hw.take ht
  have h : (kslice e by_ (kraw n hn)).own w S css [v] := hs.head
  obtain ⟨A', c', rfl, _, _, _, h4⟩ := ro_form ((kslice e by_ (kraw n hn)).own_ro h)
  obtain ⟨ad', ha, hr⟩ := h4 (by have := (List.getElem?_eq_some_iff.1 hc).1; omega)
  obtain ⟨ecs, ⟨rfl, h, _⟩, _⟩ := hr.elem hc
  exact h
theorem putAt_ones {fl cs : List Value} {off : Nat} (h : ∀ u, u ∈ fl → u.oneCell' = true) (h2 : ∀ u, u ∈ cs → u.oneCell' = true) : ∀ u, u ∈ putAt fl off cs → u.oneCell' = true := fun u hu => by
  unfold putAt at hu
  rcases List.mem_append.1 hu with hu | hu
  · rcases List.mem_append.1 hu with hu | hu
    · exact h u (List.mem_of_mem_take hu)
    · exact h2 u hu
  · exact h u (List.mem_of_mem_drop hu)
theorem flatten_put {css : List (List Value)} {n : Nat} {c cs : List Value} {off : Nat} (hl : ∀ c, c ∈ css → c.length = n) (hb : off + cs.length ≤ n) : ∀ {j : Nat}, css[j]? = some c → putAt css.flatten (j * n + off) cs = (css.set j (putAt c off cs)).flatten := by
  induction css with
  | nil => intro j hj; simp at hj
  | cons d css ih =>
    intro j hj
    have hd := hl d List.mem_cons_self
    cases j with
    | zero =>
      simp at hj; subst hj
      simp only [List.set_cons_zero, List.flatten_cons, putAt, Nat.zero_mul, Nat.zero_add]
      rw [List.take_append_of_le_length (by omega), List.drop_append_of_le_length (by omega)]
      simp only [List.append_assoc]
    | succ j =>
      simp only [List.set_cons_succ, List.flatten_cons]
      rw [← ih (fun c hc => hl c (List.mem_cons_of_mem _ hc)) (by simpa using hj)]
      have e1 : (j + 1) * n + off = d.length + (j * n + off) := by rw [Nat.succ_mul, hd]; omega
      have e2 : (d ++ css.flatten).take (d.length + (j * n + off)) = d ++ css.flatten.take (j * n + off) := by
        rw [List.take_append, List.take_of_length_le (by omega), Nat.add_sub_cancel_left]
      have e3 : (d ++ css.flatten).drop (d.length + (j * n + off) + cs.length) = css.flatten.drop (j * n + off + cs.length) := by
        rw [List.drop_append, List.drop_of_length_le (by omega), List.nil_append]
        congr 1; omega
      simp only [putAt, e1, e2, e3, List.append_assoc]
/-- A store into a bare element. -/
theorem es_raw {n : Nat} {hn : 0 < n} {e by_ : Nat} {css : List (List Value)} {c0 cs : List Value} {ad : Addr} {m c j off : Nat} {p x : Operand} {t : TypeId} {v : Value} {B : Addr} (ho : o.op = .store t p x) (hi : (P.info? t).map (·.size) = some cs.length) (hp : Val T p (.pointer (some B))) (hB : B = ad.add (j * n + off)) (hx : Val T x v) (hv : v.cells.toList = cs)
    (h1 : ∀ u, u ∈ cs → u.oneCell' = true) (hT : Take l (ownA (kslice e by_ (kraw n hn)) css [.slice (some ad) m c]) l') (hj : css[j]? = some c0) (hb : off + cs.length ≤ n) : EffS P o T w0 S0 l (ownA (kslice e by_ (kraw n hn)) (css.set j (putAt c0 off cs)) [.slice (some ad) m c] :: l') := by
  intro a w ha hw
  subst hB
  obtain ⟨S1, hA, _, hk⟩ := (hw.takes (.c hT .n)).eff
  have hA' : (kslice e by_ (kraw n hn)).own w S1 css [.slice (some ad) m c] := hA.head (c := ownA _ _ _)
  obtain ⟨i0, k1, k2⟩ := Option.map_eq_some_iff.1 hi
  rcases hA' with ⟨A, h, rfl⟩ | ⟨g, c', css', h, h1', h2, h3, h4, h5⟩
  · simp at hj
  have h' := List.singleton_inj.1 h
  injection h' with g1 g2 g3
  obtain rfl := Option.some.inj g1
  subst g2; subst g3
  obtain ⟨B1, B2, ⟨hg, cur, q1, q2, q3, q4⟩, hseq, i1, i2, dd⟩ := h5
  have he := raw_eq h4 hseq
  rw [he] at hseq q3 q4
  have hraw := raw_lens hseq
  have hlen : ∀ d, d ∈ css → d.length = n := fun d hd => (hraw d hd).1
  have hfl : css.flatten.length = css.length * n := flatten_len hlen
  have hjl := (List.getElem?_eq_some_iff.1 hj).1
  have hc0 := hlen c0 (List.mem_of_getElem? hj)
  have hmul : (j + 1) * n ≤ css.length * n := Nat.mul_le_mul_right _ hjl
  rw [Nat.succ_mul] at hmul
  have hbd : j * n + off + cs.length ≤ css.flatten.length := by rw [hfl]; omega
  have hsz : (kraw n hn).sz = n := rfl
  rw [hsz] at q2
  have hst := run_storeCells_at P g (j * n + off) e cs 0 cur w q1 (by omega) h1
  simp only [Nat.add_zero] at hst
  have hne : ∀ b, b ≠ g → (w.setRow g (cur.toList.take (j * n + off) ++ cs ++ cur.toList.drop (j * n + off + cs.length)).toArray).heap[b]? = w.heap[b]? := fun b hb => setRow_other w g b _ hb
  refine ⟨w.setRow g (cur.toList.take (j * n + off) ++ cs ++ cur.toList.drop (j * n + off + cs.length)).toArray, ?_, hk _ [ownA (kslice e by_ (kraw n hn)) (css.set j (putAt c0 off cs)) [.slice (some ⟨g, 0, none⟩) css.length c]] S1 (Star.one (c := ownA (kslice e by_ (kraw n hn)) _ _) ?_) (fun b hb => .inl hb) ?_⟩
  · have hsz : v.cells.size = i0.size := by rw [k2, ← hv, Array.length_toList]
    simp only [execOp, ho, hp a ha, hx a ha]
    rw [add_plain']
    simp [Instr.storeAt, Instr.sureAddr, storeVar, sizeOf, typeInfo, k1, hsz, hv, hst]
  · refine .inr ⟨g, c, css.set j (putAt c0 off cs), by rw [List.length_set], by rw [List.length_set]; exact h1', h2, by rw [List.length_set]; exact h3, rfl, ?_⟩
    refine ⟨fun b => b = g, fun b => False, ⟨rfl, _, setRow_heap w g cur _ e _ q1, ?_, ?_, ?_⟩, raw_seq (fun d hd => ?_) _ _, fun b hb => hb ▸ i1 g hg, fun b hb => hb.elim, fun b hb hb' => hb'⟩
    · simp only [List.size_toArray, List.length_append, List.length_take, List.length_drop, Array.length_toList, hsz]; omega
    · rw [← flatten_put hlen hb hj, putAt_len hbd]; simp only [List.size_toArray, List.length_append, List.length_take, List.length_drop, Array.length_toList]; omega
    · rw [← flatten_put hlen hb hj, putAt_len hbd]
      have := take_put (L := cur.toList) (cs := cs) (off := j * n + off) (n := css.flatten.length) hbd (by rw [Array.length_toList]; exact q3)
      rw [q4] at this
      exact this
    · rcases List.mem_or_eq_of_mem_set hd with hd | rfl
      · exact hraw d hd
      · exact ⟨by rw [putAt_len (by omega)]; exact hc0, putAt_ones (hraw c0 (List.mem_of_getElem? hj)).2 h1⟩
  · exact ⟨rfl, rfl, rfl, by simp, fun b hb hn' => hne b (fun e => hn' (e ▸ i1 g hg))⟩
/-- Elements that are read, copied bare. -/
theorem e_appendRaw {α : Type} {K : Kd α} {F : Bs} {wF : World} {e by_ e2 by2 : Nat} {ys : List α} {z v xv : Value} {s x : Operand} {t : TypeId} (ho : o.op = .call { callee := .builtin .append, args := #[s, x], argTypes := #[t, t] }) (ht : P.underlying t = some (.slice e))
    (hi : (P.info? e).map (fun i => (i.size, i.bytes, i.zero)) = some (K.sz, by_, some z)) (hz : z.cells.size = K.sz) (hs : Val T s v) (hx : Val T x xv)
    (hT : Takes l [ownA (kslice e by_ (kraw K.sz K.pos)) [] [v]] l') (hF : ∀ b, F b → FF w0 S0 b ∧ w0.heap[b]? = wF.heap[b]?) (hsrc : (kslice e2 by2 K).ro wF F ys [xv]) (hb : ys.length * by_ ≤ 140737488355328) (h63 : ys.length ≤ 9223372036854775807) :
    Eff P o T w0 S0 l (fun r l2 => ∃ css : List (List Value), css.length = ys.length ∧ (∀ (j : Nat) (y : α) (c : List Value), ys[j]? = some y → css[j]? = some c → K.ro wF F y c) ∧ l2 = ownA (kslice e by_ (kraw K.sz K.pos)) css [r] :: l') := by
  intro a w ha hw
  have hfr : ∀ b, F b → w.heap[b]? = wF.heap[b]? := fun b hb => by obtain ⟨_, _, _, hf⟩ := hw; exact (hf.block b (hF b hb).1.1 (hF b hb).1.2).trans (hF b hb).2
  obtain ⟨S1, hA, tr, hk⟩ := (hw.takes hT).eff
  obtain ⟨css, h1, h2, h3⟩ := src_flat ((kslice e2 by2 K).ro_loc hsrc hfr)
  have hro : ∀ (j : Nat) (y : α) (c : List Value), ys[j]? = some y → css[j]? = some c → K.ro wF F y c := fun j y c h k => K.ro_loc (h3 j y c h k) (fun b hb => (hfr b hb).symm)
  have hones : ∀ c, c ∈ css → c.length = K.sz ∧ ∀ u, u ∈ c → u.oneCell' = true := fun c hc => by
    obtain ⟨j, hj, rfl⟩ := List.mem_iff_getElem.1 hc
    obtain ⟨y, hy⟩ := get_ex (xs := ys) (j := j) (by omega)
    have := hro j y _ hy (List.getElem?_eq_getElem hj)
    exact ⟨K.ro_len this, K.ro_one this⟩
  have hseq := raw_seq (n := K.sz) (hn := K.pos) hones w (fun _ => False)
  obtain ⟨v', w', S'', hr, hown, hsub, hfr2⟩ := own_append (P := P) (t := t) (ty := o.type) (K := kraw K.sz K.pos) (xs := []) (ys := css) (css := css) (xv := xv) (S := S1) (S' := fun _ => False) ht hi hz (show (kslice e by_ (kraw K.sz K.pos)).own w S1 [] [v] from hA.head) (by rw [h1]; exact h2) rfl hseq (fun _ _ h => h) (by simp only [List.length_nil, Nat.zero_add, h1]; exact hb) (by simp only [List.length_nil, Nat.zero_add, h1]; exact h63)
  refine ⟨v', w', _, ?_, ⟨css, h1, hro, rfl⟩, hk w' [ownA (kslice e by_ (kraw K.sz K.pos)) css [v']] S'' (Star.one hown) (fun b hb => ?_) hfr2⟩
  · rw [exec_append ho (hs a ha) (hx a ha), hr]; rfl
  · rcases hsub b hb with h | h | h
    · exact .inl h
    · exact h.elim
    · exact .inr h
/-- A literal without elements. -/
theorem e_buildNil {t e : TypeId} {sz : Nat} {z : Value} (ho : o.op = .buildSlice t 0 #[]) (ht : P.underlying t = some (.slice e)) (he : (P.info? e).map (fun i => (i.size, i.zero)) = some (sz, some z)) : Eff P o T w0 S0 l (fun r l' => ∃ g, r = .slice (some ⟨g, 0, none⟩) 0 0 ∧ l' = rowA g e sz 0 [] :: l) := by
  intro a w ha hw
  obtain ⟨i0, h1, h2⟩ := Option.map_eq_some_iff.1 he
  obtain ⟨h2, h3⟩ := Prod.mk.inj h2
  refine ⟨.slice (some ⟨w.heap.size, 0, none⟩) 0 0, w.alloc (.cells #[] e), _, ?_, ⟨_, rfl, rfl⟩, hw.new #[] e sz 0 (by simp)⟩
  simp only [execOp, ho]
  simp [Instr.buildSlice, run_underlying ht, sizeOf, typeInfo, h1, h2, h3, newRow, Instr.fill]
  have h0 : Array.range 0 = #[] := by apply Array.ext <;> simp
  rw [h0, Array.map_empty]
theorem e_buildSliceL {t e : TypeId} {len sz : Nat} {parts : Array (Nat × Operand)} {ps : List (Nat × Value)} {z : Value} {zc cs : List Value} (ho : o.op = .buildSlice t len parts) (ht : P.underlying t = some (.slice e)) (he : (P.info? e).map (fun i => (i.size, i.zero)) = some (sz, some z)) (hlen : len * sz ≤ 16777216)
    (hps : ∀ a : Act, Holds T a → (parts.map fun (i, x) => (i, a.eval x)) = ps.toArray) (hz : z.cells.toList = zc) (hzl : zc.length = sz) (hpos : 0 < sz) (hfill : Instr.fill (fun i => some (i * sz, sz)) (List.replicate len zc).flatten.toArray ps = some cs.toArray) (hcs : cs.length = len * sz) :
    Eff P o T w0 S0 l (fun r l' => ∃ g, r = .slice (some ⟨g, 0, none⟩) len len ∧ l' = rowA g e sz len cs :: l) := by
  subst hz
  refine e_buildSlice ho ht he hlen hps ?_ hcs
  rw [← hfill]
  congr 1
  have hzs : z.cells.size = sz := by rw [← hzl, Array.length_toList]
  by_cases h0 : len * sz = 0
  · have hl : len = 0 := by rcases Nat.mul_eq_zero.1 h0 with h | h <;> omega
    subst hl
    apply Array.ext <;> simp
  · simp only [if_neg h0]
    apply Array.toList_inj.1
    have := madeCells_flat z.cells len (by omega)
    rw [hzs] at this
    rw [← this]
    rfl
/-- A literal's row as a slice of one's own: scalars. -/
theorem lit_own {α : Type} {enc : α → Value} {ok : α → Prop} {h1 : ∀ x, (enc x).oneCell' = true} {e by_ g n : Nat} {xs : List α} {w : World} {S : Bs} (h : Star [rowA g e 1 n (xs.map enc)] w S) (hn : xs.length = n) (hok : ∀ x, x ∈ xs → ok x) (hb : n * by_ ≤ 140737488355328) (h63 : n ≤ 9223372036854775807) : (ownA (kslice e by_ (kscalar enc ok h1)) xs [.slice (some ⟨g, 0, none⟩) n n]).p w S := by
  subst hn
  have hfl : ∀ ys : List α, (ys.map fun x => [enc x]).flatten = ys.map enc := fun ys => by
    induction ys with
    | nil => rfl
    | cons x ys ih => simp only [List.map_cons, List.flatten_cons, ih]; rfl
  refine .inr ⟨g, xs.length, xs.map (fun x => [enc x]), rfl, Nat.le_refl _, h63, hb, by simp, S, fun _ => False, by rw [hfl]; exact h.head (c := rowA g e 1 xs.length (xs.map enc)), ?_, fun _ h => h, fun _ h => h.elim, fun _ _ h => h⟩
  clear hfl hb h63 h
  induction xs with
  | nil => trivial
  | cons x xs ih => exact ⟨fun _ => False, fun _ => False, ⟨rfl, hok x List.mem_cons_self⟩, ih (fun y hy => hok y (List.mem_cons_of_mem _ hy)), fun _ h => h.elim, fun _ h => h.elim, fun _ h => h.elim⟩
theorem nil_of {α : Type} {xs : List α} {A : Option Addr} {p : Addr → Prop} (h : 0 < xs.length → ∃ ad, A = some ad ∧ p ad) (hA : Option.isNone A = true) : ([] : List α) = xs := by
  cases xs with
  | nil => rfl
  | cons x xs => obtain ⟨ad, rfl, _⟩ := h (by simp); cases hA
theorem pre_at {fl cs : List Value} {k : Nat} (hk : cs.length = k) (h : fl.take k = cs) : ∀ (i : Nat) (u : Value), cs[i]? = some u → fl[i]? = some u := fun i u hu => by
  rw [← h, List.getElem?_take] at hu
  split at hu
  · exact hu
  · cases hu
end
end Go.Proofs.Ytkmcpcahbfdohaa
/- What is proved: marks as texts and bytes. No condition. -/
namespace Go.Proofs.Ytkmcpcahbfdohaa
open Go Go.RowKit
set_option linter.unusedVariables false
def mbyte (n : Int) : UInt8 := UInt8.ofNat (n % 256).toNat
theorem mbyte_wrap (n : Int) : IntKind.u8.wrap n = ((mbyte n).toNat : Int) := by
  rw [IntKind.wrap_u8]
  unfold mbyte
  rw [UInt8.toNat_ofNat']
  omega
theorem byte_eq {a b : UInt8} (h : (a.toNat : Int) = (b.toNat : Int)) : a = b := UInt8.toNat_inj.1 (Int.ofNat.inj h)
def bstr (xs : List UInt8) : ByteArray := ⟨xs.toArray⟩
theorem bstr_size (xs : List UInt8) : (bstr xs).size = xs.length := by simp [bstr, ByteArray.size]
/-- The digits of a number ahead of a text, 'm' ahead of all. -/
def mfin (k : Nat) (out : ByteArray) : ByteArray :=
  if h : k = 0 then bstr [109] ++ out else mfin (k / 10) (bstr [mbyte ((48 + k % 10 : Nat) : Int)] ++ out)
termination_by k
decreasing_by omega
theorem mfin_0 (out : ByteArray) : mfin 0 out = bstr [109] ++ out := by rw [mfin]; simp
theorem mfin_s {k : Nat} (out : ByteArray) (h : 0 < k) : mfin k out = mfin (k / 10) (bstr [mbyte ((48 + k % 10 : Nat) : Int)] ++ out) := by rw [mfin, dif_neg (by omega)]
theorem mfin_size : ∀ (d k : Nat) (out : ByteArray), k < 10 ^ d → (mfin k out).size ≤ 1 + d + out.size
  | 0, k, out, h => by
    have : k = 0 := by simpa using h
    subst this
    rw [mfin_0, ByteArray.size_append, bstr_size]
    simp
  | d + 1, k, out, h => by
    by_cases hk : k = 0
    · subst hk
      rw [mfin_0, ByteArray.size_append, bstr_size]
      simp
    · rw [mfin_s out (by omega)]
      have := mfin_size d (k / 10) (bstr [mbyte ((48 + k % 10 : Nat) : Int)] ++ out) (by rw [Nat.pow_succ] at h; omega)
      rw [ByteArray.size_append, bstr_size] at this
      simp only [List.length_cons, List.length_nil] at this
      omega
theorem mfin_d {k d : Nat} (h : 0 < k) (hd : k < 10 ^ d) : k / 10 < 10 ^ (d - 1) := by
  cases d with
  | zero => simp at hd; omega
  | succ d => rw [Nat.pow_succ] at hd; simp only [Nat.add_sub_cancel]; omega
theorem mfin_o {k d n : Nat} {o : ByteArray} (h : 0 < k) (hd : k < 10 ^ d) (ho : o.size + d ≤ n) {b : UInt8} : (bstr [b] ++ o).size + (d - 1) ≤ n := by
  rw [ByteArray.size_append, bstr_size]
  cases d with
  | zero => simp at hd; omega
  | succ d => simp only [List.length_cons, List.length_nil]; omega
def mtext (n : Int) : ByteArray := if n ≤ 0 then bstr [109, 48] else mfin n.toNat ⟨#[]⟩
theorem mtext_size {n : Int} (h : n ≤ 4611686018427387905) : (mtext n).size ≤ 140737488351232 := by
  unfold mtext
  split
  · rw [bstr_size]; simp
  · have := mfin_size 19 n.toNat ⟨#[]⟩ (by omega)
    have e : (⟨#[]⟩ : ByteArray).size = 0 := rfl
    omega
end Go.Proofs.Ytkmcpcahbfdohaa
/- What is proved: bytes turned to a string; what is read, of a world behind. No condition. -/
namespace Go.Proofs.Ytkmcpcahbfdohaa
open Go Go.RowKit
set_option linter.unusedVariables false
set_option linter.unusedSimpArgs false
section
variable {P : Program} {T : Slots} {Wd : World → Prop} {o : Oper} {N : Nat} {w0 : World} {S0 : Bs} {l l' : List Asn}
theorem WS.roctx {α : Type} {K : Kd α} {x : α} {cs : List Value} (h : K.ro w0 (FF w0 S0) x cs) : ∀ w, WS w0 S0 l w → ∃ F : Bs, K.ro w F x cs := fun w hw => by
  obtain ⟨S, _, _, hf⟩ := hw
  exact ⟨_, K.ro_loc h (fun b hb => hf.block b hb.1 hb.2)⟩
theorem WS.roown {α : Type} {K : Kd α} {x : α} {cs : List Value} (ht : Take l (ownA K x cs) l') : ∀ w, WS w0 S0 l w → ∃ F : Bs, K.ro w F x cs := fun w hw => by
  obtain ⟨S, hs, _, _⟩ := hw.take ht
  exact ⟨_, K.own_ro (show K.own w S x cs from hs.head)⟩
theorem WS.ronil {α : Type} {K : Kd α} {e by_ : Nat} : ∀ w, WS w0 S0 l w → ∃ F : Bs, (kslice e by_ K).ro w F [] [.slice none 0 0] := fun w _ => ⟨fun _ => False, ro_nil⟩
theorem quo_nn {a b : Int} (ha : 0 ≤ a) (h : a ≤ 9223372036854775807) (hb : 0 < b) : IntKind.i64.wrap (a.tdiv b) = a / b := by
  rw [Int.tdiv_eq_ediv_of_nonneg ha]
  have h1 : 0 ≤ a / b := Int.ediv_nonneg ha (by omega)
  have h2 : a / b ≤ a := Int.ediv_le_self b ha
  exact wr rfl (by omega) (by omega)
theorem quo_nat {q d : Nat} {b : Int} (h : q ≤ 9223372036854775807) (hb : b = (d : Int)) : IntKind.i64.wrap ((q : Int).tdiv b) = ((q / d : Nat) : Int) := by
  subst hb
  rw [Int.tdiv_eq_ediv_of_nonneg (by omega)]
  have h2 : q / d ≤ q := Nat.div_le_self q d
  have e : ((q / d : Nat) : Int) = (q : Int) / (d : Int) := by simp
  rw [e]
  rw [← e]
  generalize q / d = m at h2 ⊢
  exact wr rfl (by omega) (by omega)
theorem rem_nat {q d : Nat} {b : Int} (hb : b = (d : Int)) : Int.tmod (q : Int) b = ((q % d : Nat) : Int) := by
  subst hb
  rw [Int.tmod_eq_emod_of_nonneg (by omega)]
  simp
theorem any_dec {α : Type} [DecidableEq α] (xs : List α) (v : α) : xs.any (fun x => decide (x = v)) = decide (v ∈ xs) := by
  rw [Bool.eq_iff_iff, List.any_eq_true, decide_eq_true_iff]
  exact ⟨fun ⟨x, hx, h⟩ => of_decide_eq_true h ▸ hx, fun h => ⟨v, h, decide_eq_true rfl⟩⟩
theorem bstr_inj {x y : List UInt8} : bstr x = bstr y ↔ x = y := ⟨fun h => by
  have := congrArg (fun s => s.data.toList) h
  simpa [bstr] using this, fun h => congrArg bstr h⟩
theorem bstr_of (xs : List UInt8) : ((xs.map fun b => (b.toNat : Int)).foldl (fun r n => r.push (UInt8.ofNat n.toNat)) ByteArray.empty) = bstr xs := by
  rw [foldl_push_bytes]
  simp only [List.map_map, bstr]
  congr 1
  simp only [ByteArray.empty, ByteArray.emptyWithCapacity]
  rw [show (Array.empty : Array UInt8) = #[] from rfl]
  simp [Function.comp_def]
theorem q_convBS {xs : List UInt8} {by_ : Nat} {s e d : TypeId} {x : Operand} {v : Value} (ho : o.op = .convert s d x) (hs : P.underlying s = some (.slice e)) (he : P.underlying e = some (.int .u8)) (hd : P.underlying d = some .string) (hx : Val T x v)
    (hr : ∀ w, Wd w → ∃ F : Bs, (kslice e by_ kbyte).ro w F xs [v]) : Quiet P o T Wd (.string (bstr xs)) := fun a w ha hw => by
  obtain ⟨F, hr⟩ := hr w hw
  obtain ⟨A, c, rfl, h1, h2, h3, h4⟩ := ro_form hr
  simp only [execOp, ho, hx a ha]
  have key : (convert s d (.slice A xs.length c)).run P w = .ok (.string (bstr xs)) w := by
    rw [run_convert_bytes_string w s d e _ _ c hs he hd]
    cases A with
    | none =>
      have : xs = [] := by
        cases xs with
        | nil => rfl
        | cons y ys => obtain ⟨ad, h, _⟩ := h4 (by simp); cases h
      subst this
      simp [Conv.bytesToString, bstr]
      rfl
    | some ad =>
      have hl : (loadCells ad xs.length).run P w = .ok ((xs.map fun b => (b.toNat : Int)).map (Value.int .u8)).toArray w := by
        have := run_loadCells_list (P := P) w ad ((xs.map fun b => (b.toNat : Int)).map (Value.int .u8)) (fun i u hu => by
          simp only [List.map_map, List.getElem?_map, Option.map_eq_some_iff, Function.comp] at hu
          obtain ⟨b, hb, rfl⟩ := hu
          have hp : 0 < xs.length := by have := (List.getElem?_eq_some_iff.1 hb).1; omega
          obtain ⟨ad', ha', hro⟩ := h4 hp
          obtain rfl := Option.some.inj ha'
          obtain ⟨ecs, ⟨rfl, _⟩, h6⟩ := hro.2 i b hb
          have := h6 0 _ rfl
          simpa [kbyte, kscalar] using this)
        simpa using this
      rw [run_bytesToString w ad _ c _ hl, bstr_of]
  simp [key]
/-! ### structs of scalars, compared -/
theorem eqFs_nil {d : Nat} {xs ys : Array Value} (w : World) : (Op.eqFields d xs ys []).run P w = .ok true w := by simp [Op.eqFields]
theorem eqFs_cons {d : Nat} {xs ys : Array Value} {f : Field} {fs : List Field} {a b : Value} {r q : Bool} (hn : (f.name != "_") = true) (ha : ∀ w, (part f.type xs f.offset).run P w = .ok a w) (hb : ∀ w, (part f.type ys f.offset).run P w = .ok b w)
    (he : ∀ w, (Op.equalIn d f.type a b).run P w = .ok r w) (hr : ∀ w, (Op.eqFields d xs ys fs).run P w = .ok q w) (w : World) : (Op.eqFields d xs ys (f :: fs)).run P w = .ok (r && q) w := by
  have hn' : f.name ≠ "_" := by simpa using hn
  simp only [Op.eqFields]
  rw [if_pos hn']
  simp only [Sem.run_bind, ha, hb, he, Result.andThen_ok]
  cases r <;> simp [hr]
theorem beq_str (a b : ByteArray) : (a.toList == b.toList) = decide (a = b) := by
  rw [ByteArray.toList_eq, ByteArray.toList_eq, Bool.eq_iff_iff, beq_iff_eq, decide_eq_true_iff]
  constructor
  · intro h
    cases a
    cases b
    simp only [Array.toList_inj] at h
    rw [h]
  · rintro rfl; rfl
theorem beq_int (a b : Int) : (a == b) = decide (a = b) := beq_dec a b
theorem q_enteql {x y : Operand} {t t' : TypeId} {xs ys : Array Value} {b : Bool} (ho : o.op = .binOp .eql t x y t') (he : ∀ w, (Op.equalIn 10000 t (.agg xs) (.agg ys)).run P w = .ok b w) (hg : P.eqGuardType P.depth t = false) (hx : Val T x (.agg xs)) (hy : Val T y (.agg ys)) : Quiet P o T Wd (.bool b) := fun a w ha _ => by
  simp only [execOp, ho, hx a ha, hy a ha]
  simp [run_eqGuard_agg w .eql t x y xs ys hg, run_eql_struct w, he w]
theorem q_entneq {x y : Operand} {t t' : TypeId} {xs ys : Array Value} {b : Bool} (ho : o.op = .binOp .neq t x y t') (he : ∀ w, (Op.equalIn 10000 t (.agg xs) (.agg ys)).run P w = .ok b w) (hg : P.eqGuardType P.depth t = false) (hx : Val T x (.agg xs)) (hy : Val T y (.agg ys)) : Quiet P o T Wd (.bool (!b)) := fun a w ha _ => by
  simp only [execOp, ho, hx a ha, hy a ha]
  simp [run_eqGuard_agg w .neq t x y xs ys hg, run_neq_struct w, he w]
end
end Go.Proofs.Ytkmcpcahbfdohaa
/- What is proved: an argument that was read out of memory, of a kind: what the kind says holds of its cells. No condition. -/
namespace Go.Proofs.Ytkmcpcahbfdohaa
open Go Go.RowKit
set_option linter.unusedVariables false
set_option linter.unusedSimpArgs false
def InW (W : World) : Bs := fun b => b < W.heap.size
section
variable {H : Type} (enc : TypeId × Value → H) (P : Program) (W : World)
def Ko {α : Type} (t : TypeId) (K : Kd α) : Prop := ∀ (fuel : Nat) (cs : List Value) (x : DataW H × List MemPlace), DataW.trod enc P W 0 (fun _ => true) true fuel t cs = some x → (x.1.weights P t).all (· ≤ reachBytes) = true → ∃ y, K.ro W (InW W) y cs
def KoF {α : Type} (ps : List (TypeId × Nat)) (off : Nat) (K : Kd α) : Prop := ∀ (n : Nat) (cs : List Value) (xs : List (DataW H × List MemPlace)), off + K.sz ≤ cs.length → xs.length = ps.length →
  (∀ (i : Nat) (t : TypeId) (o : Nat), ps[i]? = some (t, o) → DataW.trod enc P W 0 (fun _ => true) true n t ((cs.drop o).take (P.cellsOf t)) = xs[i]?) → (DataW.weightsEach P (ps.map (·.1)) (xs.map (·.1))).all (· ≤ reachBytes) = true → ∃ y, K.ro W (InW W) y ((cs.drop off).take K.sz)
end
section
variable {H : Type} {enc : TypeId × Value → H} {P : Program} {W : World}
theorem Ko.int {t : TypeId} {k : IntKind} (ht : P.underlying t = some (.int k)) : Ko enc P W t (kint k) := fun fuel cs x h _ => by
  obtain ⟨n, rfl, _, _⟩ := DataW.trod_int ht h
  exact ⟨n, rfl, trivial⟩
theorem Ko.bool {t : TypeId} (ht : P.underlying t = some .bool) : Ko enc P W t kbool := fun fuel cs x h _ => by
  obtain ⟨n, rfl, _⟩ := DataW.trod_bool ht h
  exact ⟨n, rfl, trivial⟩
theorem Ko.byte {t : TypeId} (ht : P.underlying t = some (.int .u8)) : Ko enc P W t kbyte := fun fuel cs x h _ => by
  obtain ⟨n, rfl, _, hw⟩ := DataW.trod_int ht h
  have hn : 0 ≤ n ∧ n < 256 := by
    have h1 := of_decide_eq_true (Bool.and_eq_true_iff.1 (show (decide (IntKind.min .u8 ≤ n) && decide (n ≤ IntKind.max .u8)) = true from hw)).1
    have h2 := of_decide_eq_true (Bool.and_eq_true_iff.1 (show (decide (IntKind.min .u8 ≤ n) && decide (n ≤ IntKind.max .u8)) = true from hw)).2
    have e1 : IntKind.min .u8 = 0 := by decide
    have e2 : IntKind.max .u8 = 255 := by decide
    omega
  refine ⟨UInt8.ofNat n.toNat, ?_, trivial⟩
  have : ((UInt8.ofNat n.toNat).toNat : Int) = n := by
    rw [UInt8.toNat_ofNat']; omega
  show [Value.int .u8 n] = [Value.int .u8 ((UInt8.ofNat n.toNat).toNat : Int)]
  rw [this]
theorem Ko.str {t : TypeId} (ht : P.underlying t = some .string) : Ko enc P W t kstr := fun fuel cs x h hw => by
  obtain ⟨s, rfl, rfl, _⟩ := DataW.trod_string ht h
  refine ⟨s, rfl, ?_⟩
  have h1 := List.all_eq_true.1 hw s.data.toList.length (by simp [DataW.weights])
  have h2 : s.data.toList.length ≤ 140737488351232 := of_decide_eq_true h1
  rw [Array.length_toList] at h2
  exact h2
theorem list_ofG {β : Type} {p : Nat → β → Prop} : ∀ n, (∀ j, j < n → ∃ c, p j c) → ∃ css : List β, css.length = n ∧ ∀ j c, css[j]? = some c → p j c
  | 0, _ => ⟨[], rfl, by simp⟩
  | n + 1, h => by
    obtain ⟨css, h1, h2⟩ := list_ofG n (fun j hj => h j (by omega))
    obtain ⟨c, hc⟩ := h n (by omega)
    refine ⟨css ++ [c], by simp [h1], fun j d hd => ?_⟩
    rw [List.getElem?_append] at hd
    split at hd
    · exact h2 j d hd
    · rename_i hj
      have : j - css.length = 0 := by
        have := (List.getElem?_eq_some_iff.1 hd).1
        simp at this; omega
      have e : j = n := by omega
      subst e
      rw [h1] at hd
      simp at hd
      subst hd
      exact hc
theorem weightsAll_mem {e : TypeId} : ∀ {ds : List (DataW H)} {d : DataW H}, d ∈ ds → (DataW.weightsAll P e ds).all (· ≤ reachBytes) = true → (d.weights P e).all (· ≤ reachBytes) = true
  | d0 :: ds, d, hd, h => by
    simp only [DataW.weightsAll, List.all_append, Bool.and_eq_true] at h
    rcases List.mem_cons.1 hd with rfl | hd
    · exact h.1
    · exact weightsAll_mem hd h.2
  | [], d, hd, _ => by cases hd
theorem Ko.slice {α : Type} {K : Kd α} {t e : TypeId} {by_ : Nat} (ht : P.underlying t = some (.slice e)) (hc : P.cellsOf e = K.sz) (hb : P.bytesOf e = by_) (hK : Ko enc P W e K) : Ko enc P W t (kslice e by_ K) := fun fuel cs x h hw => by
  rcases DataW.trod_slice ht h with ⟨rfl, rfl⟩ | ⟨a, len, cap, elems, rest, n, rfl, rfl, rfl, hb0, hl, hm, hlen, hel, hsp, _⟩
  · exact ⟨[], ro_nil⟩
  · simp only [DataW.weights, ht, List.all_cons, List.all_append, Bool.and_eq_true, decide_eq_true_eq, List.length_map] at hw
    obtain ⟨hw1, hw2, _⟩ := hw
    rw [hb] at hw1
    have each : ∀ j, j < len → ∃ y, ∃ ecs, K.ro W (InW W) y ecs ∧ InW W a.block ∧ ∀ i u, ecs[i]? = some u → W.cell? (a.add (j * K.sz + i)) = some u := by
      intro j hj
      have h1 := hel j hj
      rw [List.getElem?_eq_getElem (by omega), Option.bind_eq_some_iff] at h1
      obtain ⟨ecs, h2, h3⟩ := h1
      obtain ⟨y, hy⟩ := hK n ecs _ h3 (weightsAll_mem (List.mem_map.2 ⟨_, List.getElem_mem _, rfl⟩) hw2)
      obtain ⟨_, hlen2, hcells⟩ := World.cells?_some h2
      have hsz := K.ro_len hy
      have hcell : ∀ i u, ecs[i]? = some u → W.cell? (a.add (j * K.sz + i)) = some u := fun i u hu => by
        have hi : i < P.cellsOf e := by have := (List.getElem?_eq_some_iff.1 hu).1; omega
        have := hcells i hi
        rw [add_add, hc] at this
        rw [this, hu]
      refine ⟨y, ecs, hy, ?_, hcell⟩
      have hpos := K.pos
      have h0 := hcell 0 ecs[0] (List.getElem?_eq_getElem (by omega))
      unfold World.cell? at h0
      rw [add_block] at h0
      unfold InW
      cases hh : W.heap[a.block]? with
      | none => rw [hh] at h0; simp at h0
      | some b => exact (Array.getElem?_eq_some_iff.1 hh).1
    obtain ⟨xs, hxl, hxs⟩ := list_ofG len each
    refine ⟨xs, some a, cap, by rw [hxl], by rw [hxl]; exact hl, hm, ?_, fun hp => ⟨a, rfl, ?_, fun j y hy => ?_⟩⟩
    · have : xs.length * by_ ≤ (elems.length + rest.length) * by_ := Nat.mul_le_mul_right _ (by omega)
      unfold reachBytes at hw1
      omega
    · obtain ⟨ecs, _, h, _⟩ := hxs 0 _ (List.getElem?_eq_getElem hp)
      exact h
    · obtain ⟨ecs, h1, _, h2⟩ := hxs j y hy
      exact ⟨ecs, h1, h2⟩
theorem KoF.one {α : Type} {K : Kd α} {t : TypeId} {off : Nat} (hc : P.cellsOf t = K.sz) (h : Ko enc P W t K) : KoF enc P W [(t, off)] off K := fun n cs xs hl hx hf hw => by
  have h0 := hf 0 t off rfl
  rw [List.getElem?_eq_getElem (by simp at hx; omega), hc] at h0
  refine h n _ _ h0 ?_
  match xs, hx with
  | [x], _ =>
    simp only [List.map_cons, List.map_nil, DataW.weightsEach, List.append_nil] at hw
    exact hw
theorem KoF.cons {α β : Type} {A : Kd α} {B : Kd β} {t : TypeId} {ps : List (TypeId × Nat)} {off off' : Nat} (hc : P.cellsOf t = A.sz) (ho : off + A.sz = off') (h : Ko enc P W t A) (hs : KoF enc P W ps off' B) : KoF enc P W ((t, off) :: ps) off (kpair A B) := fun n cs xs hl hx hf hw => by
  subst ho
  have hsz : (kpair A B).sz = A.sz + B.sz := rfl
  match xs, hx with
  | x :: xs, hx =>
    simp only [List.map_cons, DataW.weightsEach, List.all_append, Bool.and_eq_true] at hw
    have h0 := hf 0 t off rfl
    rw [List.getElem?_cons_zero, hc] at h0
    obtain ⟨y1, hy1⟩ := h n _ _ h0 hw.1
    obtain ⟨y2, hy2⟩ := hs n cs xs (by rw [hsz] at hl; omega) (by simpa using hx) (fun i t' o' hi => by have := hf (i + 1) t' o' (by simpa using hi); simpa using this) hw.2
    refine ⟨(y1, y2), _, _, ?_, hy1, hy2⟩
    rw [hsz, List.take_add, List.drop_drop]
theorem Ko.struct {α β : Type} {K : Kd α} {t : TypeId} {fs : Array Field} {ps : List (TypeId × Nat)} {g : β → α} (ht : P.underlying t = some (.struct fs)) (hps : fs.toList.map (fun f => (f.type, f.offset)) = ps) (hc : P.cellsOf t = K.sz) (hF : KoF enc P W ps 0 K) (inv : α → β) (hg : ∀ y, g (inv y) = y) : Ko enc P W t (kiso K g) := fun fuel cs x h hw => by
  obtain ⟨xs, n, rfl, rfl, hl, hx, hf⟩ := DataW.trod_struct ht h
  subst hps
  have hw' : (DataW.weightsEach P ((fs.toList.map (fun f => (f.type, f.offset))).map (·.1)) (xs.map (·.1))).all (· ≤ reachBytes) = true := by
    simp only [DataW.weights, ht] at hw
    rw [List.map_map]
    exact hw
  obtain ⟨y, hy⟩ := hF n cs xs (by omega) (by simp [hx]) (fun i t' o hi => by
    simp only [List.getElem?_map, Option.map_eq_some_iff] at hi
    obtain ⟨f, h1, h2⟩ := hi
    obtain ⟨rfl, rfl⟩ := Prod.mk.inj h2
    exact hf i f (by simpa using h1)) hw'
  refine ⟨inv y, ?_⟩
  show K.ro W (InW W) (g (inv y)) cs
  rw [hg]
  have : (cs.drop 0).take K.sz = cs := by rw [List.drop_zero, List.take_of_length_le (by omega)]
  rwa [this] at hy
/-- An argument. -/
theorem Ko.arg {α : Type} {K : Kd α} {t : TypeId} {v : Value} {d : DataW H} {p : List MemPlace} (h : Ko enc P W t K) (hd : DataW.Trod enc P W 0 (fun _ => true) true t v d p) (hw : (d.weights P t).all (· ≤ reachBytes) = true) : ∃ y, K.ro W (FF W (fun _ => False)) y v.cells.toList := by
  obtain ⟨fuel, hf⟩ := hd
  obtain ⟨y, hy⟩ := h fuel _ (d, p) hf hw
  exact ⟨y, K.ro_up hy (fun b hb => ⟨hb, fun h => h⟩)⟩
theorem Ko.argS {α : Type} {K : Kd α} {t : TypeId} {v : Value} {d : DataW H} {p : List MemPlace} {n : Nat} (h : Ko enc P W t K) (hd : DataW.Trod enc P W 0 (fun _ => true) true t v d p) (hw : (d.weights P t).all (· ≤ reachBytes) = true) (ho : ∃ cs, v = .agg cs ∧ cs.size = n) : ∃ y cs, v = .agg (List.toArray cs) ∧ K.ro W (FF W (fun _ => False)) y cs := by
  obtain ⟨cs, rfl, _⟩ := ho
  obtain ⟨y, hy⟩ := h.arg hd hw
  exact ⟨y, cs.toList, by simp, hy⟩
theorem Ko.argV {α : Type} {K : Kd α} {t : TypeId} {v : Value} {d : DataW H} {p : List MemPlace} (h : Ko enc P W t K) (hd : DataW.Trod enc P W 0 (fun _ => true) true t v d p) (hw : (d.weights P t).all (· ≤ reachBytes) = true) (ho : ∃ A n c, v = .slice A n c) : ∃ y, K.ro W (FF W (fun _ => False)) y [v] := by
  obtain ⟨A, n, c, rfl⟩ := ho
  exact h.arg hd hw
theorem Ko.argI {t : TypeId} {k : IntKind} {v : Value} {d : DataW H} {p : List MemPlace} {r : Reach} {b0 : Nat} (ht : P.underlying t = some (.int k)) (ho : Value.okWide P W r b0 t v) (hd : DataW.Trod enc P W 0 (fun _ => true) true t v d p) : ∃ n, v = .int k n ∧ k.min ≤ n ∧ n ≤ k.max := by
  obtain ⟨n, rfl, _, _, hw⟩ := ChangeShapes.open_int ht ho hd
  have h := Bool.and_eq_true_iff.1 (show (decide (k.min ≤ n) && decide (n ≤ k.max)) = true from hw)
  exact ⟨n, rfl, of_decide_eq_true h.1, of_decide_eq_true h.2⟩
theorem Ko.argB {t : TypeId} {v : Value} {d : DataW H} {p : List MemPlace} {r : Reach} {b0 : Nat} (ht : P.underlying t = some .bool) (ho : Value.okWide P W r b0 t v) (hd : DataW.Trod enc P W 0 (fun _ => true) true t v d p) : ∃ b, v = .bool b := by
  obtain ⟨n, rfl, _⟩ := open_bool ht ho hd
  exact ⟨n, rfl⟩
theorem Ko.argT {t : TypeId} {v : Value} {d : DataW H} {p : List MemPlace} {r : Reach} {b0 : Nat} (ht : P.underlying t = some .string) (ho : Value.okWide P W r b0 t v) (hd : DataW.Trod enc P W 0 (fun _ => true) true t v d p) (hw : (d.weights P t).all (· ≤ reachBytes) = true) : ∃ s : ByteArray, v = .string s ∧ s.size ≤ 140737488351232 := by
  obtain ⟨s, rfl, rfl, _, _⟩ := ChangeMaps.open_string ht ho hd
  refine ⟨s, rfl, ?_⟩
  have h1 := List.all_eq_true.1 hw s.data.toList.length (by simp [DataW.weights])
  have h2 : s.data.toList.length ≤ 140737488351232 := of_decide_eq_true h1
  rw [Array.length_toList] at h2
  exact h2
theorem each_cons {t : TypeId} {ts : List TypeId} {d : DataW H} {ds : List (DataW H)} (h : (DataW.weightsEach P (t :: ts) (d :: ds)).all (· ≤ reachBytes) = true) : (d.weights P t).all (· ≤ reachBytes) = true ∧ (DataW.weightsEach P ts ds).all (· ≤ reachBytes) = true := by
  simp only [DataW.weightsEach, List.all_append, Bool.and_eq_true] at h
  exact h
end
/-- What a law's walk says, as its row asks. -/
theorem law_end {P : Program} {f : FuncId} {args : Array Value} {W : World} (h : Calls P f args W (TriPost W (fun _ => False) (fun r l => r = .bool true ∧ l = []))) : Calls P f args W (fun e W' => e = .returned (.bool true) ∧ Below W.heap.size W W') :=
  h.mono fun e W' ⟨r, l, he, ⟨hr, _⟩, ⟨S, _, _, hf⟩⟩ => by
    subst hr
    exact ⟨he, hf.below⟩
end Go.Proofs.Ytkmcpcahbfdohaa
/- What is proved: the disk, as plain functions on data, and when each answer comes. No condition. -/
namespace Go.Proofs.Ytkmcpcahbfdohaa
set_option linter.unusedVariables false
set_option linter.unusedSimpArgs false
def firstF {α : Type} (f : α → Int) : List α → Int
  | [] => 0
  | x :: xs => if f x = 0 then firstF f xs else f x
theorem firstF_none {α : Type} {f : α → Int} {xs : List α} (h : ∀ (j : Nat) x, xs[j]? = some x → f x = 0) : firstF f xs = 0 := by
  induction xs with
  | nil => rfl
  | cons x xs ih =>
    simp only [firstF, h 0 x rfl, if_true]
    exact ih (fun j y hy => h (j + 1) y hy)
theorem firstF_some {α : Type} {f : α → Int} : ∀ {xs : List α} {k : Nat} {x : α}, xs[k]? = some x → f x ≠ 0 → (∀ j y, j < k → xs[j]? = some y → f y = 0) → firstF f xs = f x
  | [], k, x, h, _, _ => by simp at h
  | y :: xs, 0, x, h, hn, _ => by
    simp at h; subst h
    simp only [firstF, if_neg hn]
  | y :: xs, k + 1, x, h, hn, ha => by
    simp only [firstF, ha 0 y (by omega) rfl, if_true]
    exact firstF_some (by simpa using h) hn (fun j z hj hz => ha (j + 1) z (by omega) (by simpa using hz))
def wordsFault (ws : List Int) : Int := if 64 < ws.length then 2 else if ws.any (fun w => !decide (0 ≤ w ∧ w ≤ 65535)) then 3 else 0
theorem wordsFault_2 {ws : List Int} (h : (64 : Int) < (ws.length : Int)) : wordsFault ws = 2 := by unfold wordsFault; rw [if_pos (by omega)]
theorem wordsFault_3 {ws : List Int} {k : Nat} {x : Int} (h : ¬ (64 : Int) < (ws.length : Int)) (hx : ws[k]? = some x) (hb : ¬ (0 ≤ x ∧ x ≤ 65535)) : wordsFault ws = 3 := by
  unfold wordsFault; rw [if_neg (by omega), if_pos]
  rw [List.any_eq_true]
  exact ⟨x, List.mem_of_getElem? hx, by simp only [hb, decide_false, Bool.not_false]⟩
theorem wordsFault_0 {ws : List Int} (h : ¬ (64 : Int) < (ws.length : Int)) (ha : ∀ (j : Nat) x, j < ws.length → ws[j]? = some x → 0 ≤ x ∧ x ≤ 65535) : wordsFault ws = 0 := by
  unfold wordsFault; rw [if_neg (by omega), if_neg]
  rw [List.any_eq_true]
  rintro ⟨x, hx, hb⟩
  obtain ⟨j, hj, rfl⟩ := List.mem_iff_getElem.1 hx
  have := ha j _ hj (List.getElem?_eq_getElem hj)
  simp [this] at hb
theorem wordsFault_3' {ws : List Int} (h : ¬ (64 : Int) < (ws.length : Int)) (hb : ws.any (fun w => !decide (0 ≤ w ∧ w ≤ 65535)) = true) : wordsFault ws = 3 := by
  unfold wordsFault; rw [if_neg (by omega), if_pos hb]
theorem wordsFault_0' {ws : List Int} (h : ¬ (64 : Int) < (ws.length : Int)) (hb : ws.any (fun w => !decide (0 ≤ w ∧ w ≤ 65535)) = false) : wordsFault ws = 0 := by
  unfold wordsFault; rw [if_neg (by omega), if_neg (by rw [hb]; exact Bool.false_ne_true)]
theorem idxF_any {α : Type} (p : α → Bool) (xs : List α) : decide (0 ≤ idxF p xs) = xs.any p := by
  unfold idxF
  cases h : xs.findIdx? p with
  | none =>
    have : xs.any p = false := by rw [List.any_eq_false]; intro x hx; have := List.findIdx?_eq_none_iff.1 h x hx; simp [this]
    rw [this]; rfl
  | some i =>
    have : xs.any p = true := by
      rw [List.any_eq_true]
      obtain ⟨hi, hp, _⟩ := List.findIdx?_eq_some_iff_getElem.1 h
      exact ⟨_, List.getElem_mem hi, hp⟩
    rw [this]; simp
abbrev placeIn (n : Nat) (at_ : Int) : Prop := 0 ≤ at_ ∧ at_ ≤ (n : Int) - 1
def putFault (n : Nat) (p : DPut) : Int := if placeIn n p.at_ then wordsFault p.words else 3
def diskFault (d : DDisk) : Int := if 60 < d.blocks.length ∨ 200 < d.cache.length then 2 else if firstF wordsFault d.blocks = 0 then firstF (putFault d.blocks.length) d.cache else firstF wordsFault d.blocks
theorem diskFault_2 {d : DDisk} (h : (60 : Int) < (d.blocks.length : Int)) : diskFault d = 2 := by unfold diskFault; rw [if_pos (by omega)]
theorem diskFault_2' {d : DDisk} (h : (200 : Int) < (d.cache.length : Int)) : diskFault d = 2 := by unfold diskFault; rw [if_pos (by omega)]
theorem diskFault_w {d : DDisk} {k : Nat} {x : List Int} (h : ¬ (60 : Int) < (d.blocks.length : Int)) (h' : ¬ (200 : Int) < (d.cache.length : Int)) (hx : d.blocks[k]? = some x) (hn : ¬ wordsFault x = 0) (ha : ∀ j y, j < k → d.blocks[j]? = some y → wordsFault y = 0) : diskFault d = wordsFault x := by
  unfold diskFault; rw [if_neg (by omega), firstF_some hx hn ha, if_neg hn]
theorem diskFault_p {d : DDisk} {k : Nat} {x : DPut} (h : ¬ (60 : Int) < (d.blocks.length : Int)) (h' : ¬ (200 : Int) < (d.cache.length : Int)) (hb : ∀ j y, j < d.blocks.length → d.blocks[j]? = some y → wordsFault y = 0) (hx : d.cache[k]? = some x) (hn : ¬ putFault d.blocks.length x = 0) (ha : ∀ j y, j < k → d.cache[j]? = some y → putFault d.blocks.length y = 0) : diskFault d = putFault d.blocks.length x := by
  unfold diskFault; rw [if_neg (by omega), firstF_none (fun j y hy => hb j y (List.getElem?_eq_some_iff.1 hy).1 hy), if_pos rfl, firstF_some hx hn ha]
theorem diskFault_0 {d : DDisk} (h : ¬ (60 : Int) < (d.blocks.length : Int)) (h' : ¬ (200 : Int) < (d.cache.length : Int)) (hb : ∀ j y, j < d.blocks.length → d.blocks[j]? = some y → wordsFault y = 0) (ha : ∀ j y, j < d.cache.length → d.cache[j]? = some y → putFault d.blocks.length y = 0) : diskFault d = 0 := by
  unfold diskFault; rw [if_neg (by omega), firstF_none (fun j y hy => hb j y (List.getElem?_eq_some_iff.1 hy).1 hy), if_pos rfl, firstF_none (fun j y hy => ha j y (List.getElem?_eq_some_iff.1 hy).1 hy)]
theorem putFault_3 {n : Nat} {p : DPut} (h : ¬ (0 ≤ p.at_ ∧ p.at_ ≤ (n : Int) - 1)) : putFault n p = 3 := by unfold putFault; rw [if_neg h]
theorem putFault_w {n : Nat} {p : DPut} (h : 0 ≤ p.at_ ∧ p.at_ ≤ (n : Int) - 1) : putFault n p = wordsFault p.words := by unfold putFault; rw [if_pos h]
theorem take_snoc {α : Type} {xs : List α} {k : Nat} {x : α} (h : xs[k]? = some x) : xs.take k ++ [x] = xs.take (k + 1) := by
  rw [List.take_add_one, h]; rfl
theorem diskFault_60 {d : DDisk} (h : diskFault d = 0) : d.blocks.length ≤ 60 ∧ d.cache.length ≤ 200 := by
  by_cases hc : 60 < d.blocks.length ∨ 200 < d.cache.length
  · unfold diskFault at h; rw [if_pos hc] at h; cases h
  · omega
/-! ### new disks, new kernels -/
def newDisk (n : Int) : RDisk := if 0 ≤ n ∧ n ≤ 60 then ⟨0, ⟨List.replicate n.toNat [], []⟩⟩ else ⟨3, ⟨[], []⟩⟩
theorem newDisk_ok {n : Int} (h : 0 ≤ n ∧ n ≤ 60) : newDisk n = ⟨0, ⟨List.replicate n.toNat [], []⟩⟩ := if_pos h
theorem newDisk_no {n : Int} (h : ¬ (0 ≤ n ∧ n ≤ 60)) : newDisk n = ⟨3, ⟨[], []⟩⟩ := if_neg h
def badKern (c : Int) : RKern := ⟨c, [], ⟨⟨[], []⟩, []⟩⟩
def newKern (n : Int) : RKern := if (newDisk n).code = 0 then ⟨0, [], ⟨(newDisk n).disk, []⟩⟩ else badKern (newDisk n).code
theorem newKern_ok {n : Int} (h : (newDisk n).code = 0) : newKern n = ⟨0, [], ⟨(newDisk n).disk, []⟩⟩ := if_pos h
theorem newKern_no {n : Int} (h : ¬ (newDisk n).code = 0) : newKern n = ⟨(newDisk n).code, [], ⟨⟨[], []⟩, []⟩⟩ := if_neg h
/-! ### extents -/
def isExt (n : Nat) (e : DExt) : Prop := (1 ≤ e.key ∧ e.key ≤ 9999) ∧ (0 ≤ e.frm ∧ e.frm ≤ n) ∧ (1 ≤ e.cnt ∧ e.cnt ≤ n) ∧ e.frm + e.cnt ≤ n
instance (n : Nat) (e : DExt) : Decidable (isExt n e) := by unfold isExt; infer_instance
def extsFault (n : Nat) : Int → List DExt → Int
  | _, [] => 0
  | lo, e :: es => if isExt n e then if e.frm < lo then 1 else extsFault n (e.frm + e.cnt) es else 3
def kernFault (k : DKern) : Int := if diskFault k.disk = 0 then if 8 < k.exts.length then 2 else extsFault k.disk.blocks.length 0 k.exts else diskFault k.disk
theorem kernFault_d {k : DKern} (h : ¬ diskFault k.disk = 0) : kernFault k = diskFault k.disk := if_neg h
theorem kernFault_2 {k : DKern} (h : diskFault k.disk = 0) (h2 : (8 : Int) < (k.exts.length : Int)) : kernFault k = 2 := by unfold kernFault; rw [if_pos h, if_pos (by omega)]
theorem kernFault_e {k : DKern} (h : diskFault k.disk = 0) (h2 : ¬ (8 : Int) < (k.exts.length : Int)) : kernFault k = extsFault k.disk.blocks.length 0 k.exts := by unfold kernFault; rw [if_pos h, if_neg (by omega)]
theorem extsFault_3 {n : Nat} {lo : Int} {es : List DExt} {k : Nat} {e : DExt} (he : es[k]? = some e) (h : ¬ isExt n e) : extsFault n lo (es.drop k) = 3 := by
  obtain ⟨hk, rfl⟩ := List.getElem?_eq_some_iff.1 he
  rw [List.drop_eq_getElem_cons hk, extsFault, if_neg h]
theorem extsFault_1 {n : Nat} {lo : Int} {es : List DExt} {k : Nat} {e : DExt} (he : es[k]? = some e) (h : isExt n e) (h2 : e.frm < lo) : extsFault n lo (es.drop k) = 1 := by
  obtain ⟨hk, rfl⟩ := List.getElem?_eq_some_iff.1 he
  rw [List.drop_eq_getElem_cons hk, extsFault, if_pos h, if_pos h2]
theorem extsFault_s {n : Nat} {lo : Int} {es : List DExt} {k : Nat} {e : DExt} (he : es[k]? = some e) (h : isExt n e) (h2 : ¬ e.frm < lo) : extsFault n lo (es.drop k) = extsFault n (e.frm + e.cnt) (es.drop (k + 1)) := by
  obtain ⟨hk, rfl⟩ := List.getElem?_eq_some_iff.1 he
  rw [List.drop_eq_getElem_cons hk, extsFault, if_pos h, if_neg h2]
theorem extsFault_0 {n : Nat} {lo : Int} {es : List DExt} {k : Nat} (h : es.length ≤ k) : extsFault n lo (es.drop k) = 0 := by rw [List.drop_of_length_le h]; rfl
theorem ext_at {n : Nat} {es : List DExt} {q j : Nat} {x e : DExt} (hx : es[q]? = some x) (h : isExt n x) (he : es[j]? = some e) (hj : j = q) : x.frm + x.cnt = e.frm + e.cnt ∧ isExt n e := by
  subst hj; rw [hx] at he; obtain rfl := Option.some.inj he; exact ⟨rfl, h⟩
theorem extsFault_ok {n : Nat} : ∀ {es : List DExt} {lo : Int}, extsFault n lo es = 0 → ∀ (j : Nat) e, es[j]? = some e → isExt n e
  | [], _, _, j, e, h => by simp at h
  | x :: es, lo, h, j, e, he => by
    unfold extsFault at h
    by_cases hx : isExt n x
    · rw [if_pos hx] at h
      split at h
      · cases h
      · cases j with
        | zero => simp at he; subst he; exact hx
        | succ j => exact extsFault_ok h j e (by simpa using he)
    · rw [if_neg hx] at h; cases h
theorem kernOk {k : DKern} (h : kernFault k = 0) : diskFault k.disk = 0 ∧ k.exts.length ≤ 8 ∧ (∀ (j : Nat) e, k.exts[j]? = some e → isExt k.disk.blocks.length e) ∧ k.disk.blocks.length ≤ 60 := by
  unfold kernFault at h
  by_cases hd : diskFault k.disk = 0
  · rw [if_pos hd] at h
    split at h
    · cases h
    · exact ⟨hd, by omega, extsFault_ok h, (diskFault_60 hd).1⟩
  · rw [if_neg hd] at h; exact absurd h hd
/-! ### owners -/
abbrev owns (a : Int) (e : DExt) : Prop := e.frm ≤ a ∧ a ≤ e.frm + e.cnt - 1
def ownKey (a : Int) (es : List DExt) : Int := match es.find? (fun e => decide (owns a e)) with | some e => e.key | none => 0
theorem ownKey_some {a : Int} {es : List DExt} {k : Nat} {e : DExt} (he : es[k]? = some e) (h : owns a e) (ha : ∀ j x, j < k → es[j]? = some x → ¬ owns a x) : ownKey a es = e.key := by
  have : es.find? (fun e => decide (owns a e)) = some e := by
    obtain ⟨hk, rfl⟩ := List.getElem?_eq_some_iff.1 he
    rw [List.find?_eq_some_iff_getElem]
    exact ⟨decide_eq_true h, k, hk, rfl, fun j hj => by simp only [Bool.not_eq_true', decide_eq_false_iff_not]; exact ha j _ hj (List.getElem?_eq_getElem (by omega))⟩
  unfold ownKey; rw [this]
theorem ownKey_none {a : Int} {es : List DExt} (ha : ∀ (j : Nat) x, es[j]? = some x → ¬ owns a x) : ownKey a es = 0 := by
  have : es.find? (fun e => decide (owns a e)) = none := by
    rw [List.find?_eq_none]
    intro x hx
    obtain ⟨j, hj, rfl⟩ := List.mem_iff_getElem.1 hx
    simp only [decide_eq_true_eq]
    exact ha j _ (List.getElem?_eq_getElem hj)
  unfold ownKey; rw [this]
def ownerOf (k : DKern) (a : Int) : RInt := if kernFault k = 0 then if placeIn k.disk.blocks.length a then if ownKey a k.exts = 0 then ⟨4, 0⟩ else ⟨0, ownKey a k.exts⟩ else ⟨3, 0⟩ else ⟨kernFault k, 0⟩
theorem ownerOf_f {k : DKern} {a : Int} (h : ¬ kernFault k = 0) : ownerOf k a = ⟨kernFault k, 0⟩ := if_neg h
theorem ownerOf_3 {k : DKern} {a : Int} (h : kernFault k = 0) (h2 : ¬ placeIn k.disk.blocks.length a) : ownerOf k a = ⟨3, 0⟩ := by unfold ownerOf; rw [if_pos h, if_neg h2]
theorem ownerOf_4 {k : DKern} {a : Int} (h : kernFault k = 0) (h2 : placeIn k.disk.blocks.length a) (h3 : ownKey a k.exts = 0) : ownerOf k a = ⟨4, 0⟩ := by unfold ownerOf; rw [if_pos h, if_pos h2, if_pos h3]
theorem ownerOf_0 {k : DKern} {a : Int} (h : kernFault k = 0) (h2 : placeIn k.disk.blocks.length a) (h3 : ¬ ownKey a k.exts = 0) : ownerOf k a = ⟨0, ownKey a k.exts⟩ := by unfold ownerOf; rw [if_pos h, if_pos h2, if_neg h3]
theorem ownerOf_hit {k : DKern} {a : Int} {q : Nat} {e : DExt} (h : kernFault k = 0) (h2 : placeIn k.disk.blocks.length a) (he : k.exts[q]? = some e) (ho : owns a e) (ha : ∀ j x, j < q → k.exts[j]? = some x → ¬ owns a x) : ownerOf k a = ⟨0, e.key⟩ := by
  have hk := ownKey_some he ho ha
  have hx : isExt _ e := (kernOk h).2.2.1 q e he
  unfold isExt at hx
  rw [ownerOf_0 h h2 (by rw [hk]; omega), hk]
theorem ownerOf_none {k : DKern} {a : Int} {q : Nat} (h : kernFault k = 0) (h2 : placeIn k.disk.blocks.length a) (hq : k.exts.length ≤ q) (ha : ∀ j x, j < q → k.exts[j]? = some x → ¬ owns a x) : ownerOf k a = ⟨4, 0⟩ :=
  ownerOf_4 h h2 (ownKey_none fun j x hx => ha j x (by have := (List.getElem?_eq_some_iff.1 hx).1; omega) hx)
/-! ### puts -/
def keepN (all : Bool) (ks : List Bool) (ps : List DPut) (bs : List (List Int)) : Nat → List (List Int)
  | 0 => bs
  | k + 1 => match ps[k]? with
    | some p => if all || ks.getD k false then (keepN all ks ps bs k).set p.at_.toNat p.words else keepN all ks ps bs k
    | none => keepN all ks ps bs k
theorem keepN_len {all : Bool} {ks : List Bool} {ps : List DPut} {bs : List (List Int)} : ∀ k, (keepN all ks ps bs k).length = bs.length
  | 0 => rfl
  | k + 1 => by
    unfold keepN
    split
    · split
      · rw [List.length_set, keepN_len k]
      · exact keepN_len k
    · exact keepN_len k
theorem keepN_on {all : Bool} {ks : List Bool} {ps : List DPut} {bs : List (List Int)} {k : Nat} {p : DPut} (hp : ps[k]? = some p) (h : (all || ks.getD k false) = true) : (keepN all ks ps bs k).set p.at_.toNat p.words = keepN all ks ps bs (k + 1) := by
  conv => rhs; unfold keepN
  simp only [hp, h, if_true]
theorem keepN_off {all : Bool} {ks : List Bool} {ps : List DPut} {bs : List (List Int)} {k : Nat} {p : DPut} (hp : ps[k]? = some p) (h : (all || ks.getD k false) = false) : keepN all ks ps bs k = keepN all ks ps bs (k + 1) := by
  conv => rhs; unfold keepN
  simp only [hp, h, Bool.false_eq_true, if_false]
theorem firstF_all {α : Type} {f : α → Int} : ∀ {xs : List α}, firstF f xs = 0 → ∀ x, x ∈ xs → f x = 0
  | [], _, x, hx => by cases hx
  | y :: xs, h, x, hx => by
    unfold firstF at h
    by_cases hy : f y = 0
    · rw [if_pos hy] at h
      rcases List.mem_cons.1 hx with rfl | hx
      · exact hy
      · exact firstF_all h x hx
    · rw [if_neg hy] at h; exact absurd h hy
theorem diskOk {d : DDisk} (h : diskFault d = 0) : d.blocks.length ≤ 60 ∧ d.cache.length ≤ 200 ∧ (∀ b, b ∈ d.blocks → wordsFault b = 0) ∧ ∀ p, p ∈ d.cache → placeIn d.blocks.length p.at_ ∧ wordsFault p.words = 0 := by
  have h1 := diskFault_60 h
  unfold diskFault at h
  rw [if_neg (by omega)] at h
  by_cases hb : firstF wordsFault d.blocks = 0
  · rw [if_pos hb] at h
    refine ⟨h1.1, h1.2, firstF_all hb, fun p hp => ?_⟩
    have := firstF_all h p hp
    unfold putFault at this
    by_cases hpl : placeIn d.blocks.length p.at_
    · rw [if_pos hpl] at this; exact ⟨hpl, this⟩
    · rw [if_neg hpl] at this; cases this
  · rw [if_neg hb] at h; exact absurd h hb
theorem words_64 {ws : List Int} (h : wordsFault ws = 0) : ws.length ≤ 64 := by
  by_cases hc : 64 < ws.length
  · unfold wordsFault at h; rw [if_pos hc] at h; cases h
  · omega
theorem putAt_ok {d : DDisk} (h : diskFault d = 0) {k : Nat} {p : DPut} (hp : d.cache[k]? = some p) : 0 ≤ p.at_ ∧ p.at_ ≤ (d.blocks.length : Int) - 1 := ((diskOk h).2.2.2 p (List.mem_of_getElem? hp)).1
def badDisk (c : Int) : RDisk := ⟨c, ⟨[], []⟩⟩
def putBlock (d : DDisk) (a : Int) (ws : List Int) : RDisk :=
  if diskFault d = 0 then if placeIn d.blocks.length a then if wordsFault ws = 0 then if 200 ≤ d.cache.length then badDisk 2 else ⟨0, ⟨d.blocks, d.cache ++ [⟨a, ws⟩]⟩⟩ else badDisk (wordsFault ws) else badDisk 3 else badDisk (diskFault d)
def flushDisk (d : DDisk) : RDisk := if diskFault d = 0 then ⟨0, ⟨keepN true [] d.cache d.blocks d.cache.length, []⟩⟩ else badDisk (diskFault d)
def crashDisk (d : DDisk) (ks : List Bool) : RDisk := if diskFault d = 0 then ⟨0, ⟨keepN false ks d.cache d.blocks d.cache.length, []⟩⟩ else badDisk (diskFault d)
theorem putBlock_f {d : DDisk} {a : Int} {ws : List Int} (h : ¬ diskFault d = 0) : putBlock d a ws = badDisk (diskFault d) := if_neg h
theorem putBlock_3 {d : DDisk} {a : Int} {ws : List Int} (h : diskFault d = 0) (h2 : ¬ placeIn d.blocks.length a) : putBlock d a ws = badDisk 3 := by unfold putBlock; rw [if_pos h, if_neg h2]
theorem putBlock_w {d : DDisk} {a : Int} {ws : List Int} (h : diskFault d = 0) (h2 : placeIn d.blocks.length a) (h3 : ¬ wordsFault ws = 0) : putBlock d a ws = badDisk (wordsFault ws) := by unfold putBlock; rw [if_pos h, if_pos h2, if_neg h3]
theorem putBlock_2 {d : DDisk} {a : Int} {ws : List Int} (h : diskFault d = 0) (h2 : placeIn d.blocks.length a) (h3 : wordsFault ws = 0) (h4 : 200 ≤ d.cache.length) : putBlock d a ws = badDisk 2 := by unfold putBlock; rw [if_pos h, if_pos h2, if_pos h3, if_pos h4]
theorem putBlock_0 {d : DDisk} {a : Int} {ws : List Int} (h : diskFault d = 0) (h2 : placeIn d.blocks.length a) (h3 : wordsFault ws = 0) (h4 : ¬ 200 ≤ d.cache.length) : putBlock d a ws = ⟨0, ⟨d.blocks, d.cache ++ [⟨a, ws⟩]⟩⟩ := by unfold putBlock; rw [if_pos h, if_pos h2, if_pos h3, if_neg h4]
def blockFault (d : DDisk) (a : Int) : Int := if diskFault d = 0 then if placeIn d.blocks.length a then 0 else 3 else diskFault d
theorem blockFault_f {d : DDisk} {a : Int} (h : ¬ diskFault d = 0) : blockFault d a = diskFault d := if_neg h
theorem blockFault_3 {d : DDisk} {a : Int} (h : diskFault d = 0) (h2 : ¬ placeIn d.blocks.length a) : blockFault d a = 3 := by unfold blockFault; rw [if_pos h, if_neg h2]
theorem blockFault_0 {d : DDisk} {a : Int} (h : diskFault d = 0) (h2 : placeIn d.blocks.length a) : blockFault d a = 0 := by unfold blockFault; rw [if_pos h, if_pos h2]
theorem blockFault_ok {d : DDisk} {a : Int} (h : blockFault d a = 0) : diskFault d = 0 ∧ placeIn d.blocks.length a := by
  unfold blockFault at h
  by_cases h1 : diskFault d = 0
  · rw [if_pos h1] at h
    by_cases h2 : placeIn d.blocks.length a
    · exact ⟨h1, h2⟩
    · rw [if_neg h2] at h; cases h
  · rw [if_neg h1] at h; exact absurd h h1
theorem putBlock_b {d : DDisk} {a : Int} {ws : List Int} (h : ¬ blockFault d a = 0) : putBlock d a ws = badDisk (blockFault d a) := by
  by_cases h1 : diskFault d = 0
  · by_cases h2 : placeIn d.blocks.length a
    · exact absurd (blockFault_0 h1 h2) h
    · rw [putBlock_3 h1 h2, blockFault_3 h1 h2]
  · rw [putBlock_f h1, blockFault_f h1]
theorem flushDisk_f {d : DDisk} (h : ¬ diskFault d = 0) : flushDisk d = badDisk (diskFault d) := if_neg h
theorem flushDisk_0 {d : DDisk} (h : diskFault d = 0) : flushDisk d = ⟨0, ⟨keepN true [] d.cache d.blocks d.cache.length, []⟩⟩ := if_pos h
theorem crashDisk_f {d : DDisk} {ks : List Bool} (h : ¬ diskFault d = 0) : crashDisk d ks = badDisk (diskFault d) := if_neg h
theorem crashDisk_0 {d : DDisk} {ks : List Bool} (h : diskFault d = 0) : crashDisk d ks = ⟨0, ⟨keepN false ks d.cache d.blocks d.cache.length, []⟩⟩ := if_pos h
theorem getD_out {ks : List Bool} {k : Nat} (h : ¬ (k : Int) < (ks.length : Int)) : ks.getD k false = false := by
  rw [List.getD_eq_getElem?_getD, List.getElem?_eq_none (by omega)]; rfl
theorem getD_in {ks : List Bool} {k : Nat} {b : Bool} (h : ks[k]? = some b) : ks.getD k false = b := by
  rw [List.getD_eq_getElem?_getD, h]; rfl
theorem keepN_nil {ps : List DPut} {bs : List (List Int)} {ks : List Bool} {all : Bool} : bs = keepN all ks ps bs 0 := rfl
theorem keepN_64 {all : Bool} {ks : List Bool} {ps : List DPut} {bs : List (List Int)} (hb : ∀ b, b ∈ bs → b.length ≤ 64) (hp : ∀ p, p ∈ ps → p.words.length ≤ 64) : ∀ k b, b ∈ keepN all ks ps bs k → b.length ≤ 64
  | 0, b, h => hb b h
  | k + 1, b, h => by
    unfold keepN at h
    split at h
    · rename_i p hpk
      split at h
      · rcases List.mem_or_eq_of_mem_set h with h | rfl
        · exact keepN_64 hb hp k b h
        · exact hp p (List.mem_of_getElem? hpk)
      · exact keepN_64 hb hp k b h
    · exact keepN_64 hb hp k b h
def hasKey (key : Int) (es : List DExt) : Bool := es.any (fun e => decide (e.key = key))
theorem hasKey_some {key : Int} {es : List DExt} {q : Nat} {e : DExt} (he : es[q]? = some e) (h : e.key = key) : hasKey key es = true := by
  unfold hasKey; rw [List.any_eq_true]; exact ⟨e, List.mem_of_getElem? he, decide_eq_true h⟩
theorem hasKey_none {key : Int} {es : List DExt} {q : Nat} (hq : es.length ≤ q) (h : ∀ j e, j < q → es[j]? = some e → ¬ e.key = key) : hasKey key es = false := by
  unfold hasKey; rw [List.any_eq_false]
  intro e he
  obtain ⟨j, hj, rfl⟩ := List.mem_iff_getElem.1 he
  simp only [decide_eq_true_eq]
  exact h j _ (by omega) (List.getElem?_eq_getElem hj)
theorem hasKey_not {key : Int} {es : List DExt} (h : (!es.any fun x => decide (x.key = key)) = true) : hasKey key es = false := by unfold hasKey; simpa using h
theorem hasKey_yes {key : Int} {es : List DExt} (h : (!es.any fun x => decide (x.key = key)) = false) : hasKey key es = true := by unfold hasKey; simpa using h
def flushKern (k : DKern) (key : Int) : RKern := if kernFault k = 0 then if hasKey key k.exts = true then ⟨0, [], ⟨⟨keepN true [] k.disk.cache k.disk.blocks k.disk.cache.length, []⟩, k.exts⟩⟩ else badKern 6 else badKern (kernFault k)
theorem flushKern_f {k : DKern} {key : Int} (h : ¬ kernFault k = 0) : flushKern k key = badKern (kernFault k) := if_neg h
theorem flushKern_6 {k : DKern} {key : Int} (h : kernFault k = 0) (h2 : hasKey key k.exts = false) : flushKern k key = badKern 6 := by unfold flushKern; rw [if_pos h, if_neg (by rw [h2]; exact Bool.false_ne_true)]
theorem flushKern_0 {k : DKern} {key : Int} (h : kernFault k = 0) (h2 : hasKey key k.exts = true) : flushKern k key = ⟨0, [], ⟨⟨keepN true [] k.disk.cache k.disk.blocks k.disk.cache.length, []⟩, k.exts⟩⟩ := by unfold flushKern; rw [if_pos h, if_pos h2]
/-! ### writing by a key -/
def mayFault (k : DKern) (key a : Int) : Int := if (ownerOf k a).code = 0 then if (ownerOf k a).val = key then 0 else 6 else (ownerOf k a).code
theorem mayFault_n {k : DKern} {key a : Int} (h : ¬ (ownerOf k a).code = 0) : mayFault k key a = (ownerOf k a).code := if_neg h
theorem mayFault_6 {k : DKern} {key a : Int} (h : (ownerOf k a).code = 0) (h2 : ¬ (ownerOf k a).val = key) : mayFault k key a = 6 := by unfold mayFault; rw [if_pos h, if_neg h2]
theorem mayFault_0 {k : DKern} {key a : Int} (h : (ownerOf k a).code = 0) (h2 : (ownerOf k a).val = key) : mayFault k key a = 0 := by unfold mayFault; rw [if_pos h, if_pos h2]
theorem mayFault_k {k : DKern} {key a : Int} (h : (ownerOf k a).code = 0) (h2 : (ownerOf k a).val = key) : mayFault k key a = (ownerOf k a).code := by rw [mayFault_0 h h2, h]
def writeKern (k : DKern) (key a : Int) (ws : List Int) : RKern := if mayFault k key a = 0 then if (putBlock k.disk a ws).code = 0 then ⟨0, [], ⟨(putBlock k.disk a ws).disk, k.exts⟩⟩ else badKern (putBlock k.disk a ws).code else badKern (mayFault k key a)
theorem writeKern_f {k : DKern} {key a : Int} {ws : List Int} (h : ¬ mayFault k key a = 0) : writeKern k key a ws = badKern (mayFault k key a) := if_neg h
theorem writeKern_p {k : DKern} {key a : Int} {ws : List Int} (h : mayFault k key a = 0) (h2 : ¬ (putBlock k.disk a ws).code = 0) : writeKern k key a ws = badKern (putBlock k.disk a ws).code := by unfold writeKern; rw [if_pos h, if_neg h2]
theorem writeKern_0 {k : DKern} {key a : Int} {ws : List Int} (h : mayFault k key a = 0) (h2 : (putBlock k.disk a ws).code = 0) : writeKern k key a ws = ⟨0, [], ⟨(putBlock k.disk a ws).disk, k.exts⟩⟩ := by unfold writeKern; rw [if_pos h, if_pos h2]
/-! ### revoking -/
def findFrm (a : Int) (es : List DExt) : Option Nat := es.findIdx? (fun e => decide (e.frm = a))
def revoke (k : DKern) (a key : Int) : RKern :=
  if kernFault k = 0 then match findFrm a k.exts with
    | none => badKern 4
    | some i => match k.exts[i]? with
      | some e => if e.key = key then ⟨0, [], ⟨k.disk, k.exts.eraseIdx i⟩⟩ else badKern 6
      | none => badKern 4
  else badKern (kernFault k)
theorem findFrm_some {a : Int} {es : List DExt} {q : Nat} {e : DExt} (he : es[q]? = some e) (h : e.frm = a) (ha : ∀ j x, j < q → es[j]? = some x → ¬ x.frm = a) : findFrm a es = some q := by
  obtain ⟨hk, rfl⟩ := List.getElem?_eq_some_iff.1 he
  unfold findFrm
  rw [List.findIdx?_eq_some_iff_getElem]
  exact ⟨hk, decide_eq_true h, fun j hj => by simp only [decide_eq_true_eq]; exact ha j _ hj (List.getElem?_eq_getElem (by omega))⟩
theorem findFrm_none {a : Int} {es : List DExt} {q : Nat} (hq : es.length ≤ q) (ha : ∀ j x, j < q → es[j]? = some x → ¬ x.frm = a) : findFrm a es = none := by
  unfold findFrm
  rw [List.findIdx?_eq_none_iff]
  intro x hx
  obtain ⟨j, hj, rfl⟩ := List.mem_iff_getElem.1 hx
  simp only [decide_eq_false_iff_not]
  exact ha j _ (by omega) (List.getElem?_eq_getElem hj)
theorem revoke_f {k : DKern} {a key : Int} (h : ¬ kernFault k = 0) : revoke k a key = badKern (kernFault k) := if_neg h
theorem revoke_4 {k : DKern} {a key : Int} (h : kernFault k = 0) (h2 : findFrm a k.exts = none) : revoke k a key = badKern 4 := by unfold revoke; rw [if_pos h, h2]
theorem revoke_6 {k : DKern} {a key : Int} {i : Nat} {e : DExt} (h : kernFault k = 0) (h2 : findFrm a k.exts = some i) (he : k.exts[i]? = some e) (hk : ¬ e.key = key) : revoke k a key = badKern 6 := by unfold revoke; rw [if_pos h, h2]; simp only [he, if_neg hk]
theorem revoke_0 {k : DKern} {a key : Int} {i : Nat} {e : DExt} (h : kernFault k = 0) (h2 : findFrm a k.exts = some i) (he : k.exts[i]? = some e) (hk : e.key = key) : revoke k a key = ⟨0, [], ⟨k.disk, k.exts.eraseIdx i⟩⟩ := by unfold revoke; rw [if_pos h, h2]; simp only [he, if_pos hk]
theorem idx_frm {a : Int} {es : List DExt} (h : ¬ idxF (fun e => decide (e.frm = a)) es < 0) : ∃ i e, idxF (fun e => decide (e.frm = a)) es = ((i : Nat) : Int) ∧ findFrm a es = some i ∧ es[i]? = some e ∧ i < es.length := by
  unfold idxF at h ⊢
  cases hf : es.findIdx? (fun e => decide (e.frm = a)) with
  | none => rw [hf] at h; exact absurd (by decide : (-1 : Int) < 0) h
  | some i =>
    obtain ⟨hi, _, _⟩ := List.findIdx?_eq_some_iff_getElem.1 hf
    exact ⟨i, es[i], rfl, hf, List.getElem?_eq_getElem hi, hi⟩
theorem idx_none {a : Int} {es : List DExt} (h : idxF (fun e => decide (e.frm = a)) es < 0) : findFrm a es = none := by
  unfold idxF at h
  unfold findFrm
  cases hf : es.findIdx? (fun e => decide (e.frm = a)) with
  | none => rfl
  | some i => rw [hf] at h; simp only at h; omega
end Go.Proofs.Ytkmcpcahbfdohaa
/- What is proved: nothing: weights and marks of the data types. No condition. -/
namespace Go.Proofs.Ytkmcpcahbfdohaa
set_option linter.unusedVariables false
def wt_DPut (x : DPut) : Nat := 0 + x.words.length
def cnt_DPut (x : DPut) : Nat := 1 + x.words.length
def mark_DPut (n : Int) (x : DPut) : DPut := ⟨n, ((markL (fun _ => 1) (fun m _ => m)) (n + 1) x.words)⟩
def vcnt_DPut (x : DPut) : Nat := 0 + x.words.length
def vmark_DPut (n : Int) (x : DPut) : DPut := ⟨x.at_, ((markL (fun _ => 1) (fun m _ => m)) n x.words)⟩
def wt_DDisk (x : DDisk) : Nat := (x.blocks.length + sumF (fun x => x.length) x.blocks) + (x.cache.length + sumF wt_DPut x.cache)
def cnt_DDisk (x : DDisk) : Nat := (sumF (fun x => x.length) x.blocks) + (sumF cnt_DPut x.cache)
def mark_DDisk (n : Int) (x : DDisk) : DDisk := ⟨((markL (fun x => x.length) (markL (fun _ => 1) (fun m _ => m))) n x.blocks), ((markL cnt_DPut mark_DPut) (n + ((sumF (fun x => x.length) x.blocks) : Int)) x.cache)⟩
def vcnt_DDisk (x : DDisk) : Nat := (sumF (fun x => x.length) x.blocks) + (sumF cnt_DPut x.cache)
def vmark_DDisk (n : Int) (x : DDisk) : DDisk := ⟨((markL (fun x => x.length) (markL (fun _ => 1) (fun m _ => m))) n x.blocks), ((markL cnt_DPut mark_DPut) (n + ((sumF (fun x => x.length) x.blocks) : Int)) x.cache)⟩
def wt_RDisk (x : RDisk) : Nat := 0 + (wt_DDisk x.disk)
def cnt_RDisk (x : RDisk) : Nat := 1 + (cnt_DDisk x.disk)
def mark_RDisk (n : Int) (x : RDisk) : RDisk := ⟨n, (mark_DDisk (n + 1) x.disk)⟩
def vcnt_RDisk (x : RDisk) : Nat := 0 + (vcnt_DDisk x.disk)
def vmark_RDisk (n : Int) (x : RDisk) : RDisk := ⟨x.code, (vmark_DDisk n x.disk)⟩
def wt_DExt (x : DExt) : Nat := 0 + 0 + 0
def cnt_DExt (x : DExt) : Nat := 1 + 1 + 1
def mark_DExt (n : Int) (x : DExt) : DExt := ⟨n, (n + 1), (n + 1 + 1)⟩
def vcnt_DExt (x : DExt) : Nat := 0 + 0 + 0
def vmark_DExt (n : Int) (x : DExt) : DExt := ⟨x.frm, x.cnt, x.key⟩
def wt_DKern (x : DKern) : Nat := (wt_DDisk x.disk) + x.exts.length
def cnt_DKern (x : DKern) : Nat := (cnt_DDisk x.disk) + (sumF cnt_DExt x.exts)
def mark_DKern (n : Int) (x : DKern) : DKern := ⟨(mark_DDisk n x.disk), ((markL cnt_DExt mark_DExt) (n + ((cnt_DDisk x.disk) : Int)) x.exts)⟩
def vcnt_DKern (x : DKern) : Nat := (vcnt_DDisk x.disk) + (sumF cnt_DExt x.exts)
def vmark_DKern (n : Int) (x : DKern) : DKern := ⟨(vmark_DDisk n x.disk), ((markL cnt_DExt mark_DExt) (n + ((vcnt_DDisk x.disk) : Int)) x.exts)⟩
def wt_RKern (x : RKern) : Nat := 0 + x.words.length + (wt_DKern x.kern)
def cnt_RKern (x : RKern) : Nat := 1 + x.words.length + (cnt_DKern x.kern)
def mark_RKern (n : Int) (x : RKern) : RKern := ⟨n, ((markL (fun _ => 1) (fun m _ => m)) (n + 1) x.words), (mark_DKern (n + 1 + (x.words.length : Int)) x.kern)⟩
def vcnt_RKern (x : RKern) : Nat := 0 + x.words.length + (vcnt_DKern x.kern)
def vmark_RKern (n : Int) (x : RKern) : RKern := ⟨x.code, ((markL (fun _ => 1) (fun m _ => m)) n x.words), (vmark_DKern (n + (x.words.length : Int)) x.kern)⟩
def wt_RInts (x : RInts) : Nat := 0 + x.list.length
def cnt_RInts (x : RInts) : Nat := 1 + x.list.length
def mark_RInts (n : Int) (x : RInts) : RInts := ⟨n, ((markL (fun _ => 1) (fun m _ => m)) (n + 1) x.list)⟩
def vcnt_RInts (x : RInts) : Nat := 0 + x.list.length
def vmark_RInts (n : Int) (x : RInts) : RInts := ⟨x.code, ((markL (fun _ => 1) (fun m _ => m)) n x.list)⟩
def wt_RInt (x : RInt) : Nat := 0 + 0
def cnt_RInt (x : RInt) : Nat := 1 + 1
def mark_RInt (n : Int) (x : RInt) : RInt := ⟨n, (n + 1)⟩
def vcnt_RInt (x : RInt) : Nat := 0 + 0
def vmark_RInt (n : Int) (x : RInt) : RInt := ⟨x.code, x.val⟩
def wt_DSrc (x : DSrc) : Nat := x.code.length + 0
def cnt_DSrc (x : DSrc) : Nat := x.code.length + 1
def mark_DSrc (n : Int) (x : DSrc) : DSrc := ⟨((markL (fun _ => 1) (fun m _ => mbyte m)) n x.code), (n + (x.code.length : Int))⟩
def vcnt_DSrc (x : DSrc) : Nat := x.code.length + 0
def vmark_DSrc (n : Int) (x : DSrc) : DSrc := ⟨((markL (fun _ => 1) (fun m _ => mbyte m)) n x.code), x.at_⟩
end Go.Proofs.Ytkmcpcahbfdohaa
/- What is proved: how many cells the results have at most. No condition. -/
namespace Go.Proofs.Ytkmcpcahbfdohaa
set_option linter.unusedVariables false
set_option linter.unusedSimpArgs false
theorem sumF_rep {α : Type} (f : α → Nat) (x : α) : ∀ n, sumF f (List.replicate n x) = n * f x
  | 0 => by simp [sumF]
  | n + 1 => by rw [List.replicate_succ, sumF, sumF_rep f x n, Nat.succ_mul]; omega
theorem newDisk_cnt (n : Int) : vcnt_RDisk (newDisk n) ≤ 1048576 := by
  unfold newDisk
  split <;> simp [vcnt_RDisk, vcnt_DDisk, sumF, sumF_rep]
theorem newKern_cnt (n : Int) : vcnt_RKern (newKern n) ≤ 1048577 := by
  have h := newDisk_cnt n
  unfold vcnt_RDisk at h
  unfold newKern
  split <;> simp [vcnt_RKern, vcnt_DKern, vcnt_DDisk, sumF, badKern] at h ⊢ <;> omega
theorem sumF_bound {α : Type} {f : α → Nat} {B : Nat} : ∀ {xs : List α}, (∀ x, x ∈ xs → f x ≤ B) → sumF f xs ≤ xs.length * B
  | [], _ => by simp [sumF]
  | x :: xs, h => by
    have h1 := h x List.mem_cons_self
    have h2 := sumF_bound (xs := xs) (fun y hy => h y (List.mem_cons_of_mem _ hy))
    simp only [sumF, List.length_cons, Nat.succ_mul]; omega
theorem sumF_addf {α : Type} {f g : α → Nat} (h : ∀ x, f x = 1 + g x) : ∀ xs : List α, sumF f xs = xs.length + sumF g xs
  | [] => rfl
  | x :: xs => by simp only [sumF, List.length_cons, sumF_addf h xs, h x]; omega
theorem disk_cnt_wt (d : DDisk) : vcnt_DDisk d ≤ wt_DDisk d := by
  have h := sumF_addf (f := cnt_DPut) (g := wt_DPut) (fun x => by simp only [cnt_DPut, wt_DPut]; omega) d.cache
  simp only [vcnt_DDisk, wt_DDisk]; omega
theorem blocks_cnt {bs : List (List Int)} (h1 : bs.length ≤ 60) (h2 : ∀ b, b ∈ bs → b.length ≤ 64) : sumF (fun x => x.length) bs ≤ 4000 := by
  have := sumF_bound (f := fun x : List Int => x.length) h2
  have h3 : bs.length * 64 ≤ 60 * 64 := Nat.mul_le_mul_right _ h1
  omega
theorem puts_cnt {ps : List DPut} (h1 : ps.length ≤ 200) (h2 : ∀ p, p ∈ ps → p.words.length ≤ 64) : sumF cnt_DPut ps ≤ 13000 := by
  have := sumF_bound (f := cnt_DPut) (B := 65) (xs := ps) (fun p hp => by have := h2 p hp; simp only [cnt_DPut]; omega)
  have h3 : ps.length * 65 ≤ 200 * 65 := Nat.mul_le_mul_right _ h1
  omega
theorem badDisk_cnt (c : Int) : vcnt_RDisk (badDisk c) = 0 := by simp [vcnt_RDisk, vcnt_DDisk, badDisk, sumF]
theorem putBlock_cnt (d : DDisk) (a : Int) (ws : List Int) : vcnt_RDisk (putBlock d a ws) ≤ 1048576 := by
  unfold putBlock
  split
  · rename_i hd
    obtain ⟨h1, h2, h3, h4⟩ := diskOk hd
    split
    · split
      · rename_i hw
        split
        · rw [badDisk_cnt]; omega
        · have e1 := blocks_cnt h1 (fun b hb => words_64 (h3 b hb))
          have e2 := puts_cnt h2 (fun p hp => words_64 (h4 p hp).2)
          have e3 := words_64 hw
          simp only [vcnt_RDisk, vcnt_DDisk, sumF_snoc]
          have : cnt_DPut ⟨a, ws⟩ = 1 + ws.length := rfl
          omega
      · rw [badDisk_cnt]; omega
    · rw [badDisk_cnt]; omega
  · rw [badDisk_cnt]; omega
theorem kept_cnt {d : DDisk} (h : diskFault d = 0) (all : Bool) (ks : List Bool) : sumF (fun x => x.length) (keepN all ks d.cache d.blocks d.cache.length) ≤ 4000 := by
  obtain ⟨h1, h2, h3, h4⟩ := diskOk h
  exact blocks_cnt (by rw [keepN_len]; exact h1) (keepN_64 (fun b hb => words_64 (h3 b hb)) (fun p hp => words_64 (h4 p hp).2) _)
theorem flushDisk_cnt (d : DDisk) : vcnt_RDisk (flushDisk d) ≤ 1048576 := by
  by_cases h : diskFault d = 0
  · have := kept_cnt h true []
    rw [flushDisk_0 h]; simp only [vcnt_RDisk, vcnt_DDisk, sumF]; omega
  · rw [flushDisk_f h, badDisk_cnt]; omega
theorem crashDisk_cnt (d : DDisk) (ks : List Bool) : vcnt_RDisk (crashDisk d ks) ≤ 1048576 := by
  by_cases h : diskFault d = 0
  · have := kept_cnt h false ks
    rw [crashDisk_0 h]; simp only [vcnt_RDisk, vcnt_DDisk, sumF]; omega
  · rw [crashDisk_f h, badDisk_cnt]; omega
theorem badKern_cnt (c : Int) : vcnt_RKern (badKern c) = 0 := by simp [vcnt_RKern, vcnt_DKern, vcnt_DDisk, badKern, sumF]
theorem exts_cnt {es : List DExt} (h : es.length ≤ 9) : sumF cnt_DExt es ≤ 27 := by
  have := sumF_bound (f := cnt_DExt) (B := 3) (xs := es) (fun p _ => by simp [cnt_DExt])
  omega
theorem kern_cnt_wt (k : DKern) : vcnt_DKern k ≤ 3 * wt_DKern k := by
  have h := disk_cnt_wt k.disk
  have := sumF_bound (f := cnt_DExt) (B := 3) (xs := k.exts) (fun p _ => by simp [cnt_DExt])
  simp only [vcnt_DKern, wt_DKern]; omega
theorem flushKern_cnt (k : DKern) (key : Int) : vcnt_RKern (flushKern k key) ≤ 1048576 := by
  by_cases h : kernFault k = 0
  · obtain ⟨hd, h8, _, _⟩ := kernOk h
    cases hh : hasKey key k.exts with
    | true =>
      have h1 := kept_cnt hd true []
      have h2 := exts_cnt (es := k.exts) (by omega)
      rw [flushKern_0 h hh]; simp only [vcnt_RKern, vcnt_DKern, vcnt_DDisk, sumF, List.length_nil]; omega
    | false => rw [flushKern_6 h hh, badKern_cnt]; omega
  · rw [flushKern_f h, badKern_cnt]; omega
theorem exts_cnt_wt (k : DKern) : sumF cnt_DExt k.exts ≤ 3 * wt_DKern k := by
  have := sumF_bound (f := cnt_DExt) (B := 3) (xs := k.exts) (fun p _ => by simp [cnt_DExt])
  simp only [wt_DKern]; omega
theorem writeKern_cnt (k : DKern) (key a : Int) (ws : List Int) : vcnt_RKern (writeKern k key a ws) ≤ 1048576 + 3 * wt_DKern k := by
  have h1 := putBlock_cnt k.disk a ws
  have h2 := exts_cnt_wt k
  unfold vcnt_RDisk at h1
  unfold writeKern
  split
  · split
    · simp only [vcnt_RKern, vcnt_DKern, List.length_nil]; omega
    · rw [badKern_cnt]; omega
  · rw [badKern_cnt]; omega
theorem sumF_erase {α : Type} (f : α → Nat) : ∀ (xs : List α) (i : Nat), sumF f (xs.eraseIdx i) ≤ sumF f xs
  | [], _ => by simp [sumF]
  | x :: xs, 0 => by simp only [List.eraseIdx_cons_zero, sumF]; omega
  | x :: xs, i + 1 => by simp only [List.eraseIdx_cons_succ, sumF]; have := sumF_erase f xs i; omega
theorem revoke_cnt (k : DKern) (a key : Int) : vcnt_RKern (revoke k a key) ≤ 3 * wt_DKern k := by
  have hw := kern_cnt_wt k
  unfold vcnt_DKern at hw
  unfold revoke
  split
  · split
    · rw [badKern_cnt]; omega
    · rename_i i _
      split
      · split
        · have := sumF_erase cnt_DExt k.exts i
          simp only [vcnt_RKern, vcnt_DKern, List.length_nil]; omega
        · rw [badKern_cnt]; omega
      · rw [badKern_cnt]; omega
  · rw [badKern_cnt]; omega
end Go.Proofs.Ytkmcpcahbfdohaa
/- What is proved: small laws for what draws numbers from bytes. No condition. -/
namespace Go.Proofs.Ytkmcpcahbfdohaa
open Go Go.RowKit
theorem tmod_in {x n : Int} (hx : 0 ≤ x) (hn : 1 ≤ n) : 0 ≤ Int.tmod x n ∧ Int.tmod x n < n :=
  ⟨Int.tmod_nonneg _ hx, Int.tmod_lt_of_pos _ (by omega)⟩
theorem div_in {x n : Int} (hx : 0 ≤ x) (hn : 1 ≤ n) : 0 ≤ x / n ∧ x / n ≤ x :=
  ⟨Int.ediv_nonneg hx (by omega), Int.ediv_le_self _ hx⟩
theorem src_hl {α : Type} {K : Kd α} {e by_ : Nat} {w : World} {F : Bs} {xs : List α} {A : Option Addr} {c : Nat} (h : (kslice e by_ K).ro w F xs [.slice A xs.length c]) : xs.length ≤ c ∧ c ≤ 9223372036854775807 ∧ xs.length * by_ ≤ 140737488355328 := by
  obtain ⟨A', c', hv, h1, h2, h3, _⟩ := ro_form h
  cases hv
  exact ⟨h1, h2, h3⟩
end Go.Proofs.Ytkmcpcahbfdohaa
/- What is proved: elements taken out of a slice of one's own, in place. No condition. -/
namespace Go.Proofs.Ytkmcpcahbfdohaa
open Go Go.RowKit
set_option linter.unusedVariables false
set_option linter.unusedSimpArgs false
theorem Star.sublist {l l' : List Asn} (h : l'.Sublist l) : ∀ {w : World} {S : Bs}, Star l w S → Star l' w S := by
  induction h with
  | slnil => exact fun h => h
  | cons c _ ih => exact fun h => ih h.drop
  | cons_cons c _ ih =>
    intro w S ⟨A, B, h1, h2, a, b, d⟩
    exact ⟨A, B, h1, ih h2, a, b, d⟩
theorem seq_cut {α : Type} {K : Kd α} {xs : List α} {css : List (List Value)} {w : World} {S : Bs} {i j : Nat} (hl : css.length = xs.length) (hij : i ≤ j) (h : Star (seqA K xs css) w S) : Star (seqA K (xs.take i ++ xs.drop j) (css.take i ++ css.drop j)) w S := by
  have e : seqA K (xs.take i ++ xs.drop j) (css.take i ++ css.drop j) = (seqA K xs css).take i ++ (seqA K xs css).drop j := by
    unfold seqA
    rw [List.zipWith_append (by simp [hl]), List.take_zipWith, List.drop_zipWith]
  rw [e]
  refine Star.sublist ?_ h
  have : (seqA K xs css).take i ++ (seqA K xs css).drop i = seqA K xs css := List.take_append_drop _ _
  conv => rhs; rw [← this]
  exact List.Sublist.append (List.Sublist.refl _) (List.drop_sublist_drop_left _ hij)
theorem flatten_take {css : List (List Value)} {n : Nat} (hl : ∀ c, c ∈ css → c.length = n) (i : Nat) : (css.take i).flatten = css.flatten.take (i * n) := by
  induction css generalizing i with
  | nil => simp
  | cons d css ih =>
    have hd := hl d List.mem_cons_self
    cases i with
    | zero => simp
    | succ i =>
      simp only [List.take_succ_cons, List.flatten_cons]
      rw [ih (fun c hc => hl c (List.mem_cons_of_mem _ hc)) i, List.take_append, List.take_of_length_le (l := d) (by rw [hd, Nat.succ_mul]; omega), hd, Nat.succ_mul, Nat.add_sub_cancel]
theorem flatten_drop {css : List (List Value)} {n : Nat} (hl : ∀ c, c ∈ css → c.length = n) (i : Nat) : (css.drop i).flatten = css.flatten.drop (i * n) := by
  induction css generalizing i with
  | nil => simp
  | cons d css ih =>
    have hd := hl d List.mem_cons_self
    cases i with
    | zero => simp
    | succ i =>
      simp only [List.drop_succ_cons, List.flatten_cons]
      rw [ih (fun c hc => hl c (List.mem_cons_of_mem _ hc)) i, List.drop_append, List.drop_of_length_le (l := d) (by rw [hd, Nat.succ_mul]; omega), hd, List.nil_append, Nat.succ_mul, Nat.add_sub_cancel]
section
variable {P : Program} {T : Slots} {Wd : World → Prop} {o : Oper} {N : Nat} {w0 : World} {S0 : Bs} {l l' lk : List Asn}
/-- append(s[:i], s[j:]...) over one row: what is between is gone. -/
theorem e_appendSelf {α : Type} {K : Kd α} {e by_ i j c : Nat} {xs : List α} {ad : Addr} {A' : Option Addr} {z : Option Value} {s x : Operand} {t : TypeId} (ho : o.op = .call { callee := .builtin .append, args := #[s, x], argTypes := #[t, t] }) (ht : P.underlying t = some (.slice e))
    (hi : (P.info? e).map (fun i => (i.size, i.bytes, i.zero)) = some (K.sz, by_, z)) (hs : Val T s (.slice (some ad) i c)) (hx : Val T x (.slice A' (xs.length - j) (c - j))) (hA : A' = (if c = j then some ad else some (ad.add (j * K.sz))))
    (hT : Takes l [ownA (kslice e by_ K) xs [.slice (some ad) xs.length c]] l') (hij : i ≤ j) (hj : j ≤ xs.length) :
    Eff P o T w0 S0 l (fun r l2 => r = .slice (some ad) (xs.take i ++ xs.drop j).length c ∧ l2 = ownA (kslice e by_ K) (xs.take i ++ xs.drop j) [r] :: l') := by
  intro a w ha hw
  obtain ⟨S1, hA1, tr, hk⟩ := (hw.takes hT).eff
  obtain ⟨i0, k1, k2⟩ := Option.map_eq_some_iff.1 hi
  obtain ⟨k2, k3⟩ := Prod.mk.inj k2
  have hlen : (xs.take i ++ xs.drop j).length = i + (xs.length - j) := by simp; omega
  rcases (show (kslice e by_ K).own w S1 xs [.slice (some ad) xs.length c] from hA1.head) with ⟨A, h, rfl⟩ | ⟨g, c', css, h, h1, h2, h3, h4, h5⟩
  · -- nothing is there
    have h' := List.singleton_inj.1 h
    injection h' with e1 e2 e3
    subst e3
    have hj0 : j = 0 := by simpa using hj
    subst hj0
    have hi0 : i = 0 := by omega
    subst hi0
    simp only [if_true] at hA
    subst hA
    refine ⟨.slice (some ad) 0 0, w, _, ?_, ⟨rfl, rfl⟩, hk w [ownA (kslice e by_ K) ([].take 0 ++ [].drop 0) [.slice (some ad) 0 0]] S1 (Star.one (c := ownA (kslice e by_ K) _ _) (.inl ⟨some ad, rfl, rfl⟩)) (fun b hb => .inl hb) (Fr.refl _ _)⟩
    have hx' : a.eval x = .slice (some ad) 0 0 := hx a ha
    rw [exec_append ho (hs a ha) hx', append_none ht k1 (some ad) 0 0 (Nat.le_refl _) _ ⟨_, _, rfl⟩ w]; rfl
  · have h' := List.singleton_inj.1 h
    injection h' with e1 e2 e3
    obtain rfl := Option.some.inj e1
    subst e3
    obtain ⟨B1, B2, ⟨hg, cur, q1, q2, q3, q4⟩, hseq, i1, i2, dd⟩ := h5
    have hlc := seq_len h4 hseq
    have hfl : css.flatten.length = xs.length * K.sz := by rw [flatten_len hlc, h4]
    have hcut := seq_cut (i := i) (j := j) h4 hij hseq
    have hclen : (css.take i ++ css.drop j).length = (xs.take i ++ xs.drop j).length := by simp [h4]
    have hx3 : (xs.take i ++ xs.drop j).length * by_ ≤ 140737488355328 := by
      have : (xs.take i ++ xs.drop j).length * by_ ≤ xs.length * by_ := Nat.mul_le_mul_right _ (by omega)
      omega
    by_cases hm : xs.length - j = 0
    · have hje : j = xs.length := by omega
      subst hje
      refine ⟨.slice (some ⟨g, 0, none⟩) i c, w, _, ?_, ⟨by rw [hlen, hm]; rfl, rfl⟩, hk w [ownA (kslice e by_ K) (xs.take i ++ xs.drop xs.length) [.slice (some ⟨g, 0, none⟩) i c]] S1 (Star.one (c := ownA (kslice e by_ K) _ _) (.inr ⟨g, c, css.take i ++ css.drop xs.length, by rw [hlen, hm]; rfl, by rw [hlen]; omega, h2, hx3, hclen, B1, B2, ⟨hg, cur, q1, q2, ?_, ?_⟩, hcut, i1, i2, dd⟩)) (fun b hb => .inl hb) (Fr.refl _ _)⟩
      · have hx' := hx a ha
        rw [hm] at hx'
        rw [exec_append ho (hs a ha) hx', append_none ht k1 (some ⟨g, 0, none⟩) i c (by omega) _ ⟨_, _, rfl⟩ w]; rfl
      · rw [← h4, List.drop_length, List.append_nil, flatten_take hlc, List.length_take]; omega
      · rw [← h4, List.drop_length, List.append_nil, flatten_take hlc]
        have hle : i * K.sz ≤ css.flatten.length := by rw [hfl]; exact Nat.mul_le_mul_right _ (by omega)
        rw [List.length_take, Nat.min_eq_left hle, ← q4, List.take_take, Nat.min_eq_left (by rw [q4] at *; exact hle)]
    · rw [if_neg (by omega)] at hA
      subst hA
      have hnl : (css.drop j).flatten.length = (xs.length - j) * K.sz := by rw [flatten_drop hlc, List.length_drop, hfl, Nat.sub_mul]
      have hone : ∀ u, u ∈ (css.drop j).flatten → u.oneCell' = true := by
        intro u hu
        obtain ⟨d, hd, hu⟩ := List.mem_flatten.1 hu
        exact (seq_ones h4 hseq d (List.mem_of_mem_drop hd)).2 u hu
      have hroom : i + (xs.length - j) ≤ c := by omega
      have hmul : (i + (xs.length - j)) * K.sz ≤ c * K.sz := Nat.mul_le_mul_right _ hroom
      rw [Nat.add_mul] at hmul
      have hr := run_append_room (P := P) w t o.type e i0 ht k1 g i c cur q1 ((⟨g, 0, none⟩ : Addr).add (j * K.sz)) (xs.length - j) (c - j) (css.drop j).flatten (by rw [k2]; exact hnl)
        (fun q u hu => by
          rw [add_add, add_plain', flatten_drop hlc, List.getElem?_drop] at *
          exact row_cell (S := B1) (sz := K.sz) (c := c) ⟨hg, cur, q1, q2, q3, q4⟩ hu) hone hroom (by rw [k2, hnl, q2]; exact hmul)
      rw [k2] at hr
      have htk : cur.toList.take (i * K.sz) = (css.take i).flatten := by
        rw [flatten_take hlc, ← q4, List.take_take, Nat.min_eq_left]
        rw [hfl]; exact Nat.mul_le_mul_right _ (by omega)
      rw [htk] at hr
      have hne : ∀ b, b ≠ g → (w.setRow g ((css.take i).flatten ++ (css.drop j).flatten ++ cur.toList.drop (i * K.sz + (css.drop j).flatten.length)).toArray).heap[b]? = w.heap[b]? := fun b hb => setRow_other w g b _ hb
      have hti : (css.take i).flatten.length = i * K.sz := by rw [flatten_take hlc, List.length_take, Nat.min_eq_left]; rw [hfl]; exact Nat.mul_le_mul_right _ (by omega)
      refine ⟨_, _, _, ?_, ⟨by rw [hlen], rfl⟩, hk _ [ownA (kslice e by_ K) (xs.take i ++ xs.drop j) [.slice (some ⟨g, 0, none⟩) (i + (xs.length - j)) c]] S1 (Star.one (c := ownA (kslice e by_ K) _ _) (.inr ⟨g, c, css.take i ++ css.drop j, by rw [hlen], by rw [hlen]; exact hroom, h2, hx3, hclen, B1, B2, ⟨hg, _, setRow_heap w g cur _ e _ q1, ?_, ?_, ?_⟩, hcut.loc (fun b hb => hne b (fun e => dd g hg (e ▸ hb))), i1, i2, dd⟩)) (fun b hb => .inl hb) ⟨rfl, rfl, rfl, by simp, fun b hb hn => hne b (fun e => hn (e ▸ i1 g hg))⟩⟩
      · rw [exec_append ho (hs a ha) (hx a ha), hr]; rfl
      · simp only [List.size_toArray, List.length_append, List.length_drop, Array.length_toList, hti, hnl]; omega
      · simp only [List.size_toArray, List.length_append, List.flatten_append]; omega
      · simp only [List.flatten_append]; exact List.take_left
theorem q_sliceHi {x : Operand} {t e : TypeId} {sz b n c : Nat} {z : Operand} {k : IntKind} {ad : Addr} (ho : o.op = .slice t x none (some z) none) (ht : P.underlying t = some (.slice e)) (he : (P.info? e).map (·.size) = some sz) (hx : Val T x (.slice (some ad) n c)) (hz : Val T z (.int k (b : Int))) (h : b ≤ c) : Quiet P o T Wd (.slice (some ad) b c) := by
  have h0 := q_slice (Wd := Wd) (a := 0) (b := b) ho ht he hx (.inl ⟨rfl, rfl⟩) (.inr ⟨z, k, rfl, hz⟩) (Nat.zero_le _) h
  have e1 : (some ad).map (·.add (0 * sz)) = some ad := by rw [Nat.zero_mul]; simp [Addr.add]
  rw [e1, ite_self, Nat.sub_zero, Nat.sub_zero] at h0
  exact h0
/-- An effect whose value nobody asks for. -/
theorem FJ.ev {o : Oper} {F F' : Act → World → Prop} {R : Value → List Asn → Prop} (hG : Goes P N T o F F') (hd : o.dst = none) (he : Eff P o T w0 S0 l R) (h : ∀ v l', R v l' → FJ N w0 S0 F' T l') : FJ N w0 S0 F T l := by
  intro a w h1 h2 h3 h4
  obtain ⟨v, w', l', hr, hR, hw⟩ := he a w h3 h4
  refine hG.value a w v w' h2 h3 hr ?_
  rw [hd]
  exact h v l' hR _ w' h1 h2 h3 hw
/-- clear of what lies behind a slice's own elements. -/
theorem e_clearTail {α : Type} {K : Kd α} {e by_ k c : Nat} {ys : List α} {ad : Addr} {A' : Option Addr} {z : Value} {x : Operand} {t : TypeId} (ho : o.op = .call { callee := .builtin .clear, args := #[x], argTypes := #[t] }) (ht : P.underlying t = some (.slice e))
    (hi : (P.info? e).map (fun i => (i.size, i.bytes, i.zero)) = some (K.sz, by_, some z)) (hz : z.cells.size = K.sz) (hz1 : ∀ u, u ∈ z.cells.toList → u.oneCell' = true) (hx : Val T x (.slice A' k (c - ys.length))) (hA : A' = (if c = ys.length then some ad else some (ad.add (ys.length * K.sz))))
    (hT : Takes l [ownA (kslice e by_ K) ys [.slice (some ad) ys.length c]] l') (hk : ys.length + k ≤ c) :
    Eff P o T w0 S0 l (fun r l2 => l2 = ownA (kslice e by_ K) ys [.slice (some ad) ys.length c] :: l') := by
  intro a w ha hw
  obtain ⟨S1, hA1, tr, hkk⟩ := (hw.takes hT).eff
  obtain ⟨i0, k1, k2⟩ := Option.map_eq_some_iff.1 hi
  obtain ⟨k2, k3⟩ := Prod.mk.inj k2
  obtain ⟨k3, k4⟩ := Prod.mk.inj k3
  have hexec : ∀ w', (Builtin.clear_ #[t] o.type #[.slice A' k (c - ys.length)]).run P w = .ok (.tuple #[]) w' → (execOp a.eval o).run P w = .ok (.value (.tuple #[])) w' := fun w' h => by
    simp only [execOp, ho]
    simp [resolve, hx a ha, invoke, builtin, h]
  by_cases hk0 : k = 0
  · subst hk0
    refine ⟨.tuple #[], w, _, hexec w ?_, rfl, hkk w [ownA (kslice e by_ K) ys [.slice (some ad) ys.length c]] S1 (Star.one hA1.head) (fun b hb => .inl hb) (Fr.refl _ _)⟩
    cases A' <;> simp [Builtin.clear_, run_underlying ht]
  rw [if_neg (by omega)] at hA
  subst hA
  rcases (show (kslice e by_ K).own w S1 ys [.slice (some ad) ys.length c] from hA1.head) with ⟨A, h, rfl⟩ | ⟨g, c', css, h, h1, h2, h3, h4, h5⟩
  · have h' := List.singleton_inj.1 h
    injection h' with e1 e2 e3
    omega
  · have h' := List.singleton_inj.1 h
    injection h' with e1 e2 e3
    obtain rfl := Option.some.inj e1
    subst e3
    obtain ⟨B1, B2, ⟨hg, cur, q1, q2, q3, q4⟩, hseq, i1, i2, dd⟩ := h5
    have hlc := seq_len h4 hseq
    have hfl : css.flatten.length = ys.length * K.sz := by rw [flatten_len hlc, h4]
    have hzl : (Builtin.zeroCells z.cells k).toList.length = k * K.sz := by rw [Array.length_toList, size_zeroCells, hz]
    have hmul : (ys.length + k) * K.sz ≤ c * K.sz := Nat.mul_le_mul_right _ hk
    rw [Nat.add_mul] at hmul
    have hone : ∀ u, u ∈ (Builtin.zeroCells z.cells k).toList → u.oneCell' = true := by
      intro u hu
      have hu' : u ∈ (madeCells z.cells (k * z.cells.size)).toList := hu
      rw [madeCells_flat _ _ (by rw [hz]; exact K.pos)] at hu'
      obtain ⟨d, hd, hu2⟩ := List.mem_flatten.1 hu'
      rw [(List.mem_replicate.1 hd).2] at hu2
      exact hz1 u hu2
    have hcur : cur.toList.length = cur.size := Array.length_toList
    have hst := run_storeCells_at P g (ys.length * K.sz) e (Builtin.zeroCells z.cells k).toList 0 cur w q1 (by rw [hzl]; omega) hone
    simp only [Nat.add_zero, hzl] at hst
    have hne : ∀ b, b ≠ g → (w.setRow g (cur.toList.take (ys.length * K.sz) ++ (Builtin.zeroCells z.cells k).toList ++ cur.toList.drop (ys.length * K.sz + k * K.sz)).toArray).heap[b]? = w.heap[b]? := fun b hb => setRow_other w g b _ hb
    refine ⟨.tuple #[], _, _, hexec _ ?_, rfl, hkk _ [ownA (kslice e by_ K) ys [.slice (some ⟨g, 0, none⟩) ys.length c]] S1 (Star.one (c := ownA (kslice e by_ K) _ _) (.inr ⟨g, c, css, rfl, h1, h2, h3, h4, B1, B2, ⟨hg, _, setRow_heap w g cur _ e _ q1, ?_, ?_, ?_⟩, hseq.loc (fun b hb => hne b (fun e => dd g hg (e ▸ hb))), i1, i2, dd⟩)) (fun b hb => .inl hb) ⟨rfl, rfl, rfl, by simp, fun b hb hn => hne b (fun e => hn (e ▸ i1 g hg))⟩⟩
    · rw [add_plain']
      simp [Builtin.clear_, run_underlying ht, hk0, zeroValue, typeInfo, k1, k4, hst]
    · simp only [List.size_toArray, List.length_append, List.length_take, List.length_drop, Array.length_toList, hzl]; omega
    · simp only [List.size_toArray, List.length_append, List.length_take, List.length_drop, Array.length_toList, hzl]; omega
    · rw [hfl, List.append_assoc, List.take_append_of_le_length (by rw [List.length_take]; omega), List.take_take, Nat.min_self, ← hfl]
      exact q4
end
end Go.Proofs.Ytkmcpcahbfdohaa
/- What is proved: one element of a slice of one's own, taken out and put back; a part of a slice of one's own, read; a row's cells as a slice of structs. No condition. -/
namespace Go.Proofs.Ytkmcpcahbfdohaa
open Go Go.RowKit
set_option linter.unusedVariables false
set_option linter.unusedSimpArgs false
theorem seqA_at {α : Type} {K : Kd α} : ∀ {xs : List α} {css : List (List Value)} {j : Nat} {x : α} {c : List Value}, xs[j]? = some x → css[j]? = some c → seqA K xs css = seqA K (xs.take j) (css.take j) ++ ownA K x c :: seqA K (xs.drop (j + 1)) (css.drop (j + 1))
  | [], _, _, _, _, hx, _ => by simp at hx
  | _, [], _, _, _, _, hc => by simp at hc
  | y :: xs, d :: css, 0, x, c, hx, hc => by
    simp at hx hc
    subst hx; subst hc
    rfl
  | y :: xs, d :: css, j + 1, x, c, hx, hc => by
    have ih := seqA_at (K := K) (xs := xs) (css := css) (j := j) (x := x) (c := c) (by simpa using hx) (by simpa using hc)
    rw [seqA_cons, ih]
    rfl
theorem seq_split {α : Type} {K : Kd α} {xs : List α} {css : List (List Value)} {j : Nat} {x : α} {c : List Value} (hx : xs[j]? = some x) (hc : css[j]? = some c) (w : World) (S : Bs) (h : (seqC K xs css).p w S) : Star [ownA K x c, seqC K (xs.take j) (css.take j), seqC K (xs.drop (j + 1)) (css.drop (j + 1))] w S := by
  have h1 : Star (seqA K xs css) w S := h
  rw [seqA_at hx hc] at h1
  obtain ⟨A, B, hA, ⟨B1, B2, h2, h3, i1, i2, d1⟩, i, k, d⟩ := h1.split
  exact ⟨B1, fun b => A b ∨ B2 b, h2, ⟨A, B2, hA, Star.one (c := seqC K _ _) h3, fun _ h => .inl h, fun _ h => .inr h, fun b ha hb => d b ha (i2 b hb)⟩, fun b hb => k b (i1 b hb), fun b hb => hb.elim (i b) (fun h => k b (i2 b h)), fun b hb hb2 => hb2.elim (fun h => d b h (i1 b hb)) (d1 b hb)⟩
theorem seq_join {α : Type} {K : Kd α} {xs : List α} {css : List (List Value)} {j : Nat} {x : α} {c : List Value} (hx : xs[j]? = some x) (hc : css[j]? = some c) (w : World) (S : Bs) (h : Star [ownA K x c, seqC K (xs.take j) (css.take j), seqC K (xs.drop (j + 1)) (css.drop (j + 1))] w S) : (seqC K xs css).p w S := by
  obtain ⟨B1, C, h2, ⟨A, B2, hA, h3, i1, i2, d1⟩, i, k, d⟩ := h
  show Star (seqA K xs css) w S
  rw [seqA_at hx hc]
  have h3' : Star (seqA K (xs.drop (j + 1)) (css.drop (j + 1))) w B2 := Star.head (c := seqC K _ _) h3
  exact Star.app hA ⟨B1, B2, h2, h3', fun _ h => .inl h, fun _ h => .inr h, fun b hb hb2 => d b hb (i2 b hb2)⟩ (S2 := fun b => B1 b ∨ B2 b) (fun b hb => k b (i1 b hb)) (fun b hb => hb.elim (i b) (fun h => k b (i2 b h))) (fun b ha hb => hb.elim (fun h => d b h (i1 b ha)) (d1 b ha))
theorem css_same {css : List (List Value)} {j : Nat} {c : List Value} (h : css[j]? = some c) : css = css.set j c := by
  obtain ⟨hj, rfl⟩ := List.getElem?_eq_some_iff.1 h
  exact (List.set_getElem_self hj).symm
theorem own_unfocus {α : Type} {K : Kd α} {e by_ : Nat} {xs : List α} {css css' : List (List Value)} {j : Nat} {x : α} {c : List Value} {v : Value} (hl : css.length = xs.length) (hj : j < xs.length) (he : css' = css.set j c) (w : World) (S : Bs)
    (h : Star [ownA (kslice e by_ (kraw K.sz K.pos)) css' [v], ownA K x c, seqC K (xs.take j) (css.take j), seqC K (xs.drop (j + 1)) (css.drop (j + 1))] w S) : (ownA (kslice e by_ K) (xs.set j x) [v]).p w S := by
  subst he
  obtain ⟨A, B, hA, hB, i, k, d⟩ := h
  refine raw_own (xs := xs.set j x) (css := css.set j c) (by rw [List.length_set, List.length_set]; exact hl) w S ⟨A, B, hA, Star.one (c := seqC K _ _) (seq_join (j := j) (x := x) (c := c) (by rw [List.getElem?_set_self hj]) (by rw [List.getElem?_set_self (by omega)]) w B ?_), i, k, d⟩
  rw [List.take_set_of_le (Nat.le_refl j), List.take_set_of_le (Nat.le_refl j), List.drop_set_of_lt (Nat.lt_succ_self j), List.drop_set_of_lt (Nat.lt_succ_self j)]
  exact hB
theorem own_unfocus0 {α : Type} {K : Kd α} {e by_ : Nat} {xs : List α} {css : List (List Value)} {j : Nat} {x : α} {c : List Value} {v : Value} (hl : css.length = xs.length) (hx : xs[j]? = some x) (hc : css[j]? = some c) (w : World) (S : Bs)
    (h : Star [ownA (kslice e by_ (kraw K.sz K.pos)) css [v], ownA K x c, seqC K (xs.take j) (css.take j), seqC K (xs.drop (j + 1)) (css.drop (j + 1))] w S) : (ownA (kslice e by_ K) xs [v]).p w S := by
  obtain ⟨A, B, hA, hB, i, k, d⟩ := h
  exact raw_own hl w S ⟨A, B, hA, Star.one (c := seqC K _ _) (seq_join hx hc w B hB), i, k, d⟩
/-- A row of one element's cells, and what it owns. -/
theorem lit1_own {α : Type} {K : Kd α} {e by_ g sz : Nat} {x : α} {cs : List Value} (hsz : K.sz = sz) (hl : cs.length = sz) (hb : by_ ≤ 140737488355328) (w : World) (S : Bs) (h : Star [rowA g e sz 1 cs, ownA K x cs] w S) : (ownA (kslice e by_ K) [x] [.slice (some ⟨g, 0, none⟩) 1 1]).p w S := by
  subst hsz
  obtain ⟨A, B, hA, hB, i, k, d⟩ := h
  exact .inr ⟨g, 1, [cs], rfl, Nat.le_refl _, by omega, by simpa using hb, rfl, A, B, by simpa using hA, ⟨B, fun _ => False, Star.head (c := ownA K x cs) hB, trivial, fun _ h => h, fun _ h => h.elim, fun _ _ h => h⟩, i, k, d⟩
theorem Tr.ptrpre {w0 : World} {S0 : Bs} {l' : List Asn} {α : Type} {K : Kd α} {w : World} {S1 : Bs} {lr : List Asn} {g e sz c : Nat} {ecs cs : List Value} {x : α} (tr : Tr w0 S0 w S1 lr) (tk : Take lr (rowA g e sz c ecs) l') (hr : K.ro w (FF w S1) x cs) (hs : ∀ (i : Nat) (u : Value), cs[i]? = some u → ecs[i]? = some u) : PtrRo K w (FF w S1) ⟨g, 0, none⟩ x := by
  obtain ⟨S2, hst, hsub⟩ := tr.all
  have h := (hst.take tk).head
  refine ⟨cs, hsub _ h.1, hr, fun i u hu => ?_⟩
  rw [add_plain']
  exact row_cell h (hs i u hu)
theorem Tr.elw {w0 : World} {S0 : Bs} {α : Type} {K : Kd α} {w : World} {S1 : Bs} {lr : List Asn} {B : Addr} {ecs : List Value} {x : α} (tr : Tr w0 S0 w S1 lr) (hF : FF w0 S0 B.block) (hc : ∀ (i : Nat) (u : Value), ecs[i]? = some u → w0.cell? (B.add i) = some u) (hr : K.ro w (FF w S1) x ecs) : PtrRo K w (FF w S1) B x :=
  ⟨ecs, (tr.wide _ hF).1, hr, fun i u hu => (cell_loc (by rw [add_block]; exact (tr.wide _ hF).2)).trans (hc i u hu)⟩
section
variable {P : Program} {T : Slots} {Wd : World → Prop} {o : Oper}
theorem q_field {x : Operand} {s f : Nat} {v u : Value} (ho : o.op = .field s x f) (hx : Val T x v) (hs : ∀ w, (Instr.field s v f).run P w = .ok u w) : Quiet P o T Wd u := fun a w ha _ => by
  simp only [execOp, ho, hx a ha]; simp [hs w]
end
end Go.Proofs.Ytkmcpcahbfdohaa
/- What is proved: copy into a part of a slice of one's own. No condition. -/
namespace Go.Proofs.Ytkmcpcahbfdohaa
open Go Go.RowKit
set_option linter.unusedVariables false
set_option linter.unusedSimpArgs false
theorem mix_take {β : Type} {cur fl ys : List β} {a : Nat} (h : cur.take fl.length = fl) (hm : a + ys.length ≤ fl.length) : (cur.take a ++ ys ++ cur.drop (a + ys.length)).take fl.length = fl.take a ++ ys ++ fl.drop (a + ys.length) := by
  have hc : cur = fl ++ cur.drop fl.length := by conv => lhs; rw [← List.take_append_drop fl.length cur, h]
  generalize cur.drop fl.length = r at hc
  subst hc
  have h1 : (fl ++ r).take a = fl.take a := List.take_append_of_le_length (by omega)
  have h2 : (fl ++ r).drop (a + ys.length) = fl.drop (a + ys.length) ++ r := List.drop_append_of_le_length hm
  rw [h1, h2, ← List.append_assoc]
  exact List.take_left' (by simp only [List.length_append, List.length_take, List.length_drop]; omega)
section
variable {P : Program} {T : Slots} {o : Oper} {w0 : World} {S0 : Bs} {l l' : List Asn}
theorem cpy_len {α : Type} {x : Operand} {xs : List α} {A : Option Addr} {i c : Nat} (h : Val T x (.slice A (subL xs i xs.length).length c)) : Val T x (.slice A (xs.length - i) c) := by rwa [subL_len (Nat.le_refl _)] at h
theorem e_copyF {α : Type} {K : Kd α} (hK : Flat K) {e by_ e2 by2 i c c' : Nat} {xs ys : List α} {ad : Addr} {A' : Option Addr} {xv : Value} {x s : Operand} {t t' : TypeId} (ho : o.op = .call { callee := .builtin .copy, args := #[x, s], argTypes := #[t, t'] }) (ht : P.underlying t = some (.slice e))
    (hi : (P.info? e).map (·.size) = some K.sz) (hx : Val T x (.slice A' (xs.length - i) c')) (hA : A' = (if c = i then some ad else some (ad.add (i * K.sz)))) (hs : Val T s xv)
    (hT : Takes l [ownA (kslice e by_ K) xs [.slice (some ad) xs.length c]] l') (hsrc : ∀ w S1, Tr w0 S0 w S1 l' → (kslice e2 by2 K).ro w (FF w S1) ys [xv]) (h : i + ys.length ≤ xs.length) (hp : 0 < ys.length) :
    Eff P o T w0 S0 l (fun r l2 => r = .int .i64 (ys.length : Int) ∧ l2 = ownA (kslice e by_ K) (xs.take i ++ ys ++ xs.drop (i + ys.length)) [.slice (some ad) xs.length c] :: l') := by
  intro a w ha hw
  obtain ⟨S1, hA1, tr, hkk⟩ := (hw.takes hT).eff
  obtain ⟨css2, g1, g2, g3⟩ := src_flat (hsrc w S1 tr)
  obtain ⟨i0, k1, k2⟩ := Option.map_eq_some_iff.1 hi
  obtain ⟨b, c2, rfl, hcell⟩ : ∃ b c, xv = .slice (some b) ys.length c ∧ ∀ j u, css2.flatten[j]? = some u → w.cell? (b.add j) = some u := by
    rcases g2.from_ with h1 | ⟨_, h1⟩
    · exact h1
    · omega
  rcases (show (kslice e by_ K).own w S1 xs [.slice (some ad) xs.length c] from hA1.head) with ⟨A, hv, rfl⟩ | ⟨g, cc, css, hv, h1, h2, h3, h4, h5⟩
  · simp only [List.length_nil] at h; omega
  have hv' := List.singleton_inj.1 hv
  injection hv' with e1 e2 e3
  obtain rfl := Option.some.inj e1
  subst e3
  obtain ⟨B1, B2, ⟨hg, cur, q1, q2, q3, q4⟩, hseq, i1, i2, dd⟩ := h5
  have hlc := seq_len h4 hseq
  have hfl : css.flatten.length = xs.length * K.sz := by rw [flatten_len hlc, h4]
  have hl2 : css2.flatten.length = ys.length * K.sz := g2.len
  have hone : ∀ u, u ∈ css2.flatten → u.oneCell' = true := fun u hu => by
    obtain ⟨d, hd, hu2⟩ := List.mem_flatten.1 hu
    obtain ⟨j, hj, rfl⟩ := List.mem_iff_getElem.1 hd
    obtain ⟨y, hy⟩ := get_ex (xs := ys) (j := j) (by omega)
    exact K.ro_one (g3 j y _ hy (List.getElem?_eq_getElem hj)) u hu2
  have hmul : (i + ys.length) * K.sz ≤ xs.length * K.sz := Nat.mul_le_mul_right _ h
  rw [Nat.add_mul] at hmul
  have hlA : A' = some ((⟨g, 0, none⟩ : Addr).add (i * K.sz)) := by
    rw [hA, if_neg (by omega)]
  have hcz : xs.length * K.sz ≤ c * K.sz := Nat.mul_le_mul_right _ h1
  have hcur : cur.toList.length = cur.size := Array.length_toList
  have hst := run_storeCells_at P g (i * K.sz) e css2.flatten 0 cur w q1 (by omega) hone
  simp only [Nat.add_zero, hl2] at hst
  have hfc := run_firstCells_some (P := P) w K.sz ys.length b ys.length c2 css2.flatten hl2 hcell
  have hne : ∀ q, q ≠ g → (w.setRow g (cur.toList.take (i * K.sz) ++ css2.flatten ++ cur.toList.drop (i * K.sz + ys.length * K.sz)).toArray).heap[q]? = w.heap[q]? := fun q hq => setRow_other w g q _ hq
  have hn : css2.length = ys.length := g1
  have hcl : (css.take i ++ css2 ++ css.drop (i + ys.length)).length = (xs.take i ++ ys ++ xs.drop (i + ys.length)).length := by
    simp only [List.length_append, List.length_take, List.length_drop]; omega
  have hxl : (xs.take i ++ ys ++ xs.drop (i + ys.length)).length = xs.length := by
    simp only [List.length_append, List.length_take, List.length_drop]; omega
  have hro : ∀ (j : Nat) (y : α) (d : List Value), (xs.take i ++ ys ++ xs.drop (i + ys.length))[j]? = some y → (css.take i ++ css2 ++ css.drop (i + ys.length))[j]? = some d → K.ro w (FF w S1) y d ∨ ∃ F, K.ro w F y d := fun j y d hy hd => by
    have hti : (xs.take i).length = i := by rw [List.length_take]; omega
    have htc : (css.take i).length = i := by rw [List.length_take]; omega
    by_cases hj : j < i
    · rw [List.append_assoc, List.getElem?_append_left (by omega), List.getElem?_take, if_pos hj] at hy hd
      exact .inr ⟨_, K.own_ro (seq_at hseq hy hd)⟩
    · rw [List.append_assoc, List.getElem?_append_right (by omega), hti] at hy
      rw [List.append_assoc, List.getElem?_append_right (by omega), htc] at hd
      by_cases hj2 : j - i < ys.length
      · rw [List.getElem?_append_left hj2] at hy
        rw [List.getElem?_append_left (by omega)] at hd
        exact .inl (g3 _ y d hy hd)
      · rw [List.getElem?_append_right (by omega), List.getElem?_drop] at hy
        rw [List.getElem?_append_right (by omega), List.getElem?_drop, hn] at hd
        exact .inr ⟨_, K.own_ro (seq_at hseq hy hd)⟩
  have hflat : (css.take i ++ css2 ++ css.drop (i + ys.length)).flatten = css.flatten.take (i * K.sz) ++ css2.flatten ++ css.flatten.drop (i * K.sz + ys.length * K.sz) := by
    rw [List.flatten_append, List.flatten_append, flatten_take hlc, flatten_drop hlc, Nat.add_mul]
  have hseq2 : ∀ (w' : World) (S' : Bs), Star (seqA K (xs.take i ++ ys ++ xs.drop (i + ys.length)) (css.take i ++ css2 ++ css.drop (i + ys.length))) w' S' := fun w' S' => by
    have : ∀ {zs : List α} {ds : List (List Value)}, ds.length = zs.length → (∀ (j : Nat) (y : α) (d : List Value), zs[j]? = some y → ds[j]? = some d → K.ro w (FF w S1) y d ∨ ∃ F, K.ro w F y d) → Star (seqA K zs ds) w' S' := by
      intro zs
      induction zs generalizing S' with
      | nil => intro ds hl _; cases ds with
        | nil => trivial
        | cons _ _ => simp at hl
      | cons z zs ih => intro ds hl hz; cases ds with
        | nil => simp at hl
        | cons d ds =>
          refine ⟨fun _ => False, fun _ => False, ?_, ih _ (by simpa using hl) (fun j y c' p1 p2 => hz (j + 1) y c' p1 p2), fun _ h => h.elim, fun _ h => h.elim, fun _ h => h.elim⟩
          rcases hz 0 z d rfl rfl with hh | ⟨F, hh⟩
          · exact hK hh _ _
          · exact hK hh _ _
    exact this hcl hro
  refine ⟨.int .i64 (ys.length : Int), _, _, ?_, ⟨rfl, rfl⟩, hkk _ [ownA (kslice e by_ K) (xs.take i ++ ys ++ xs.drop (i + ys.length)) [.slice (some ⟨g, 0, none⟩) xs.length c]] S1 (Star.one (c := ownA (kslice e by_ K) _ _) (.inr ⟨g, c, css.take i ++ css2 ++ css.drop (i + ys.length), by rw [hxl], by rw [hxl]; exact h1, h2, by rw [hxl]; exact h3, hcl, B1, fun _ => False, ⟨hg, _, setRow_heap w g cur _ e _ q1, ?_, ?_, ?_⟩, hseq2 _ _, i1, fun _ h => h.elim, fun _ _ h => h⟩)) (fun b hb => .inl hb) ⟨rfl, rfl, rfl, by simp, fun b hb hn => hne b (fun e => hn (e ▸ i1 g hg))⟩⟩
  · simp only [execOp, ho, hx a ha, hs a ha]
    have hmin : Nat.min ys.length (xs.length - i) = ys.length := Nat.min_eq_left (by omega)
    have : (Builtin.copy_ #[t, t'] o.type #[.slice A' (xs.length - i) c', .slice (some b) ys.length c2]).run P w = .ok (.int .i64 (ys.length : Int)) (w.setRow g (cur.toList.take (i * K.sz) ++ css2.flatten ++ cur.toList.drop (i * K.sz + ys.length * K.sz)).toArray) := by
      rw [hlA, add_plain']
      simp [Builtin.copy_, run_underlying ht, Builtin.lenOf, sizeOf, typeInfo, k1, k2, hmin, hfc, hst, goInt]
    simp [resolve, hx a ha, hs a ha, invoke, builtin, this]
  · simp only [List.size_toArray, List.length_append, List.length_take, List.length_drop, hl2]; omega
  · rw [hflat]; simp only [List.size_toArray, List.length_append, List.length_take, List.length_drop, hl2, hfl]; omega
  · rw [hflat]
    have hm := mix_take (cur := cur.toList) (fl := css.flatten) (ys := css2.flatten) (a := i * K.sz) q4 (by omega)
    rw [hl2] at hm
    have hlen : (css.flatten.take (i * K.sz) ++ css2.flatten ++ css.flatten.drop (i * K.sz + ys.length * K.sz)).length = css.flatten.length := by
      simp only [List.length_append, List.length_take, List.length_drop, hl2]; omega
    rw [hlen]
    exact hm
end
end Go.Proofs.Ytkmcpcahbfdohaa

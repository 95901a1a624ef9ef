/- What is proved: one element of a slice of one's own, taken out and put back; a part of a slice of one's own, read; a row's cells as a slice of structs. No condition. -/
import Derived.Test.YtbcdcakcmdcafaaGreatRows3
namespace Go.Proofs.YtbcdcakcmdcafaaGreat
open Go Go.RowKit
set_option linter.unusedVariables false
set_option linter.unusedSimpArgs false
theorem seqA_at {α : Type} {K : Kd α} : ∀ {xs : List α} {css : List (List Value)} {j : Nat} {x : α} {c : List Value}, xs[j]? = some x → css[j]? = some c → seqA K xs css = seqA K (xs.take j) (css.take j) ++ ownA K x c :: seqA K (xs.drop (j + 1)) (css.drop (j + 1))
  | [], _, _, _, _, hx, _ => by simp at hx
  | _, [], _, _, _, _, hc => by simp at hc
  | y :: xs, d :: css, 0, x, c, hx, hc => by
    simp at hx hc
    subst hx; subst hc
    rfl
  | y :: xs, d :: css, j + 1, x, c, hx, hc => by
    have ih := seqA_at (K := K) (xs := xs) (css := css) (j := j) (x := x) (c := c) (by simpa using hx) (by simpa using hc)
    rw [seqA_cons, ih]
    rfl
theorem seq_split {α : Type} {K : Kd α} {xs : List α} {css : List (List Value)} {j : Nat} {x : α} {c : List Value} (hx : xs[j]? = some x) (hc : css[j]? = some c) (w : World) (S : Bs) (h : (seqC K xs css).p w S) : Star [ownA K x c, seqC K (xs.take j) (css.take j), seqC K (xs.drop (j + 1)) (css.drop (j + 1))] w S := by
  have h1 : Star (seqA K xs css) w S := h
  rw [seqA_at hx hc] at h1
  obtain ⟨A, B, hA, ⟨B1, B2, h2, h3, i1, i2, d1⟩, i, k, d⟩ := h1.split
  exact ⟨B1, fun b => A b ∨ B2 b, h2, ⟨A, B2, hA, Star.one (c := seqC K _ _) h3, fun _ h => .inl h, fun _ h => .inr h, fun b ha hb => d b ha (i2 b hb)⟩, fun b hb => k b (i1 b hb), fun b hb => hb.elim (i b) (fun h => k b (i2 b h)), fun b hb hb2 => hb2.elim (fun h => d b h (i1 b hb)) (d1 b hb)⟩
theorem seq_join {α : Type} {K : Kd α} {xs : List α} {css : List (List Value)} {j : Nat} {x : α} {c : List Value} (hx : xs[j]? = some x) (hc : css[j]? = some c) (w : World) (S : Bs) (h : Star [ownA K x c, seqC K (xs.take j) (css.take j), seqC K (xs.drop (j + 1)) (css.drop (j + 1))] w S) : (seqC K xs css).p w S := by
  obtain ⟨B1, C, h2, ⟨A, B2, hA, h3, i1, i2, d1⟩, i, k, d⟩ := h
  show Star (seqA K xs css) w S
  rw [seqA_at hx hc]
  have h3' : Star (seqA K (xs.drop (j + 1)) (css.drop (j + 1))) w B2 := Star.head (c := seqC K _ _) h3
  exact Star.app hA ⟨B1, B2, h2, h3', fun _ h => .inl h, fun _ h => .inr h, fun b hb hb2 => d b hb (i2 b hb2)⟩ (S2 := fun b => B1 b ∨ B2 b) (fun b hb => k b (i1 b hb)) (fun b hb => hb.elim (i b) (fun h => k b (i2 b h))) (fun b ha hb => hb.elim (fun h => d b h (i1 b ha)) (d1 b ha))
theorem css_same {css : List (List Value)} {j : Nat} {c : List Value} (h : css[j]? = some c) : css = css.set j c := by
  obtain ⟨hj, rfl⟩ := List.getElem?_eq_some_iff.1 h
  exact (List.set_getElem_self hj).symm
theorem own_unfocus {α : Type} {K : Kd α} {e by_ : Nat} {xs : List α} {css css' : List (List Value)} {j : Nat} {x : α} {c : List Value} {v : Value} (hl : css.length = xs.length) (hj : j < xs.length) (he : css' = css.set j c) (w : World) (S : Bs)
    (h : Star [ownA (kslice e by_ (kraw K.sz K.pos)) css' [v], ownA K x c, seqC K (xs.take j) (css.take j), seqC K (xs.drop (j + 1)) (css.drop (j + 1))] w S) : (ownA (kslice e by_ K) (xs.set j x) [v]).p w S := by
  subst he
  obtain ⟨A, B, hA, hB, i, k, d⟩ := h
  refine raw_own (xs := xs.set j x) (css := css.set j c) (by rw [List.length_set, List.length_set]; exact hl) w S ⟨A, B, hA, Star.one (c := seqC K _ _) (seq_join (j := j) (x := x) (c := c) (by rw [List.getElem?_set_self hj]) (by rw [List.getElem?_set_self (by omega)]) w B ?_), i, k, d⟩
  rw [List.take_set_of_le (Nat.le_refl j), List.take_set_of_le (Nat.le_refl j), List.drop_set_of_lt (Nat.lt_succ_self j), List.drop_set_of_lt (Nat.lt_succ_self j)]
  exact hB
theorem own_unfocus0 {α : Type} {K : Kd α} {e by_ : Nat} {xs : List α} {css : List (List Value)} {j : Nat} {x : α} {c : List Value} {v : Value} (hl : css.length = xs.length) (hx : xs[j]? = some x) (hc : css[j]? = some c) (w : World) (S : Bs)
    (h : Star [ownA (kslice e by_ (kraw K.sz K.pos)) css [v], ownA K x c, seqC K (xs.take j) (css.take j), seqC K (xs.drop (j + 1)) (css.drop (j + 1))] w S) : (ownA (kslice e by_ K) xs [v]).p w S := by
  obtain ⟨A, B, hA, hB, i, k, d⟩ := h
  exact raw_own hl w S ⟨A, B, hA, Star.one (c := seqC K _ _) (seq_join hx hc w B hB), i, k, d⟩
/-- A row of one element's cells, and what it owns. -/
theorem lit1_own {α : Type} {K : Kd α} {e by_ g sz : Nat} {x : α} {cs : List Value} (hsz : K.sz = sz) (hl : cs.length = sz) (hb : by_ ≤ 140737488355328) (w : World) (S : Bs) (h : Star [rowA g e sz 1 cs, ownA K x cs] w S) : (ownA (kslice e by_ K) [x] [.slice (some ⟨g, 0, none⟩) 1 1]).p w S := by
  subst hsz
  obtain ⟨A, B, hA, hB, i, k, d⟩ := h
  exact .inr ⟨g, 1, [cs], rfl, Nat.le_refl _, by omega, by simpa using hb, rfl, A, B, by simpa using hA, ⟨B, fun _ => False, Star.head (c := ownA K x cs) hB, trivial, fun _ h => h, fun _ h => h.elim, fun _ _ h => h⟩, i, k, d⟩
section
variable {P : Program} {T : Slots} {Wd : World → Prop} {o : Oper}
theorem q_field {x : Operand} {s f : Nat} {v u : Value} (ho : o.op = .field s x f) (hx : Val T x v) (hs : ∀ w, (Instr.field s v f).run P w = .ok u w) : Quiet P o T Wd u := fun a w ha _ => by
  simp only [execOp, ho, hx a ha]; simp [hs w]
end
end Go.Proofs.YtbcdcakcmdcafaaGreat

/- What is proved: slices that are read and slices of one's own: index, append, make, an element set. No condition. -/
import Derived.Test.YtbcdcakcmdcafaaGreatMem
namespace Go.Proofs.YtbcdcakcmdcafaaGreat
open Go Go.RowKit
set_option linter.unusedVariables false
set_option linter.unusedSimpArgs false

section
variable {α : Type} {K : Kd α} {e by_ : Nat} {w : World} {S F : Bs} {xs ys : List α} {v : Value}
theorem own_form (h : (kslice e by_ K).own w S xs [v]) : ∃ A c, v = .slice A xs.length c ∧ xs.length ≤ c ∧ c ≤ 9223372036854775807 ∧ xs.length * by_ ≤ 140737488355328 := by
  rcases h with ⟨A, h, rfl⟩ | ⟨g, c, css, h, h1, h2, h3, _⟩
  · exact ⟨A, 0, List.singleton_inj.1 h, Nat.le_refl _, Nat.zero_le _, by simp⟩
  · exact ⟨_, c, List.singleton_inj.1 h, h1, h2, h3⟩
theorem ro_form (h : (kslice e by_ K).ro w F xs [v]) : ∃ A c, v = .slice A xs.length c ∧ xs.length ≤ c ∧ c ≤ 9223372036854775807 ∧ xs.length * by_ ≤ 140737488355328 ∧ (0 < xs.length → ∃ ad, A = some ad ∧ RoAt K w F ad xs) := by
  obtain ⟨A, c, h, h1, h2, h3, h4⟩ := h
  exact ⟨A, c, List.singleton_inj.1 h, h1, h2, h3, h4⟩
/-- An element's cells, and what they say. -/
theorem RoAt.elem {ad : Addr} (h : RoAt K w F ad xs) {j : Nat} {x : α} (hx : xs[j]? = some x) : ∃ ecs, K.ro w F x ecs ∧ F (ad.add (j * K.sz)).block ∧ ∀ i u, ecs[i]? = some u → w.cell? ((ad.add (j * K.sz)).add i) = some u := by
  obtain ⟨ecs, h1, h2⟩ := h.2 j x hx
  exact ⟨ecs, h1, by rw [add_block]; exact h.1, fun i u hu => by rw [add_add]; exact h2 i u hu⟩
theorem get_ex {α : Type} {xs : List α} {j : Nat} (h : j < xs.length) : ∃ x, xs[j]? = some x := ⟨xs[j], List.getElem?_eq_getElem h⟩
theorem own_nil (w : World) (S : Bs) (A : Option Addr) : (kslice e by_ K).own w S [] [.slice A 0 0] := .inl ⟨A, rfl, rfl⟩

theorem seq_app {w : World} {S1 S2 S : Bs} {xs ys : List α} {c1 c2 : List (List Value)} (hl : c1.length = xs.length) (h1 : Star (seqA K xs c1) w S1) (h2 : Star (seqA K ys c2) w S2) (a : ∀ b, S1 b → S b) (b : ∀ b, S2 b → S b) (d : ∀ b, S1 b → ¬ S2 b) : Star (seqA K (xs ++ ys) (c1 ++ c2)) w S := by
  have : seqA K (xs ++ ys) (c1 ++ c2) = seqA K xs c1 ++ seqA K ys c2 := by unfold seqA; rw [List.zipWith_append hl.symm]
  rw [this]
  exact h1.app h2 a b d

/-- The source of an append: m elements, their cells. -/
structure SrcOk (w : World) (xv : Value) (m sz : Nat) (news : List Value) : Prop where
  len : news.length = m * sz
  from_ : (∃ a c, xv = .slice (some a) m c ∧ ∀ j u, news[j]? = some u → w.cell? (a.add j) = some u) ∨ ((∃ c, xv = .slice none 0 c) ∧ m = 0)

theorem append_none {P : Program} {t ty e' : TypeId} {i : TypeInfo} (ht : P.underlying t = some (.slice e')) (hi : P.info? e' = some i) (A : Option Addr) (n c : Nat) (hnc : n ≤ c) (xv : Value) (hx : ∃ A' c', xv = .slice A' 0 c') (w : World) :
    (Builtin.append_ #[t, t] ty #[.slice A n c, xv]).run P w = .ok (.slice A n c) w := by
  obtain ⟨A', c', rfl⟩ := hx
  cases A <;> cases A' <;> simp [Builtin.append_, run_underlying ht, sizeOf, typeInfo, hi, Builtin.lenOf, hnc, Builtin.firstCells, loadCells, loadCellsFrom, storeCells]

theorem own_append {P : Program} {t ty : TypeId} {z : Value} (ht : P.underlying t = some (.slice e)) (hi : (P.info? e).map (fun i => (i.size, i.bytes, i.zero)) = some (K.sz, by_, some z)) (hz : z.cells.size = K.sz)
    {S' : Bs} {xv : Value} {css : List (List Value)} (h : (kslice e by_ K).own w S xs [v]) (hsrc : SrcOk w xv ys.length K.sz css.flatten) (hcl : css.length = ys.length) (hown : Star (seqA K ys css) w S') (hd : ∀ b, S b → ¬ S' b)
    (hb : (xs.length + ys.length) * by_ ≤ 140737488355328) (h63 : xs.length + ys.length ≤ 9223372036854775807) :
    ∃ (v' : Value) (w' : World) (S'' : Bs), (Builtin.append_ #[t, t] ty #[v, xv]).run P w = .ok v' w' ∧ (kslice e by_ K).own w' S'' (xs ++ ys) [v'] ∧ (∀ b, S'' b → S b ∨ S' b ∨ w.heap.size ≤ b) ∧ Fr w S w' := by
  obtain ⟨i0, k1, k2⟩ := Option.map_eq_some_iff.1 hi
  obtain ⟨k2, k3⟩ := Prod.mk.inj k2
  obtain ⟨k3, k4⟩ := Prod.mk.inj k3
  have hone : ∀ u, u ∈ css.flatten → u.oneCell' = true := by
    intro u hu
    obtain ⟨c, hc, hu⟩ := List.mem_flatten.1 hu
    obtain ⟨j, hj, rfl⟩ := List.mem_iff_getElem.1 hc
    obtain ⟨y, hy⟩ := get_ex (xs := ys) (j := j) (by omega)
    exact K.ro_one (K.own_ro (seq_at hown hy (List.getElem?_eq_getElem hj))) u hu
  have hlc := seq_len hcl hown
  have hlen : (xs ++ ys).length = xs.length + ys.length := List.length_append
  by_cases h0 : ys.length = 0
  · -- nothing is appended
    obtain rfl : ys = [] := List.eq_nil_of_length_eq_zero h0
    obtain ⟨A, c, rfl, hle, _, _⟩ := own_form h
    refine ⟨_, w, S, append_none ht k1 A _ _ hle xv ?_ w, by simpa using h, fun b hb => .inl hb, Fr.refl _ _⟩
    rcases hsrc.from_ with ⟨a, c', rfl, _⟩ | ⟨⟨c', rfl⟩, _⟩
    · exact ⟨_, c', rfl⟩
    · exact ⟨_, c', rfl⟩
  obtain ⟨a, c', rfl, hcell⟩ : ∃ a c, xv = .slice (some a) ys.length c ∧ ∀ j u, css.flatten[j]? = some u → w.cell? (a.add j) = some u := by
    rcases hsrc.from_ with h | ⟨_, h⟩
    · exact h
    · exact absurd h h0
  -- a new block
  have grown : ∀ (olds : List (List Value)) (S1 : Bs) (old : Nat), olds.length = xs.length → Star (seqA K xs olds) w S1 → (∀ b, S1 b → S b) → old < xs.length + ys.length →
      (kslice e by_ K).own (w.drew.alloc (.cells (olds.flatten.toArray ++ css.flatten.toArray ++ Builtin.zeroCells z.cells (grownCap w (xs.length + ys.length) old e - (xs.length + ys.length))) e)) (fun b => S1 b ∨ S' b ∨ w.heap.size ≤ b) (xs ++ ys) [.slice (some ⟨w.heap.size, 0, none⟩) (xs.length + ys.length) (grownCap w (xs.length + ys.length) old e)] ∧
      Fr w S (w.drew.alloc (.cells (olds.flatten.toArray ++ css.flatten.toArray ++ Builtin.zeroCells z.cells (grownCap w (xs.length + ys.length) old e - (xs.length + ys.length))) e)) := by
    intro olds S1 old ho hs hsub hlt
    have hge := grownCap_ge w (xs.length + ys.length) old e
    have hcm := grownCap_le_maxLen w (xs.length + ys.length) old e (by unfold maxLen; omega)
    unfold maxLen at hcm
    have hlo := seq_len ho hs
    have hl1 : olds.flatten.length = xs.length * K.sz := by rw [flatten_len hlo, ho]
    have hl2 : css.flatten.length = ys.length * K.sz := hsrc.len
    have hs' := hs.lt
    have hown' := hown.lt
    constructor
    · refine .inr ⟨w.heap.size, _, olds ++ css, ?_, by rw [hlen]; exact hge, by omega, by rw [hlen]; exact hb, by rw [List.length_append, ho, hcl, hlen], ?_⟩
      · rw [hlen]
      · refine ⟨fun b => b = w.heap.size, fun b => (S1 b ∨ S' b) ∧ b < w.heap.size, ⟨rfl, _, heap_alloc_new w.drew _, ?_, ?_, ?_⟩, ?_, fun b hb => .inr (.inr (by omega)), fun b hb => hb.1.elim .inl (fun h => .inr (.inl h)), fun b hb hb' => by have := hb'.2; omega⟩
        · simp only [Array.size_append, List.size_toArray, size_zeroCells, hz, hl1, hl2, ← Nat.add_mul]
          congr 1; omega
        · simp only [Array.size_append, List.size_toArray, List.flatten_append, List.length_append]; omega
        · simp only [Array.toList_append, List.flatten_append]
          exact List.take_left
        · have hold : ∀ b, b < w.heap.size → (w.drew.alloc (.cells (olds.flatten.toArray ++ css.flatten.toArray ++ Builtin.zeroCells z.cells (grownCap w (xs.length + ys.length) old e - (xs.length + ys.length))) e)).heap[b]? = w.heap[b]? := fun b hb => Below.heap_alloc w.drew _ b hb
          exact seq_app ho (hs'.loc (fun b hb => hold b hb.2)) (hown'.loc (fun b hb => hold b hb.2)) (fun b hb => ⟨.inl hb.1, hb.2⟩) (fun b hb => ⟨.inr hb.1, hb.2⟩) (fun b hb hb' => hd b (hsub b hb.1) hb'.1)
    · exact ⟨rfl, rfl, rfl, by simp, fun b hb _ => Below.heap_alloc w.drew _ b hb⟩
  have hz' : i0.zero = some z := k4
  rcases h with ⟨A, h, rfl⟩ | ⟨g, c, css0, h, h1, h2, h3, h4, h5⟩
  · obtain rfl := List.singleton_inj.1 h
    have hgr := grown [] (fun _ => False) 0 rfl trivial (fun _ h => h.elim) (by simp; omega)
    simp only [List.length_nil, Nat.zero_add, List.flatten_nil, List.nil_append] at hgr hb h63 ⊢
    cases A with
    | none =>
      have hr := run_append_nil (P := P) w t ty e i0 z ht k1 hz' a ys.length c' css.flatten (by rw [k2]; exact hsrc.len) hcell (by omega) (by omega) (by rw [k3]; omega)
      refine ⟨_, _, fun b => False ∨ S' b ∨ w.heap.size ≤ b, hr, ?_, fun b hb => hb.elim (fun h => h.elim) .inr, ?_⟩
      · have := hgr.1
        simpa using this
      · have := hgr.2
        simpa using this
    | some b0 =>
      have hr := run_append_grow (P := P) w t ty e i0 z ht k1 hz' b0 0 0 [] (by simp) (by simp) a ys.length c' css.flatten (by rw [k2]; exact hsrc.len) hcell (by omega) (by omega) (growslice_fits (by omega) (by rw [k3, Nat.zero_add]; exact hb))
      simp only [Nat.zero_add] at hr
      refine ⟨_, _, fun b => False ∨ S' b ∨ w.heap.size ≤ b, hr, ?_, fun b hb => hb.elim (fun h => h.elim) .inr, ?_⟩
      · have := hgr.1
        simpa using this
      · have := hgr.2
        simpa using this
  · obtain rfl := List.singleton_inj.1 h
    obtain ⟨S1, S2, ⟨hg, cur, g1, g2, g3, g4⟩, hseq, i1, i2, dd⟩ := h5
    have hlo := seq_len h4 hseq
    have hl1 : css0.flatten.length = xs.length * K.sz := by rw [flatten_len hlo, h4]
    by_cases hroom : xs.length + ys.length ≤ c
    · have hfit : xs.length * i0.size + css.flatten.length ≤ cur.size := by rw [k2, hsrc.len, g2, ← Nat.add_mul]; exact Nat.mul_le_mul_right _ hroom
      have hr := run_append_room (P := P) w t ty e i0 ht k1 g xs.length c cur g1 a ys.length c' css.flatten (by rw [k2]; exact hsrc.len) hcell hone hroom hfit
      rw [k2] at hr hfit
      have htk : cur.toList.take (xs.length * K.sz) = css0.flatten := by rw [← hl1]; exact g4
      rw [htk] at hr
      have hne : ∀ b, b ≠ g → (w.setRow g (css0.flatten ++ css.flatten ++ cur.toList.drop (xs.length * K.sz + css.flatten.length)).toArray).heap[b]? = w.heap[b]? := fun b hb => setRow_other w g b _ hb
      refine ⟨_, _, fun b => S b ∨ S' b, hr, ?_, fun b hb => hb.elim .inl (fun h => .inr (.inl h)), ⟨rfl, rfl, rfl, by simp, fun b hb hn => hne b (fun e => hn (e ▸ i1 g hg))⟩⟩
      refine .inr ⟨g, c, css0 ++ css, by rw [hlen], by rw [hlen]; exact hroom, h2, by rw [hlen]; exact hb, by rw [List.length_append, h4, hcl, hlen], ?_⟩
      refine ⟨fun b => b = g, fun b => S2 b ∨ S' b, ⟨rfl, _, setRow_heap w g cur _ e _ g1, ?_, ?_, ?_⟩, ?_, fun b hb => .inl (hb ▸ i1 g hg), fun b hb => hb.elim (fun h => .inl (i2 b h)) .inr, fun b hb hb' => by subst hb; exact hb'.elim (dd _ hg) (hd _ (i1 _ hg))⟩
      · simp only [List.size_toArray, List.length_append, List.length_drop, Array.length_toList, hl1]; omega
      · simp only [List.size_toArray, List.length_append, List.flatten_append]; omega
      · simp only [List.flatten_append]; exact List.take_left
      · exact seq_app h4 (hseq.loc (fun b hb => hne b (fun e => dd g hg (e ▸ hb)))) (hown.loc (fun b hb => hne b (fun e => hd g (i1 g hg) (e ▸ hb)))) (fun b h => .inl h) (fun b h => .inr h) (fun b hb => hd b (i2 b hb))
    · have hr := run_append_grow (P := P) w t ty e i0 z ht k1 hz' ⟨g, 0, none⟩ xs.length c css0.flatten (by rw [k2]; exact hl1)
        (fun j u hu => by rw [add_plain']; exact row_cell (S := S1) (sz := K.sz) (c := c) ⟨hg, cur, g1, g2, g3, g4⟩ hu) a ys.length c' css.flatten (by rw [k2]; exact hsrc.len) hcell (by omega) (by omega) (growslice_fits (by omega) (by rw [k3]; exact hb))
      have hgr := grown css0 S2 c h4 hseq i2 (by omega)
      exact ⟨_, _, fun b => S2 b ∨ S' b ∨ w.heap.size ≤ b, hr, hgr.1, fun b hb => hb.elim (fun h => .inl (i2 b h)) .inr, hgr.2⟩
end
end Go.Proofs.YtbcdcakcmdcafaaGreat

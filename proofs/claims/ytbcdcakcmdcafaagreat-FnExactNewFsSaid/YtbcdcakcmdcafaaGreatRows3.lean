/- What is proved: rows of one's own taken apart into bare cells and what the elements own, and put together again. No condition. -/
import Derived.Test.YtbcdcakcmdcafaaGreatRows2
namespace Go.Proofs.YtbcdcakcmdcafaaGreat
open Go Go.RowKit
set_option linter.unusedVariables false
set_option linter.unusedSimpArgs false

/-- Bare cells. -/
def kraw (n : Nat) (hn : 0 < n) : Kd (List Value) where
  sz := n
  pos := hn
  ro _ _ x cs := cs = x ∧ x.length = n ∧ ∀ u, u ∈ x → u.oneCell' = true
  own _ _ x cs := cs = x ∧ x.length = n ∧ ∀ u, u ∈ x → u.oneCell' = true
  ro_len h := by rw [h.1]; exact h.2.1
  ro_one h u hu := by rw [h.1] at hu; exact h.2.2 u hu
  ro_up h _ := h
  ro_loc h _ := h
  own_ro h := h
  own_up h _ := h
  own_loc h _ := h
  own_lt h := h
/-- What the elements own. -/
def seqC {α : Type} (K : Kd α) (xs : List α) (css : List (List Value)) : Asn := ⟨Star (seqA K xs css), Star.up, Star.loc, Star.lt⟩
theorem seqC_nil {α : Type} {K : Kd α} (w : World) (S : Bs) : (seqC K [] []).p w S := trivial
theorem seqA_cons {α : Type} (K : Kd α) (x : α) (xs : List α) (c : List Value) (css : List (List Value)) : seqA K (x :: xs) (c :: css) = ownA K x c :: seqA K xs css := rfl
theorem drop_get {α : Type} {xs : List α} {k : Nat} {x : α} (h : xs[k]? = some x) : xs.drop k = x :: xs.drop (k + 1) := by
  obtain ⟨hk, rfl⟩ := List.getElem?_eq_some_iff.1 h
  exact List.drop_eq_getElem_cons hk
theorem take_get {α : Type} {xs : List α} {k : Nat} {x : α} (h : xs[k]? = some x) : xs.take (k + 1) = xs.take k ++ [x] := by
  rw [List.take_add_one, h]; rfl
theorem seq_pop {α : Type} {K : Kd α} {xs : List α} {css : List (List Value)} {k : Nat} {x : α} {c : List Value} (hx : xs[k]? = some x) (hc : css[k]? = some c) (w : World) (S : Bs) (h : (seqC K (xs.drop k) (css.drop k)).p w S) : Star [ownA K x c, seqC K (xs.drop (k + 1)) (css.drop (k + 1))] w S := by
  have h' : Star (seqA K (xs.drop k) (css.drop k)) w S := h
  rw [drop_get hx, drop_get hc, seqA_cons] at h'
  obtain ⟨A, B, h1, h2, a, b, d⟩ := h'
  exact ⟨A, B, h1, Star.one (c := seqC K _ _) h2, a, b, d⟩
theorem seq_snoc {α : Type} {K : Kd α} {xs : List α} {css : List (List Value)} {x : α} {c : List Value} (hl : css.length = xs.length) (w : World) (S : Bs) (h : Star [seqC K xs css, ownA K x c] w S) : (seqC K (xs ++ [x]) (css ++ [c])).p w S := by
  obtain ⟨A, B, h1, h2, a, b, d⟩ := h
  exact seq_app hl h1 (show Star (seqA K [x] [c]) w B from h2) a b d
theorem seq_same {α : Type} {K : Kd α} {xs xs' : List α} {css css' : List (List Value)} (h : xs = xs') (h2 : css = css') (w : World) (S : Bs) (hp : (seqC K xs css).p w S) : (seqC K xs' css').p w S := by subst h; subst h2; exact hp
theorem seq_snoc' {α : Type} {K : Kd α} {xs xs' : List α} {css css' : List (List Value)} {x : α} {c : List Value} (hl : css.length = xs.length) (h1 : xs ++ [x] = xs') (h2 : css ++ [c] = css') (w : World) (S : Bs) (h : Star [seqC K xs css, ownA K x c] w S) : (seqC K xs' css').p w S := by subst h1; subst h2; exact seq_snoc hl w S h
theorem take_set {css : List (List Value)} {k : Nat} {c c' : List Value} (h : css[k]? = some c) : css.take k ++ [c'] = (css.set k c').take (k + 1) := by
  obtain ⟨hk, _⟩ := List.getElem?_eq_some_iff.1 h
  rw [List.take_add_one, List.getElem?_set_self hk, List.take_set_of_le (Nat.le_refl k)]; rfl
theorem drop_set {css : List (List Value)} {k : Nat} {c' : List Value} : css.drop (k + 1) = (css.set k c').drop (k + 1) := by rw [List.drop_set_of_lt (Nat.lt_succ_self k)]
theorem set_get {css : List (List Value)} {k : Nat} {c c' : List Value} (h : css[k]? = some c) : (css.set k c')[k]? = some c' := by
  obtain ⟨hk, _⟩ := List.getElem?_eq_some_iff.1 h
  exact List.getElem?_set_self hk
theorem raw_seq {n : Nat} {hn : 0 < n} : ∀ {css : List (List Value)}, (∀ c, c ∈ css → c.length = n ∧ ∀ u, u ∈ c → u.oneCell' = true) → ∀ (w : World) (S : Bs), Star (seqA (kraw n hn) css css) w S
  | [], _, _, _ => trivial
  | c :: css, h, w, S => ⟨fun _ => False, fun _ => False, ⟨rfl, h c List.mem_cons_self⟩, raw_seq (fun d hd => h d (List.mem_cons_of_mem _ hd)) w _, fun _ h => h.elim, fun _ h => h.elim, fun _ h => h.elim⟩
theorem raw_eq {n : Nat} {hn : 0 < n} : ∀ {xs css : List (List Value)} {w : World} {S : Bs}, css.length = xs.length → Star (seqA (kraw n hn) xs css) w S → css = xs
  | [], [], _, _, _, _ => rfl
  | [], _ :: _, _, _, h, _ => by simp at h
  | _ :: _, [], _, _, h, _ => by simp at h
  | x :: xs, c :: css, w, S, hl, h => by
    have h1 : (kraw n hn).own w S x c := Star.head (c := ownA (kraw n hn) x c) h
    rw [h1.1, raw_eq (by simpa using hl) (Star.drop (c := ownA (kraw n hn) x c) h)]
theorem raw_lens {n : Nat} {hn : 0 < n} {css : List (List Value)} {w : World} {S : Bs} (h : Star (seqA (kraw n hn) css css) w S) : ∀ c, c ∈ css → c.length = n ∧ ∀ u, u ∈ c → u.oneCell' = true := fun c hc => by
  obtain ⟨j, hj, rfl⟩ := List.mem_iff_getElem.1 hc
  exact (seq_at h (List.getElem?_eq_getElem hj) (List.getElem?_eq_getElem hj)).2
theorem seq_ones {α : Type} {K : Kd α} {xs : List α} {css : List (List Value)} {w : World} {S : Bs} (hl : css.length = xs.length) (h : Star (seqA K xs css) w S) : ∀ c, c ∈ css → c.length = K.sz ∧ ∀ u, u ∈ c → u.oneCell' = true := fun c hc => by
  obtain ⟨j, hj, rfl⟩ := List.mem_iff_getElem.1 hc
  obtain ⟨y, hy⟩ := get_ex (xs := xs) (j := j) (by omega)
  have ho := seq_at h hy (List.getElem?_eq_getElem hj)
  exact ⟨own_len ho, K.ro_one (K.own_ro ho)⟩
/-- A slice of one's own, apart. -/
theorem own_raw {α : Type} {K : Kd α} {e by_ : Nat} {xs : List α} {v : Value} (w : World) (S : Bs) (h : Star [ownA (kslice e by_ K) xs [v]] w S) : ∃ css : List (List Value), css.length = xs.length ∧ Star [ownA (kslice e by_ (kraw K.sz K.pos)) css [v], seqC K xs css] w S := by
  rcases (show (kslice e by_ K).own w S xs [v] from h.head (c := ownA _ _ _)) with ⟨A, hv, rfl⟩ | ⟨g, c, css, hv, h1, h2, h3, h4, h5⟩
  · exact ⟨[], rfl, fun _ => False, fun _ => False, .inl ⟨A, hv, rfl⟩, Star.one (c := seqC K _ _) trivial, fun _ h => h.elim, fun _ h => h.elim, fun _ h => h.elim⟩
  · obtain ⟨A, B, hA, hB, a, b, d⟩ := h5
    refine ⟨css, h4, A, B, .inr ⟨g, c, css, by rw [h4]; exact hv, by rw [h4]; exact h1, h2, by rw [h4]; exact h3, rfl, A, fun _ => False, hA, raw_seq (seq_ones h4 hB) w _, fun _ h => h, fun _ h => h.elim, fun _ _ h => h⟩, Star.one (c := seqC K _ _) hB, a, b, d⟩
/-- Put together. -/
theorem raw_own {α : Type} {K : Kd α} {e by_ : Nat} {xs : List α} {css : List (List Value)} {v : Value} (hl : css.length = xs.length) (w : World) (S : Bs) (h : Star [ownA (kslice e by_ (kraw K.sz K.pos)) css [v], seqC K xs css] w S) : (ownA (kslice e by_ K) xs [v]).p w S := by
  obtain ⟨A, B, hA, hB, a, b, d⟩ := h
  have hB' : Star (seqA K xs css) w B := hB.head (c := seqC K xs css)
  rcases (show (kslice e by_ (kraw K.sz K.pos)).own w A css [v] from hA) with ⟨A0, hv, rfl⟩ | ⟨g, c, cs2, hv, h1, h2, h3, h4, h5⟩
  · obtain rfl := List.eq_nil_of_length_eq_zero (show xs.length = 0 from hl.symm)
    exact .inl ⟨A0, hv, rfl⟩
  · obtain ⟨C, D, hC, hD, i, j, dd⟩ := h5
    obtain rfl := raw_eq h4 hD
    exact .inr ⟨g, c, _, by rw [hl] at hv; exact hv, by rw [hl] at h1; exact h1, h2, by rw [hl] at h3; exact h3, hl, C, B, hC, hB', fun x hx => a x (i x hx), b, fun x hx => d x (i x hx)⟩
theorem raw_own' {α : Type} {K : Kd α} {e by_ : Nat} {xs xs' : List α} {css css2 : List (List Value)} {v : Value} (hl : css.length = xs'.length) (h1 : xs = xs') (h2 : css2 = css) (w : World) (S : Bs) (h : Star [ownA (kslice e by_ (kraw K.sz K.pos)) css [v], seqC K xs css2] w S) : (ownA (kslice e by_ K) xs' [v]).p w S := by
  subst h1; subst h2; exact raw_own hl w S h
/-- A part of a slice. -/
def subL {α : Type} (xs : List α) (a b : Nat) : List α := (xs.take b).drop a
theorem subL_len {α : Type} {xs : List α} {a b : Nat} (hb : b ≤ xs.length) : (subL xs a b).length = b - a := by simp [subL, Nat.min_eq_left hb]
theorem subL_get {α : Type} {xs : List α} {a b j : Nat} {x : α} (h : (subL xs a b)[j]? = some x) : xs[a + j]? = some x := by
  unfold subL at h
  rw [List.getElem?_drop, List.getElem?_take] at h
  split at h
  · exact h
  · cases h
theorem subL_erase {α : Type} (xs : List α) (q : Nat) : subL xs 0 q ++ subL xs (q + 1) xs.length = xs.eraseIdx q := by
  rw [List.eraseIdx_eq_take_drop_succ]; simp [subL]
theorem ro_he {α : Type} {K : Kd α} {e by_ : Nat} {w : World} {F : Bs} {xs : List α} {A : Option Addr} {n c : Nat} (h : (kslice e by_ K).ro w F xs [.slice A n c]) : 0 < xs.length → ∃ ad, A = some ad ∧ RoAt K w F ad xs := fun hp => by
  obtain ⟨A', c', hv, _, _, _, h4⟩ := ro_form h
  obtain ⟨ad, ha, hr⟩ := h4 hp
  injection hv with h1 _ _
  exact ⟨ad, h1.trans ha, hr⟩
theorem ro_sub {α : Type} {K : Kd α} {e by_ : Nat} {w : World} {F : Bs} {xs : List α} {A A' : Option Addr} {c a b : Nat} (hA : A' = (if c = a then A else A.map (·.add (a * K.sz)))) (h : (kslice e by_ K).ro w F xs [.slice A xs.length c]) (hab : a ≤ b) (hb : b ≤ xs.length) : (kslice e by_ K).ro w F (subL xs a b) [.slice A' (subL xs a b).length (c - a)] := by
  obtain ⟨A0, c0, hv, h1, h2, h3, h4⟩ := ro_form h
  injection hv with e1 e2 e3
  subst e1; subst e3
  have hl := subL_len (a := a) hb
  refine ⟨A', c - a, rfl, by rw [hl]; omega, by omega, by rw [hl]; have : (b - a) * by_ ≤ xs.length * by_ := Nat.mul_le_mul_right _ (by omega); omega, fun hp => ?_⟩
  rw [hl] at hp
  obtain ⟨ad, rfl, hF, hr⟩ := h4 (by omega)
  rw [if_neg (by omega)] at hA
  refine ⟨ad.add (a * K.sz), hA, by rw [add_block]; exact hF, fun j x hx => ?_⟩
  obtain ⟨ecs, k1, k2⟩ := hr (a + j) x (subL_get hx)
  refine ⟨ecs, k1, fun i u hu => ?_⟩
  rw [add_add, show a * K.sz + (j * K.sz + i) = (a + j) * K.sz + i by rw [Nat.add_mul]; omega]
  exact k2 i u hu
theorem PtrRo.wide {α : Type} {K : Kd α} {w w' : World} {F F' : Bs} {ad : Addr} {x : α} (h : PtrRo K w F ad x) (hw : ∀ b, F b → F' b ∧ w'.heap[b]? = w.heap[b]?) : PtrRo K w' F' ad x := by
  obtain ⟨ecs, h1, h2, h3⟩ := h
  exact ⟨ecs, (hw _ h1).1, K.ro_up (K.ro_loc h2 (fun b hb => (hw b hb).2)) (fun b hb => (hw b hb).1), fun i u hu => (cell_loc (by rw [add_block]; exact (hw _ h1).2)).trans (h3 i u hu)⟩
section
variable {P : Program} {T : Slots} {Wd : World → Prop} {o : Oper} {N : Nat} {w0 : World} {S0 : Bs} {l l' lk : List Asn}
/-- A struct that lies in another. -/
theorem Tr.elsub {α : Type} {K : Kd α} {w : World} {S1 : Bs} {lr : List Asn} {B : Addr} {ecs cs : List Value} {k : Nat} {x : α} (tr : Tr w0 S0 w S1 lr) (hF : FF w0 S0 B.block) (hr : K.ro w0 (FF w0 S0) x cs) (hc : ∀ (i : Nat) (u : Value), ecs[i]? = some u → w0.cell? (B.add i) = some u) (hs : ∀ (i : Nat) (u : Value), cs[i]? = some u → ecs[k + i]? = some u) : PtrRo K w (FF w S1) (B.add k) x :=
  tr.ctxP ⟨cs, by rw [add_block]; exact hF, hr, fun i u hu => by rw [add_add]; exact hc _ _ (hs i u hu)⟩
theorem Tr.ptrsub {α : Type} {K : Kd α} {w : World} {S1 : Bs} {lr : List Asn} {g e sz c k : Nat} {ecs cs : List Value} {x : α} (tr : Tr w0 S0 w S1 lr) (tk : Take lr (rowA g e sz c ecs) l') (hr : K.ro w (FF w S1) x cs) (hs : ∀ (i : Nat) (u : Value), cs[i]? = some u → ecs[k + i]? = some u) : PtrRo K w (FF w S1) ((⟨g, 0, none⟩ : Addr).add k) x := by
  obtain ⟨S2, hst, hsub⟩ := tr.all
  have h := (hst.take tk).head
  refine ⟨cs, by rw [add_block]; exact hsub _ h.1, hr, fun i u hu => ?_⟩
  rw [add_add, add_plain']
  exact row_cell h (hs i u hu)
/-- An element that is a slice: one cell. -/
theorem WS.osl1 {α : Type} {K : Kd α} {e by_ : Nat} {xs : List α} {cs : List Value} (ht : Take l (ownA (kslice e by_ K) xs cs) l') : ∀ w, WS w0 S0 l w → ∃ v, cs = [v] := fun w hw => by
  obtain ⟨S, hs, _, _⟩ := hw.take ht
  exact osl_one (show (kslice e by_ K).own w S xs cs from hs.head)
theorem q_sliceL {α : Type} {xs : List α} {x : Operand} {t e : TypeId} {sz : Nat} {lo hi : Option Operand} {a b c : Nat} {A A' : Option Addr} (ho : o.op = .slice t x lo hi none) (ht : P.underlying t = some (.slice e)) (he : (P.info? e).map (·.size) = some sz) (hx : Val T x (.slice A xs.length c)) (hA : A' = (if c = a then A else A.map (·.add (a * sz))))
    (hlo : (lo = none ∧ a = 0) ∨ ∃ z k, lo = some z ∧ Val T z (.int k (a : Int))) (hhi : (hi = none ∧ b = xs.length) ∨ ∃ z k, hi = some z ∧ Val T z (.int k (b : Int))) (h1 : a ≤ b) (h2 : b ≤ xs.length) (h3 : xs.length ≤ c) :
    Quiet P o T Wd (.slice A' (subL xs a b).length (c - a)) := by
  rw [subL_len h2, hA]
  exact q_slice ho ht he hx hlo hhi h1 (Nat.le_trans h2 h3)
/-- A bare cell. -/
theorem WS.raw {n : Nat} {hn : 0 < n} {e by_ : Nat} {css : List (List Value)} {ad : Addr} {m c j i : Nat} {cs : List Value} {u : Value} (ht : Take l (ownA (kslice e by_ (kraw n hn)) css [.slice (some ad) m c]) l') (hc : css[j]? = some cs) (hu : cs[i]? = some u) : ∀ w, WS w0 S0 l w → w.cell? ((ad.add (j * n)).add i) = some u := fun w hw => by
  obtain ⟨S, hs, _, _⟩ := hw.take ht
  obtain ⟨A', c', h, _, _, _, h4⟩ := ro_form ((kslice e by_ (kraw n hn)).own_ro (show (kslice e by_ (kraw n hn)).own w S css _ from hs.head))
  obtain ⟨ad', ha, hr⟩ := h4 (by have := (List.getElem?_eq_some_iff.1 hc).1; omega)
  injection h with g1 g2 g3
  rw [ha] at g1
  obtain rfl := Option.some.inj g1
  obtain ⟨ecs, ⟨rfl, _⟩, _, hcc⟩ := hr.elem hc
  exact hcc i _ hu
theorem WS.raw0 {n : Nat} {hn : 0 < n} {e by_ : Nat} {css : List (List Value)} {ad : Addr} {m c j : Nat} {cs : List Value} {u : Value} (ht : Take l (ownA (kslice e by_ (kraw n hn)) css [.slice (some ad) m c]) l') (hc : css[j]? = some cs) (hu : cs[0]? = some u) : ∀ w, WS w0 S0 l w → w.cell? (ad.add (j * n)) = some u := fun w hw => by
  have := WS.raw ht hc hu w hw
  rwa [add_add, Nat.add_zero] at this
theorem WS.raws {n : Nat} {hn : 0 < n} {e by_ : Nat} {css : List (List Value)} {ad : Addr} {m c j : Nat} {cs : List Value} (ht : Take l (ownA (kslice e by_ (kraw n hn)) css [.slice (some ad) m c]) l') (hc : css[j]? = some cs) : ∀ w, WS w0 S0 l w → ∀ (i : Nat) (u : Value), cs[i]? = some u → w.cell? ((ad.add (j * n)).add i) = some u := fun w hw i u hu => WS.raw ht hc hu w hw
theorem WS.rawsub {n : Nat} {hn : 0 < n} {e by_ : Nat} {css : List (List Value)} {ad : Addr} {m c j k : Nat} {cs ds : List Value} (ht : Take l (ownA (kslice e by_ (kraw n hn)) css [.slice (some ad) m c]) l') (hc : css[j]? = some cs) (hs : ∀ (i : Nat) (u : Value), ds[i]? = some u → cs[k + i]? = some u) : ∀ w, WS w0 S0 l w → ∀ (i : Nat) (u : Value), ds[i]? = some u → w.cell? (((ad.add (j * n)).add k).add i) = some u := fun w hw i u hu => by
  rw [add_add]; exact WS.raw ht hc (hs i u hu) w hw
/-- The lengths of bare elements. -/
theorem WS.rawlen {n : Nat} {hn : 0 < n} {e by_ : Nat} {css : List (List Value)} {v : Value} {j : Nat} {cs : List Value} (ht : Take l (ownA (kslice e by_ (kraw n hn)) css [v]) l') (hc : css[j]? = some cs) : ∀ w, WS w0 S0 l w → cs.length = n := fun w hw => by
  obtain ⟨S, hs, _, _⟩ := hw.take ht
  have h : (kslice e by_ (kraw n hn)).own w S css [v] := hs.head
  obtain ⟨A', c', rfl, _, _, _, h4⟩ := ro_form ((kslice e by_ (kraw n hn)).own_ro h)
  obtain ⟨ad', ha, hr⟩ := h4 (by have := (List.getElem?_eq_some_iff.1 hc).1; omega)
  obtain ⟨ecs, ⟨rfl, h, _⟩, _⟩ := hr.elem hc
  exact h
theorem putAt_ones {fl cs : List Value} {off : Nat} (h : ∀ u, u ∈ fl → u.oneCell' = true) (h2 : ∀ u, u ∈ cs → u.oneCell' = true) : ∀ u, u ∈ putAt fl off cs → u.oneCell' = true := fun u hu => by
  unfold putAt at hu
  rcases List.mem_append.1 hu with hu | hu
  · rcases List.mem_append.1 hu with hu | hu
    · exact h u (List.mem_of_mem_take hu)
    · exact h2 u hu
  · exact h u (List.mem_of_mem_drop hu)
theorem flatten_put {css : List (List Value)} {n : Nat} {c cs : List Value} {off : Nat} (hl : ∀ c, c ∈ css → c.length = n) (hb : off + cs.length ≤ n) : ∀ {j : Nat}, css[j]? = some c → putAt css.flatten (j * n + off) cs = (css.set j (putAt c off cs)).flatten := by
  induction css with
  | nil => intro j hj; simp at hj
  | cons d css ih =>
    intro j hj
    have hd := hl d List.mem_cons_self
    cases j with
    | zero =>
      simp at hj; subst hj
      simp only [List.set_cons_zero, List.flatten_cons, putAt, Nat.zero_mul, Nat.zero_add]
      rw [List.take_append_of_le_length (by omega), List.drop_append_of_le_length (by omega)]
      simp only [List.append_assoc]
    | succ j =>
      simp only [List.set_cons_succ, List.flatten_cons]
      rw [← ih (fun c hc => hl c (List.mem_cons_of_mem _ hc)) (by simpa using hj)]
      have e1 : (j + 1) * n + off = d.length + (j * n + off) := by rw [Nat.succ_mul, hd]; omega
      have e2 : (d ++ css.flatten).take (d.length + (j * n + off)) = d ++ css.flatten.take (j * n + off) := by
        rw [List.take_append, List.take_of_length_le (by omega), Nat.add_sub_cancel_left]
      have e3 : (d ++ css.flatten).drop (d.length + (j * n + off) + cs.length) = css.flatten.drop (j * n + off + cs.length) := by
        rw [List.drop_append, List.drop_of_length_le (by omega), List.nil_append]
        congr 1; omega
      simp only [putAt, e1, e2, e3, List.append_assoc]
/-- A store into a bare element. -/
theorem es_raw {n : Nat} {hn : 0 < n} {e by_ : Nat} {css : List (List Value)} {c0 cs : List Value} {ad : Addr} {m c j off : Nat} {p x : Operand} {t : TypeId} {v : Value} {B : Addr} (ho : o.op = .store t p x) (hi : (P.info? t).map (·.size) = some cs.length) (hp : Val T p (.pointer (some B))) (hB : B = ad.add (j * n + off)) (hx : Val T x v) (hv : v.cells.toList = cs)
    (h1 : ∀ u, u ∈ cs → u.oneCell' = true) (hT : Take l (ownA (kslice e by_ (kraw n hn)) css [.slice (some ad) m c]) l') (hj : css[j]? = some c0) (hb : off + cs.length ≤ n) : EffS P o T w0 S0 l (ownA (kslice e by_ (kraw n hn)) (css.set j (putAt c0 off cs)) [.slice (some ad) m c] :: l') := by
  intro a w ha hw
  subst hB
  obtain ⟨S1, hA, _, hk⟩ := (hw.takes (.c hT .n)).eff
  have hA' : (kslice e by_ (kraw n hn)).own w S1 css [.slice (some ad) m c] := hA.head (c := ownA _ _ _)
  obtain ⟨i0, k1, k2⟩ := Option.map_eq_some_iff.1 hi
  rcases hA' with ⟨A, h, rfl⟩ | ⟨g, c', css', h, h1', h2, h3, h4, h5⟩
  · simp at hj
  have h' := List.singleton_inj.1 h
  injection h' with g1 g2 g3
  obtain rfl := Option.some.inj g1
  subst g2; subst g3
  obtain ⟨B1, B2, ⟨hg, cur, q1, q2, q3, q4⟩, hseq, i1, i2, dd⟩ := h5
  have he := raw_eq h4 hseq
  rw [he] at hseq q3 q4
  have hraw := raw_lens hseq
  have hlen : ∀ d, d ∈ css → d.length = n := fun d hd => (hraw d hd).1
  have hfl : css.flatten.length = css.length * n := flatten_len hlen
  have hjl := (List.getElem?_eq_some_iff.1 hj).1
  have hc0 := hlen c0 (List.mem_of_getElem? hj)
  have hmul : (j + 1) * n ≤ css.length * n := Nat.mul_le_mul_right _ hjl
  rw [Nat.succ_mul] at hmul
  have hbd : j * n + off + cs.length ≤ css.flatten.length := by rw [hfl]; omega
  have hsz : (kraw n hn).sz = n := rfl
  rw [hsz] at q2
  have hst := run_storeCells_at P g (j * n + off) e cs 0 cur w q1 (by omega) h1
  simp only [Nat.add_zero] at hst
  have hne : ∀ b, b ≠ g → (w.setRow g (cur.toList.take (j * n + off) ++ cs ++ cur.toList.drop (j * n + off + cs.length)).toArray).heap[b]? = w.heap[b]? := fun b hb => setRow_other w g b _ hb
  refine ⟨w.setRow g (cur.toList.take (j * n + off) ++ cs ++ cur.toList.drop (j * n + off + cs.length)).toArray, ?_, hk _ [ownA (kslice e by_ (kraw n hn)) (css.set j (putAt c0 off cs)) [.slice (some ⟨g, 0, none⟩) css.length c]] S1 (Star.one (c := ownA (kslice e by_ (kraw n hn)) _ _) ?_) (fun b hb => .inl hb) ?_⟩
  · have hsz : v.cells.size = i0.size := by rw [k2, ← hv, Array.length_toList]
    simp only [execOp, ho, hp a ha, hx a ha]
    rw [add_plain']
    simp [Instr.storeAt, Instr.sureAddr, storeVar, sizeOf, typeInfo, k1, hsz, hv, hst]
  · refine .inr ⟨g, c, css.set j (putAt c0 off cs), by rw [List.length_set], by rw [List.length_set]; exact h1', h2, by rw [List.length_set]; exact h3, rfl, ?_⟩
    refine ⟨fun b => b = g, fun b => False, ⟨rfl, _, setRow_heap w g cur _ e _ q1, ?_, ?_, ?_⟩, raw_seq (fun d hd => ?_) _ _, fun b hb => hb ▸ i1 g hg, fun b hb => hb.elim, fun b hb hb' => hb'⟩
    · simp only [List.size_toArray, List.length_append, List.length_take, List.length_drop, Array.length_toList, hsz]; omega
    · rw [← flatten_put hlen hb hj, putAt_len hbd]; simp only [List.size_toArray, List.length_append, List.length_take, List.length_drop, Array.length_toList]; omega
    · rw [← flatten_put hlen hb hj, putAt_len hbd]
      have := take_put (L := cur.toList) (cs := cs) (off := j * n + off) (n := css.flatten.length) hbd (by rw [Array.length_toList]; exact q3)
      rw [q4] at this
      exact this
    · rcases List.mem_or_eq_of_mem_set hd with hd | rfl
      · exact hraw d hd
      · exact ⟨by rw [putAt_len (by omega)]; exact hc0, putAt_ones (hraw c0 (List.mem_of_getElem? hj)).2 h1⟩
  · exact ⟨rfl, rfl, rfl, by simp, fun b hb hn' => hne b (fun e => hn' (e ▸ i1 g hg))⟩
/-- Elements that are read, copied bare. -/
theorem e_appendRaw {α : Type} {K : Kd α} {F : Bs} {wF : World} {e by_ e2 by2 : Nat} {ys : List α} {z v xv : Value} {s x : Operand} {t : TypeId} (ho : o.op = .call { callee := .builtin .append, args := #[s, x], argTypes := #[t, t] }) (ht : P.underlying t = some (.slice e))
    (hi : (P.info? e).map (fun i => (i.size, i.bytes, i.zero)) = some (K.sz, by_, some z)) (hz : z.cells.size = K.sz) (hs : Val T s v) (hx : Val T x xv)
    (hT : Takes l [ownA (kslice e by_ (kraw K.sz K.pos)) [] [v]] l') (hF : ∀ b, F b → FF w0 S0 b ∧ w0.heap[b]? = wF.heap[b]?) (hsrc : (kslice e2 by2 K).ro wF F ys [xv]) (hb : ys.length * by_ ≤ 140737488355328) (h63 : ys.length ≤ 9223372036854775807) :
    Eff P o T w0 S0 l (fun r l2 => ∃ css : List (List Value), css.length = ys.length ∧ (∀ (j : Nat) (y : α) (c : List Value), ys[j]? = some y → css[j]? = some c → K.ro wF F y c) ∧ l2 = ownA (kslice e by_ (kraw K.sz K.pos)) css [r] :: l') := by
  intro a w ha hw
  have hfr : ∀ b, F b → w.heap[b]? = wF.heap[b]? := fun b hb => by obtain ⟨_, _, _, hf⟩ := hw; exact (hf.block b (hF b hb).1.1 (hF b hb).1.2).trans (hF b hb).2
  obtain ⟨S1, hA, tr, hk⟩ := (hw.takes hT).eff
  obtain ⟨css, h1, h2, h3⟩ := src_flat ((kslice e2 by2 K).ro_loc hsrc hfr)
  have hro : ∀ (j : Nat) (y : α) (c : List Value), ys[j]? = some y → css[j]? = some c → K.ro wF F y c := fun j y c h k => K.ro_loc (h3 j y c h k) (fun b hb => (hfr b hb).symm)
  have hones : ∀ c, c ∈ css → c.length = K.sz ∧ ∀ u, u ∈ c → u.oneCell' = true := fun c hc => by
    obtain ⟨j, hj, rfl⟩ := List.mem_iff_getElem.1 hc
    obtain ⟨y, hy⟩ := get_ex (xs := ys) (j := j) (by omega)
    have := hro j y _ hy (List.getElem?_eq_getElem hj)
    exact ⟨K.ro_len this, K.ro_one this⟩
  have hseq := raw_seq (n := K.sz) (hn := K.pos) hones w (fun _ => False)
  obtain ⟨v', w', S'', hr, hown, hsub, hfr2⟩ := own_append (P := P) (t := t) (ty := o.type) (K := kraw K.sz K.pos) (xs := []) (ys := css) (css := css) (xv := xv) (S := S1) (S' := fun _ => False) ht hi hz (show (kslice e by_ (kraw K.sz K.pos)).own w S1 [] [v] from hA.head) (by rw [h1]; exact h2) rfl hseq (fun _ _ h => h) (by simp only [List.length_nil, Nat.zero_add, h1]; exact hb) (by simp only [List.length_nil, Nat.zero_add, h1]; exact h63)
  refine ⟨v', w', _, ?_, ⟨css, h1, hro, rfl⟩, hk w' [ownA (kslice e by_ (kraw K.sz K.pos)) css [v']] S'' (Star.one hown) (fun b hb => ?_) hfr2⟩
  · rw [exec_append ho (hs a ha) (hx a ha), hr]; rfl
  · rcases hsub b hb with h | h | h
    · exact .inl h
    · exact h.elim
    · exact .inr h
/-- A literal without elements. -/
theorem e_buildNil {t e : TypeId} {sz : Nat} {z : Value} (ho : o.op = .buildSlice t 0 #[]) (ht : P.underlying t = some (.slice e)) (he : (P.info? e).map (fun i => (i.size, i.zero)) = some (sz, some z)) : Eff P o T w0 S0 l (fun r l' => ∃ g, r = .slice (some ⟨g, 0, none⟩) 0 0 ∧ l' = rowA g e sz 0 [] :: l) := by
  intro a w ha hw
  obtain ⟨i0, h1, h2⟩ := Option.map_eq_some_iff.1 he
  obtain ⟨h2, h3⟩ := Prod.mk.inj h2
  refine ⟨.slice (some ⟨w.heap.size, 0, none⟩) 0 0, w.alloc (.cells #[] e), _, ?_, ⟨_, rfl, rfl⟩, hw.new #[] e sz 0 (by simp)⟩
  simp only [execOp, ho]
  simp [Instr.buildSlice, run_underlying ht, sizeOf, typeInfo, h1, h2, h3, newRow, Instr.fill]
  have h0 : Array.range 0 = #[] := by apply Array.ext <;> simp
  rw [h0, Array.map_empty]
theorem e_buildSliceL {t e : TypeId} {len sz : Nat} {parts : Array (Nat × Operand)} {ps : List (Nat × Value)} {z : Value} {zc cs : List Value} (ho : o.op = .buildSlice t len parts) (ht : P.underlying t = some (.slice e)) (he : (P.info? e).map (fun i => (i.size, i.zero)) = some (sz, some z)) (hlen : len * sz ≤ 16777216)
    (hps : ∀ a : Act, Holds T a → (parts.map fun (i, x) => (i, a.eval x)) = ps.toArray) (hz : z.cells.toList = zc) (hzl : zc.length = sz) (hpos : 0 < sz) (hfill : Instr.fill (fun i => some (i * sz, sz)) (List.replicate len zc).flatten.toArray ps = some cs.toArray) (hcs : cs.length = len * sz) :
    Eff P o T w0 S0 l (fun r l' => ∃ g, r = .slice (some ⟨g, 0, none⟩) len len ∧ l' = rowA g e sz len cs :: l) := by
  subst hz
  refine e_buildSlice ho ht he hlen hps ?_ hcs
  rw [← hfill]
  congr 1
  have hzs : z.cells.size = sz := by rw [← hzl, Array.length_toList]
  by_cases h0 : len * sz = 0
  · have hl : len = 0 := by rcases Nat.mul_eq_zero.1 h0 with h | h <;> omega
    subst hl
    apply Array.ext <;> simp
  · simp only [if_neg h0]
    apply Array.toList_inj.1
    have := madeCells_flat z.cells len (by omega)
    rw [hzs] at this
    rw [← this]
    rfl
/-- A literal's row as a slice of one's own: scalars. -/
theorem lit_own {α : Type} {enc : α → Value} {ok : α → Prop} {h1 : ∀ x, (enc x).oneCell' = true} {e by_ g n : Nat} {xs : List α} {w : World} {S : Bs} (h : Star [rowA g e 1 n (xs.map enc)] w S) (hn : xs.length = n) (hok : ∀ x, x ∈ xs → ok x) (hb : n * by_ ≤ 140737488355328) (h63 : n ≤ 9223372036854775807) : (ownA (kslice e by_ (kscalar enc ok h1)) xs [.slice (some ⟨g, 0, none⟩) n n]).p w S := by
  subst hn
  have hfl : ∀ ys : List α, (ys.map fun x => [enc x]).flatten = ys.map enc := fun ys => by
    induction ys with
    | nil => rfl
    | cons x ys ih => simp only [List.map_cons, List.flatten_cons, ih]; rfl
  refine .inr ⟨g, xs.length, xs.map (fun x => [enc x]), rfl, Nat.le_refl _, h63, hb, by simp, S, fun _ => False, by rw [hfl]; exact h.head (c := rowA g e 1 xs.length (xs.map enc)), ?_, fun _ h => h, fun _ h => h.elim, fun _ _ h => h⟩
  clear hfl hb h63 h
  induction xs with
  | nil => trivial
  | cons x xs ih => exact ⟨fun _ => False, fun _ => False, ⟨rfl, hok x List.mem_cons_self⟩, ih (fun y hy => hok y (List.mem_cons_of_mem _ hy)), fun _ h => h.elim, fun _ h => h.elim, fun _ h => h.elim⟩
theorem nil_of {α : Type} {xs : List α} {A : Option Addr} {p : Addr → Prop} (h : 0 < xs.length → ∃ ad, A = some ad ∧ p ad) (hA : Option.isNone A = true) : ([] : List α) = xs := by
  cases xs with
  | nil => rfl
  | cons x xs => obtain ⟨ad, rfl, _⟩ := h (by simp); cases hA
theorem pre_at {fl cs : List Value} {k : Nat} (hk : cs.length = k) (h : fl.take k = cs) : ∀ (i : Nat) (u : Value), cs[i]? = some u → fl[i]? = some u := fun i u hu => by
  rw [← h, List.getElem?_take] at hu
  split at hu
  · exact hu
  · cases hu
end
end Go.Proofs.YtbcdcakcmdcafaaGreat
